/- Walks, printed by a program: that a call of each function computes what its model says. No condition beside those that each theorem names. -/
import Derived.Test.YtcmckiiafgcmjaaGreatTy
import Derived.Test.YtcmckiiafgcmjaaGreatMo
import Derived.Test.YtcmckiiafgcmjaaGreatZ02
import Derived.Test.YtcmckiiafgcmjaaGreatZ04
namespace Go.Proofs.YtcmckiiafgcmjaaGreat
open Go Go.Li
set_option linter.unusedVariables false
set_option maxHeartbeats 4000000
set_option maxRecDepth 100000
abbrev impl_coverage_follows_close_post (ze:Value) (z8:List Nat) (b_x0_Count:Nat) (w:World) (x:((List (List Bool))×Int)) (e:Ending) (w':World):Prop:=∃ (f0:List Nat),e = .returned (.tuple #[])∧Chg (z8++[b_x0_Count]) w w'∧OE (z8++[b_x0_Count]) w.heap.size w' (sOwn 138 (sOwn 4 sBool)) [ze] x.1 f0∧Row w' b_x0_Count [.int .i64 x.2] 197∧Dis f0 [b_x0_Count]
abbrev impl_coverage_follows_close_T (ze:Value) (z8:List Nat) (b_x0_Count:Nat) (w:World):=Tm Tryz.prog Tryz.f157 158 (impl_coverage_follows_close_post ze z8 b_x0_Count w)
theorem impl_coverage_follows_close_calls {w:World} {x0:MCoverage} {p_x0:Addr} {p_x0_Classifier:Addr} {z1h:Value} {z1t:List Nat} {z1i:Value} {z1u:List Nat} {z1j:Value} {z1v:List Nat} {z1k:Value} {z1w:List Nat} {z1l:Value} {z1x:List Nat} {z1f:Value} {z1y:List Nat} {z1d:Value} {z20:List Nat} {p_x0_C:Addr} {zy:Value} {z17:List Nat} {zt:Value} {z18:List Nat} {z10:Value} {z19:List Nat} {z11:Value} {z1a:List Nat} {ze:Value} {z8:List Nat} {b_x0_Count:Nat} (z1m:(sImm (sInt .i64)).rep w.heap [z1h] x0.Classifier.Sets.Shape.From z1t) (z1n:(sImm (sInt .i64)).rep w.heap [z1i] x0.Classifier.Sets.Shape.To z1u) (z1o:(sImm (sInt .i64)).rep w.heap [z1j] x0.Classifier.Sets.Shape.Identity z1v) (z1p:(sImm (sImm (sInt .i64))).rep w.heap [z1k] x0.Classifier.Sets.Shape.Composites z1w) (z1q:(sImm (sInt .i64)).rep w.heap [z1l] x0.Classifier.Sets.Sizes z1x) (z1g:(sImm (sImm (sInt .i64))).rep w.heap [z1f] x0.Classifier.Sets.Actions z1y) (z1e:(sImm (sImm (sImm (sInt .i64)))).rep w.heap [z1d] x0.Classifier.Sieves z20) (a_x0_Classifier:At w p_x0_Classifier [.int .i64 (x0.Classifier.Sets.Shape.Objects),z1h,z1i,z1j,z1k,z1l,z1f,z1d]) (z16:(sImm (sInt .i64)).rep w.heap [zy] x0.C.From z17) (z12:(sImm (sInt .i64)).rep w.heap [zt] x0.C.To z18) (z1b:(sImm (sInt .i64)).rep w.heap [z10] x0.C.Identity z19) (z1c:(sImm (sImm (sInt .i64))).rep w.heap [z11] x0.C.Composites z1a) (a_x0_C:At w p_x0_C [.int .i64 (x0.C.Objects),zy,zt,z10,z11]) (o_x0_Covers:OE z8 w.heap.size w (sOwn 138 (sOwn 4 sBool)) [ze] x0.Covers z8) (r_x0_Count:Row w b_x0_Count [.int .i64 (x0.Count)] 197) (a_x0:At w p_x0 [.pointer (some (p_x0_Classifier)),.pointer (some (p_x0_C)),ze,.pointer (some (⟨b_x0_Count,0,none⟩))]) (d_0_1:Dis z8 [b_x0_Count]) (n_h_x0_Classifier_Sets_Shape_From:Dis z1t (z8++[b_x0_Count])) (n_h_x0_Classifier_Sets_Shape_To:Dis z1u (z8++[b_x0_Count])) (n_h_x0_Classifier_Sets_Shape_Identity:Dis z1v (z8++[b_x0_Count])) (n_h_x0_Classifier_Sets_Shape_Composites:Dis z1w (z8++[b_x0_Count])) (n_h_x0_Classifier_Sets_Sizes:Dis z1x (z8++[b_x0_Count])) (n_h_x0_Classifier_Sets_Actions:Dis z1y (z8++[b_x0_Count])) (n_h_x0_Classifier_Sieves:Dis z20 (z8++[b_x0_Count])) (n_x0_Classifier:p_x0_Classifier.block ∉ (z8++[b_x0_Count])) (n_h_x0_C_From:Dis z17 (z8++[b_x0_Count])) (n_h_x0_C_To:Dis z18 (z8++[b_x0_Count])) (n_h_x0_C_Identity:Dis z19 (z8++[b_x0_Count])) (n_h_x0_C_Composites:Dis z1a (z8++[b_x0_Count])) (n_x0_C:p_x0_C.block ∉ (z8++[b_x0_Count])) (n_x0:p_x0.block ∉ (z8++[b_x0_Count])) {y:((List (List Bool))×Int)} (hm:impl_coverage_follows_close x0=some y) :
  Calls Tryz.prog 157 #[.pointer (some (p_x0)),.func (.func 124) #[.pointer (some (p_x0))] #[]] w (impl_coverage_follows_close_post ze z8 b_x0_Count w y):=by
 refine Cv (R:=((List (List Bool))×Int)) Tryz.func157 rfl Tryz.ntmps157 rfl hm fun o ho hB=>?_
 clear hm
 have hB:Chg (z8++[b_x0_Count]) w w:=cr _ _
 replace o_x0_Covers:OE (z8++[b_x0_Count]) w.heap.size w (sOwn 138 (sOwn 4 sBool)) [ze] x0.Covers z8:=OE.give o_x0_Covers fun b hb=>by simp [hb]
 refine wq <| wq <| W_region rfl <| Wb (Mp rfl) <| Wb (Nk rfl) <| Wb (F0 fa144_0 rfl) <| Wb (Lb na141 (At.keep a_x0 hB n_x0) rfl rfl) <| ?_
 obtain ⟨y23,q7,ho⟩:=bs ho
 refine WL.call rfl (op_callF Tryz.func123 rfl rfl) (impl_classifier_tops_calls (STy.keep _ z1m hB n_h_x0_Classifier_Sets_Shape_From) (STy.keep _ z1n hB n_h_x0_Classifier_Sets_Shape_To) (STy.keep _ z1o hB n_h_x0_Classifier_Sets_Shape_Identity) (STy.keep _ z1p hB n_h_x0_Classifier_Sets_Shape_Composites) (STy.keep _ z1q hB n_h_x0_Classifier_Sets_Sizes) (STy.keep _ z1g hB n_h_x0_Classifier_Sets_Actions) (STy.keep _ z1e hB n_h_x0_Classifier_Sieves) (At.keep a_x0_Classifier hB n_x0_Classifier) q7) <| ?_
 rintro _ py ⟨v27,q8,rfl,pa,p5⟩
 refine ⟨_,rfl,?_⟩
 have pz:=dl (ofr p5) (sl _ o_x0_Covers.1)
 have qy:=dl (ofr p5) (one_lt (Row.lt r_x0_Count))
 replace p5:=OE.low (G:=(z8++[b_x0_Count])) p5 hB.size
 replace o_x0_Covers:=ko o_x0_Covers pa
 replace r_x0_Count:=kr r_x0_Count pa
 replace hB:=(hB.trans (Chg.nil pa))
 refine Wb (Ln sl22 ((Le.own (Le.refl _) 2).le p5.1) rfl) <| Wb (Mi rfl) <| anz <| Wf (S1:=Int×Int×(List (List Bool))) (fun s r w'=>match s with | (s0_20,s0_b_x0_Count_0,s0_o_x0_Covers)=>∃ (q9:List Nat),Chg (z8++[b_x0_Count]) w w'∧OE (z8++[b_x0_Count]) w.heap.size w' (sOwn 138 (sOwn 4 sBool)) [ze] (s0_o_x0_Covers) q9∧Row w' b_x0_Count [.int .i64 (s0_b_x0_Count_0)] 197∧OE (z8++[b_x0_Count]) w.heap.size w' (sOwn 2 (sInt .i64)) [v27] (y23) q8∧Dis q9 [b_x0_Count]∧Dis q9 q8∧Dis [b_x0_Count] q8∧∃ F,r=updL F [(0,.pointer (some (p_x0))),(1,.func (.func 124) #[.pointer (some (p_x0))] #[]),(18,v27),(19,.int .i64 ((y23.length:Int))),(20,.int .i64 (s0_20))]) (impl_coverage_follows_close_T ze z8 b_x0_Count w) ho ⟨_,hB,o_x0_Covers,r_x0_Count,p5,(d_0_1),((pz).symm),((qy).symm),fe rfl⟩ ?_ ?_
 rintro ⟨s0_20,s0_b_x0_Count_0,s0_o_x0_Covers⟩ _ q0 ⟨q9,hB,o_x0_Covers,r_x0_Count,p5,qz,pp,qa,F,rfl⟩ o ho
 replace ho:impl_coverage_follows_close_L0 x0 y23 s0_20 s0_b_x0_Count_0 s0_o_x0_Covers=some o:=ho
 unfold impl_coverage_follows_close_L0 at ho
 refine wq <| Wq rfl (cr [] q0) <| Qa (Bl rfl rfl) <| fun kx ph=>anz <| wq <| W_cond (b:=decide (s0_20 < (y23.length:Int))) rfl ?_ ?_
 intro jn
 rw [jn] at ho
 refine W_skip <| anz <| wq <| W_block <| wq <| Wq rfl ph <| Qa (Mi rfl) <| ?_
 obtain ⟨e41,hx42e,ho⟩:=bs ho
 have hx42:=idx_some hx42e
 refine Qa (Ix sl22 ((Le.own (Le.refl _) 2).le p5.1) hx42 rfl rfl rfl) <| Qa (Ei na2 ((Le.own (Le.refl _) 2).le p5.1) hx42 rfl) <| Qa (Ai rfl) <| Qa (Ai rfl) <| fun ky nm=>anz <| W_region rfl <| Wb (Mv (.func (.func 124) #[.pointer (some p_x0)] #[]) rfl) <| Wb (Mi rfl) <| Wb (Mi rfl) <| ?_
 have j0:=nm.trans (cr [] ky)
 replace o_x0_Covers:=ko o_x0_Covers j0
 replace r_x0_Count:=kr r_x0_Count j0
 replace p5:=ko p5 j0
 replace hB:=(hB.trans (Chg.nil j0))
 obtain ⟨y46,nn,ho⟩:=bs ho
 refine WL.call rfl (op_callT (fst:=[.pointer (some (p_x0))]) (cap:=[]) rfl Tryz.func124 rfl rfl) (impl_coverage_mark_calls (x0:=(MCoverage.mk x0.Classifier x0.C s0_o_x0_Covers s0_b_x0_Count_0)) (STy.keep _ z1m hB n_h_x0_Classifier_Sets_Shape_From) (STy.keep _ z1n hB n_h_x0_Classifier_Sets_Shape_To) (STy.keep _ z1o hB n_h_x0_Classifier_Sets_Shape_Identity) (STy.keep _ z1p hB n_h_x0_Classifier_Sets_Shape_Composites) (STy.keep _ z1q hB n_h_x0_Classifier_Sets_Sizes) (STy.keep _ z1g hB n_h_x0_Classifier_Sets_Actions) (STy.keep _ z1e hB n_h_x0_Classifier_Sieves) (At.keep a_x0_Classifier hB n_x0_Classifier) (STy.keep _ z16 hB n_h_x0_C_From) (STy.keep _ z12 hB n_h_x0_C_To) (STy.keep _ z1b hB n_h_x0_C_Identity) (STy.keep _ z1c hB n_h_x0_C_Composites) (At.keep a_x0_C hB n_x0_C) (OE.give (B':=ky.heap.size) o_x0_Covers fun _ h=>h) r_x0_Count (At.keep a_x0 hB n_x0) qz (dis_parF z1m n_h_x0_Classifier_Sets_Shape_From (low_app o_x0_Covers.2.2 (fun i hi=>.inl (by simp [List.mem_singleton.1 hi])))) (dis_parF z1n n_h_x0_Classifier_Sets_Shape_To (low_app o_x0_Covers.2.2 (fun i hi=>.inl (by simp [List.mem_singleton.1 hi])))) (dis_parF z1o n_h_x0_Classifier_Sets_Shape_Identity (low_app o_x0_Covers.2.2 (fun i hi=>.inl (by simp [List.mem_singleton.1 hi])))) (dis_parF z1p n_h_x0_Classifier_Sets_Shape_Composites (low_app o_x0_Covers.2.2 (fun i hi=>.inl (by simp [List.mem_singleton.1 hi])))) (dis_parF z1q n_h_x0_Classifier_Sets_Sizes (low_app o_x0_Covers.2.2 (fun i hi=>.inl (by simp [List.mem_singleton.1 hi])))) (dis_parF z1g n_h_x0_Classifier_Sets_Actions (low_app o_x0_Covers.2.2 (fun i hi=>.inl (by simp [List.mem_singleton.1 hi])))) (dis_parF z1e n_h_x0_Classifier_Sieves (low_app o_x0_Covers.2.2 (fun i hi=>.inl (by simp [List.mem_singleton.1 hi])))) (pat_out a_x0_Classifier n_x0_Classifier (low_app o_x0_Covers.2.2 (fun i hi=>.inl (by simp [List.mem_singleton.1 hi])))) (dis_parF z16 n_h_x0_C_From (low_app o_x0_Covers.2.2 (fun i hi=>.inl (by simp [List.mem_singleton.1 hi])))) (dis_parF z12 n_h_x0_C_To (low_app o_x0_Covers.2.2 (fun i hi=>.inl (by simp [List.mem_singleton.1 hi])))) (dis_parF z1b n_h_x0_C_Identity (low_app o_x0_Covers.2.2 (fun i hi=>.inl (by simp [List.mem_singleton.1 hi])))) (dis_parF z1c n_h_x0_C_Composites (low_app o_x0_Covers.2.2 (fun i hi=>.inl (by simp [List.mem_singleton.1 hi])))) (pat_out a_x0_C n_x0_C (low_app o_x0_Covers.2.2 (fun i hi=>.inl (by simp [List.mem_singleton.1 hi])))) (pat_out a_x0 n_x0 (low_app o_x0_Covers.2.2 (fun i hi=>.inl (by simp [List.mem_singleton.1 hi])))) nn) ?_
 rintro _ no ⟨f50,rfl,kz,j1,np,jo⟩
 refine ⟨_,rfl,?_⟩
 have jp:=dis_back j1 (da pp qa) (sl _ p5.1)
 replace j1:=OE.back j1 (low_app o_x0_Covers.2.2 (fun i hi=>.inl (by simp [List.mem_singleton.1 hi]))) hB.size
 replace p5:=okp p5 kz (Dis.symm (da pp qa))
 replace hB:=hB.then kz (low_app o_x0_Covers.2.2 (fun i hi=>.inl (by simp [List.mem_singleton.1 hi])))
 refine inBlk_n <| anz <| Wq rfl (cr [] no) <| Qa (Ba rfl rfl) <| Qa (Mi rfl) <| fun nq pf=>?_
 cases ho
 exact ⟨_,(hB.trans (Chg.nil pf)),(ko j1 pf),(kr np pf),(ko p5 pf),jo,jp,qa,fe rfl⟩
 intro jn
 rw [jn] at ho
 refine W_exit <| andThen_x <| ?_
 cases ho
 exact ⟨rfl,⟨_,(hB.trans (Chg.nil ph)),(ko o_x0_Covers ph),(kr r_x0_Count ph),(ko p5 ph),qz,pp,qa,fe rfl⟩⟩
 rintro ⟨s0_20,s0_b_x0_Count_0,s0_o_x0_Covers⟩ _ nr ⟨q9,hB,o_x0_Covers,r_x0_Count,p5,qz,pp,qa,F,rfl⟩ ho
 dsimp only at ho
 refine anz <| wq <| wq <| Wq rfl (cr [] nr) <| Qa (Mp rfl) <| Qa (Nk rfl) <| Qa (Fp fa144_1 rfl) <| Qa (La na131 (At.keep a_x0 hB n_x0) rfl rfl) <| Qa (Nk rfl) <| Qa (Fp fa32_1 rfl) <| Qa (La na22 (At.keep a_x0_C hB n_x0_C) rfl rfl) <| Qa (Ln sl22 (STy.keep _ z16 hB n_h_x0_C_From) rfl) <| Qa (Mi rfl) <| fun p0t jq=>anz <| Wf (S1:=Int×Int×(List (List Bool))) (fun s r w'=>match s with | (s1_38,s1_b_x0_Count_0,s1_o_x0_Covers)=>∃ (j2:List Nat),Chg (z8++[b_x0_Count]) w w'∧OE (z8++[b_x0_Count]) w.heap.size w' (sOwn 138 (sOwn 4 sBool)) [ze] (s1_o_x0_Covers) j2∧Row w' b_x0_Count [.int .i64 (s1_b_x0_Count_0)] 197∧Dis j2 [b_x0_Count]∧∃ F,r=updL F [(0,.pointer (some (p_x0))),(1,.func (.func 124) #[.pointer (some (p_x0))] #[]),(37,.int .i64 ((x0.C.From.length:Int))),(38,.int .i64 (s1_38))]) (impl_coverage_follows_close_T ze z8 b_x0_Count w) ho ⟨_,(hB.trans (Chg.nil jq)),(ko o_x0_Covers jq),(kr r_x0_Count jq),(qz),fe rfl⟩ ?_ ?_
 rintro ⟨s1_38,s1_b_x0_Count_0,s1_o_x0_Covers⟩ _ ns ⟨j2,hB,o_x0_Covers,r_x0_Count,j3,F,rfl⟩ o ho
 replace ho:impl_coverage_follows_close_L1 x0 s1_38 s1_b_x0_Count_0 s1_o_x0_Covers=some o:=ho
 unfold impl_coverage_follows_close_L1 at ho
 refine wq <| Wq rfl (cr [] ns) <| Qa (Bl rfl rfl) <| fun p0u j4=>anz <| wq <| W_cond (b:=decide (s1_38 < (x0.C.From.length:Int))) rfl ?_ ?_
 intro jr
 rw [jr] at ho
 refine W_skip <| anz <| wq <| W_block <| wq <| Wq rfl j4 <| Qa (Mi rfl) <| Qa (Ai rfl) <| fun p0v p4=>anz <| wq <| ?_
 obtain ⟨e69,hx70e,ho⟩:=bs ho
 have hx70:=idx_some hx70e
 obtain ⟨e71,hx72e,ho⟩:=bs ho
 have hx72:=idx_some hx72e
 obtain ⟨u73,fu74,hu75,js,hs77⟩:=one_get rfl ((Le.own (Le.own (Le.refl _) 4) 138).le o_x0_Covers.1) hx72.1 hx72.2
 obtain ⟨y78,nt,ho⟩:=bs ho
 refine W_any (m:=19) (U:=.replicate 19 []) (S:=[sV (.pointer (some (p_x0))),sV (.pointer (some (p_x0))),sV (.pointer (some (p_x0.add 2))),sV (ze),sV (.pointer (some (p_x0))),sV (.pointer (some (p_x0))),sV (.pointer (some (p_x0.add 1))),sV (.pointer (some (p_x0_C))),sV (.pointer (some (p_x0_C))),sV (.pointer (some (p_x0_C.add 1))),sV (zy),sV (.int .i64 (s1_38)),sV (.pointer (some (elA (zy) 1 (s1_38)))),sV (.int .i64 (e69)),sV (.pointer (some (elA (ze) 1 (e69)))),sV (u73),sO (sOwn 4 sBool) (y78),sV (.int .i64 ((y78.length:Int))),sV (.int .i64 ((0:Int)))]) (Z:=[]) hmix rfl (by decide) (by decide +kernel) (fun _ _ _ h=>np_out h) (by decide) rfl (by decide +kernel) (stable_all (by repeat first | exact stable_nil | refine stable_cons stable_val ?_ | refine stable_cons stable_own ?_)) ?_ ?_
 refine owes_cons ?_ <| owes_cons ?_ <| owes_cons ?_ <| owes_cons ?_ <| owes_cons ?_ <| owes_cons ?_ <| owes_cons ?_ <| owes_cons ?_ <| owes_cons ?_ <| owes_cons ?_ <| owes_cons ?_ <| owes_cons ?_ <| owes_cons ?_ <| owes_cons ?_ <| owes_cons ?_ <| owes_cons ?_ <| owes_cons ?_ <| owes_cons ?_ <| owes_cons ?_ <| owes_nil
 exact Oh rfl rfl rfl [(0,.pointer (some (p_x0)))] p4 rfl rfl fun _=>Mp rfl
 exact Ov rfl rfl rfl [] [(41,.pointer (some (p_x0)))] [0] p4 rfl rfl (by decide +kernel) rfl fun _=>Nk rfl
 exact Ov rfl rfl rfl [] [(42,.pointer (some (p_x0)))] [1] p4 rfl rfl (by decide +kernel) rfl fun _=>Fp fa144_2 rfl
 exact Ov rfl rfl rfl [] [(43,.pointer (some (p_x0.add 2)))] [2] p4 rfl rfl (by decide +kernel) rfl fun _=>La na97 (At.keep a_x0 hB n_x0) rfl rfl
 exact Oh rfl rfl rfl [(0,.pointer (some (p_x0)))] p4 rfl rfl fun _=>Mp rfl
 exact Ov rfl rfl rfl [] [(45,.pointer (some (p_x0)))] [4] p4 rfl rfl (by decide +kernel) rfl fun _=>Nk rfl
 exact Ov rfl rfl rfl [] [(46,.pointer (some (p_x0)))] [5] p4 rfl rfl (by decide +kernel) rfl fun _=>Fp fa144_1 rfl
 exact Ov rfl rfl rfl [] [(47,.pointer (some (p_x0.add 1)))] [6] p4 rfl rfl (by decide +kernel) rfl fun _=>La na131 (At.keep a_x0 hB n_x0) rfl rfl
 exact Ov rfl rfl rfl [] [(48,.pointer (some (p_x0_C)))] [7] p4 rfl rfl (by decide +kernel) rfl fun _=>Nk rfl
 exact Ov rfl rfl rfl [] [(49,.pointer (some (p_x0_C)))] [8] p4 rfl rfl (by decide +kernel) rfl fun _=>Fp fa32_1 rfl
 exact Ov rfl rfl rfl [] [(50,.pointer (some (p_x0_C.add 1)))] [9] p4 rfl rfl (by decide +kernel) rfl fun _=>La na22 (At.keep a_x0_C hB n_x0_C) rfl rfl
 exact Oh rfl rfl rfl [(6,.int .i64 (s1_38))] p4 rfl rfl fun _=>Mi rfl
 exact Ov rfl rfl rfl [] [(51,zy),(52,.int .i64 (s1_38))] [10,11] p4 rfl rfl (by decide +kernel) rfl fun _=>Ix sl22 (STy.keep _ z16 hB n_h_x0_C_From) hx70 rfl rfl rfl
 exact Ov rfl rfl rfl [] [(53,.pointer (some (elA (zy) 1 (s1_38))))] [12] p4 rfl rfl (by decide +kernel) rfl fun _=>Ei na2 (STy.keep _ z16 hB n_h_x0_C_From) hx70 rfl
 exact Ov rfl rfl rfl [] [(44,ze),(54,.int .i64 (e69))] [3,13] p4 rfl rfl (by decide +kernel) rfl fun _=>Ix sl97 ((Le.own (Le.own (Le.refl _) 4) 138).le o_x0_Covers.1) hx72 rfl rfl rfl
 exact Ov rfl rfl rfl [] [(55,.pointer (some (elA (ze) 1 (e69))))] [14] p4 rfl rfl (by decide +kernel) rfl fun _=>Ld na138 hu75 rfl
 refine Owes.mem rfl rfl rfl <| fun g r wr hCr H hot=>?_
 have hC:=p4.trans hCr
 obtain ⟨F,rfl⟩:=fr (r:=r) (l:=[(56,u73)]) ⟨(H 15 (by decide +kernel) 56 rfl),trivial⟩
 exact OpW.own (op_callF Tryz.func210 rfl rfl) (slices_Clone___bool_bool__calls (kp _ js hC) nt)
 refine Owes.val rfl rfl rfl <| fun g r wr hCr H hot=>?_
 have hC:=p4.trans hCr
 have p6:OwnV (sOwn 4 sBool) (y78) _ _ _:=H 16 (by decide +kernel) 57 rfl
 generalize hvv80:r 57=v80 at p6
 obtain ⟨F,rfl⟩:=fr (r:=r) (l:=[(57,v80)]) ⟨hvv80,trivial⟩
 exact (Ln sl138 ((Le.own (Le.refl _) 4).le p6.1) rfl) _ (cr _ _)
 exact Oh rfl rfl rfl [] p4 rfl rfl fun _=>Mi rfl
 rintro g r nu ⟨nv,hdone,hot,hfresh,hdis⟩
 have p6:OwnV (sOwn 4 sBool) (y78) _ _ _:=hdone 16 (by decide) (by decide) 57 rfl
 generalize hvv80:r 57=v80 at p6
 have hfo82:=hfresh 16 (by decide)
 have hdd:=hdis
 obtain ⟨F,rfl⟩:=fw hdone hot [(0,.pointer (some (p_x0))),(1,.func (.func 124) #[.pointer (some (p_x0))] #[]),(6,.int .i64 (s1_38)),(37,.int .i64 ((x0.C.From.length:Int))),(38,.int .i64 (s1_38))] [(58,.int .i64 ((y78.length:Int))),(59,.int .i64 ((0:Int)))] [17,18] rfl rfl rfl rfl (z:=[(57,v80)]) ⟨hvv80,trivial⟩
 obtain ⟨j5,hgf81⟩ : ∃ k,k=g 16:=⟨_,rfl⟩
 rw [← hgf81] at p6 hfo82
 replace p6:OE (z8++[b_x0_Count]) w.heap.size nu (sOwn 4 sBool) [v80] (y78) j5:=⟨p6.1,p6.2,fun b hb=>.inr (Nat.le_trans (hB.trans (Chg.nil p4)).size (hfo82 b hb).1)⟩
 have nw:=dl (fun b hb=>(hfo82 b hb).1) (sl _ (kp _ o_x0_Covers.1 p4))
 have nx:=dl (fun b hb=>(hfo82 b hb).1) (one_lt (Row.lt (kr r_x0_Count p4)))
 have qb:=(p4.trans nv)
 replace o_x0_Covers:=ko o_x0_Covers qb
 replace r_x0_Count:=kr r_x0_Count qb
 replace hu75:=qb.cell0 hu75
 replace js:=kp _ js qb
 replace hB:=(hB.trans (Chg.nil qb))
 refine anz <| Wf (S1:=Int×Int×(List (List Bool))) (fun s r w'=>match s with | (s2_59,s2_b_x0_Count_0,s2_o_x0_Covers)=>∃ (qc:List Nat),Chg (z8++[b_x0_Count]) w w'∧OE (z8++[b_x0_Count]) w.heap.size w' (sOwn 138 (sOwn 4 sBool)) [ze] (s2_o_x0_Covers) qc∧Row w' b_x0_Count [.int .i64 (s2_b_x0_Count_0)] 197∧OE (z8++[b_x0_Count]) w.heap.size w' (sOwn 4 sBool) [v80] (y78) j5∧Dis qc [b_x0_Count]∧Dis qc j5∧Dis [b_x0_Count] j5∧∃ F,r=updL F [(0,.pointer (some (p_x0))),(1,.func (.func 124) #[.pointer (some (p_x0))] #[]),(6,.int .i64 (s1_38)),(37,.int .i64 ((x0.C.From.length:Int))),(38,.int .i64 (s1_38)),(57,v80),(58,.int .i64 ((y78.length:Int))),(59,.int .i64 (s2_59))]) (impl_coverage_follows_close_T ze z8 b_x0_Count w) ho ⟨_,hB,o_x0_Covers,r_x0_Count,p6,(j3),((nw).symm),((nx).symm),fe rfl⟩ ?_ ?_
 rintro ⟨s2_59,s2_b_x0_Count_0,s2_o_x0_Covers⟩ _ ny ⟨qc,hB,o_x0_Covers,r_x0_Count,p6,qd,qe,q1,F,rfl⟩ o ho
 replace ho:impl_coverage_follows_close_L2 x0 s1_38 y78 s2_59 s2_b_x0_Count_0 s2_o_x0_Covers=some o:=ho
 unfold impl_coverage_follows_close_L2 at ho
 refine wq <| Wq rfl (cr [] ny) <| Qa (Bl rfl rfl) <| fun p0w qf=>anz <| wq <| W_cond (b:=decide (s2_59 < (y78.length:Int))) rfl ?_ ?_
 intro jt
 rw [jt] at ho
 refine W_skip <| anz <| wq <| W_block <| wq <| Wq rfl qf <| Qa (Mi rfl) <| ?_
 obtain ⟨e96,hx97e,ho⟩:=bs ho
 have hx97:=idx_some hx97e
 refine Qa (Ix sl138 ((Le.own (Le.refl _) 4).le p6.1) hx97 rfl rfl rfl) <| Qa (Eb na4 ((Le.own (Le.refl _) 4).le p6.1) hx97 rfl) <| Qa (Ai rfl) <| Qa (Ab rfl) <| fun p0x nz=>anz <| wq <| Wq rfl nz <| Qa (Mb rfl) <| fun p0y p0=>anz <| W_cond (b:=e96) rfl ?_ ?_
 intro ju
 rw [ju] at ho
 obtain ⟨e103,hx104e,ho⟩:=bs ho
 have hx104:=idx_some hx104e
 have at105:At w (p_x0_Classifier.add 0) [.int .i64 (x0.Classifier.Sets.Shape.Objects),z1h,z1i,z1j,z1k,z1l,z1f]:=At.sub a_x0_Classifier 0 7
 have hn106:(p_x0_Classifier.add 0).block ∉ (z8++[b_x0_Count]):=by rw [add_block]; exact n_x0_Classifier
 obtain ⟨e107,hx108e,ho⟩:=bs ho
 have hx108:=idx_some hx108e
 obtain ⟨u109,fu110,hu111,n0,hs113⟩:=one_getP rfl z1g hB n_h_x0_Classifier_Sets_Actions hx108.1 hx108.2
 have n_hr112:Dis fu110 (z8++[b_x0_Count]):=fun b hb=>n_h_x0_Classifier_Sets_Actions b (hs113 b hb)
 obtain ⟨e114,hx115e,ho⟩:=bs ho
 have hx115:=idx_some hx115e
 refine W_any (m:=25) (U:=.replicate 25 []) (S:=[sV (.func (.func 124) #[.pointer (some (p_x0))] #[]),sV (.pointer (some (p_x0))),sV (.pointer (some (p_x0))),sV (.pointer (some (p_x0.add 1))),sV (.pointer (some (p_x0_C))),sV (.pointer (some (p_x0_C))),sV (.pointer (some (p_x0_C.add 2))),sV (zt),sV (.int .i64 (s1_38)),sV (.pointer (some (elA (zt) 1 (s1_38)))),sV (.int .i64 (e103)),sV (.pointer (some (p_x0))),sV (.pointer (some (p_x0))),sV (.pointer (some (p_x0))),sV (.pointer (some (p_x0_Classifier))),sV (.pointer (some (p_x0_Classifier))),sV (.pointer (some ((p_x0_Classifier.add 0)))),sV (.pointer (some ((p_x0_Classifier.add 0).add 6))),sV (z1f),sV (.int .i64 (s1_38)),sV (.pointer (some (elA (z1f) 1 (s1_38)))),sV (u109),sV (.int .i64 (s2_59)),sV (.pointer (some (elA (u109) 1 (s2_59)))),sV (.int .i64 (e114))]) (Z:=[]) hmix rfl (by decide) (by decide +kernel) (fun _ _ _ h=>np_out h) (by decide) rfl (by decide +kernel) (stable_all (by repeat first | exact stable_nil | refine stable_cons stable_val ?_ | refine stable_cons stable_own ?_)) ?_ ?_
 refine owes_cons ?_ <| owes_cons ?_ <| owes_cons ?_ <| owes_cons ?_ <| owes_cons ?_ <| owes_cons ?_ <| owes_cons ?_ <| owes_cons ?_ <| owes_cons ?_ <| owes_cons ?_ <| owes_cons ?_ <| owes_cons ?_ <| owes_cons ?_ <| owes_cons ?_ <| owes_cons ?_ <| owes_cons ?_ <| owes_cons ?_ <| owes_cons ?_ <| owes_cons ?_ <| owes_cons ?_ <| owes_cons ?_ <| owes_cons ?_ <| owes_cons ?_ <| owes_cons ?_ <| owes_cons ?_ <| owes_nil
 exact Oh rfl rfl rfl [(1,.func (.func 124) #[.pointer (some (p_x0))] #[])] p0 rfl rfl fun _=>Mv (.func (.func 124) #[.pointer (some (p_x0))] #[]) rfl
 exact Oh rfl rfl rfl [(0,.pointer (some (p_x0)))] p0 rfl rfl fun _=>Mp rfl
 exact Ov rfl rfl rfl [] [(66,.pointer (some (p_x0)))] [1] p0 rfl rfl (by decide +kernel) rfl fun _=>Nk rfl
 exact Ov rfl rfl rfl [] [(67,.pointer (some (p_x0)))] [2] p0 rfl rfl (by decide +kernel) rfl fun _=>Fp fa144_1 rfl
 exact Ov rfl rfl rfl [] [(68,.pointer (some (p_x0.add 1)))] [3] p0 rfl rfl (by decide +kernel) rfl fun _=>La na131 (At.keep a_x0 hB n_x0) rfl rfl
 exact Ov rfl rfl rfl [] [(69,.pointer (some (p_x0_C)))] [4] p0 rfl rfl (by decide +kernel) rfl fun _=>Nk rfl
 exact Ov rfl rfl rfl [] [(70,.pointer (some (p_x0_C)))] [5] p0 rfl rfl (by decide +kernel) rfl fun _=>Fp fa32_2 rfl
 exact Ov rfl rfl rfl [] [(71,.pointer (some (p_x0_C.add 2)))] [6] p0 rfl rfl (by decide +kernel) rfl fun _=>La na22 (At.keep a_x0_C hB n_x0_C) rfl rfl
 exact Oh rfl rfl rfl [(6,.int .i64 (s1_38))] p0 rfl rfl fun _=>Mi rfl
 exact Ov rfl rfl rfl [] [(72,zt),(73,.int .i64 (s1_38))] [7,8] p0 rfl rfl (by decide +kernel) rfl fun _=>Ix sl22 (STy.keep _ z12 hB n_h_x0_C_To) hx104 rfl rfl rfl
 exact Ov rfl rfl rfl [] [(74,.pointer (some (elA (zt) 1 (s1_38))))] [9] p0 rfl rfl (by decide +kernel) rfl fun _=>Ei na2 (STy.keep _ z12 hB n_h_x0_C_To) hx104 rfl
 exact Oh rfl rfl rfl [(0,.pointer (some (p_x0)))] p0 rfl rfl fun _=>Mp rfl
 exact Ov rfl rfl rfl [] [(76,.pointer (some (p_x0)))] [11] p0 rfl rfl (by decide +kernel) rfl fun _=>Nk rfl
 exact Ov rfl rfl rfl [] [(77,.pointer (some (p_x0)))] [12] p0 rfl rfl (by decide +kernel) rfl fun _=>F0 fa144_0 rfl
 exact Ov rfl rfl rfl [] [(78,.pointer (some (p_x0)))] [13] p0 rfl rfl (by decide +kernel) rfl fun _=>Lb na141 (At.keep a_x0 hB n_x0) rfl rfl
 exact Ov rfl rfl rfl [] [(79,.pointer (some (p_x0_Classifier)))] [14] p0 rfl rfl (by decide +kernel) rfl fun _=>Nk rfl
 exact Ov rfl rfl rfl [] [(80,.pointer (some (p_x0_Classifier)))] [15] p0 rfl rfl (by decide +kernel) rfl fun _=>Fp fa151_0 rfl
 exact Ov rfl rfl rfl [] [(81,.pointer (some ((p_x0_Classifier.add 0))))] [16] p0 rfl rfl (by decide +kernel) rfl fun _=>Fp fa66_2 rfl
 exact Ov rfl rfl rfl [] [(82,.pointer (some ((p_x0_Classifier.add 0).add 6)))] [17] p0 rfl rfl (by decide +kernel) rfl fun _=>La na23 (At.keep at105 hB hn106) rfl rfl
 exact Oh rfl rfl rfl [(6,.int .i64 (s1_38))] p0 rfl rfl fun _=>Mi rfl
 exact Ov rfl rfl rfl [] [(83,z1f),(84,.int .i64 (s1_38))] [18,19] p0 rfl rfl (by decide +kernel) rfl fun _=>Ix sl23 (STy.keep _ z1g hB n_h_x0_Classifier_Sets_Actions) hx108 rfl rfl rfl
 exact Ov rfl rfl rfl [] [(85,.pointer (some (elA (z1f) 1 (s1_38))))] [20] p0 rfl rfl (by decide +kernel) rfl fun _=>Ld na22 hu111 rfl
 exact Oh rfl rfl rfl [(7,.int .i64 (s2_59))] p0 rfl rfl fun _=>Mi rfl
 exact Ov rfl rfl rfl [] [(86,u109),(87,.int .i64 (s2_59))] [21,22] p0 rfl rfl (by decide +kernel) rfl fun _=>Ix sl22 (STy.keep _ n0 hB n_hr112) hx115 rfl rfl rfl
 exact Ov rfl rfl rfl [] [(88,.pointer (some (elA (u109) 1 (s2_59))))] [23] p0 rfl rfl (by decide +kernel) rfl fun _=>Ei na2 (STy.keep _ n0 hB n_hr112) hx115 rfl
 rintro g r g0 ⟨g1,hdone,hot,hfresh,hdis⟩
 have hdd:=hdis
 obtain ⟨F,rfl⟩:=fw hdone hot [(0,.pointer (some (p_x0))),(1,.func (.func 124) #[.pointer (some (p_x0))] #[]),(6,.int .i64 (s1_38)),(37,.int .i64 ((x0.C.From.length:Int))),(38,.int .i64 (s1_38)),(57,v80),(58,.int .i64 ((y78.length:Int))),(59,.int .i64 (s2_59))] [(65,.func (.func 124) #[.pointer (some (p_x0))] #[]),(75,.int .i64 (e103)),(89,.int .i64 (e114))] [0,10,24] rfl rfl rfl rfl (z:=[]) trivial
 have j6:=(p0.trans g1)
 replace o_x0_Covers:=ko o_x0_Covers j6
 replace r_x0_Count:=kr r_x0_Count j6
 replace p6:=ko p6 j6
 replace hB:=(hB.trans (Chg.nil j6))
 obtain ⟨y119,g2,ho⟩:=bs ho
 refine WL.call rfl (op_callT (fst:=[.pointer (some (p_x0))]) (cap:=[]) rfl Tryz.func124 rfl rfl) (impl_coverage_mark_calls (x0:=(MCoverage.mk x0.Classifier x0.C s2_o_x0_Covers s2_b_x0_Count_0)) (STy.keep _ z1m hB n_h_x0_Classifier_Sets_Shape_From) (STy.keep _ z1n hB n_h_x0_Classifier_Sets_Shape_To) (STy.keep _ z1o hB n_h_x0_Classifier_Sets_Shape_Identity) (STy.keep _ z1p hB n_h_x0_Classifier_Sets_Shape_Composites) (STy.keep _ z1q hB n_h_x0_Classifier_Sets_Sizes) (STy.keep _ z1g hB n_h_x0_Classifier_Sets_Actions) (STy.keep _ z1e hB n_h_x0_Classifier_Sieves) (At.keep a_x0_Classifier hB n_x0_Classifier) (STy.keep _ z16 hB n_h_x0_C_From) (STy.keep _ z12 hB n_h_x0_C_To) (STy.keep _ z1b hB n_h_x0_C_Identity) (STy.keep _ z1c hB n_h_x0_C_Composites) (At.keep a_x0_C hB n_x0_C) (OE.give (B':=g0.heap.size) o_x0_Covers fun _ h=>h) r_x0_Count (At.keep a_x0 hB n_x0) qd (dis_parF z1m n_h_x0_Classifier_Sets_Shape_From (low_app o_x0_Covers.2.2 (fun i hi=>.inl (by simp [List.mem_singleton.1 hi])))) (dis_parF z1n n_h_x0_Classifier_Sets_Shape_To (low_app o_x0_Covers.2.2 (fun i hi=>.inl (by simp [List.mem_singleton.1 hi])))) (dis_parF z1o n_h_x0_Classifier_Sets_Shape_Identity (low_app o_x0_Covers.2.2 (fun i hi=>.inl (by simp [List.mem_singleton.1 hi])))) (dis_parF z1p n_h_x0_Classifier_Sets_Shape_Composites (low_app o_x0_Covers.2.2 (fun i hi=>.inl (by simp [List.mem_singleton.1 hi])))) (dis_parF z1q n_h_x0_Classifier_Sets_Sizes (low_app o_x0_Covers.2.2 (fun i hi=>.inl (by simp [List.mem_singleton.1 hi])))) (dis_parF z1g n_h_x0_Classifier_Sets_Actions (low_app o_x0_Covers.2.2 (fun i hi=>.inl (by simp [List.mem_singleton.1 hi])))) (dis_parF z1e n_h_x0_Classifier_Sieves (low_app o_x0_Covers.2.2 (fun i hi=>.inl (by simp [List.mem_singleton.1 hi])))) (pat_out a_x0_Classifier n_x0_Classifier (low_app o_x0_Covers.2.2 (fun i hi=>.inl (by simp [List.mem_singleton.1 hi])))) (dis_parF z16 n_h_x0_C_From (low_app o_x0_Covers.2.2 (fun i hi=>.inl (by simp [List.mem_singleton.1 hi])))) (dis_parF z12 n_h_x0_C_To (low_app o_x0_Covers.2.2 (fun i hi=>.inl (by simp [List.mem_singleton.1 hi])))) (dis_parF z1b n_h_x0_C_Identity (low_app o_x0_Covers.2.2 (fun i hi=>.inl (by simp [List.mem_singleton.1 hi])))) (dis_parF z1c n_h_x0_C_Composites (low_app o_x0_Covers.2.2 (fun i hi=>.inl (by simp [List.mem_singleton.1 hi])))) (pat_out a_x0_C n_x0_C (low_app o_x0_Covers.2.2 (fun i hi=>.inl (by simp [List.mem_singleton.1 hi])))) (pat_out a_x0 n_x0 (low_app o_x0_Covers.2.2 (fun i hi=>.inl (by simp [List.mem_singleton.1 hi])))) g2) ?_
 rintro _ g3 ⟨p0z,rfl,n1,j7,g4,g5⟩
 refine ⟨_,rfl,?_⟩
 have g6:=dis_back j7 (da qe q1) (sl _ p6.1)
 replace j7:=OE.back j7 (low_app o_x0_Covers.2.2 (fun i hi=>.inl (by simp [List.mem_singleton.1 hi]))) hB.size
 replace p6:=okp p6 n1 (Dis.symm (da qe q1))
 replace hB:=hB.then n1 (low_app o_x0_Covers.2.2 (fun i hi=>.inl (by simp [List.mem_singleton.1 hi])))
 refine inBlk_n <| anz <| Wq rfl (cr [] g3) <| Qa (Ba rfl rfl) <| Qa (Mi rfl) <| fun p10 j8=>?_
 cases ho
 exact ⟨_,(hB.trans (Chg.nil j8)),(ko j7 j8),(kr g4 j8),(ko p6 j8),g5,g6,q1,fe rfl⟩
 intro ju
 rw [ju] at ho
 refine W_skip <| inBlk_n <| anz <| Wq rfl p0 <| Qa (Ba rfl rfl) <| Qa (Mi rfl) <| fun p11 j9=>?_
 cases ho
 exact ⟨_,(hB.trans (Chg.nil j9)),(ko o_x0_Covers j9),(kr r_x0_Count j9),(ko p6 j9),qd,qe,q1,fe rfl⟩
 intro jt
 rw [jt] at ho
 refine W_exit <| andThen_x <| ?_
 cases ho
 exact ⟨rfl,⟨_,(hB.trans (Chg.nil qf)),(ko o_x0_Covers qf),(kr r_x0_Count qf),(ko p6 qf),qd,qe,q1,fe rfl⟩⟩
 rintro ⟨s2_59,s2_b_x0_Count_0,s2_o_x0_Covers⟩ _ g7 ⟨qc,hB,o_x0_Covers,r_x0_Count,p6,qd,qe,q1,F,rfl⟩ ho
 dsimp only at ho
 refine inBlk_n <| anz <| Wq rfl (cr [] g7) <| Qa (Ba rfl rfl) <| Qa (Mi rfl) <| fun p12 jv=>?_
 cases ho
 exact ⟨_,(hB.trans (Chg.nil jv)),(ko o_x0_Covers jv),(kr r_x0_Count jv),qd,fe rfl⟩
 intro jr
 rw [jr] at ho
 refine W_exit <| andThen_x <| ?_
 cases ho
 exact ⟨rfl,⟨_,(hB.trans (Chg.nil j4)),(ko o_x0_Covers j4),(kr r_x0_Count j4),j3,fe rfl⟩⟩
 rintro ⟨s1_38,s1_b_x0_Count_0,s1_o_x0_Covers⟩ _ g8 ⟨j2,hB,o_x0_Covers,r_x0_Count,j3,F,rfl⟩ ho
 dsimp only at ho
 refine anz <| wq <| Wq rfl (cr [] g8) <| Qa (Mp rfl) <| Qa (Nk rfl) <| Qa (F0 fa144_0 rfl) <| Qa (Lb na141 (At.keep a_x0 hB n_x0) rfl rfl) <| Qa (Nk rfl) <| Qa (Fp fa151_1 rfl) <| Qa (La na149 (At.keep a_x0_Classifier hB n_x0_Classifier) rfl rfl) <| Qa (Ln sl149 (STy.keep _ z1e hB n_h_x0_Classifier_Sieves) rfl) <| Qa (Mi rfl) <| fun p13 jw=>anz <| Wf (S1:=Int×Int×(List (List Bool))) (fun s r w'=>match s with | (s3_101,s3_b_x0_Count_0,s3_o_x0_Covers)=>∃ (ja:List Nat),Chg (z8++[b_x0_Count]) w w'∧OE (z8++[b_x0_Count]) w.heap.size w' (sOwn 138 (sOwn 4 sBool)) [ze] (s3_o_x0_Covers) ja∧Row w' b_x0_Count [.int .i64 (s3_b_x0_Count_0)] 197∧Dis ja [b_x0_Count]∧∃ F,r=updL F [(0,.pointer (some (p_x0))),(1,.func (.func 124) #[.pointer (some (p_x0))] #[]),(99,z1d),(100,.int .i64 ((x0.Classifier.Sieves.length:Int))),(101,.int .i64 (s3_101))]) (impl_coverage_follows_close_T ze z8 b_x0_Count w) ho ⟨_,(hB.trans (Chg.nil jw)),(ko o_x0_Covers jw),(kr r_x0_Count jw),(j3),fe rfl⟩ ?_ ?_
 rintro ⟨s3_101,s3_b_x0_Count_0,s3_o_x0_Covers⟩ _ g9 ⟨ja,hB,o_x0_Covers,r_x0_Count,jb,F,rfl⟩ o ho
 replace ho:impl_coverage_follows_close_L3 x0 s3_101 s3_b_x0_Count_0 s3_o_x0_Covers=some o:=ho
 unfold impl_coverage_follows_close_L3 at ho
 refine wq <| Wq rfl (cr [] g9) <| Qa (Bl rfl rfl) <| fun p14 jc=>anz <| wq <| W_cond (b:=decide (s3_101 < (x0.Classifier.Sieves.length:Int))) rfl ?_ ?_
 intro jx
 rw [jx] at ho
 refine W_skip <| anz <| wq <| W_block <| wq <| Wq rfl jc <| Qa (Mi rfl) <| ?_
 obtain ⟨e145,hx146e,ho⟩:=bs ho
 have hx146:=idx_some hx146e
 refine Qa (Ix sl149 (STy.keep _ z1e hB n_h_x0_Classifier_Sieves) hx146 rfl rfl rfl) <| ?_
 obtain ⟨u147,fu148,hu149,qg,hs151⟩:=one_getP rfl z1e hB n_h_x0_Classifier_Sieves hx146.1 hx146.2
 have n_hr150:Dis fu148 (z8++[b_x0_Count]):=fun b hb=>n_h_x0_Classifier_Sieves b (hs151 b hb)
 refine Qa (Ld na118 hu149 rfl) <| Qa (Ai rfl) <| Qa (Av u147 rfl) <| fun p15 ga=>anz <| wq <| Wq rfl ga <| Qa (Mv u147 rfl) <| Qa (Ln sl118 (STy.keep _ qg hB n_hr150) rfl) <| Qa (Mi rfl) <| fun p16 jy=>anz <| Wf (S1:=Int×Int×(List (List Bool))) (fun s r w'=>match s with | (s4_108,s4_b_x0_Count_0,s4_o_x0_Covers)=>∃ (jd:List Nat),Chg (z8++[b_x0_Count]) w w'∧OE (z8++[b_x0_Count]) w.heap.size w' (sOwn 138 (sOwn 4 sBool)) [ze] (s4_o_x0_Covers) jd∧Row w' b_x0_Count [.int .i64 (s4_b_x0_Count_0)] 197∧Dis jd [b_x0_Count]∧∃ F,r=updL F [(0,.pointer (some (p_x0))),(1,.func (.func 124) #[.pointer (some (p_x0))] #[]),(9,.int .i64 (s3_101)),(10,u147),(99,z1d),(100,.int .i64 ((x0.Classifier.Sieves.length:Int))),(101,.int .i64 (s3_101)),(107,.int .i64 ((e145.length:Int))),(108,.int .i64 (s4_108))]) (impl_coverage_follows_close_T ze z8 b_x0_Count w) ho ⟨_,(hB.trans (Chg.nil jy)),(ko o_x0_Covers jy),(kr r_x0_Count jy),(jb),fe rfl⟩ ?_ ?_
 rintro ⟨s4_108,s4_b_x0_Count_0,s4_o_x0_Covers⟩ _ gb ⟨jd,hB,o_x0_Covers,r_x0_Count,je,F,rfl⟩ o ho
 replace ho:impl_coverage_follows_close_L4 x0 s3_101 e145 s4_108 s4_b_x0_Count_0 s4_o_x0_Covers=some o:=ho
 unfold impl_coverage_follows_close_L4 at ho
 refine wq <| Wq rfl (cr [] gb) <| Qa (Bl rfl rfl) <| fun p17 jf=>anz <| wq <| W_cond (b:=decide (s4_108 < (e145.length:Int))) rfl ?_ ?_
 intro jz
 rw [jz] at ho
 refine W_skip <| anz <| wq <| W_block <| wq <| Wq rfl jf <| Qa (Mi rfl) <| Qa (Ai rfl) <| fun p18 pm=>anz <| wq <| W_region rfl <| Wb (Mp rfl) <| Wb (Nk rfl) <| Wb (Fp fa144_2 rfl) <| Wa pm (La na97 (At.keep a_x0 hB n_x0) rfl rfl) <| ?_
 refine Wb (Mi rfl) <| ?_
 obtain ⟨e164,hx165e,ho⟩:=bs ho
 have hx165:=idx_some hx165e
 refine Wa pm (Ix sl97 ((Le.own (Le.own (Le.refl _) 4) 138).le o_x0_Covers.1) hx165 rfl rfl rfl) <| ?_
 obtain ⟨u166,fu167,hu168,k0,hs170⟩:=one_get rfl ((Le.own (Le.own (Le.refl _) 4) 138).le o_x0_Covers.1) hx165.1 hx165.2
 refine Wa pm (Ld na138 hu168 rfl) <| ?_
 obtain ⟨y171,gc,ho⟩:=bs ho
 refine WL.call rfl (op_callF Tryz.func210 rfl rfl) (slices_Clone___bool_bool__calls (kp _ k0 pm) gc) <| ?_
 rintro _ p19 ⟨v175,k1,rfl,gd,p7⟩
 refine ⟨_,rfl,?_⟩
 have ge:=dl (ofr p7) (sl _ (kp _ o_x0_Covers.1 pm))
 have gf:=dl (ofr p7) (one_lt (Row.lt (kr r_x0_Count pm)))
 replace p7:=OE.low (G:=(z8++[b_x0_Count])) p7 (hB.trans (Chg.nil pm)).size
 have qh:=pm.trans gd
 replace hu168:=qh.cell0 hu168
 replace k0:=kp _ k0 qh
 replace o_x0_Covers:=ko o_x0_Covers qh
 replace r_x0_Count:=kr r_x0_Count qh
 replace hB:=(hB.trans (Chg.nil qh))
 refine Wb (Ln sl138 ((Le.own (Le.refl _) 4).le p7.1) rfl) <| Wb (Mi rfl) <| anz <| Wf (S1:=Int×Int×(List (List Bool))) (fun s r w'=>match s with | (s5_120,s5_b_x0_Count_0,s5_o_x0_Covers)=>∃ (qi:List Nat),Chg (z8++[b_x0_Count]) w w'∧OE (z8++[b_x0_Count]) w.heap.size w' (sOwn 138 (sOwn 4 sBool)) [ze] (s5_o_x0_Covers) qi∧Row w' b_x0_Count [.int .i64 (s5_b_x0_Count_0)] 197∧OE (z8++[b_x0_Count]) w.heap.size w' (sOwn 4 sBool) [v175] (y171) k1∧Dis qi [b_x0_Count]∧Dis qi k1∧Dis [b_x0_Count] k1∧∃ F,r=updL F [(0,.pointer (some (p_x0))),(1,.func (.func 124) #[.pointer (some (p_x0))] #[]),(9,.int .i64 (s3_101)),(10,u147),(11,.int .i64 (s4_108)),(99,z1d),(100,.int .i64 ((x0.Classifier.Sieves.length:Int))),(101,.int .i64 (s3_101)),(107,.int .i64 ((e145.length:Int))),(108,.int .i64 (s4_108)),(118,v175),(119,.int .i64 ((y171.length:Int))),(120,.int .i64 (s5_120))]) (impl_coverage_follows_close_T ze z8 b_x0_Count w) ho ⟨_,hB,o_x0_Covers,r_x0_Count,p7,(je),((ge).symm),((gf).symm),fe rfl⟩ ?_ ?_
 rintro ⟨s5_120,s5_b_x0_Count_0,s5_o_x0_Covers⟩ _ gg ⟨qi,hB,o_x0_Covers,r_x0_Count,p7,qj,qk,q2,F,rfl⟩ o ho
 replace ho:impl_coverage_follows_close_L5 x0 s3_101 e145 s4_108 y171 s5_120 s5_b_x0_Count_0 s5_o_x0_Covers=some o:=ho
 unfold impl_coverage_follows_close_L5 at ho
 refine wq <| Wq rfl (cr [] gg) <| Qa (Bl rfl rfl) <| fun p1a ql=>anz <| wq <| W_cond (b:=decide (s5_120 < (y171.length:Int))) rfl ?_ ?_
 intro k2
 rw [k2] at ho
 refine W_skip <| anz <| wq <| W_block <| wq <| Wq rfl ql <| Qa (Mi rfl) <| ?_
 obtain ⟨e189,hx190e,ho⟩:=bs ho
 have hx190:=idx_some hx190e
 refine Qa (Ix sl138 ((Le.own (Le.refl _) 4).le p7.1) hx190 rfl rfl rfl) <| Qa (Eb na4 ((Le.own (Le.refl _) 4).le p7.1) hx190 rfl) <| Qa (Ai rfl) <| Qa (Ab rfl) <| fun p1b gh=>anz <| wq <| Wqd rfl (by kernel_rfl) gh <| ?_
 obtain ⟨g193,hm194,ho⟩:=bs ho
 refine QL.meet (fun r=>∃ F,r=updL F [(0,.pointer (some (p_x0))),(1,.func (.func 124) #[.pointer (some (p_x0))] #[]),(9,.int .i64 (s3_101)),(10,u147),(11,.int .i64 (s4_108)),(99,z1d),(100,.int .i64 ((x0.Classifier.Sieves.length:Int))),(101,.int .i64 (s3_101)),(107,.int .i64 ((e145.length:Int))),(108,.int .i64 (s4_108)),(118,v175),(119,.int .i64 ((y171.length:Int))),(120,.int .i64 (s5_120)),(150,.bool (g193))]) ?_ ?_
 skip
 refine Qa (Mb rfl) <| Qa (Mb rfl) <| ?_
 rcases Bool.eq_false_or_eq_true e189 with p1 | p1
 rw [p1] at hm194
 refine Qg rfl p1 (Mp rfl) <| Qg rfl p1 (Nk rfl) <| Qg rfl p1 (Fp fa144_2 rfl) <| Qg rfl p1 (La na97 (At.keep a_x0 hB n_x0) rfl rfl) <| Qg rfl p1 (Mi rfl) <| ?_
 obtain ⟨e196,hx197e,hm194⟩:=bs hm194
 have hx197:=idx_some hx197e
 refine Qg rfl p1 (Ix sl97 ((Le.own (Le.own (Le.refl _) 4) 138).le o_x0_Covers.1) hx197 rfl rfl rfl) <| ?_
 obtain ⟨u198,fu199,hu200,n2,hs202⟩:=one_get rfl ((Le.own (Le.own (Le.refl _) 4) 138).le o_x0_Covers.1) hx197.1 hx197.2
 refine Qg rfl p1 (Ld na138 hu200 rfl) <| Qg rfl p1 (Mi rfl) <| ?_
 obtain ⟨e203,hx204e,hm194⟩:=bs hm194
 have hx204:=idx_some hx204e
 refine Qg rfl p1 (Ix sl138 n2 hx204 rfl rfl rfl) <| Qg rfl p1 (Eb na4 n2 hx204 rfl) <| Qg rfl p1 (Nt rfl) <| Qa (PTb rfl p1 rfl) <| Qa (Mb rfl) <| ?_
 rcases Bool.eq_false_or_eq_true (!(e203)) with p2 | p2
 rw [p2] at hm194
 refine Qg rfl p2 (Mp rfl) <| Qg rfl p2 (Mv u147 rfl) <| Qg rfl p2 (Mi rfl) <| ?_
 obtain ⟨e206,hx207e,hm194⟩:=bs hm194
 have hx207:=idx_some hx207e
 refine Qg rfl p2 (Ix sl118 (STy.keep _ qg hB n_hr150) hx207 rfl rfl rfl) <| ?_
 obtain ⟨u208,fu209,hu210,gi,hs212⟩:=one_getP rfl qg hB n_hr150 hx207.1 hx207.2
 have n_hr211:Dis fu209 (z8++[b_x0_Count]):=fun b hb=>n_hr150 b (hs212 b hb)
 refine Qg rfl p2 (Ld na114 hu210 rfl) <| Qg rfl p2 (Mv u147 rfl) <| Qg rfl p2 (Mi rfl) <| ?_
 obtain ⟨e213,hx214e,hm194⟩:=bs hm194
 have hx214:=idx_some hx214e
 refine Qg rfl p2 (Ix sl118 (STy.keep _ qg hB n_hr150) hx214 rfl rfl rfl) <| ?_
 obtain ⟨u215,fu216,hu217,gj,hs219⟩:=one_getP rfl qg hB n_hr150 hx214.1 hx214.2
 have n_hr218:Dis fu216 (z8++[b_x0_Count]):=fun b hb=>n_hr150 b (hs219 b hb)
 refine Qg rfl p2 (Ld na114 hu217 rfl) <| ?_
 obtain ⟨y220,gk,hm194⟩:=bs hm194
 refine Qcg rfl p2 Tryz.func211 rfl rfl (fun _ hC=>impl_coverage_locally_calls (x0:=(MCoverage.mk x0.Classifier x0.C s5_o_x0_Covers s5_b_x0_Count_0)) (STy.keep _ z1m (hB.trans (Chg.nil hC)) n_h_x0_Classifier_Sets_Shape_From) (STy.keep _ z1n (hB.trans (Chg.nil hC)) n_h_x0_Classifier_Sets_Shape_To) (STy.keep _ z1o (hB.trans (Chg.nil hC)) n_h_x0_Classifier_Sets_Shape_Identity) (STy.keep _ z1p (hB.trans (Chg.nil hC)) n_h_x0_Classifier_Sets_Shape_Composites) (STy.keep _ z1q (hB.trans (Chg.nil hC)) n_h_x0_Classifier_Sets_Sizes) (STy.keep _ z1g (hB.trans (Chg.nil hC)) n_h_x0_Classifier_Sets_Actions) (STy.keep _ z1e (hB.trans (Chg.nil hC)) n_h_x0_Classifier_Sieves) (At.keep a_x0_Classifier (hB.trans (Chg.nil hC)) n_x0_Classifier) (STy.keep _ z16 (hB.trans (Chg.nil hC)) n_h_x0_C_From) (STy.keep _ z12 (hB.trans (Chg.nil hC)) n_h_x0_C_To) (STy.keep _ z1b (hB.trans (Chg.nil hC)) n_h_x0_C_Identity) (STy.keep _ z1c (hB.trans (Chg.nil hC)) n_h_x0_C_Composites) (At.keep a_x0_C (hB.trans (Chg.nil hC)) n_x0_C) ((Le.own (Le.own (Le.refl _) 4) 138).le (kp _ o_x0_Covers.1 hC)) (kr r_x0_Count hC).at (At.keep a_x0 (hB.trans (Chg.nil hC)) n_x0) (STy.keep _ gi (hB.trans (Chg.nil hC)) n_hr211) (STy.keep _ gj (hB.trans (Chg.nil hC)) n_hr218) gk) <| Qa (PTb rfl p2 rfl) <| ?_
 cases hm194
 exact fe rfl
 rw [p2] at hm194
 refine Sk rfl p2 rfl <| Sk rfl p2 rfl <| Sk rfl p2 rfl <| Sk rfl p2 rfl <| Sk rfl p2 rfl <| Sk rfl p2 rfl <| Sk rfl p2 rfl <| Sk rfl p2 rfl <| Sk rfl p2 rfl <| Sk rfl p2 rfl <| Qa (PFb rfl p2 rfl) <| ?_
 cases hm194
 exact fe rfl
 rw [p1] at hm194
 refine Sk rfl p1 rfl <| Sk rfl p1 rfl <| Sk rfl p1 rfl <| Sk rfl p1 rfl <| Sk rfl p1 rfl <| Sk rfl p1 rfl <| Sk rfl p1 rfl <| Sk rfl p1 rfl <| Sk rfl p1 rfl <| Sk rfl p1 rfl <| Sk rfl p1 rfl <| Qa (PFb rfl p1 rfl) <| Qa (Mb rfl) <| Sk rfl rfl rfl <| Sk rfl rfl rfl <| Sk rfl rfl rfl <| ?_
 refine Sk rfl rfl rfl <| Sk rfl rfl rfl <| Sk rfl rfl rfl <| Sk rfl rfl rfl <| Sk rfl rfl rfl <| Sk rfl rfl rfl <| Sk rfl rfl rfl <| Qa (PFb rfl rfl rfl) <| ?_
 cases hm194
 exact fe rfl
 rintro _ ⟨F,rfl⟩
 refine fun n3 n4=>anz <| W_cond (b:=g193) rfl ?_ ?_
 intro k3
 rw [k3] at ho
 refine W_region rfl <| Wb (Mv (.func (.func 124) #[.pointer (some p_x0)] #[]) rfl) <| Wb (Mi rfl) <| Wb (Mi rfl) <| ?_
 have jg:=n4.trans (cr [] n3)
 replace o_x0_Covers:=ko o_x0_Covers jg
 replace r_x0_Count:=kr r_x0_Count jg
 replace p7:=ko p7 jg
 replace hB:=(hB.trans (Chg.nil jg))
 obtain ⟨y226,gl,ho⟩:=bs ho
 refine WL.call rfl (op_callT (fst:=[.pointer (some (p_x0))]) (cap:=[]) rfl Tryz.func124 rfl rfl) (impl_coverage_mark_calls (x0:=(MCoverage.mk x0.Classifier x0.C s5_o_x0_Covers s5_b_x0_Count_0)) (STy.keep _ z1m hB n_h_x0_Classifier_Sets_Shape_From) (STy.keep _ z1n hB n_h_x0_Classifier_Sets_Shape_To) (STy.keep _ z1o hB n_h_x0_Classifier_Sets_Shape_Identity) (STy.keep _ z1p hB n_h_x0_Classifier_Sets_Shape_Composites) (STy.keep _ z1q hB n_h_x0_Classifier_Sets_Sizes) (STy.keep _ z1g hB n_h_x0_Classifier_Sets_Actions) (STy.keep _ z1e hB n_h_x0_Classifier_Sieves) (At.keep a_x0_Classifier hB n_x0_Classifier) (STy.keep _ z16 hB n_h_x0_C_From) (STy.keep _ z12 hB n_h_x0_C_To) (STy.keep _ z1b hB n_h_x0_C_Identity) (STy.keep _ z1c hB n_h_x0_C_Composites) (At.keep a_x0_C hB n_x0_C) (OE.give (B':=n3.heap.size) o_x0_Covers fun _ h=>h) r_x0_Count (At.keep a_x0 hB n_x0) qj (dis_parF z1m n_h_x0_Classifier_Sets_Shape_From (low_app o_x0_Covers.2.2 (fun i hi=>.inl (by simp [List.mem_singleton.1 hi])))) (dis_parF z1n n_h_x0_Classifier_Sets_Shape_To (low_app o_x0_Covers.2.2 (fun i hi=>.inl (by simp [List.mem_singleton.1 hi])))) (dis_parF z1o n_h_x0_Classifier_Sets_Shape_Identity (low_app o_x0_Covers.2.2 (fun i hi=>.inl (by simp [List.mem_singleton.1 hi])))) (dis_parF z1p n_h_x0_Classifier_Sets_Shape_Composites (low_app o_x0_Covers.2.2 (fun i hi=>.inl (by simp [List.mem_singleton.1 hi])))) (dis_parF z1q n_h_x0_Classifier_Sets_Sizes (low_app o_x0_Covers.2.2 (fun i hi=>.inl (by simp [List.mem_singleton.1 hi])))) (dis_parF z1g n_h_x0_Classifier_Sets_Actions (low_app o_x0_Covers.2.2 (fun i hi=>.inl (by simp [List.mem_singleton.1 hi])))) (dis_parF z1e n_h_x0_Classifier_Sieves (low_app o_x0_Covers.2.2 (fun i hi=>.inl (by simp [List.mem_singleton.1 hi])))) (pat_out a_x0_Classifier n_x0_Classifier (low_app o_x0_Covers.2.2 (fun i hi=>.inl (by simp [List.mem_singleton.1 hi])))) (dis_parF z16 n_h_x0_C_From (low_app o_x0_Covers.2.2 (fun i hi=>.inl (by simp [List.mem_singleton.1 hi])))) (dis_parF z12 n_h_x0_C_To (low_app o_x0_Covers.2.2 (fun i hi=>.inl (by simp [List.mem_singleton.1 hi])))) (dis_parF z1b n_h_x0_C_Identity (low_app o_x0_Covers.2.2 (fun i hi=>.inl (by simp [List.mem_singleton.1 hi])))) (dis_parF z1c n_h_x0_C_Composites (low_app o_x0_Covers.2.2 (fun i hi=>.inl (by simp [List.mem_singleton.1 hi])))) (pat_out a_x0_C n_x0_C (low_app o_x0_Covers.2.2 (fun i hi=>.inl (by simp [List.mem_singleton.1 hi])))) (pat_out a_x0 n_x0 (low_app o_x0_Covers.2.2 (fun i hi=>.inl (by simp [List.mem_singleton.1 hi])))) gl) ?_
 rintro _ gm ⟨p1c,rfl,n5,jh,gn,go⟩
 refine ⟨_,rfl,?_⟩
 have gp:=dis_back jh (da qk q2) (sl _ p7.1)
 replace jh:=OE.back jh (low_app o_x0_Covers.2.2 (fun i hi=>.inl (by simp [List.mem_singleton.1 hi]))) hB.size
 replace p7:=okp p7 n5 (Dis.symm (da qk q2))
 replace hB:=hB.then n5 (low_app o_x0_Covers.2.2 (fun i hi=>.inl (by simp [List.mem_singleton.1 hi])))
 refine inBlk_n <| anz <| Wq rfl (cr [] gm) <| Qa (Ba rfl rfl) <| Qa (Mi rfl) <| fun p1d ji=>?_
 cases ho
 exact ⟨_,(hB.trans (Chg.nil ji)),(ko jh ji),(kr gn ji),(ko p7 ji),go,gp,q2,fe rfl⟩
 intro k3
 rw [k3] at ho
 refine W_skip <| inBlk_n <| anz <| Wq rfl n4 <| Qa (Ba rfl rfl) <| Qa (Mi rfl) <| fun p1e jj=>?_
 cases ho
 exact ⟨_,(hB.trans (Chg.nil jj)),(ko o_x0_Covers jj),(kr r_x0_Count jj),(ko p7 jj),qj,qk,q2,fe rfl⟩
 intro k2
 rw [k2] at ho
 refine W_exit <| andThen_x <| ?_
 cases ho
 exact ⟨rfl,⟨_,(hB.trans (Chg.nil ql)),(ko o_x0_Covers ql),(kr r_x0_Count ql),(ko p7 ql),qj,qk,q2,fe rfl⟩⟩
 rintro ⟨s5_120,s5_b_x0_Count_0,s5_o_x0_Covers⟩ _ gq ⟨qi,hB,o_x0_Covers,r_x0_Count,p7,qj,qk,q2,F,rfl⟩ ho
 dsimp only at ho
 refine inBlk_n <| anz <| Wq rfl (cr [] gq) <| Qa (Ba rfl rfl) <| Qa (Mi rfl) <| fun p1f k4=>?_
 cases ho
 exact ⟨_,(hB.trans (Chg.nil k4)),(ko o_x0_Covers k4),(kr r_x0_Count k4),qj,fe rfl⟩
 intro jz
 rw [jz] at ho
 refine W_exit <| andThen_x <| ?_
 cases ho
 exact ⟨rfl,⟨_,(hB.trans (Chg.nil jf)),(ko o_x0_Covers jf),(kr r_x0_Count jf),je,fe rfl⟩⟩
 rintro ⟨s4_108,s4_b_x0_Count_0,s4_o_x0_Covers⟩ _ gr ⟨jd,hB,o_x0_Covers,r_x0_Count,je,F,rfl⟩ ho
 dsimp only at ho
 refine inBlk_n <| anz <| Wq rfl (cr [] gr) <| Qa (Ba rfl rfl) <| Qa (Mi rfl) <| fun p1g k5=>?_
 cases ho
 exact ⟨_,(hB.trans (Chg.nil k5)),(ko o_x0_Covers k5),(kr r_x0_Count k5),je,fe rfl⟩
 intro jx
 rw [jx] at ho
 refine W_exit <| andThen_x <| ?_
 cases ho
 exact ⟨rfl,⟨_,(hB.trans (Chg.nil jc)),(ko o_x0_Covers jc),(kr r_x0_Count jc),jb,fe rfl⟩⟩
 rintro ⟨s3_101,s3_b_x0_Count_0,s3_o_x0_Covers⟩ _ p1h ⟨ja,hB,o_x0_Covers,r_x0_Count,jb,F,rfl⟩ ho
 dsimp only at ho
 cases ho
 exact ⟨_,res_0 Tryz.results157,_,rfl,hB,o_x0_Covers,r_x0_Count,jb⟩

abbrev laws_eqInt64S_post (w:World) (x:(Bool)) (e:Ending) (w':World):Prop:=e = .returned (.bool x)∧Chg [] w w'
abbrev laws_eqInt64S_T (w:World):=Tm Tryz.prog Tryz.f23 26 (laws_eqInt64S_post w)
theorem laws_eqInt64S_calls {w:World} {x0:(List Int)} {v_x0:Value} {f_x0:List Nat} {x1:(List Int)} {v_x1:Value} {f_x1:List Nat} (h_x0:(sImm (sInt .i64)).rep w.heap [v_x0] x0 f_x0) (h_x1:(sImm (sInt .i64)).rep w.heap [v_x1] x1 f_x1) {y:(Bool)} (hm:laws_eqInt64S x0 x1=some y) :
  Calls Tryz.prog 23 #[v_x0,v_x1] w (laws_eqInt64S_post w y):=by
 refine Cm (S:=Unit) Tryz.func23 rfl Tryz.ntmps23 rfl hm fun o ho hB=>?_
 clear hm
 refine wq <| Wq rfl (cr [] w) <| Qa (Ab rfl) <| fun wd1 hC2=>anz <| wq <| wq <| Wq rfl hC2 <| Qa (Mv v_x0 rfl) <| Qa (Ln sl22 (kB h_x0 hB) rfl) <| Qa (Mv v_x1 rfl) <| Qa (Ln sl22 (kB h_x1 hB) rfl) <| Qa (Bn rfl rfl) <| fun wd3 hC4=>anz <| W_cond (b:=((x0.length:Int)) != ((x1.length:Int))) rfl ?_ ?_
 intro hb5
 rw [hb5] at ho
 refine wq <| Wq rfl hC4 <| Qa (Ab rfl) <| fun wd6 hC7=>anz <| ?_
 cases ho
 exact W_ret ⟨_,res_1 Tryz.results23,rfl,(hB.trans hC7)⟩
 intro hb5
 rw [hb5] at ho
 refine W_skip <| anz <| wq <| wq <| Wq rfl hC4 <| Qa (Ai rfl) <| fun wd8 hC9=>anz <| Wf (S1:=Int) (fun (s0_5:Int) r w'=>Chg [] w w'∧∃ F,r=updL F [(0,v_x0),(1,v_x1),(5,.int .i64 (s0_5))]) (laws_eqInt64S_T w) ho ⟨(hB.trans hC9),fe rfl⟩ ?_ ?_
 rintro s0_5 _ qm ⟨hB,F,rfl⟩ o ho
 replace ho:laws_eqInt64S_L0 x0 x1 s0_5=some o:=ho
 unfold laws_eqInt64S_L0 at ho
 refine wq <| wq <| Wq rfl (cr [] qm) <| Qa (Mi rfl) <| Qa (Mv v_x0 rfl) <| Qa (Ln sl22 (kB h_x0 hB) rfl) <| Qa (Bl rfl rfl) <| fun qn pb=>anz <| W_cond (b:=decide (s0_5 < (x0.length:Int))) rfl ?_ ?_
 intro p8
 rw [p8] at ho
 refine W_skip <| anz <| wq <| W_block <| wq <| Wqd rfl (by kernel_rfl) pb <| Qa (Mv v_x0 rfl) <| Qa (Mi rfl) <| ?_
 obtain ⟨e14,hx15e,ho⟩:=bs ho
 have hx15:=idx_some hx15e
 refine Qa (Ix sl22 (kB h_x0 hB) hx15 rfl rfl rfl) <| Qa (Ei na2 (kB h_x0 hB) hx15 rfl) <| Qa (Mv v_x1 rfl) <| Qa (Mi rfl) <| ?_
 obtain ⟨e16,hx17e,ho⟩:=bs ho
 have hx17:=idx_some hx17e
 refine Qa (Ix sl22 (kB h_x1 hB) hx17 rfl rfl rfl) <| Qa (Ei na2 (kB h_x1 hB) hx17 rfl) <| Qa (Bn rfl rfl) <| fun qo pi=>anz <| W_cond (b:=(e14) != (e16)) rfl ?_ ?_
 intro pq
 rw [pq] at ho
 refine wq <| Wq rfl pi <| Qa (Ab rfl) <| fun k6 pn=>anz <| ?_
 cases ho
 exact W_ret ⟨_,res_1 Tryz.results23,rfl,(hB.trans pn)⟩
 intro pq
 rw [pq] at ho
 refine W_skip <| inBlk_n <| anz <| Wq rfl pi <| Qa (Mi rfl) <| Qa (Ba rfl rfl) <| Qa (Ai rfl) <| fun n6 q3=>?_
 cases ho
 exact ⟨(hB.trans q3),fe rfl⟩
 intro p8
 rw [p8] at ho
 refine W_exit <| andThen_x <| ?_
 cases ho
 exact ⟨rfl,⟨(hB.trans pb),fe rfl⟩⟩
 rintro s0_5 _ py ⟨hB,F,rfl⟩ ho
 refine anz <| wq <| Wq rfl (cr [] py) <| Qa (Ab rfl) <| fun gs k7=>anz <| ?_
 cases ho
 exact W_ret ⟨_,res_1 Tryz.results23,rfl,(hB.trans k7)⟩

abbrev laws_eqInt64SS_post (w:World) (x:(Bool)) (e:Ending) (w':World):Prop:=e = .returned (.bool x)∧Chg [] w w'
abbrev laws_eqInt64SS_T (w:World):=Tm Tryz.prog Tryz.f29 27 (laws_eqInt64SS_post w)
theorem laws_eqInt64SS_calls {w:World} {x0:(List (List Int))} {v_x0:Value} {f_x0:List Nat} {x1:(List (List Int))} {v_x1:Value} {f_x1:List Nat} (h_x0:(sImm (sImm (sInt .i64))).rep w.heap [v_x0] x0 f_x0) (h_x1:(sImm (sImm (sInt .i64))).rep w.heap [v_x1] x1 f_x1) {y:(Bool)} (hm:laws_eqInt64SS x0 x1=some y) :
  Calls Tryz.prog 29 #[v_x0,v_x1] w (laws_eqInt64SS_post w y):=by
 refine Cm (S:=Unit) Tryz.func29 rfl Tryz.ntmps29 rfl hm fun o ho hB=>?_
 clear hm
 refine wq <| Wq rfl (cr [] w) <| Qa (Ab rfl) <| fun wd1 hC2=>anz <| wq <| wq <| Wq rfl hC2 <| Qa (Mv v_x0 rfl) <| Qa (Ln sl23 (kB h_x0 hB) rfl) <| Qa (Mv v_x1 rfl) <| Qa (Ln sl23 (kB h_x1 hB) rfl) <| Qa (Bn rfl rfl) <| fun wd3 hC4=>anz <| W_cond (b:=((x0.length:Int)) != ((x1.length:Int))) rfl ?_ ?_
 intro hb5
 rw [hb5] at ho
 refine wq <| Wq rfl hC4 <| Qa (Ab rfl) <| fun wd6 hC7=>anz <| ?_
 cases ho
 exact W_ret ⟨_,res_1 Tryz.results29,rfl,(hB.trans hC7)⟩
 intro hb5
 rw [hb5] at ho
 refine W_skip <| anz <| wq <| wq <| Wq rfl hC4 <| Qa (Ai rfl) <| fun wd8 hC9=>anz <| Wf (S1:=Int) (fun (s0_5:Int) r w'=>Chg [] w w'∧∃ F,r=updL F [(0,v_x0),(1,v_x1),(5,.int .i64 (s0_5))]) (laws_eqInt64SS_T w) ho ⟨(hB.trans hC9),fe rfl⟩ ?_ ?_
 rintro s0_5 _ qm ⟨hB,F,rfl⟩ o ho
 replace ho:laws_eqInt64SS_L0 x0 x1 s0_5=some o:=ho
 unfold laws_eqInt64SS_L0 at ho
 refine wq <| wq <| Wq rfl (cr [] qm) <| Qa (Mi rfl) <| Qa (Mv v_x0 rfl) <| Qa (Ln sl23 (kB h_x0 hB) rfl) <| Qa (Bl rfl rfl) <| fun qn pb=>anz <| W_cond (b:=decide (s0_5 < (x0.length:Int))) rfl ?_ ?_
 intro p8
 rw [p8] at ho
 refine W_skip <| anz <| wq <| W_block <| wq <| Wqd rfl (by kernel_rfl) pb <| Qa (Mv v_x0 rfl) <| Qa (Mi rfl) <| ?_
 obtain ⟨e14,hx15e,ho⟩:=bs ho
 have hx15:=idx_some hx15e
 refine Qa (Ix sl23 (kB h_x0 hB) hx15 rfl rfl rfl) <| ?_
 obtain ⟨u16,fu17,hu18,k8,hs20⟩:=one_get rfl h_x0 hx15.1 hx15.2
 refine Qa (Ld na22 (hB.cell0 hu18) rfl) <| Qa (Mv v_x1 rfl) <| Qa (Mi rfl) <| ?_
 obtain ⟨e21,hx22e,ho⟩:=bs ho
 have hx22:=idx_some hx22e
 refine Qa (Ix sl23 (kB h_x1 hB) hx22 rfl rfl rfl) <| ?_
 obtain ⟨u23,fu24,hu25,k9,hs27⟩:=one_get rfl h_x1 hx22.1 hx22.2
 refine Qa (Ld na22 (hB.cell0 hu25) rfl) <| ?_
 obtain ⟨y28,qp,ho⟩:=bs ho
 refine Qc Tryz.func23 rfl rfl (fun _ hC=>laws_eqInt64S_calls (kp _ k8 (hB.trans hC)) (kp _ k9 (hB.trans hC)) qp) <| Qa (Nt rfl) <| fun ka pg=>anz <| W_cond (b:=!(y28)) rfl ?_ ?_
 intro pe
 rw [pe] at ho
 refine wq <| Wq rfl pg <| Qa (Ab rfl) <| fun n7 qq=>anz <| ?_
 cases ho
 exact W_ret ⟨_,res_1 Tryz.results29,rfl,(hB.trans qq)⟩
 intro pe
 rw [pe] at ho
 refine W_skip <| inBlk_n <| anz <| Wq rfl pg <| Qa (Mi rfl) <| Qa (Ba rfl rfl) <| Qa (Ai rfl) <| fun kb pj=>?_
 cases ho
 exact ⟨(hB.trans pj),fe rfl⟩
 intro p8
 rw [p8] at ho
 refine W_exit <| andThen_x <| ?_
 cases ho
 exact ⟨rfl,⟨(hB.trans pb),fe rfl⟩⟩
 rintro s0_5 _ q0 ⟨hB,F,rfl⟩ ho
 refine anz <| wq <| Wq rfl (cr [] q0) <| Qa (Ab rfl) <| fun kx ph=>anz <| ?_
 cases ho
 exact W_ret ⟨_,res_1 Tryz.results29,rfl,(hB.trans ph)⟩

abbrev laws_eqCategory_post (w:World) (x:(Bool)) (e:Ending) (w':World):Prop:=e = .returned (.bool x)∧Chg [] w w'
abbrev laws_eqCategory_T (w:World):=Tm Tryz.prog Tryz.f42 34 (laws_eqCategory_post w)
theorem laws_eqCategory_calls {w:World} {x0:MCategory} {z2:Value} {zf:List Nat} {z1:Value} {zg:List Nat} {z7:Value} {zh:List Nat} {z6:Value} {zi:List Nat} {x1:MCategory} {z2g:Value} {z2w:List Nat} {z2h:Value} {z2x:List Nat} {z2i:Value} {z2y:List Nat} {z2j:Value} {z30:List Nat} (za:(sImm (sInt .i64)).rep w.heap [z2] x0.From zf) (zb:(sImm (sInt .i64)).rep w.heap [z1] x0.To zg) (zd:(sImm (sInt .i64)).rep w.heap [z7] x0.Identity zh) (zc:(sImm (sImm (sInt .i64))).rep w.heap [z6] x0.Composites zi) (z36:(sImm (sInt .i64)).rep w.heap [z2g] x1.From z2w) (z37:(sImm (sInt .i64)).rep w.heap [z2h] x1.To z2x) (z2o:(sImm (sInt .i64)).rep w.heap [z2i] x1.Identity z2y) (z38:(sImm (sImm (sInt .i64))).rep w.heap [z2j] x1.Composites z30) {y:(Bool)} (hm:laws_eqCategory x0 x1=some y) :
  Calls Tryz.prog 42 #[.agg #[.int .i64 (x0.Objects),z2,z1,z7,z6],.agg #[.int .i64 (x1.Objects),z2g,z2h,z2i,z2j]] w (laws_eqCategory_post w y):=by
 refine Cm (S:=Unit) Tryz.func42 rfl Tryz.ntmps42 rfl hm fun o ho hB=>?_
 clear hm
 refine wq <| W_region rfl <| WL.box fun b1 wd2 hC3 hr4 hl5=>?_
 replace hr4:Row wd2 b1 [.int .i64 (x0.Objects),z2,z1,z7,z6] 32:=hr4
 replace hB:=(hB.trans hC3)
 refine WL.box fun b8 wd9 po p3 kc=>?_
 replace p3:Row wd9 b8 [.int .i64 (x1.Objects),z2g,z2h,z2i,z2j] 32:=p3
 replace hr4:=kr hr4 po
 replace hB:=(hB.trans po)
 refine Wb (Ab rfl) <| anz <| wq <| wq <| Wq rfl (cr [] wd9) <| Qa (Fr fa32_0 rfl) <| Qa (Lr na2 hr4 rfl rfl) <| Qa (Fr fa32_0 rfl) <| Qa (Lr na2 p3 rfl rfl) <| Qa (Bn rfl rfl) <| fun gt jk=>anz <| W_cond (b:=(x0.Objects) != (x1.Objects)) rfl ?_ ?_
 intro kd
 rw [kd] at ho
 refine wq <| Wq rfl jk <| Qa (Ab rfl) <| fun n8 gu=>anz <| ?_
 cases ho
 exact W_ret ⟨_,res_1 Tryz.results42,rfl,(hB.trans gu)⟩
 intro kd
 rw [kd] at ho
 refine W_skip <| anz <| wq <| wq <| Wq rfl jk <| Qa (Fr fa32_1 rfl) <| Qa (Lr na22 hr4 rfl rfl) <| Qa (Fr fa32_1 rfl) <| Qa (Lr na22 p3 rfl rfl) <| ?_
 obtain ⟨y21,gv,ho⟩:=bs ho
 refine Qc Tryz.func23 rfl rfl (fun _ hC=>laws_eqInt64S_calls (kp _ za (hB.trans hC)) (kp _ z36 (hB.trans hC)) gv) <| Qa (Nt rfl) <| fun n6 q3=>anz <| W_cond (b:=!(y21)) rfl ?_ ?_
 intro ke
 rw [ke] at ho
 refine wq <| Wq rfl q3 <| Qa (Ab rfl) <| fun gs k7=>anz <| ?_
 cases ho
 exact W_ret ⟨_,res_1 Tryz.results42,rfl,(hB.trans k7)⟩
 intro ke
 rw [ke] at ho
 refine W_skip <| anz <| wq <| wq <| Wq rfl q3 <| Qa (Fr fa32_2 rfl) <| Qa (Lr na22 hr4 rfl rfl) <| Qa (Fr fa32_2 rfl) <| Qa (Lr na22 p3 rfl rfl) <| ?_
 obtain ⟨y28,qp,ho⟩:=bs ho
 refine Qc Tryz.func23 rfl rfl (fun _ hC=>laws_eqInt64S_calls (kp _ zb (hB.trans hC)) (kp _ z37 (hB.trans hC)) qp) <| Qa (Nt rfl) <| fun ka pg=>anz <| W_cond (b:=!(y28)) rfl ?_ ?_
 intro pe
 rw [pe] at ho
 refine wq <| Wq rfl pg <| Qa (Ab rfl) <| fun n7 qq=>anz <| ?_
 cases ho
 exact W_ret ⟨_,res_1 Tryz.results42,rfl,(hB.trans qq)⟩
 intro pe
 rw [pe] at ho
 refine W_skip <| anz <| wq <| wq <| Wq rfl pg <| Qa (Fr fa32_3 rfl) <| Qa (Lr na22 hr4 rfl rfl) <| Qa (Fr fa32_3 rfl) <| Qa (Lr na22 p3 rfl rfl) <| ?_
 obtain ⟨y35,gw,ho⟩:=bs ho
 refine Qc Tryz.func23 rfl rfl (fun _ hC=>laws_eqInt64S_calls (kp _ zd (hB.trans hC)) (kp _ z2o (hB.trans hC)) gw) <| Qa (Nt rfl) <| fun q0 n9=>anz <| W_cond (b:=!(y35)) rfl ?_ ?_
 intro kf
 rw [kf] at ho
 refine wq <| Wq rfl n9 <| Qa (Ab rfl) <| fun p1i gx=>anz <| ?_
 cases ho
 exact W_ret ⟨_,res_1 Tryz.results42,rfl,(hB.trans gx)⟩
 intro kf
 rw [kf] at ho
 refine W_skip <| anz <| wq <| wq <| Wq rfl n9 <| Qa (Fr fa32_4 rfl) <| Qa (Lr na23 hr4 rfl rfl) <| Qa (Fr fa32_4 rfl) <| Qa (Lr na23 p3 rfl rfl) <| ?_
 obtain ⟨y42,gy,ho⟩:=bs ho
 refine Qc Tryz.func29 rfl rfl (fun _ hC=>laws_eqInt64SS_calls (kp _ zc (hB.trans hC)) (kp _ z38 (hB.trans hC)) gy) <| Qa (Nt rfl) <| fun p1j na=>anz <| W_cond (b:=!(y42)) rfl ?_ ?_
 intro kg
 rw [kg] at ho
 refine wq <| Wq rfl na <| Qa (Ab rfl) <| fun nb pr=>anz <| ?_
 cases ho
 exact W_ret ⟨_,res_1 Tryz.results42,rfl,(hB.trans pr)⟩
 intro kg
 rw [kg] at ho
 refine W_skip <| anz <| wq <| Wq rfl na <| Qa (Ab rfl) <| fun p1k gz=>anz <| ?_
 cases ho
 exact W_ret ⟨_,res_1 Tryz.results42,rfl,(hB.trans gz)⟩

abbrev laws_eqInt64SSS_post (w:World) (x:(Bool)) (e:Ending) (w':World):Prop:=e = .returned (.bool x)∧Chg [] w w'
abbrev laws_eqInt64SSS_T (w:World):=Tm Tryz.prog Tryz.f74 27 (laws_eqInt64SSS_post w)
theorem laws_eqInt64SSS_calls {w:World} {x0:(List (List (List Int)))} {v_x0:Value} {f_x0:List Nat} {x1:(List (List (List Int)))} {v_x1:Value} {f_x1:List Nat} (h_x0:(sImm (sImm (sImm (sInt .i64)))).rep w.heap [v_x0] x0 f_x0) (h_x1:(sImm (sImm (sImm (sInt .i64)))).rep w.heap [v_x1] x1 f_x1) {y:(Bool)} (hm:laws_eqInt64SSS x0 x1=some y) :
  Calls Tryz.prog 74 #[v_x0,v_x1] w (laws_eqInt64SSS_post w y):=by
 refine Cm (S:=Unit) Tryz.func74 rfl Tryz.ntmps74 rfl hm fun o ho hB=>?_
 clear hm
 refine wq <| Wq rfl (cr [] w) <| Qa (Ab rfl) <| fun wd1 hC2=>anz <| wq <| wq <| Wq rfl hC2 <| Qa (Mv v_x0 rfl) <| Qa (Ln sl26 (kB h_x0 hB) rfl) <| Qa (Mv v_x1 rfl) <| Qa (Ln sl26 (kB h_x1 hB) rfl) <| Qa (Bn rfl rfl) <| fun wd3 hC4=>anz <| W_cond (b:=((x0.length:Int)) != ((x1.length:Int))) rfl ?_ ?_
 intro hb5
 rw [hb5] at ho
 refine wq <| Wq rfl hC4 <| Qa (Ab rfl) <| fun wd6 hC7=>anz <| ?_
 cases ho
 exact W_ret ⟨_,res_1 Tryz.results74,rfl,(hB.trans hC7)⟩
 intro hb5
 rw [hb5] at ho
 refine W_skip <| anz <| wq <| wq <| Wq rfl hC4 <| Qa (Ai rfl) <| fun wd8 hC9=>anz <| Wf (S1:=Int) (fun (s0_5:Int) r w'=>Chg [] w w'∧∃ F,r=updL F [(0,v_x0),(1,v_x1),(5,.int .i64 (s0_5))]) (laws_eqInt64SSS_T w) ho ⟨(hB.trans hC9),fe rfl⟩ ?_ ?_
 rintro s0_5 _ qm ⟨hB,F,rfl⟩ o ho
 replace ho:laws_eqInt64SSS_L0 x0 x1 s0_5=some o:=ho
 unfold laws_eqInt64SSS_L0 at ho
 refine wq <| wq <| Wq rfl (cr [] qm) <| Qa (Mi rfl) <| Qa (Mv v_x0 rfl) <| Qa (Ln sl26 (kB h_x0 hB) rfl) <| Qa (Bl rfl rfl) <| fun qn pb=>anz <| W_cond (b:=decide (s0_5 < (x0.length:Int))) rfl ?_ ?_
 intro p8
 rw [p8] at ho
 refine W_skip <| anz <| wq <| W_block <| wq <| Wqd rfl (by kernel_rfl) pb <| Qa (Mv v_x0 rfl) <| Qa (Mi rfl) <| ?_
 obtain ⟨e14,hx15e,ho⟩:=bs ho
 have hx15:=idx_some hx15e
 refine Qa (Ix sl26 (kB h_x0 hB) hx15 rfl rfl rfl) <| ?_
 obtain ⟨u16,fu17,hu18,k8,hs20⟩:=one_get rfl h_x0 hx15.1 hx15.2
 refine Qa (Ld na23 (hB.cell0 hu18) rfl) <| Qa (Mv v_x1 rfl) <| Qa (Mi rfl) <| ?_
 obtain ⟨e21,hx22e,ho⟩:=bs ho
 have hx22:=idx_some hx22e
 refine Qa (Ix sl26 (kB h_x1 hB) hx22 rfl rfl rfl) <| ?_
 obtain ⟨u23,fu24,hu25,k9,hs27⟩:=one_get rfl h_x1 hx22.1 hx22.2
 refine Qa (Ld na23 (hB.cell0 hu25) rfl) <| ?_
 obtain ⟨y28,qp,ho⟩:=bs ho
 refine Qc Tryz.func29 rfl rfl (fun _ hC=>laws_eqInt64SS_calls (kp _ k8 (hB.trans hC)) (kp _ k9 (hB.trans hC)) qp) <| Qa (Nt rfl) <| fun ka pg=>anz <| W_cond (b:=!(y28)) rfl ?_ ?_
 intro pe
 rw [pe] at ho
 refine wq <| Wq rfl pg <| Qa (Ab rfl) <| fun n7 qq=>anz <| ?_
 cases ho
 exact W_ret ⟨_,res_1 Tryz.results74,rfl,(hB.trans qq)⟩
 intro pe
 rw [pe] at ho
 refine W_skip <| inBlk_n <| anz <| Wq rfl pg <| Qa (Mi rfl) <| Qa (Ba rfl rfl) <| Qa (Ai rfl) <| fun kb pj=>?_
 cases ho
 exact ⟨(hB.trans pj),fe rfl⟩
 intro p8
 rw [p8] at ho
 refine W_exit <| andThen_x <| ?_
 cases ho
 exact ⟨rfl,⟨(hB.trans pb),fe rfl⟩⟩
 rintro s0_5 _ q0 ⟨hB,F,rfl⟩ ho
 refine anz <| wq <| Wq rfl (cr [] q0) <| Qa (Ab rfl) <| fun kx ph=>anz <| ?_
 cases ho
 exact W_ret ⟨_,res_1 Tryz.results74,rfl,(hB.trans ph)⟩

abbrev laws_eqTopology_post (w:World) (x:(Bool)) (e:Ending) (w':World):Prop:=e = .returned (.bool x)∧Chg [] w w'
abbrev laws_eqTopology_T (w:World):=Tm Tryz.prog Tryz.f19 17 (laws_eqTopology_post w)
theorem laws_eqTopology_calls {w:World} {x0:MTopology} {zk:Value} {zo:List Nat} {zl:Value} {zp:List Nat} {zm:Value} {zq:List Nat} {zn:Value} {zr:List Nat} {ze:Value} {z8:List Nat} {x1:MTopology} {z2k:Value} {z3c:List Nat} {z2l:Value} {z3d:List Nat} {z2m:Value} {z3e:List Nat} {z2n:Value} {z3f:List Nat} {z31:Value} {z3g:List Nat} (zu:(sImm (sInt .i64)).rep w.heap [zk] x0.Shape.From zo) (zv:(sImm (sInt .i64)).rep w.heap [zl] x0.Shape.To zp) (zw:(sImm (sInt .i64)).rep w.heap [zm] x0.Shape.Identity zq) (zx:(sImm (sImm (sInt .i64))).rep w.heap [zn] x0.Shape.Composites zr) (zj:(sImm (sImm (sImm (sInt .i64)))).rep w.heap [ze] x0.Covers z8) (z3h:(sImm (sInt .i64)).rep w.heap [z2k] x1.Shape.From z3c) (z3i:(sImm (sInt .i64)).rep w.heap [z2l] x1.Shape.To z3d) (z3j:(sImm (sInt .i64)).rep w.heap [z2m] x1.Shape.Identity z3e) (z3k:(sImm (sImm (sInt .i64))).rep w.heap [z2n] x1.Shape.Composites z3f) (z3l:(sImm (sImm (sImm (sInt .i64)))).rep w.heap [z31] x1.Covers z3g) {y:(Bool)} (hm:laws_eqTopology x0 x1=some y) :
  Calls Tryz.prog 19 #[.agg #[.int .i64 (x0.Shape.Objects),zk,zl,zm,zn,ze],.agg #[.int .i64 (x1.Shape.Objects),z2k,z2l,z2m,z2n,z31]] w (laws_eqTopology_post w y):=by
 refine Cm (S:=Unit) Tryz.func19 rfl Tryz.ntmps19 rfl hm fun o ho hB=>?_
 clear hm
 refine wq <| W_region rfl <| WL.box fun b1 wd2 hC3 hr4 hl5=>?_
 replace hr4:Row wd2 b1 [.int .i64 (x0.Shape.Objects),zk,zl,zm,zn,ze] 34:=hr4
 replace hB:=(hB.trans hC3)
 refine WL.box fun b8 wd9 po p3 kc=>?_
 replace p3:Row wd9 b8 [.int .i64 (x1.Shape.Objects),z2k,z2l,z2m,z2n,z31] 34:=p3
 replace hr4:=kr hr4 po
 replace hB:=(hB.trans po)
 refine Wb (Ab rfl) <| anz <| wq <| wq <| Wq rfl (cr [] wd9) <| Qa (Fr fa34_0 rfl) <| ?_
 refine qv (v:=.agg #[.int .i64 (x0.Shape.Objects),zk,zl,zm,zn]) rfl (fun _ hC=>op_loadAgg (cs:=[.int .i64 (x0.Shape.Objects),zk,zl,zm,zn]) u32 rfl info32 (by rw [sz32]; rfl) rfl (At.sub (kr hr4 hC).at 0 5)) ?_
 refine Qa (Fr fa34_0 rfl) <| ?_
 refine qv (v:=.agg #[.int .i64 (x1.Shape.Objects),z2k,z2l,z2m,z2n]) rfl (fun _ hC=>op_loadAgg (cs:=[.int .i64 (x1.Shape.Objects),z2k,z2l,z2m,z2n]) u32 rfl info32 (by rw [sz32]; rfl) rfl (At.sub (kr p3 hC).at 0 5)) ?_
 obtain ⟨y16,kh,ho⟩:=bs ho
 refine Qc Tryz.func42 rfl rfl (fun _ hC=>laws_eqCategory_calls (kp _ zu (hB.trans hC)) (kp _ zv (hB.trans hC)) (kp _ zw (hB.trans hC)) (kp _ zx (hB.trans hC)) (kp _ z3h (hB.trans hC)) (kp _ z3i (hB.trans hC)) (kp _ z3j (hB.trans hC)) (kp _ z3k (hB.trans hC)) kh) <| Qa (Nt rfl) <| fun qo pi=>anz <| W_cond (b:=!(y16)) rfl ?_ ?_
 intro pq
 rw [pq] at ho
 refine wq <| Wq rfl pi <| Qa (Ab rfl) <| fun k6 pn=>anz <| ?_
 cases ho
 exact W_ret ⟨_,res_1 Tryz.results19,rfl,(hB.trans pn)⟩
 intro pq
 rw [pq] at ho
 refine W_skip <| anz <| wq <| wq <| Wq rfl pi <| Qa (Fr fa34_1 rfl) <| Qa (Lr na26 hr4 rfl rfl) <| Qa (Fr fa34_1 rfl) <| Qa (Lr na26 p3 rfl rfl) <| ?_
 obtain ⟨y23,q7,ho⟩:=bs ho
 refine Qc Tryz.func74 rfl rfl (fun _ hC=>laws_eqInt64SSS_calls (kp _ zj (hB.trans hC)) (kp _ z3l (hB.trans hC)) q7) <| Qa (Nt rfl) <| fun py pa=>anz <| W_cond (b:=!(y23)) rfl ?_ ?_
 intro ps
 rw [ps] at ho
 refine wq <| Wq rfl pa <| Qa (Ab rfl) <| fun nc ki=>anz <| ?_
 cases ho
 exact W_ret ⟨_,res_1 Tryz.results19,rfl,(hB.trans ki)⟩
 intro ps
 rw [ps] at ho
 refine W_skip <| anz <| wq <| Wq rfl pa <| Qa (Ab rfl) <| fun ka pg=>anz <| ?_
 cases ho
 exact W_ret ⟨_,res_1 Tryz.results19,rfl,(hB.trans pg)⟩

abbrev laws_markInt64S_post (v_x0:Value) (f_x0:List Nat) (w:World) (x:(Int×(List Int))) (e:Ending) (w':World):Prop:=∃ (f0:List Nat),e = .returned (.int .i64 x.1)∧Chg f_x0 w w'∧OE f_x0 w.heap.size w' (sOwn 2 (sInt .i64)) [v_x0] x.2 f0
abbrev laws_markInt64S_T (v_x0:Value) (f_x0:List Nat) (w:World):=Tm Tryz.prog Tryz.f25 19 (laws_markInt64S_post v_x0 f_x0 w)
theorem laws_markInt64S_calls {w:World} {x0:(List Int)} {v_x0:Value} {f_x0:List Nat} {x1:Int} (o_x0:OE f_x0 w.heap.size w (sOwn 2 (sInt .i64)) [v_x0] x0 f_x0) {y:(Int×(List Int))} (hm:laws_markInt64S x0 x1=some y) :
  Calls Tryz.prog 25 #[v_x0,.int .i64 (x1)] w (laws_markInt64S_post v_x0 f_x0 w y):=by
 refine Cm (S:=Unit) Tryz.func25 rfl Tryz.ntmps25 rfl hm fun o ho hB=>?_
 clear hm
 have hB:Chg f_x0 w w:=cr _ _
 replace o_x0:OE f_x0 w.heap.size w (sOwn 2 (sInt .i64)) [v_x0] x0 f_x0:=OE.give o_x0 fun b hb=>by simp [hb]
 refine wq <| Wq rfl (cr [] w) <| Qa (Ai rfl) <| fun wd1 hC2=>anz <| wq <| wq <| Wq rfl hC2 <| Qa (Ai rfl) <| fun wd3 hC4=>anz <| Wf (S1:=Int×Int×(List Int)) (fun s r w'=>match s with | (s0_1,s0_5,s0_o_x0)=>Chg f_x0 w w'∧OE f_x0 w.heap.size w' (sOwn 2 (sInt .i64)) [v_x0] (s0_o_x0) f_x0∧∃ F,r=updL F [(0,v_x0),(1,.int .i64 (s0_1)),(5,.int .i64 (s0_5))]) (laws_markInt64S_T v_x0 f_x0 w) ho ⟨(hB.trans (Chg.nil hC4)),(ko o_x0 hC4),fe rfl⟩ ?_ ?_
 rintro ⟨s0_1,s0_5,s0_o_x0⟩ _ wd5 ⟨hB,o_x0,F,rfl⟩ o ho
 replace ho:laws_markInt64S_L0 s0_1 s0_5 s0_o_x0=some o:=ho
 unfold laws_markInt64S_L0 at ho
 refine wq <| wq <| Wq rfl (cr [] wd5) <| Qa (Mi rfl) <| Qa (Mv v_x0 rfl) <| Qa (Ln sl22 ((Le.own (Le.refl _) 2).le o_x0.1) rfl) <| Qa (Bl rfl rfl) <| fun wd6 hC7=>anz <| W_cond (b:=decide (s0_5 < (s0_o_x0.length:Int))) rfl ?_ ?_
 intro hb8
 rw [hb8] at ho
 refine W_skip <| anz <| wq <| W_block <| wq <| W_region rfl <| Wb (Mv v_x0 rfl) <| Wb (Mi rfl) <| Wb (Mi rfl) <| ?_
 obtain ⟨e9,hx10e,ho⟩:=bs ho
 have hx10:=idx_some hx10e
 refine Wa hC7 (Ix sl22 ((Le.own (Le.refl _) 2).le o_x0.1) hx10 rfl rfl rfl) <| WL.storeEl (z':=s0_1) _ _ sInt_nofp rfl info2 sz2 (ko o_x0 hC7) hx10.2 rfl rfl ⟨rfl,rfl⟩ fun qn pb o13=>?_
 have p01:=(hC7.nil (G:=f_x0)).trans pb
 replace hB:=hB.then p01 o_x0.2.2
 refine anz <| Wq rfl (cr [] qn) <| Qa (Mi rfl) <| Qa (Ba rfl rfl) <| Qa (Ai rfl) <| fun nd kj=>inBlk_n <| anz <| Wq rfl kj <| Qa (Mi rfl) <| Qa (Ba rfl rfl) <| Qa (Ai rfl) <| fun p1l ne=>?_
 cases ho
 exact ⟨(hB.trans (Chg.nil ne)),(ko o13 ne),fe rfl⟩
 intro hb8
 rw [hb8] at ho
 refine W_exit <| andThen_x <| ?_
 cases ho
 exact ⟨rfl,⟨(hB.trans (Chg.nil hC7)),(ko o_x0 hC7),fe rfl⟩⟩
 rintro ⟨s0_1,s0_5,s0_o_x0⟩ _ n8 ⟨hB,o_x0,F,rfl⟩ ho
 dsimp only at ho
 refine anz <| wq <| Wq rfl (cr [] n8) <| Qa (Mi rfl) <| Qa (Ai rfl) <| fun kk qr=>anz <| ?_
 cases ho
 exact W_ret ⟨_,res_1 Tryz.results25,_,rfl,(hB.trans (Chg.nil qr)),(ko o_x0 qr)⟩

abbrev laws_markInt64SS_post (v_x0:Value) (f_x0:List Nat) (w:World) (x:(Int×(List (List Int)))) (e:Ending) (w':World):Prop:=∃ (f0:List Nat),e = .returned (.int .i64 x.1)∧Chg f_x0 w w'∧OE f_x0 w.heap.size w' (sOwn 22 (sOwn 2 (sInt .i64))) [v_x0] x.2 f0
abbrev laws_markInt64SS_T (v_x0:Value) (f_x0:List Nat) (w:World):=Tm Tryz.prog Tryz.f30 19 (laws_markInt64SS_post v_x0 f_x0 w)
theorem laws_markInt64SS_calls {w:World} {x0:(List (List Int))} {v_x0:Value} {f_x0:List Nat} {x1:Int} (o_x0:OE f_x0 w.heap.size w (sOwn 22 (sOwn 2 (sInt .i64))) [v_x0] x0 f_x0) {y:(Int×(List (List Int)))} (hm:laws_markInt64SS x0 x1=some y) :
  Calls Tryz.prog 30 #[v_x0,.int .i64 (x1)] w (laws_markInt64SS_post v_x0 f_x0 w y):=by
 refine Cm (S:=Unit) Tryz.func30 rfl Tryz.ntmps30 rfl hm fun o ho hB=>?_
 clear hm
 have hB:Chg f_x0 w w:=cr _ _
 replace o_x0:OE f_x0 w.heap.size w (sOwn 22 (sOwn 2 (sInt .i64))) [v_x0] x0 f_x0:=OE.give o_x0 fun b hb=>by simp [hb]
 refine wq <| Wq rfl (cr [] w) <| Qa (Ai rfl) <| fun wd1 hC2=>anz <| wq <| wq <| Wq rfl hC2 <| Qa (Ai rfl) <| fun wd3 hC4=>anz <| Wf (S1:=Int×Int×(List (List Int))) (fun s r w'=>match s with | (s0_1,s0_5,s0_o_x0)=>∃ (f5:List Nat),Chg f_x0 w w'∧OE f_x0 w.heap.size w' (sOwn 22 (sOwn 2 (sInt .i64))) [v_x0] (s0_o_x0) f5∧∃ F,r=updL F [(0,v_x0),(1,.int .i64 (s0_1)),(5,.int .i64 (s0_5))]) (laws_markInt64SS_T v_x0 f_x0 w) ho ⟨_,(hB.trans (Chg.nil hC4)),(ko o_x0 hC4),fe rfl⟩ ?_ ?_
 rintro ⟨s0_1,s0_5,s0_o_x0⟩ _ wd6 ⟨f5,hB,o_x0,F,rfl⟩ o ho
 replace ho:laws_markInt64SS_L0 s0_1 s0_5 s0_o_x0=some o:=ho
 unfold laws_markInt64SS_L0 at ho
 refine wq <| wq <| Wq rfl (cr [] wd6) <| Qa (Mi rfl) <| Qa (Mv v_x0 rfl) <| Qa (Ln sl23 ((Le.own (Le.own (Le.refl _) 2) 22).le o_x0.1) rfl) <| Qa (Bl rfl rfl) <| fun wd7 hC8=>anz <| W_cond (b:=decide (s0_5 < (s0_o_x0.length:Int))) rfl ?_ ?_
 intro hb9
 rw [hb9] at ho
 refine W_skip <| anz <| wq <| W_block <| W_region rfl <| Wb (Mv v_x0 rfl) <| Wb (Mi rfl) <| ?_
 obtain ⟨e10,hx11e,ho⟩:=bs ho
 have hx11:=idx_some hx11e
 refine Wa hC8 (Ix sl23 ((Le.own (Le.own (Le.refl _) 2) 22).le o_x0.1) hx11 rfl rfl rfl) <| ?_
 obtain ⟨u12,fu13,hu14,qs,hs16⟩:=one_get rfl ((Le.own (Le.own (Le.refl _) 2) 22).le o_x0.1) hx11.1 hx11.2
 refine Wa hC8 (Ld na22 hu14 rfl) <| Wb (Mi rfl) <| ?_
 have pk:=hC8.trans (cr [] wd7)
 replace hu14:=pk.cell0 hu14
 replace qs:=kp _ qs pk
 replace o_x0:=ko o_x0 pk
 replace hB:=(hB.trans (Chg.nil pk))
 obtain ⟨k18,kl,hk20,hf21⟩:=own_focus rfl hB.size o_x0 hx11.2 hu14
 obtain ⟨y22,km,ho⟩:=bs ho
 refine WL.call rfl (op_callF Tryz.func25 rfl rfl) (laws_markInt64S_calls (OE.give (B':=wd7.heap.size) kl fun _ h=>h) km) <| ?_
 rintro _ kn ⟨f26,rfl,qt,kq⟩
 refine ⟨_,rfl,?_⟩
 obtain ⟨q8,p5,hs30⟩:=hf21 _ _ _ qt kq
 replace hB:=hB.then qt (fun b hb=>o_x0.2.2 b (hk20 b hb))
 refine Wb (Ai rfl) <| inBlk_n <| anz <| Wq rfl (cr [] kn) <| Qa (Mi rfl) <| Qa (Ba rfl rfl) <| Qa (Ai rfl) <| fun p03 qu=>?_
 cases ho
 exact ⟨_,(hB.trans (Chg.nil qu)),(ko p5 qu),fe rfl⟩
 intro hb9
 rw [hb9] at ho
 refine W_exit <| andThen_x <| ?_
 cases ho
 exact ⟨rfl,⟨_,(hB.trans (Chg.nil hC8)),(ko o_x0 hC8),fe rfl⟩⟩
 rintro ⟨s0_1,s0_5,s0_o_x0⟩ _ ks ⟨f5,hB,o_x0,F,rfl⟩ ho
 dsimp only at ho
 refine anz <| wq <| Wq rfl (cr [] ks) <| Qa (Mi rfl) <| Qa (Ai rfl) <| fun kb pj=>anz <| ?_
 cases ho
 exact W_ret ⟨_,res_1 Tryz.results30,_,rfl,(hB.trans (Chg.nil pj)),(ko o_x0 pj)⟩

abbrev laws_markCategory_post (z2:Value) (zf:List Nat) (z1:Value) (zg:List Nat) (z7:Value) (zh:List Nat) (z6:Value) (zi:List Nat) (w:World) (x:(Int×(List Int)×(List Int)×(List Int)×(List (List Int)))) (e:Ending) (w':World):Prop:=∃ (f0:List Nat) (f1:List Nat) (f2:List Nat) (f3:List Nat),e = .returned (.int .i64 x.1)∧Chg (zf++(zg++(zh++zi))) w w'∧OE (zf++(zg++(zh++zi))) w.heap.size w' (sOwn 2 (sInt .i64)) [z2] x.2.1 f0∧OE (zf++(zg++(zh++zi))) w.heap.size w' (sOwn 2 (sInt .i64)) [z1] x.2.2.1 f1∧OE (zf++(zg++(zh++zi))) w.heap.size w' (sOwn 2 (sInt .i64)) [z7] x.2.2.2.1 f2∧OE (zf++(zg++(zh++zi))) w.heap.size w' (sOwn 22 (sOwn 2 (sInt .i64))) [z6] x.2.2.2.2 f3∧Dis f0 f1∧Dis f0 f2∧Dis f0 f3∧Dis f1 f2∧Dis f1 f3∧Dis f2 f3
abbrev laws_markCategory_T (z2:Value) (zf:List Nat) (z1:Value) (zg:List Nat) (z7:Value) (zh:List Nat) (z6:Value) (zi:List Nat) (w:World):=Tm Tryz.prog Tryz.f43 22 (laws_markCategory_post z2 zf z1 zg z7 zh z6 zi w)
theorem laws_markCategory_calls {w:World} {x0:MCategory} {z2:Value} {zf:List Nat} {z1:Value} {zg:List Nat} {z7:Value} {zh:List Nat} {z6:Value} {zi:List Nat} {x1:Int} (o_x0_From:OE zf w.heap.size w (sOwn 2 (sInt .i64)) [z2] x0.From zf) (o_x0_To:OE zg w.heap.size w (sOwn 2 (sInt .i64)) [z1] x0.To zg) (o_x0_Identity:OE zh w.heap.size w (sOwn 2 (sInt .i64)) [z7] x0.Identity zh) (o_x0_Composites:OE zi w.heap.size w (sOwn 22 (sOwn 2 (sInt .i64))) [z6] x0.Composites zi) (d_0_1:Dis zf zg) (d_0_2:Dis zf zh) (d_0_3:Dis zf zi) (d_1_2:Dis zg zh) (d_1_3:Dis zg zi) (d_2_3:Dis zh zi) {y:(Int×(List Int)×(List Int)×(List Int)×(List (List Int)))} (hm:laws_markCategory x0 x1=some y) :
  Calls Tryz.prog 43 #[.agg #[.int .i64 (x0.Objects),z2,z1,z7,z6],.int .i64 (x1)] w (laws_markCategory_post z2 zf z1 zg z7 zh z6 zi w y):=by
 refine Cm (S:=Unit) Tryz.func43 rfl Tryz.ntmps43 rfl hm fun o ho hB=>?_
 clear hm
 have hB:Chg (zf++(zg++(zh++zi))) w w:=cr _ _
 replace o_x0_From:OE (zf++(zg++(zh++zi))) w.heap.size w (sOwn 2 (sInt .i64)) [z2] x0.From zf:=OE.give o_x0_From fun b hb=>by simp [hb]
 replace o_x0_To:OE (zf++(zg++(zh++zi))) w.heap.size w (sOwn 2 (sInt .i64)) [z1] x0.To zg:=OE.give o_x0_To fun b hb=>by simp [hb]
 replace o_x0_Identity:OE (zf++(zg++(zh++zi))) w.heap.size w (sOwn 2 (sInt .i64)) [z7] x0.Identity zh:=OE.give o_x0_Identity fun b hb=>by simp [hb]
 replace o_x0_Composites:OE (zf++(zg++(zh++zi))) w.heap.size w (sOwn 22 (sOwn 2 (sInt .i64))) [z6] x0.Composites zi:=OE.give o_x0_Composites fun b hb=>by simp [hb]
 refine wq <| W_region rfl <| WL.box fun b1 wd2 hC3 hr4 hl5=>?_
 replace hr4:Row wd2 b1 [.int .i64 (x0.Objects),z2,z1,z7,z6] 32:=hr4
 have d7:=dl (onw hl5) (sl _ o_x0_From.1)
 have d8:=dl (onw hl5) (sl _ o_x0_To.1)
 have d9:=dl (onw hl5) (sl _ o_x0_Identity.1)
 have kt:=dl (onw hl5) (sl _ o_x0_Composites.1)
 replace o_x0_From:=ko o_x0_From hC3
 replace o_x0_To:=ko o_x0_To hC3
 replace o_x0_Identity:=ko o_x0_Identity hC3
 replace o_x0_Composites:=ko o_x0_Composites hC3
 replace hB:=(hB.trans (Chg.nil hC3))
 refine Wb (Ai rfl) <| anz <| wq <| W_region rfl <| Wb (Fr fa32_1 rfl) <| Wb (Lr na22 hr4 rfl rfl) <| Wb (Mi rfl) <| ?_
 obtain ⟨y12,p04,ho⟩:=bs ho
 refine WL.call rfl (op_callF Tryz.func25 rfl rfl) (laws_markInt64S_calls (OE.give (B':=wd2.heap.size) o_x0_From fun _ h=>h) p04) <| ?_
 rintro _ nf ⟨qw,rfl,pt,p9⟩
 refine ⟨_,rfl,?_⟩
 have ng:=dis_back p9 d_0_1 (sl _ o_x0_To.1)
 have nh:=dis_back p9 d_0_2 (sl _ o_x0_Identity.1)
 have ni:=dis_back p9 d_0_3 (sl _ o_x0_Composites.1)
 replace p9:=OE.back p9 o_x0_From.2.2 hB.size
 replace o_x0_To:=okp o_x0_To pt (Dis.symm d_0_1)
 replace o_x0_Identity:=okp o_x0_Identity pt (Dis.symm d_0_2)
 replace o_x0_Composites:=okp o_x0_Composites pt (Dis.symm d_0_3)
 replace hr4:=Row.keep hr4 pt ((Dis.symm (d7).symm) _ (ms rfl))
 replace hB:=hB.then pt o_x0_From.2.2
 refine Wb (Ai rfl) <| anz <| wq <| W_region rfl <| Wb (Fr fa32_2 rfl) <| Wb (Lr na22 hr4 rfl rfl) <| Wb (Mi rfl) <| ?_
 obtain ⟨y23,q7,ho⟩:=bs ho
 refine WL.call rfl (op_callF Tryz.func25 rfl rfl) (laws_markInt64S_calls (OE.give (B':=nf.heap.size) o_x0_To fun _ h=>h) q7) <| ?_
 rintro _ py ⟨f27,rfl,pa,pd⟩
 refine ⟨_,rfl,?_⟩
 have jl:=dis_back pd d_1_2 (sl _ o_x0_Identity.1)
 have pz:=dis_back pd d_1_3 (sl _ o_x0_Composites.1)
 have d32:=dis_back pd (ng).symm (sl _ p9.1)
 replace pd:=OE.back pd o_x0_To.2.2 hB.size
 replace o_x0_Identity:=okp o_x0_Identity pa (Dis.symm d_1_2)
 replace o_x0_Composites:=okp o_x0_Composites pa (Dis.symm d_1_3)
 replace hr4:=Row.keep hr4 pa ((Dis.symm (d8).symm) _ (ms rfl))
 replace p9:=okp p9 pa (Dis.symm (ng).symm)
 replace hB:=hB.then pa o_x0_To.2.2
 refine Wb (Ai rfl) <| anz <| wq <| W_region rfl <| Wb (Fr fa32_3 rfl) <| Wb (Lr na22 hr4 rfl rfl) <| Wb (Mi rfl) <| ?_
 obtain ⟨y34,p06,ho⟩:=bs ho
 refine WL.call rfl (op_callF Tryz.func25 rfl rfl) (laws_markInt64S_calls (OE.give (B':=py.heap.size) o_x0_Identity fun _ h=>h) p06) <| ?_
 rintro _ p07 ⟨f38,rfl,qx,pl⟩
 refine ⟨_,rfl,?_⟩
 have nj:=dis_back pl d_2_3 (sl _ o_x0_Composites.1)
 have d42:=dis_back pl (nh).symm (sl _ p9.1)
 have d43:=dis_back pl (jl).symm (sl _ pd.1)
 replace pl:=OE.back pl o_x0_Identity.2.2 hB.size
 replace o_x0_Composites:=okp o_x0_Composites qx (Dis.symm d_2_3)
 replace hr4:=Row.keep hr4 qx ((Dis.symm (d9).symm) _ (ms rfl))
 replace p9:=okp p9 qx (Dis.symm (nh).symm)
 replace pd:=okp pd qx (Dis.symm (jl).symm)
 replace hB:=hB.then qx o_x0_Identity.2.2
 refine Wb (Ai rfl) <| anz <| wq <| W_region rfl <| Wb (Fr fa32_4 rfl) <| Wb (Lr na23 hr4 rfl rfl) <| Wb (Mi rfl) <| ?_
 obtain ⟨y45,p0a,ho⟩:=bs ho
 refine WL.call rfl (op_callF Tryz.func30 rfl rfl) (laws_markInt64SS_calls (OE.give (B':=p07.heap.size) o_x0_Composites fun _ h=>h) p0a) <| ?_
 rintro _ nb ⟨f49,rfl,pr,q4⟩
 refine ⟨_,rfl,?_⟩
 have d52:=dis_back q4 (ni).symm (sl _ p9.1)
 have jo:=dis_back q4 (pz).symm (sl _ pd.1)
 have jp:=dis_back q4 (nj).symm (sl _ pl.1)
 replace q4:=OE.back q4 o_x0_Composites.2.2 hB.size
 replace hr4:=Row.keep hr4 pr ((Dis.symm (kt).symm) _ (ms rfl))
 replace p9:=okp p9 pr (Dis.symm (ni).symm)
 replace pd:=okp pd pr (Dis.symm (pz).symm)
 replace pl:=okp pl pr (Dis.symm (nj).symm)
 replace hB:=hB.then pr o_x0_Composites.2.2
 refine Wb (Ai rfl) <| anz <| wq <| Wq rfl (cr [] nb) <| Qa (Mi rfl) <| Qa (Ai rfl) <| fun nq pf=>anz <| ?_
 cases ho
 exact W_ret ⟨_,res_1 Tryz.results43,_,_,_,_,rfl,(hB.trans (Chg.nil pf)),(ko p9 pf),(ko pd pf),(ko pl pf),(ko q4 pf),((d32).symm),((d42).symm),((d52).symm),((d43).symm),((jo).symm),((jp).symm)⟩

abbrev laws_markInt64SSS_post (v_x0:Value) (f_x0:List Nat) (w:World) (x:(Int×(List (List (List Int))))) (e:Ending) (w':World):Prop:=∃ (f0:List Nat),e = .returned (.int .i64 x.1)∧Chg f_x0 w w'∧OE f_x0 w.heap.size w' (sOwn 23 (sOwn 22 (sOwn 2 (sInt .i64)))) [v_x0] x.2 f0
abbrev laws_markInt64SSS_T (v_x0:Value) (f_x0:List Nat) (w:World):=Tm Tryz.prog Tryz.f85 19 (laws_markInt64SSS_post v_x0 f_x0 w)
theorem laws_markInt64SSS_calls {w:World} {x0:(List (List (List Int)))} {v_x0:Value} {f_x0:List Nat} {x1:Int} (o_x0:OE f_x0 w.heap.size w (sOwn 23 (sOwn 22 (sOwn 2 (sInt .i64)))) [v_x0] x0 f_x0) {y:(Int×(List (List (List Int))))} (hm:laws_markInt64SSS x0 x1=some y) :
  Calls Tryz.prog 85 #[v_x0,.int .i64 (x1)] w (laws_markInt64SSS_post v_x0 f_x0 w y):=by
 refine Cm (S:=Unit) Tryz.func85 rfl Tryz.ntmps85 rfl hm fun o ho hB=>?_
 clear hm
 have hB:Chg f_x0 w w:=cr _ _
 replace o_x0:OE f_x0 w.heap.size w (sOwn 23 (sOwn 22 (sOwn 2 (sInt .i64)))) [v_x0] x0 f_x0:=OE.give o_x0 fun b hb=>by simp [hb]
 refine wq <| Wq rfl (cr [] w) <| Qa (Ai rfl) <| fun wd1 hC2=>anz <| wq <| wq <| Wq rfl hC2 <| Qa (Ai rfl) <| fun wd3 hC4=>anz <| Wf (S1:=Int×Int×(List (List (List Int)))) (fun s r w'=>match s with | (s0_1,s0_5,s0_o_x0)=>∃ (f5:List Nat),Chg f_x0 w w'∧OE f_x0 w.heap.size w' (sOwn 23 (sOwn 22 (sOwn 2 (sInt .i64)))) [v_x0] (s0_o_x0) f5∧∃ F,r=updL F [(0,v_x0),(1,.int .i64 (s0_1)),(5,.int .i64 (s0_5))]) (laws_markInt64SSS_T v_x0 f_x0 w) ho ⟨_,(hB.trans (Chg.nil hC4)),(ko o_x0 hC4),fe rfl⟩ ?_ ?_
 rintro ⟨s0_1,s0_5,s0_o_x0⟩ _ wd6 ⟨f5,hB,o_x0,F,rfl⟩ o ho
 replace ho:laws_markInt64SSS_L0 s0_1 s0_5 s0_o_x0=some o:=ho
 unfold laws_markInt64SSS_L0 at ho
 refine wq <| wq <| Wq rfl (cr [] wd6) <| Qa (Mi rfl) <| Qa (Mv v_x0 rfl) <| Qa (Ln sl26 ((Le.own (Le.own (Le.own (Le.refl _) 2) 22) 23).le o_x0.1) rfl) <| Qa (Bl rfl rfl) <| fun wd7 hC8=>anz <| W_cond (b:=decide (s0_5 < (s0_o_x0.length:Int))) rfl ?_ ?_
 intro hb9
 rw [hb9] at ho
 refine W_skip <| anz <| wq <| W_block <| W_region rfl <| Wb (Mv v_x0 rfl) <| Wb (Mi rfl) <| ?_
 obtain ⟨e10,hx11e,ho⟩:=bs ho
 have hx11:=idx_some hx11e
 refine Wa hC8 (Ix sl26 ((Le.own (Le.own (Le.own (Le.refl _) 2) 22) 23).le o_x0.1) hx11 rfl rfl rfl) <| ?_
 obtain ⟨u12,fu13,hu14,qs,hs16⟩:=one_get rfl ((Le.own (Le.own (Le.own (Le.refl _) 2) 22) 23).le o_x0.1) hx11.1 hx11.2
 refine Wa hC8 (Ld na23 hu14 rfl) <| Wb (Mi rfl) <| ?_
 have pk:=hC8.trans (cr [] wd7)
 replace hu14:=pk.cell0 hu14
 replace qs:=kp _ qs pk
 replace o_x0:=ko o_x0 pk
 replace hB:=(hB.trans (Chg.nil pk))
 obtain ⟨k18,kl,hk20,hf21⟩:=own_focus rfl hB.size o_x0 hx11.2 hu14
 obtain ⟨y22,km,ho⟩:=bs ho
 refine WL.call rfl (op_callF Tryz.func30 rfl rfl) (laws_markInt64SS_calls (OE.give (B':=wd7.heap.size) kl fun _ h=>h) km) <| ?_
 rintro _ kn ⟨f26,rfl,qt,kq⟩
 refine ⟨_,rfl,?_⟩
 obtain ⟨q8,p5,hs30⟩:=hf21 _ _ _ qt kq
 replace hB:=hB.then qt (fun b hb=>o_x0.2.2 b (hk20 b hb))
 refine Wb (Ai rfl) <| inBlk_n <| anz <| Wq rfl (cr [] kn) <| Qa (Mi rfl) <| Qa (Ba rfl rfl) <| Qa (Ai rfl) <| fun p03 qu=>?_
 cases ho
 exact ⟨_,(hB.trans (Chg.nil qu)),(ko p5 qu),fe rfl⟩
 intro hb9
 rw [hb9] at ho
 refine W_exit <| andThen_x <| ?_
 cases ho
 exact ⟨rfl,⟨_,(hB.trans (Chg.nil hC8)),(ko o_x0 hC8),fe rfl⟩⟩
 rintro ⟨s0_1,s0_5,s0_o_x0⟩ _ ks ⟨f5,hB,o_x0,F,rfl⟩ ho
 dsimp only at ho
 refine anz <| wq <| Wq rfl (cr [] ks) <| Qa (Mi rfl) <| Qa (Ai rfl) <| fun kb pj=>anz <| ?_
 cases ho
 exact W_ret ⟨_,res_1 Tryz.results85,_,rfl,(hB.trans (Chg.nil pj)),(ko o_x0 pj)⟩

abbrev laws_markTopology_post (zk:Value) (zo:List Nat) (zl:Value) (zp:List Nat) (zm:Value) (zq:List Nat) (zn:Value) (zr:List Nat) (ze:Value) (z8:List Nat) (w:World) (x:(Int×(List Int)×(List Int)×(List Int)×(List (List Int))×(List (List (List Int))))) (e:Ending) (w':World):Prop:=∃ (f0:List Nat) (f1:List Nat) (f2:List Nat) (f3:List Nat) (f4:List Nat),e = .returned (.int .i64 x.1)∧Chg (zo++(zp++(zq++(zr++z8)))) w w'∧OE (zo++(zp++(zq++(zr++z8)))) w.heap.size w' (sOwn 2 (sInt .i64)) [zk] x.2.1 f0∧OE (zo++(zp++(zq++(zr++z8)))) w.heap.size w' (sOwn 2 (sInt .i64)) [zl] x.2.2.1 f1∧OE (zo++(zp++(zq++(zr++z8)))) w.heap.size w' (sOwn 2 (sInt .i64)) [zm] x.2.2.2.1 f2∧OE (zo++(zp++(zq++(zr++z8)))) w.heap.size w' (sOwn 22 (sOwn 2 (sInt .i64))) [zn] x.2.2.2.2.1 f3∧OE (zo++(zp++(zq++(zr++z8)))) w.heap.size w' (sOwn 23 (sOwn 22 (sOwn 2 (sInt .i64)))) [ze] x.2.2.2.2.2 f4∧Dis f0 f1∧Dis f0 f2∧Dis f0 f3∧Dis f0 f4∧Dis f1 f2∧Dis f1 f3∧Dis f1 f4∧Dis f2 f3∧Dis f2 f4∧Dis f3 f4
abbrev laws_markTopology_T (zk:Value) (zo:List Nat) (zl:Value) (zp:List Nat) (zm:Value) (zq:List Nat) (zn:Value) (zr:List Nat) (ze:Value) (z8:List Nat) (w:World):=Tm Tryz.prog Tryz.f24 14 (laws_markTopology_post zk zo zl zp zm zq zn zr ze z8 w)
theorem laws_markTopology_calls {w:World} {x0:MTopology} {zk:Value} {zo:List Nat} {zl:Value} {zp:List Nat} {zm:Value} {zq:List Nat} {zn:Value} {zr:List Nat} {ze:Value} {z8:List Nat} {x1:Int} (o_x0_Shape_From:OE zo w.heap.size w (sOwn 2 (sInt .i64)) [zk] x0.Shape.From zo) (o_x0_Shape_To:OE zp w.heap.size w (sOwn 2 (sInt .i64)) [zl] x0.Shape.To zp) (o_x0_Shape_Identity:OE zq w.heap.size w (sOwn 2 (sInt .i64)) [zm] x0.Shape.Identity zq) (o_x0_Shape_Composites:OE zr w.heap.size w (sOwn 22 (sOwn 2 (sInt .i64))) [zn] x0.Shape.Composites zr) (o_x0_Covers:OE z8 w.heap.size w (sOwn 23 (sOwn 22 (sOwn 2 (sInt .i64)))) [ze] x0.Covers z8) (d_0_1:Dis zo zp) (d_0_2:Dis zo zq) (d_0_3:Dis zo zr) (d_0_4:Dis zo z8) (d_1_2:Dis zp zq) (d_1_3:Dis zp zr) (d_1_4:Dis zp z8) (d_2_3:Dis zq zr) (d_2_4:Dis zq z8) (d_3_4:Dis zr z8) {y:(Int×(List Int)×(List Int)×(List Int)×(List (List Int))×(List (List (List Int))))} (hm:laws_markTopology x0 x1=some y) :
  Calls Tryz.prog 24 #[.agg #[.int .i64 (x0.Shape.Objects),zk,zl,zm,zn,ze],.int .i64 (x1)] w (laws_markTopology_post zk zo zl zp zm zq zn zr ze z8 w y):=by
 refine Cm (S:=Unit) Tryz.func24 rfl Tryz.ntmps24 rfl hm fun o ho hB=>?_
 clear hm
 have hB:Chg (zo++(zp++(zq++(zr++z8)))) w w:=cr _ _
 replace o_x0_Shape_From:OE (zo++(zp++(zq++(zr++z8)))) w.heap.size w (sOwn 2 (sInt .i64)) [zk] x0.Shape.From zo:=OE.give o_x0_Shape_From fun b hb=>by simp [hb]
 replace o_x0_Shape_To:OE (zo++(zp++(zq++(zr++z8)))) w.heap.size w (sOwn 2 (sInt .i64)) [zl] x0.Shape.To zp:=OE.give o_x0_Shape_To fun b hb=>by simp [hb]
 replace o_x0_Shape_Identity:OE (zo++(zp++(zq++(zr++z8)))) w.heap.size w (sOwn 2 (sInt .i64)) [zm] x0.Shape.Identity zq:=OE.give o_x0_Shape_Identity fun b hb=>by simp [hb]
 replace o_x0_Shape_Composites:OE (zo++(zp++(zq++(zr++z8)))) w.heap.size w (sOwn 22 (sOwn 2 (sInt .i64))) [zn] x0.Shape.Composites zr:=OE.give o_x0_Shape_Composites fun b hb=>by simp [hb]
 replace o_x0_Covers:OE (zo++(zp++(zq++(zr++z8)))) w.heap.size w (sOwn 23 (sOwn 22 (sOwn 2 (sInt .i64)))) [ze] x0.Covers z8:=OE.give o_x0_Covers fun b hb=>by simp [hb]
 refine wq <| W_region rfl <| WL.box fun b1 wd2 hC3 hr4 hl5=>?_
 replace hr4:Row wd2 b1 [.int .i64 (x0.Shape.Objects),zk,zl,zm,zn,ze] 34:=hr4
 have d7:=dl (onw hl5) (sl _ o_x0_Shape_From.1)
 have d8:=dl (onw hl5) (sl _ o_x0_Shape_To.1)
 have d9:=dl (onw hl5) (sl _ o_x0_Shape_Identity.1)
 have kt:=dl (onw hl5) (sl _ o_x0_Shape_Composites.1)
 have d11:=dl (onw hl5) (sl _ o_x0_Covers.1)
 replace o_x0_Shape_From:=ko o_x0_Shape_From hC3
 replace o_x0_Shape_To:=ko o_x0_Shape_To hC3
 replace o_x0_Shape_Identity:=ko o_x0_Shape_Identity hC3
 replace o_x0_Shape_Composites:=ko o_x0_Shape_Composites hC3
 replace o_x0_Covers:=ko o_x0_Covers hC3
 replace hB:=(hB.trans (Chg.nil hC3))
 refine Wb (Ai rfl) <| anz <| wq <| W_region rfl <| Wb (Fr fa34_0 rfl) <| ?_
 refine WL.val (v:=.agg #[.int .i64 (x0.Shape.Objects),zk,zl,zm,zn]) rfl (op_loadAgg (cs:=[.int .i64 (x0.Shape.Objects),zk,zl,zm,zn]) u32 rfl info32 (by rw [sz32]; rfl) rfl (At.sub hr4.at 0 5)) ?_
 refine Wb (Mi rfl) <| ?_
 obtain ⟨y13,p0d,ho⟩:=bs ho
 refine WL.call rfl (op_callF Tryz.func43 rfl rfl) (laws_markCategory_calls (OE.give (B':=wd2.heap.size) o_x0_Shape_From fun _ h=>h) (OE.give (B':=wd2.heap.size) o_x0_Shape_To fun _ h=>h) (OE.give (B':=wd2.heap.size) o_x0_Shape_Identity fun _ h=>h) (OE.give (B':=wd2.heap.size) o_x0_Shape_Composites fun _ h=>h) d_0_1 d_0_2 d_0_3 d_1_2 d_1_3 d_2_3 p0d) <| ?_
 rintro _ nd ⟨f17,f19,f21,f23,rfl,kj,pu,pv,pw,pc,jm,d26,d27,d28,jl,pz⟩
 refine ⟨_,rfl,?_⟩
 have qy:=dis_back pu (da d_0_4 (da d_1_4 (da d_2_4 d_3_4))) (sl _ o_x0_Covers.1)
 have nk:=dis_back pv (da d_0_4 (da d_1_4 (da d_2_4 d_3_4))) (sl _ o_x0_Covers.1)
 have pp:=dis_back pw (da d_0_4 (da d_1_4 (da d_2_4 d_3_4))) (sl _ o_x0_Covers.1)
 have nl:=dis_back pc (da d_0_4 (da d_1_4 (da d_2_4 d_3_4))) (sl _ o_x0_Covers.1)
 replace pu:=OE.back pu (low_app o_x0_Shape_From.2.2 (low_app o_x0_Shape_To.2.2 (low_app o_x0_Shape_Identity.2.2 o_x0_Shape_Composites.2.2))) hB.size
 replace pv:=OE.back pv (low_app o_x0_Shape_From.2.2 (low_app o_x0_Shape_To.2.2 (low_app o_x0_Shape_Identity.2.2 o_x0_Shape_Composites.2.2))) hB.size
 replace pw:=OE.back pw (low_app o_x0_Shape_From.2.2 (low_app o_x0_Shape_To.2.2 (low_app o_x0_Shape_Identity.2.2 o_x0_Shape_Composites.2.2))) hB.size
 replace pc:=OE.back pc (low_app o_x0_Shape_From.2.2 (low_app o_x0_Shape_To.2.2 (low_app o_x0_Shape_Identity.2.2 o_x0_Shape_Composites.2.2))) hB.size
 have ku:=((cr [] wd2).nil (G:=(zo++(zp++(zq++zr))))).trans kj
 replace o_x0_Covers:=okp o_x0_Covers ku (Dis.symm (da d_0_4 (da d_1_4 (da d_2_4 d_3_4))))
 replace hr4:=Row.keep hr4 ku ((Dis.symm (da (d7).symm (da (d8).symm (da (d9).symm (kt).symm)))) _ (ms rfl))
 replace hB:=hB.then ku (low_app o_x0_Shape_From.2.2 (low_app o_x0_Shape_To.2.2 (low_app o_x0_Shape_Identity.2.2 o_x0_Shape_Composites.2.2)))
 refine Wb (Ai rfl) <| anz <| wq <| W_region rfl <| Wb (Fr fa34_1 rfl) <| Wb (Lr na26 hr4 rfl rfl) <| Wb (Mi rfl) <| ?_
 obtain ⟨y40,p0i,ho⟩:=bs ho
 refine WL.call rfl (op_callF Tryz.func85 rfl rfl) (laws_markInt64SSS_calls (OE.give (B':=nd.heap.size) o_x0_Covers fun _ h=>h) p0i) <| ?_
 rintro _ p0j ⟨f44,rfl,q5,px⟩
 refine ⟨_,rfl,?_⟩
 have d47:=dis_back px (qy).symm (sl _ pu.1)
 have d48:=dis_back px (nk).symm (sl _ pv.1)
 have d49:=dis_back px (pp).symm (sl _ pw.1)
 have d50:=dis_back px (nl).symm (sl _ pc.1)
 replace px:=OE.back px o_x0_Covers.2.2 hB.size
 replace hr4:=Row.keep hr4 q5 ((Dis.symm (d11).symm) _ (ms rfl))
 replace pu:=okp pu q5 (Dis.symm (qy).symm)
 replace pv:=okp pv q5 (Dis.symm (nk).symm)
 replace pw:=okp pw q5 (Dis.symm (pp).symm)
 replace pc:=okp pc q5 (Dis.symm (nl).symm)
 replace hB:=hB.then q5 o_x0_Covers.2.2
 refine Wb (Ai rfl) <| anz <| wq <| Wq rfl (cr [] p0j) <| Qa (Mi rfl) <| Qa (Ai rfl) <| fun p1t q6=>anz <| ?_
 cases ho
 exact W_ret ⟨_,res_1 Tryz.results24,_,_,_,_,_,rfl,(hB.trans (Chg.nil q6)),(ko pu q6),(ko pv q6),(ko pw q6),(ko pc q6),(ko px q6),jm,d26,d27,((d47).symm),d28,jl,((d48).symm),pz,((d49).symm),((d50).symm)⟩

abbrev laws_heldInt64S_post (w:World) (x:(Int)) (e:Ending) (w':World):Prop:=e = .returned (.int .i64 x)∧Chg [] w w'
abbrev laws_heldInt64S_T (w:World):=Tm Tryz.prog Tryz.f26 21 (laws_heldInt64S_post w)
theorem laws_heldInt64S_calls {w:World} {x0:(List Int)} {v_x0:Value} {f_x0:List Nat} {x1:Int} (h_x0:(sImm (sInt .i64)).rep w.heap [v_x0] x0 f_x0) {y:(Int)} (hm:laws_heldInt64S x0 x1=some y) :
  Calls Tryz.prog 26 #[v_x0,.int .i64 (x1)] w (laws_heldInt64S_post w y):=by
 refine Cm (S:=Unit) Tryz.func26 rfl Tryz.ntmps26 rfl hm fun o ho hB=>?_
 clear hm
 refine wq <| Wq rfl (cr [] w) <| Qa (Ai rfl) <| fun wd1 hC2=>anz <| wq <| wq <| Wq rfl hC2 <| Qa (Ai rfl) <| fun wd3 hC4=>anz <| Wf (S1:=Int×Int) (fun s r w'=>match s with | (s0_1,s0_5)=>Chg [] w w'∧∃ F,r=updL F [(0,v_x0),(1,.int .i64 (s0_1)),(5,.int .i64 (s0_5))]) (laws_heldInt64S_T w) ho ⟨(hB.trans hC4),fe rfl⟩ ?_ ?_
 rintro ⟨s0_1,s0_5⟩ _ wd5 ⟨hB,F,rfl⟩ o ho
 replace ho:laws_heldInt64S_L0 x0 s0_1 s0_5=some o:=ho
 unfold laws_heldInt64S_L0 at ho
 refine wq <| wq <| Wq rfl (cr [] wd5) <| Qa (Mi rfl) <| Qa (Mv v_x0 rfl) <| Qa (Ln sl22 (kB h_x0 hB) rfl) <| Qa (Bl rfl rfl) <| fun wd6 hC7=>anz <| W_cond (b:=decide (s0_5 < (x0.length:Int))) rfl ?_ ?_
 intro hb8
 rw [hb8] at ho
 refine W_skip <| anz <| wq <| W_block <| wq <| wq <| Wq rfl hC7 <| Qa (Mv v_x0 rfl) <| Qa (Mi rfl) <| ?_
 obtain ⟨e9,hx10e,ho⟩:=bs ho
 have hx10:=idx_some hx10e
 refine Qa (Ix sl22 (kB h_x0 hB) hx10 rfl rfl rfl) <| Qa (Ei na2 (kB h_x0 hB) hx10 rfl) <| Qa (Mi rfl) <| Qa (Bn rfl rfl) <| fun qn pb=>anz <| W_cond (b:=(e9) != (s0_1)) rfl ?_ ?_
 intro p8
 rw [p8] at ho
 refine wq <| Wq rfl pb <| Qa (Ai rfl) <| fun nf pt=>anz <| ?_
 cases ho
 exact W_ret ⟨_,res_1 Tryz.results26,rfl,(hB.trans pt)⟩
 intro p8
 rw [p8] at ho
 refine W_skip <| anz <| Wq rfl pb <| Qa (Mi rfl) <| Qa (Ba rfl rfl) <| Qa (Ai rfl) <| fun gt jk=>inBlk_n <| anz <| Wq rfl jk <| Qa (Mi rfl) <| Qa (Ba rfl rfl) <| Qa (Ai rfl) <| fun qo pi=>?_
 cases ho
 exact ⟨(hB.trans pi),fe rfl⟩
 intro hb8
 rw [hb8] at ho
 refine W_exit <| andThen_x <| ?_
 cases ho
 exact ⟨rfl,⟨(hB.trans hC7),fe rfl⟩⟩
 rintro ⟨s0_1,s0_5⟩ _ kk ⟨hB,F,rfl⟩ ho
 dsimp only at ho
 refine anz <| wq <| Wq rfl (cr [] kk) <| Qa (Mi rfl) <| Qa (Ai rfl) <| fun k6 pn=>anz <| ?_
 cases ho
 exact W_ret ⟨_,res_1 Tryz.results26,rfl,(hB.trans pn)⟩

abbrev laws_heldInt64SS_post (w:World) (x:(Int)) (e:Ending) (w':World):Prop:=e = .returned (.int .i64 x)∧Chg [] w w'
abbrev laws_heldInt64SS_T (w:World):=Tm Tryz.prog Tryz.f31 21 (laws_heldInt64SS_post w)
theorem laws_heldInt64SS_calls {w:World} {x0:(List (List Int))} {v_x0:Value} {f_x0:List Nat} {x1:Int} (h_x0:(sImm (sImm (sInt .i64))).rep w.heap [v_x0] x0 f_x0) {y:(Int)} (hm:laws_heldInt64SS x0 x1=some y) :
  Calls Tryz.prog 31 #[v_x0,.int .i64 (x1)] w (laws_heldInt64SS_post w y):=by
 refine Cm (S:=Unit) Tryz.func31 rfl Tryz.ntmps31 rfl hm fun o ho hB=>?_
 clear hm
 refine wq <| Wq rfl (cr [] w) <| Qa (Ai rfl) <| fun wd1 hC2=>anz <| wq <| wq <| Wq rfl hC2 <| Qa (Ai rfl) <| fun wd3 hC4=>anz <| Wf (S1:=Int×Int) (fun s r w'=>match s with | (s0_1,s0_5)=>Chg [] w w'∧∃ F,r=updL F [(0,v_x0),(1,.int .i64 (s0_1)),(5,.int .i64 (s0_5))]) (laws_heldInt64SS_T w) ho ⟨(hB.trans hC4),fe rfl⟩ ?_ ?_
 rintro ⟨s0_1,s0_5⟩ _ wd5 ⟨hB,F,rfl⟩ o ho
 replace ho:laws_heldInt64SS_L0 x0 s0_1 s0_5=some o:=ho
 unfold laws_heldInt64SS_L0 at ho
 refine wq <| wq <| Wq rfl (cr [] wd5) <| Qa (Mi rfl) <| Qa (Mv v_x0 rfl) <| Qa (Ln sl23 (kB h_x0 hB) rfl) <| Qa (Bl rfl rfl) <| fun wd6 hC7=>anz <| W_cond (b:=decide (s0_5 < (x0.length:Int))) rfl ?_ ?_
 intro hb8
 rw [hb8] at ho
 refine W_skip <| anz <| wq <| W_block <| wq <| Wq rfl hC7 <| Qa (Mv v_x0 rfl) <| Qa (Mi rfl) <| ?_
 obtain ⟨e9,hx10e,ho⟩:=bs ho
 have hx10:=idx_some hx10e
 refine Qa (Ix sl23 (kB h_x0 hB) hx10 rfl rfl rfl) <| ?_
 obtain ⟨u11,fu12,hu13,p0o,hs15⟩:=one_get rfl h_x0 hx10.1 hx10.2
 refine Qa (Ld na22 (hB.cell0 hu13) rfl) <| Qa (Mi rfl) <| ?_
 obtain ⟨y16,kh,ho⟩:=bs ho
 refine Qc Tryz.func26 rfl rfl (fun _ hC=>laws_heldInt64S_calls (kp _ p0o (hB.trans hC)) kh) <| Qa (Ai rfl) <| fun qo pi=>anz <| wq <| Wq rfl pi <| Qa (Mi rfl) <| Qa (Bl rfl rfl) <| fun kk qr=>anz <| W_cond (b:=decide (y16 < (0:Int))) rfl ?_ ?_
 intro kv
 rw [kv] at ho
 refine wq <| Wq rfl qr <| Qa (Ai rfl) <| fun n6 q3=>anz <| ?_
 cases ho
 exact W_ret ⟨_,res_1 Tryz.results31,rfl,(hB.trans q3)⟩
 intro kv
 rw [kv] at ho
 refine W_skip <| inBlk_n <| anz <| Wq rfl qr <| Qa (Mi rfl) <| Qa (Ba rfl rfl) <| Qa (Ai rfl) <| fun py pa=>?_
 cases ho
 exact ⟨(hB.trans pa),fe rfl⟩
 intro hb8
 rw [hb8] at ho
 refine W_exit <| andThen_x <| ?_
 cases ho
 exact ⟨rfl,⟨(hB.trans hC7),fe rfl⟩⟩
 rintro ⟨s0_1,s0_5⟩ _ p0p ⟨hB,F,rfl⟩ ho
 dsimp only at ho
 refine anz <| wq <| Wq rfl (cr [] p0p) <| Qa (Mi rfl) <| Qa (Ai rfl) <| fun nc ki=>anz <| ?_
 cases ho
 exact W_ret ⟨_,res_1 Tryz.results31,rfl,(hB.trans ki)⟩

abbrev spec_l27Spread_post (v_x1:Value) (f_x1:List Nat) (w:World) (x:((List (List Bool)))) (e:Ending) (w':World):Prop:=∃ (f0:List Nat),e = .returned (.tuple #[])∧Chg f_x1 w w'∧OE f_x1 w.heap.size w' (sOwn 138 (sOwn 4 sBool)) [v_x1] x f0
abbrev spec_l27Spread_T (v_x1:Value) (f_x1:List Nat) (w:World):=Tm Tryz.prog Tryz.f91 7 (spec_l27Spread_post v_x1 f_x1 w)
theorem spec_l27Spread_calls {w:World} {x0:ML27Table} {zy:Value} {z17:List Nat} {zt:Value} {z18:List Nat} {z10:Value} {z19:List Nat} {z11:Value} {z1a:List Nat} {z13:Value} {z21:List Nat} {z14:Value} {z23:List Nat} {z15:Value} {z26:List Nat} {x1:(List (List Bool))} {v_x1:Value} {f_x1:List Nat} (z16:(sImm (sInt .i64)).rep w.heap [zy] x0.C.From z17) (z12:(sImm (sInt .i64)).rep w.heap [zt] x0.C.To z18) (z1b:(sImm (sInt .i64)).rep w.heap [z10] x0.C.Identity z19) (z1c:(sImm (sImm (sInt .i64))).rep w.heap [z11] x0.C.Composites z1a) (z1r:(sImm (sImm (sImm (sInt .i64)))).rep w.heap [z13] x0.Lists z21) (z1s:(sImm (sImm (sInt .i64))).rep w.heap [z14] x0.Pulls z23) (z27:(sImm (sInt .i64)).rep w.heap [z15] x0.Tops z26) (o_x1:OE f_x1 w.heap.size w (sOwn 138 (sOwn 4 sBool)) [v_x1] x1 f_x1) (n_h_x0_C_From:Dis z17 f_x1) (n_h_x0_C_To:Dis z18 f_x1) (n_h_x0_C_Identity:Dis z19 f_x1) (n_h_x0_C_Composites:Dis z1a f_x1) (n_h_x0_Lists:Dis z21 f_x1) (n_h_x0_Pulls:Dis z23 f_x1) (n_h_x0_Tops:Dis z26 f_x1) {y:((List (List Bool)))} (hm:spec_l27Spread x0 x1=some y) :
  Calls Tryz.prog 91 #[.agg #[.int .i64 (x0.C.Objects),zy,zt,z10,z11,z13,z14,z15],v_x1] w (spec_l27Spread_post v_x1 f_x1 w y):=by
 refine Cv (R:=((List (List Bool)))) Tryz.func91 rfl Tryz.ntmps91 rfl hm fun o ho hB=>?_
 clear hm
 have hB:Chg f_x1 w w:=cr _ _
 replace o_x1:OE f_x1 w.heap.size w (sOwn 138 (sOwn 4 sBool)) [v_x1] x1 f_x1:=OE.give o_x1 fun b hb=>by simp [hb]
 refine wq <| W_region rfl <| WL.box fun b8 wd9 po p3 kc=>?_
 replace p3:Row wd9 b8 [.int .i64 (x0.C.Objects),zy,zt,z10,z11,z13,z14,z15] 96:=p3
 have d14:=dl (onw kc) (sl _ o_x1.1)
 replace o_x1:=ko o_x1 po
 replace hB:=(hB.trans (Chg.nil po))
 refine anz <| Wf (S1:=(List (List Bool))) (fun (s0_o_x1:(List (List Bool))) r w'=>∃ (qw:List Nat),Chg f_x1 w w'∧OE f_x1 w.heap.size w' (sOwn 138 (sOwn 4 sBool)) [v_x1] (s0_o_x1) qw∧Row w' b8 [.int .i64 (x0.C.Objects),zy,zt,z10,z11,z13,z14,z15] 96∧Dis qw [b8]∧∃ F,r=updL F [(1,v_x1),(2,.pointer (some (⟨b8,0,none⟩)))]) (spec_l27Spread_T v_x1 f_x1 w) ho ⟨_,hB,o_x1,p3,((d14).symm),fe rfl⟩ ?_ ?_
 rintro s0_o_x1 _ qo ⟨qw,hB,o_x1,p3,kw,F,rfl⟩ o ho
 replace ho:spec_l27Spread_L0 x0 s0_o_x1=some o:=ho
 unfold spec_l27Spread_L0 at ho
 refine wq <| wq <| W_region rfl <| Wb (Lg ag96 p3.at rfl rfl) <| Wb (Mv v_x1 rfl) <| ?_
 obtain ⟨y19,p0r,ho⟩:=bs ho
 refine WL.call rfl (op_callF Tryz.func137 rfl rfl) (spec_l27Step_calls (STy.keep _ z16 hB n_h_x0_C_From) (STy.keep _ z12 hB n_h_x0_C_To) (STy.keep _ z1b hB n_h_x0_C_Identity) (STy.keep _ z1c hB n_h_x0_C_Composites) (STy.keep _ z1r hB n_h_x0_Lists) (STy.keep _ z1s hB n_h_x0_Pulls) (STy.keep _ z27 hB n_h_x0_Tops) (OE.give (B':=qo.heap.size) o_x1 fun _ h=>h) (dis_parF z16 n_h_x0_C_From o_x1.2.2) (dis_parF z12 n_h_x0_C_To o_x1.2.2) (dis_parF z1b n_h_x0_C_Identity o_x1.2.2) (dis_parF z1c n_h_x0_C_Composites o_x1.2.2) (dis_parF z1r n_h_x0_Lists o_x1.2.2) (dis_parF z1s n_h_x0_Pulls o_x1.2.2) (dis_parF z27 n_h_x0_Tops o_x1.2.2) p0r) <| ?_
 rintro _ k6 ⟨f23,rfl,pn,pc⟩
 refine ⟨_,rfl,?_⟩
 have jm:=dis_back pc kw (one_lt (Row.lt p3))
 replace pc:=OE.back pc o_x1.2.2 hB.size
 replace p3:=Row.keep p3 pn ((Dis.symm kw) _ (ms rfl))
 replace hB:=hB.then pn o_x1.2.2
 refine anz <| W_cond (b:=y19.1) rfl ?_ ?_
 intro ps
 rw [ps] at ho
 refine W_skip <| anz <| W_block <| W_skip <| inBlk_n <| ?_
 cases ho
 exact ⟨_,hB,pc,p3,jm,fe rfl⟩
 intro ps
 rw [ps] at ho
 refine W_exit <| andThen_x <| ?_
 cases ho
 exact ⟨rfl,⟨_,hB,pc,p3,jm,fe rfl⟩⟩
 rintro s0_o_x1 _ nc ⟨qw,hB,o_x1,p3,kw,F,rfl⟩ ho
 cases ho
 exact ⟨_,res_0 Tryz.results91,_,rfl,hB,o_x1⟩
end Go.Proofs.YtcmckiiafgcmjaaGreat
