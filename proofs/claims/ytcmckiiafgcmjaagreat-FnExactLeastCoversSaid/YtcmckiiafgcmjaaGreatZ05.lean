/- Walks, printed by a program: that a call of each function computes what its model says. No condition beside those that each theorem names. -/
import Derived.Test.YtcmckiiafgcmjaaGreatTy
import Derived.Test.YtcmckiiafgcmjaaGreatMo
import Derived.Test.YtcmckiiafgcmjaaGreatZ02
import Derived.Test.YtcmckiiafgcmjaaGreatZ03
import Derived.Test.YtcmckiiafgcmjaaGreatZ04
namespace Go.Proofs.YtcmckiiafgcmjaaGreat
open Go Go.Li
set_option linter.unusedVariables false
set_option maxHeartbeats 4000000
set_option maxRecDepth 100000
abbrev impl_coverage_locally_post (w:World) (x:(Bool)) (e:Ending) (w':World):Prop:=e = .returned (.bool x)∧Chg [] w w'
abbrev impl_coverage_locally_T (w:World):=Tm Tryz.prog Tryz.f211 36 (impl_coverage_locally_post w)
theorem impl_coverage_locally_calls {w:World} {x0:MCoverage} {p_x0:Addr} {p_x0_Classifier:Addr} {z1h:Value} {z1t:List Nat} {z1i:Value} {z1u:List Nat} {z1j:Value} {z1v:List Nat} {z1k:Value} {z1w:List Nat} {z1l:Value} {z1x:List Nat} {z1d:Value} {z1y:List Nat} {z1f:Value} {z20:List Nat} {p_x0_C:Addr} {zy:Value} {z19:List Nat} {zx:Value} {z1a:List Nat} {z10:Value} {z1b:List Nat} {z11:Value} {z1c:List Nat} {zj:Value} {zd:List Nat} {p_x0_Count:Addr} {x1:(List Int)} {v_x1:Value} {f_x1:List Nat} {x2:(List Int)} {v_x2:Value} {f_x2:List Nat} (z1m:(sImm (sInt .i64)).rep w.heap [z1h] x0.Classifier.Sets.Shape.From z1t) (z1n:(sImm (sInt .i64)).rep w.heap [z1i] x0.Classifier.Sets.Shape.To z1u) (z1o:(sImm (sInt .i64)).rep w.heap [z1j] x0.Classifier.Sets.Shape.Identity z1v) (z1p:(sImm (sImm (sInt .i64))).rep w.heap [z1k] x0.Classifier.Sets.Shape.Composites z1w) (z1q:(sImm (sInt .i64)).rep w.heap [z1l] x0.Classifier.Sets.Sizes z1x) (z1g:(sImm (sImm (sInt .i64))).rep w.heap [z1d] x0.Classifier.Sets.Actions z1y) (z1e:(sImm (sImm (sImm (sInt .i64)))).rep w.heap [z1f] x0.Classifier.Sieves z20) (a_x0_Classifier:At w p_x0_Classifier [.int .i64 (x0.Classifier.Sets.Shape.Objects),z1h,z1i,z1j,z1k,z1l,z1d,z1f]) (z13:(sImm (sInt .i64)).rep w.heap [zy] x0.C.From z19) (z12:(sImm (sInt .i64)).rep w.heap [zx] x0.C.To z1a) (z17:(sImm (sInt .i64)).rep w.heap [z10] x0.C.Identity z1b) (z18:(sImm (sImm (sInt .i64))).rep w.heap [z11] x0.C.Composites z1c) (a_x0_C:At w p_x0_C [.int .i64 (x0.C.Objects),zy,zx,z10,z11]) (zi:(sImm (sImm sBool)).rep w.heap [zj] x0.Covers zd) (a_x0_Count:At w p_x0_Count [.int .i64 (x0.Count)]) (a_x0:At w p_x0 [.pointer (some (p_x0_Classifier)),.pointer (some (p_x0_C)),zj,.pointer (some (p_x0_Count))]) (h_x1:(sImm (sInt .i64)).rep w.heap [v_x1] x1 f_x1) (h_x2:(sImm (sInt .i64)).rep w.heap [v_x2] x2 f_x2) {y:(Bool)} (hm:impl_coverage_locally x0 x1 x2=some y) :
  Calls Tryz.prog 211 #[.pointer (some (p_x0)),v_x1,v_x2] w (impl_coverage_locally_post w y):=by
 refine Cm (S:=Unit) Tryz.func211 rfl Tryz.ntmps211 rfl hm fun o ho hB=>?_
 clear hm
 refine wq <| Wq rfl (cr [] w) <| Qa (Ab rfl) <| fun wd1 hC2=>anz <| wq <| wq <| Wq rfl hC2 <| Qa (Mv v_x2 rfl) <| Qa (Ln sl114 (kB h_x2 hB) rfl) <| Qa (Mi rfl) <| fun wd3 hC4=>anz <| Wf (S1:=Int) (fun (s0_11:Int) r w'=>Chg [] w w'∧∃ F,r=updL F [(0,.pointer (some (p_x0))),(1,v_x1),(9,v_x2),(10,.int .i64 ((x2.length:Int))),(11,.int .i64 (s0_11))]) (impl_coverage_locally_T w) ho ⟨(hB.trans hC4),fe rfl⟩ ?_ ?_
 rintro s0_11 _ wd5 ⟨hB,F,rfl⟩ o ho
 replace ho:impl_coverage_locally_L0 x0 x1 x2 s0_11=some o:=ho
 unfold impl_coverage_locally_L0 at ho
 refine wq <| Wq rfl (cr [] wd5) <| Qa (Bl rfl rfl) <| fun wd6 hC7=>anz <| wq <| W_cond (b:=decide (s0_11 < (x2.length:Int))) rfl ?_ ?_
 intro hb8
 rw [hb8] at ho
 refine W_skip <| anz <| wq <| W_block <| wq <| Wq rfl hC7 <| ?_
 obtain ⟨e9,hx10e,ho⟩:=bs ho
 have hx10:=idx_some hx10e
 refine Qa (Ix sl114 (kB h_x2 hB) hx10 rfl rfl rfl) <| Qa (Ei na2 (kB h_x2 hB) hx10 rfl) <| Qa (Ai rfl) <| fun j2 p0=>anz <| wq <| ?_
 obtain ⟨e13,hx14e,ho⟩:=bs ho
 have hx14:=idx_some hx14e
 obtain ⟨y15,p12,ho⟩:=bs ho
 refine W_any (m:=18) (U:=.replicate 18 []) (S:=[sV (.pointer (some (p_x0))),sV (.pointer (some (p_x0))),sV (.pointer (some (p_x0))),sV (.pointer (some (p_x0.add 1))),sV (.pointer (some (p_x0_C))),sV (.pointer (some (p_x0_C))),sV (.pointer (some (p_x0_C.add 2))),sV (zx),sV (.int .i64 (e9)),sV (.pointer (some (elA (zx) 1 (e9)))),sV (.int .i64 (e13)),sV (.pointer (some (p_x0))),sV (.pointer (some (p_x0))),sV (.pointer (some (p_x0.add 1))),sV (.pointer (some (p_x0_C))),sV (.int .i64 (e9)),sV (v_x1),sO (sOwn 2 (sInt .i64)) (y15)]) (Z:=[]) hmix rfl (by decide) (by decide +kernel) (fun _ _ _ h=>np_out h) (by decide) rfl (by decide +kernel) (stable_all (by repeat first | exact stable_nil | refine stable_cons stable_val ?_ | refine stable_cons stable_own ?_)) ?_ ?_
 refine owes_cons ?_ <| owes_cons ?_ <| owes_cons ?_ <| owes_cons ?_ <| owes_cons ?_ <| owes_cons ?_ <| owes_cons ?_ <| owes_cons ?_ <| owes_cons ?_ <| owes_cons ?_ <| owes_cons ?_ <| owes_cons ?_ <| owes_cons ?_ <| owes_cons ?_ <| owes_cons ?_ <| owes_cons ?_ <| owes_cons ?_ <| owes_cons ?_ <| owes_nil
 exact Oh rfl rfl rfl [(0,.pointer (some (p_x0)))] p0 rfl rfl fun _=>Mp rfl
 exact Oh rfl rfl rfl [(0,.pointer (some (p_x0)))] p0 rfl rfl fun _=>Mp rfl
 exact Ov rfl rfl rfl [] [(16,.pointer (some (p_x0)))] [1] p0 rfl rfl (by decide +kernel) rfl fun _=>Nk rfl
 exact Ov rfl rfl rfl [] [(17,.pointer (some (p_x0)))] [2] p0 rfl rfl (by decide +kernel) rfl fun _=>Fp fa144_1 rfl
 exact Ov rfl rfl rfl [] [(18,.pointer (some (p_x0.add 1)))] [3] p0 rfl rfl (by decide +kernel) rfl fun _=>La na131 (At.keep0 a_x0 hB) rfl rfl
 exact Ov rfl rfl rfl [] [(19,.pointer (some (p_x0_C)))] [4] p0 rfl rfl (by decide +kernel) rfl fun _=>Nk rfl
 exact Ov rfl rfl rfl [] [(20,.pointer (some (p_x0_C)))] [5] p0 rfl rfl (by decide +kernel) rfl fun _=>Fp fa32_2 rfl
 exact Ov rfl rfl rfl [] [(21,.pointer (some (p_x0_C.add 2)))] [6] p0 rfl rfl (by decide +kernel) rfl fun _=>La na22 (At.keep0 a_x0_C hB) rfl rfl
 exact Oh rfl rfl rfl [(8,.int .i64 (e9))] p0 rfl rfl fun _=>Mi rfl
 exact Ov rfl rfl rfl [] [(22,zx),(23,.int .i64 (e9))] [7,8] p0 rfl rfl (by decide +kernel) rfl fun _=>Ix sl22 (kB z12 hB) hx14 rfl rfl rfl
 exact Ov rfl rfl rfl [] [(24,.pointer (some (elA (zx) 1 (e9))))] [9] p0 rfl rfl (by decide +kernel) rfl fun _=>Ei na2 (kB z12 hB) hx14 rfl
 exact Oh rfl rfl rfl [(0,.pointer (some (p_x0)))] p0 rfl rfl fun _=>Mp rfl
 exact Ov rfl rfl rfl [] [(26,.pointer (some (p_x0)))] [11] p0 rfl rfl (by decide +kernel) rfl fun _=>Nk rfl
 exact Ov rfl rfl rfl [] [(27,.pointer (some (p_x0)))] [12] p0 rfl rfl (by decide +kernel) rfl fun _=>Fp fa144_1 rfl
 exact Ov rfl rfl rfl [] [(28,.pointer (some (p_x0.add 1)))] [13] p0 rfl rfl (by decide +kernel) rfl fun _=>La na131 (At.keep0 a_x0 hB) rfl rfl
 exact Oh rfl rfl rfl [(8,.int .i64 (e9))] p0 rfl rfl fun _=>Mi rfl
 exact Oh rfl rfl rfl [(1,v_x1)] p0 rfl rfl fun _=>Mv v_x1 rfl
 refine Owes.mem rfl rfl rfl <| fun g r wr hCr H hot=>?_
 have hC:=p0.trans hCr
 obtain ⟨F,rfl⟩:=fr (r:=r) (l:=[(29,.pointer (some (p_x0_C))),(30,.int .i64 (e9)),(31,v_x1)]) ⟨(H 14 (by decide +kernel) 29 rfl),(H 15 (by decide +kernel) 30 rfl),(H 16 (by decide +kernel) 31 rfl),trivial⟩
 exact OpW.own (op_callF Tryz.func153 rfl rfl) (impl_Category_pull_calls (kp _ z13 (hB.trans hC)) (kp _ z12 (hB.trans hC)) (kp _ z17 (hB.trans hC)) (kp _ z18 (hB.trans hC)) (At.keep0 a_x0_C (hB.trans hC)) (kp _ h_x1 (hB.trans hC)) p12)
 rintro g r gh ⟨jh,hdone,hot,hfresh,hdis⟩
 have p5:OwnV (sOwn 2 (sInt .i64)) (y15) _ _ _:=hdone 17 (by decide) (by decide) 32 rfl
 generalize hvv17:r 32=v17 at p5
 have hfo19:=hfresh 17 (by decide)
 have hdd:=hdis
 obtain ⟨F,rfl⟩:=fw hdone hot [(0,.pointer (some (p_x0))),(1,v_x1),(9,v_x2),(10,.int .i64 ((x2.length:Int))),(11,.int .i64 (s0_11))] [(15,.pointer (some (p_x0))),(25,.int .i64 (e13))] [0,10] rfl rfl rfl rfl (z:=[(32,v17)]) ⟨hvv17,trivial⟩
 obtain ⟨ji,hgf18⟩ : ∃ k,k=g 17:=⟨_,rfl⟩
 rw [← hgf18] at p5 hfo19
 replace p5:OE [] w.heap.size gh (sOwn 2 (sInt .i64)) [v17] (y15) ji:=⟨p5.1,p5.2,fun b hb=>.inr (Nat.le_trans (hB.trans p0).size (hfo19 b hb).1)⟩
 have p13:=(p0.trans jh)
 replace hB:=(hB.trans p13)
 obtain ⟨y23,j3,ho⟩:=bs ho
 refine WL.call rfl (op_callF Tryz.func152 rfl rfl) (impl_coverage_is_calls (kp _ z1m hB) (kp _ z1n hB) (kp _ z1o hB) (kp _ z1p hB) (kp _ z1q hB) (kp _ z1g hB) (kp _ z1e hB) (At.keep0 a_x0_Classifier hB) (kp _ z13 hB) (kp _ z12 hB) (kp _ z17 hB) (kp _ z18 hB) (At.keep0 a_x0_C hB) (kp _ zi hB) (At.keep0 a_x0_Count hB) (At.keep0 a_x0 hB) ((Le.own (Le.refl _) 2).le p5.1) j3) <| ?_
 rintro _ j4 ⟨rfl,px⟩
 refine ⟨_,rfl,?_⟩
 refine Wb (Nt rfl) <| anz <| W_cond (b:=!(y23)) rfl ?_ ?_
 intro q7
 rw [q7] at ho
 refine wq <| Wq rfl px <| Qa (Ab rfl) <| fun gi ps=>anz <| ?_
 cases ho
 exact W_ret ⟨_,res_1 Tryz.results211,rfl,(hB.trans ps)⟩
 intro q7
 rw [q7] at ho
 refine W_skip <| inBlk_n <| anz <| Wq rfl px <| Qa (Ba rfl rfl) <| Qa (Mi rfl) <| fun jj pt=>?_
 cases ho
 exact ⟨(hB.trans pt),fe rfl⟩
 intro hb8
 rw [hb8] at ho
 refine W_exit <| andThen_x <| ?_
 cases ho
 exact ⟨rfl,⟨(hB.trans hC7),fe rfl⟩⟩
 rintro s0_11 _ gj ⟨hB,F,rfl⟩ ho
 refine anz <| wq <| Wq rfl (cr [] gj) <| Qa (Ab rfl) <| fun k0 q8=>anz <| ?_
 cases ho
 exact W_ret ⟨_,res_1 Tryz.results211,rfl,(hB.trans q8)⟩

abbrev impl_coverage_follows_isTop_post (b_x1a:Nat) (w:World) (x:(Bool)) (e:Ending) (w':World):Prop:=e = .returned (.tuple #[])∧Chg [b_x1a] w w'∧Row w' b_x1a [.bool x] 4
abbrev impl_coverage_follows_isTop_T (b_x1a:Nat) (w:World):=Tm Tryz.prog Tryz.f157 158 (impl_coverage_follows_isTop_post b_x1a w)
theorem impl_coverage_follows_isTop_calls {w:World} {x0:MCoverage} {p_x0:Addr} {p_x0_Classifier:Addr} {z1h:Value} {z1t:List Nat} {z1i:Value} {z1u:List Nat} {z1j:Value} {z1v:List Nat} {z1k:Value} {z1w:List Nat} {z1l:Value} {z1x:List Nat} {z1d:Value} {z1y:List Nat} {z1f:Value} {z20:List Nat} {p_x0_C:Addr} {zy:Value} {z19:List Nat} {zx:Value} {z1a:List Nat} {z10:Value} {z1b:List Nat} {z11:Value} {z1c:List Nat} {zj:Value} {zd:List Nat} {p_x0_Count:Addr} {x1a:Bool} {b_x1a:Nat} {p_x1b:Addr} (z1m:(sImm (sInt .i64)).rep w.heap [z1h] x0.Classifier.Sets.Shape.From z1t) (z1n:(sImm (sInt .i64)).rep w.heap [z1i] x0.Classifier.Sets.Shape.To z1u) (z1o:(sImm (sInt .i64)).rep w.heap [z1j] x0.Classifier.Sets.Shape.Identity z1v) (z1p:(sImm (sImm (sInt .i64))).rep w.heap [z1k] x0.Classifier.Sets.Shape.Composites z1w) (z1q:(sImm (sInt .i64)).rep w.heap [z1l] x0.Classifier.Sets.Sizes z1x) (z1g:(sImm (sImm (sInt .i64))).rep w.heap [z1d] x0.Classifier.Sets.Actions z1y) (z1e:(sImm (sImm (sImm (sInt .i64)))).rep w.heap [z1f] x0.Classifier.Sieves z20) (a_x0_Classifier:At w p_x0_Classifier [.int .i64 (x0.Classifier.Sets.Shape.Objects),z1h,z1i,z1j,z1k,z1l,z1d,z1f]) (z13:(sImm (sInt .i64)).rep w.heap [zy] x0.C.From z19) (z12:(sImm (sInt .i64)).rep w.heap [zx] x0.C.To z1a) (z17:(sImm (sInt .i64)).rep w.heap [z10] x0.C.Identity z1b) (z18:(sImm (sImm (sInt .i64))).rep w.heap [z11] x0.C.Composites z1c) (a_x0_C:At w p_x0_C [.int .i64 (x0.C.Objects),zy,zx,z10,z11]) (zi:(sImm (sImm sBool)).rep w.heap [zj] x0.Covers zd) (a_x0_Count:At w p_x0_Count [.int .i64 (x0.Count)]) (a_x0:At w p_x0 [.pointer (some (p_x0_Classifier)),.pointer (some (p_x0_C)),zj,.pointer (some (p_x0_Count))]) (r_x1a:Row w b_x1a [.bool (x1a)] 4) (a_x1b:At w p_x1b [.pointer (some (p_x0))]) (n_h_x0_Classifier_Sets_Shape_From:Dis z1t [b_x1a]) (n_h_x0_Classifier_Sets_Shape_To:Dis z1u [b_x1a]) (n_h_x0_Classifier_Sets_Shape_Identity:Dis z1v [b_x1a]) (n_h_x0_Classifier_Sets_Shape_Composites:Dis z1w [b_x1a]) (n_h_x0_Classifier_Sets_Sizes:Dis z1x [b_x1a]) (n_h_x0_Classifier_Sets_Actions:Dis z1y [b_x1a]) (n_h_x0_Classifier_Sieves:Dis z20 [b_x1a]) (n_x0_Classifier:p_x0_Classifier.block ∉ [b_x1a]) (n_h_x0_C_From:Dis z19 [b_x1a]) (n_h_x0_C_To:Dis z1a [b_x1a]) (n_h_x0_C_Identity:Dis z1b [b_x1a]) (n_h_x0_C_Composites:Dis z1c [b_x1a]) (n_x0_C:p_x0_C.block ∉ [b_x1a]) (n_h_x0_Covers:Dis zd [b_x1a]) (n_x0_Count:p_x0_Count.block ∉ [b_x1a]) (n_x0:p_x0.block ∉ [b_x1a]) (n_x1b:p_x1b.block ∉ [b_x1a]) {y:(Bool)} (hm:impl_coverage_follows_isTop x0 x1a=some y) :
  Calls Tryz.prog 157 #[.pointer (some (p_x0)),.func (.func 208) #[] #[.pointer (some (⟨b_x1a,0,none⟩)),.pointer (some (p_x1b))]] w (impl_coverage_follows_isTop_post b_x1a w y):=by
 refine Cv (R:=(Bool)) Tryz.func157 rfl Tryz.ntmps157 rfl hm fun o ho hB=>?_
 clear hm
 have hB:Chg [b_x1a] w w:=cr _ _
 refine wq <| wq <| W_region rfl <| Wb (Mp rfl) <| Wb (Nk rfl) <| Wb (F0 fa144_0 rfl) <| Wb (Lb na141 (At.keep a_x0 hB n_x0) rfl rfl) <| ?_
 obtain ⟨y13,p14,ho⟩:=bs ho
 refine WL.call rfl (op_callF Tryz.func123 rfl rfl) (impl_classifier_tops_calls (STy.keep _ z1m hB n_h_x0_Classifier_Sets_Shape_From) (STy.keep _ z1n hB n_h_x0_Classifier_Sets_Shape_To) (STy.keep _ z1o hB n_h_x0_Classifier_Sets_Shape_Identity) (STy.keep _ z1p hB n_h_x0_Classifier_Sets_Shape_Composites) (STy.keep _ z1q hB n_h_x0_Classifier_Sets_Sizes) (STy.keep _ z1g hB n_h_x0_Classifier_Sets_Actions) (STy.keep _ z1e hB n_h_x0_Classifier_Sieves) (At.keep a_x0_Classifier hB n_x0_Classifier) p14) <| ?_
 rintro _ p15 ⟨v17,ji,rfl,jk,p5⟩
 refine ⟨_,rfl,?_⟩
 have pu:=dl (ofr p5) (one_lt (Row.lt r_x1a))
 replace p5:=OE.low (G:=[b_x1a]) p5 hB.size
 replace r_x1a:=kr r_x1a jk
 replace hB:=(hB.trans (Chg.nil jk))
 refine Wb (Ln sl22 ((Le.own (Le.refl _) 2).le p5.1) rfl) <| Wb (Mi rfl) <| anz <| Wf (S1:=Int×Bool) (fun s r w'=>match s with | (s0_20,s0_b_x1a_0)=>Chg [b_x1a] w w'∧Row w' b_x1a [.bool (s0_b_x1a_0)] 4∧OE [b_x1a] w.heap.size w' (sOwn 2 (sInt .i64)) [v17] (y13) ji∧Dis [b_x1a] ji∧∃ F,r=updL F [(0,.pointer (some (p_x0))),(1,.func (.func 208) #[] #[.pointer (some (⟨b_x1a,0,none⟩)),.pointer (some (p_x1b))]),(18,v17),(19,.int .i64 ((y13.length:Int))),(20,.int .i64 (s0_20))]) (impl_coverage_follows_isTop_T b_x1a w) ho ⟨hB,r_x1a,p5,((pu).symm),fe rfl⟩ ?_ ?_
 rintro ⟨s0_20,s0_b_x1a_0⟩ _ k1 ⟨hB,r_x1a,p5,pv,F,rfl⟩ o ho
 replace ho:impl_coverage_follows_isTop_L0 x0 y13 s0_20 s0_b_x1a_0=some o:=ho
 unfold impl_coverage_follows_isTop_L0 at ho
 refine wq <| Wq rfl (cr [] k1) <| Qa (Bl rfl rfl) <| fun gk q9=>anz <| wq <| W_cond (b:=decide (s0_20 < (y13.length:Int))) rfl ?_ ?_
 intro k2
 rw [k2] at ho
 refine W_skip <| anz <| wq <| W_block <| wq <| Wq rfl q9 <| Qa (Mi rfl) <| ?_
 obtain ⟨e27,hx28e,ho⟩:=bs ho
 have hx28:=idx_some hx28e
 refine Qa (Ix sl22 ((Le.own (Le.refl _) 2).le p5.1) hx28 rfl rfl rfl) <| Qa (Ei na2 ((Le.own (Le.refl _) 2).le p5.1) hx28 rfl) <| Qa (Ai rfl) <| Qa (Ai rfl) <| fun p16 p17=>anz <| W_region rfl <| Wb (Mv (.func (.func 208) #[] #[.pointer (some (⟨b_x1a,0,none⟩)),.pointer (some p_x1b)]) rfl) <| Wb (Mi rfl) <| Wb (Mi rfl) <| ?_
 have k3:=p17.trans (cr [] p16)
 replace r_x1a:=kr r_x1a k3
 replace p5:=ko p5 k3
 replace hB:=(hB.trans (Chg.nil k3))
 obtain ⟨y32,p18,ho⟩:=bs ho
 refine WL.call rfl (op_callT (fst:=[]) (cap:=[.pointer (some (⟨b_x1a,0,none⟩)),.pointer (some (p_x1b))]) rfl Tryz.func208 rfl rfl) (impl_coverage_isTopology_1_calls r_x1a (STy.keep _ z1m hB n_h_x0_Classifier_Sets_Shape_From) (STy.keep _ z1n hB n_h_x0_Classifier_Sets_Shape_To) (STy.keep _ z1o hB n_h_x0_Classifier_Sets_Shape_Identity) (STy.keep _ z1p hB n_h_x0_Classifier_Sets_Shape_Composites) (STy.keep _ z1q hB n_h_x0_Classifier_Sets_Sizes) (STy.keep _ z1g hB n_h_x0_Classifier_Sets_Actions) (STy.keep _ z1e hB n_h_x0_Classifier_Sieves) (At.keep a_x0_Classifier hB n_x0_Classifier) (STy.keep _ z13 hB n_h_x0_C_From) (STy.keep _ z12 hB n_h_x0_C_To) (STy.keep _ z17 hB n_h_x0_C_Identity) (STy.keep _ z18 hB n_h_x0_C_Composites) (At.keep a_x0_C hB n_x0_C) (STy.keep _ zi hB n_h_x0_Covers) (At.keep a_x0_Count hB n_x0_Count) (At.keep a_x0 hB n_x0) (At.keep a_x1b hB n_x1b) (dis_parF z1m n_h_x0_Classifier_Sets_Shape_From (fun i hi=>.inl (by simp [List.mem_singleton.1 hi]))) (dis_parF z1n n_h_x0_Classifier_Sets_Shape_To (fun i hi=>.inl (by simp [List.mem_singleton.1 hi]))) (dis_parF z1o n_h_x0_Classifier_Sets_Shape_Identity (fun i hi=>.inl (by simp [List.mem_singleton.1 hi]))) (dis_parF z1p n_h_x0_Classifier_Sets_Shape_Composites (fun i hi=>.inl (by simp [List.mem_singleton.1 hi]))) (dis_parF z1q n_h_x0_Classifier_Sets_Sizes (fun i hi=>.inl (by simp [List.mem_singleton.1 hi]))) (dis_parF z1g n_h_x0_Classifier_Sets_Actions (fun i hi=>.inl (by simp [List.mem_singleton.1 hi]))) (dis_parF z1e n_h_x0_Classifier_Sieves (fun i hi=>.inl (by simp [List.mem_singleton.1 hi]))) (pat_out a_x0_Classifier n_x0_Classifier (fun i hi=>.inl (by simp [List.mem_singleton.1 hi]))) (dis_parF z13 n_h_x0_C_From (fun i hi=>.inl (by simp [List.mem_singleton.1 hi]))) (dis_parF z12 n_h_x0_C_To (fun i hi=>.inl (by simp [List.mem_singleton.1 hi]))) (dis_parF z17 n_h_x0_C_Identity (fun i hi=>.inl (by simp [List.mem_singleton.1 hi]))) (dis_parF z18 n_h_x0_C_Composites (fun i hi=>.inl (by simp [List.mem_singleton.1 hi]))) (pat_out a_x0_C n_x0_C (fun i hi=>.inl (by simp [List.mem_singleton.1 hi]))) (dis_parF zi n_h_x0_Covers (fun i hi=>.inl (by simp [List.mem_singleton.1 hi]))) (pat_out a_x0_Count n_x0_Count (fun i hi=>.inl (by simp [List.mem_singleton.1 hi]))) (pat_out a_x0 n_x0 (fun i hi=>.inl (by simp [List.mem_singleton.1 hi]))) (pat_out a_x1b n_x1b (fun i hi=>.inl (by simp [List.mem_singleton.1 hi]))) p18) ?_
 rintro _ k4 ⟨rfl,gl,qi⟩
 refine ⟨_,rfl,?_⟩
 replace p5:=okp p5 gl (Dis.symm pv)
 replace hB:=hB.then gl (fun i hi=>.inl (by simp [List.mem_singleton.1 hi]))
 refine inBlk_n <| anz <| Wq rfl (cr [] k4) <| Qa (Ba rfl rfl) <| Qa (Mi rfl) <| fun gm qa=>?_
 cases ho
 exact ⟨(hB.trans (Chg.nil qa)),(kr qi qa),(ko p5 qa),pv,fe rfl⟩
 intro k2
 rw [k2] at ho
 refine W_exit <| andThen_x <| ?_
 cases ho
 exact ⟨rfl,⟨(hB.trans (Chg.nil q9)),(kr r_x1a q9),(ko p5 q9),pv,fe rfl⟩⟩
 rintro ⟨s0_20,s0_b_x1a_0⟩ _ gn ⟨hB,r_x1a,p5,pv,F,rfl⟩ ho
 dsimp only at ho
 refine anz <| wq <| wq <| Wq rfl (cr [] gn) <| Qa (Mp rfl) <| Qa (Nk rfl) <| Qa (Fp fa144_1 rfl) <| Qa (La na131 (At.keep a_x0 hB n_x0) rfl rfl) <| Qa (Nk rfl) <| Qa (Fp fa32_1 rfl) <| Qa (La na22 (At.keep a_x0_C hB n_x0_C) rfl rfl) <| Qa (Ln sl22 (STy.keep _ z13 hB n_h_x0_C_From) rfl) <| Qa (Mi rfl) <| fun p3y go=>anz <| Wf (S1:=Int×Bool) (fun s r w'=>match s with | (s1_38,s1_b_x1a_0)=>Chg [b_x1a] w w'∧Row w' b_x1a [.bool (s1_b_x1a_0)] 4∧∃ F,r=updL F [(0,.pointer (some (p_x0))),(1,.func (.func 208) #[] #[.pointer (some (⟨b_x1a,0,none⟩)),.pointer (some (p_x1b))]),(37,.int .i64 ((x0.C.From.length:Int))),(38,.int .i64 (s1_38))]) (impl_coverage_follows_isTop_T b_x1a w) ho ⟨(hB.trans (Chg.nil go)),(kr r_x1a go),fe rfl⟩ ?_ ?_
 rintro ⟨s1_38,s1_b_x1a_0⟩ _ p19 ⟨hB,r_x1a,F,rfl⟩ o ho
 replace ho:impl_coverage_follows_isTop_L1 x0 s1_38 s1_b_x1a_0=some o:=ho
 unfold impl_coverage_follows_isTop_L1 at ho
 refine wq <| Wq rfl (cr [] p19) <| Qa (Bl rfl rfl) <| fun p1a qj=>anz <| wq <| W_cond (b:=decide (s1_38 < (x0.C.From.length:Int))) rfl ?_ ?_
 intro qb
 rw [qb] at ho
 refine W_skip <| anz <| wq <| W_block <| wq <| Wq rfl qj <| Qa (Mi rfl) <| Qa (Ai rfl) <| fun k5 p1=>anz <| wq <| ?_
 obtain ⟨e49,hx50e,ho⟩:=bs ho
 have hx50:=idx_some hx50e
 obtain ⟨e51,hx52e,ho⟩:=bs ho
 have hx52:=idx_some hx52e
 obtain ⟨u53,fu54,hu55,p1b,hs57⟩:=one_getP rfl zi hB n_h_x0_Covers hx52.1 hx52.2
 have n_hr56:Dis fu54 [b_x1a]:=fun b hb=>n_h_x0_Covers b (hs57 b hb)
 obtain ⟨y58,p1c,ho⟩:=bs ho
 refine W_any (m:=19) (U:=.replicate 19 []) (S:=[sV (.pointer (some (p_x0))),sV (.pointer (some (p_x0))),sV (.pointer (some (p_x0.add 2))),sV (zj),sV (.pointer (some (p_x0))),sV (.pointer (some (p_x0))),sV (.pointer (some (p_x0.add 1))),sV (.pointer (some (p_x0_C))),sV (.pointer (some (p_x0_C))),sV (.pointer (some (p_x0_C.add 1))),sV (zy),sV (.int .i64 (s1_38)),sV (.pointer (some (elA (zy) 1 (s1_38)))),sV (.int .i64 (e49)),sV (.pointer (some (elA (zj) 1 (e49)))),sV (u53),sO (sOwn 4 sBool) (y58),sV (.int .i64 ((y58.length:Int))),sV (.int .i64 ((0:Int)))]) (Z:=[]) hmix rfl (by decide) (by decide +kernel) (fun _ _ _ h=>np_out h) (by decide) rfl (by decide +kernel) (stable_all (by repeat first | exact stable_nil | refine stable_cons stable_val ?_ | refine stable_cons stable_own ?_)) ?_ ?_
 refine owes_cons ?_ <| owes_cons ?_ <| owes_cons ?_ <| owes_cons ?_ <| owes_cons ?_ <| owes_cons ?_ <| owes_cons ?_ <| owes_cons ?_ <| owes_cons ?_ <| owes_cons ?_ <| owes_cons ?_ <| owes_cons ?_ <| owes_cons ?_ <| owes_cons ?_ <| owes_cons ?_ <| owes_cons ?_ <| owes_cons ?_ <| owes_cons ?_ <| owes_cons ?_ <| owes_nil
 exact Oh rfl rfl rfl [(0,.pointer (some (p_x0)))] p1 rfl rfl fun _=>Mp rfl
 exact Ov rfl rfl rfl [] [(41,.pointer (some (p_x0)))] [0] p1 rfl rfl (by decide +kernel) rfl fun _=>Nk rfl
 exact Ov rfl rfl rfl [] [(42,.pointer (some (p_x0)))] [1] p1 rfl rfl (by decide +kernel) rfl fun _=>Fp fa144_2 rfl
 exact Ov rfl rfl rfl [] [(43,.pointer (some (p_x0.add 2)))] [2] p1 rfl rfl (by decide +kernel) rfl fun _=>La na97 (At.keep a_x0 hB n_x0) rfl rfl
 exact Oh rfl rfl rfl [(0,.pointer (some (p_x0)))] p1 rfl rfl fun _=>Mp rfl
 exact Ov rfl rfl rfl [] [(45,.pointer (some (p_x0)))] [4] p1 rfl rfl (by decide +kernel) rfl fun _=>Nk rfl
 exact Ov rfl rfl rfl [] [(46,.pointer (some (p_x0)))] [5] p1 rfl rfl (by decide +kernel) rfl fun _=>Fp fa144_1 rfl
 exact Ov rfl rfl rfl [] [(47,.pointer (some (p_x0.add 1)))] [6] p1 rfl rfl (by decide +kernel) rfl fun _=>La na131 (At.keep a_x0 hB n_x0) rfl rfl
 exact Ov rfl rfl rfl [] [(48,.pointer (some (p_x0_C)))] [7] p1 rfl rfl (by decide +kernel) rfl fun _=>Nk rfl
 exact Ov rfl rfl rfl [] [(49,.pointer (some (p_x0_C)))] [8] p1 rfl rfl (by decide +kernel) rfl fun _=>Fp fa32_1 rfl
 exact Ov rfl rfl rfl [] [(50,.pointer (some (p_x0_C.add 1)))] [9] p1 rfl rfl (by decide +kernel) rfl fun _=>La na22 (At.keep a_x0_C hB n_x0_C) rfl rfl
 exact Oh rfl rfl rfl [(6,.int .i64 (s1_38))] p1 rfl rfl fun _=>Mi rfl
 exact Ov rfl rfl rfl [] [(51,zy),(52,.int .i64 (s1_38))] [10,11] p1 rfl rfl (by decide +kernel) rfl fun _=>Ix sl22 (STy.keep _ z13 hB n_h_x0_C_From) hx50 rfl rfl rfl
 exact Ov rfl rfl rfl [] [(53,.pointer (some (elA (zy) 1 (s1_38))))] [12] p1 rfl rfl (by decide +kernel) rfl fun _=>Ei na2 (STy.keep _ z13 hB n_h_x0_C_From) hx50 rfl
 exact Ov rfl rfl rfl [] [(44,zj),(54,.int .i64 (e49))] [3,13] p1 rfl rfl (by decide +kernel) rfl fun _=>Ix sl97 (STy.keep _ zi hB n_h_x0_Covers) hx52 rfl rfl rfl
 exact Ov rfl rfl rfl [] [(55,.pointer (some (elA (zj) 1 (e49))))] [14] p1 rfl rfl (by decide +kernel) rfl fun _=>Ld na138 hu55 rfl
 refine Owes.mem rfl rfl rfl <| fun g r wr hCr H hot=>?_
 have hC:=p1.trans hCr
 obtain ⟨F,rfl⟩:=fr (r:=r) (l:=[(56,u53)]) ⟨(H 15 (by decide +kernel) 56 rfl),trivial⟩
 exact OpW.own (op_callF Tryz.func210 rfl rfl) (slices_Clone___bool_bool__calls (STy.keep _ p1b (hB.trans (Chg.nil hC)) n_hr56) p1c)
 refine Owes.val rfl rfl rfl <| fun g r wr hCr H hot=>?_
 have hC:=p1.trans hCr
 have p7:OwnV (sOwn 4 sBool) (y58) _ _ _:=H 16 (by decide +kernel) 57 rfl
 generalize hvv60:r 57=v60 at p7
 obtain ⟨F,rfl⟩:=fr (r:=r) (l:=[(57,v60)]) ⟨hvv60,trivial⟩
 exact (Ln sl138 ((Le.own (Le.refl _) 4).le p7.1) rfl) _ (cr _ _)
 exact Oh rfl rfl rfl [] p1 rfl rfl fun _=>Mi rfl
 rintro g r p1d ⟨p1e,hdone,hot,hfresh,hdis⟩
 have p7:OwnV (sOwn 4 sBool) (y58) _ _ _:=hdone 16 (by decide) (by decide) 57 rfl
 generalize hvv60:r 57=v60 at p7
 have hfo62:=hfresh 16 (by decide)
 have hdd:=hdis
 obtain ⟨F,rfl⟩:=fw hdone hot [(0,.pointer (some (p_x0))),(1,.func (.func 208) #[] #[.pointer (some (⟨b_x1a,0,none⟩)),.pointer (some (p_x1b))]),(6,.int .i64 (s1_38)),(37,.int .i64 ((x0.C.From.length:Int))),(38,.int .i64 (s1_38))] [(58,.int .i64 ((y58.length:Int))),(59,.int .i64 ((0:Int)))] [17,18] rfl rfl rfl rfl (z:=[(57,v60)]) ⟨hvv60,trivial⟩
 obtain ⟨k6,hgf61⟩ : ∃ k,k=g 16:=⟨_,rfl⟩
 rw [← hgf61] at p7 hfo62
 replace p7:OE [b_x1a] w.heap.size p1d (sOwn 4 sBool) [v60] (y58) k6:=⟨p7.1,p7.2,fun b hb=>.inr (Nat.le_trans (hB.trans (Chg.nil p1)).size (hfo62 b hb).1)⟩
 have j5:=dl (fun b hb=>(hfo62 b hb).1) (one_lt (Row.lt (kr r_x1a p1)))
 have gp:=(p1.trans p1e)
 replace r_x1a:=kr r_x1a gp
 replace hB:=(hB.trans (Chg.nil gp))
 refine anz <| Wf (S1:=Int×Bool) (fun s r w'=>match s with | (s2_59,s2_b_x1a_0)=>Chg [b_x1a] w w'∧Row w' b_x1a [.bool (s2_b_x1a_0)] 4∧OE [b_x1a] w.heap.size w' (sOwn 4 sBool) [v60] (y58) k6∧Dis [b_x1a] k6∧∃ F,r=updL F [(0,.pointer (some (p_x0))),(1,.func (.func 208) #[] #[.pointer (some (⟨b_x1a,0,none⟩)),.pointer (some (p_x1b))]),(6,.int .i64 (s1_38)),(37,.int .i64 ((x0.C.From.length:Int))),(38,.int .i64 (s1_38)),(57,v60),(58,.int .i64 ((y58.length:Int))),(59,.int .i64 (s2_59))]) (impl_coverage_follows_isTop_T b_x1a w) ho ⟨hB,r_x1a,p7,((j5).symm),fe rfl⟩ ?_ ?_
 rintro ⟨s2_59,s2_b_x1a_0⟩ _ p1f ⟨hB,r_x1a,p7,q3,F,rfl⟩ o ho
 replace ho:impl_coverage_follows_isTop_L2 x0 s1_38 y58 s2_59 s2_b_x1a_0=some o:=ho
 unfold impl_coverage_follows_isTop_L2 at ho
 refine wq <| Wq rfl (cr [] p1f) <| Qa (Bl rfl rfl) <| fun p3z jl=>anz <| wq <| W_cond (b:=decide (s2_59 < (y58.length:Int))) rfl ?_ ?_
 intro k7
 rw [k7] at ho
 refine W_skip <| anz <| wq <| W_block <| wq <| Wq rfl jl <| Qa (Mi rfl) <| ?_
 obtain ⟨e72,hx73e,ho⟩:=bs ho
 have hx73:=idx_some hx73e
 refine Qa (Ix sl138 ((Le.own (Le.refl _) 4).le p7.1) hx73 rfl rfl rfl) <| Qa (Eb na4 ((Le.own (Le.refl _) 4).le p7.1) hx73 rfl) <| Qa (Ai rfl) <| Qa (Ab rfl) <| fun p40 p1g=>anz <| wq <| Wq rfl p1g <| Qa (Mb rfl) <| fun p41 p2=>anz <| W_cond (b:=e72) rfl ?_ ?_
 intro k8
 rw [k8] at ho
 obtain ⟨e79,hx80e,ho⟩:=bs ho
 have hx80:=idx_some hx80e
 have at81:At w (p_x0_Classifier.add 0) [.int .i64 (x0.Classifier.Sets.Shape.Objects),z1h,z1i,z1j,z1k,z1l,z1d]:=At.sub a_x0_Classifier 0 7
 have hn82:(p_x0_Classifier.add 0).block ∉ [b_x1a]:=by rw [add_block]; exact n_x0_Classifier
 obtain ⟨e83,hx84e,ho⟩:=bs ho
 have hx84:=idx_some hx84e
 obtain ⟨u85,fu86,hu87,gq,hs89⟩:=one_getP rfl z1g hB n_h_x0_Classifier_Sets_Actions hx84.1 hx84.2
 have n_hr88:Dis fu86 [b_x1a]:=fun b hb=>n_h_x0_Classifier_Sets_Actions b (hs89 b hb)
 obtain ⟨e90,hx91e,ho⟩:=bs ho
 have hx91:=idx_some hx91e
 refine W_any (m:=25) (U:=.replicate 25 []) (S:=[sV (.func (.func 208) #[] #[.pointer (some (⟨b_x1a,0,none⟩)),.pointer (some (p_x1b))]),sV (.pointer (some (p_x0))),sV (.pointer (some (p_x0))),sV (.pointer (some (p_x0.add 1))),sV (.pointer (some (p_x0_C))),sV (.pointer (some (p_x0_C))),sV (.pointer (some (p_x0_C.add 2))),sV (zx),sV (.int .i64 (s1_38)),sV (.pointer (some (elA (zx) 1 (s1_38)))),sV (.int .i64 (e79)),sV (.pointer (some (p_x0))),sV (.pointer (some (p_x0))),sV (.pointer (some (p_x0))),sV (.pointer (some (p_x0_Classifier))),sV (.pointer (some (p_x0_Classifier))),sV (.pointer (some ((p_x0_Classifier.add 0)))),sV (.pointer (some ((p_x0_Classifier.add 0).add 6))),sV (z1d),sV (.int .i64 (s1_38)),sV (.pointer (some (elA (z1d) 1 (s1_38)))),sV (u85),sV (.int .i64 (s2_59)),sV (.pointer (some (elA (u85) 1 (s2_59)))),sV (.int .i64 (e90))]) (Z:=[]) hmix rfl (by decide) (by decide +kernel) (fun _ _ _ h=>np_out h) (by decide) rfl (by decide +kernel) (stable_all (by repeat first | exact stable_nil | refine stable_cons stable_val ?_ | refine stable_cons stable_own ?_)) ?_ ?_
 refine owes_cons ?_ <| owes_cons ?_ <| owes_cons ?_ <| owes_cons ?_ <| owes_cons ?_ <| owes_cons ?_ <| owes_cons ?_ <| owes_cons ?_ <| owes_cons ?_ <| owes_cons ?_ <| owes_cons ?_ <| owes_cons ?_ <| owes_cons ?_ <| owes_cons ?_ <| owes_cons ?_ <| owes_cons ?_ <| owes_cons ?_ <| owes_cons ?_ <| owes_cons ?_ <| owes_cons ?_ <| owes_cons ?_ <| owes_cons ?_ <| owes_cons ?_ <| owes_cons ?_ <| owes_cons ?_ <| owes_nil
 exact Oh rfl rfl rfl [(1,.func (.func 208) #[] #[.pointer (some (⟨b_x1a,0,none⟩)),.pointer (some (p_x1b))])] p2 rfl rfl fun _=>Mv (.func (.func 208) #[] #[.pointer (some (⟨b_x1a,0,none⟩)),.pointer (some (p_x1b))]) rfl
 exact Oh rfl rfl rfl [(0,.pointer (some (p_x0)))] p2 rfl rfl fun _=>Mp rfl
 exact Ov rfl rfl rfl [] [(66,.pointer (some (p_x0)))] [1] p2 rfl rfl (by decide +kernel) rfl fun _=>Nk rfl
 exact Ov rfl rfl rfl [] [(67,.pointer (some (p_x0)))] [2] p2 rfl rfl (by decide +kernel) rfl fun _=>Fp fa144_1 rfl
 exact Ov rfl rfl rfl [] [(68,.pointer (some (p_x0.add 1)))] [3] p2 rfl rfl (by decide +kernel) rfl fun _=>La na131 (At.keep a_x0 hB n_x0) rfl rfl
 exact Ov rfl rfl rfl [] [(69,.pointer (some (p_x0_C)))] [4] p2 rfl rfl (by decide +kernel) rfl fun _=>Nk rfl
 exact Ov rfl rfl rfl [] [(70,.pointer (some (p_x0_C)))] [5] p2 rfl rfl (by decide +kernel) rfl fun _=>Fp fa32_2 rfl
 exact Ov rfl rfl rfl [] [(71,.pointer (some (p_x0_C.add 2)))] [6] p2 rfl rfl (by decide +kernel) rfl fun _=>La na22 (At.keep a_x0_C hB n_x0_C) rfl rfl
 exact Oh rfl rfl rfl [(6,.int .i64 (s1_38))] p2 rfl rfl fun _=>Mi rfl
 exact Ov rfl rfl rfl [] [(72,zx),(73,.int .i64 (s1_38))] [7,8] p2 rfl rfl (by decide +kernel) rfl fun _=>Ix sl22 (STy.keep _ z12 hB n_h_x0_C_To) hx80 rfl rfl rfl
 exact Ov rfl rfl rfl [] [(74,.pointer (some (elA (zx) 1 (s1_38))))] [9] p2 rfl rfl (by decide +kernel) rfl fun _=>Ei na2 (STy.keep _ z12 hB n_h_x0_C_To) hx80 rfl
 exact Oh rfl rfl rfl [(0,.pointer (some (p_x0)))] p2 rfl rfl fun _=>Mp rfl
 exact Ov rfl rfl rfl [] [(76,.pointer (some (p_x0)))] [11] p2 rfl rfl (by decide +kernel) rfl fun _=>Nk rfl
 exact Ov rfl rfl rfl [] [(77,.pointer (some (p_x0)))] [12] p2 rfl rfl (by decide +kernel) rfl fun _=>F0 fa144_0 rfl
 exact Ov rfl rfl rfl [] [(78,.pointer (some (p_x0)))] [13] p2 rfl rfl (by decide +kernel) rfl fun _=>Lb na141 (At.keep a_x0 hB n_x0) rfl rfl
 exact Ov rfl rfl rfl [] [(79,.pointer (some (p_x0_Classifier)))] [14] p2 rfl rfl (by decide +kernel) rfl fun _=>Nk rfl
 exact Ov rfl rfl rfl [] [(80,.pointer (some (p_x0_Classifier)))] [15] p2 rfl rfl (by decide +kernel) rfl fun _=>Fp fa151_0 rfl
 exact Ov rfl rfl rfl [] [(81,.pointer (some ((p_x0_Classifier.add 0))))] [16] p2 rfl rfl (by decide +kernel) rfl fun _=>Fp fa66_2 rfl
 exact Ov rfl rfl rfl [] [(82,.pointer (some ((p_x0_Classifier.add 0).add 6)))] [17] p2 rfl rfl (by decide +kernel) rfl fun _=>La na23 (At.keep at81 hB hn82) rfl rfl
 exact Oh rfl rfl rfl [(6,.int .i64 (s1_38))] p2 rfl rfl fun _=>Mi rfl
 exact Ov rfl rfl rfl [] [(83,z1d),(84,.int .i64 (s1_38))] [18,19] p2 rfl rfl (by decide +kernel) rfl fun _=>Ix sl23 (STy.keep _ z1g hB n_h_x0_Classifier_Sets_Actions) hx84 rfl rfl rfl
 exact Ov rfl rfl rfl [] [(85,.pointer (some (elA (z1d) 1 (s1_38))))] [20] p2 rfl rfl (by decide +kernel) rfl fun _=>Ld na22 hu87 rfl
 exact Oh rfl rfl rfl [(7,.int .i64 (s2_59))] p2 rfl rfl fun _=>Mi rfl
 exact Ov rfl rfl rfl [] [(86,u85),(87,.int .i64 (s2_59))] [21,22] p2 rfl rfl (by decide +kernel) rfl fun _=>Ix sl22 (STy.keep _ gq hB n_hr88) hx91 rfl rfl rfl
 exact Ov rfl rfl rfl [] [(88,.pointer (some (elA (u85) 1 (s2_59))))] [23] p2 rfl rfl (by decide +kernel) rfl fun _=>Ei na2 (STy.keep _ gq hB n_hr88) hx91 rfl
 rintro g r p42 ⟨p1h,hdone,hot,hfresh,hdis⟩
 have hdd:=hdis
 obtain ⟨F,rfl⟩:=fw hdone hot [(0,.pointer (some (p_x0))),(1,.func (.func 208) #[] #[.pointer (some (⟨b_x1a,0,none⟩)),.pointer (some (p_x1b))]),(6,.int .i64 (s1_38)),(37,.int .i64 ((x0.C.From.length:Int))),(38,.int .i64 (s1_38)),(57,v60),(58,.int .i64 ((y58.length:Int))),(59,.int .i64 (s2_59))] [(65,.func (.func 208) #[] #[.pointer (some (⟨b_x1a,0,none⟩)),.pointer (some (p_x1b))]),(75,.int .i64 (e79)),(89,.int .i64 (e90))] [0,10,24] rfl rfl rfl rfl (z:=[]) trivial
 have k9:=(p2.trans p1h)
 replace r_x1a:=kr r_x1a k9
 replace p7:=ko p7 k9
 replace hB:=(hB.trans (Chg.nil k9))
 obtain ⟨y95,p1i,ho⟩:=bs ho
 refine WL.call rfl (op_callT (fst:=[]) (cap:=[.pointer (some (⟨b_x1a,0,none⟩)),.pointer (some (p_x1b))]) rfl Tryz.func208 rfl rfl) (impl_coverage_isTopology_1_calls r_x1a (STy.keep _ z1m hB n_h_x0_Classifier_Sets_Shape_From) (STy.keep _ z1n hB n_h_x0_Classifier_Sets_Shape_To) (STy.keep _ z1o hB n_h_x0_Classifier_Sets_Shape_Identity) (STy.keep _ z1p hB n_h_x0_Classifier_Sets_Shape_Composites) (STy.keep _ z1q hB n_h_x0_Classifier_Sets_Sizes) (STy.keep _ z1g hB n_h_x0_Classifier_Sets_Actions) (STy.keep _ z1e hB n_h_x0_Classifier_Sieves) (At.keep a_x0_Classifier hB n_x0_Classifier) (STy.keep _ z13 hB n_h_x0_C_From) (STy.keep _ z12 hB n_h_x0_C_To) (STy.keep _ z17 hB n_h_x0_C_Identity) (STy.keep _ z18 hB n_h_x0_C_Composites) (At.keep a_x0_C hB n_x0_C) (STy.keep _ zi hB n_h_x0_Covers) (At.keep a_x0_Count hB n_x0_Count) (At.keep a_x0 hB n_x0) (At.keep a_x1b hB n_x1b) (dis_parF z1m n_h_x0_Classifier_Sets_Shape_From (fun i hi=>.inl (by simp [List.mem_singleton.1 hi]))) (dis_parF z1n n_h_x0_Classifier_Sets_Shape_To (fun i hi=>.inl (by simp [List.mem_singleton.1 hi]))) (dis_parF z1o n_h_x0_Classifier_Sets_Shape_Identity (fun i hi=>.inl (by simp [List.mem_singleton.1 hi]))) (dis_parF z1p n_h_x0_Classifier_Sets_Shape_Composites (fun i hi=>.inl (by simp [List.mem_singleton.1 hi]))) (dis_parF z1q n_h_x0_Classifier_Sets_Sizes (fun i hi=>.inl (by simp [List.mem_singleton.1 hi]))) (dis_parF z1g n_h_x0_Classifier_Sets_Actions (fun i hi=>.inl (by simp [List.mem_singleton.1 hi]))) (dis_parF z1e n_h_x0_Classifier_Sieves (fun i hi=>.inl (by simp [List.mem_singleton.1 hi]))) (pat_out a_x0_Classifier n_x0_Classifier (fun i hi=>.inl (by simp [List.mem_singleton.1 hi]))) (dis_parF z13 n_h_x0_C_From (fun i hi=>.inl (by simp [List.mem_singleton.1 hi]))) (dis_parF z12 n_h_x0_C_To (fun i hi=>.inl (by simp [List.mem_singleton.1 hi]))) (dis_parF z17 n_h_x0_C_Identity (fun i hi=>.inl (by simp [List.mem_singleton.1 hi]))) (dis_parF z18 n_h_x0_C_Composites (fun i hi=>.inl (by simp [List.mem_singleton.1 hi]))) (pat_out a_x0_C n_x0_C (fun i hi=>.inl (by simp [List.mem_singleton.1 hi]))) (dis_parF zi n_h_x0_Covers (fun i hi=>.inl (by simp [List.mem_singleton.1 hi]))) (pat_out a_x0_Count n_x0_Count (fun i hi=>.inl (by simp [List.mem_singleton.1 hi]))) (pat_out a_x0 n_x0 (fun i hi=>.inl (by simp [List.mem_singleton.1 hi]))) (pat_out a_x1b n_x1b (fun i hi=>.inl (by simp [List.mem_singleton.1 hi]))) p1i) ?_
 rintro _ p1j ⟨rfl,gr,o99⟩
 refine ⟨_,rfl,?_⟩
 replace p7:=okp p7 gr (Dis.symm q3)
 replace hB:=hB.then gr (fun i hi=>.inl (by simp [List.mem_singleton.1 hi]))
 refine inBlk_n <| anz <| Wq rfl (cr [] p1j) <| Qa (Ba rfl rfl) <| Qa (Mi rfl) <| fun p43 ka=>?_
 cases ho
 exact ⟨(hB.trans (Chg.nil ka)),(kr o99 ka),(ko p7 ka),q3,fe rfl⟩
 intro k8
 rw [k8] at ho
 refine W_skip <| inBlk_n <| anz <| Wq rfl p2 <| Qa (Ba rfl rfl) <| Qa (Mi rfl) <| fun p44 kb=>?_
 cases ho
 exact ⟨(hB.trans (Chg.nil kb)),(kr r_x1a kb),(ko p7 kb),q3,fe rfl⟩
 intro k7
 rw [k7] at ho
 refine W_exit <| andThen_x <| ?_
 cases ho
 exact ⟨rfl,⟨(hB.trans (Chg.nil jl)),(kr r_x1a jl),(ko p7 jl),q3,fe rfl⟩⟩
 rintro ⟨s2_59,s2_b_x1a_0⟩ _ p1l ⟨hB,r_x1a,p7,q3,F,rfl⟩ ho
 dsimp only at ho
 refine inBlk_n <| anz <| Wq rfl (cr [] p1l) <| Qa (Ba rfl rfl) <| Qa (Mi rfl) <| fun p45 gs=>?_
 cases ho
 exact ⟨(hB.trans (Chg.nil gs)),(kr r_x1a gs),fe rfl⟩
 intro qb
 rw [qb] at ho
 refine W_exit <| andThen_x <| ?_
 cases ho
 exact ⟨rfl,⟨(hB.trans (Chg.nil qj)),(kr r_x1a qj),fe rfl⟩⟩
 rintro ⟨s1_38,s1_b_x1a_0⟩ _ p1m ⟨hB,r_x1a,F,rfl⟩ ho
 dsimp only at ho
 refine anz <| wq <| Wq rfl (cr [] p1m) <| Qa (Mp rfl) <| Qa (Nk rfl) <| Qa (F0 fa144_0 rfl) <| Qa (Lb na141 (At.keep a_x0 hB n_x0) rfl rfl) <| Qa (Nk rfl) <| Qa (Fp fa151_1 rfl) <| Qa (La na149 (At.keep a_x0_Classifier hB n_x0_Classifier) rfl rfl) <| Qa (Ln sl149 (STy.keep _ z1e hB n_h_x0_Classifier_Sieves) rfl) <| Qa (Mi rfl) <| fun p46 gt=>anz <| Wf (S1:=Int×Bool) (fun s r w'=>match s with | (s3_101,s3_b_x1a_0)=>Chg [b_x1a] w w'∧Row w' b_x1a [.bool (s3_b_x1a_0)] 4∧∃ F,r=updL F [(0,.pointer (some (p_x0))),(1,.func (.func 208) #[] #[.pointer (some (⟨b_x1a,0,none⟩)),.pointer (some (p_x1b))]),(99,z1f),(100,.int .i64 ((x0.Classifier.Sieves.length:Int))),(101,.int .i64 (s3_101))]) (impl_coverage_follows_isTop_T b_x1a w) ho ⟨(hB.trans (Chg.nil gt)),(kr r_x1a gt),fe rfl⟩ ?_ ?_
 rintro ⟨s3_101,s3_b_x1a_0⟩ _ p1n ⟨hB,r_x1a,F,rfl⟩ o ho
 replace ho:impl_coverage_follows_isTop_L3 x0 s3_101 s3_b_x1a_0=some o:=ho
 unfold impl_coverage_follows_isTop_L3 at ho
 refine wq <| Wq rfl (cr [] p1n) <| Qa (Bl rfl rfl) <| fun p47 kc=>anz <| wq <| W_cond (b:=decide (s3_101 < (x0.Classifier.Sieves.length:Int))) rfl ?_ ?_
 intro kd
 rw [kd] at ho
 refine W_skip <| anz <| wq <| W_block <| wq <| Wq rfl kc <| Qa (Mi rfl) <| ?_
 obtain ⟨e115,hx116e,ho⟩:=bs ho
 have hx116:=idx_some hx116e
 refine Qa (Ix sl149 (STy.keep _ z1e hB n_h_x0_Classifier_Sieves) hx116 rfl rfl rfl) <| ?_
 obtain ⟨u117,fu118,hu119,j6,hs121⟩:=one_getP rfl z1e hB n_h_x0_Classifier_Sieves hx116.1 hx116.2
 have n_hr120:Dis fu118 [b_x1a]:=fun b hb=>n_h_x0_Classifier_Sieves b (hs121 b hb)
 refine Qa (Ld na118 hu119 rfl) <| Qa (Ai rfl) <| Qa (Av u117 rfl) <| fun p1o pn=>anz <| wq <| Wq rfl pn <| Qa (Mv u117 rfl) <| Qa (Ln sl118 (STy.keep _ j6 hB n_hr120) rfl) <| Qa (Mi rfl) <| fun p48 gu=>anz <| Wf (S1:=Int×Bool) (fun s r w'=>match s with | (s4_108,s4_b_x1a_0)=>Chg [b_x1a] w w'∧Row w' b_x1a [.bool (s4_b_x1a_0)] 4∧∃ F,r=updL F [(0,.pointer (some (p_x0))),(1,.func (.func 208) #[] #[.pointer (some (⟨b_x1a,0,none⟩)),.pointer (some (p_x1b))]),(9,.int .i64 (s3_101)),(10,u117),(99,z1f),(100,.int .i64 ((x0.Classifier.Sieves.length:Int))),(101,.int .i64 (s3_101)),(107,.int .i64 ((e115.length:Int))),(108,.int .i64 (s4_108))]) (impl_coverage_follows_isTop_T b_x1a w) ho ⟨(hB.trans (Chg.nil gu)),(kr r_x1a gu),fe rfl⟩ ?_ ?_
 rintro ⟨s4_108,s4_b_x1a_0⟩ _ p1p ⟨hB,r_x1a,F,rfl⟩ o ho
 replace ho:impl_coverage_follows_isTop_L4 x0 s3_101 e115 s4_108 s4_b_x1a_0=some o:=ho
 unfold impl_coverage_follows_isTop_L4 at ho
 refine wq <| Wq rfl (cr [] p1p) <| Qa (Bl rfl rfl) <| fun p49 ke=>anz <| wq <| W_cond (b:=decide (s4_108 < (e115.length:Int))) rfl ?_ ?_
 intro kf
 rw [kf] at ho
 refine W_skip <| anz <| wq <| W_block <| wq <| Wq rfl ke <| Qa (Mi rfl) <| Qa (Ai rfl) <| fun p4a qc=>anz <| wq <| W_region rfl <| Wb (Mp rfl) <| Wb (Nk rfl) <| Wb (Fp fa144_2 rfl) <| Wa qc (La na97 (At.keep a_x0 hB n_x0) rfl rfl) <| ?_
 refine Wb (Mi rfl) <| ?_
 obtain ⟨e132,hx133e,ho⟩:=bs ho
 have hx133:=idx_some hx133e
 refine Wa qc (Ix sl97 (STy.keep _ zi hB n_h_x0_Covers) hx133 rfl rfl rfl) <| ?_
 obtain ⟨u134,fu135,hu136,p1q,hs138⟩:=one_getP rfl zi hB n_h_x0_Covers hx133.1 hx133.2
 have n_hr137:Dis fu135 [b_x1a]:=fun b hb=>n_h_x0_Covers b (hs138 b hb)
 refine Wa qc (Ld na138 hu136 rfl) <| ?_
 obtain ⟨y139,p1r,ho⟩:=bs ho
 refine WL.call rfl (op_callF Tryz.func210 rfl rfl) (slices_Clone___bool_bool__calls (STy.keep _ p1q (hB.trans (Chg.nil qc)) n_hr137) p1r) <| ?_
 rintro _ kg ⟨v143,gv,rfl,pe,ph⟩
 refine ⟨_,rfl,?_⟩
 have p1s:=dl (ofr ph) (one_lt (Row.lt (kr r_x1a qc)))
 replace ph:=OE.low (G:=[b_x1a]) ph (hB.trans (Chg.nil qc)).size
 have gw:=qc.trans pe
 replace r_x1a:=kr r_x1a gw
 replace hB:=(hB.trans (Chg.nil gw))
 refine Wb (Ln sl138 ((Le.own (Le.refl _) 4).le ph.1) rfl) <| Wb (Mi rfl) <| anz <| Wf (S1:=Int×Bool) (fun s r w'=>match s with | (s5_120,s5_b_x1a_0)=>Chg [b_x1a] w w'∧Row w' b_x1a [.bool (s5_b_x1a_0)] 4∧OE [b_x1a] w.heap.size w' (sOwn 4 sBool) [v143] (y139) gv∧Dis [b_x1a] gv∧∃ F,r=updL F [(0,.pointer (some (p_x0))),(1,.func (.func 208) #[] #[.pointer (some (⟨b_x1a,0,none⟩)),.pointer (some (p_x1b))]),(9,.int .i64 (s3_101)),(10,u117),(11,.int .i64 (s4_108)),(99,z1f),(100,.int .i64 ((x0.Classifier.Sieves.length:Int))),(101,.int .i64 (s3_101)),(107,.int .i64 ((e115.length:Int))),(108,.int .i64 (s4_108)),(118,v143),(119,.int .i64 ((y139.length:Int))),(120,.int .i64 (s5_120))]) (impl_coverage_follows_isTop_T b_x1a w) ho ⟨hB,r_x1a,ph,((p1s).symm),fe rfl⟩ ?_ ?_
 rintro ⟨s5_120,s5_b_x1a_0⟩ _ p1t ⟨hB,r_x1a,ph,j7,F,rfl⟩ o ho
 replace ho:impl_coverage_follows_isTop_L5 x0 s3_101 e115 s4_108 y139 s5_120 s5_b_x1a_0=some o:=ho
 unfold impl_coverage_follows_isTop_L5 at ho
 refine wq <| Wq rfl (cr [] p1t) <| Qa (Bl rfl rfl) <| fun p1u q4=>anz <| wq <| W_cond (b:=decide (s5_120 < (y139.length:Int))) rfl ?_ ?_
 intro qd
 rw [qd] at ho
 refine W_skip <| anz <| wq <| W_block <| wq <| Wq rfl q4 <| Qa (Mi rfl) <| ?_
 obtain ⟨e153,hx154e,ho⟩:=bs ho
 have hx154:=idx_some hx154e
 refine Qa (Ix sl138 ((Le.own (Le.refl _) 4).le ph.1) hx154 rfl rfl rfl) <| Qa (Eb na4 ((Le.own (Le.refl _) 4).le ph.1) hx154 rfl) <| Qa (Ai rfl) <| Qa (Ab rfl) <| fun gx kh=>anz <| wq <| Wqd rfl (by kernel_rfl) kh <| ?_
 obtain ⟨g157,hm158,ho⟩:=bs ho
 refine QL.meet (fun r=>∃ F,r=updL F [(0,.pointer (some (p_x0))),(1,.func (.func 208) #[] #[.pointer (some (⟨b_x1a,0,none⟩)),.pointer (some (p_x1b))]),(9,.int .i64 (s3_101)),(10,u117),(11,.int .i64 (s4_108)),(99,z1f),(100,.int .i64 ((x0.Classifier.Sieves.length:Int))),(101,.int .i64 (s3_101)),(107,.int .i64 ((e115.length:Int))),(108,.int .i64 (s4_108)),(118,v143),(119,.int .i64 ((y139.length:Int))),(120,.int .i64 (s5_120)),(150,.bool (g157))]) ?_ ?_
 skip
 refine Qa (Mb rfl) <| Qa (Mb rfl) <| ?_
 rcases Bool.eq_false_or_eq_true e153 with p3 | p3
 rw [p3] at hm158
 refine Qg rfl p3 (Mp rfl) <| Qg rfl p3 (Nk rfl) <| Qg rfl p3 (Fp fa144_2 rfl) <| Qg rfl p3 (La na97 (At.keep a_x0 hB n_x0) rfl rfl) <| Qg rfl p3 (Mi rfl) <| ?_
 obtain ⟨e160,hx161e,hm158⟩:=bs hm158
 have hx161:=idx_some hx161e
 refine Qg rfl p3 (Ix sl97 (STy.keep _ zi hB n_h_x0_Covers) hx161 rfl rfl rfl) <| ?_
 obtain ⟨u162,fu163,hu164,gy,hs166⟩:=one_getP rfl zi hB n_h_x0_Covers hx161.1 hx161.2
 have n_hr165:Dis fu163 [b_x1a]:=fun b hb=>n_h_x0_Covers b (hs166 b hb)
 refine Qg rfl p3 (Ld na138 hu164 rfl) <| Qg rfl p3 (Mi rfl) <| ?_
 obtain ⟨e167,hx168e,hm158⟩:=bs hm158
 have hx168:=idx_some hx168e
 refine Qg rfl p3 (Ix sl138 (STy.keep _ gy hB n_hr165) hx168 rfl rfl rfl) <| Qg rfl p3 (Eb na4 (STy.keep _ gy hB n_hr165) hx168 rfl) <| Qg rfl p3 (Nt rfl) <| Qa (PTb rfl p3 rfl) <| Qa (Mb rfl) <| ?_
 rcases Bool.eq_false_or_eq_true (!(e167)) with p4 | p4
 rw [p4] at hm158
 refine Qg rfl p4 (Mp rfl) <| Qg rfl p4 (Mv u117 rfl) <| Qg rfl p4 (Mi rfl) <| ?_
 obtain ⟨e170,hx171e,hm158⟩:=bs hm158
 have hx171:=idx_some hx171e
 refine Qg rfl p4 (Ix sl118 (STy.keep _ j6 hB n_hr120) hx171 rfl rfl rfl) <| ?_
 obtain ⟨u172,fu173,hu174,p1v,hs176⟩:=one_getP rfl j6 hB n_hr120 hx171.1 hx171.2
 have n_hr175:Dis fu173 [b_x1a]:=fun b hb=>n_hr120 b (hs176 b hb)
 refine Qg rfl p4 (Ld na114 hu174 rfl) <| Qg rfl p4 (Mv u117 rfl) <| Qg rfl p4 (Mi rfl) <| ?_
 obtain ⟨e177,hx178e,hm158⟩:=bs hm158
 have hx178:=idx_some hx178e
 refine Qg rfl p4 (Ix sl118 (STy.keep _ j6 hB n_hr120) hx178 rfl rfl rfl) <| ?_
 obtain ⟨u179,fu180,hu181,p1w,hs183⟩:=one_getP rfl j6 hB n_hr120 hx178.1 hx178.2
 have n_hr182:Dis fu180 [b_x1a]:=fun b hb=>n_hr120 b (hs183 b hb)
 refine Qg rfl p4 (Ld na114 hu181 rfl) <| ?_
 obtain ⟨y184,p1x,hm158⟩:=bs hm158
 refine Qcg rfl p4 Tryz.func211 rfl rfl (fun _ hC=>impl_coverage_locally_calls (STy.keep _ z1m (hB.trans (Chg.nil hC)) n_h_x0_Classifier_Sets_Shape_From) (STy.keep _ z1n (hB.trans (Chg.nil hC)) n_h_x0_Classifier_Sets_Shape_To) (STy.keep _ z1o (hB.trans (Chg.nil hC)) n_h_x0_Classifier_Sets_Shape_Identity) (STy.keep _ z1p (hB.trans (Chg.nil hC)) n_h_x0_Classifier_Sets_Shape_Composites) (STy.keep _ z1q (hB.trans (Chg.nil hC)) n_h_x0_Classifier_Sets_Sizes) (STy.keep _ z1g (hB.trans (Chg.nil hC)) n_h_x0_Classifier_Sets_Actions) (STy.keep _ z1e (hB.trans (Chg.nil hC)) n_h_x0_Classifier_Sieves) (At.keep a_x0_Classifier (hB.trans (Chg.nil hC)) n_x0_Classifier) (STy.keep _ z13 (hB.trans (Chg.nil hC)) n_h_x0_C_From) (STy.keep _ z12 (hB.trans (Chg.nil hC)) n_h_x0_C_To) (STy.keep _ z17 (hB.trans (Chg.nil hC)) n_h_x0_C_Identity) (STy.keep _ z18 (hB.trans (Chg.nil hC)) n_h_x0_C_Composites) (At.keep a_x0_C (hB.trans (Chg.nil hC)) n_x0_C) (STy.keep _ zi (hB.trans (Chg.nil hC)) n_h_x0_Covers) (At.keep a_x0_Count (hB.trans (Chg.nil hC)) n_x0_Count) (At.keep a_x0 (hB.trans (Chg.nil hC)) n_x0) (STy.keep _ p1v (hB.trans (Chg.nil hC)) n_hr175) (STy.keep _ p1w (hB.trans (Chg.nil hC)) n_hr182) p1x) <| Qa (PTb rfl p4 rfl) <| ?_
 cases hm158
 exact fe rfl
 rw [p4] at hm158
 refine Sk rfl p4 rfl <| Sk rfl p4 rfl <| Sk rfl p4 rfl <| Sk rfl p4 rfl <| Sk rfl p4 rfl <| Sk rfl p4 rfl <| Sk rfl p4 rfl <| Sk rfl p4 rfl <| Sk rfl p4 rfl <| Sk rfl p4 rfl <| Qa (PFb rfl p4 rfl) <| ?_
 cases hm158
 exact fe rfl
 rw [p3] at hm158
 refine Sk rfl p3 rfl <| Sk rfl p3 rfl <| Sk rfl p3 rfl <| Sk rfl p3 rfl <| Sk rfl p3 rfl <| Sk rfl p3 rfl <| Sk rfl p3 rfl <| Sk rfl p3 rfl <| Sk rfl p3 rfl <| Sk rfl p3 rfl <| Sk rfl p3 rfl <| Qa (PFb rfl p3 rfl) <| Qa (Mb rfl) <| Sk rfl rfl rfl <| Sk rfl rfl rfl <| Sk rfl rfl rfl <| ?_
 refine Sk rfl rfl rfl <| Sk rfl rfl rfl <| Sk rfl rfl rfl <| Sk rfl rfl rfl <| Sk rfl rfl rfl <| Sk rfl rfl rfl <| Sk rfl rfl rfl <| Qa (PFb rfl rfl rfl) <| ?_
 cases hm158
 exact fe rfl
 rintro _ ⟨F,rfl⟩
 refine fun p1y gz=>anz <| W_cond (b:=g157) rfl ?_ ?_
 intro ki
 rw [ki] at ho
 refine W_region rfl <| Wb (Mv (.func (.func 208) #[] #[.pointer (some (⟨b_x1a,0,none⟩)),.pointer (some p_x1b)]) rfl) <| Wb (Mi rfl) <| Wb (Mi rfl) <| ?_
 have kj:=gz.trans (cr [] p1y)
 replace r_x1a:=kr r_x1a kj
 replace ph:=ko ph kj
 replace hB:=(hB.trans (Chg.nil kj))
 obtain ⟨y190,p1z,ho⟩:=bs ho
 refine WL.call rfl (op_callT (fst:=[]) (cap:=[.pointer (some (⟨b_x1a,0,none⟩)),.pointer (some (p_x1b))]) rfl Tryz.func208 rfl rfl) (impl_coverage_isTopology_1_calls r_x1a (STy.keep _ z1m hB n_h_x0_Classifier_Sets_Shape_From) (STy.keep _ z1n hB n_h_x0_Classifier_Sets_Shape_To) (STy.keep _ z1o hB n_h_x0_Classifier_Sets_Shape_Identity) (STy.keep _ z1p hB n_h_x0_Classifier_Sets_Shape_Composites) (STy.keep _ z1q hB n_h_x0_Classifier_Sets_Sizes) (STy.keep _ z1g hB n_h_x0_Classifier_Sets_Actions) (STy.keep _ z1e hB n_h_x0_Classifier_Sieves) (At.keep a_x0_Classifier hB n_x0_Classifier) (STy.keep _ z13 hB n_h_x0_C_From) (STy.keep _ z12 hB n_h_x0_C_To) (STy.keep _ z17 hB n_h_x0_C_Identity) (STy.keep _ z18 hB n_h_x0_C_Composites) (At.keep a_x0_C hB n_x0_C) (STy.keep _ zi hB n_h_x0_Covers) (At.keep a_x0_Count hB n_x0_Count) (At.keep a_x0 hB n_x0) (At.keep a_x1b hB n_x1b) (dis_parF z1m n_h_x0_Classifier_Sets_Shape_From (fun i hi=>.inl (by simp [List.mem_singleton.1 hi]))) (dis_parF z1n n_h_x0_Classifier_Sets_Shape_To (fun i hi=>.inl (by simp [List.mem_singleton.1 hi]))) (dis_parF z1o n_h_x0_Classifier_Sets_Shape_Identity (fun i hi=>.inl (by simp [List.mem_singleton.1 hi]))) (dis_parF z1p n_h_x0_Classifier_Sets_Shape_Composites (fun i hi=>.inl (by simp [List.mem_singleton.1 hi]))) (dis_parF z1q n_h_x0_Classifier_Sets_Sizes (fun i hi=>.inl (by simp [List.mem_singleton.1 hi]))) (dis_parF z1g n_h_x0_Classifier_Sets_Actions (fun i hi=>.inl (by simp [List.mem_singleton.1 hi]))) (dis_parF z1e n_h_x0_Classifier_Sieves (fun i hi=>.inl (by simp [List.mem_singleton.1 hi]))) (pat_out a_x0_Classifier n_x0_Classifier (fun i hi=>.inl (by simp [List.mem_singleton.1 hi]))) (dis_parF z13 n_h_x0_C_From (fun i hi=>.inl (by simp [List.mem_singleton.1 hi]))) (dis_parF z12 n_h_x0_C_To (fun i hi=>.inl (by simp [List.mem_singleton.1 hi]))) (dis_parF z17 n_h_x0_C_Identity (fun i hi=>.inl (by simp [List.mem_singleton.1 hi]))) (dis_parF z18 n_h_x0_C_Composites (fun i hi=>.inl (by simp [List.mem_singleton.1 hi]))) (pat_out a_x0_C n_x0_C (fun i hi=>.inl (by simp [List.mem_singleton.1 hi]))) (dis_parF zi n_h_x0_Covers (fun i hi=>.inl (by simp [List.mem_singleton.1 hi]))) (pat_out a_x0_Count n_x0_Count (fun i hi=>.inl (by simp [List.mem_singleton.1 hi]))) (pat_out a_x0 n_x0 (fun i hi=>.inl (by simp [List.mem_singleton.1 hi]))) (pat_out a_x1b n_x1b (fun i hi=>.inl (by simp [List.mem_singleton.1 hi]))) p1z) ?_
 rintro _ p20 ⟨rfl,p00,p21⟩
 refine ⟨_,rfl,?_⟩
 replace ph:=okp ph p00 (Dis.symm j7)
 replace hB:=hB.then p00 (fun i hi=>.inl (by simp [List.mem_singleton.1 hi]))
 refine inBlk_n <| anz <| Wq rfl (cr [] p20) <| Qa (Ba rfl rfl) <| Qa (Mi rfl) <| fun p4b kk=>?_
 cases ho
 exact ⟨(hB.trans (Chg.nil kk)),(kr p21 kk),(ko ph kk),j7,fe rfl⟩
 intro ki
 rw [ki] at ho
 refine W_skip <| inBlk_n <| anz <| Wq rfl gz <| Qa (Ba rfl rfl) <| Qa (Mi rfl) <| fun p4c kl=>?_
 cases ho
 exact ⟨(hB.trans (Chg.nil kl)),(kr r_x1a kl),(ko ph kl),j7,fe rfl⟩
 intro qd
 rw [qd] at ho
 refine W_exit <| andThen_x <| ?_
 cases ho
 exact ⟨rfl,⟨(hB.trans (Chg.nil q4)),(kr r_x1a q4),(ko ph q4),j7,fe rfl⟩⟩
 rintro ⟨s5_120,s5_b_x1a_0⟩ _ p22 ⟨hB,r_x1a,ph,j7,F,rfl⟩ ho
 dsimp only at ho
 refine inBlk_n <| anz <| Wq rfl (cr [] p22) <| Qa (Ba rfl rfl) <| Qa (Mi rfl) <| fun p4d p01=>?_
 cases ho
 exact ⟨(hB.trans (Chg.nil p01)),(kr r_x1a p01),fe rfl⟩
 intro kf
 rw [kf] at ho
 refine W_exit <| andThen_x <| ?_
 cases ho
 exact ⟨rfl,⟨(hB.trans (Chg.nil ke)),(kr r_x1a ke),fe rfl⟩⟩
 rintro ⟨s4_108,s4_b_x1a_0⟩ _ p23 ⟨hB,r_x1a,F,rfl⟩ ho
 dsimp only at ho
 refine inBlk_n <| anz <| Wq rfl (cr [] p23) <| Qa (Ba rfl rfl) <| Qa (Mi rfl) <| fun p4e p02=>?_
 cases ho
 exact ⟨(hB.trans (Chg.nil p02)),(kr r_x1a p02),fe rfl⟩
 intro kd
 rw [kd] at ho
 refine W_exit <| andThen_x <| ?_
 cases ho
 exact ⟨rfl,⟨(hB.trans (Chg.nil kc)),(kr r_x1a kc),fe rfl⟩⟩
 rintro ⟨s3_101,s3_b_x1a_0⟩ _ p4f ⟨hB,r_x1a,F,rfl⟩ ho
 dsimp only at ho
 cases ho
 exact ⟨_,res_0 Tryz.results157,rfl,hB,r_x1a⟩

abbrev impl_coverage_isTopology_post (w:World) (x:(Bool)) (e:Ending) (w':World):Prop:=e = .returned (.bool x)∧Chg [] w w'
abbrev impl_coverage_isTopology_T (w:World):=Tm Tryz.prog Tryz.f151 8 (impl_coverage_isTopology_post w)
theorem impl_coverage_isTopology_calls {w:World} {x0:MCoverage} {p_x0:Addr} {p_x0_Classifier:Addr} {z1h:Value} {z1t:List Nat} {z1i:Value} {z1u:List Nat} {z1j:Value} {z1v:List Nat} {z1k:Value} {z1w:List Nat} {z1l:Value} {z1x:List Nat} {z1d:Value} {z1y:List Nat} {z1f:Value} {z20:List Nat} {p_x0_C:Addr} {zy:Value} {z19:List Nat} {zx:Value} {z1a:List Nat} {z10:Value} {z1b:List Nat} {z11:Value} {z1c:List Nat} {zj:Value} {zd:List Nat} {p_x0_Count:Addr} (z1m:(sImm (sInt .i64)).rep w.heap [z1h] x0.Classifier.Sets.Shape.From z1t) (z1n:(sImm (sInt .i64)).rep w.heap [z1i] x0.Classifier.Sets.Shape.To z1u) (z1o:(sImm (sInt .i64)).rep w.heap [z1j] x0.Classifier.Sets.Shape.Identity z1v) (z1p:(sImm (sImm (sInt .i64))).rep w.heap [z1k] x0.Classifier.Sets.Shape.Composites z1w) (z1q:(sImm (sInt .i64)).rep w.heap [z1l] x0.Classifier.Sets.Sizes z1x) (z1g:(sImm (sImm (sInt .i64))).rep w.heap [z1d] x0.Classifier.Sets.Actions z1y) (z1e:(sImm (sImm (sImm (sInt .i64)))).rep w.heap [z1f] x0.Classifier.Sieves z20) (a_x0_Classifier:At w p_x0_Classifier [.int .i64 (x0.Classifier.Sets.Shape.Objects),z1h,z1i,z1j,z1k,z1l,z1d,z1f]) (z13:(sImm (sInt .i64)).rep w.heap [zy] x0.C.From z19) (z12:(sImm (sInt .i64)).rep w.heap [zx] x0.C.To z1a) (z17:(sImm (sInt .i64)).rep w.heap [z10] x0.C.Identity z1b) (z18:(sImm (sImm (sInt .i64))).rep w.heap [z11] x0.C.Composites z1c) (a_x0_C:At w p_x0_C [.int .i64 (x0.C.Objects),zy,zx,z10,z11]) (zi:(sImm (sImm sBool)).rep w.heap [zj] x0.Covers zd) (a_x0_Count:At w p_x0_Count [.int .i64 (x0.Count)]) (a_x0:At w p_x0 [.pointer (some (p_x0_Classifier)),.pointer (some (p_x0_C)),zj,.pointer (some (p_x0_Count))]) {y:(Bool)} (hm:impl_coverage_isTopology x0=some y) :
  Calls Tryz.prog 151 #[.pointer (some (p_x0))] w (impl_coverage_isTopology_post w y):=by
 refine Cm (S:=Unit) Tryz.func151 rfl Tryz.ntmps151 rfl hm fun o ho hB=>?_
 clear hm
 refine wq <| W_region rfl <| WL.box fun b1 wd2 hC3 hr4 hl5=>?_
 replace hr4:Row wd2 b1 [.pointer (some (p_x0))] 102:=hr4
 replace hB:=(hB.trans hC3)
 refine Wb (Ab rfl) <| anz <| wq <| W_region rfl <| WL.alloc info4 zr4 fun b8 wd9 q6 pi jm=>?_
 replace pi:Row wd9 b8 [.bool (false)] 4:=pi
 have pf:w.heap.size≤b8:=Nat.le_trans hB.size jm
 have km:=dl (onw jm) (one_lt (Row.lt hr4))
 replace hr4:=kr hr4 q6
 replace hB:=(hB.trans q6)
 refine WL.storeRow (j:=0) info4 sz4 pi (Nat.le_of_ble_eq_true rfl) rfl rfl rfl fun kn qe kq=>?_
 replace kq:Row kn b8 [.bool (true)] 4:=kq
 replace hr4:=Row.keep hr4 qe ((km).symm _ (ms rfl))
 replace hB:=hB.then qe (one_then pf)
 refine anz <| wq <| W_region rfl <| Wb (Lr na102 hr4 rfl rfl) <| WL.val (v:=.func (.func 208) #[] #[.pointer (some (⟨b8,0,none⟩)),.pointer (some (⟨b1,0,none⟩))]) rfl (op_makeFunc (fst:=[]) (cap:=[.tmp 3,.tmp 1])) <| ?_
 obtain ⟨y20,p24,ho⟩:=bs ho
 refine WL.call rfl (op_callF Tryz.func157 rfl rfl) (impl_coverage_follows_isTop_calls (kp _ z1m hB) (kp _ z1n hB) (kp _ z1o hB) (kp _ z1p hB) (kp _ z1q hB) (kp _ z1g hB) (kp _ z1e hB) (At.keep0 a_x0_Classifier hB) (kp _ z13 hB) (kp _ z12 hB) (kp _ z17 hB) (kp _ z18 hB) (At.keep0 a_x0_C hB) (kp _ zi hB) (At.keep0 a_x0_Count hB) (At.keep0 a_x0 hB) kq hr4.at (dis_par (sl _ z1m) (one_then pf)) (dis_par (sl _ z1n) (one_then pf)) (dis_par (sl _ z1o) (one_then pf)) (dis_par (sl _ z1p) (one_then pf)) (dis_par (sl _ z1q) (one_then pf)) (dis_par (sl _ z1g) (one_then pf)) (dis_par (sl _ z1e) (one_then pf)) (pat_out a_x0_Classifier List.not_mem_nil (one_then pf)) (dis_par (sl _ z13) (one_then pf)) (dis_par (sl _ z12) (one_then pf)) (dis_par (sl _ z17) (one_then pf)) (dis_par (sl _ z18) (one_then pf)) (pat_out a_x0_C List.not_mem_nil (one_then pf)) (dis_par (sl _ zi) (one_then pf)) (pat_out a_x0_Count List.not_mem_nil (one_then pf)) (pat_out a_x0 List.not_mem_nil (one_then pf)) (fun hm=>km _ hm (ms rfl)) p24) <| ?_
 rintro _ p25 ⟨rfl,p03,qk⟩
 refine ⟨_,rfl,?_⟩
 replace hr4:=Row.keep hr4 p03 ((Dis.symm km) _ (ms rfl))
 replace hB:=hB.then p03 (one_then pf)
 refine anz <| wq <| Wq rfl (cr [] p25) <| Qa (Lr na4 qk rfl rfl) <| Qa (Ab rfl) <| fun p04 j8=>anz <| ?_
 cases ho
 exact W_ret ⟨_,res_1 Tryz.results151,rfl,(hB.trans j8)⟩

abbrev impl_limitCode_post (p_x0:Addr) (w:World) (x:((Option MCoverage)×Int)) (e:Ending) (w':World):Prop:=∃ (v0:Value),e = .returned (.tuple #[v0,.int .i64 x.2])∧Chg [] w w'∧(match x.1 with | none=>(v0 = .pointer none) | some m0=>∃ (b101:Nat) (b102:Nat) (v101:Value) (f101:List Nat) (v102:Value) (f102:List Nat) (v103:Value) (f103:List Nat) (v104:Value) (f104:List Nat) (v105:Value) (f105:List Nat) (v106:Value) (f106:List Nat) (v107:Value) (f107:List Nat) (v108:Value) (f108:List Nat) (b103:Nat),v0 = .pointer (some (⟨b101,0,none⟩))∧OE [] w.heap.size w' (sOwn 2 (sInt .i64)) [v101] m0.Classifier.Sets.Shape.From f101∧OE [] w.heap.size w' (sOwn 2 (sInt .i64)) [v102] m0.Classifier.Sets.Shape.To f102∧OE [] w.heap.size w' (sOwn 2 (sInt .i64)) [v103] m0.Classifier.Sets.Shape.Identity f103∧OE [] w.heap.size w' (sOwn 22 (sOwn 2 (sInt .i64))) [v104] m0.Classifier.Sets.Shape.Composites f104∧OE [] w.heap.size w' (sOwn 2 (sInt .i64)) [v105] m0.Classifier.Sets.Sizes f105∧OE [] w.heap.size w' (sOwn 22 (sOwn 2 (sInt .i64))) [v106] m0.Classifier.Sets.Actions f106∧OE [] w.heap.size w' (sOwn 118 (sOwn 114 (sOwn 2 (sInt .i64)))) [v107] m0.Classifier.Sieves f107∧Row w' b102 [.int .i64 (m0.Classifier.Sets.Shape.Objects),v101,v102,v103,v104,v105,v106,v107] 151∧w.heap.size≤b102∧OE [] w.heap.size w' (sOwn 138 (sOwn 4 sBool)) [v108] m0.Covers f108∧Row w' b103 [.int .i64 (m0.Count)] 197∧w.heap.size≤b103∧Row w' b101 [.pointer (some (⟨b102,0,none⟩)),.pointer (some ((p_x0.add 0))),v108,.pointer (some (⟨b103,0,none⟩))] 144∧w.heap.size≤b101∧Dis f101 f102∧Dis f101 f103∧Dis f101 f104∧Dis f101 f105∧Dis f101 f106∧Dis f101 f107∧Dis f101 [b102]∧Dis f101 f108∧Dis f101 [b103]∧Dis f101 [b101]∧Dis f102 f103∧Dis f102 f104∧Dis f102 f105∧Dis f102 f106∧Dis f102 f107∧Dis f102 [b102]∧Dis f102 f108∧Dis f102 [b103]∧Dis f102 [b101]∧Dis f103 f104∧Dis f103 f105∧Dis f103 f106∧Dis f103 f107∧Dis f103 [b102]∧Dis f103 f108∧Dis f103 [b103]∧Dis f103 [b101]∧Dis f104 f105∧Dis f104 f106∧Dis f104 f107∧Dis f104 [b102]∧Dis f104 f108∧Dis f104 [b103]∧Dis f104 [b101]∧Dis f105 f106∧Dis f105 f107∧Dis f105 [b102]∧Dis f105 f108∧Dis f105 [b103]∧Dis f105 [b101]∧Dis f106 f107∧Dis f106 [b102]∧Dis f106 f108∧Dis f106 [b103]∧Dis f106 [b101]∧Dis f107 [b102]∧Dis f107 f108∧Dis f107 [b103]∧Dis f107 [b101]∧Dis [b102] f108∧Dis [b102] [b103]∧Dis [b102] [b101]∧Dis f108 [b103]∧Dis f108 [b101]∧Dis [b103] [b101])
abbrev impl_limitCode_T (p_x0:Addr) (w:World):=Tm Tryz.prog Tryz.f83 17 (impl_limitCode_post p_x0 w)
theorem impl_limitCode_calls {w:World} {x0:MTopology} {p_x0:Addr} {zk:Value} {zo:List Nat} {zl:Value} {zp:List Nat} {zm:Value} {zq:List Nat} {zn:Value} {zr:List Nat} {zj:Value} {zd:List Nat} (zt:(sImm (sInt .i64)).rep w.heap [zk] x0.Shape.From zo) (zu:(sImm (sInt .i64)).rep w.heap [zl] x0.Shape.To zp) (zv:(sImm (sInt .i64)).rep w.heap [zm] x0.Shape.Identity zq) (zw:(sImm (sImm (sInt .i64))).rep w.heap [zn] x0.Shape.Composites zr) (zi:(sImm (sImm (sImm (sInt .i64)))).rep w.heap [zj] x0.Covers zd) (a_x0:At w p_x0 [.int .i64 (x0.Shape.Objects),zk,zl,zm,zn,zj]) {y:((Option MCoverage)×Int)} (hm:impl_limitCode x0=some y) :
  Calls Tryz.prog 83 #[.pointer (some (p_x0))] w (impl_limitCode_post p_x0 w y):=by
 refine Cm (S:=Unit) Tryz.func83 rfl Tryz.ntmps83 rfl hm fun o ho hB=>?_
 clear hm
 refine wq <| Wq rfl (cr [] w) <| Qa (Av (.pointer none) rfl) <| Qa (Ai rfl) <| fun wd1 hC2=>anz <| wq <| W_region rfl <| Wb (Mp rfl) <| ?_
 obtain ⟨y3,hy4,ho⟩:=bs ho
 refine WL.call rfl (op_callF Tryz.func93 rfl rfl) (impl_Topology_coverage_calls (kp _ zt (hB.trans hC2)) (kp _ zu (hB.trans hC2)) (kp _ zv (hB.trans hC2)) (kp _ zw (hB.trans hC2)) (kp _ zi (hB.trans hC2)) (At.keep0 a_x0 (hB.trans hC2)) hy4) <| ?_
 rintro _ wd5 ⟨v8,rfl,hC6,hp7⟩
 refine ⟨_,rfl,?_⟩
 have sb9:At w (p_x0.add 0) [.int .i64 (x0.Shape.Objects),zk,zl,zm,zn]:=At.sub a_x0 0 5
 rcases hq10:y3.1 with _ | m11
 rw [hq10] at hp7 ho
 try dsimp only at hp7
 try dsimp only at ho
 obtain rfl:=hp7
 have p26:=hC2.trans hC6
 replace hB:=(hB.trans p26)
 refine Wb (Mt rfl) <| Wb (Ex (.pointer none) rfl rfl) <| Wb (Exb rfl rfl) <| Wb (Av (.pointer none) rfl) <| Wb (Ab rfl) <| anz <| wq <| wq <| Wq rfl (cr [] wd5) <| Qa (Mb rfl) <| Qa (Nt rfl) <| fun p4g p05=>anz <| W_cond (b:=!(y3.2)) rfl ?_ ?_
 intro ks
 rw [ks] at ho
 refine wq <| Wq rfl p05 <| Qa (Av (.pointer none) rfl) <| Qa (Ai rfl) <| fun kn qe=>anz <| ?_
 cases ho
 exact W_ret ⟨_,res_2 Tryz.results83,_,rfl,(hB.trans qe),rfl⟩
 intro ks
 rw [ks] at ho
 refine W_skip <| anz <| wq <| wq <| Wq rfl p05 <| Qa (Mv (.pointer none) rfl) <| ?_
 cases ho
 rw [hq10] at hp7 ho
 try dsimp only at hp7
 try dsimp only at ho
 obtain ⟨b18,jn,v22,f23,v25,f26,v28,f29,v31,f32,v34,f35,v37,f38,v40,f41,v44,f45,b47,rfl,qk,ql,jo,jp,qi,po,jq,jr,p2a,js,p07,p2b,qm,p2c,d51,kt,j9,ja,ku,kv,kw,kx,ky,qn,kz,n0,n1,n2,j5,qo,q3,n3,n4,n5,qp,n6,n7,n8,qq,n9,na,qr,nb,qs,qt,nc,nd,ne,nf,ng,nh,ni,nj,nk,qu,nl,nm,qw,nn,no,qx,np,nq,qy,nr,ns,qz,nt,nu⟩:=hp7
 replace qk:=OE.low (G:=[]) qk (hB.trans hC2).size
 replace ql:=OE.low (G:=[]) ql (hB.trans hC2).size
 replace jo:=OE.low (G:=[]) jo (hB.trans hC2).size
 replace jp:=OE.low (G:=[]) jp (hB.trans hC2).size
 replace qi:=OE.low (G:=[]) qi (hB.trans hC2).size
 replace po:=OE.low (G:=[]) po (hB.trans hC2).size
 replace jq:=OE.low (G:=[]) jq (hB.trans hC2).size
 have p2e:w.heap.size≤jn:=Nat.le_trans (hB.trans hC2).size p2a
 replace js:=OE.low (G:=[]) js (hB.trans hC2).size
 have jt:w.heap.size≤b47:=Nat.le_trans (hB.trans hC2).size p2b
 have nv:w.heap.size≤b18:=Nat.le_trans (hB.trans hC2).size p2c
 have p2f:=hC2.trans hC6
 replace hB:=(hB.trans p2f)
 refine Wb (Mt rfl) <| Wb (Ex (.pointer (some (⟨b18,0,none⟩))) rfl rfl) <| Wb (Exb rfl rfl) <| Wb (Ap rfl) <| Wb (Ab rfl) <| anz <| wq <| wq <| Wq rfl (cr [] wd5) <| Qa (Mb rfl) <| Qa (Nt rfl) <| fun p4n p08=>anz <| W_cond (b:=!(y3.2)) rfl ?_ ?_
 intro nw
 rw [nw] at ho
 refine wq <| Wq rfl p08 <| Qa (Av (.pointer none) rfl) <| Qa (Ai rfl) <| fun p4o p2g=>anz <| ?_
 cases ho
 exact W_ret ⟨_,res_2 Tryz.results83,_,rfl,(hB.trans p2g),rfl⟩
 intro nw
 rw [nw] at ho
 refine W_skip <| anz <| wq <| wq <| Wq rfl p08 <| Qa (Mp rfl) <| ?_
 obtain ⟨y115,p2h,ho⟩:=bs ho
 refine Qc Tryz.func151 rfl rfl (fun _ hC=>impl_coverage_isTopology_calls (x0:=(MCoverage.mk m11.Classifier x0.Shape m11.Covers m11.Count)) ((Le.own (Le.refl _) 2).le (kp _ qk.1 hC)) ((Le.own (Le.refl _) 2).le (kp _ ql.1 hC)) ((Le.own (Le.refl _) 2).le (kp _ jo.1 hC)) ((Le.own (Le.own (Le.refl _) 2) 22).le (kp _ jp.1 hC)) ((Le.own (Le.refl _) 2).le (kp _ qi.1 hC)) ((Le.own (Le.own (Le.refl _) 2) 22).le (kp _ po.1 hC)) ((Le.own (Le.own (Le.own (Le.refl _) 2) 114) 118).le (kp _ jq.1 hC)) (kr jr hC).at (kp _ zt (hB.trans hC)) (kp _ zu (hB.trans hC)) (kp _ zv (hB.trans hC)) (kp _ zw (hB.trans hC)) (At.keep0 sb9 (hB.trans hC)) ((Le.own (Le.own (Le.refl _) 4) 138).le (kp _ js.1 hC)) (kr p07 hC).at (kr qm hC).at p2h) <| Qa (Nt rfl) <| fun p4p p09=>anz <| W_cond (b:=!(y115)) rfl ?_ ?_
 intro nx
 rw [nx] at ho
 refine wq <| Wq rfl p09 <| Qa (Av (.pointer none) rfl) <| Qa (Ai rfl) <| fun p0a pg=>anz <| ?_
 cases ho
 exact W_ret ⟨_,res_2 Tryz.results83,_,rfl,(hB.trans pg),rfl⟩
 intro nx
 rw [nx] at ho
 refine W_skip <| anz <| wq <| Wq rfl p09 <| Qa (Mp rfl) <| Qa (Ap rfl) <| Qa (Ai rfl) <| fun p1o pn=>anz <| ?_
 cases ho
 exact W_ret ⟨_,res_2 Tryz.results83,_,rfl,(hB.trans pn),_,_,_,_,_,_,_,_,_,_,_,_,_,_,_,_,_,_,_,rfl,(ko qk pn),(ko ql pn),(ko jo pn),(ko jp pn),(ko qi pn),(ko po pn),(ko jq pn),(kr jr pn),p2e,(ko js pn),(kr p07 pn),jt,(kr qm pn),nv,d51,kt,j9,ja,ku,kv,kw,kx,ky,qn,kz,n0,n1,n2,j5,qo,q3,n3,n4,n5,qp,n6,n7,n8,qq,n9,na,qr,nb,qs,qt,nc,nd,ne,nf,ng,nh,ni,nj,nk,qu,nl,nm,qw,nn,no,qx,np,nq,qy,nr,ns,qz,nt,nu⟩

abbrev impl_topologyCode_post (p_x0:Addr) (w:World) (x:((Option MCoverage)×Int)) (e:Ending) (w':World):Prop:=∃ (v0:Value),e = .returned (.tuple #[v0,.int .i64 x.2])∧Chg [] w w'∧(match x.1 with | none=>(v0 = .pointer none) | some m0=>∃ (b101:Nat) (b102:Nat) (v101:Value) (f101:List Nat) (v102:Value) (f102:List Nat) (v103:Value) (f103:List Nat) (v104:Value) (f104:List Nat) (v105:Value) (f105:List Nat) (v106:Value) (f106:List Nat) (v107:Value) (f107:List Nat) (v108:Value) (f108:List Nat) (b103:Nat),v0 = .pointer (some (⟨b101,0,none⟩))∧OE [] w.heap.size w' (sOwn 2 (sInt .i64)) [v101] m0.Classifier.Sets.Shape.From f101∧OE [] w.heap.size w' (sOwn 2 (sInt .i64)) [v102] m0.Classifier.Sets.Shape.To f102∧OE [] w.heap.size w' (sOwn 2 (sInt .i64)) [v103] m0.Classifier.Sets.Shape.Identity f103∧OE [] w.heap.size w' (sOwn 22 (sOwn 2 (sInt .i64))) [v104] m0.Classifier.Sets.Shape.Composites f104∧OE [] w.heap.size w' (sOwn 2 (sInt .i64)) [v105] m0.Classifier.Sets.Sizes f105∧OE [] w.heap.size w' (sOwn 22 (sOwn 2 (sInt .i64))) [v106] m0.Classifier.Sets.Actions f106∧OE [] w.heap.size w' (sOwn 118 (sOwn 114 (sOwn 2 (sInt .i64)))) [v107] m0.Classifier.Sieves f107∧Row w' b102 [.int .i64 (m0.Classifier.Sets.Shape.Objects),v101,v102,v103,v104,v105,v106,v107] 151∧w.heap.size≤b102∧OE [] w.heap.size w' (sOwn 138 (sOwn 4 sBool)) [v108] m0.Covers f108∧Row w' b103 [.int .i64 (m0.Count)] 197∧w.heap.size≤b103∧Row w' b101 [.pointer (some (⟨b102,0,none⟩)),.pointer (some ((p_x0.add 0))),v108,.pointer (some (⟨b103,0,none⟩))] 144∧w.heap.size≤b101∧Dis f101 f102∧Dis f101 f103∧Dis f101 f104∧Dis f101 f105∧Dis f101 f106∧Dis f101 f107∧Dis f101 [b102]∧Dis f101 f108∧Dis f101 [b103]∧Dis f101 [b101]∧Dis f102 f103∧Dis f102 f104∧Dis f102 f105∧Dis f102 f106∧Dis f102 f107∧Dis f102 [b102]∧Dis f102 f108∧Dis f102 [b103]∧Dis f102 [b101]∧Dis f103 f104∧Dis f103 f105∧Dis f103 f106∧Dis f103 f107∧Dis f103 [b102]∧Dis f103 f108∧Dis f103 [b103]∧Dis f103 [b101]∧Dis f104 f105∧Dis f104 f106∧Dis f104 f107∧Dis f104 [b102]∧Dis f104 f108∧Dis f104 [b103]∧Dis f104 [b101]∧Dis f105 f106∧Dis f105 f107∧Dis f105 [b102]∧Dis f105 f108∧Dis f105 [b103]∧Dis f105 [b101]∧Dis f106 f107∧Dis f106 [b102]∧Dis f106 f108∧Dis f106 [b103]∧Dis f106 [b101]∧Dis f107 [b102]∧Dis f107 f108∧Dis f107 [b103]∧Dis f107 [b101]∧Dis [b102] f108∧Dis [b102] [b103]∧Dis [b102] [b101]∧Dis f108 [b103]∧Dis f108 [b101]∧Dis [b103] [b101])
abbrev impl_topologyCode_T (p_x0:Addr) (w:World):=Tm Tryz.prog Tryz.f73 11 (impl_topologyCode_post p_x0 w)
theorem impl_topologyCode_calls {w:World} {x0:MTopology} {p_x0:Addr} {zk:Value} {zo:List Nat} {zl:Value} {zp:List Nat} {zm:Value} {zq:List Nat} {zn:Value} {zr:List Nat} {zj:Value} {zd:List Nat} (zt:(sImm (sInt .i64)).rep w.heap [zk] x0.Shape.From zo) (zu:(sImm (sInt .i64)).rep w.heap [zl] x0.Shape.To zp) (zv:(sImm (sInt .i64)).rep w.heap [zm] x0.Shape.Identity zq) (zw:(sImm (sImm (sInt .i64))).rep w.heap [zn] x0.Shape.Composites zr) (zi:(sImm (sImm (sImm (sInt .i64)))).rep w.heap [zj] x0.Covers zd) (a_x0:At w p_x0 [.int .i64 (x0.Shape.Objects),zk,zl,zm,zn,zj]) {y:((Option MCoverage)×Int)} (hm:impl_topologyCode x0=some y) :
  Calls Tryz.prog 73 #[.pointer (some (p_x0))] w (impl_topologyCode_post p_x0 w y):=by
 refine Cm (S:=Unit) Tryz.func73 rfl Tryz.ntmps73 rfl hm fun o ho hB=>?_
 clear hm
 refine wq <| Wq rfl (cr [] w) <| Qa (Av (.pointer none) rfl) <| Qa (Ai rfl) <| fun wd1 hC2=>anz <| wq <| wq <| Wq rfl hC2 <| Qa (Mp rfl) <| ?_
 obtain ⟨y3,hy4,ho⟩:=bs ho
 refine Qc Tryz.func80 rfl rfl (fun _ hC=>impl_Topology_hasForm_calls (kp _ zt (hB.trans hC)) (kp _ zu (hB.trans hC)) (kp _ zv (hB.trans hC)) (kp _ zw (hB.trans hC)) (kp _ zi (hB.trans hC)) (At.keep0 a_x0 (hB.trans hC)) hy4) <| Qa (Nt rfl) <| fun wd5 hC6=>anz <| W_cond (b:=!(y3)) rfl ?_ ?_
 intro hb7
 rw [hb7] at ho
 refine wq <| Wq rfl hC6 <| Qa (Av (.pointer none) rfl) <| Qa (Ai rfl) <| fun wd8 hC9=>anz <| ?_
 cases ho
 exact W_ret ⟨_,res_2 Tryz.results73,_,rfl,(hB.trans hC9),rfl⟩
 intro hb7
 rw [hb7] at ho
 refine W_skip <| anz <| wq <| W_region rfl <| Wb (Mp rfl) <| ?_
 obtain ⟨y10,p2i,ho⟩:=bs ho
 refine WL.call rfl (op_callF Tryz.func83 rfl rfl) (impl_limitCode_calls (kp _ zt (hB.trans hC6)) (kp _ zu (hB.trans hC6)) (kp _ zv (hB.trans hC6)) (kp _ zw (hB.trans hC6)) (kp _ zi (hB.trans hC6)) (At.keep0 a_x0 (hB.trans hC6)) p2i) <| ?_
 rintro _ p4q ⟨v15,rfl,p0b,hp14⟩
 refine ⟨_,rfl,?_⟩
 rcases hq17:y10.1 with _ | m18
 rw [hq17] at hp14 ho
 try dsimp only at hp14
 try dsimp only at ho
 obtain rfl:=hp14
 have p2j:=hC6.trans p0b
 replace hB:=(hB.trans p2j)
 refine Wb (Ex (.pointer none) rfl rfl) <| Wb (Exi rfl rfl) <| Wb (Av (.pointer none) rfl) <| Wb (Ai rfl) <| anz <| ?_
 cases ho
 exact W_ret ⟨_,res_2 Tryz.results73,_,rfl,hB,rfl⟩
 rw [hq17] at hp14 ho
 try dsimp only at hp14
 try dsimp only at ho
 obtain ⟨jn,b22,v24,f25,v27,f28,v30,ny,v33,nz,v36,g0,v39,g1,v42,g2,v46,f47,b49,rfl,g3,jb,p8,p9,pa,pb,pc,p2n,p2o,g4,p2p,p2q,jr,p2r,j9,ja,ku,kv,kw,kx,ky,qn,kz,n0,n1,n2,j5,qo,q3,n3,n4,n5,qp,n6,n7,n8,qq,n9,na,qr,nb,qs,qt,nc,nd,ne,nf,ng,nh,ni,nj,nk,qu,nl,nm,qw,nn,no,qx,np,nq,qy,nr,ns,qz,nt,nu,ju,p2s⟩:=hp14
 replace g3:=OE.low (G:=[]) g3 (hB.trans hC6).size
 replace jb:=OE.low (G:=[]) jb (hB.trans hC6).size
 replace p8:=OE.low (G:=[]) p8 (hB.trans hC6).size
 replace p9:=OE.low (G:=[]) p9 (hB.trans hC6).size
 replace pa:=OE.low (G:=[]) pa (hB.trans hC6).size
 replace pb:=OE.low (G:=[]) pb (hB.trans hC6).size
 replace pc:=OE.low (G:=[]) pc (hB.trans hC6).size
 have nv:w.heap.size≤b22:=Nat.le_trans (hB.trans hC6).size p2o
 replace g4:=OE.low (G:=[]) g4 (hB.trans hC6).size
 have p2t:w.heap.size≤b49:=Nat.le_trans (hB.trans hC6).size p2q
 have jv:w.heap.size≤jn:=Nat.le_trans (hB.trans hC6).size p2r
 have p2u:=hC6.trans p0b
 replace hB:=(hB.trans p2u)
 refine Wb (Ex (.pointer (some (⟨jn,0,none⟩))) rfl rfl) <| Wb (Exi rfl rfl) <| Wb (Ap rfl) <| Wb (Ai rfl) <| anz <| ?_
 cases ho
 exact W_ret ⟨_,res_2 Tryz.results73,_,rfl,hB,_,_,_,_,_,_,_,_,_,_,_,_,_,_,_,_,_,_,_,rfl,g3,jb,p8,p9,pa,pb,pc,p2n,nv,g4,p2p,p2t,jr,jv,j9,ja,ku,kv,kw,kx,ky,qn,kz,n0,n1,n2,j5,qo,q3,n3,n4,n5,qp,n6,n7,n8,qq,n9,na,qr,nb,qs,qt,nc,nd,ne,nf,ng,nh,ni,nj,nk,qu,nl,nm,qw,nn,no,qx,np,nq,qy,nr,ns,qz,nt,nu,ju,p2s⟩

abbrev laws_eqInt64S_post (w:World) (x:(Bool)) (e:Ending) (w':World):Prop:=e = .returned (.bool x)∧Chg [] w w'
abbrev laws_eqInt64S_T (w:World):=Tm Tryz.prog Tryz.f23 26 (laws_eqInt64S_post w)
theorem laws_eqInt64S_calls {w:World} {x0:(List Int)} {v_x0:Value} {f_x0:List Nat} {x1:(List Int)} {v_x1:Value} {f_x1:List Nat} (h_x0:(sImm (sInt .i64)).rep w.heap [v_x0] x0 f_x0) (h_x1:(sImm (sInt .i64)).rep w.heap [v_x1] x1 f_x1) {y:(Bool)} (hm:laws_eqInt64S x0 x1=some y) :
  Calls Tryz.prog 23 #[v_x0,v_x1] w (laws_eqInt64S_post w y):=by
 refine Cm (S:=Unit) Tryz.func23 rfl Tryz.ntmps23 rfl hm fun o ho hB=>?_
 clear hm
 refine wq <| Wq rfl (cr [] w) <| Qa (Ab rfl) <| fun wd1 hC2=>anz <| wq <| wq <| Wq rfl hC2 <| Qa (Mv v_x0 rfl) <| Qa (Ln sl22 (kB h_x0 hB) rfl) <| Qa (Mv v_x1 rfl) <| Qa (Ln sl22 (kB h_x1 hB) rfl) <| Qa (Bn rfl rfl) <| fun wd3 hC4=>anz <| W_cond (b:=((x0.length:Int)) != ((x1.length:Int))) rfl ?_ ?_
 intro hb5
 rw [hb5] at ho
 refine wq <| Wq rfl hC4 <| Qa (Ab rfl) <| fun wd6 hC7=>anz <| ?_
 cases ho
 exact W_ret ⟨_,res_1 Tryz.results23,rfl,(hB.trans hC7)⟩
 intro hb5
 rw [hb5] at ho
 refine W_skip <| anz <| wq <| wq <| Wq rfl hC4 <| Qa (Ai rfl) <| fun wd8 hC9=>anz <| Wf (S1:=Int) (fun (s0_5:Int) r w'=>Chg [] w w'∧∃ F,r=updL F [(0,v_x0),(1,v_x1),(5,.int .i64 (s0_5))]) (laws_eqInt64S_T w) ho ⟨(hB.trans hC9),fe rfl⟩ ?_ ?_
 rintro s0_5 _ jc ⟨hB,F,rfl⟩ o ho
 replace ho:laws_eqInt64S_L0 x0 x1 s0_5=some o:=ho
 unfold laws_eqInt64S_L0 at ho
 refine wq <| wq <| Wq rfl (cr [] jc) <| Qa (Mi rfl) <| Qa (Mv v_x0 rfl) <| Qa (Ln sl22 (kB h_x0 hB) rfl) <| Qa (Bl rfl rfl) <| fun j2 p0=>anz <| W_cond (b:=decide (s0_5 < (x0.length:Int))) rfl ?_ ?_
 intro py
 rw [py] at ho
 refine W_skip <| anz <| wq <| W_block <| wq <| Wqd rfl (by kernel_rfl) p0 <| Qa (Mv v_x0 rfl) <| Qa (Mi rfl) <| ?_
 obtain ⟨e14,hx15e,ho⟩:=bs ho
 have hx15:=idx_some hx15e
 refine Qa (Ix sl22 (kB h_x0 hB) hx15 rfl rfl rfl) <| Qa (Ei na2 (kB h_x0 hB) hx15 rfl) <| Qa (Mv v_x1 rfl) <| Qa (Mi rfl) <| ?_
 obtain ⟨e16,hx17e,ho⟩:=bs ho
 have hx17:=idx_some hx17e
 refine Qa (Ix sl22 (kB h_x1 hB) hx17 rfl rfl rfl) <| Qa (Ei na2 (kB h_x1 hB) hx17 rfl) <| Qa (Bn rfl rfl) <| fun p2v jd=>anz <| W_cond (b:=(e14) != (e16)) rfl ?_ ?_
 intro qf
 rw [qf] at ho
 refine wq <| Wq rfl jd <| Qa (Ab rfl) <| fun p2w g5=>anz <| ?_
 cases ho
 exact W_ret ⟨_,res_1 Tryz.results23,rfl,(hB.trans g5)⟩
 intro qf
 rw [qf] at ho
 refine W_skip <| inBlk_n <| anz <| Wq rfl jd <| Qa (Mi rfl) <| Qa (Ba rfl rfl) <| Qa (Ai rfl) <| fun k1 jw=>?_
 cases ho
 exact ⟨(hB.trans jw),fe rfl⟩
 intro py
 rw [py] at ho
 refine W_exit <| andThen_x <| ?_
 cases ho
 exact ⟨rfl,⟨(hB.trans p0),fe rfl⟩⟩
 rintro s0_5 _ j4 ⟨hB,F,rfl⟩ ho
 refine anz <| wq <| Wq rfl (cr [] j4) <| Qa (Ab rfl) <| fun p04 j8=>anz <| ?_
 cases ho
 exact W_ret ⟨_,res_1 Tryz.results23,rfl,(hB.trans j8)⟩

abbrev laws_eqInt64SS_post (w:World) (x:(Bool)) (e:Ending) (w':World):Prop:=e = .returned (.bool x)∧Chg [] w w'
abbrev laws_eqInt64SS_T (w:World):=Tm Tryz.prog Tryz.f29 27 (laws_eqInt64SS_post w)
theorem laws_eqInt64SS_calls {w:World} {x0:(List (List Int))} {v_x0:Value} {f_x0:List Nat} {x1:(List (List Int))} {v_x1:Value} {f_x1:List Nat} (h_x0:(sImm (sImm (sInt .i64))).rep w.heap [v_x0] x0 f_x0) (h_x1:(sImm (sImm (sInt .i64))).rep w.heap [v_x1] x1 f_x1) {y:(Bool)} (hm:laws_eqInt64SS x0 x1=some y) :
  Calls Tryz.prog 29 #[v_x0,v_x1] w (laws_eqInt64SS_post w y):=by
 refine Cm (S:=Unit) Tryz.func29 rfl Tryz.ntmps29 rfl hm fun o ho hB=>?_
 clear hm
 refine wq <| Wq rfl (cr [] w) <| Qa (Ab rfl) <| fun wd1 hC2=>anz <| wq <| wq <| Wq rfl hC2 <| Qa (Mv v_x0 rfl) <| Qa (Ln sl23 (kB h_x0 hB) rfl) <| Qa (Mv v_x1 rfl) <| Qa (Ln sl23 (kB h_x1 hB) rfl) <| Qa (Bn rfl rfl) <| fun wd3 hC4=>anz <| W_cond (b:=((x0.length:Int)) != ((x1.length:Int))) rfl ?_ ?_
 intro hb5
 rw [hb5] at ho
 refine wq <| Wq rfl hC4 <| Qa (Ab rfl) <| fun wd6 hC7=>anz <| ?_
 cases ho
 exact W_ret ⟨_,res_1 Tryz.results29,rfl,(hB.trans hC7)⟩
 intro hb5
 rw [hb5] at ho
 refine W_skip <| anz <| wq <| wq <| Wq rfl hC4 <| Qa (Ai rfl) <| fun wd8 hC9=>anz <| Wf (S1:=Int) (fun (s0_5:Int) r w'=>Chg [] w w'∧∃ F,r=updL F [(0,v_x0),(1,v_x1),(5,.int .i64 (s0_5))]) (laws_eqInt64SS_T w) ho ⟨(hB.trans hC9),fe rfl⟩ ?_ ?_
 rintro s0_5 _ jc ⟨hB,F,rfl⟩ o ho
 replace ho:laws_eqInt64SS_L0 x0 x1 s0_5=some o:=ho
 unfold laws_eqInt64SS_L0 at ho
 refine wq <| wq <| Wq rfl (cr [] jc) <| Qa (Mi rfl) <| Qa (Mv v_x0 rfl) <| Qa (Ln sl23 (kB h_x0 hB) rfl) <| Qa (Bl rfl rfl) <| fun j2 p0=>anz <| W_cond (b:=decide (s0_5 < (x0.length:Int))) rfl ?_ ?_
 intro py
 rw [py] at ho
 refine W_skip <| anz <| wq <| W_block <| wq <| Wqd rfl (by kernel_rfl) p0 <| Qa (Mv v_x0 rfl) <| Qa (Mi rfl) <| ?_
 obtain ⟨e14,hx15e,ho⟩:=bs ho
 have hx15:=idx_some hx15e
 refine Qa (Ix sl23 (kB h_x0 hB) hx15 rfl rfl rfl) <| ?_
 obtain ⟨u16,fu17,hu18,qm,hs20⟩:=one_get rfl h_x0 hx15.1 hx15.2
 refine Qa (Ld na22 (hB.cell0 hu18) rfl) <| Qa (Mv v_x1 rfl) <| Qa (Mi rfl) <| ?_
 obtain ⟨e21,hx22e,ho⟩:=bs ho
 have hx22:=idx_some hx22e
 refine Qa (Ix sl23 (kB h_x1 hB) hx22 rfl rfl rfl) <| ?_
 obtain ⟨u23,fu24,hu25,g6,hs27⟩:=one_get rfl h_x1 hx22.1 hx22.2
 refine Qa (Ld na22 (hB.cell0 hu25) rfl) <| ?_
 obtain ⟨y28,je,ho⟩:=bs ho
 refine Qc Tryz.func23 rfl rfl (fun _ hC=>laws_eqInt64S_calls (kp _ qm (hB.trans hC)) (kp _ g6 (hB.trans hC)) je) <| Qa (Nt rfl) <| fun jj pt=>anz <| W_cond (b:=!(y28)) rfl ?_ ?_
 intro pz
 rw [pz] at ho
 refine wq <| Wq rfl pt <| Qa (Ab rfl) <| fun k0 q8=>anz <| ?_
 cases ho
 exact W_ret ⟨_,res_1 Tryz.results29,rfl,(hB.trans q8)⟩
 intro pz
 rw [pz] at ho
 refine W_skip <| inBlk_n <| anz <| Wq rfl pt <| Qa (Mi rfl) <| Qa (Ba rfl rfl) <| Qa (Ai rfl) <| fun p0c j0=>?_
 cases ho
 exact ⟨(hB.trans j0),fe rfl⟩
 intro py
 rw [py] at ho
 refine W_exit <| andThen_x <| ?_
 cases ho
 exact ⟨rfl,⟨(hB.trans p0),fe rfl⟩⟩
 rintro s0_5 _ jx ⟨hB,F,rfl⟩ ho
 refine anz <| wq <| Wq rfl (cr [] jx) <| Qa (Ab rfl) <| fun gm qa=>anz <| ?_
 cases ho
 exact W_ret ⟨_,res_1 Tryz.results29,rfl,(hB.trans qa)⟩

abbrev laws_eqCategory_post (w:World) (x:(Bool)) (e:Ending) (w':World):Prop:=e = .returned (.bool x)∧Chg [] w w'
abbrev laws_eqCategory_T (w:World):=Tm Tryz.prog Tryz.f42 34 (laws_eqCategory_post w)
theorem laws_eqCategory_calls {w:World} {x0:MCategory} {z2:Value} {ze:List Nat} {z1:Value} {zf:List Nat} {z7:Value} {zg:List Nat} {z6:Value} {zh:List Nat} {x1:MCategory} {z2g:Value} {z2w:List Nat} {z2h:Value} {z2x:List Nat} {z2i:Value} {z2y:List Nat} {z2j:Value} {z30:List Nat} (z8:(sImm (sInt .i64)).rep w.heap [z2] x0.From ze) (za:(sImm (sInt .i64)).rep w.heap [z1] x0.To zf) (zc:(sImm (sInt .i64)).rep w.heap [z7] x0.Identity zg) (zb:(sImm (sImm (sInt .i64))).rep w.heap [z6] x0.Composites zh) (z3w:(sImm (sInt .i64)).rep w.heap [z2g] x1.From z2w) (z3x:(sImm (sInt .i64)).rep w.heap [z2h] x1.To z2x) (z2o:(sImm (sInt .i64)).rep w.heap [z2i] x1.Identity z2y) (z3y:(sImm (sImm (sInt .i64))).rep w.heap [z2j] x1.Composites z30) {y:(Bool)} (hm:laws_eqCategory x0 x1=some y) :
  Calls Tryz.prog 42 #[.agg #[.int .i64 (x0.Objects),z2,z1,z7,z6],.agg #[.int .i64 (x1.Objects),z2g,z2h,z2i,z2j]] w (laws_eqCategory_post w y):=by
 refine Cm (S:=Unit) Tryz.func42 rfl Tryz.ntmps42 rfl hm fun o ho hB=>?_
 clear hm
 refine wq <| W_region rfl <| WL.box fun b1 wd2 hC3 hr4 hl5=>?_
 replace hr4:Row wd2 b1 [.int .i64 (x0.Objects),z2,z1,z7,z6] 32:=hr4
 replace hB:=(hB.trans hC3)
 refine WL.box fun b8 wd9 q6 pi jm=>?_
 replace pi:Row wd9 b8 [.int .i64 (x1.Objects),z2g,z2h,z2i,z2j] 32:=pi
 replace hr4:=kr hr4 q6
 replace hB:=(hB.trans q6)
 refine Wb (Ab rfl) <| anz <| wq <| wq <| Wq rfl (cr [] wd9) <| Qa (Fr fa32_0 rfl) <| Qa (Lr na2 hr4 rfl rfl) <| Qa (Fr fa32_0 rfl) <| Qa (Lr na2 pi rfl rfl) <| Qa (Bn rfl rfl) <| fun kn qe=>anz <| W_cond (b:=(x0.Objects) != (x1.Objects)) rfl ?_ ?_
 intro g7
 rw [g7] at ho
 refine wq <| Wq rfl qe <| Qa (Ab rfl) <| fun p0d p2x=>anz <| ?_
 cases ho
 exact W_ret ⟨_,res_1 Tryz.results42,rfl,(hB.trans p2x)⟩
 intro g7
 rw [g7] at ho
 refine W_skip <| anz <| wq <| wq <| Wq rfl qe <| Qa (Fr fa32_1 rfl) <| Qa (Lr na22 hr4 rfl rfl) <| Qa (Fr fa32_1 rfl) <| Qa (Lr na22 pi rfl rfl) <| ?_
 obtain ⟨y21,p2y,ho⟩:=bs ho
 refine Qc Tryz.func23 rfl rfl (fun _ hC=>laws_eqInt64S_calls (kp _ z8 (hB.trans hC)) (kp _ z3w (hB.trans hC)) p2y) <| Qa (Nt rfl) <| fun k1 jw=>anz <| W_cond (b:=!(y21)) rfl ?_ ?_
 intro g8
 rw [g8] at ho
 refine wq <| Wq rfl jw <| Qa (Ab rfl) <| fun p04 j8=>anz <| ?_
 cases ho
 exact W_ret ⟨_,res_1 Tryz.results42,rfl,(hB.trans j8)⟩
 intro g8
 rw [g8] at ho
 refine W_skip <| anz <| wq <| wq <| Wq rfl jw <| Qa (Fr fa32_2 rfl) <| Qa (Lr na22 hr4 rfl rfl) <| Qa (Fr fa32_2 rfl) <| Qa (Lr na22 pi rfl rfl) <| ?_
 obtain ⟨y28,je,ho⟩:=bs ho
 refine Qc Tryz.func23 rfl rfl (fun _ hC=>laws_eqInt64S_calls (kp _ za (hB.trans hC)) (kp _ z3x (hB.trans hC)) je) <| Qa (Nt rfl) <| fun jj pt=>anz <| W_cond (b:=!(y28)) rfl ?_ ?_
 intro pz
 rw [pz] at ho
 refine wq <| Wq rfl pt <| Qa (Ab rfl) <| fun k0 q8=>anz <| ?_
 cases ho
 exact W_ret ⟨_,res_1 Tryz.results42,rfl,(hB.trans q8)⟩
 intro pz
 rw [pz] at ho
 refine W_skip <| anz <| wq <| wq <| Wq rfl pt <| Qa (Fr fa32_3 rfl) <| Qa (Lr na22 hr4 rfl rfl) <| Qa (Fr fa32_3 rfl) <| Qa (Lr na22 pi rfl rfl) <| ?_
 obtain ⟨y35,p2z,ho⟩:=bs ho
 refine Qc Tryz.func23 rfl rfl (fun _ hC=>laws_eqInt64S_calls (kp _ zc (hB.trans hC)) (kp _ z2o (hB.trans hC)) p2z) <| Qa (Nt rfl) <| fun jx p0e=>anz <| W_cond (b:=!(y35)) rfl ?_ ?_
 intro g9
 rw [g9] at ho
 refine wq <| Wq rfl p0e <| Qa (Ab rfl) <| fun gn p30=>anz <| ?_
 cases ho
 exact W_ret ⟨_,res_1 Tryz.results42,rfl,(hB.trans p30)⟩
 intro g9
 rw [g9] at ho
 refine W_skip <| anz <| wq <| wq <| Wq rfl p0e <| Qa (Fr fa32_4 rfl) <| Qa (Lr na23 hr4 rfl rfl) <| Qa (Fr fa32_4 rfl) <| Qa (Lr na23 pi rfl rfl) <| ?_
 obtain ⟨y42,p31,ho⟩:=bs ho
 refine Qc Tryz.func29 rfl rfl (fun _ hC=>laws_eqInt64SS_calls (kp _ zb (hB.trans hC)) (kp _ z3y (hB.trans hC)) p31) <| Qa (Nt rfl) <| fun p1a qj=>anz <| W_cond (b:=!(y42)) rfl ?_ ?_
 intro qb
 rw [qb] at ho
 refine wq <| Wq rfl qj <| Qa (Ab rfl) <| fun k5 p1=>anz <| ?_
 cases ho
 exact W_ret ⟨_,res_1 Tryz.results42,rfl,(hB.trans p1)⟩
 intro qb
 rw [qb] at ho
 refine W_skip <| anz <| wq <| Wq rfl qj <| Qa (Ab rfl) <| fun p4t p32=>anz <| ?_
 cases ho
 exact W_ret ⟨_,res_1 Tryz.results42,rfl,(hB.trans p32)⟩

abbrev laws_eqInt64SSS_post (w:World) (x:(Bool)) (e:Ending) (w':World):Prop:=e = .returned (.bool x)∧Chg [] w w'
abbrev laws_eqInt64SSS_T (w:World):=Tm Tryz.prog Tryz.f74 27 (laws_eqInt64SSS_post w)
theorem laws_eqInt64SSS_calls {w:World} {x0:(List (List (List Int)))} {v_x0:Value} {f_x0:List Nat} {x1:(List (List (List Int)))} {v_x1:Value} {f_x1:List Nat} (h_x0:(sImm (sImm (sImm (sInt .i64)))).rep w.heap [v_x0] x0 f_x0) (h_x1:(sImm (sImm (sImm (sInt .i64)))).rep w.heap [v_x1] x1 f_x1) {y:(Bool)} (hm:laws_eqInt64SSS x0 x1=some y) :
  Calls Tryz.prog 74 #[v_x0,v_x1] w (laws_eqInt64SSS_post w y):=by
 refine Cm (S:=Unit) Tryz.func74 rfl Tryz.ntmps74 rfl hm fun o ho hB=>?_
 clear hm
 refine wq <| Wq rfl (cr [] w) <| Qa (Ab rfl) <| fun wd1 hC2=>anz <| wq <| wq <| Wq rfl hC2 <| Qa (Mv v_x0 rfl) <| Qa (Ln sl26 (kB h_x0 hB) rfl) <| Qa (Mv v_x1 rfl) <| Qa (Ln sl26 (kB h_x1 hB) rfl) <| Qa (Bn rfl rfl) <| fun wd3 hC4=>anz <| W_cond (b:=((x0.length:Int)) != ((x1.length:Int))) rfl ?_ ?_
 intro hb5
 rw [hb5] at ho
 refine wq <| Wq rfl hC4 <| Qa (Ab rfl) <| fun wd6 hC7=>anz <| ?_
 cases ho
 exact W_ret ⟨_,res_1 Tryz.results74,rfl,(hB.trans hC7)⟩
 intro hb5
 rw [hb5] at ho
 refine W_skip <| anz <| wq <| wq <| Wq rfl hC4 <| Qa (Ai rfl) <| fun wd8 hC9=>anz <| Wf (S1:=Int) (fun (s0_5:Int) r w'=>Chg [] w w'∧∃ F,r=updL F [(0,v_x0),(1,v_x1),(5,.int .i64 (s0_5))]) (laws_eqInt64SSS_T w) ho ⟨(hB.trans hC9),fe rfl⟩ ?_ ?_
 rintro s0_5 _ jc ⟨hB,F,rfl⟩ o ho
 replace ho:laws_eqInt64SSS_L0 x0 x1 s0_5=some o:=ho
 unfold laws_eqInt64SSS_L0 at ho
 refine wq <| wq <| Wq rfl (cr [] jc) <| Qa (Mi rfl) <| Qa (Mv v_x0 rfl) <| Qa (Ln sl26 (kB h_x0 hB) rfl) <| Qa (Bl rfl rfl) <| fun j2 p0=>anz <| W_cond (b:=decide (s0_5 < (x0.length:Int))) rfl ?_ ?_
 intro py
 rw [py] at ho
 refine W_skip <| anz <| wq <| W_block <| wq <| Wqd rfl (by kernel_rfl) p0 <| Qa (Mv v_x0 rfl) <| Qa (Mi rfl) <| ?_
 obtain ⟨e14,hx15e,ho⟩:=bs ho
 have hx15:=idx_some hx15e
 refine Qa (Ix sl26 (kB h_x0 hB) hx15 rfl rfl rfl) <| ?_
 obtain ⟨u16,fu17,hu18,qm,hs20⟩:=one_get rfl h_x0 hx15.1 hx15.2
 refine Qa (Ld na23 (hB.cell0 hu18) rfl) <| Qa (Mv v_x1 rfl) <| Qa (Mi rfl) <| ?_
 obtain ⟨e21,hx22e,ho⟩:=bs ho
 have hx22:=idx_some hx22e
 refine Qa (Ix sl26 (kB h_x1 hB) hx22 rfl rfl rfl) <| ?_
 obtain ⟨u23,fu24,hu25,g6,hs27⟩:=one_get rfl h_x1 hx22.1 hx22.2
 refine Qa (Ld na23 (hB.cell0 hu25) rfl) <| ?_
 obtain ⟨y28,je,ho⟩:=bs ho
 refine Qc Tryz.func29 rfl rfl (fun _ hC=>laws_eqInt64SS_calls (kp _ qm (hB.trans hC)) (kp _ g6 (hB.trans hC)) je) <| Qa (Nt rfl) <| fun jj pt=>anz <| W_cond (b:=!(y28)) rfl ?_ ?_
 intro pz
 rw [pz] at ho
 refine wq <| Wq rfl pt <| Qa (Ab rfl) <| fun k0 q8=>anz <| ?_
 cases ho
 exact W_ret ⟨_,res_1 Tryz.results74,rfl,(hB.trans q8)⟩
 intro pz
 rw [pz] at ho
 refine W_skip <| inBlk_n <| anz <| Wq rfl pt <| Qa (Mi rfl) <| Qa (Ba rfl rfl) <| Qa (Ai rfl) <| fun p0c j0=>?_
 cases ho
 exact ⟨(hB.trans j0),fe rfl⟩
 intro py
 rw [py] at ho
 refine W_exit <| andThen_x <| ?_
 cases ho
 exact ⟨rfl,⟨(hB.trans p0),fe rfl⟩⟩
 rintro s0_5 _ jx ⟨hB,F,rfl⟩ ho
 refine anz <| wq <| Wq rfl (cr [] jx) <| Qa (Ab rfl) <| fun gm qa=>anz <| ?_
 cases ho
 exact W_ret ⟨_,res_1 Tryz.results74,rfl,(hB.trans qa)⟩

abbrev laws_eqTopology_post (w:World) (x:(Bool)) (e:Ending) (w':World):Prop:=e = .returned (.bool x)∧Chg [] w w'
abbrev laws_eqTopology_T (w:World):=Tm Tryz.prog Tryz.f19 17 (laws_eqTopology_post w)
theorem laws_eqTopology_calls {w:World} {x0:MTopology} {zk:Value} {zo:List Nat} {zl:Value} {zp:List Nat} {zm:Value} {zq:List Nat} {zn:Value} {zr:List Nat} {zj:Value} {zd:List Nat} {x1:MTopology} {z2k:Value} {z42:List Nat} {z2l:Value} {z43:List Nat} {z2m:Value} {z44:List Nat} {z2n:Value} {z47:List Nat} {z31:Value} {z48:List Nat} (zt:(sImm (sInt .i64)).rep w.heap [zk] x0.Shape.From zo) (zu:(sImm (sInt .i64)).rep w.heap [zl] x0.Shape.To zp) (zv:(sImm (sInt .i64)).rep w.heap [zm] x0.Shape.Identity zq) (zw:(sImm (sImm (sInt .i64))).rep w.heap [zn] x0.Shape.Composites zr) (zi:(sImm (sImm (sImm (sInt .i64)))).rep w.heap [zj] x0.Covers zd) (z49:(sImm (sInt .i64)).rep w.heap [z2k] x1.Shape.From z42) (z4a:(sImm (sInt .i64)).rep w.heap [z2l] x1.Shape.To z43) (z4b:(sImm (sInt .i64)).rep w.heap [z2m] x1.Shape.Identity z44) (z4c:(sImm (sImm (sInt .i64))).rep w.heap [z2n] x1.Shape.Composites z47) (z4d:(sImm (sImm (sImm (sInt .i64)))).rep w.heap [z31] x1.Covers z48) {y:(Bool)} (hm:laws_eqTopology x0 x1=some y) :
  Calls Tryz.prog 19 #[.agg #[.int .i64 (x0.Shape.Objects),zk,zl,zm,zn,zj],.agg #[.int .i64 (x1.Shape.Objects),z2k,z2l,z2m,z2n,z31]] w (laws_eqTopology_post w y):=by
 refine Cm (S:=Unit) Tryz.func19 rfl Tryz.ntmps19 rfl hm fun o ho hB=>?_
 clear hm
 refine wq <| W_region rfl <| WL.box fun b1 wd2 hC3 hr4 hl5=>?_
 replace hr4:Row wd2 b1 [.int .i64 (x0.Shape.Objects),zk,zl,zm,zn,zj] 34:=hr4
 replace hB:=(hB.trans hC3)
 refine WL.box fun b8 wd9 q6 pi jm=>?_
 replace pi:Row wd9 b8 [.int .i64 (x1.Shape.Objects),z2k,z2l,z2m,z2n,z31] 34:=pi
 replace hr4:=kr hr4 q6
 replace hB:=(hB.trans q6)
 refine Wb (Ab rfl) <| anz <| wq <| wq <| Wq rfl (cr [] wd9) <| Qa (Fr fa34_0 rfl) <| ?_
 refine qv (v:=.agg #[.int .i64 (x0.Shape.Objects),zk,zl,zm,zn]) rfl (fun _ hC=>op_loadAgg (cs:=[.int .i64 (x0.Shape.Objects),zk,zl,zm,zn]) u32 rfl info32 (by rw [sz32]; rfl) rfl (At.sub (kr hr4 hC).at 0 5)) ?_
 refine Qa (Fr fa34_0 rfl) <| ?_
 refine qv (v:=.agg #[.int .i64 (x1.Shape.Objects),z2k,z2l,z2m,z2n]) rfl (fun _ hC=>op_loadAgg (cs:=[.int .i64 (x1.Shape.Objects),z2k,z2l,z2m,z2n]) u32 rfl info32 (by rw [sz32]; rfl) rfl (At.sub (kr pi hC).at 0 5)) ?_
 obtain ⟨y16,p33,ho⟩:=bs ho
 refine Qc Tryz.func42 rfl rfl (fun _ hC=>laws_eqCategory_calls (kp _ zt (hB.trans hC)) (kp _ zu (hB.trans hC)) (kp _ zv (hB.trans hC)) (kp _ zw (hB.trans hC)) (kp _ z49 (hB.trans hC)) (kp _ z4a (hB.trans hC)) (kp _ z4b (hB.trans hC)) (kp _ z4c (hB.trans hC)) p33) <| Qa (Nt rfl) <| fun p2v jd=>anz <| W_cond (b:=!(y16)) rfl ?_ ?_
 intro qf
 rw [qf] at ho
 refine wq <| Wq rfl jd <| Qa (Ab rfl) <| fun p2w g5=>anz <| ?_
 cases ho
 exact W_ret ⟨_,res_1 Tryz.results19,rfl,(hB.trans g5)⟩
 intro qf
 rw [qf] at ho
 refine W_skip <| anz <| wq <| wq <| Wq rfl jd <| Qa (Fr fa34_1 rfl) <| Qa (Lr na26 hr4 rfl rfl) <| Qa (Fr fa34_1 rfl) <| Qa (Lr na26 pi rfl rfl) <| ?_
 obtain ⟨y23,j3,ho⟩:=bs ho
 refine Qc Tryz.func74 rfl rfl (fun _ hC=>laws_eqInt64SSS_calls (kp _ zi (hB.trans hC)) (kp _ z4d (hB.trans hC)) j3) <| Qa (Nt rfl) <| fun j4 px=>anz <| W_cond (b:=!(y23)) rfl ?_ ?_
 intro q7
 rw [q7] at ho
 refine wq <| Wq rfl px <| Qa (Ab rfl) <| fun gi ps=>anz <| ?_
 cases ho
 exact W_ret ⟨_,res_1 Tryz.results19,rfl,(hB.trans ps)⟩
 intro q7
 rw [q7] at ho
 refine W_skip <| anz <| wq <| Wq rfl px <| Qa (Ab rfl) <| fun jj pt=>anz <| ?_
 cases ho
 exact W_ret ⟨_,res_1 Tryz.results19,rfl,(hB.trans pt)⟩

abbrev spec_l27Code_post (zo:List Nat) (zp:List Nat) (zq:List Nat) (zr:List Nat) (zd:List Nat) (w:World) (x:(ML27Table×(List (List Bool))×Int)) (e:Ending) (w':World):Prop:=∃ (v0:Value) (f0:List Nat) (v1:Value) (f1:List Nat) (v2:Value) (f2:List Nat) (v3:Value) (f3:List Nat) (v4:Value) (f4:List Nat) (v5:Value) (f5:List Nat) (v6:Value) (f6:List Nat) (v7:Value) (f7:List Nat),e = .returned (.tuple #[.agg #[.int .i64 x.1.C.Objects,v0,v1,v2,v3,v4,v5,v6],v7,.int .i64 x.2.2])∧Chg [] w w'∧(sImm (sInt .i64)).rep w'.heap [v0] x.1.C.From f0∧(∀ b∈f0,b∈(zo++(zp++(zq++(zr++zd)))) ∨ w.heap.size≤b)∧(sImm (sInt .i64)).rep w'.heap [v1] x.1.C.To f1∧(∀ b∈f1,b∈(zo++(zp++(zq++(zr++zd)))) ∨ w.heap.size≤b)∧(sImm (sInt .i64)).rep w'.heap [v2] x.1.C.Identity f2∧(∀ b∈f2,b∈(zo++(zp++(zq++(zr++zd)))) ∨ w.heap.size≤b)∧(sImm (sImm (sInt .i64))).rep w'.heap [v3] x.1.C.Composites f3∧(∀ b∈f3,b∈(zo++(zp++(zq++(zr++zd)))) ∨ w.heap.size≤b)∧(sImm (sImm (sImm (sInt .i64)))).rep w'.heap [v4] x.1.Lists f4∧(∀ b∈f4,b∈(zo++(zp++(zq++(zr++zd)))) ∨ w.heap.size≤b)∧(sImm (sImm (sInt .i64))).rep w'.heap [v5] x.1.Pulls f5∧(∀ b∈f5,b∈(zo++(zp++(zq++(zr++zd)))) ∨ w.heap.size≤b)∧(sImm (sInt .i64)).rep w'.heap [v6] x.1.Tops f6∧(∀ b∈f6,b∈(zo++(zp++(zq++(zr++zd)))) ∨ w.heap.size≤b)∧OE [] w.heap.size w' (sOwn 138 (sOwn 4 sBool)) [v7] x.2.1 f7∧Dis f0 f7∧Dis f1 f7∧Dis f2 f7∧Dis f3 f7∧Dis f4 f7∧Dis f5 f7∧Dis f6 f7
abbrev spec_l27Code_T (zo:List Nat) (zp:List Nat) (zq:List Nat) (zr:List Nat) (zd:List Nat) (w:World):=Tm Tryz.prog Tryz.f78 25 (spec_l27Code_post zo zp zq zr zd w)
theorem spec_l27Code_calls {w:World} {x0:MTopology} {zk:Value} {zo:List Nat} {zl:Value} {zp:List Nat} {zm:Value} {zq:List Nat} {zn:Value} {zr:List Nat} {zj:Value} {zd:List Nat} (zt:(sImm (sInt .i64)).rep w.heap [zk] x0.Shape.From zo) (zu:(sImm (sInt .i64)).rep w.heap [zl] x0.Shape.To zp) (zv:(sImm (sInt .i64)).rep w.heap [zm] x0.Shape.Identity zq) (zw:(sImm (sImm (sInt .i64))).rep w.heap [zn] x0.Shape.Composites zr) (zi:(sImm (sImm (sImm (sInt .i64)))).rep w.heap [zj] x0.Covers zd) {y:(ML27Table×(List (List Bool))×Int)} (hm:spec_l27Code x0=some y) :
  Calls Tryz.prog 78 #[.agg #[.int .i64 (x0.Shape.Objects),zk,zl,zm,zn,zj]] w (spec_l27Code_post zo zp zq zr zd w y):=by
 refine Cm (S:=Unit) Tryz.func78 rfl Tryz.ntmps78 rfl hm fun o ho hB=>?_
 clear hm
 refine wq <| W_region rfl <| WL.box fun b1 wd2 hC3 hr4 hl5=>?_
 replace hr4:Row wd2 b1 [.int .i64 (x0.Shape.Objects),zk,zl,zm,zn,zj] 34:=hr4
 replace zt:=kp _ zt hC3
 replace zu:=kp _ zu hC3
 replace zv:=kp _ zv hC3
 replace zw:=kp _ zw hC3
 replace zi:=kp _ zi hC3
 replace hB:=(hB.trans hC3)
 refine WL.alloc info96 zr96 fun pp ga pq pd j1=>?_
 replace pd:Row ga pp [.int .i64 ((0:Int)),.slice none 0 0,.slice none 0 0,.slice none 0 0,.slice none 0 0,.slice none 0 0,.slice none 0 0,.slice none 0 0] 96:=pd
 have p0f:w.heap.size≤pp:=Nat.le_trans hB.size j1
 have q0:=dl (onw j1) (sl _ zt)
 have pu:=dl (onw j1) (sl _ zu)
 have qg:=dl (onw j1) (sl _ zv)
 have pv:=dl (onw j1) (sl _ zw)
 have qh:=dl (onw j1) (sl _ zi)
 replace zt:=kp _ zt pq
 replace zu:=kp _ zu pq
 replace zv:=kp _ zv pq
 replace zw:=kp _ zw pq
 replace zi:=kp _ zi pq
 replace hr4:=kr hr4 pq
 replace hB:=(hB.trans pq)
 refine Wb (As rfl) <| Wb (Ai rfl) <| anz <| wq <| W_region rfl <| Wb (Lg ag34 hr4.at rfl rfl) <| ?_
 obtain ⟨y26,p34,ho⟩:=bs ho
 refine WL.call rfl (op_callF Tryz.func70 rfl rfl) (spec_l27Read_calls zt zu zv zw zi p34) <| ?_
 rintro _ gi ⟨v30,ny,v33,nz,v36,g0,v39,g1,v42,g2,v45,f46,v48,gb,v51,f52,rfl,ps,p8,p0h,p9,p0i,pa,p0j,pb,p0k,pc,p0l,pk,p0m,p6,p0n,pl,qn,qo,qp,qq,qr,qs,qt⟩
 refine ⟨_,rfl,?_⟩
 have qu:Dis ny [pp]:=dis_out p0h (da (q0).symm (da (pu).symm (da (qg).symm (da (pv).symm (qh).symm)))) (one_lt (Row.lt pd))
 have p0o : ∀ b∈ny,b∈(zo++(zp++(zq++(zr++zd)))) ∨ w.heap.size≤b:=low_out p0h (low_app (fun b hb=>.inl (by simp [hb])) (low_app (fun b hb=>.inl (by simp [hb])) (low_app (fun b hb=>.inl (by simp [hb])) (low_app (fun b hb=>.inl (by simp [hb])) (fun b hb=>.inl (by simp [hb])))))) hB.size
 have qw:Dis nz [pp]:=dis_out p0i (da (q0).symm (da (pu).symm (da (qg).symm (da (pv).symm (qh).symm)))) (one_lt (Row.lt pd))
 have p0p : ∀ b∈nz,b∈(zo++(zp++(zq++(zr++zd)))) ∨ w.heap.size≤b:=low_out p0i (low_app (fun b hb=>.inl (by simp [hb])) (low_app (fun b hb=>.inl (by simp [hb])) (low_app (fun b hb=>.inl (by simp [hb])) (low_app (fun b hb=>.inl (by simp [hb])) (fun b hb=>.inl (by simp [hb])))))) hB.size
 have qx:Dis g0 [pp]:=dis_out p0j (da (q0).symm (da (pu).symm (da (qg).symm (da (pv).symm (qh).symm)))) (one_lt (Row.lt pd))
 have p0q : ∀ b∈g0,b∈(zo++(zp++(zq++(zr++zd)))) ∨ w.heap.size≤b:=low_out p0j (low_app (fun b hb=>.inl (by simp [hb])) (low_app (fun b hb=>.inl (by simp [hb])) (low_app (fun b hb=>.inl (by simp [hb])) (low_app (fun b hb=>.inl (by simp [hb])) (fun b hb=>.inl (by simp [hb])))))) hB.size
 have qy:Dis g1 [pp]:=dis_out p0k (da (q0).symm (da (pu).symm (da (qg).symm (da (pv).symm (qh).symm)))) (one_lt (Row.lt pd))
 have p0r : ∀ b∈g1,b∈(zo++(zp++(zq++(zr++zd)))) ∨ w.heap.size≤b:=low_out p0k (low_app (fun b hb=>.inl (by simp [hb])) (low_app (fun b hb=>.inl (by simp [hb])) (low_app (fun b hb=>.inl (by simp [hb])) (low_app (fun b hb=>.inl (by simp [hb])) (fun b hb=>.inl (by simp [hb])))))) hB.size
 have qz:Dis g2 [pp]:=dis_out p0l (da (q0).symm (da (pu).symm (da (qg).symm (da (pv).symm (qh).symm)))) (one_lt (Row.lt pd))
 have p0s : ∀ b∈g2,b∈(zo++(zp++(zq++(zr++zd)))) ∨ w.heap.size≤b:=low_out p0l (low_app (fun b hb=>.inl (by simp [hb])) (low_app (fun b hb=>.inl (by simp [hb])) (low_app (fun b hb=>.inl (by simp [hb])) (low_app (fun b hb=>.inl (by simp [hb])) (fun b hb=>.inl (by simp [hb])))))) hB.size
 have ju:Dis f46 [pp]:=dis_out p0m (da (q0).symm (da (pu).symm (da (qg).symm (da (pv).symm (qh).symm)))) (one_lt (Row.lt pd))
 have jt : ∀ b∈f46,b∈(zo++(zp++(zq++(zr++zd)))) ∨ w.heap.size≤b:=low_out p0m (low_app (fun b hb=>.inl (by simp [hb])) (low_app (fun b hb=>.inl (by simp [hb])) (low_app (fun b hb=>.inl (by simp [hb])) (low_app (fun b hb=>.inl (by simp [hb])) (fun b hb=>.inl (by simp [hb])))))) hB.size
 have p0t:Dis gb [pp]:=dis_out p0n (da (q0).symm (da (pu).symm (da (qg).symm (da (pv).symm (qh).symm)))) (one_lt (Row.lt pd))
 have jv : ∀ b∈gb,b∈(zo++(zp++(zq++(zr++zd)))) ∨ w.heap.size≤b:=low_out p0n (low_app (fun b hb=>.inl (by simp [hb])) (low_app (fun b hb=>.inl (by simp [hb])) (low_app (fun b hb=>.inl (by simp [hb])) (low_app (fun b hb=>.inl (by simp [hb])) (fun b hb=>.inl (by simp [hb])))))) hB.size
 have p0u:=dl (ofr pl) (one_lt (Row.lt pd))
 replace pl:=OE.low (G:=[]) pl hB.size
 replace zt:=kp _ zt ps
 replace zu:=kp _ zu ps
 replace zv:=kp _ zv ps
 replace zw:=kp _ zw ps
 replace zi:=kp _ zi ps
 replace hr4:=kr hr4 ps
 replace pd:=kr pd ps
 replace hB:=(hB.trans ps)
 refine Wb (Mt rfl) <| Wb (Ex (.agg #[.int .i64 (y26.1.C.Objects),v30,v33,v36,v39,v42,v45,v48]) rfl rfl) <| Wb (Ex v51 rfl rfl) <| Wb (Exi rfl rfl) <| WL.alloc info96 zr96 fun jy p0a pg gc pj=>?_
 replace gc:Row p0a jy [.int .i64 ((0:Int)),.slice none 0 0,.slice none 0 0,.slice none 0 0,.slice none 0 0,.slice none 0 0,.slice none 0 0,.slice none 0 0] 96:=gc
 have p35:w.heap.size≤jy:=Nat.le_trans hB.size pj
 have p36:=dl (onw pj) (sl _ zt)
 have p37:=dl (onw pj) (sl _ zu)
 have p38:=dl (onw pj) (sl _ zv)
 have p39:=dl (onw pj) (sl _ zw)
 have p3a:=dl (onw pj) (sl _ zi)
 have p3b:=dl (onw pj) (one_lt (Row.lt hr4))
 have gd:=dl (onw pj) (one_lt (Row.lt pd))
 have p3c:=dl (onw pj) (sl _ p8)
 have p3d:=dl (onw pj) (sl _ p9)
 have p3e:=dl (onw pj) (sl _ pa)
 have p3f:=dl (onw pj) (sl _ pb)
 have p3g:=dl (onw pj) (sl _ pc)
 have p3h:=dl (onw pj) (sl _ pk)
 have p3i:=dl (onw pj) (sl _ p6)
 have p3j:=dl (onw pj) (sl _ pl.1)
 replace zt:=kp _ zt pg
 replace zu:=kp _ zu pg
 replace zv:=kp _ zv pg
 replace zw:=kp _ zw pg
 replace zi:=kp _ zi pg
 replace p8:=kp _ p8 pg
 replace p9:=kp _ p9 pg
 replace pa:=kp _ pa pg
 replace pb:=kp _ pb pg
 replace pc:=kp _ pc pg
 replace pk:=kp _ pk pg
 replace p6:=kp _ p6 pg
 replace hr4:=kr hr4 pg
 replace pd:=kr pd pg
 replace pl:=ko pl pg
 replace hB:=(hB.trans pg)
 refine WL.storeAll (us:=[.int .i64 (y26.1.C.Objects),v30,v33,v36,v39,v42,v45,v48]) info96 (by rw [sz96]; rfl) gc rfl rfl rfl (by intro u hu; simp only [List.mem_cons,List.mem_nil_iff,or_false] at hu; rcases hu with rfl | rfl | rfl | rfl | rfl | rfl | rfl | rfl <;> first | exact rfl | exact (STy.one _ p8 _ (ms rfl)) | exact (STy.one _ p9 _ (ms rfl)) | exact (STy.one _ pa _ (ms rfl)) | exact (STy.one _ pb _ (ms rfl)) | exact (STy.one _ pc _ (ms rfl)) | exact (STy.one _ pk _ (ms rfl)) | exact (STy.one _ p6 _ (ms rfl))) fun kg pe q5=>?_
 replace q5:Row kg jy [.int .i64 (y26.1.C.Objects),v30,v33,v36,v39,v42,v45,v48] 96:=q5
 replace zt:=STy.keep _ zt pe (p36).symm
 replace zu:=STy.keep _ zu pe (p37).symm
 replace zv:=STy.keep _ zv pe (p38).symm
 replace zw:=STy.keep _ zw pe (p39).symm
 replace zi:=STy.keep _ zi pe (p3a).symm
 replace p8:=STy.keep _ p8 pe (p3c).symm
 replace p9:=STy.keep _ p9 pe (p3d).symm
 replace pa:=STy.keep _ pa pe (p3e).symm
 replace pb:=STy.keep _ pb pe (p3f).symm
 replace pc:=STy.keep _ pc pe (p3g).symm
 replace pk:=STy.keep _ pk pe (p3h).symm
 replace p6:=STy.keep _ p6 pe (p3i).symm
 replace hr4:=Row.keep hr4 pe ((p3b).symm _ (ms rfl))
 replace pd:=Row.keep pd pe ((gd).symm _ (ms rfl))
 replace pl:=okp pl pe (p3j).symm
 replace hB:=hB.then pe (one_then p35)
 refine Wb (Av v51 rfl) <| Wb (Ai rfl) <| anz <| wq <| wq <| Wq rfl (cr [] kg) <| ?_
 obtain ⟨g145,hm146,ho⟩:=bs ho
 refine QL.meet (fun r=>∃ F,r=updL F [(2,.pointer (some (⟨pp,0,none⟩))),(5,.pointer (some (⟨jy,0,none⟩))),(6,v51),(7,.int .i64 (y26.2.2)),(21,.bool (g145))]) ?_ ?_
 skip
 refine Qa (Mi rfl) <| Qa (Be rfl rfl) <| Qa (Mb rfl) <| ?_
 rcases Bool.eq_false_or_eq_true ((y26.2.2) == ((0:Int))) with pr | pr
 rw [pr] at hm146
 refine Qg rfl pr (Lg ag96 q5.at rfl rfl) <| Qg rfl pr (Mv v51 rfl) <| ?_
 obtain ⟨y148,p3k,hm146⟩:=bs hm146
 refine Qcg rfl pr Tryz.func71 rfl rfl (fun _ hC=>spec_l27Is_calls (kp _ p8 hC) (kp _ p9 hC) (kp _ pa hC) (kp _ pb hC) (kp _ pc hC) (kp _ pk hC) (kp _ p6 hC) ((Le.own (Le.own (Le.refl _) 4) 138).le (kp _ pl.1 hC)) p3k) <| Qg rfl pr (Nt rfl) <| Qa (PTb rfl pr rfl) <| ?_
 cases hm146
 exact fe rfl
 rw [pr] at hm146
 refine Sk rfl pr rfl <| Sk rfl pr rfl <| Sk rfl pr rfl <| Sk rfl pr rfl <| Qa (PFb rfl pr rfl) <| ?_
 cases hm146
 exact fe rfl
 rintro _ ⟨F,rfl⟩
 refine fun p1u q4=>anz <| W_cond (b:=g145) rfl ?_ ?_
 intro qd
 rw [qd] at ho
 refine Wq rfl q4 <| Qa (Ai rfl) <| fun p4v ge=>anz <| wq <| W_region rfl <| Wa ge (Lg ag96 q5.at rfl rfl) <| Wb (Mv v51 rfl) <| Wb (Mi rfl) <| WL.storeAll (us:=[.int .i64 (y26.1.C.Objects),v30,v33,v36,v39,v42,v45,v48]) info96 (by rw [sz96]; rfl) (kr pd ge) rfl rfl rfl (by intro u hu; simp only [List.mem_cons,List.mem_nil_iff,or_false] at hu; rcases hu with rfl | rfl | rfl | rfl | rfl | rfl | rfl | rfl <;> first | exact rfl | exact (STy.one _ p8 _ (ms rfl)) | exact (STy.one _ p9 _ (ms rfl)) | exact (STy.one _ pa _ (ms rfl)) | exact (STy.one _ pb _ (ms rfl)) | exact (STy.one _ pc _ (ms rfl)) | exact (STy.one _ pk _ (ms rfl)) | exact (STy.one _ p6 _ (ms rfl))) fun gx kh gf=>?_
 replace gf:Row gx pp [.int .i64 (y26.1.C.Objects),v30,v33,v36,v39,v42,v45,v48] 96:=gf
 have q1:=(ge.nil (G:=[pp])).trans kh
 replace p8:=STy.keep _ p8 q1 qu
 replace p9:=STy.keep _ p9 q1 qw
 replace pa:=STy.keep _ pa q1 qx
 replace pb:=STy.keep _ pb q1 qy
 replace pc:=STy.keep _ pc q1 qz
 replace pk:=STy.keep _ pk q1 ju
 replace p6:=STy.keep _ p6 q1 p0t
 replace pl:=okp pl q1 p0u
 replace q5:=Row.keep q5 q1 (gd _ (ms rfl))
 replace hB:=hB.then q1 (one_then p0f)
 refine Wb (Av v51 rfl) <| Wb (Ai rfl) <| anz <| ?_
 cases ho
 exact W_ret ⟨_,res_c2 Tryz.results78 Tryz.underlying96 rfl info96 (by rw [sz96]; rfl) rfl gf.at,_,_,_,_,_,_,_,_,_,_,_,_,_,_,_,_,rfl,hB,p8,p0o,p9,p0p,pa,p0q,pb,p0r,pc,p0s,pk,jt,p6,jv,pl,qn,qo,qp,qq,qr,qs,qt⟩
 intro qd
 rw [qd] at ho
 refine W_skip <| anz <| wq <| W_region rfl <| Wa q4 (Lg ag96 q5.at rfl rfl) <| Wb (Mv v51 rfl) <| Wb (Mi rfl) <| WL.storeAll (us:=[.int .i64 (y26.1.C.Objects),v30,v33,v36,v39,v42,v45,v48]) info96 (by rw [sz96]; rfl) (kr pd q4) rfl rfl rfl (by intro u hu; simp only [List.mem_cons,List.mem_nil_iff,or_false] at hu; rcases hu with rfl | rfl | rfl | rfl | rfl | rfl | rfl | rfl <;> first | exact rfl | exact (STy.one _ p8 _ (ms rfl)) | exact (STy.one _ p9 _ (ms rfl)) | exact (STy.one _ pa _ (ms rfl)) | exact (STy.one _ pb _ (ms rfl)) | exact (STy.one _ pc _ (ms rfl)) | exact (STy.one _ pk _ (ms rfl)) | exact (STy.one _ p6 _ (ms rfl))) fun p3l p3m gg=>?_
 replace gg:Row p3l pp [.int .i64 (y26.1.C.Objects),v30,v33,v36,v39,v42,v45,v48] 96:=gg
 have q2:=(q4.nil (G:=[pp])).trans p3m
 replace p8:=STy.keep _ p8 q2 qu
 replace p9:=STy.keep _ p9 q2 qw
 replace pa:=STy.keep _ pa q2 qx
 replace pb:=STy.keep _ pb q2 qy
 replace pc:=STy.keep _ pc q2 qz
 replace pk:=STy.keep _ pk q2 ju
 replace p6:=STy.keep _ p6 q2 p0t
 replace pl:=okp pl q2 p0u
 replace q5:=Row.keep q5 q2 (gd _ (ms rfl))
 replace hB:=hB.then q2 (one_then p0f)
 refine Wb (Av v51 rfl) <| Wb (Ai rfl) <| anz <| ?_
 cases ho
 exact W_ret ⟨_,res_c2 Tryz.results78 Tryz.underlying96 rfl info96 (by rw [sz96]; rfl) rfl gg.at,_,_,_,_,_,_,_,_,_,_,_,_,_,_,_,_,rfl,hB,p8,p0o,p9,p0p,pa,p0q,pb,p0r,pc,p0s,pk,jt,p6,jv,pl,qn,qo,qp,qq,qr,qs,qt⟩

abbrev laws_markInt64S_post (v_x0:Value) (f_x0:List Nat) (w:World) (x:(Int×(List Int))) (e:Ending) (w':World):Prop:=∃ (f0:List Nat),e = .returned (.int .i64 x.1)∧Chg f_x0 w w'∧OE f_x0 w.heap.size w' (sOwn 2 (sInt .i64)) [v_x0] x.2 f0
abbrev laws_markInt64S_T (v_x0:Value) (f_x0:List Nat) (w:World):=Tm Tryz.prog Tryz.f25 19 (laws_markInt64S_post v_x0 f_x0 w)
theorem laws_markInt64S_calls {w:World} {x0:(List Int)} {v_x0:Value} {f_x0:List Nat} {x1:Int} (o_x0:OE f_x0 w.heap.size w (sOwn 2 (sInt .i64)) [v_x0] x0 f_x0) {y:(Int×(List Int))} (hm:laws_markInt64S x0 x1=some y) :
  Calls Tryz.prog 25 #[v_x0,.int .i64 (x1)] w (laws_markInt64S_post v_x0 f_x0 w y):=by
 refine Cm (S:=Unit) Tryz.func25 rfl Tryz.ntmps25 rfl hm fun o ho hB=>?_
 clear hm
 have hB:Chg f_x0 w w:=cr _ _
 replace o_x0:OE f_x0 w.heap.size w (sOwn 2 (sInt .i64)) [v_x0] x0 f_x0:=OE.give o_x0 fun b hb=>by simp [hb]
 refine wq <| Wq rfl (cr [] w) <| Qa (Ai rfl) <| fun wd1 hC2=>anz <| wq <| wq <| Wq rfl hC2 <| Qa (Ai rfl) <| fun wd3 hC4=>anz <| Wf (S1:=Int×Int×(List Int)) (fun s r w'=>match s with | (s0_1,s0_5,s0_o_x0)=>Chg f_x0 w w'∧OE f_x0 w.heap.size w' (sOwn 2 (sInt .i64)) [v_x0] (s0_o_x0) f_x0∧∃ F,r=updL F [(0,v_x0),(1,.int .i64 (s0_1)),(5,.int .i64 (s0_5))]) (laws_markInt64S_T v_x0 f_x0 w) ho ⟨(hB.trans (Chg.nil hC4)),(ko o_x0 hC4),fe rfl⟩ ?_ ?_
 rintro ⟨s0_1,s0_5,s0_o_x0⟩ _ wd5 ⟨hB,o_x0,F,rfl⟩ o ho
 replace ho:laws_markInt64S_L0 s0_1 s0_5 s0_o_x0=some o:=ho
 unfold laws_markInt64S_L0 at ho
 refine wq <| wq <| Wq rfl (cr [] wd5) <| Qa (Mi rfl) <| Qa (Mv v_x0 rfl) <| Qa (Ln sl22 ((Le.own (Le.refl _) 2).le o_x0.1) rfl) <| Qa (Bl rfl rfl) <| fun wd6 hC7=>anz <| W_cond (b:=decide (s0_5 < (s0_o_x0.length:Int))) rfl ?_ ?_
 intro hb8
 rw [hb8] at ho
 refine W_skip <| anz <| wq <| W_block <| wq <| W_region rfl <| Wb (Mv v_x0 rfl) <| Wb (Mi rfl) <| Wb (Mi rfl) <| ?_
 obtain ⟨e9,hx10e,ho⟩:=bs ho
 have hx10:=idx_some hx10e
 refine Wa hC7 (Ix sl22 ((Le.own (Le.refl _) 2).le o_x0.1) hx10 rfl rfl rfl) <| WL.storeEl (z':=s0_1) _ _ sInt_nofp rfl info2 sz2 (ko o_x0 hC7) hx10.2 rfl rfl ⟨rfl,rfl⟩ fun j2 p0 o13=>?_
 have p3o:=(hC7.nil (G:=f_x0)).trans p0
 replace hB:=hB.then p3o o_x0.2.2
 refine anz <| Wq rfl (cr [] j2) <| Qa (Mi rfl) <| Qa (Ba rfl rfl) <| Qa (Ai rfl) <| fun p15 jk=>inBlk_n <| anz <| Wq rfl jk <| Qa (Mi rfl) <| Qa (Ba rfl rfl) <| Qa (Ai rfl) <| fun p4w p0v=>?_
 cases ho
 exact ⟨(hB.trans (Chg.nil p0v)),(ko o13 p0v),fe rfl⟩
 intro hb8
 rw [hb8] at ho
 refine W_exit <| andThen_x <| ?_
 cases ho
 exact ⟨rfl,⟨(hB.trans (Chg.nil hC7)),(ko o_x0 hC7),fe rfl⟩⟩
 rintro ⟨s0_1,s0_5,s0_o_x0⟩ _ p0d ⟨hB,o_x0,F,rfl⟩ ho
 dsimp only at ho
 refine anz <| wq <| Wq rfl (cr [] p0d) <| Qa (Mi rfl) <| Qa (Ai rfl) <| fun gh jh=>anz <| ?_
 cases ho
 exact W_ret ⟨_,res_1 Tryz.results25,_,rfl,(hB.trans (Chg.nil jh)),(ko o_x0 jh)⟩

abbrev laws_markInt64SS_post (v_x0:Value) (f_x0:List Nat) (w:World) (x:(Int×(List (List Int)))) (e:Ending) (w':World):Prop:=∃ (f0:List Nat),e = .returned (.int .i64 x.1)∧Chg f_x0 w w'∧OE f_x0 w.heap.size w' (sOwn 22 (sOwn 2 (sInt .i64))) [v_x0] x.2 f0
abbrev laws_markInt64SS_T (v_x0:Value) (f_x0:List Nat) (w:World):=Tm Tryz.prog Tryz.f30 19 (laws_markInt64SS_post v_x0 f_x0 w)
theorem laws_markInt64SS_calls {w:World} {x0:(List (List Int))} {v_x0:Value} {f_x0:List Nat} {x1:Int} (o_x0:OE f_x0 w.heap.size w (sOwn 22 (sOwn 2 (sInt .i64))) [v_x0] x0 f_x0) {y:(Int×(List (List Int)))} (hm:laws_markInt64SS x0 x1=some y) :
  Calls Tryz.prog 30 #[v_x0,.int .i64 (x1)] w (laws_markInt64SS_post v_x0 f_x0 w y):=by
 refine Cm (S:=Unit) Tryz.func30 rfl Tryz.ntmps30 rfl hm fun o ho hB=>?_
 clear hm
 have hB:Chg f_x0 w w:=cr _ _
 replace o_x0:OE f_x0 w.heap.size w (sOwn 22 (sOwn 2 (sInt .i64))) [v_x0] x0 f_x0:=OE.give o_x0 fun b hb=>by simp [hb]
 refine wq <| Wq rfl (cr [] w) <| Qa (Ai rfl) <| fun wd1 hC2=>anz <| wq <| wq <| Wq rfl hC2 <| Qa (Ai rfl) <| fun wd3 hC4=>anz <| Wf (S1:=Int×Int×(List (List Int))) (fun s r w'=>match s with | (s0_1,s0_5,s0_o_x0)=>∃ (f5:List Nat),Chg f_x0 w w'∧OE f_x0 w.heap.size w' (sOwn 22 (sOwn 2 (sInt .i64))) [v_x0] (s0_o_x0) f5∧∃ F,r=updL F [(0,v_x0),(1,.int .i64 (s0_1)),(5,.int .i64 (s0_5))]) (laws_markInt64SS_T v_x0 f_x0 w) ho ⟨_,(hB.trans (Chg.nil hC4)),(ko o_x0 hC4),fe rfl⟩ ?_ ?_
 rintro ⟨s0_1,s0_5,s0_o_x0⟩ _ wd6 ⟨f5,hB,o_x0,F,rfl⟩ o ho
 replace ho:laws_markInt64SS_L0 s0_1 s0_5 s0_o_x0=some o:=ho
 unfold laws_markInt64SS_L0 at ho
 refine wq <| wq <| Wq rfl (cr [] wd6) <| Qa (Mi rfl) <| Qa (Mv v_x0 rfl) <| Qa (Ln sl23 ((Le.own (Le.own (Le.refl _) 2) 22).le o_x0.1) rfl) <| Qa (Bl rfl rfl) <| fun wd7 hC8=>anz <| W_cond (b:=decide (s0_5 < (s0_o_x0.length:Int))) rfl ?_ ?_
 intro hb9
 rw [hb9] at ho
 refine W_skip <| anz <| wq <| W_block <| W_region rfl <| Wb (Mv v_x0 rfl) <| Wb (Mi rfl) <| ?_
 obtain ⟨e10,hx11e,ho⟩:=bs ho
 have hx11:=idx_some hx11e
 refine Wa hC8 (Ix sl23 ((Le.own (Le.own (Le.refl _) 2) 22).le o_x0.1) hx11 rfl rfl rfl) <| ?_
 obtain ⟨u12,fu13,hu14,p0w,hs16⟩:=one_get rfl ((Le.own (Le.own (Le.refl _) 2) 22).le o_x0.1) hx11.1 hx11.2
 refine Wa hC8 (Ld na22 hu14 rfl) <| Wb (Mi rfl) <| ?_
 have jz:=hC8.trans (cr [] wd7)
 replace hu14:=jz.cell0 hu14
 replace p0w:=kp _ p0w jz
 replace o_x0:=ko o_x0 jz
 replace hB:=(hB.trans (Chg.nil jz))
 obtain ⟨k18,p5,hk20,hf21⟩:=own_focus rfl hB.size o_x0 hx11.2 hu14
 obtain ⟨y22,p3p,ho⟩:=bs ho
 refine WL.call rfl (op_callF Tryz.func25 rfl rfl) (laws_markInt64S_calls (OE.give (B':=wd7.heap.size) p5 fun _ h=>h) p3p) <| ?_
 rintro _ gk ⟨f26,rfl,q9,ql⟩
 refine ⟨_,rfl,?_⟩
 obtain ⟨f28,jb,hs30⟩:=hf21 _ _ _ q9 ql
 replace hB:=hB.then q9 (fun b hb=>o_x0.2.2 b (hk20 b hb))
 refine Wb (Ai rfl) <| inBlk_n <| anz <| Wq rfl (cr [] gk) <| Qa (Mi rfl) <| Qa (Ba rfl rfl) <| Qa (Ai rfl) <| fun gj p0x=>?_
 cases ho
 exact ⟨_,(hB.trans (Chg.nil p0x)),(ko jb p0x),fe rfl⟩
 intro hb9
 rw [hb9] at ho
 refine W_exit <| andThen_x <| ?_
 cases ho
 exact ⟨rfl,⟨_,(hB.trans (Chg.nil hC8)),(ko o_x0 hC8),fe rfl⟩⟩
 rintro ⟨s0_1,s0_5,s0_o_x0⟩ _ k4 ⟨f5,hB,o_x0,F,rfl⟩ ho
 dsimp only at ho
 refine anz <| wq <| Wq rfl (cr [] k4) <| Qa (Mi rfl) <| Qa (Ai rfl) <| fun p0c j0=>anz <| ?_
 cases ho
 exact W_ret ⟨_,res_1 Tryz.results30,_,rfl,(hB.trans (Chg.nil j0)),(ko o_x0 j0)⟩

abbrev laws_markCategory_post (z2:Value) (ze:List Nat) (z1:Value) (zf:List Nat) (z7:Value) (zg:List Nat) (z6:Value) (zh:List Nat) (w:World) (x:(Int×(List Int)×(List Int)×(List Int)×(List (List Int)))) (e:Ending) (w':World):Prop:=∃ (f0:List Nat) (f1:List Nat) (f2:List Nat) (f3:List Nat),e = .returned (.int .i64 x.1)∧Chg (ze++(zf++(zg++zh))) w w'∧OE (ze++(zf++(zg++zh))) w.heap.size w' (sOwn 2 (sInt .i64)) [z2] x.2.1 f0∧OE (ze++(zf++(zg++zh))) w.heap.size w' (sOwn 2 (sInt .i64)) [z1] x.2.2.1 f1∧OE (ze++(zf++(zg++zh))) w.heap.size w' (sOwn 2 (sInt .i64)) [z7] x.2.2.2.1 f2∧OE (ze++(zf++(zg++zh))) w.heap.size w' (sOwn 22 (sOwn 2 (sInt .i64))) [z6] x.2.2.2.2 f3∧Dis f0 f1∧Dis f0 f2∧Dis f0 f3∧Dis f1 f2∧Dis f1 f3∧Dis f2 f3
abbrev laws_markCategory_T (z2:Value) (ze:List Nat) (z1:Value) (zf:List Nat) (z7:Value) (zg:List Nat) (z6:Value) (zh:List Nat) (w:World):=Tm Tryz.prog Tryz.f43 22 (laws_markCategory_post z2 ze z1 zf z7 zg z6 zh w)
theorem laws_markCategory_calls {w:World} {x0:MCategory} {z2:Value} {ze:List Nat} {z1:Value} {zf:List Nat} {z7:Value} {zg:List Nat} {z6:Value} {zh:List Nat} {x1:Int} (o_x0_From:OE ze w.heap.size w (sOwn 2 (sInt .i64)) [z2] x0.From ze) (o_x0_To:OE zf w.heap.size w (sOwn 2 (sInt .i64)) [z1] x0.To zf) (o_x0_Identity:OE zg w.heap.size w (sOwn 2 (sInt .i64)) [z7] x0.Identity zg) (o_x0_Composites:OE zh w.heap.size w (sOwn 22 (sOwn 2 (sInt .i64))) [z6] x0.Composites zh) (d_0_1:Dis ze zf) (d_0_2:Dis ze zg) (d_0_3:Dis ze zh) (d_1_2:Dis zf zg) (d_1_3:Dis zf zh) (d_2_3:Dis zg zh) {y:(Int×(List Int)×(List Int)×(List Int)×(List (List Int)))} (hm:laws_markCategory x0 x1=some y) :
  Calls Tryz.prog 43 #[.agg #[.int .i64 (x0.Objects),z2,z1,z7,z6],.int .i64 (x1)] w (laws_markCategory_post z2 ze z1 zf z7 zg z6 zh w y):=by
 refine Cm (S:=Unit) Tryz.func43 rfl Tryz.ntmps43 rfl hm fun o ho hB=>?_
 clear hm
 have hB:Chg (ze++(zf++(zg++zh))) w w:=cr _ _
 replace o_x0_From:OE (ze++(zf++(zg++zh))) w.heap.size w (sOwn 2 (sInt .i64)) [z2] x0.From ze:=OE.give o_x0_From fun b hb=>by simp [hb]
 replace o_x0_To:OE (ze++(zf++(zg++zh))) w.heap.size w (sOwn 2 (sInt .i64)) [z1] x0.To zf:=OE.give o_x0_To fun b hb=>by simp [hb]
 replace o_x0_Identity:OE (ze++(zf++(zg++zh))) w.heap.size w (sOwn 2 (sInt .i64)) [z7] x0.Identity zg:=OE.give o_x0_Identity fun b hb=>by simp [hb]
 replace o_x0_Composites:OE (ze++(zf++(zg++zh))) w.heap.size w (sOwn 22 (sOwn 2 (sInt .i64))) [z6] x0.Composites zh:=OE.give o_x0_Composites fun b hb=>by simp [hb]
 refine wq <| W_region rfl <| WL.box fun b1 wd2 hC3 hr4 hl5=>?_
 replace hr4:Row wd2 b1 [.int .i64 (x0.Objects),z2,z1,z7,z6] 32:=hr4
 have d7:=dl (onw hl5) (sl _ o_x0_From.1)
 have d8:=dl (onw hl5) (sl _ o_x0_To.1)
 have d9:=dl (onw hl5) (sl _ o_x0_Identity.1)
 have d10:=dl (onw hl5) (sl _ o_x0_Composites.1)
 replace o_x0_From:=ko o_x0_From hC3
 replace o_x0_To:=ko o_x0_To hC3
 replace o_x0_Identity:=ko o_x0_Identity hC3
 replace o_x0_Composites:=ko o_x0_Composites hC3
 replace hB:=(hB.trans (Chg.nil hC3))
 refine Wb (Ai rfl) <| anz <| wq <| W_region rfl <| Wb (Fr fa32_1 rfl) <| Wb (Lr na22 hr4 rfl rfl) <| Wb (Mi rfl) <| ?_
 obtain ⟨y12,p3r,ho⟩:=bs ho
 refine WL.call rfl (op_callF Tryz.func25 rfl rfl) (laws_markInt64S_calls (OE.give (B':=wd2.heap.size) o_x0_From fun _ h=>h) p3r) <| ?_
 rintro _ ga ⟨f16,rfl,pq,pm⟩
 refine ⟨_,rfl,?_⟩
 have d18:=dis_back pm d_0_1 (sl _ o_x0_To.1)
 have q0:=dis_back pm d_0_2 (sl _ o_x0_Identity.1)
 have pu:=dis_back pm d_0_3 (sl _ o_x0_Composites.1)
 replace pm:=OE.back pm o_x0_From.2.2 hB.size
 replace o_x0_To:=okp o_x0_To pq (Dis.symm d_0_1)
 replace o_x0_Identity:=okp o_x0_Identity pq (Dis.symm d_0_2)
 replace o_x0_Composites:=okp o_x0_Composites pq (Dis.symm d_0_3)
 replace hr4:=Row.keep hr4 pq ((Dis.symm (d7).symm) _ (ms rfl))
 replace hB:=hB.then pq o_x0_From.2.2
 refine Wb (Ai rfl) <| anz <| wq <| W_region rfl <| Wb (Fr fa32_2 rfl) <| Wb (Lr na22 hr4 rfl rfl) <| Wb (Mi rfl) <| ?_
 obtain ⟨y23,j3,ho⟩:=bs ho
 refine WL.call rfl (op_callF Tryz.func25 rfl rfl) (laws_markInt64S_calls (OE.give (B':=ga.heap.size) o_x0_To fun _ h=>h) j3) <| ?_
 rintro _ j4 ⟨f27,rfl,px,pw⟩
 refine ⟨_,rfl,?_⟩
 have d29:=dis_back pw d_1_2 (sl _ o_x0_Identity.1)
 have d30:=dis_back pw d_1_3 (sl _ o_x0_Composites.1)
 have d32:=dis_back pw (d18).symm (sl _ pm.1)
 replace pw:=OE.back pw o_x0_To.2.2 hB.size
 replace o_x0_Identity:=okp o_x0_Identity px (Dis.symm d_1_2)
 replace o_x0_Composites:=okp o_x0_Composites px (Dis.symm d_1_3)
 replace hr4:=Row.keep hr4 px ((Dis.symm (d8).symm) _ (ms rfl))
 replace pm:=okp pm px (Dis.symm (d18).symm)
 replace hB:=hB.then px o_x0_To.2.2
 refine Wb (Ai rfl) <| anz <| wq <| W_region rfl <| Wb (Fr fa32_3 rfl) <| Wb (Lr na22 hr4 rfl rfl) <| Wb (Mi rfl) <| ?_
 obtain ⟨y34,p3t,ho⟩:=bs ho
 refine WL.call rfl (op_callF Tryz.func25 rfl rfl) (laws_markInt64S_calls (OE.give (B':=j4.heap.size) o_x0_Identity fun _ h=>h) p3t) <| ?_
 rintro _ p3u ⟨f38,rfl,jf,po⟩
 refine ⟨_,rfl,?_⟩
 have d40:=dis_back po d_2_3 (sl _ o_x0_Composites.1)
 have d42:=dis_back po (q0).symm (sl _ pm.1)
 have d43:=dis_back po (d29).symm (sl _ pw.1)
 replace po:=OE.back po o_x0_Identity.2.2 hB.size
 replace o_x0_Composites:=okp o_x0_Composites jf (Dis.symm d_2_3)
 replace hr4:=Row.keep hr4 jf ((Dis.symm (d9).symm) _ (ms rfl))
 replace pm:=okp pm jf (Dis.symm (q0).symm)
 replace pw:=okp pw jf (Dis.symm (d29).symm)
 replace hB:=hB.then jf o_x0_Identity.2.2
 refine Wb (Ai rfl) <| anz <| wq <| W_region rfl <| Wb (Fr fa32_4 rfl) <| Wb (Lr na23 hr4 rfl rfl) <| Wb (Mi rfl) <| ?_
 obtain ⟨y45,p3x,ho⟩:=bs ho
 refine WL.call rfl (op_callF Tryz.func30 rfl rfl) (laws_markInt64SS_calls (OE.give (B':=p3u.heap.size) o_x0_Composites fun _ h=>h) p3x) <| ?_
 rintro _ k5 ⟨gb,rfl,p1,p6⟩
 refine ⟨_,rfl,?_⟩
 have kt:=dis_back p6 (pu).symm (sl _ pm.1)
 have j9:=dis_back p6 (d30).symm (sl _ pw.1)
 have ja:=dis_back p6 (d40).symm (sl _ po.1)
 replace p6:=OE.back p6 o_x0_Composites.2.2 hB.size
 replace hr4:=Row.keep hr4 p1 ((Dis.symm (d10).symm) _ (ms rfl))
 replace pm:=okp pm p1 (Dis.symm (pu).symm)
 replace pw:=okp pw p1 (Dis.symm (d30).symm)
 replace po:=okp po p1 (Dis.symm (d40).symm)
 replace hB:=hB.then p1 o_x0_Composites.2.2
 refine Wb (Ai rfl) <| anz <| wq <| Wq rfl (cr [] k5) <| Qa (Mi rfl) <| Qa (Ai rfl) <| fun p4z jg=>anz <| ?_
 cases ho
 exact W_ret ⟨_,res_1 Tryz.results43,_,_,_,_,rfl,(hB.trans (Chg.nil jg)),(ko pm jg),(ko pw jg),(ko po jg),(ko p6 jg),((d32).symm),((d42).symm),((kt).symm),((d43).symm),((j9).symm),((ja).symm)⟩
end Go.Proofs.YtcmckiiafgcmjaaGreat
