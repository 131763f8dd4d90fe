/- Walks, printed by a program: that a call of each function computes what its model says. No condition beside those that each theorem names. -/
import Derived.Test.YtcmckiiafgcmjaaGreatTy
import Derived.Test.YtcmckiiafgcmjaaGreatMo
import Derived.Test.YtcmckiiafgcmjaaGreatZ00
import Derived.Test.YtcmckiiafgcmjaaGreatZ01
import Derived.Test.YtcmckiiafgcmjaaGreatZ02
import Derived.Test.YtcmckiiafgcmjaaGreatZ03
import Derived.Test.YtcmckiiafgcmjaaGreatZ04
namespace Go.Proofs.YtcmckiiafgcmjaaGreat
open Go Go.Li
set_option linter.unusedVariables false
set_option maxHeartbeats 4000000
set_option maxRecDepth 100000
abbrev impl_coverage_locally_post (w:World) (x:(Bool)) (e:Ending) (w':World):Prop:=e = .returned (.bool x)∧Chg [] w w'
abbrev impl_coverage_locally_T (w:World):=Tm Tryz.prog Tryz.f211 36 (impl_coverage_locally_post w)
theorem impl_coverage_locally_calls {w:World} {x0:MCoverage} {p_x0:Addr} {p_x0_Classifier:Addr} {z1h:Value} {z1t:List Nat} {z1i:Value} {z1u:List Nat} {z1j:Value} {z1v:List Nat} {z1k:Value} {z1w:List Nat} {z1l:Value} {z1x:List Nat} {z1d:Value} {z1y:List Nat} {z1e:Value} {z20:List Nat} {p_x0_C:Addr} {zy:Value} {z19:List Nat} {zx:Value} {z1a:List Nat} {z10:Value} {z1b:List Nat} {z11:Value} {z1c:List Nat} {zi:Value} {zd:List Nat} {p_x0_Count:Addr} {x1:(List Int)} {v_x1:Value} {f_x1:List Nat} {x2:(List Int)} {v_x2:Value} {f_x2:List Nat} (z1m:(sImm (sInt .i64)).rep w.heap [z1h] x0.Classifier.Sets.Shape.From z1t) (z1n:(sImm (sInt .i64)).rep w.heap [z1i] x0.Classifier.Sets.Shape.To z1u) (z1o:(sImm (sInt .i64)).rep w.heap [z1j] x0.Classifier.Sets.Shape.Identity z1v) (z1p:(sImm (sImm (sInt .i64))).rep w.heap [z1k] x0.Classifier.Sets.Shape.Composites z1w) (z1q:(sImm (sInt .i64)).rep w.heap [z1l] x0.Classifier.Sets.Sizes z1x) (z1g:(sImm (sImm (sInt .i64))).rep w.heap [z1d] x0.Classifier.Sets.Actions z1y) (z1f:(sImm (sImm (sImm (sInt .i64)))).rep w.heap [z1e] x0.Classifier.Sieves z20) (a_x0_Classifier:At w p_x0_Classifier [.int .i64 (x0.Classifier.Sets.Shape.Objects),z1h,z1i,z1j,z1k,z1l,z1d,z1e]) (z13:(sImm (sInt .i64)).rep w.heap [zy] x0.C.From z19) (z12:(sImm (sInt .i64)).rep w.heap [zx] x0.C.To z1a) (z17:(sImm (sInt .i64)).rep w.heap [z10] x0.C.Identity z1b) (z18:(sImm (sImm (sInt .i64))).rep w.heap [z11] x0.C.Composites z1c) (a_x0_C:At w p_x0_C [.int .i64 (x0.C.Objects),zy,zx,z10,z11]) (zj:(sImm (sImm sBool)).rep w.heap [zi] x0.Covers zd) (a_x0_Count:At w p_x0_Count [.int .i64 (x0.Count)]) (a_x0:At w p_x0 [.pointer (some (p_x0_Classifier)),.pointer (some (p_x0_C)),zi,.pointer (some (p_x0_Count))]) (h_x1:(sImm (sInt .i64)).rep w.heap [v_x1] x1 f_x1) (h_x2:(sImm (sInt .i64)).rep w.heap [v_x2] x2 f_x2) {y:(Bool)} (hm:impl_coverage_locally x0 x1 x2=some y) :
  Calls Tryz.prog 211 #[.pointer (some (p_x0)),v_x1,v_x2] w (impl_coverage_locally_post w y):=by
 refine Cm (S:=Unit) Tryz.func211 rfl Tryz.ntmps211 rfl hm fun o ho hB=>?_
 clear hm
 refine wq <| Wq rfl (cr [] w) <| Qa (Ab rfl) <| fun wd1 hC2=>anz <| wq <| wq <| Wq rfl hC2 <| Qa (Mv v_x2 rfl) <| Qa (Ln sl114 (kB h_x2 hB) rfl) <| Qa (Mi rfl) <| fun wd3 hC4=>anz <| Wf (S1:=Int) (fun (s0_11:Int) r w'=>Chg [] w w'∧∃ F,r=updL F [(0,.pointer (some (p_x0))),(1,v_x1),(9,v_x2),(10,.int .i64 ((x2.length:Int))),(11,.int .i64 (s0_11))]) (impl_coverage_locally_T w) ho ⟨(hB.trans hC4),fe rfl⟩ ?_ ?_
 rintro s0_11 _ wd5 ⟨hB,F,rfl⟩ o ho
 replace ho:impl_coverage_locally_L0 x0 x1 x2 s0_11=some o:=ho
 unfold impl_coverage_locally_L0 at ho
 refine wq <| Wq rfl (cr [] wd5) <| Qa (Bl rfl rfl) <| fun wd6 hC7=>anz <| wq <| W_cond (b:=decide (s0_11 < (x2.length:Int))) rfl ?_ ?_
 intro hb8
 rw [hb8] at ho
 refine W_skip <| anz <| wq <| W_block <| wq <| Wq rfl hC7 <| ?_
 obtain ⟨e9,hx10e,ho⟩:=bs ho
 have hx10:=idx_some hx10e
 refine Qa (Ix sl114 (kB h_x2 hB) hx10 rfl rfl rfl) <| Qa (Ei na2 (kB h_x2 hB) hx10 rfl) <| Qa (Ai rfl) <| fun j5 p0=>anz <| wq <| ?_
 obtain ⟨e13,hx14e,ho⟩:=bs ho
 have hx14:=idx_some hx14e
 obtain ⟨y15,p01,ho⟩:=bs ho
 refine W_any (m:=18) (U:=.replicate 18 []) (S:=[sV (.pointer (some (p_x0))),sV (.pointer (some (p_x0))),sV (.pointer (some (p_x0))),sV (.pointer (some (p_x0.add 1))),sV (.pointer (some (p_x0_C))),sV (.pointer (some (p_x0_C))),sV (.pointer (some (p_x0_C.add 2))),sV (zx),sV (.int .i64 (e9)),sV (.pointer (some (elA (zx) 1 (e9)))),sV (.int .i64 (e13)),sV (.pointer (some (p_x0))),sV (.pointer (some (p_x0))),sV (.pointer (some (p_x0.add 1))),sV (.pointer (some (p_x0_C))),sV (.int .i64 (e9)),sV (v_x1),sO (sOwn 2 (sInt .i64)) (y15)]) (Z:=[]) hmix rfl (by decide) (by decide +kernel) (fun _ _ _ h=>np_out h) (by decide) rfl (by decide +kernel) (stable_all (by repeat first | exact stable_nil | refine stable_cons stable_val ?_ | refine stable_cons stable_own ?_)) ?_ ?_
 refine owes_cons ?_ <| owes_cons ?_ <| owes_cons ?_ <| owes_cons ?_ <| owes_cons ?_ <| owes_cons ?_ <| owes_cons ?_ <| owes_cons ?_ <| owes_cons ?_ <| owes_cons ?_ <| owes_cons ?_ <| owes_cons ?_ <| owes_cons ?_ <| owes_cons ?_ <| owes_cons ?_ <| owes_cons ?_ <| owes_cons ?_ <| owes_cons ?_ <| owes_nil
 exact Oh rfl rfl rfl [(0,.pointer (some (p_x0)))] p0 rfl rfl fun _=>Mp rfl
 exact Oh rfl rfl rfl [(0,.pointer (some (p_x0)))] p0 rfl rfl fun _=>Mp rfl
 exact Ov rfl rfl rfl [] [(16,.pointer (some (p_x0)))] [1] p0 rfl rfl (by decide +kernel) rfl fun _=>Nk rfl
 exact Ov rfl rfl rfl [] [(17,.pointer (some (p_x0)))] [2] p0 rfl rfl (by decide +kernel) rfl fun _=>Fp fa144_1 rfl
 exact Ov rfl rfl rfl [] [(18,.pointer (some (p_x0.add 1)))] [3] p0 rfl rfl (by decide +kernel) rfl fun _=>La na131 (At.keep0 a_x0 hB) rfl rfl
 exact Ov rfl rfl rfl [] [(19,.pointer (some (p_x0_C)))] [4] p0 rfl rfl (by decide +kernel) rfl fun _=>Nk rfl
 exact Ov rfl rfl rfl [] [(20,.pointer (some (p_x0_C)))] [5] p0 rfl rfl (by decide +kernel) rfl fun _=>Fp fa32_2 rfl
 exact Ov rfl rfl rfl [] [(21,.pointer (some (p_x0_C.add 2)))] [6] p0 rfl rfl (by decide +kernel) rfl fun _=>La na22 (At.keep0 a_x0_C hB) rfl rfl
 exact Oh rfl rfl rfl [(8,.int .i64 (e9))] p0 rfl rfl fun _=>Mi rfl
 exact Ov rfl rfl rfl [] [(22,zx),(23,.int .i64 (e9))] [7,8] p0 rfl rfl (by decide +kernel) rfl fun _=>Ix sl22 (kB z12 hB) hx14 rfl rfl rfl
 exact Ov rfl rfl rfl [] [(24,.pointer (some (elA (zx) 1 (e9))))] [9] p0 rfl rfl (by decide +kernel) rfl fun _=>Ei na2 (kB z12 hB) hx14 rfl
 exact Oh rfl rfl rfl [(0,.pointer (some (p_x0)))] p0 rfl rfl fun _=>Mp rfl
 exact Ov rfl rfl rfl [] [(26,.pointer (some (p_x0)))] [11] p0 rfl rfl (by decide +kernel) rfl fun _=>Nk rfl
 exact Ov rfl rfl rfl [] [(27,.pointer (some (p_x0)))] [12] p0 rfl rfl (by decide +kernel) rfl fun _=>Fp fa144_1 rfl
 exact Ov rfl rfl rfl [] [(28,.pointer (some (p_x0.add 1)))] [13] p0 rfl rfl (by decide +kernel) rfl fun _=>La na131 (At.keep0 a_x0 hB) rfl rfl
 exact Oh rfl rfl rfl [(8,.int .i64 (e9))] p0 rfl rfl fun _=>Mi rfl
 exact Oh rfl rfl rfl [(1,v_x1)] p0 rfl rfl fun _=>Mv v_x1 rfl
 refine Owes.mem rfl rfl rfl <| fun g r wr hCr H hot=>?_
 have hC:=p0.trans hCr
 obtain ⟨F,rfl⟩:=fr (r:=r) (l:=[(29,.pointer (some (p_x0_C))),(30,.int .i64 (e9)),(31,v_x1)]) ⟨(H 14 (by decide +kernel) 29 rfl),(H 15 (by decide +kernel) 30 rfl),(H 16 (by decide +kernel) 31 rfl),trivial⟩
 exact OpW.own (op_callF Tryz.func153 rfl rfl) (impl_Category_pull_calls (kp _ z13 (hB.trans hC)) (kp _ z12 (hB.trans hC)) (kp _ z17 (hB.trans hC)) (kp _ z18 (hB.trans hC)) (At.keep0 a_x0_C (hB.trans hC)) (kp _ h_x1 (hB.trans hC)) p01)
 rintro g r p02 ⟨p03,hdone,hot,hfresh,hdis⟩
 have p7:OwnV (sOwn 2 (sInt .i64)) (y15) _ _ _:=hdone 17 (by decide) (by decide) 32 rfl
 generalize hvv17:r 32=v17 at p7
 have hfo19:=hfresh 17 (by decide)
 have hdd:=hdis
 obtain ⟨F,rfl⟩:=fw hdone hot [(0,.pointer (some (p_x0))),(1,v_x1),(9,v_x2),(10,.int .i64 ((x2.length:Int))),(11,.int .i64 (s0_11))] [(15,.pointer (some (p_x0))),(25,.int .i64 (e13))] [0,10] rfl rfl rfl rfl (z:=[(32,v17)]) ⟨hvv17,trivial⟩
 obtain ⟨j6,hgf18⟩ : ∃ k,k=g 17:=⟨_,rfl⟩
 rw [← hgf18] at p7 hfo19
 replace p7:OE [] w.heap.size p02 (sOwn 2 (sInt .i64)) [v17] (y15) j6:=⟨p7.1,p7.2,fun b hb=>.inr (Nat.le_trans (hB.trans p0).size (hfo19 b hb).1)⟩
 have p04:=(p0.trans p03)
 replace hB:=(hB.trans p04)
 obtain ⟨y23,k2,ho⟩:=bs ho
 refine WL.call rfl (op_callF Tryz.func152 rfl rfl) (impl_coverage_is_calls (kp _ z1m hB) (kp _ z1n hB) (kp _ z1o hB) (kp _ z1p hB) (kp _ z1q hB) (kp _ z1g hB) (kp _ z1f hB) (At.keep0 a_x0_Classifier hB) (kp _ z13 hB) (kp _ z12 hB) (kp _ z17 hB) (kp _ z18 hB) (At.keep0 a_x0_C hB) (kp _ zj hB) (At.keep0 a_x0_Count hB) (At.keep0 a_x0 hB) ((Le.own (Le.refl _) 2).le p7.1) k2) <| ?_
 rintro _ j7 ⟨rfl,py⟩
 refine ⟨_,rfl,?_⟩
 refine Wb (Nt rfl) <| anz <| W_cond (b:=!(y23)) rfl ?_ ?_
 intro q6
 rw [q6] at ho
 refine wq <| Wq rfl py <| Qa (Ab rfl) <| fun ne pt=>anz <| ?_
 cases ho
 exact W_ret ⟨_,res_1 Tryz.results211,rfl,(hB.trans pt)⟩
 intro q6
 rw [q6] at ho
 refine W_skip <| inBlk_n <| anz <| Wq rfl py <| Qa (Ba rfl rfl) <| Qa (Mi rfl) <| fun j8 pu=>?_
 cases ho
 exact ⟨(hB.trans pu),fe rfl⟩
 intro hb8
 rw [hb8] at ho
 refine W_exit <| andThen_x <| ?_
 cases ho
 exact ⟨rfl,⟨(hB.trans hC7),fe rfl⟩⟩
 rintro s0_11 _ p05 ⟨hB,F,rfl⟩ ho
 refine anz <| wq <| Wq rfl (cr [] p05) <| Qa (Ab rfl) <| fun qs q7=>anz <| ?_
 cases ho
 exact W_ret ⟨_,res_1 Tryz.results211,rfl,(hB.trans q7)⟩

abbrev impl_coverage_follows_isTop_post (b_x1a:Nat) (w:World) (x:(Bool)) (e:Ending) (w':World):Prop:=e = .returned (.tuple #[])∧Chg [b_x1a] w w'∧Row w' b_x1a [.bool x] 4
abbrev impl_coverage_follows_isTop_T (b_x1a:Nat) (w:World):=Tm Tryz.prog Tryz.f157 158 (impl_coverage_follows_isTop_post b_x1a w)
theorem impl_coverage_follows_isTop_calls {w:World} {x0:MCoverage} {p_x0:Addr} {p_x0_Classifier:Addr} {z1h:Value} {z1t:List Nat} {z1i:Value} {z1u:List Nat} {z1j:Value} {z1v:List Nat} {z1k:Value} {z1w:List Nat} {z1l:Value} {z1x:List Nat} {z1d:Value} {z1y:List Nat} {z1e:Value} {z20:List Nat} {p_x0_C:Addr} {zy:Value} {z19:List Nat} {zx:Value} {z1a:List Nat} {z10:Value} {z1b:List Nat} {z11:Value} {z1c:List Nat} {zi:Value} {zd:List Nat} {p_x0_Count:Addr} {x1a:Bool} {b_x1a:Nat} {p_x1b:Addr} (z1m:(sImm (sInt .i64)).rep w.heap [z1h] x0.Classifier.Sets.Shape.From z1t) (z1n:(sImm (sInt .i64)).rep w.heap [z1i] x0.Classifier.Sets.Shape.To z1u) (z1o:(sImm (sInt .i64)).rep w.heap [z1j] x0.Classifier.Sets.Shape.Identity z1v) (z1p:(sImm (sImm (sInt .i64))).rep w.heap [z1k] x0.Classifier.Sets.Shape.Composites z1w) (z1q:(sImm (sInt .i64)).rep w.heap [z1l] x0.Classifier.Sets.Sizes z1x) (z1g:(sImm (sImm (sInt .i64))).rep w.heap [z1d] x0.Classifier.Sets.Actions z1y) (z1f:(sImm (sImm (sImm (sInt .i64)))).rep w.heap [z1e] x0.Classifier.Sieves z20) (a_x0_Classifier:At w p_x0_Classifier [.int .i64 (x0.Classifier.Sets.Shape.Objects),z1h,z1i,z1j,z1k,z1l,z1d,z1e]) (z13:(sImm (sInt .i64)).rep w.heap [zy] x0.C.From z19) (z12:(sImm (sInt .i64)).rep w.heap [zx] x0.C.To z1a) (z17:(sImm (sInt .i64)).rep w.heap [z10] x0.C.Identity z1b) (z18:(sImm (sImm (sInt .i64))).rep w.heap [z11] x0.C.Composites z1c) (a_x0_C:At w p_x0_C [.int .i64 (x0.C.Objects),zy,zx,z10,z11]) (zj:(sImm (sImm sBool)).rep w.heap [zi] x0.Covers zd) (a_x0_Count:At w p_x0_Count [.int .i64 (x0.Count)]) (a_x0:At w p_x0 [.pointer (some (p_x0_Classifier)),.pointer (some (p_x0_C)),zi,.pointer (some (p_x0_Count))]) (r_x1a:Row w b_x1a [.bool (x1a)] 4) (a_x1b:At w p_x1b [.pointer (some (p_x0))]) (n_h_x0_Classifier_Sets_Shape_From:Dis z1t [b_x1a]) (n_h_x0_Classifier_Sets_Shape_To:Dis z1u [b_x1a]) (n_h_x0_Classifier_Sets_Shape_Identity:Dis z1v [b_x1a]) (n_h_x0_Classifier_Sets_Shape_Composites:Dis z1w [b_x1a]) (n_h_x0_Classifier_Sets_Sizes:Dis z1x [b_x1a]) (n_h_x0_Classifier_Sets_Actions:Dis z1y [b_x1a]) (n_h_x0_Classifier_Sieves:Dis z20 [b_x1a]) (n_x0_Classifier:p_x0_Classifier.block ∉ [b_x1a]) (n_h_x0_C_From:Dis z19 [b_x1a]) (n_h_x0_C_To:Dis z1a [b_x1a]) (n_h_x0_C_Identity:Dis z1b [b_x1a]) (n_h_x0_C_Composites:Dis z1c [b_x1a]) (n_x0_C:p_x0_C.block ∉ [b_x1a]) (n_h_x0_Covers:Dis zd [b_x1a]) (n_x0_Count:p_x0_Count.block ∉ [b_x1a]) (n_x0:p_x0.block ∉ [b_x1a]) (n_x1b:p_x1b.block ∉ [b_x1a]) {y:(Bool)} (hm:impl_coverage_follows_isTop x0 x1a=some y) :
  Calls Tryz.prog 157 #[.pointer (some (p_x0)),.func (.func 208) #[] #[.pointer (some (⟨b_x1a,0,none⟩)),.pointer (some (p_x1b))]] w (impl_coverage_follows_isTop_post b_x1a w y):=by
 refine Cv (R:=(Bool)) Tryz.func157 rfl Tryz.ntmps157 rfl hm fun o ho hB=>?_
 clear hm
 have hB:Chg [b_x1a] w w:=cr _ _
 refine wq <| wq <| W_region rfl <| Wb (Mp rfl) <| Wb (Nk rfl) <| Wb (F0 fa144_0 rfl) <| Wb (Lb na141 (At.keep a_x0 hB n_x0) rfl rfl) <| ?_
 obtain ⟨y13,p06,ho⟩:=bs ho
 refine WL.call rfl (op_callF Tryz.func123 rfl rfl) (impl_classifier_tops_calls (STy.keep _ z1m hB n_h_x0_Classifier_Sets_Shape_From) (STy.keep _ z1n hB n_h_x0_Classifier_Sets_Shape_To) (STy.keep _ z1o hB n_h_x0_Classifier_Sets_Shape_Identity) (STy.keep _ z1p hB n_h_x0_Classifier_Sets_Shape_Composites) (STy.keep _ z1q hB n_h_x0_Classifier_Sets_Sizes) (STy.keep _ z1g hB n_h_x0_Classifier_Sets_Actions) (STy.keep _ z1f hB n_h_x0_Classifier_Sieves) (At.keep a_x0_Classifier hB n_x0_Classifier) p06) <| ?_
 rintro _ p3n ⟨v17,j6,rfl,nf,p7⟩
 refine ⟨_,rfl,?_⟩
 have q1:=dl (ofr p7) (one_lt (Row.lt r_x1a))
 replace p7:=OE.low (G:=[b_x1a]) p7 hB.size
 replace r_x1a:=kr r_x1a nf
 replace hB:=(hB.trans (Chg.nil nf))
 refine Wb (Ln sl22 ((Le.own (Le.refl _) 2).le p7.1) rfl) <| Wb (Mi rfl) <| anz <| Wf (S1:=Int×Bool) (fun s r w'=>match s with | (s0_20,s0_b_x1a_0)=>Chg [b_x1a] w w'∧Row w' b_x1a [.bool (s0_b_x1a_0)] 4∧OE [b_x1a] w.heap.size w' (sOwn 2 (sInt .i64)) [v17] (y13) j6∧Dis [b_x1a] j6∧∃ F,r=updL F [(0,.pointer (some (p_x0))),(1,.func (.func 208) #[] #[.pointer (some (⟨b_x1a,0,none⟩)),.pointer (some (p_x1b))]),(18,v17),(19,.int .i64 ((y13.length:Int))),(20,.int .i64 (s0_20))]) (impl_coverage_follows_isTop_T b_x1a w) ho ⟨hB,r_x1a,p7,((q1).symm),fe rfl⟩ ?_ ?_
 rintro ⟨s0_20,s0_b_x1a_0⟩ _ k3 ⟨hB,r_x1a,p7,po,F,rfl⟩ o ho
 replace ho:impl_coverage_follows_isTop_L0 x0 y13 s0_20 s0_b_x1a_0=some o:=ho
 unfold impl_coverage_follows_isTop_L0 at ho
 refine wq <| Wq rfl (cr [] k3) <| Qa (Bl rfl rfl) <| fun p3o j9=>anz <| wq <| W_cond (b:=decide (s0_20 < (y13.length:Int))) rfl ?_ ?_
 intro k4
 rw [k4] at ho
 refine W_skip <| anz <| wq <| W_block <| wq <| Wq rfl j9 <| Qa (Mi rfl) <| ?_
 obtain ⟨e27,hx28e,ho⟩:=bs ho
 have hx28:=idx_some hx28e
 refine Qa (Ix sl22 ((Le.own (Le.refl _) 2).le p7.1) hx28 rfl rfl rfl) <| Qa (Ei na2 ((Le.own (Le.refl _) 2).le p7.1) hx28 rfl) <| Qa (Ai rfl) <| Qa (Ai rfl) <| fun p07 p08=>anz <| W_region rfl <| Wb (Mv (.func (.func 208) #[] #[.pointer (some (⟨b_x1a,0,none⟩)),.pointer (some p_x1b)]) rfl) <| Wb (Mi rfl) <| Wb (Mi rfl) <| ?_
 have k5:=p08.trans (cr [] p07)
 replace r_x1a:=kr r_x1a k5
 replace p7:=ko p7 k5
 replace hB:=(hB.trans (Chg.nil k5))
 obtain ⟨y32,p09,ho⟩:=bs ho
 refine WL.call rfl (op_callT (fst:=[]) (cap:=[.pointer (some (⟨b_x1a,0,none⟩)),.pointer (some (p_x1b))]) rfl Tryz.func208 rfl rfl) (impl_coverage_isTopology_1_calls r_x1a (STy.keep _ z1m hB n_h_x0_Classifier_Sets_Shape_From) (STy.keep _ z1n hB n_h_x0_Classifier_Sets_Shape_To) (STy.keep _ z1o hB n_h_x0_Classifier_Sets_Shape_Identity) (STy.keep _ z1p hB n_h_x0_Classifier_Sets_Shape_Composites) (STy.keep _ z1q hB n_h_x0_Classifier_Sets_Sizes) (STy.keep _ z1g hB n_h_x0_Classifier_Sets_Actions) (STy.keep _ z1f hB n_h_x0_Classifier_Sieves) (At.keep a_x0_Classifier hB n_x0_Classifier) (STy.keep _ z13 hB n_h_x0_C_From) (STy.keep _ z12 hB n_h_x0_C_To) (STy.keep _ z17 hB n_h_x0_C_Identity) (STy.keep _ z18 hB n_h_x0_C_Composites) (At.keep a_x0_C hB n_x0_C) (STy.keep _ zj hB n_h_x0_Covers) (At.keep a_x0_Count hB n_x0_Count) (At.keep a_x0 hB n_x0) (At.keep a_x1b hB n_x1b) (dis_parF z1m n_h_x0_Classifier_Sets_Shape_From (fun i hi=>.inl (by simp [List.mem_singleton.1 hi]))) (dis_parF z1n n_h_x0_Classifier_Sets_Shape_To (fun i hi=>.inl (by simp [List.mem_singleton.1 hi]))) (dis_parF z1o n_h_x0_Classifier_Sets_Shape_Identity (fun i hi=>.inl (by simp [List.mem_singleton.1 hi]))) (dis_parF z1p n_h_x0_Classifier_Sets_Shape_Composites (fun i hi=>.inl (by simp [List.mem_singleton.1 hi]))) (dis_parF z1q n_h_x0_Classifier_Sets_Sizes (fun i hi=>.inl (by simp [List.mem_singleton.1 hi]))) (dis_parF z1g n_h_x0_Classifier_Sets_Actions (fun i hi=>.inl (by simp [List.mem_singleton.1 hi]))) (dis_parF z1f n_h_x0_Classifier_Sieves (fun i hi=>.inl (by simp [List.mem_singleton.1 hi]))) (pat_out a_x0_Classifier n_x0_Classifier (fun i hi=>.inl (by simp [List.mem_singleton.1 hi]))) (dis_parF z13 n_h_x0_C_From (fun i hi=>.inl (by simp [List.mem_singleton.1 hi]))) (dis_parF z12 n_h_x0_C_To (fun i hi=>.inl (by simp [List.mem_singleton.1 hi]))) (dis_parF z17 n_h_x0_C_Identity (fun i hi=>.inl (by simp [List.mem_singleton.1 hi]))) (dis_parF z18 n_h_x0_C_Composites (fun i hi=>.inl (by simp [List.mem_singleton.1 hi]))) (pat_out a_x0_C n_x0_C (fun i hi=>.inl (by simp [List.mem_singleton.1 hi]))) (dis_parF zj n_h_x0_Covers (fun i hi=>.inl (by simp [List.mem_singleton.1 hi]))) (pat_out a_x0_Count n_x0_Count (fun i hi=>.inl (by simp [List.mem_singleton.1 hi]))) (pat_out a_x0 n_x0 (fun i hi=>.inl (by simp [List.mem_singleton.1 hi]))) (pat_out a_x1b n_x1b (fun i hi=>.inl (by simp [List.mem_singleton.1 hi]))) p09) ?_
 rintro _ ng ⟨rfl,p1,qj⟩
 refine ⟨_,rfl,?_⟩
 replace p7:=okp p7 p1 (Dis.symm po)
 replace hB:=hB.then p1 (fun i hi=>.inl (by simp [List.mem_singleton.1 hi]))
 refine inBlk_n <| anz <| Wq rfl (cr [] ng) <| Qa (Ba rfl rfl) <| Qa (Mi rfl) <| fun nh q8=>?_
 cases ho
 exact ⟨(hB.trans (Chg.nil q8)),(kr qj q8),(ko p7 q8),po,fe rfl⟩
 intro k4
 rw [k4] at ho
 refine W_exit <| andThen_x <| ?_
 cases ho
 exact ⟨rfl,⟨(hB.trans (Chg.nil j9)),(kr r_x1a j9),(ko p7 j9),po,fe rfl⟩⟩
 rintro ⟨s0_20,s0_b_x1a_0⟩ _ ni ⟨hB,r_x1a,p7,po,F,rfl⟩ ho
 dsimp only at ho
 refine anz <| wq <| wq <| Wq rfl (cr [] ni) <| Qa (Mp rfl) <| Qa (Nk rfl) <| Qa (Fp fa144_1 rfl) <| Qa (La na131 (At.keep a_x0 hB n_x0) rfl rfl) <| Qa (Nk rfl) <| Qa (Fp fa32_1 rfl) <| Qa (La na22 (At.keep a_x0_C hB n_x0_C) rfl rfl) <| Qa (Ln sl22 (STy.keep _ z13 hB n_h_x0_C_From) rfl) <| Qa (Mi rfl) <| fun p3p nj=>anz <| Wf (S1:=Int×Bool) (fun s r w'=>match s with | (s1_38,s1_b_x1a_0)=>Chg [b_x1a] w w'∧Row w' b_x1a [.bool (s1_b_x1a_0)] 4∧∃ F,r=updL F [(0,.pointer (some (p_x0))),(1,.func (.func 208) #[] #[.pointer (some (⟨b_x1a,0,none⟩)),.pointer (some (p_x1b))]),(37,.int .i64 ((x0.C.From.length:Int))),(38,.int .i64 (s1_38))]) (impl_coverage_follows_isTop_T b_x1a w) ho ⟨(hB.trans (Chg.nil nj)),(kr r_x1a nj),fe rfl⟩ ?_ ?_
 rintro ⟨s1_38,s1_b_x1a_0⟩ _ p0a ⟨hB,r_x1a,F,rfl⟩ o ho
 replace ho:impl_coverage_follows_isTop_L1 x0 s1_38 s1_b_x1a_0=some o:=ho
 unfold impl_coverage_follows_isTop_L1 at ho
 refine wq <| Wq rfl (cr [] p0a) <| Qa (Bl rfl rfl) <| fun p0b qk=>anz <| wq <| W_cond (b:=decide (s1_38 < (x0.C.From.length:Int))) rfl ?_ ?_
 intro q9
 rw [q9] at ho
 refine W_skip <| anz <| wq <| W_block <| wq <| Wq rfl qk <| Qa (Mi rfl) <| Qa (Ai rfl) <| fun p0c p6=>anz <| wq <| ?_
 obtain ⟨e49,hx50e,ho⟩:=bs ho
 have hx50:=idx_some hx50e
 obtain ⟨e51,hx52e,ho⟩:=bs ho
 have hx52:=idx_some hx52e
 obtain ⟨u53,fu54,hu55,p0d,hs57⟩:=one_getP rfl zj hB n_h_x0_Covers hx52.1 hx52.2
 have n_hr56:Dis fu54 [b_x1a]:=fun b hb=>n_h_x0_Covers b (hs57 b hb)
 obtain ⟨y58,p0e,ho⟩:=bs ho
 refine W_any (m:=19) (U:=.replicate 19 []) (S:=[sV (.pointer (some (p_x0))),sV (.pointer (some (p_x0))),sV (.pointer (some (p_x0.add 2))),sV (zi),sV (.pointer (some (p_x0))),sV (.pointer (some (p_x0))),sV (.pointer (some (p_x0.add 1))),sV (.pointer (some (p_x0_C))),sV (.pointer (some (p_x0_C))),sV (.pointer (some (p_x0_C.add 1))),sV (zy),sV (.int .i64 (s1_38)),sV (.pointer (some (elA (zy) 1 (s1_38)))),sV (.int .i64 (e49)),sV (.pointer (some (elA (zi) 1 (e49)))),sV (u53),sO (sOwn 4 sBool) (y58),sV (.int .i64 ((y58.length:Int))),sV (.int .i64 ((0:Int)))]) (Z:=[]) hmix rfl (by decide) (by decide +kernel) (fun _ _ _ h=>np_out h) (by decide) rfl (by decide +kernel) (stable_all (by repeat first | exact stable_nil | refine stable_cons stable_val ?_ | refine stable_cons stable_own ?_)) ?_ ?_
 refine owes_cons ?_ <| owes_cons ?_ <| owes_cons ?_ <| owes_cons ?_ <| owes_cons ?_ <| owes_cons ?_ <| owes_cons ?_ <| owes_cons ?_ <| owes_cons ?_ <| owes_cons ?_ <| owes_cons ?_ <| owes_cons ?_ <| owes_cons ?_ <| owes_cons ?_ <| owes_cons ?_ <| owes_cons ?_ <| owes_cons ?_ <| owes_cons ?_ <| owes_cons ?_ <| owes_nil
 exact Oh rfl rfl rfl [(0,.pointer (some (p_x0)))] p6 rfl rfl fun _=>Mp rfl
 exact Ov rfl rfl rfl [] [(41,.pointer (some (p_x0)))] [0] p6 rfl rfl (by decide +kernel) rfl fun _=>Nk rfl
 exact Ov rfl rfl rfl [] [(42,.pointer (some (p_x0)))] [1] p6 rfl rfl (by decide +kernel) rfl fun _=>Fp fa144_2 rfl
 exact Ov rfl rfl rfl [] [(43,.pointer (some (p_x0.add 2)))] [2] p6 rfl rfl (by decide +kernel) rfl fun _=>La na97 (At.keep a_x0 hB n_x0) rfl rfl
 exact Oh rfl rfl rfl [(0,.pointer (some (p_x0)))] p6 rfl rfl fun _=>Mp rfl
 exact Ov rfl rfl rfl [] [(45,.pointer (some (p_x0)))] [4] p6 rfl rfl (by decide +kernel) rfl fun _=>Nk rfl
 exact Ov rfl rfl rfl [] [(46,.pointer (some (p_x0)))] [5] p6 rfl rfl (by decide +kernel) rfl fun _=>Fp fa144_1 rfl
 exact Ov rfl rfl rfl [] [(47,.pointer (some (p_x0.add 1)))] [6] p6 rfl rfl (by decide +kernel) rfl fun _=>La na131 (At.keep a_x0 hB n_x0) rfl rfl
 exact Ov rfl rfl rfl [] [(48,.pointer (some (p_x0_C)))] [7] p6 rfl rfl (by decide +kernel) rfl fun _=>Nk rfl
 exact Ov rfl rfl rfl [] [(49,.pointer (some (p_x0_C)))] [8] p6 rfl rfl (by decide +kernel) rfl fun _=>Fp fa32_1 rfl
 exact Ov rfl rfl rfl [] [(50,.pointer (some (p_x0_C.add 1)))] [9] p6 rfl rfl (by decide +kernel) rfl fun _=>La na22 (At.keep a_x0_C hB n_x0_C) rfl rfl
 exact Oh rfl rfl rfl [(6,.int .i64 (s1_38))] p6 rfl rfl fun _=>Mi rfl
 exact Ov rfl rfl rfl [] [(51,zy),(52,.int .i64 (s1_38))] [10,11] p6 rfl rfl (by decide +kernel) rfl fun _=>Ix sl22 (STy.keep _ z13 hB n_h_x0_C_From) hx50 rfl rfl rfl
 exact Ov rfl rfl rfl [] [(53,.pointer (some (elA (zy) 1 (s1_38))))] [12] p6 rfl rfl (by decide +kernel) rfl fun _=>Ei na2 (STy.keep _ z13 hB n_h_x0_C_From) hx50 rfl
 exact Ov rfl rfl rfl [] [(44,zi),(54,.int .i64 (e49))] [3,13] p6 rfl rfl (by decide +kernel) rfl fun _=>Ix sl97 (STy.keep _ zj hB n_h_x0_Covers) hx52 rfl rfl rfl
 exact Ov rfl rfl rfl [] [(55,.pointer (some (elA (zi) 1 (e49))))] [14] p6 rfl rfl (by decide +kernel) rfl fun _=>Ld na138 hu55 rfl
 refine Owes.mem rfl rfl rfl <| fun g r wr hCr H hot=>?_
 have hC:=p6.trans hCr
 obtain ⟨F,rfl⟩:=fr (r:=r) (l:=[(56,u53)]) ⟨(H 15 (by decide +kernel) 56 rfl),trivial⟩
 exact OpW.own (op_callF Tryz.func210 rfl rfl) (slices_Clone___bool_bool__calls (STy.keep _ p0d (hB.trans (Chg.nil hC)) n_hr56) p0e)
 refine Owes.val rfl rfl rfl <| fun g r wr hCr H hot=>?_
 have hC:=p6.trans hCr
 have p8:OwnV (sOwn 4 sBool) (y58) _ _ _:=H 16 (by decide +kernel) 57 rfl
 generalize hvv60:r 57=v60 at p8
 obtain ⟨F,rfl⟩:=fr (r:=r) (l:=[(57,v60)]) ⟨hvv60,trivial⟩
 exact (Ln sl138 ((Le.own (Le.refl _) 4).le p8.1) rfl) _ (cr _ _)
 exact Oh rfl rfl rfl [] p6 rfl rfl fun _=>Mi rfl
 rintro g r nk ⟨qa,hdone,hot,hfresh,hdis⟩
 have p8:OwnV (sOwn 4 sBool) (y58) _ _ _:=hdone 16 (by decide) (by decide) 57 rfl
 generalize hvv60:r 57=v60 at p8
 have hfo62:=hfresh 16 (by decide)
 have hdd:=hdis
 obtain ⟨F,rfl⟩:=fw hdone hot [(0,.pointer (some (p_x0))),(1,.func (.func 208) #[] #[.pointer (some (⟨b_x1a,0,none⟩)),.pointer (some (p_x1b))]),(6,.int .i64 (s1_38)),(37,.int .i64 ((x0.C.From.length:Int))),(38,.int .i64 (s1_38))] [(58,.int .i64 ((y58.length:Int))),(59,.int .i64 ((0:Int)))] [17,18] rfl rfl rfl rfl (z:=[(57,v60)]) ⟨hvv60,trivial⟩
 obtain ⟨k6,hgf61⟩ : ∃ k,k=g 16:=⟨_,rfl⟩
 rw [← hgf61] at p8 hfo62
 replace p8:OE [b_x1a] w.heap.size nk (sOwn 4 sBool) [v60] (y58) k6:=⟨p8.1,p8.2,fun b hb=>.inr (Nat.le_trans (hB.trans (Chg.nil p6)).size (hfo62 b hb).1)⟩
 have k7:=dl (fun b hb=>(hfo62 b hb).1) (one_lt (Row.lt (kr r_x1a p6)))
 have nl:=(p6.trans qa)
 replace r_x1a:=kr r_x1a nl
 replace hB:=(hB.trans (Chg.nil nl))
 refine anz <| Wf (S1:=Int×Bool) (fun s r w'=>match s with | (s2_59,s2_b_x1a_0)=>Chg [b_x1a] w w'∧Row w' b_x1a [.bool (s2_b_x1a_0)] 4∧OE [b_x1a] w.heap.size w' (sOwn 4 sBool) [v60] (y58) k6∧Dis [b_x1a] k6∧∃ F,r=updL F [(0,.pointer (some (p_x0))),(1,.func (.func 208) #[] #[.pointer (some (⟨b_x1a,0,none⟩)),.pointer (some (p_x1b))]),(6,.int .i64 (s1_38)),(37,.int .i64 ((x0.C.From.length:Int))),(38,.int .i64 (s1_38)),(57,v60),(58,.int .i64 ((y58.length:Int))),(59,.int .i64 (s2_59))]) (impl_coverage_follows_isTop_T b_x1a w) ho ⟨hB,r_x1a,p8,((k7).symm),fe rfl⟩ ?_ ?_
 rintro ⟨s2_59,s2_b_x1a_0⟩ _ p0f ⟨hB,r_x1a,p8,qb,F,rfl⟩ o ho
 replace ho:impl_coverage_follows_isTop_L2 x0 s1_38 y58 s2_59 s2_b_x1a_0=some o:=ho
 unfold impl_coverage_follows_isTop_L2 at ho
 refine wq <| Wq rfl (cr [] p0f) <| Qa (Bl rfl rfl) <| fun nm ql=>anz <| wq <| W_cond (b:=decide (s2_59 < (y58.length:Int))) rfl ?_ ?_
 intro k8
 rw [k8] at ho
 refine W_skip <| anz <| wq <| W_block <| wq <| Wq rfl ql <| Qa (Mi rfl) <| ?_
 obtain ⟨e72,hx73e,ho⟩:=bs ho
 have hx73:=idx_some hx73e
 refine Qa (Ix sl138 ((Le.own (Le.refl _) 4).le p8.1) hx73 rfl rfl rfl) <| Qa (Eb na4 ((Le.own (Le.refl _) 4).le p8.1) hx73 rfl) <| Qa (Ai rfl) <| Qa (Ab rfl) <| fun p3q p0g=>anz <| wq <| Wq rfl p0g <| Qa (Mb rfl) <| fun p3r p2=>anz <| W_cond (b:=e72) rfl ?_ ?_
 intro k9
 rw [k9] at ho
 obtain ⟨e79,hx80e,ho⟩:=bs ho
 have hx80:=idx_some hx80e
 have at81:At w (p_x0_Classifier.add 0) [.int .i64 (x0.Classifier.Sets.Shape.Objects),z1h,z1i,z1j,z1k,z1l,z1d]:=At.sub a_x0_Classifier 0 7
 have hn82:(p_x0_Classifier.add 0).block ∉ [b_x1a]:=by rw [add_block]; exact n_x0_Classifier
 obtain ⟨e83,hx84e,ho⟩:=bs ho
 have hx84:=idx_some hx84e
 obtain ⟨u85,fu86,hu87,nn,hs89⟩:=one_getP rfl z1g hB n_h_x0_Classifier_Sets_Actions hx84.1 hx84.2
 have n_hr88:Dis fu86 [b_x1a]:=fun b hb=>n_h_x0_Classifier_Sets_Actions b (hs89 b hb)
 obtain ⟨e90,hx91e,ho⟩:=bs ho
 have hx91:=idx_some hx91e
 refine W_any (m:=25) (U:=.replicate 25 []) (S:=[sV (.func (.func 208) #[] #[.pointer (some (⟨b_x1a,0,none⟩)),.pointer (some (p_x1b))]),sV (.pointer (some (p_x0))),sV (.pointer (some (p_x0))),sV (.pointer (some (p_x0.add 1))),sV (.pointer (some (p_x0_C))),sV (.pointer (some (p_x0_C))),sV (.pointer (some (p_x0_C.add 2))),sV (zx),sV (.int .i64 (s1_38)),sV (.pointer (some (elA (zx) 1 (s1_38)))),sV (.int .i64 (e79)),sV (.pointer (some (p_x0))),sV (.pointer (some (p_x0))),sV (.pointer (some (p_x0))),sV (.pointer (some (p_x0_Classifier))),sV (.pointer (some (p_x0_Classifier))),sV (.pointer (some ((p_x0_Classifier.add 0)))),sV (.pointer (some ((p_x0_Classifier.add 0).add 6))),sV (z1d),sV (.int .i64 (s1_38)),sV (.pointer (some (elA (z1d) 1 (s1_38)))),sV (u85),sV (.int .i64 (s2_59)),sV (.pointer (some (elA (u85) 1 (s2_59)))),sV (.int .i64 (e90))]) (Z:=[]) hmix rfl (by decide) (by decide +kernel) (fun _ _ _ h=>np_out h) (by decide) rfl (by decide +kernel) (stable_all (by repeat first | exact stable_nil | refine stable_cons stable_val ?_ | refine stable_cons stable_own ?_)) ?_ ?_
 refine owes_cons ?_ <| owes_cons ?_ <| owes_cons ?_ <| owes_cons ?_ <| owes_cons ?_ <| owes_cons ?_ <| owes_cons ?_ <| owes_cons ?_ <| owes_cons ?_ <| owes_cons ?_ <| owes_cons ?_ <| owes_cons ?_ <| owes_cons ?_ <| owes_cons ?_ <| owes_cons ?_ <| owes_cons ?_ <| owes_cons ?_ <| owes_cons ?_ <| owes_cons ?_ <| owes_cons ?_ <| owes_cons ?_ <| owes_cons ?_ <| owes_cons ?_ <| owes_cons ?_ <| owes_cons ?_ <| owes_nil
 exact Oh rfl rfl rfl [(1,.func (.func 208) #[] #[.pointer (some (⟨b_x1a,0,none⟩)),.pointer (some (p_x1b))])] p2 rfl rfl fun _=>Mv (.func (.func 208) #[] #[.pointer (some (⟨b_x1a,0,none⟩)),.pointer (some (p_x1b))]) rfl
 exact Oh rfl rfl rfl [(0,.pointer (some (p_x0)))] p2 rfl rfl fun _=>Mp rfl
 exact Ov rfl rfl rfl [] [(66,.pointer (some (p_x0)))] [1] p2 rfl rfl (by decide +kernel) rfl fun _=>Nk rfl
 exact Ov rfl rfl rfl [] [(67,.pointer (some (p_x0)))] [2] p2 rfl rfl (by decide +kernel) rfl fun _=>Fp fa144_1 rfl
 exact Ov rfl rfl rfl [] [(68,.pointer (some (p_x0.add 1)))] [3] p2 rfl rfl (by decide +kernel) rfl fun _=>La na131 (At.keep a_x0 hB n_x0) rfl rfl
 exact Ov rfl rfl rfl [] [(69,.pointer (some (p_x0_C)))] [4] p2 rfl rfl (by decide +kernel) rfl fun _=>Nk rfl
 exact Ov rfl rfl rfl [] [(70,.pointer (some (p_x0_C)))] [5] p2 rfl rfl (by decide +kernel) rfl fun _=>Fp fa32_2 rfl
 exact Ov rfl rfl rfl [] [(71,.pointer (some (p_x0_C.add 2)))] [6] p2 rfl rfl (by decide +kernel) rfl fun _=>La na22 (At.keep a_x0_C hB n_x0_C) rfl rfl
 exact Oh rfl rfl rfl [(6,.int .i64 (s1_38))] p2 rfl rfl fun _=>Mi rfl
 exact Ov rfl rfl rfl [] [(72,zx),(73,.int .i64 (s1_38))] [7,8] p2 rfl rfl (by decide +kernel) rfl fun _=>Ix sl22 (STy.keep _ z12 hB n_h_x0_C_To) hx80 rfl rfl rfl
 exact Ov rfl rfl rfl [] [(74,.pointer (some (elA (zx) 1 (s1_38))))] [9] p2 rfl rfl (by decide +kernel) rfl fun _=>Ei na2 (STy.keep _ z12 hB n_h_x0_C_To) hx80 rfl
 exact Oh rfl rfl rfl [(0,.pointer (some (p_x0)))] p2 rfl rfl fun _=>Mp rfl
 exact Ov rfl rfl rfl [] [(76,.pointer (some (p_x0)))] [11] p2 rfl rfl (by decide +kernel) rfl fun _=>Nk rfl
 exact Ov rfl rfl rfl [] [(77,.pointer (some (p_x0)))] [12] p2 rfl rfl (by decide +kernel) rfl fun _=>F0 fa144_0 rfl
 exact Ov rfl rfl rfl [] [(78,.pointer (some (p_x0)))] [13] p2 rfl rfl (by decide +kernel) rfl fun _=>Lb na141 (At.keep a_x0 hB n_x0) rfl rfl
 exact Ov rfl rfl rfl [] [(79,.pointer (some (p_x0_Classifier)))] [14] p2 rfl rfl (by decide +kernel) rfl fun _=>Nk rfl
 exact Ov rfl rfl rfl [] [(80,.pointer (some (p_x0_Classifier)))] [15] p2 rfl rfl (by decide +kernel) rfl fun _=>Fp fa151_0 rfl
 exact Ov rfl rfl rfl [] [(81,.pointer (some ((p_x0_Classifier.add 0))))] [16] p2 rfl rfl (by decide +kernel) rfl fun _=>Fp fa66_2 rfl
 exact Ov rfl rfl rfl [] [(82,.pointer (some ((p_x0_Classifier.add 0).add 6)))] [17] p2 rfl rfl (by decide +kernel) rfl fun _=>La na23 (At.keep at81 hB hn82) rfl rfl
 exact Oh rfl rfl rfl [(6,.int .i64 (s1_38))] p2 rfl rfl fun _=>Mi rfl
 exact Ov rfl rfl rfl [] [(83,z1d),(84,.int .i64 (s1_38))] [18,19] p2 rfl rfl (by decide +kernel) rfl fun _=>Ix sl23 (STy.keep _ z1g hB n_h_x0_Classifier_Sets_Actions) hx84 rfl rfl rfl
 exact Ov rfl rfl rfl [] [(85,.pointer (some (elA (z1d) 1 (s1_38))))] [20] p2 rfl rfl (by decide +kernel) rfl fun _=>Ld na22 hu87 rfl
 exact Oh rfl rfl rfl [(7,.int .i64 (s2_59))] p2 rfl rfl fun _=>Mi rfl
 exact Ov rfl rfl rfl [] [(86,u85),(87,.int .i64 (s2_59))] [21,22] p2 rfl rfl (by decide +kernel) rfl fun _=>Ix sl22 (STy.keep _ nn hB n_hr88) hx91 rfl rfl rfl
 exact Ov rfl rfl rfl [] [(88,.pointer (some (elA (u85) 1 (s2_59))))] [23] p2 rfl rfl (by decide +kernel) rfl fun _=>Ei na2 (STy.keep _ nn hB n_hr88) hx91 rfl
 rintro g r p0h ⟨qm,hdone,hot,hfresh,hdis⟩
 have hdd:=hdis
 obtain ⟨F,rfl⟩:=fw hdone hot [(0,.pointer (some (p_x0))),(1,.func (.func 208) #[] #[.pointer (some (⟨b_x1a,0,none⟩)),.pointer (some (p_x1b))]),(6,.int .i64 (s1_38)),(37,.int .i64 ((x0.C.From.length:Int))),(38,.int .i64 (s1_38)),(57,v60),(58,.int .i64 ((y58.length:Int))),(59,.int .i64 (s2_59))] [(65,.func (.func 208) #[] #[.pointer (some (⟨b_x1a,0,none⟩)),.pointer (some (p_x1b))]),(75,.int .i64 (e79)),(89,.int .i64 (e90))] [0,10,24] rfl rfl rfl rfl (z:=[]) trivial
 have ka:=(p2.trans qm)
 replace r_x1a:=kr r_x1a ka
 replace p8:=ko p8 ka
 replace hB:=(hB.trans (Chg.nil ka))
 obtain ⟨y95,p0i,ho⟩:=bs ho
 refine WL.call rfl (op_callT (fst:=[]) (cap:=[.pointer (some (⟨b_x1a,0,none⟩)),.pointer (some (p_x1b))]) rfl Tryz.func208 rfl rfl) (impl_coverage_isTopology_1_calls r_x1a (STy.keep _ z1m hB n_h_x0_Classifier_Sets_Shape_From) (STy.keep _ z1n hB n_h_x0_Classifier_Sets_Shape_To) (STy.keep _ z1o hB n_h_x0_Classifier_Sets_Shape_Identity) (STy.keep _ z1p hB n_h_x0_Classifier_Sets_Shape_Composites) (STy.keep _ z1q hB n_h_x0_Classifier_Sets_Sizes) (STy.keep _ z1g hB n_h_x0_Classifier_Sets_Actions) (STy.keep _ z1f hB n_h_x0_Classifier_Sieves) (At.keep a_x0_Classifier hB n_x0_Classifier) (STy.keep _ z13 hB n_h_x0_C_From) (STy.keep _ z12 hB n_h_x0_C_To) (STy.keep _ z17 hB n_h_x0_C_Identity) (STy.keep _ z18 hB n_h_x0_C_Composites) (At.keep a_x0_C hB n_x0_C) (STy.keep _ zj hB n_h_x0_Covers) (At.keep a_x0_Count hB n_x0_Count) (At.keep a_x0 hB n_x0) (At.keep a_x1b hB n_x1b) (dis_parF z1m n_h_x0_Classifier_Sets_Shape_From (fun i hi=>.inl (by simp [List.mem_singleton.1 hi]))) (dis_parF z1n n_h_x0_Classifier_Sets_Shape_To (fun i hi=>.inl (by simp [List.mem_singleton.1 hi]))) (dis_parF z1o n_h_x0_Classifier_Sets_Shape_Identity (fun i hi=>.inl (by simp [List.mem_singleton.1 hi]))) (dis_parF z1p n_h_x0_Classifier_Sets_Shape_Composites (fun i hi=>.inl (by simp [List.mem_singleton.1 hi]))) (dis_parF z1q n_h_x0_Classifier_Sets_Sizes (fun i hi=>.inl (by simp [List.mem_singleton.1 hi]))) (dis_parF z1g n_h_x0_Classifier_Sets_Actions (fun i hi=>.inl (by simp [List.mem_singleton.1 hi]))) (dis_parF z1f n_h_x0_Classifier_Sieves (fun i hi=>.inl (by simp [List.mem_singleton.1 hi]))) (pat_out a_x0_Classifier n_x0_Classifier (fun i hi=>.inl (by simp [List.mem_singleton.1 hi]))) (dis_parF z13 n_h_x0_C_From (fun i hi=>.inl (by simp [List.mem_singleton.1 hi]))) (dis_parF z12 n_h_x0_C_To (fun i hi=>.inl (by simp [List.mem_singleton.1 hi]))) (dis_parF z17 n_h_x0_C_Identity (fun i hi=>.inl (by simp [List.mem_singleton.1 hi]))) (dis_parF z18 n_h_x0_C_Composites (fun i hi=>.inl (by simp [List.mem_singleton.1 hi]))) (pat_out a_x0_C n_x0_C (fun i hi=>.inl (by simp [List.mem_singleton.1 hi]))) (dis_parF zj n_h_x0_Covers (fun i hi=>.inl (by simp [List.mem_singleton.1 hi]))) (pat_out a_x0_Count n_x0_Count (fun i hi=>.inl (by simp [List.mem_singleton.1 hi]))) (pat_out a_x0 n_x0 (fun i hi=>.inl (by simp [List.mem_singleton.1 hi]))) (pat_out a_x1b n_x1b (fun i hi=>.inl (by simp [List.mem_singleton.1 hi]))) p0i) ?_
 rintro _ p0j ⟨rfl,no,o99⟩
 refine ⟨_,rfl,?_⟩
 replace p8:=okp p8 no (Dis.symm qb)
 replace hB:=hB.then no (fun i hi=>.inl (by simp [List.mem_singleton.1 hi]))
 refine inBlk_n <| anz <| Wq rfl (cr [] p0j) <| Qa (Ba rfl rfl) <| Qa (Mi rfl) <| fun p3s kb=>?_
 cases ho
 exact ⟨(hB.trans (Chg.nil kb)),(kr o99 kb),(ko p8 kb),qb,fe rfl⟩
 intro k9
 rw [k9] at ho
 refine W_skip <| inBlk_n <| anz <| Wq rfl p2 <| Qa (Ba rfl rfl) <| Qa (Mi rfl) <| fun p3t kc=>?_
 cases ho
 exact ⟨(hB.trans (Chg.nil kc)),(kr r_x1a kc),(ko p8 kc),qb,fe rfl⟩
 intro k8
 rw [k8] at ho
 refine W_exit <| andThen_x <| ?_
 cases ho
 exact ⟨rfl,⟨(hB.trans (Chg.nil ql)),(kr r_x1a ql),(ko p8 ql),qb,fe rfl⟩⟩
 rintro ⟨s2_59,s2_b_x1a_0⟩ _ p0l ⟨hB,r_x1a,p8,qb,F,rfl⟩ ho
 dsimp only at ho
 refine inBlk_n <| anz <| Wq rfl (cr [] p0l) <| Qa (Ba rfl rfl) <| Qa (Mi rfl) <| fun p3u np=>?_
 cases ho
 exact ⟨(hB.trans (Chg.nil np)),(kr r_x1a np),fe rfl⟩
 intro q9
 rw [q9] at ho
 refine W_exit <| andThen_x <| ?_
 cases ho
 exact ⟨rfl,⟨(hB.trans (Chg.nil qk)),(kr r_x1a qk),fe rfl⟩⟩
 rintro ⟨s1_38,s1_b_x1a_0⟩ _ p0m ⟨hB,r_x1a,F,rfl⟩ ho
 dsimp only at ho
 refine anz <| wq <| Wq rfl (cr [] p0m) <| Qa (Mp rfl) <| Qa (Nk rfl) <| Qa (F0 fa144_0 rfl) <| Qa (Lb na141 (At.keep a_x0 hB n_x0) rfl rfl) <| Qa (Nk rfl) <| Qa (Fp fa151_1 rfl) <| Qa (La na149 (At.keep a_x0_Classifier hB n_x0_Classifier) rfl rfl) <| Qa (Ln sl149 (STy.keep _ z1f hB n_h_x0_Classifier_Sieves) rfl) <| Qa (Mi rfl) <| fun p3v nq=>anz <| Wf (S1:=Int×Bool) (fun s r w'=>match s with | (s3_101,s3_b_x1a_0)=>Chg [b_x1a] w w'∧Row w' b_x1a [.bool (s3_b_x1a_0)] 4∧∃ F,r=updL F [(0,.pointer (some (p_x0))),(1,.func (.func 208) #[] #[.pointer (some (⟨b_x1a,0,none⟩)),.pointer (some (p_x1b))]),(99,z1e),(100,.int .i64 ((x0.Classifier.Sieves.length:Int))),(101,.int .i64 (s3_101))]) (impl_coverage_follows_isTop_T b_x1a w) ho ⟨(hB.trans (Chg.nil nq)),(kr r_x1a nq),fe rfl⟩ ?_ ?_
 rintro ⟨s3_101,s3_b_x1a_0⟩ _ p0n ⟨hB,r_x1a,F,rfl⟩ o ho
 replace ho:impl_coverage_follows_isTop_L3 x0 s3_101 s3_b_x1a_0=some o:=ho
 unfold impl_coverage_follows_isTop_L3 at ho
 refine wq <| Wq rfl (cr [] p0n) <| Qa (Bl rfl rfl) <| fun p3w kd=>anz <| wq <| W_cond (b:=decide (s3_101 < (x0.Classifier.Sieves.length:Int))) rfl ?_ ?_
 intro ke
 rw [ke] at ho
 refine W_skip <| anz <| wq <| W_block <| wq <| Wq rfl kd <| Qa (Mi rfl) <| ?_
 obtain ⟨e115,hx116e,ho⟩:=bs ho
 have hx116:=idx_some hx116e
 refine Qa (Ix sl149 (STy.keep _ z1f hB n_h_x0_Classifier_Sieves) hx116 rfl rfl rfl) <| ?_
 obtain ⟨u117,fu118,hu119,qt,hs121⟩:=one_getP rfl z1f hB n_h_x0_Classifier_Sieves hx116.1 hx116.2
 have n_hr120:Dis fu118 [b_x1a]:=fun b hb=>n_h_x0_Classifier_Sieves b (hs121 b hb)
 refine Qa (Ld na118 hu119 rfl) <| Qa (Ai rfl) <| Qa (Av u117 rfl) <| fun p0o pp=>anz <| wq <| Wq rfl pp <| Qa (Mv u117 rfl) <| Qa (Ln sl118 (STy.keep _ qt hB n_hr120) rfl) <| Qa (Mi rfl) <| fun p3x nr=>anz <| Wf (S1:=Int×Bool) (fun s r w'=>match s with | (s4_108,s4_b_x1a_0)=>Chg [b_x1a] w w'∧Row w' b_x1a [.bool (s4_b_x1a_0)] 4∧∃ F,r=updL F [(0,.pointer (some (p_x0))),(1,.func (.func 208) #[] #[.pointer (some (⟨b_x1a,0,none⟩)),.pointer (some (p_x1b))]),(9,.int .i64 (s3_101)),(10,u117),(99,z1e),(100,.int .i64 ((x0.Classifier.Sieves.length:Int))),(101,.int .i64 (s3_101)),(107,.int .i64 ((e115.length:Int))),(108,.int .i64 (s4_108))]) (impl_coverage_follows_isTop_T b_x1a w) ho ⟨(hB.trans (Chg.nil nr)),(kr r_x1a nr),fe rfl⟩ ?_ ?_
 rintro ⟨s4_108,s4_b_x1a_0⟩ _ p0p ⟨hB,r_x1a,F,rfl⟩ o ho
 replace ho:impl_coverage_follows_isTop_L4 x0 s3_101 e115 s4_108 s4_b_x1a_0=some o:=ho
 unfold impl_coverage_follows_isTop_L4 at ho
 refine wq <| Wq rfl (cr [] p0p) <| Qa (Bl rfl rfl) <| fun p3y kf=>anz <| wq <| W_cond (b:=decide (s4_108 < (e115.length:Int))) rfl ?_ ?_
 intro kg
 rw [kg] at ho
 refine W_skip <| anz <| wq <| W_block <| wq <| Wq rfl kf <| Qa (Mi rfl) <| Qa (Ai rfl) <| fun p3z qc=>anz <| wq <| W_region rfl <| Wb (Mp rfl) <| Wb (Nk rfl) <| Wb (Fp fa144_2 rfl) <| Wa qc (La na97 (At.keep a_x0 hB n_x0) rfl rfl) <| ?_
 refine Wb (Mi rfl) <| ?_
 obtain ⟨e132,hx133e,ho⟩:=bs ho
 have hx133:=idx_some hx133e
 refine Wa qc (Ix sl97 (STy.keep _ zj hB n_h_x0_Covers) hx133 rfl rfl rfl) <| ?_
 obtain ⟨u134,fu135,hu136,p0q,hs138⟩:=one_getP rfl zj hB n_h_x0_Covers hx133.1 hx133.2
 have n_hr137:Dis fu135 [b_x1a]:=fun b hb=>n_h_x0_Covers b (hs138 b hb)
 refine Wa qc (Ld na138 hu136 rfl) <| ?_
 obtain ⟨y139,p0r,ho⟩:=bs ho
 refine WL.call rfl (op_callF Tryz.func210 rfl rfl) (slices_Clone___bool_bool__calls (STy.keep _ p0q (hB.trans (Chg.nil qc)) n_hr137) p0r) <| ?_
 rintro _ kh ⟨v143,ns,rfl,pa,pd⟩
 refine ⟨_,rfl,?_⟩
 have p0s:=dl (ofr pd) (one_lt (Row.lt (kr r_x1a qc)))
 replace pd:=OE.low (G:=[b_x1a]) pd (hB.trans (Chg.nil qc)).size
 have nt:=qc.trans pa
 replace r_x1a:=kr r_x1a nt
 replace hB:=(hB.trans (Chg.nil nt))
 refine Wb (Ln sl138 ((Le.own (Le.refl _) 4).le pd.1) rfl) <| Wb (Mi rfl) <| anz <| Wf (S1:=Int×Bool) (fun s r w'=>match s with | (s5_120,s5_b_x1a_0)=>Chg [b_x1a] w w'∧Row w' b_x1a [.bool (s5_b_x1a_0)] 4∧OE [b_x1a] w.heap.size w' (sOwn 4 sBool) [v143] (y139) ns∧Dis [b_x1a] ns∧∃ F,r=updL F [(0,.pointer (some (p_x0))),(1,.func (.func 208) #[] #[.pointer (some (⟨b_x1a,0,none⟩)),.pointer (some (p_x1b))]),(9,.int .i64 (s3_101)),(10,u117),(11,.int .i64 (s4_108)),(99,z1e),(100,.int .i64 ((x0.Classifier.Sieves.length:Int))),(101,.int .i64 (s3_101)),(107,.int .i64 ((e115.length:Int))),(108,.int .i64 (s4_108)),(118,v143),(119,.int .i64 ((y139.length:Int))),(120,.int .i64 (s5_120))]) (impl_coverage_follows_isTop_T b_x1a w) ho ⟨hB,r_x1a,pd,((p0s).symm),fe rfl⟩ ?_ ?_
 rintro ⟨s5_120,s5_b_x1a_0⟩ _ p0t ⟨hB,r_x1a,pd,qu,F,rfl⟩ o ho
 replace ho:impl_coverage_follows_isTop_L5 x0 s3_101 e115 s4_108 y139 s5_120 s5_b_x1a_0=some o:=ho
 unfold impl_coverage_follows_isTop_L5 at ho
 refine wq <| Wq rfl (cr [] p0t) <| Qa (Bl rfl rfl) <| fun p0u q2=>anz <| wq <| W_cond (b:=decide (s5_120 < (y139.length:Int))) rfl ?_ ?_
 intro qd
 rw [qd] at ho
 refine W_skip <| anz <| wq <| W_block <| wq <| Wq rfl q2 <| Qa (Mi rfl) <| ?_
 obtain ⟨e153,hx154e,ho⟩:=bs ho
 have hx154:=idx_some hx154e
 refine Qa (Ix sl138 ((Le.own (Le.refl _) 4).le pd.1) hx154 rfl rfl rfl) <| Qa (Eb na4 ((Le.own (Le.refl _) 4).le pd.1) hx154 rfl) <| Qa (Ai rfl) <| Qa (Ab rfl) <| fun nu ki=>anz <| wq <| Wqd rfl (by kernel_rfl) ki <| ?_
 obtain ⟨g157,hm158,ho⟩:=bs ho
 refine QL.meet (fun r=>∃ F,r=updL F [(0,.pointer (some (p_x0))),(1,.func (.func 208) #[] #[.pointer (some (⟨b_x1a,0,none⟩)),.pointer (some (p_x1b))]),(9,.int .i64 (s3_101)),(10,u117),(11,.int .i64 (s4_108)),(99,z1e),(100,.int .i64 ((x0.Classifier.Sieves.length:Int))),(101,.int .i64 (s3_101)),(107,.int .i64 ((e115.length:Int))),(108,.int .i64 (s4_108)),(118,v143),(119,.int .i64 ((y139.length:Int))),(120,.int .i64 (s5_120)),(150,.bool (g157))]) ?_ ?_
 skip
 refine Qa (Mb rfl) <| Qa (Mb rfl) <| ?_
 rcases Bool.eq_false_or_eq_true e153 with p3 | p3
 rw [p3] at hm158
 refine Qg rfl p3 (Mp rfl) <| Qg rfl p3 (Nk rfl) <| Qg rfl p3 (Fp fa144_2 rfl) <| Qg rfl p3 (La na97 (At.keep a_x0 hB n_x0) rfl rfl) <| Qg rfl p3 (Mi rfl) <| ?_
 obtain ⟨e160,hx161e,hm158⟩:=bs hm158
 have hx161:=idx_some hx161e
 refine Qg rfl p3 (Ix sl97 (STy.keep _ zj hB n_h_x0_Covers) hx161 rfl rfl rfl) <| ?_
 obtain ⟨u162,fu163,hu164,nv,hs166⟩:=one_getP rfl zj hB n_h_x0_Covers hx161.1 hx161.2
 have n_hr165:Dis fu163 [b_x1a]:=fun b hb=>n_h_x0_Covers b (hs166 b hb)
 refine Qg rfl p3 (Ld na138 hu164 rfl) <| Qg rfl p3 (Mi rfl) <| ?_
 obtain ⟨e167,hx168e,hm158⟩:=bs hm158
 have hx168:=idx_some hx168e
 refine Qg rfl p3 (Ix sl138 (STy.keep _ nv hB n_hr165) hx168 rfl rfl rfl) <| Qg rfl p3 (Eb na4 (STy.keep _ nv hB n_hr165) hx168 rfl) <| Qg rfl p3 (Nt rfl) <| Qa (PTb rfl p3 rfl) <| Qa (Mb rfl) <| ?_
 rcases Bool.eq_false_or_eq_true (!(e167)) with p5 | p5
 rw [p5] at hm158
 refine Qg rfl p5 (Mp rfl) <| Qg rfl p5 (Mv u117 rfl) <| Qg rfl p5 (Mi rfl) <| ?_
 obtain ⟨e170,hx171e,hm158⟩:=bs hm158
 have hx171:=idx_some hx171e
 refine Qg rfl p5 (Ix sl118 (STy.keep _ qt hB n_hr120) hx171 rfl rfl rfl) <| ?_
 obtain ⟨u172,fu173,hu174,p0v,hs176⟩:=one_getP rfl qt hB n_hr120 hx171.1 hx171.2
 have n_hr175:Dis fu173 [b_x1a]:=fun b hb=>n_hr120 b (hs176 b hb)
 refine Qg rfl p5 (Ld na114 hu174 rfl) <| Qg rfl p5 (Mv u117 rfl) <| Qg rfl p5 (Mi rfl) <| ?_
 obtain ⟨e177,hx178e,hm158⟩:=bs hm158
 have hx178:=idx_some hx178e
 refine Qg rfl p5 (Ix sl118 (STy.keep _ qt hB n_hr120) hx178 rfl rfl rfl) <| ?_
 obtain ⟨u179,fu180,hu181,p0w,hs183⟩:=one_getP rfl qt hB n_hr120 hx178.1 hx178.2
 have n_hr182:Dis fu180 [b_x1a]:=fun b hb=>n_hr120 b (hs183 b hb)
 refine Qg rfl p5 (Ld na114 hu181 rfl) <| ?_
 obtain ⟨y184,p0x,hm158⟩:=bs hm158
 refine Qcg rfl p5 Tryz.func211 rfl rfl (fun _ hC=>impl_coverage_locally_calls (STy.keep _ z1m (hB.trans (Chg.nil hC)) n_h_x0_Classifier_Sets_Shape_From) (STy.keep _ z1n (hB.trans (Chg.nil hC)) n_h_x0_Classifier_Sets_Shape_To) (STy.keep _ z1o (hB.trans (Chg.nil hC)) n_h_x0_Classifier_Sets_Shape_Identity) (STy.keep _ z1p (hB.trans (Chg.nil hC)) n_h_x0_Classifier_Sets_Shape_Composites) (STy.keep _ z1q (hB.trans (Chg.nil hC)) n_h_x0_Classifier_Sets_Sizes) (STy.keep _ z1g (hB.trans (Chg.nil hC)) n_h_x0_Classifier_Sets_Actions) (STy.keep _ z1f (hB.trans (Chg.nil hC)) n_h_x0_Classifier_Sieves) (At.keep a_x0_Classifier (hB.trans (Chg.nil hC)) n_x0_Classifier) (STy.keep _ z13 (hB.trans (Chg.nil hC)) n_h_x0_C_From) (STy.keep _ z12 (hB.trans (Chg.nil hC)) n_h_x0_C_To) (STy.keep _ z17 (hB.trans (Chg.nil hC)) n_h_x0_C_Identity) (STy.keep _ z18 (hB.trans (Chg.nil hC)) n_h_x0_C_Composites) (At.keep a_x0_C (hB.trans (Chg.nil hC)) n_x0_C) (STy.keep _ zj (hB.trans (Chg.nil hC)) n_h_x0_Covers) (At.keep a_x0_Count (hB.trans (Chg.nil hC)) n_x0_Count) (At.keep a_x0 (hB.trans (Chg.nil hC)) n_x0) (STy.keep _ p0v (hB.trans (Chg.nil hC)) n_hr175) (STy.keep _ p0w (hB.trans (Chg.nil hC)) n_hr182) p0x) <| Qa (PTb rfl p5 rfl) <| ?_
 cases hm158
 exact fe rfl
 rw [p5] at hm158
 refine Sk rfl p5 rfl <| Sk rfl p5 rfl <| Sk rfl p5 rfl <| Sk rfl p5 rfl <| Sk rfl p5 rfl <| Sk rfl p5 rfl <| Sk rfl p5 rfl <| Sk rfl p5 rfl <| Sk rfl p5 rfl <| Sk rfl p5 rfl <| Qa (PFb rfl p5 rfl) <| ?_
 cases hm158
 exact fe rfl
 rw [p3] at hm158
 refine Sk rfl p3 rfl <| Sk rfl p3 rfl <| Sk rfl p3 rfl <| Sk rfl p3 rfl <| Sk rfl p3 rfl <| Sk rfl p3 rfl <| Sk rfl p3 rfl <| Sk rfl p3 rfl <| Sk rfl p3 rfl <| Sk rfl p3 rfl <| Sk rfl p3 rfl <| Qa (PFb rfl p3 rfl) <| Qa (Mb rfl) <| Sk rfl rfl rfl <| Sk rfl rfl rfl <| Sk rfl rfl rfl <| ?_
 refine Sk rfl rfl rfl <| Sk rfl rfl rfl <| Sk rfl rfl rfl <| Sk rfl rfl rfl <| Sk rfl rfl rfl <| Sk rfl rfl rfl <| Sk rfl rfl rfl <| Qa (PFb rfl rfl rfl) <| ?_
 cases hm158
 exact fe rfl
 rintro _ ⟨F,rfl⟩
 refine fun p0y nw=>anz <| W_cond (b:=g157) rfl ?_ ?_
 intro kj
 rw [kj] at ho
 refine W_region rfl <| Wb (Mv (.func (.func 208) #[] #[.pointer (some (⟨b_x1a,0,none⟩)),.pointer (some p_x1b)]) rfl) <| Wb (Mi rfl) <| Wb (Mi rfl) <| ?_
 have kk:=nw.trans (cr [] p0y)
 replace r_x1a:=kr r_x1a kk
 replace pd:=ko pd kk
 replace hB:=(hB.trans (Chg.nil kk))
 obtain ⟨y190,p0z,ho⟩:=bs ho
 refine WL.call rfl (op_callT (fst:=[]) (cap:=[.pointer (some (⟨b_x1a,0,none⟩)),.pointer (some (p_x1b))]) rfl Tryz.func208 rfl rfl) (impl_coverage_isTopology_1_calls r_x1a (STy.keep _ z1m hB n_h_x0_Classifier_Sets_Shape_From) (STy.keep _ z1n hB n_h_x0_Classifier_Sets_Shape_To) (STy.keep _ z1o hB n_h_x0_Classifier_Sets_Shape_Identity) (STy.keep _ z1p hB n_h_x0_Classifier_Sets_Shape_Composites) (STy.keep _ z1q hB n_h_x0_Classifier_Sets_Sizes) (STy.keep _ z1g hB n_h_x0_Classifier_Sets_Actions) (STy.keep _ z1f hB n_h_x0_Classifier_Sieves) (At.keep a_x0_Classifier hB n_x0_Classifier) (STy.keep _ z13 hB n_h_x0_C_From) (STy.keep _ z12 hB n_h_x0_C_To) (STy.keep _ z17 hB n_h_x0_C_Identity) (STy.keep _ z18 hB n_h_x0_C_Composites) (At.keep a_x0_C hB n_x0_C) (STy.keep _ zj hB n_h_x0_Covers) (At.keep a_x0_Count hB n_x0_Count) (At.keep a_x0 hB n_x0) (At.keep a_x1b hB n_x1b) (dis_parF z1m n_h_x0_Classifier_Sets_Shape_From (fun i hi=>.inl (by simp [List.mem_singleton.1 hi]))) (dis_parF z1n n_h_x0_Classifier_Sets_Shape_To (fun i hi=>.inl (by simp [List.mem_singleton.1 hi]))) (dis_parF z1o n_h_x0_Classifier_Sets_Shape_Identity (fun i hi=>.inl (by simp [List.mem_singleton.1 hi]))) (dis_parF z1p n_h_x0_Classifier_Sets_Shape_Composites (fun i hi=>.inl (by simp [List.mem_singleton.1 hi]))) (dis_parF z1q n_h_x0_Classifier_Sets_Sizes (fun i hi=>.inl (by simp [List.mem_singleton.1 hi]))) (dis_parF z1g n_h_x0_Classifier_Sets_Actions (fun i hi=>.inl (by simp [List.mem_singleton.1 hi]))) (dis_parF z1f n_h_x0_Classifier_Sieves (fun i hi=>.inl (by simp [List.mem_singleton.1 hi]))) (pat_out a_x0_Classifier n_x0_Classifier (fun i hi=>.inl (by simp [List.mem_singleton.1 hi]))) (dis_parF z13 n_h_x0_C_From (fun i hi=>.inl (by simp [List.mem_singleton.1 hi]))) (dis_parF z12 n_h_x0_C_To (fun i hi=>.inl (by simp [List.mem_singleton.1 hi]))) (dis_parF z17 n_h_x0_C_Identity (fun i hi=>.inl (by simp [List.mem_singleton.1 hi]))) (dis_parF z18 n_h_x0_C_Composites (fun i hi=>.inl (by simp [List.mem_singleton.1 hi]))) (pat_out a_x0_C n_x0_C (fun i hi=>.inl (by simp [List.mem_singleton.1 hi]))) (dis_parF zj n_h_x0_Covers (fun i hi=>.inl (by simp [List.mem_singleton.1 hi]))) (pat_out a_x0_Count n_x0_Count (fun i hi=>.inl (by simp [List.mem_singleton.1 hi]))) (pat_out a_x0 n_x0 (fun i hi=>.inl (by simp [List.mem_singleton.1 hi]))) (pat_out a_x1b n_x1b (fun i hi=>.inl (by simp [List.mem_singleton.1 hi]))) p0z) ?_
 rintro _ p10 ⟨rfl,nx,p11⟩
 refine ⟨_,rfl,?_⟩
 replace pd:=okp pd nx (Dis.symm qu)
 replace hB:=hB.then nx (fun i hi=>.inl (by simp [List.mem_singleton.1 hi]))
 refine inBlk_n <| anz <| Wq rfl (cr [] p10) <| Qa (Ba rfl rfl) <| Qa (Mi rfl) <| fun p40 kl=>?_
 cases ho
 exact ⟨(hB.trans (Chg.nil kl)),(kr p11 kl),(ko pd kl),qu,fe rfl⟩
 intro kj
 rw [kj] at ho
 refine W_skip <| inBlk_n <| anz <| Wq rfl nw <| Qa (Ba rfl rfl) <| Qa (Mi rfl) <| fun p41 km=>?_
 cases ho
 exact ⟨(hB.trans (Chg.nil km)),(kr r_x1a km),(ko pd km),qu,fe rfl⟩
 intro qd
 rw [qd] at ho
 refine W_exit <| andThen_x <| ?_
 cases ho
 exact ⟨rfl,⟨(hB.trans (Chg.nil q2)),(kr r_x1a q2),(ko pd q2),qu,fe rfl⟩⟩
 rintro ⟨s5_120,s5_b_x1a_0⟩ _ p12 ⟨hB,r_x1a,pd,qu,F,rfl⟩ ho
 dsimp only at ho
 refine inBlk_n <| anz <| Wq rfl (cr [] p12) <| Qa (Ba rfl rfl) <| Qa (Mi rfl) <| fun p42 ny=>?_
 cases ho
 exact ⟨(hB.trans (Chg.nil ny)),(kr r_x1a ny),fe rfl⟩
 intro kg
 rw [kg] at ho
 refine W_exit <| andThen_x <| ?_
 cases ho
 exact ⟨rfl,⟨(hB.trans (Chg.nil kf)),(kr r_x1a kf),fe rfl⟩⟩
 rintro ⟨s4_108,s4_b_x1a_0⟩ _ p13 ⟨hB,r_x1a,F,rfl⟩ ho
 dsimp only at ho
 refine inBlk_n <| anz <| Wq rfl (cr [] p13) <| Qa (Ba rfl rfl) <| Qa (Mi rfl) <| fun p43 nz=>?_
 cases ho
 exact ⟨(hB.trans (Chg.nil nz)),(kr r_x1a nz),fe rfl⟩
 intro ke
 rw [ke] at ho
 refine W_exit <| andThen_x <| ?_
 cases ho
 exact ⟨rfl,⟨(hB.trans (Chg.nil kd)),(kr r_x1a kd),fe rfl⟩⟩
 rintro ⟨s3_101,s3_b_x1a_0⟩ _ p44 ⟨hB,r_x1a,F,rfl⟩ ho
 dsimp only at ho
 cases ho
 exact ⟨_,res_0 Tryz.results157,rfl,hB,r_x1a⟩

abbrev impl_coverage_isTopology_post (w:World) (x:(Bool)) (e:Ending) (w':World):Prop:=e = .returned (.bool x)∧Chg [] w w'
abbrev impl_coverage_isTopology_T (w:World):=Tm Tryz.prog Tryz.f151 8 (impl_coverage_isTopology_post w)
theorem impl_coverage_isTopology_calls {w:World} {x0:MCoverage} {p_x0:Addr} {p_x0_Classifier:Addr} {z1h:Value} {z1t:List Nat} {z1i:Value} {z1u:List Nat} {z1j:Value} {z1v:List Nat} {z1k:Value} {z1w:List Nat} {z1l:Value} {z1x:List Nat} {z1d:Value} {z1y:List Nat} {z1e:Value} {z20:List Nat} {p_x0_C:Addr} {zy:Value} {z19:List Nat} {zx:Value} {z1a:List Nat} {z10:Value} {z1b:List Nat} {z11:Value} {z1c:List Nat} {zi:Value} {zd:List Nat} {p_x0_Count:Addr} (z1m:(sImm (sInt .i64)).rep w.heap [z1h] x0.Classifier.Sets.Shape.From z1t) (z1n:(sImm (sInt .i64)).rep w.heap [z1i] x0.Classifier.Sets.Shape.To z1u) (z1o:(sImm (sInt .i64)).rep w.heap [z1j] x0.Classifier.Sets.Shape.Identity z1v) (z1p:(sImm (sImm (sInt .i64))).rep w.heap [z1k] x0.Classifier.Sets.Shape.Composites z1w) (z1q:(sImm (sInt .i64)).rep w.heap [z1l] x0.Classifier.Sets.Sizes z1x) (z1g:(sImm (sImm (sInt .i64))).rep w.heap [z1d] x0.Classifier.Sets.Actions z1y) (z1f:(sImm (sImm (sImm (sInt .i64)))).rep w.heap [z1e] x0.Classifier.Sieves z20) (a_x0_Classifier:At w p_x0_Classifier [.int .i64 (x0.Classifier.Sets.Shape.Objects),z1h,z1i,z1j,z1k,z1l,z1d,z1e]) (z13:(sImm (sInt .i64)).rep w.heap [zy] x0.C.From z19) (z12:(sImm (sInt .i64)).rep w.heap [zx] x0.C.To z1a) (z17:(sImm (sInt .i64)).rep w.heap [z10] x0.C.Identity z1b) (z18:(sImm (sImm (sInt .i64))).rep w.heap [z11] x0.C.Composites z1c) (a_x0_C:At w p_x0_C [.int .i64 (x0.C.Objects),zy,zx,z10,z11]) (zj:(sImm (sImm sBool)).rep w.heap [zi] x0.Covers zd) (a_x0_Count:At w p_x0_Count [.int .i64 (x0.Count)]) (a_x0:At w p_x0 [.pointer (some (p_x0_Classifier)),.pointer (some (p_x0_C)),zi,.pointer (some (p_x0_Count))]) {y:(Bool)} (hm:impl_coverage_isTopology x0=some y) :
  Calls Tryz.prog 151 #[.pointer (some (p_x0))] w (impl_coverage_isTopology_post w y):=by
 refine Cm (S:=Unit) Tryz.func151 rfl Tryz.ntmps151 rfl hm fun o ho hB=>?_
 clear hm
 refine wq <| W_region rfl <| WL.box fun b1 wd2 hC3 hr4 hl5=>?_
 replace hr4:Row wd2 b1 [.pointer (some (p_x0))] 102:=hr4
 replace hB:=(hB.trans hC3)
 refine Wb (Ab rfl) <| anz <| wq <| W_region rfl <| WL.alloc info4 zr4 fun b8 wd9 q5 pe ja=>?_
 replace pe:Row wd9 b8 [.bool (false)] 4:=pe
 have pb:w.heap.size≤b8:=Nat.le_trans hB.size ja
 have kn:=dl (onw ja) (one_lt (Row.lt hr4))
 replace hr4:=kr hr4 q5
 replace hB:=(hB.trans q5)
 refine WL.storeRow (j:=0) info4 sz4 pe (Nat.le_of_ble_eq_true rfl) rfl rfl rfl fun kq qe ks=>?_
 replace ks:Row kq b8 [.bool (true)] 4:=ks
 replace hr4:=Row.keep hr4 qe ((kn).symm _ (ms rfl))
 replace hB:=hB.then qe (one_then pb)
 refine anz <| wq <| W_region rfl <| Wb (Lr na102 hr4 rfl rfl) <| WL.val (v:=.func (.func 208) #[] #[.pointer (some (⟨b8,0,none⟩)),.pointer (some (⟨b1,0,none⟩))]) rfl (op_makeFunc (fst:=[]) (cap:=[.tmp 3,.tmp 1])) <| ?_
 obtain ⟨y20,p14,ho⟩:=bs ho
 refine WL.call rfl (op_callF Tryz.func157 rfl rfl) (impl_coverage_follows_isTop_calls (kp _ z1m hB) (kp _ z1n hB) (kp _ z1o hB) (kp _ z1p hB) (kp _ z1q hB) (kp _ z1g hB) (kp _ z1f hB) (At.keep0 a_x0_Classifier hB) (kp _ z13 hB) (kp _ z12 hB) (kp _ z17 hB) (kp _ z18 hB) (At.keep0 a_x0_C hB) (kp _ zj hB) (At.keep0 a_x0_Count hB) (At.keep0 a_x0 hB) ks hr4.at (dis_par (sl _ z1m) (one_then pb)) (dis_par (sl _ z1n) (one_then pb)) (dis_par (sl _ z1o) (one_then pb)) (dis_par (sl _ z1p) (one_then pb)) (dis_par (sl _ z1q) (one_then pb)) (dis_par (sl _ z1g) (one_then pb)) (dis_par (sl _ z1f) (one_then pb)) (pat_out a_x0_Classifier List.not_mem_nil (one_then pb)) (dis_par (sl _ z13) (one_then pb)) (dis_par (sl _ z12) (one_then pb)) (dis_par (sl _ z17) (one_then pb)) (dis_par (sl _ z18) (one_then pb)) (pat_out a_x0_C List.not_mem_nil (one_then pb)) (dis_par (sl _ zj) (one_then pb)) (pat_out a_x0_Count List.not_mem_nil (one_then pb)) (pat_out a_x0 List.not_mem_nil (one_then pb)) (fun hm=>kn _ hm (ms rfl)) p14) <| ?_
 rintro _ p15 ⟨rfl,g0,qn⟩
 refine ⟨_,rfl,?_⟩
 replace hr4:=Row.keep hr4 g0 ((Dis.symm kn) _ (ms rfl))
 replace hB:=hB.then g0 (one_then pb)
 refine anz <| wq <| Wq rfl (cr [] p15) <| Qa (Lr na4 qn rfl rfl) <| Qa (Ab rfl) <| fun g1 qw=>anz <| ?_
 cases ho
 exact W_ret ⟨_,res_1 Tryz.results151,rfl,(hB.trans qw)⟩

abbrev impl_limitCode_post (p_x0:Addr) (w:World) (x:((Option MCoverage)×Int)) (e:Ending) (w':World):Prop:=∃ (v0:Value),e = .returned (.tuple #[v0,.int .i64 x.2])∧Chg [] w w'∧(match x.1 with | none=>(v0 = .pointer none) | some m0=>∃ (b101:Nat) (b102:Nat) (v101:Value) (f101:List Nat) (v102:Value) (f102:List Nat) (v103:Value) (f103:List Nat) (v104:Value) (f104:List Nat) (v105:Value) (f105:List Nat) (v106:Value) (f106:List Nat) (v107:Value) (f107:List Nat) (v108:Value) (f108:List Nat) (b103:Nat),v0 = .pointer (some (⟨b101,0,none⟩))∧OE [] w.heap.size w' (sOwn 2 (sInt .i64)) [v101] m0.Classifier.Sets.Shape.From f101∧OE [] w.heap.size w' (sOwn 2 (sInt .i64)) [v102] m0.Classifier.Sets.Shape.To f102∧OE [] w.heap.size w' (sOwn 2 (sInt .i64)) [v103] m0.Classifier.Sets.Shape.Identity f103∧OE [] w.heap.size w' (sOwn 22 (sOwn 2 (sInt .i64))) [v104] m0.Classifier.Sets.Shape.Composites f104∧OE [] w.heap.size w' (sOwn 2 (sInt .i64)) [v105] m0.Classifier.Sets.Sizes f105∧OE [] w.heap.size w' (sOwn 22 (sOwn 2 (sInt .i64))) [v106] m0.Classifier.Sets.Actions f106∧OE [] w.heap.size w' (sOwn 118 (sOwn 114 (sOwn 2 (sInt .i64)))) [v107] m0.Classifier.Sieves f107∧Row w' b102 [.int .i64 (m0.Classifier.Sets.Shape.Objects),v101,v102,v103,v104,v105,v106,v107] 151∧w.heap.size≤b102∧OE [] w.heap.size w' (sOwn 138 (sOwn 4 sBool)) [v108] m0.Covers f108∧Row w' b103 [.int .i64 (m0.Count)] 197∧w.heap.size≤b103∧Row w' b101 [.pointer (some (⟨b102,0,none⟩)),.pointer (some ((p_x0.add 0))),v108,.pointer (some (⟨b103,0,none⟩))] 144∧w.heap.size≤b101∧Dis f101 f102∧Dis f101 f103∧Dis f101 f104∧Dis f101 f105∧Dis f101 f106∧Dis f101 f107∧Dis f101 [b102]∧Dis f101 f108∧Dis f101 [b103]∧Dis f101 [b101]∧Dis f102 f103∧Dis f102 f104∧Dis f102 f105∧Dis f102 f106∧Dis f102 f107∧Dis f102 [b102]∧Dis f102 f108∧Dis f102 [b103]∧Dis f102 [b101]∧Dis f103 f104∧Dis f103 f105∧Dis f103 f106∧Dis f103 f107∧Dis f103 [b102]∧Dis f103 f108∧Dis f103 [b103]∧Dis f103 [b101]∧Dis f104 f105∧Dis f104 f106∧Dis f104 f107∧Dis f104 [b102]∧Dis f104 f108∧Dis f104 [b103]∧Dis f104 [b101]∧Dis f105 f106∧Dis f105 f107∧Dis f105 [b102]∧Dis f105 f108∧Dis f105 [b103]∧Dis f105 [b101]∧Dis f106 f107∧Dis f106 [b102]∧Dis f106 f108∧Dis f106 [b103]∧Dis f106 [b101]∧Dis f107 [b102]∧Dis f107 f108∧Dis f107 [b103]∧Dis f107 [b101]∧Dis [b102] f108∧Dis [b102] [b103]∧Dis [b102] [b101]∧Dis f108 [b103]∧Dis f108 [b101]∧Dis [b103] [b101])
abbrev impl_limitCode_T (p_x0:Addr) (w:World):=Tm Tryz.prog Tryz.f83 17 (impl_limitCode_post p_x0 w)
theorem impl_limitCode_calls {w:World} {x0:MTopology} {p_x0:Addr} {zl:Value} {zo:List Nat} {zk:Value} {zp:List Nat} {zm:Value} {zq:List Nat} {zn:Value} {zr:List Nat} {zi:Value} {zd:List Nat} (zu:(sImm (sInt .i64)).rep w.heap [zl] x0.Shape.From zo) (zt:(sImm (sInt .i64)).rep w.heap [zk] x0.Shape.To zp) (zv:(sImm (sInt .i64)).rep w.heap [zm] x0.Shape.Identity zq) (zw:(sImm (sImm (sInt .i64))).rep w.heap [zn] x0.Shape.Composites zr) (zj:(sImm (sImm (sImm (sInt .i64)))).rep w.heap [zi] x0.Covers zd) (a_x0:At w p_x0 [.int .i64 (x0.Shape.Objects),zl,zk,zm,zn,zi]) {y:((Option MCoverage)×Int)} (hm:impl_limitCode x0=some y) :
  Calls Tryz.prog 83 #[.pointer (some (p_x0))] w (impl_limitCode_post p_x0 w y):=by
 refine Cm (S:=Unit) Tryz.func83 rfl Tryz.ntmps83 rfl hm fun o ho hB=>?_
 clear hm
 refine wq <| Wq rfl (cr [] w) <| Qa (Av (.pointer none) rfl) <| Qa (Ai rfl) <| fun wd1 hC2=>anz <| wq <| W_region rfl <| Wb (Mp rfl) <| ?_
 obtain ⟨y3,hy4,ho⟩:=bs ho
 refine WL.call rfl (op_callF Tryz.func93 rfl rfl) (impl_Topology_coverage_calls (kp _ zu (hB.trans hC2)) (kp _ zt (hB.trans hC2)) (kp _ zv (hB.trans hC2)) (kp _ zw (hB.trans hC2)) (kp _ zj (hB.trans hC2)) (At.keep0 a_x0 (hB.trans hC2)) hy4) <| ?_
 rintro _ wd5 ⟨v8,rfl,hC6,hp7⟩
 refine ⟨_,rfl,?_⟩
 have sb9:At w (p_x0.add 0) [.int .i64 (x0.Shape.Objects),zl,zk,zm,zn]:=At.sub a_x0 0 5
 rcases hq10:y3.1 with _ | m11
 rw [hq10] at hp7 ho
 try dsimp only at hp7
 try dsimp only at ho
 obtain rfl:=hp7
 have p16:=hC2.trans hC6
 replace hB:=(hB.trans p16)
 refine Wb (Mt rfl) <| Wb (Ex (.pointer none) rfl rfl) <| Wb (Exb rfl rfl) <| Wb (Av (.pointer none) rfl) <| Wb (Ab rfl) <| anz <| wq <| wq <| Wq rfl (cr [] wd5) <| Qa (Mb rfl) <| Qa (Nt rfl) <| fun p45 g2=>anz <| W_cond (b:=!(y3.2)) rfl ?_ ?_
 intro kt
 rw [kt] at ho
 refine wq <| Wq rfl g2 <| Qa (Av (.pointer none) rfl) <| Qa (Ai rfl) <| fun kq qe=>anz <| ?_
 cases ho
 exact W_ret ⟨_,res_2 Tryz.results83,_,rfl,(hB.trans qe),rfl⟩
 intro kt
 rw [kt] at ho
 refine W_skip <| anz <| wq <| wq <| Wq rfl g2 <| Qa (Mv (.pointer none) rfl) <| ?_
 cases ho
 rw [hq10] at hp7 ho
 try dsimp only at hp7
 try dsimp only at ho
 obtain ⟨g3,b20,v22,f23,v25,f26,v28,f29,v31,f32,v34,f35,v37,f38,v40,f41,v44,f45,b47,rfl,qn,jb,jc,jd,qj,je,jf,g4,p19,jg,g5,p1a,qo,p1b,d51,d52,d53,d54,d55,d56,d57,d58,d59,jh,d61,d62,d63,d64,k7,ji,qb,d68,d69,d70,jj,d72,d73,d74,jk,ku,d77,jl,d79,jm,jn,d82,d83,d84,d85,kv,kw,d88,d89,d90,jo,d92,d93,jp,d95,d96,jq,d98,d99,jr,p2a,p2b,js,p2c,p2d⟩:=hp7
 replace qn:=OE.low (G:=[]) qn (hB.trans hC2).size
 replace jb:=OE.low (G:=[]) jb (hB.trans hC2).size
 replace jc:=OE.low (G:=[]) jc (hB.trans hC2).size
 replace jd:=OE.low (G:=[]) jd (hB.trans hC2).size
 replace qj:=OE.low (G:=[]) qj (hB.trans hC2).size
 replace je:=OE.low (G:=[]) je (hB.trans hC2).size
 replace jf:=OE.low (G:=[]) jf (hB.trans hC2).size
 have p2e:w.heap.size≤b20:=Nat.le_trans (hB.trans hC2).size p19
 replace jg:=OE.low (G:=[]) jg (hB.trans hC2).size
 have jt:w.heap.size≤b47:=Nat.le_trans (hB.trans hC2).size p1a
 have p2f:w.heap.size≤g3:=Nat.le_trans (hB.trans hC2).size p1b
 have p2g:=hC2.trans hC6
 replace hB:=(hB.trans p2g)
 refine Wb (Mt rfl) <| Wb (Ex (.pointer (some (⟨g3,0,none⟩))) rfl rfl) <| Wb (Exb rfl rfl) <| Wb (Ap rfl) <| Wb (Ab rfl) <| anz <| wq <| wq <| Wq rfl (cr [] wd5) <| Qa (Mb rfl) <| Qa (Nt rfl) <| fun p4e g6=>anz <| W_cond (b:=!(y3.2)) rfl ?_ ?_
 intro kx
 rw [kx] at ho
 refine wq <| Wq rfl g6 <| Qa (Av (.pointer none) rfl) <| Qa (Ai rfl) <| fun p4f p2h=>anz <| ?_
 cases ho
 exact W_ret ⟨_,res_2 Tryz.results83,_,rfl,(hB.trans p2h),rfl⟩
 intro kx
 rw [kx] at ho
 refine W_skip <| anz <| wq <| wq <| Wq rfl g6 <| Qa (Mp rfl) <| ?_
 obtain ⟨y115,p2i,ho⟩:=bs ho
 refine Qc Tryz.func151 rfl rfl (fun _ hC=>impl_coverage_isTopology_calls (x0:=(MCoverage.mk m11.Classifier x0.Shape m11.Covers m11.Count)) ((Le.own (Le.refl _) 2).le (kp _ qn.1 hC)) ((Le.own (Le.refl _) 2).le (kp _ jb.1 hC)) ((Le.own (Le.refl _) 2).le (kp _ jc.1 hC)) ((Le.own (Le.own (Le.refl _) 2) 22).le (kp _ jd.1 hC)) ((Le.own (Le.refl _) 2).le (kp _ qj.1 hC)) ((Le.own (Le.own (Le.refl _) 2) 22).le (kp _ je.1 hC)) ((Le.own (Le.own (Le.own (Le.refl _) 2) 114) 118).le (kp _ jf.1 hC)) (kr g4 hC).at (kp _ zu (hB.trans hC)) (kp _ zt (hB.trans hC)) (kp _ zv (hB.trans hC)) (kp _ zw (hB.trans hC)) (At.keep0 sb9 (hB.trans hC)) ((Le.own (Le.own (Le.refl _) 4) 138).le (kp _ jg.1 hC)) (kr g5 hC).at (kr qo hC).at p2i) <| Qa (Nt rfl) <| fun p4g g7=>anz <| W_cond (b:=!(y115)) rfl ?_ ?_
 intro ky
 rw [ky] at ho
 refine wq <| Wq rfl g7 <| Qa (Av (.pointer none) rfl) <| Qa (Ai rfl) <| fun g9 pc=>anz <| ?_
 cases ho
 exact W_ret ⟨_,res_2 Tryz.results83,_,rfl,(hB.trans pc),rfl⟩
 intro ky
 rw [ky] at ho
 refine W_skip <| anz <| wq <| Wq rfl g7 <| Qa (Mp rfl) <| Qa (Ap rfl) <| Qa (Ai rfl) <| fun p0o pp=>anz <| ?_
 cases ho
 exact W_ret ⟨_,res_2 Tryz.results83,_,rfl,(hB.trans pp),_,_,_,_,_,_,_,_,_,_,_,_,_,_,_,_,_,_,_,rfl,(ko qn pp),(ko jb pp),(ko jc pp),(ko jd pp),(ko qj pp),(ko je pp),(ko jf pp),(kr g4 pp),p2e,(ko jg pp),(kr g5 pp),jt,(kr qo pp),p2f,d51,d52,d53,d54,d55,d56,d57,d58,d59,jh,d61,d62,d63,d64,k7,ji,qb,d68,d69,d70,jj,d72,d73,d74,jk,ku,d77,jl,d79,jm,jn,d82,d83,d84,d85,kv,kw,d88,d89,d90,jo,d92,d93,jp,d95,d96,jq,d98,d99,jr,p2a,p2b,js,p2c,p2d⟩

abbrev laws_eqInt64S_post (w:World) (x:(Bool)) (e:Ending) (w':World):Prop:=e = .returned (.bool x)∧Chg [] w w'
abbrev laws_eqInt64S_T (w:World):=Tm Tryz.prog Tryz.f23 26 (laws_eqInt64S_post w)
theorem laws_eqInt64S_calls {w:World} {x0:(List Int)} {v_x0:Value} {f_x0:List Nat} {x1:(List Int)} {v_x1:Value} {f_x1:List Nat} (h_x0:(sImm (sInt .i64)).rep w.heap [v_x0] x0 f_x0) (h_x1:(sImm (sInt .i64)).rep w.heap [v_x1] x1 f_x1) {y:(Bool)} (hm:laws_eqInt64S x0 x1=some y) :
  Calls Tryz.prog 23 #[v_x0,v_x1] w (laws_eqInt64S_post w y):=by
 refine Cm (S:=Unit) Tryz.func23 rfl Tryz.ntmps23 rfl hm fun o ho hB=>?_
 clear hm
 refine wq <| Wq rfl (cr [] w) <| Qa (Ab rfl) <| fun wd1 hC2=>anz <| wq <| wq <| Wq rfl hC2 <| Qa (Mv v_x0 rfl) <| Qa (Ln sl22 (kB h_x0 hB) rfl) <| Qa (Mv v_x1 rfl) <| Qa (Ln sl22 (kB h_x1 hB) rfl) <| Qa (Bn rfl rfl) <| fun wd3 hC4=>anz <| W_cond (b:=((x0.length:Int)) != ((x1.length:Int))) rfl ?_ ?_
 intro hb5
 rw [hb5] at ho
 refine wq <| Wq rfl hC4 <| Qa (Ab rfl) <| fun wd6 hC7=>anz <| ?_
 cases ho
 exact W_ret ⟨_,res_1 Tryz.results23,rfl,(hB.trans hC7)⟩
 intro hb5
 rw [hb5] at ho
 refine W_skip <| anz <| wq <| wq <| Wq rfl hC4 <| Qa (Ai rfl) <| fun wd8 hC9=>anz <| Wf (S1:=Int) (fun (s0_5:Int) r w'=>Chg [] w w'∧∃ F,r=updL F [(0,v_x0),(1,v_x1),(5,.int .i64 (s0_5))]) (laws_eqInt64S_T w) ho ⟨(hB.trans hC9),fe rfl⟩ ?_ ?_
 rintro s0_5 _ qp ⟨hB,F,rfl⟩ o ho
 replace ho:laws_eqInt64S_L0 x0 x1 s0_5=some o:=ho
 unfold laws_eqInt64S_L0 at ho
 refine wq <| wq <| Wq rfl (cr [] qp) <| Qa (Mi rfl) <| Qa (Mv v_x0 rfl) <| Qa (Ln sl22 (kB h_x0 hB) rfl) <| Qa (Bl rfl rfl) <| fun j5 p0=>anz <| W_cond (b:=decide (s0_5 < (x0.length:Int))) rfl ?_ ?_
 intro pv
 rw [pv] at ho
 refine W_skip <| anz <| wq <| W_block <| wq <| Wqd rfl (by kernel_rfl) p0 <| Qa (Mv v_x0 rfl) <| Qa (Mi rfl) <| ?_
 obtain ⟨e14,hx15e,ho⟩:=bs ho
 have hx15:=idx_some hx15e
 refine Qa (Ix sl22 (kB h_x0 hB) hx15 rfl rfl rfl) <| Qa (Ei na2 (kB h_x0 hB) hx15 rfl) <| Qa (Mv v_x1 rfl) <| Qa (Mi rfl) <| ?_
 obtain ⟨e16,hx17e,ho⟩:=bs ho
 have hx17:=idx_some hx17e
 refine Qa (Ix sl22 (kB h_x1 hB) hx17 rfl rfl rfl) <| Qa (Ei na2 (kB h_x1 hB) hx17 rfl) <| Qa (Bn rfl rfl) <| fun kz qx=>anz <| W_cond (b:=(e14) != (e16)) rfl ?_ ?_
 intro qf
 rw [qf] at ho
 refine wq <| Wq rfl qx <| Qa (Ab rfl) <| fun p2j n0=>anz <| ?_
 cases ho
 exact W_ret ⟨_,res_1 Tryz.results23,rfl,(hB.trans n0)⟩
 intro qf
 rw [qf] at ho
 refine W_skip <| inBlk_n <| anz <| Wq rfl qx <| Qa (Mi rfl) <| Qa (Ba rfl rfl) <| Qa (Ai rfl) <| fun k3 ju=>?_
 cases ho
 exact ⟨(hB.trans ju),fe rfl⟩
 intro pv
 rw [pv] at ho
 refine W_exit <| andThen_x <| ?_
 cases ho
 exact ⟨rfl,⟨(hB.trans p0),fe rfl⟩⟩
 rintro s0_5 _ j7 ⟨hB,F,rfl⟩ ho
 refine anz <| wq <| Wq rfl (cr [] j7) <| Qa (Ab rfl) <| fun g1 qw=>anz <| ?_
 cases ho
 exact W_ret ⟨_,res_1 Tryz.results23,rfl,(hB.trans qw)⟩

abbrev laws_eqInt64SS_post (w:World) (x:(Bool)) (e:Ending) (w':World):Prop:=e = .returned (.bool x)∧Chg [] w w'
abbrev laws_eqInt64SS_T (w:World):=Tm Tryz.prog Tryz.f29 27 (laws_eqInt64SS_post w)
theorem laws_eqInt64SS_calls {w:World} {x0:(List (List Int))} {v_x0:Value} {f_x0:List Nat} {x1:(List (List Int))} {v_x1:Value} {f_x1:List Nat} (h_x0:(sImm (sImm (sInt .i64))).rep w.heap [v_x0] x0 f_x0) (h_x1:(sImm (sImm (sInt .i64))).rep w.heap [v_x1] x1 f_x1) {y:(Bool)} (hm:laws_eqInt64SS x0 x1=some y) :
  Calls Tryz.prog 29 #[v_x0,v_x1] w (laws_eqInt64SS_post w y):=by
 refine Cm (S:=Unit) Tryz.func29 rfl Tryz.ntmps29 rfl hm fun o ho hB=>?_
 clear hm
 refine wq <| Wq rfl (cr [] w) <| Qa (Ab rfl) <| fun wd1 hC2=>anz <| wq <| wq <| Wq rfl hC2 <| Qa (Mv v_x0 rfl) <| Qa (Ln sl23 (kB h_x0 hB) rfl) <| Qa (Mv v_x1 rfl) <| Qa (Ln sl23 (kB h_x1 hB) rfl) <| Qa (Bn rfl rfl) <| fun wd3 hC4=>anz <| W_cond (b:=((x0.length:Int)) != ((x1.length:Int))) rfl ?_ ?_
 intro hb5
 rw [hb5] at ho
 refine wq <| Wq rfl hC4 <| Qa (Ab rfl) <| fun wd6 hC7=>anz <| ?_
 cases ho
 exact W_ret ⟨_,res_1 Tryz.results29,rfl,(hB.trans hC7)⟩
 intro hb5
 rw [hb5] at ho
 refine W_skip <| anz <| wq <| wq <| Wq rfl hC4 <| Qa (Ai rfl) <| fun wd8 hC9=>anz <| Wf (S1:=Int) (fun (s0_5:Int) r w'=>Chg [] w w'∧∃ F,r=updL F [(0,v_x0),(1,v_x1),(5,.int .i64 (s0_5))]) (laws_eqInt64SS_T w) ho ⟨(hB.trans hC9),fe rfl⟩ ?_ ?_
 rintro s0_5 _ qp ⟨hB,F,rfl⟩ o ho
 replace ho:laws_eqInt64SS_L0 x0 x1 s0_5=some o:=ho
 unfold laws_eqInt64SS_L0 at ho
 refine wq <| wq <| Wq rfl (cr [] qp) <| Qa (Mi rfl) <| Qa (Mv v_x0 rfl) <| Qa (Ln sl23 (kB h_x0 hB) rfl) <| Qa (Bl rfl rfl) <| fun j5 p0=>anz <| W_cond (b:=decide (s0_5 < (x0.length:Int))) rfl ?_ ?_
 intro pv
 rw [pv] at ho
 refine W_skip <| anz <| wq <| W_block <| wq <| Wqd rfl (by kernel_rfl) p0 <| Qa (Mv v_x0 rfl) <| Qa (Mi rfl) <| ?_
 obtain ⟨e14,hx15e,ho⟩:=bs ho
 have hx15:=idx_some hx15e
 refine Qa (Ix sl23 (kB h_x0 hB) hx15 rfl rfl rfl) <| ?_
 obtain ⟨u16,fu17,hu18,qo,hs20⟩:=one_get rfl h_x0 hx15.1 hx15.2
 refine Qa (Ld na22 (hB.cell0 hu18) rfl) <| Qa (Mv v_x1 rfl) <| Qa (Mi rfl) <| ?_
 obtain ⟨e21,hx22e,ho⟩:=bs ho
 have hx22:=idx_some hx22e
 refine Qa (Ix sl23 (kB h_x1 hB) hx22 rfl rfl rfl) <| ?_
 obtain ⟨u23,fu24,hu25,n1,hs27⟩:=one_get rfl h_x1 hx22.1 hx22.2
 refine Qa (Ld na22 (hB.cell0 hu25) rfl) <| ?_
 obtain ⟨y28,qy,ho⟩:=bs ho
 refine Qc Tryz.func23 rfl rfl (fun _ hC=>laws_eqInt64S_calls (kp _ qo (hB.trans hC)) (kp _ n1 (hB.trans hC)) qy) <| Qa (Nt rfl) <| fun j8 pu=>anz <| W_cond (b:=!(y28)) rfl ?_ ?_
 intro pw
 rw [pw] at ho
 refine wq <| Wq rfl pu <| Qa (Ab rfl) <| fun qs q7=>anz <| ?_
 cases ho
 exact W_ret ⟨_,res_1 Tryz.results29,rfl,(hB.trans q7)⟩
 intro pw
 rw [pw] at ho
 refine W_skip <| inBlk_n <| anz <| Wq rfl pu <| Qa (Mi rfl) <| Qa (Ba rfl rfl) <| Qa (Ai rfl) <| fun p2k n2=>?_
 cases ho
 exact ⟨(hB.trans n2),fe rfl⟩
 intro pv
 rw [pv] at ho
 refine W_exit <| andThen_x <| ?_
 cases ho
 exact ⟨rfl,⟨(hB.trans p0),fe rfl⟩⟩
 rintro s0_5 _ jv ⟨hB,F,rfl⟩ ho
 refine anz <| wq <| Wq rfl (cr [] jv) <| Qa (Ab rfl) <| fun nh q8=>anz <| ?_
 cases ho
 exact W_ret ⟨_,res_1 Tryz.results29,rfl,(hB.trans q8)⟩

abbrev laws_eqCategory_post (w:World) (x:(Bool)) (e:Ending) (w':World):Prop:=e = .returned (.bool x)∧Chg [] w w'
abbrev laws_eqCategory_T (w:World):=Tm Tryz.prog Tryz.f42 34 (laws_eqCategory_post w)
theorem laws_eqCategory_calls {w:World} {x0:MCategory} {z2:Value} {ze:List Nat} {z1:Value} {zf:List Nat} {z7:Value} {zg:List Nat} {z6:Value} {zh:List Nat} {x1:MCategory} {z2g:Value} {z2w:List Nat} {z2h:Value} {z2x:List Nat} {z2i:Value} {z2y:List Nat} {z2j:Value} {z30:List Nat} (z8:(sImm (sInt .i64)).rep w.heap [z2] x0.From ze) (za:(sImm (sInt .i64)).rep w.heap [z1] x0.To zf) (zc:(sImm (sInt .i64)).rep w.heap [z7] x0.Identity zg) (zb:(sImm (sImm (sInt .i64))).rep w.heap [z6] x0.Composites zh) (z3w:(sImm (sInt .i64)).rep w.heap [z2g] x1.From z2w) (z3x:(sImm (sInt .i64)).rep w.heap [z2h] x1.To z2x) (z2o:(sImm (sInt .i64)).rep w.heap [z2i] x1.Identity z2y) (z3y:(sImm (sImm (sInt .i64))).rep w.heap [z2j] x1.Composites z30) {y:(Bool)} (hm:laws_eqCategory x0 x1=some y) :
  Calls Tryz.prog 42 #[.agg #[.int .i64 (x0.Objects),z2,z1,z7,z6],.agg #[.int .i64 (x1.Objects),z2g,z2h,z2i,z2j]] w (laws_eqCategory_post w y):=by
 refine Cm (S:=Unit) Tryz.func42 rfl Tryz.ntmps42 rfl hm fun o ho hB=>?_
 clear hm
 refine wq <| W_region rfl <| WL.box fun b1 wd2 hC3 hr4 hl5=>?_
 replace hr4:Row wd2 b1 [.int .i64 (x0.Objects),z2,z1,z7,z6] 32:=hr4
 replace hB:=(hB.trans hC3)
 refine WL.box fun b8 wd9 q5 pe ja=>?_
 replace pe:Row wd9 b8 [.int .i64 (x1.Objects),z2g,z2h,z2i,z2j] 32:=pe
 replace hr4:=kr hr4 q5
 replace hB:=(hB.trans q5)
 refine Wb (Ab rfl) <| anz <| wq <| wq <| Wq rfl (cr [] wd9) <| Qa (Fr fa32_0 rfl) <| Qa (Lr na2 hr4 rfl rfl) <| Qa (Fr fa32_0 rfl) <| Qa (Lr na2 pe rfl rfl) <| Qa (Bn rfl rfl) <| fun kq qe=>anz <| W_cond (b:=(x0.Objects) != (x1.Objects)) rfl ?_ ?_
 intro n3
 rw [n3] at ho
 refine wq <| Wq rfl qe <| Qa (Ab rfl) <| fun p4h qz=>anz <| ?_
 cases ho
 exact W_ret ⟨_,res_1 Tryz.results42,rfl,(hB.trans qz)⟩
 intro n3
 rw [n3] at ho
 refine W_skip <| anz <| wq <| wq <| Wq rfl qe <| Qa (Fr fa32_1 rfl) <| Qa (Lr na22 hr4 rfl rfl) <| Qa (Fr fa32_1 rfl) <| Qa (Lr na22 pe rfl rfl) <| ?_
 obtain ⟨y21,p2l,ho⟩:=bs ho
 refine Qc Tryz.func23 rfl rfl (fun _ hC=>laws_eqInt64S_calls (kp _ z8 (hB.trans hC)) (kp _ z3w (hB.trans hC)) p2l) <| Qa (Nt rfl) <| fun k3 ju=>anz <| W_cond (b:=!(y21)) rfl ?_ ?_
 intro n4
 rw [n4] at ho
 refine wq <| Wq rfl ju <| Qa (Ab rfl) <| fun g1 qw=>anz <| ?_
 cases ho
 exact W_ret ⟨_,res_1 Tryz.results42,rfl,(hB.trans qw)⟩
 intro n4
 rw [n4] at ho
 refine W_skip <| anz <| wq <| wq <| Wq rfl ju <| Qa (Fr fa32_2 rfl) <| Qa (Lr na22 hr4 rfl rfl) <| Qa (Fr fa32_2 rfl) <| Qa (Lr na22 pe rfl rfl) <| ?_
 obtain ⟨y28,qy,ho⟩:=bs ho
 refine Qc Tryz.func23 rfl rfl (fun _ hC=>laws_eqInt64S_calls (kp _ za (hB.trans hC)) (kp _ z3x (hB.trans hC)) qy) <| Qa (Nt rfl) <| fun j8 pu=>anz <| W_cond (b:=!(y28)) rfl ?_ ?_
 intro pw
 rw [pw] at ho
 refine wq <| Wq rfl pu <| Qa (Ab rfl) <| fun qs q7=>anz <| ?_
 cases ho
 exact W_ret ⟨_,res_1 Tryz.results42,rfl,(hB.trans q7)⟩
 intro pw
 rw [pw] at ho
 refine W_skip <| anz <| wq <| wq <| Wq rfl pu <| Qa (Fr fa32_3 rfl) <| Qa (Lr na22 hr4 rfl rfl) <| Qa (Fr fa32_3 rfl) <| Qa (Lr na22 pe rfl rfl) <| ?_
 obtain ⟨y35,p2m,ho⟩:=bs ho
 refine Qc Tryz.func23 rfl rfl (fun _ hC=>laws_eqInt64S_calls (kp _ zc (hB.trans hC)) (kp _ z2o (hB.trans hC)) p2m) <| Qa (Nt rfl) <| fun jv ga=>anz <| W_cond (b:=!(y35)) rfl ?_ ?_
 intro n5
 rw [n5] at ho
 refine wq <| Wq rfl ga <| Qa (Ab rfl) <| fun ni p2n=>anz <| ?_
 cases ho
 exact W_ret ⟨_,res_1 Tryz.results42,rfl,(hB.trans p2n)⟩
 intro n5
 rw [n5] at ho
 refine W_skip <| anz <| wq <| wq <| Wq rfl ga <| Qa (Fr fa32_4 rfl) <| Qa (Lr na23 hr4 rfl rfl) <| Qa (Fr fa32_4 rfl) <| Qa (Lr na23 pe rfl rfl) <| ?_
 obtain ⟨y42,p2o,ho⟩:=bs ho
 refine Qc Tryz.func29 rfl rfl (fun _ hC=>laws_eqInt64SS_calls (kp _ zb (hB.trans hC)) (kp _ z3y (hB.trans hC)) p2o) <| Qa (Nt rfl) <| fun p0b qk=>anz <| W_cond (b:=!(y42)) rfl ?_ ?_
 intro q9
 rw [q9] at ho
 refine wq <| Wq rfl qk <| Qa (Ab rfl) <| fun p0c p6=>anz <| ?_
 cases ho
 exact W_ret ⟨_,res_1 Tryz.results42,rfl,(hB.trans p6)⟩
 intro q9
 rw [q9] at ho
 refine W_skip <| anz <| wq <| Wq rfl qk <| Qa (Ab rfl) <| fun p4i p2p=>anz <| ?_
 cases ho
 exact W_ret ⟨_,res_1 Tryz.results42,rfl,(hB.trans p2p)⟩

abbrev laws_eqInt64SSS_post (w:World) (x:(Bool)) (e:Ending) (w':World):Prop:=e = .returned (.bool x)∧Chg [] w w'
abbrev laws_eqInt64SSS_T (w:World):=Tm Tryz.prog Tryz.f74 27 (laws_eqInt64SSS_post w)
theorem laws_eqInt64SSS_calls {w:World} {x0:(List (List (List Int)))} {v_x0:Value} {f_x0:List Nat} {x1:(List (List (List Int)))} {v_x1:Value} {f_x1:List Nat} (h_x0:(sImm (sImm (sImm (sInt .i64)))).rep w.heap [v_x0] x0 f_x0) (h_x1:(sImm (sImm (sImm (sInt .i64)))).rep w.heap [v_x1] x1 f_x1) {y:(Bool)} (hm:laws_eqInt64SSS x0 x1=some y) :
  Calls Tryz.prog 74 #[v_x0,v_x1] w (laws_eqInt64SSS_post w y):=by
 refine Cm (S:=Unit) Tryz.func74 rfl Tryz.ntmps74 rfl hm fun o ho hB=>?_
 clear hm
 refine wq <| Wq rfl (cr [] w) <| Qa (Ab rfl) <| fun wd1 hC2=>anz <| wq <| wq <| Wq rfl hC2 <| Qa (Mv v_x0 rfl) <| Qa (Ln sl26 (kB h_x0 hB) rfl) <| Qa (Mv v_x1 rfl) <| Qa (Ln sl26 (kB h_x1 hB) rfl) <| Qa (Bn rfl rfl) <| fun wd3 hC4=>anz <| W_cond (b:=((x0.length:Int)) != ((x1.length:Int))) rfl ?_ ?_
 intro hb5
 rw [hb5] at ho
 refine wq <| Wq rfl hC4 <| Qa (Ab rfl) <| fun wd6 hC7=>anz <| ?_
 cases ho
 exact W_ret ⟨_,res_1 Tryz.results74,rfl,(hB.trans hC7)⟩
 intro hb5
 rw [hb5] at ho
 refine W_skip <| anz <| wq <| wq <| Wq rfl hC4 <| Qa (Ai rfl) <| fun wd8 hC9=>anz <| Wf (S1:=Int) (fun (s0_5:Int) r w'=>Chg [] w w'∧∃ F,r=updL F [(0,v_x0),(1,v_x1),(5,.int .i64 (s0_5))]) (laws_eqInt64SSS_T w) ho ⟨(hB.trans hC9),fe rfl⟩ ?_ ?_
 rintro s0_5 _ qp ⟨hB,F,rfl⟩ o ho
 replace ho:laws_eqInt64SSS_L0 x0 x1 s0_5=some o:=ho
 unfold laws_eqInt64SSS_L0 at ho
 refine wq <| wq <| Wq rfl (cr [] qp) <| Qa (Mi rfl) <| Qa (Mv v_x0 rfl) <| Qa (Ln sl26 (kB h_x0 hB) rfl) <| Qa (Bl rfl rfl) <| fun j5 p0=>anz <| W_cond (b:=decide (s0_5 < (x0.length:Int))) rfl ?_ ?_
 intro pv
 rw [pv] at ho
 refine W_skip <| anz <| wq <| W_block <| wq <| Wqd rfl (by kernel_rfl) p0 <| Qa (Mv v_x0 rfl) <| Qa (Mi rfl) <| ?_
 obtain ⟨e14,hx15e,ho⟩:=bs ho
 have hx15:=idx_some hx15e
 refine Qa (Ix sl26 (kB h_x0 hB) hx15 rfl rfl rfl) <| ?_
 obtain ⟨u16,fu17,hu18,qo,hs20⟩:=one_get rfl h_x0 hx15.1 hx15.2
 refine Qa (Ld na23 (hB.cell0 hu18) rfl) <| Qa (Mv v_x1 rfl) <| Qa (Mi rfl) <| ?_
 obtain ⟨e21,hx22e,ho⟩:=bs ho
 have hx22:=idx_some hx22e
 refine Qa (Ix sl26 (kB h_x1 hB) hx22 rfl rfl rfl) <| ?_
 obtain ⟨u23,fu24,hu25,n1,hs27⟩:=one_get rfl h_x1 hx22.1 hx22.2
 refine Qa (Ld na23 (hB.cell0 hu25) rfl) <| ?_
 obtain ⟨y28,qy,ho⟩:=bs ho
 refine Qc Tryz.func29 rfl rfl (fun _ hC=>laws_eqInt64SS_calls (kp _ qo (hB.trans hC)) (kp _ n1 (hB.trans hC)) qy) <| Qa (Nt rfl) <| fun j8 pu=>anz <| W_cond (b:=!(y28)) rfl ?_ ?_
 intro pw
 rw [pw] at ho
 refine wq <| Wq rfl pu <| Qa (Ab rfl) <| fun qs q7=>anz <| ?_
 cases ho
 exact W_ret ⟨_,res_1 Tryz.results74,rfl,(hB.trans q7)⟩
 intro pw
 rw [pw] at ho
 refine W_skip <| inBlk_n <| anz <| Wq rfl pu <| Qa (Mi rfl) <| Qa (Ba rfl rfl) <| Qa (Ai rfl) <| fun p2k n2=>?_
 cases ho
 exact ⟨(hB.trans n2),fe rfl⟩
 intro pv
 rw [pv] at ho
 refine W_exit <| andThen_x <| ?_
 cases ho
 exact ⟨rfl,⟨(hB.trans p0),fe rfl⟩⟩
 rintro s0_5 _ jv ⟨hB,F,rfl⟩ ho
 refine anz <| wq <| Wq rfl (cr [] jv) <| Qa (Ab rfl) <| fun nh q8=>anz <| ?_
 cases ho
 exact W_ret ⟨_,res_1 Tryz.results74,rfl,(hB.trans q8)⟩

abbrev laws_eqTopology_post (w:World) (x:(Bool)) (e:Ending) (w':World):Prop:=e = .returned (.bool x)∧Chg [] w w'
abbrev laws_eqTopology_T (w:World):=Tm Tryz.prog Tryz.f19 17 (laws_eqTopology_post w)
theorem laws_eqTopology_calls {w:World} {x0:MTopology} {zl:Value} {zo:List Nat} {zk:Value} {zp:List Nat} {zm:Value} {zq:List Nat} {zn:Value} {zr:List Nat} {zi:Value} {zd:List Nat} {x1:MTopology} {z2k:Value} {z42:List Nat} {z2l:Value} {z43:List Nat} {z2m:Value} {z44:List Nat} {z2n:Value} {z47:List Nat} {z31:Value} {z48:List Nat} (zu:(sImm (sInt .i64)).rep w.heap [zl] x0.Shape.From zo) (zt:(sImm (sInt .i64)).rep w.heap [zk] x0.Shape.To zp) (zv:(sImm (sInt .i64)).rep w.heap [zm] x0.Shape.Identity zq) (zw:(sImm (sImm (sInt .i64))).rep w.heap [zn] x0.Shape.Composites zr) (zj:(sImm (sImm (sImm (sInt .i64)))).rep w.heap [zi] x0.Covers zd) (z49:(sImm (sInt .i64)).rep w.heap [z2k] x1.Shape.From z42) (z4a:(sImm (sInt .i64)).rep w.heap [z2l] x1.Shape.To z43) (z4b:(sImm (sInt .i64)).rep w.heap [z2m] x1.Shape.Identity z44) (z4c:(sImm (sImm (sInt .i64))).rep w.heap [z2n] x1.Shape.Composites z47) (z4d:(sImm (sImm (sImm (sInt .i64)))).rep w.heap [z31] x1.Covers z48) {y:(Bool)} (hm:laws_eqTopology x0 x1=some y) :
  Calls Tryz.prog 19 #[.agg #[.int .i64 (x0.Shape.Objects),zl,zk,zm,zn,zi],.agg #[.int .i64 (x1.Shape.Objects),z2k,z2l,z2m,z2n,z31]] w (laws_eqTopology_post w y):=by
 refine Cm (S:=Unit) Tryz.func19 rfl Tryz.ntmps19 rfl hm fun o ho hB=>?_
 clear hm
 refine wq <| W_region rfl <| WL.box fun b1 wd2 hC3 hr4 hl5=>?_
 replace hr4:Row wd2 b1 [.int .i64 (x0.Shape.Objects),zl,zk,zm,zn,zi] 34:=hr4
 replace hB:=(hB.trans hC3)
 refine WL.box fun b8 wd9 q5 pe ja=>?_
 replace pe:Row wd9 b8 [.int .i64 (x1.Shape.Objects),z2k,z2l,z2m,z2n,z31] 34:=pe
 replace hr4:=kr hr4 q5
 replace hB:=(hB.trans q5)
 refine Wb (Ab rfl) <| anz <| wq <| wq <| Wq rfl (cr [] wd9) <| Qa (Fr fa34_0 rfl) <| ?_
 refine qv (v:=.agg #[.int .i64 (x0.Shape.Objects),zl,zk,zm,zn]) rfl (fun _ hC=>op_loadAgg (cs:=[.int .i64 (x0.Shape.Objects),zl,zk,zm,zn]) u32 rfl info32 (by rw [sz32]; rfl) rfl (At.sub (kr hr4 hC).at 0 5)) ?_
 refine Qa (Fr fa34_0 rfl) <| ?_
 refine qv (v:=.agg #[.int .i64 (x1.Shape.Objects),z2k,z2l,z2m,z2n]) rfl (fun _ hC=>op_loadAgg (cs:=[.int .i64 (x1.Shape.Objects),z2k,z2l,z2m,z2n]) u32 rfl info32 (by rw [sz32]; rfl) rfl (At.sub (kr pe hC).at 0 5)) ?_
 obtain ⟨y16,p2q,ho⟩:=bs ho
 refine Qc Tryz.func42 rfl rfl (fun _ hC=>laws_eqCategory_calls (kp _ zu (hB.trans hC)) (kp _ zt (hB.trans hC)) (kp _ zv (hB.trans hC)) (kp _ zw (hB.trans hC)) (kp _ z49 (hB.trans hC)) (kp _ z4a (hB.trans hC)) (kp _ z4b (hB.trans hC)) (kp _ z4c (hB.trans hC)) p2q) <| Qa (Nt rfl) <| fun kz qx=>anz <| W_cond (b:=!(y16)) rfl ?_ ?_
 intro qf
 rw [qf] at ho
 refine wq <| Wq rfl qx <| Qa (Ab rfl) <| fun p2j n0=>anz <| ?_
 cases ho
 exact W_ret ⟨_,res_1 Tryz.results19,rfl,(hB.trans n0)⟩
 intro qf
 rw [qf] at ho
 refine W_skip <| anz <| wq <| wq <| Wq rfl qx <| Qa (Fr fa34_1 rfl) <| Qa (Lr na26 hr4 rfl rfl) <| Qa (Fr fa34_1 rfl) <| Qa (Lr na26 pe rfl rfl) <| ?_
 obtain ⟨y23,k2,ho⟩:=bs ho
 refine Qc Tryz.func74 rfl rfl (fun _ hC=>laws_eqInt64SSS_calls (kp _ zj (hB.trans hC)) (kp _ z4d (hB.trans hC)) k2) <| Qa (Nt rfl) <| fun j7 py=>anz <| W_cond (b:=!(y23)) rfl ?_ ?_
 intro q6
 rw [q6] at ho
 refine wq <| Wq rfl py <| Qa (Ab rfl) <| fun ne pt=>anz <| ?_
 cases ho
 exact W_ret ⟨_,res_1 Tryz.results19,rfl,(hB.trans pt)⟩
 intro q6
 rw [q6] at ho
 refine W_skip <| anz <| wq <| Wq rfl py <| Qa (Ab rfl) <| fun j8 pu=>anz <| ?_
 cases ho
 exact W_ret ⟨_,res_1 Tryz.results19,rfl,(hB.trans pu)⟩

abbrev spec_l02Object_post (w:World) (x:(Bool)) (e:Ending) (w':World):Prop:=e = .returned (.bool x)∧Chg [] w w'
abbrev spec_l02Object_T (w:World):=Tm Tryz.prog Tryz.f76 13 (spec_l02Object_post w)
theorem spec_l02Object_calls {w:World} {x0:MCategory} {z2:Value} {ze:List Nat} {z1:Value} {zf:List Nat} {z7:Value} {zg:List Nat} {z6:Value} {zh:List Nat} {x1:Int} (z8:(sImm (sInt .i64)).rep w.heap [z2] x0.From ze) (za:(sImm (sInt .i64)).rep w.heap [z1] x0.To zf) (zc:(sImm (sInt .i64)).rep w.heap [z7] x0.Identity zg) (zb:(sImm (sImm (sInt .i64))).rep w.heap [z6] x0.Composites zh) {y:(Bool)} (hm:spec_l02Object x0 x1=some y) :
  Calls Tryz.prog 76 #[.agg #[.int .i64 (x0.Objects),z2,z1,z7,z6],.int .i64 (x1)] w (spec_l02Object_post w y):=by
 refine Cm (S:=Unit) Tryz.func76 rfl Tryz.ntmps76 rfl hm fun o ho hB=>?_
 clear hm
 refine wq <| W_region rfl <| WL.box fun b1 wd2 hC3 hr4 hl5=>?_
 replace hr4:Row wd2 b1 [.int .i64 (x0.Objects),z2,z1,z7,z6] 32:=hr4
 replace hB:=(hB.trans hC3)
 refine Wb (Ab rfl) <| anz <| wq <| Wq rfl (cr [] wd2) <| ?_
 obtain ⟨g8,hm9,ho⟩:=bs ho
 refine QL.meet (fun r=>∃ F,r=updL F [(4,.bool (g8))]) ?_ ?_
 skip
 refine Qa (Mi rfl) <| Qa (Bh rfl rfl) <| Qa (Mb rfl) <| ?_
 rcases Bool.eq_false_or_eq_true (decide (x1 ≥ (0:Int))) with pr | pr
 rw [pr] at hm9
 refine Qg rfl pr (Mi rfl) <| Qg rfl pr (Fr fa32_0 rfl) <| Qg rfl pr (Lr na2 hr4 rfl rfl) <| Qg rfl pr (Bl rfl rfl) <| Qa (PTb rfl pr rfl) <| Qa (Ab rfl) <| ?_
 cases hm9
 exact fe rfl
 rw [pr] at hm9
 refine Sk rfl pr rfl <| Sk rfl pr rfl <| Sk rfl pr rfl <| Sk rfl pr rfl <| Qa (PFb rfl pr rfl) <| Qa (Ab rfl) <| ?_
 cases hm9
 exact fe rfl
 rintro _ ⟨F,rfl⟩
 refine fun j5 p0=>anz <| ?_
 cases ho
 exact W_ret ⟨_,res_1 Tryz.results76,rfl,(hB.trans p0)⟩

abbrev spec_l27Code_post (zo:List Nat) (zp:List Nat) (zq:List Nat) (zr:List Nat) (zd:List Nat) (w:World) (x:(ML27Table×(List (List Bool))×Int)) (e:Ending) (w':World):Prop:=∃ (v0:Value) (f0:List Nat) (v1:Value) (f1:List Nat) (v2:Value) (f2:List Nat) (v3:Value) (f3:List Nat) (v4:Value) (f4:List Nat) (v5:Value) (f5:List Nat) (v6:Value) (f6:List Nat) (v7:Value) (f7:List Nat),e = .returned (.tuple #[.agg #[.int .i64 x.1.C.Objects,v0,v1,v2,v3,v4,v5,v6],v7,.int .i64 x.2.2])∧Chg [] w w'∧(sImm (sInt .i64)).rep w'.heap [v0] x.1.C.From f0∧(∀ b∈f0,b∈(zo++(zp++(zq++(zr++zd)))) ∨ w.heap.size≤b)∧(sImm (sInt .i64)).rep w'.heap [v1] x.1.C.To f1∧(∀ b∈f1,b∈(zo++(zp++(zq++(zr++zd)))) ∨ w.heap.size≤b)∧(sImm (sInt .i64)).rep w'.heap [v2] x.1.C.Identity f2∧(∀ b∈f2,b∈(zo++(zp++(zq++(zr++zd)))) ∨ w.heap.size≤b)∧(sImm (sImm (sInt .i64))).rep w'.heap [v3] x.1.C.Composites f3∧(∀ b∈f3,b∈(zo++(zp++(zq++(zr++zd)))) ∨ w.heap.size≤b)∧(sImm (sImm (sImm (sInt .i64)))).rep w'.heap [v4] x.1.Lists f4∧(∀ b∈f4,b∈(zo++(zp++(zq++(zr++zd)))) ∨ w.heap.size≤b)∧(sImm (sImm (sInt .i64))).rep w'.heap [v5] x.1.Pulls f5∧(∀ b∈f5,b∈(zo++(zp++(zq++(zr++zd)))) ∨ w.heap.size≤b)∧(sImm (sInt .i64)).rep w'.heap [v6] x.1.Tops f6∧(∀ b∈f6,b∈(zo++(zp++(zq++(zr++zd)))) ∨ w.heap.size≤b)∧OE [] w.heap.size w' (sOwn 138 (sOwn 4 sBool)) [v7] x.2.1 f7∧Dis f0 f7∧Dis f1 f7∧Dis f2 f7∧Dis f3 f7∧Dis f4 f7∧Dis f5 f7∧Dis f6 f7
abbrev spec_l27Code_T (zo:List Nat) (zp:List Nat) (zq:List Nat) (zr:List Nat) (zd:List Nat) (w:World):=Tm Tryz.prog Tryz.f78 25 (spec_l27Code_post zo zp zq zr zd w)
theorem spec_l27Code_calls {w:World} {x0:MTopology} {zl:Value} {zo:List Nat} {zk:Value} {zp:List Nat} {zm:Value} {zq:List Nat} {zn:Value} {zr:List Nat} {zi:Value} {zd:List Nat} (zu:(sImm (sInt .i64)).rep w.heap [zl] x0.Shape.From zo) (zt:(sImm (sInt .i64)).rep w.heap [zk] x0.Shape.To zp) (zv:(sImm (sInt .i64)).rep w.heap [zm] x0.Shape.Identity zq) (zw:(sImm (sImm (sInt .i64))).rep w.heap [zn] x0.Shape.Composites zr) (zj:(sImm (sImm (sImm (sInt .i64)))).rep w.heap [zi] x0.Covers zd) {y:(ML27Table×(List (List Bool))×Int)} (hm:spec_l27Code x0=some y) :
  Calls Tryz.prog 78 #[.agg #[.int .i64 (x0.Shape.Objects),zl,zk,zm,zn,zi]] w (spec_l27Code_post zo zp zq zr zd w y):=by
 refine Cm (S:=Unit) Tryz.func78 rfl Tryz.ntmps78 rfl hm fun o ho hB=>?_
 clear hm
 refine wq <| W_region rfl <| WL.box fun b1 wd2 hC3 hr4 hl5=>?_
 replace hr4:Row wd2 b1 [.int .i64 (x0.Shape.Objects),zl,zk,zm,zn,zi] 34:=hr4
 replace zu:=kp _ zu hC3
 replace zt:=kp _ zt hC3
 replace zv:=kp _ zv hC3
 replace zw:=kp _ zw hC3
 replace zj:=kp _ zj hC3
 replace hB:=(hB.trans hC3)
 refine WL.alloc info96 zr96 fun pq p2r qg p9 qq=>?_
 replace p9:Row p2r pq [.int .i64 ((0:Int)),.slice none 0 0,.slice none 0 0,.slice none 0 0,.slice none 0 0,.slice none 0 0,.slice none 0 0,.slice none 0 0] 96:=p9
 have gb:w.heap.size≤pq:=Nat.le_trans hB.size qq
 have qh:=dl (onw qq) (sl _ zu)
 have q1:=dl (onw qq) (sl _ zt)
 have qi:=dl (onw qq) (sl _ zv)
 have po:=dl (onw qq) (sl _ zw)
 have q3:=dl (onw qq) (sl _ zj)
 replace zu:=kp _ zu qg
 replace zt:=kp _ zt qg
 replace zv:=kp _ zv qg
 replace zw:=kp _ zw qg
 replace zj:=kp _ zj qg
 replace hr4:=kr hr4 qg
 replace hB:=(hB.trans qg)
 refine Wb (As rfl) <| Wb (Ai rfl) <| anz <| wq <| W_region rfl <| Wb (Lg ag34 hr4.at rfl rfl) <| ?_
 obtain ⟨y26,p2s,ho⟩:=bs ho
 refine WL.call rfl (op_callF Tryz.func70 rfl rfl) (spec_l27Read_calls zu zt zv zw zj p2s) <| ?_
 rintro _ ne ⟨v30,gc,v33,gd,v36,ge,v39,gf,v42,gg,v45,gh,v48,gi,v51,f52,rfl,pt,pg,gj,ph,gk,pi,gl,pj,gm,pk,gn,pl,go,pm,gp,pn,jh,ji,jj,jk,jl,jm,jn⟩
 refine ⟨_,rfl,?_⟩
 have jo:Dis gc [pq]:=dis_out gj (da (qh).symm (da (q1).symm (da (qi).symm (da (po).symm (q3).symm)))) (one_lt (Row.lt p9))
 have gq : ∀ b∈gc,b∈(zo++(zp++(zq++(zr++zd)))) ∨ w.heap.size≤b:=low_out gj (low_app (fun b hb=>.inl (by simp [hb])) (low_app (fun b hb=>.inl (by simp [hb])) (low_app (fun b hb=>.inl (by simp [hb])) (low_app (fun b hb=>.inl (by simp [hb])) (fun b hb=>.inl (by simp [hb])))))) hB.size
 have jp:Dis gd [pq]:=dis_out gk (da (qh).symm (da (q1).symm (da (qi).symm (da (po).symm (q3).symm)))) (one_lt (Row.lt p9))
 have gr : ∀ b∈gd,b∈(zo++(zp++(zq++(zr++zd)))) ∨ w.heap.size≤b:=low_out gk (low_app (fun b hb=>.inl (by simp [hb])) (low_app (fun b hb=>.inl (by simp [hb])) (low_app (fun b hb=>.inl (by simp [hb])) (low_app (fun b hb=>.inl (by simp [hb])) (fun b hb=>.inl (by simp [hb])))))) hB.size
 have jq:Dis ge [pq]:=dis_out gl (da (qh).symm (da (q1).symm (da (qi).symm (da (po).symm (q3).symm)))) (one_lt (Row.lt p9))
 have gs : ∀ b∈ge,b∈(zo++(zp++(zq++(zr++zd)))) ∨ w.heap.size≤b:=low_out gl (low_app (fun b hb=>.inl (by simp [hb])) (low_app (fun b hb=>.inl (by simp [hb])) (low_app (fun b hb=>.inl (by simp [hb])) (low_app (fun b hb=>.inl (by simp [hb])) (fun b hb=>.inl (by simp [hb])))))) hB.size
 have jr:Dis gf [pq]:=dis_out gm (da (qh).symm (da (q1).symm (da (qi).symm (da (po).symm (q3).symm)))) (one_lt (Row.lt p9))
 have gt : ∀ b∈gf,b∈(zo++(zp++(zq++(zr++zd)))) ∨ w.heap.size≤b:=low_out gm (low_app (fun b hb=>.inl (by simp [hb])) (low_app (fun b hb=>.inl (by simp [hb])) (low_app (fun b hb=>.inl (by simp [hb])) (low_app (fun b hb=>.inl (by simp [hb])) (fun b hb=>.inl (by simp [hb])))))) hB.size
 have js:Dis gg [pq]:=dis_out gn (da (qh).symm (da (q1).symm (da (qi).symm (da (po).symm (q3).symm)))) (one_lt (Row.lt p9))
 have gu : ∀ b∈gg,b∈(zo++(zp++(zq++(zr++zd)))) ∨ w.heap.size≤b:=low_out gn (low_app (fun b hb=>.inl (by simp [hb])) (low_app (fun b hb=>.inl (by simp [hb])) (low_app (fun b hb=>.inl (by simp [hb])) (low_app (fun b hb=>.inl (by simp [hb])) (fun b hb=>.inl (by simp [hb])))))) hB.size
 have gv:Dis gh [pq]:=dis_out go (da (qh).symm (da (q1).symm (da (qi).symm (da (po).symm (q3).symm)))) (one_lt (Row.lt p9))
 have jt : ∀ b∈gh,b∈(zo++(zp++(zq++(zr++zd)))) ∨ w.heap.size≤b:=low_out go (low_app (fun b hb=>.inl (by simp [hb])) (low_app (fun b hb=>.inl (by simp [hb])) (low_app (fun b hb=>.inl (by simp [hb])) (low_app (fun b hb=>.inl (by simp [hb])) (fun b hb=>.inl (by simp [hb])))))) hB.size
 have gw:Dis gi [pq]:=dis_out gp (da (qh).symm (da (q1).symm (da (qi).symm (da (po).symm (q3).symm)))) (one_lt (Row.lt p9))
 have gx : ∀ b∈gi,b∈(zo++(zp++(zq++(zr++zd)))) ∨ w.heap.size≤b:=low_out gp (low_app (fun b hb=>.inl (by simp [hb])) (low_app (fun b hb=>.inl (by simp [hb])) (low_app (fun b hb=>.inl (by simp [hb])) (low_app (fun b hb=>.inl (by simp [hb])) (fun b hb=>.inl (by simp [hb])))))) hB.size
 have gy:=dl (ofr pn) (one_lt (Row.lt p9))
 replace pn:=OE.low (G:=[]) pn hB.size
 replace zu:=kp _ zu pt
 replace zt:=kp _ zt pt
 replace zv:=kp _ zv pt
 replace zw:=kp _ zw pt
 replace zj:=kp _ zj pt
 replace hr4:=kr hr4 pt
 replace p9:=kr p9 pt
 replace hB:=(hB.trans pt)
 refine Wb (Mt rfl) <| Wb (Ex (.agg #[.int .i64 (y26.1.C.Objects),v30,v33,v36,v39,v42,v45,v48]) rfl rfl) <| Wb (Ex v51 rfl rfl) <| Wb (Exi rfl rfl) <| WL.alloc info96 zr96 fun jw g9 pc n6 pf=>?_
 replace n6:Row g9 jw [.int .i64 ((0:Int)),.slice none 0 0,.slice none 0 0,.slice none 0 0,.slice none 0 0,.slice none 0 0,.slice none 0 0,.slice none 0 0] 96:=n6
 have p2t:w.heap.size≤jw:=Nat.le_trans hB.size pf
 have p2u:=dl (onw pf) (sl _ zu)
 have p2v:=dl (onw pf) (sl _ zt)
 have p2w:=dl (onw pf) (sl _ zv)
 have p2x:=dl (onw pf) (sl _ zw)
 have p2y:=dl (onw pf) (sl _ zj)
 have p2z:=dl (onw pf) (one_lt (Row.lt hr4))
 have n7:=dl (onw pf) (one_lt (Row.lt p9))
 have p30:=dl (onw pf) (sl _ pg)
 have p31:=dl (onw pf) (sl _ ph)
 have p32:=dl (onw pf) (sl _ pi)
 have p33:=dl (onw pf) (sl _ pj)
 have p34:=dl (onw pf) (sl _ pk)
 have p35:=dl (onw pf) (sl _ pl)
 have p36:=dl (onw pf) (sl _ pm)
 have p37:=dl (onw pf) (sl _ pn.1)
 replace zu:=kp _ zu pc
 replace zt:=kp _ zt pc
 replace zv:=kp _ zv pc
 replace zw:=kp _ zw pc
 replace zj:=kp _ zj pc
 replace pg:=kp _ pg pc
 replace ph:=kp _ ph pc
 replace pi:=kp _ pi pc
 replace pj:=kp _ pj pc
 replace pk:=kp _ pk pc
 replace pl:=kp _ pl pc
 replace pm:=kp _ pm pc
 replace hr4:=kr hr4 pc
 replace p9:=kr p9 pc
 replace pn:=ko pn pc
 replace hB:=(hB.trans pc)
 refine WL.storeAll (us:=[.int .i64 (y26.1.C.Objects),v30,v33,v36,v39,v42,v45,v48]) info96 (by rw [sz96]; rfl) n6 rfl rfl rfl (by intro u hu; simp only [List.mem_cons,List.mem_nil_iff,or_false] at hu; rcases hu with rfl | rfl | rfl | rfl | rfl | rfl | rfl | rfl <;> first | exact rfl | exact (STy.one _ pg _ (ms rfl)) | exact (STy.one _ ph _ (ms rfl)) | exact (STy.one _ pi _ (ms rfl)) | exact (STy.one _ pj _ (ms rfl)) | exact (STy.one _ pk _ (ms rfl)) | exact (STy.one _ pl _ (ms rfl)) | exact (STy.one _ pm _ (ms rfl))) fun kh pa q4=>?_
 replace q4:Row kh jw [.int .i64 (y26.1.C.Objects),v30,v33,v36,v39,v42,v45,v48] 96:=q4
 replace zu:=STy.keep _ zu pa (p2u).symm
 replace zt:=STy.keep _ zt pa (p2v).symm
 replace zv:=STy.keep _ zv pa (p2w).symm
 replace zw:=STy.keep _ zw pa (p2x).symm
 replace zj:=STy.keep _ zj pa (p2y).symm
 replace pg:=STy.keep _ pg pa (p30).symm
 replace ph:=STy.keep _ ph pa (p31).symm
 replace pi:=STy.keep _ pi pa (p32).symm
 replace pj:=STy.keep _ pj pa (p33).symm
 replace pk:=STy.keep _ pk pa (p34).symm
 replace pl:=STy.keep _ pl pa (p35).symm
 replace pm:=STy.keep _ pm pa (p36).symm
 replace hr4:=Row.keep hr4 pa ((p2z).symm _ (ms rfl))
 replace p9:=Row.keep p9 pa ((n7).symm _ (ms rfl))
 replace pn:=okp pn pa (p37).symm
 replace hB:=hB.then pa (one_then p2t)
 refine Wb (Av v51 rfl) <| Wb (Ai rfl) <| anz <| wq <| wq <| Wq rfl (cr [] kh) <| ?_
 obtain ⟨g145,hm146,ho⟩:=bs ho
 refine QL.meet (fun r=>∃ F,r=updL F [(2,.pointer (some (⟨pq,0,none⟩))),(5,.pointer (some (⟨jw,0,none⟩))),(6,v51),(7,.int .i64 (y26.2.2)),(21,.bool (g145))]) ?_ ?_
 skip
 refine Qa (Mi rfl) <| Qa (Be rfl rfl) <| Qa (Mb rfl) <| ?_
 rcases Bool.eq_false_or_eq_true ((y26.2.2) == ((0:Int))) with ps | ps
 rw [ps] at hm146
 refine Qg rfl ps (Lg ag96 q4.at rfl rfl) <| Qg rfl ps (Mv v51 rfl) <| ?_
 obtain ⟨y148,p38,hm146⟩:=bs hm146
 refine Qcg rfl ps Tryz.func71 rfl rfl (fun _ hC=>spec_l27Is_calls (kp _ pg hC) (kp _ ph hC) (kp _ pi hC) (kp _ pj hC) (kp _ pk hC) (kp _ pl hC) (kp _ pm hC) ((Le.own (Le.own (Le.refl _) 4) 138).le (kp _ pn.1 hC)) p38) <| Qg rfl ps (Nt rfl) <| Qa (PTb rfl ps rfl) <| ?_
 cases hm146
 exact fe rfl
 rw [ps] at hm146
 refine Sk rfl ps rfl <| Sk rfl ps rfl <| Sk rfl ps rfl <| Sk rfl ps rfl <| Qa (PFb rfl ps rfl) <| ?_
 cases hm146
 exact fe rfl
 rintro _ ⟨F,rfl⟩
 refine fun p0u q2=>anz <| W_cond (b:=g145) rfl ?_ ?_
 intro qd
 rw [qd] at ho
 refine Wq rfl q2 <| Qa (Ai rfl) <| fun p4k n8=>anz <| wq <| W_region rfl <| Wa n8 (Lg ag96 q4.at rfl rfl) <| Wb (Mv v51 rfl) <| Wb (Mi rfl) <| WL.storeAll (us:=[.int .i64 (y26.1.C.Objects),v30,v33,v36,v39,v42,v45,v48]) info96 (by rw [sz96]; rfl) (kr p9 n8) rfl rfl rfl (by intro u hu; simp only [List.mem_cons,List.mem_nil_iff,or_false] at hu; rcases hu with rfl | rfl | rfl | rfl | rfl | rfl | rfl | rfl <;> first | exact rfl | exact (STy.one _ pg _ (ms rfl)) | exact (STy.one _ ph _ (ms rfl)) | exact (STy.one _ pi _ (ms rfl)) | exact (STy.one _ pj _ (ms rfl)) | exact (STy.one _ pk _ (ms rfl)) | exact (STy.one _ pl _ (ms rfl)) | exact (STy.one _ pm _ (ms rfl))) fun nu ki n9=>?_
 replace n9:Row nu pq [.int .i64 (y26.1.C.Objects),v30,v33,v36,v39,v42,v45,v48] 96:=n9
 have pz:=(n8.nil (G:=[pq])).trans ki
 replace pg:=STy.keep _ pg pz jo
 replace ph:=STy.keep _ ph pz jp
 replace pi:=STy.keep _ pi pz jq
 replace pj:=STy.keep _ pj pz jr
 replace pk:=STy.keep _ pk pz js
 replace pl:=STy.keep _ pl pz gv
 replace pm:=STy.keep _ pm pz gw
 replace pn:=okp pn pz gy
 replace q4:=Row.keep q4 pz (n7 _ (ms rfl))
 replace hB:=hB.then pz (one_then gb)
 refine Wb (Av v51 rfl) <| Wb (Ai rfl) <| anz <| ?_
 cases ho
 exact W_ret ⟨_,res_c2 Tryz.results78 Tryz.underlying96 rfl info96 (by rw [sz96]; rfl) rfl n9.at,_,_,_,_,_,_,_,_,_,_,_,_,_,_,_,_,rfl,hB,pg,gq,ph,gr,pi,gs,pj,gt,pk,gu,pl,jt,pm,gx,pn,jh,ji,jj,jk,jl,jm,jn⟩
 intro qd
 rw [qd] at ho
 refine W_skip <| anz <| wq <| W_region rfl <| Wa q2 (Lg ag96 q4.at rfl rfl) <| Wb (Mv v51 rfl) <| Wb (Mi rfl) <| WL.storeAll (us:=[.int .i64 (y26.1.C.Objects),v30,v33,v36,v39,v42,v45,v48]) info96 (by rw [sz96]; rfl) (kr p9 q2) rfl rfl rfl (by intro u hu; simp only [List.mem_cons,List.mem_nil_iff,or_false] at hu; rcases hu with rfl | rfl | rfl | rfl | rfl | rfl | rfl | rfl <;> first | exact rfl | exact (STy.one _ pg _ (ms rfl)) | exact (STy.one _ ph _ (ms rfl)) | exact (STy.one _ pi _ (ms rfl)) | exact (STy.one _ pj _ (ms rfl)) | exact (STy.one _ pk _ (ms rfl)) | exact (STy.one _ pl _ (ms rfl)) | exact (STy.one _ pm _ (ms rfl))) fun p39 p3a na=>?_
 replace na:Row p39 pq [.int .i64 (y26.1.C.Objects),v30,v33,v36,v39,v42,v45,v48] 96:=na
 have q0:=(q2.nil (G:=[pq])).trans p3a
 replace pg:=STy.keep _ pg q0 jo
 replace ph:=STy.keep _ ph q0 jp
 replace pi:=STy.keep _ pi q0 jq
 replace pj:=STy.keep _ pj q0 jr
 replace pk:=STy.keep _ pk q0 js
 replace pl:=STy.keep _ pl q0 gv
 replace pm:=STy.keep _ pm q0 gw
 replace pn:=okp pn q0 gy
 replace q4:=Row.keep q4 q0 (n7 _ (ms rfl))
 replace hB:=hB.then q0 (one_then gb)
 refine Wb (Av v51 rfl) <| Wb (Ai rfl) <| anz <| ?_
 cases ho
 exact W_ret ⟨_,res_c2 Tryz.results78 Tryz.underlying96 rfl info96 (by rw [sz96]; rfl) rfl na.at,_,_,_,_,_,_,_,_,_,_,_,_,_,_,_,_,rfl,hB,pg,gq,ph,gr,pi,gs,pj,gt,pk,gu,pl,jt,pm,gx,pn,jh,ji,jj,jk,jl,jm,jn⟩

abbrev spec_l27Close_post (w:World) (x:((List Int))) (e:Ending) (w':World):Prop:=∃ (v0:Value) (f0:List Nat),e = .returned (v0)∧Chg [] w w'∧OE [] w.heap.size w' (sOwn 2 (sInt .i64)) [v0] x f0
abbrev spec_l27Close_T (w:World):=Tm Tryz.prog Tryz.f79 52 (spec_l27Close_post w)
theorem spec_l27Close_calls {w:World} {x0:MTopology} {zl:Value} {zo:List Nat} {zk:Value} {zp:List Nat} {zm:Value} {zq:List Nat} {zn:Value} {zr:List Nat} {zi:Value} {zd:List Nat} {x1:Int} {x2:(List Int)} {v_x2:Value} {f_x2:List Nat} (zu:(sImm (sInt .i64)).rep w.heap [zl] x0.Shape.From zo) (zt:(sImm (sInt .i64)).rep w.heap [zk] x0.Shape.To zp) (zv:(sImm (sInt .i64)).rep w.heap [zm] x0.Shape.Identity zq) (zw:(sImm (sImm (sInt .i64))).rep w.heap [zn] x0.Shape.Composites zr) (zj:(sImm (sImm (sImm (sInt .i64)))).rep w.heap [zi] x0.Covers zd) (h_x2:(sImm (sInt .i64)).rep w.heap [v_x2] x2 f_x2) {y:((List Int))} (hm:spec_l27Close x0 x1 x2=some y) :
  Calls Tryz.prog 79 #[.agg #[.int .i64 (x0.Shape.Objects),zl,zk,zm,zn,zi],.int .i64 (x1),v_x2] w (spec_l27Close_post w y):=by
 refine Cm (S:=Unit) Tryz.func79 rfl Tryz.ntmps79 rfl hm fun o ho hB=>?_
 clear hm
 refine wq <| W_region rfl <| WL.box fun b1 wd2 hC3 hr4 hl5=>?_
 replace hr4:Row wd2 b1 [.int .i64 (x0.Shape.Objects),zl,zk,zm,zn,zi] 34:=hr4
 replace hB:=(hB.trans hC3)
 refine Wb (As rfl) <| anz <| wq <| W_region rfl <| Wb (Fr fa34_0 rfl) <| ?_
 refine WL.val (v:=.agg #[.int .i64 (x0.Shape.Objects),zl,zk,zm,zn]) rfl (op_loadAgg (cs:=[.int .i64 (x0.Shape.Objects),zl,zk,zm,zn]) u32 rfl info32 (by rw [sz32]; rfl) rfl (At.sub hr4.at 0 5)) ?_
 refine Wb (Mi rfl) <| ?_
 obtain ⟨y8,hy9,ho⟩:=bs ho
 refine WL.call rfl (op_callF Tryz.func143 rfl rfl) (spec_l25Out_calls (kp _ zu hB) (kp _ zt hB) (kp _ zv hB) (kp _ zw hB) hy9) <| ?_
 rintro _ qp ⟨v12,nb,rfl,gz,p4⟩
 refine ⟨_,rfl,?_⟩
 have d15:=dl (ofr p4) (one_lt (Row.lt hr4))
 replace p4:=OE.low (G:=[]) p4 hB.size
 replace hr4:=kr hr4 gz
 replace hB:=(hB.trans gz)
 refine Wb (Av v12 rfl) <| anz <| wq <| W_region rfl <| WL.lit0 (sInt .i64) u22z info2 fun v17 kz f19 qz j0=>?_
 have po:=dl (ofr j0) (one_lt (Row.lt hr4))
 have q3:=dl (ofr j0) (sl _ p4.1)
 replace j0:=OE.low (G:=[]) j0 hB.size
 replace hr4:=kr hr4 qz
 replace p4:=ko p4 qz
 replace hB:=(hB.trans qz)
 refine Wb (Av v17 rfl) <| anz <| wq <| wq <| Wq rfl (cr [] kz) <| Qa (Ai rfl) <| fun j7 py=>anz <| Wf (S1:=(List Int)×Int) (fun s r w'=>match s with | (s0_8,s0_9)=>∃ (v27:Value) (j1:List Nat),Chg [] w w'∧Row w' b1 [.int .i64 (x0.Shape.Objects),zl,zk,zm,zn,zi] 34∧OE [] w.heap.size w' (sOwn 2 (sInt .i64)) [v12] (y8) nb∧OE [] w.heap.size w' (sOwn 2 (sInt .i64)) [v27] (s0_8) j1∧Dis [b1] nb∧Dis [b1] j1∧Dis nb j1∧∃ F,r=updL F [(2,v_x2),(3,.pointer (some (⟨b1,0,none⟩))),(7,v12),(8,v27),(9,.int .i64 (s0_9))]) (spec_l27Close_T w) ho ⟨_,_,(hB.trans py),(kr hr4 py),(ko p4 py),(ko j0 py),((d15).symm),((po).symm),((q3).symm),fe rfl⟩ ?_ ?_
 rintro ⟨s0_8,s0_9⟩ _ qs ⟨v27,j1,hB,hr4,p4,px,jx,j2,j3,F,rfl⟩ o ho
 replace ho:spec_l27Close_L0 x0 x2 y8 s0_8 s0_9=some o:=ho
 unfold spec_l27Close_L0 at ho
 refine wq <| wq <| Wq rfl (cr [] qs) <| Qa (Mi rfl) <| Qa (Mv v12 rfl) <| Qa (Ln sl22 ((Le.own (Le.refl _) 2).le p4.1) rfl) <| Qa (Bl rfl rfl) <| fun ng p1=>anz <| W_cond (b:=decide (s0_9 < (y8.length:Int))) rfl ?_ ?_
 intro nc
 rw [nc] at ho
 refine W_skip <| anz <| wq <| W_block <| wq <| ?_
 obtain ⟨e37,hx38e,ho⟩:=bs ho
 have hx38:=idx_some hx38e
 obtain ⟨e39,hx40e,ho⟩:=bs ho
 have hx40:=idx_some hx40e
 obtain ⟨e41,hx42e,ho⟩:=bs ho
 have hx42:=idx_some hx42e
 obtain ⟨u43,fu44,hu45,p3c,hs47⟩:=one_get rfl zj hx42.1 hx42.2
 obtain ⟨e48,hx49e,ho⟩:=bs ho
 have hx49:=idx_some hx49e
 obtain ⟨y50,p3d,ho⟩:=bs ho
 refine W_any (m:=21) (U:=.replicate 21 []) (S:=[sV (.pointer (some (⟨b1,5,none⟩))),sV (zi),sV (.pointer (some (⟨b1,0,none⟩))),sV (.pointer (some (⟨b1,2,none⟩))),sV (zk),sV (v12),sV (.int .i64 (s0_9)),sV (.pointer (some (elA (v12) 1 (s0_9)))),sV (.int .i64 (e37)),sV (.pointer (some (elA (zk) 1 (e37)))),sV (.int .i64 (e39)),sV (.pointer (some (elA (zi) 1 (e39)))),sV (u43),sV (.pointer (some (⟨b1,0,none⟩))),sV (.agg #[.int .i64 (x0.Shape.Objects),zl,zk,zm,zn]),sV (v12),sV (.int .i64 (s0_9)),sV (.pointer (some (elA (v12) 1 (s0_9)))),sV (.int .i64 (e48)),sV (v_x2),sO (sOwn 2 (sInt .i64)) (y50)]) (Z:=[]) hmix rfl (by decide) (by decide +kernel) (fun _ _ _ h=>np_out h) (by decide) rfl (by decide +kernel) (stable_all (by repeat first | exact stable_nil | refine stable_cons stable_val ?_ | refine stable_cons stable_own ?_)) ?_ ?_
 refine owes_cons ?_ <| owes_cons ?_ <| owes_cons ?_ <| owes_cons ?_ <| owes_cons ?_ <| owes_cons ?_ <| owes_cons ?_ <| owes_cons ?_ <| owes_cons ?_ <| owes_cons ?_ <| owes_cons ?_ <| owes_cons ?_ <| owes_cons ?_ <| owes_cons ?_ <| owes_cons ?_ <| owes_cons ?_ <| owes_cons ?_ <| owes_cons ?_ <| owes_cons ?_ <| owes_cons ?_ <| owes_cons ?_ <| owes_nil
 exact Oh rfl rfl rfl [(3,.pointer (some (⟨b1,0,none⟩)))] p1 rfl rfl fun _=>Fr fa34_1 rfl
 exact Ov rfl rfl rfl [] [(21,.pointer (some (⟨b1,5,none⟩)))] [0] p1 rfl rfl (by decide +kernel) rfl fun _=>Lr na26 hr4 rfl rfl
 exact Oh rfl rfl rfl [(3,.pointer (some (⟨b1,0,none⟩)))] p1 rfl rfl fun _=>Fr fa34_0 rfl
 exact Ov rfl rfl rfl [] [(23,.pointer (some (⟨b1,0,none⟩)))] [2] p1 rfl rfl (by decide +kernel) rfl fun _=>Fr fa32_2 rfl
 exact Ov rfl rfl rfl [] [(24,.pointer (some (⟨b1,2,none⟩)))] [3] p1 rfl rfl (by decide +kernel) rfl fun _=>Lr na22 hr4 rfl rfl
 exact Oh rfl rfl rfl [(7,v12)] p1 rfl rfl fun _=>Mv v12 rfl
 exact Oh rfl rfl rfl [(9,.int .i64 (s0_9))] p1 rfl rfl fun _=>Mi rfl
 exact Ov rfl rfl rfl [] [(26,v12),(27,.int .i64 (s0_9))] [5,6] p1 rfl rfl (by decide +kernel) rfl fun _=>Ix sl22 ((Le.own (Le.refl _) 2).le p4.1) hx38 rfl rfl rfl
 exact Ov rfl rfl rfl [] [(28,.pointer (some (elA (v12) 1 (s0_9))))] [7] p1 rfl rfl (by decide +kernel) rfl fun _=>Ei na2 ((Le.own (Le.refl _) 2).le p4.1) hx38 rfl
 exact Ov rfl rfl rfl [] [(25,zk),(29,.int .i64 (e37))] [4,8] p1 rfl rfl (by decide +kernel) rfl fun _=>Ix sl22 (kB zt hB) hx40 rfl rfl rfl
 exact Ov rfl rfl rfl [] [(30,.pointer (some (elA (zk) 1 (e37))))] [9] p1 rfl rfl (by decide +kernel) rfl fun _=>Ei na2 (kB zt hB) hx40 rfl
 exact Ov rfl rfl rfl [] [(22,zi),(31,.int .i64 (e39))] [1,10] p1 rfl rfl (by decide +kernel) rfl fun _=>Ix sl26 (kB zj hB) hx42 rfl rfl rfl
 exact Ov rfl rfl rfl [] [(32,.pointer (some (elA (zi) 1 (e39))))] [11] p1 rfl rfl (by decide +kernel) rfl fun _=>Ld na23 (hB.cell0 hu45) rfl
 exact Oh rfl rfl rfl [(3,.pointer (some (⟨b1,0,none⟩)))] p1 rfl rfl fun _=>Fr fa34_0 rfl
 refine Owes.val rfl rfl rfl <| fun g r wr hCr H hot=>?_
 have hC:=p1.trans hCr
 obtain ⟨F,rfl⟩:=fr (r:=r) (l:=[(34,.pointer (some (⟨b1,0,none⟩)))]) ⟨(H 13 (by decide +kernel) 34 rfl),trivial⟩
 exact op_loadAgg (cs:=[.int .i64 (x0.Shape.Objects),zl,zk,zm,zn]) u32 rfl info32 (by rw [sz32]; rfl) rfl (At.sub (kr hr4 hC).at 0 5)
 exact Oh rfl rfl rfl [(7,v12)] p1 rfl rfl fun _=>Mv v12 rfl
 exact Oh rfl rfl rfl [(9,.int .i64 (s0_9))] p1 rfl rfl fun _=>Mi rfl
 exact Ov rfl rfl rfl [] [(36,v12),(37,.int .i64 (s0_9))] [15,16] p1 rfl rfl (by decide +kernel) rfl fun _=>Ix sl22 ((Le.own (Le.refl _) 2).le p4.1) hx49 rfl rfl rfl
 exact Ov rfl rfl rfl [] [(38,.pointer (some (elA (v12) 1 (s0_9))))] [17] p1 rfl rfl (by decide +kernel) rfl fun _=>Ei na2 ((Le.own (Le.refl _) 2).le p4.1) hx49 rfl
 exact Oh rfl rfl rfl [(2,v_x2)] p1 rfl rfl fun _=>Mv v_x2 rfl
 refine Owes.mem rfl rfl rfl <| fun g r wr hCr H hot=>?_
 have hC:=p1.trans hCr
 obtain ⟨F,rfl⟩:=fr (r:=r) (l:=[(35,.agg #[.int .i64 (x0.Shape.Objects),zl,zk,zm,zn]),(39,.int .i64 (e48)),(40,v_x2)]) ⟨(H 14 (by decide +kernel) 35 rfl),(H 18 (by decide +kernel) 39 rfl),(H 19 (by decide +kernel) 40 rfl),trivial⟩
 exact OpW.own (op_callF Tryz.func144 rfl rfl) (spec_l25Pull_calls (kp _ zu (hB.trans hC)) (kp _ zt (hB.trans hC)) (kp _ zv (hB.trans hC)) (kp _ zw (hB.trans hC)) (kp _ h_x2 (hB.trans hC)) p3d)
 rintro g r p3e ⟨p3f,hdone,hot,hfresh,hdis⟩
 have qr:OwnV (sOwn 2 (sInt .i64)) (y50) _ _ _:=hdone 20 (by decide) (by decide) 41 rfl
 generalize hvv52:r 41=v52 at qr
 have hfo54:=hfresh 20 (by decide)
 have hdd:=hdis
 obtain ⟨F,rfl⟩:=fw hdone hot [(2,v_x2),(3,.pointer (some (⟨b1,0,none⟩))),(7,v12),(8,v27),(9,.int .i64 (s0_9))] [(33,u43)] [12] rfl rfl rfl rfl (z:=[(41,v52)]) ⟨hvv52,trivial⟩
 obtain ⟨f53,hgf53⟩ : ∃ k,k=g 20:=⟨_,rfl⟩
 rw [← hgf53] at qr hfo54
 replace qr:OE [] w.heap.size p3e (sOwn 2 (sInt .i64)) [v52] (y50) f53:=⟨qr.1,qr.2,fun b hb=>.inr (Nat.le_trans (hB.trans p1).size (hfo54 b hb).1)⟩
 have jy:=(p1.trans p3f)
 replace hr4:=kr hr4 jy
 replace p4:=ko p4 jy
 replace px:=ko px jy
 replace hB:=(hB.trans jy)
 obtain ⟨y61,p3h,ho⟩:=bs ho
 refine WL.call rfl (op_callF Tryz.func111 rfl rfl) (spec_l09Find_calls (kp _ p3c hB) ((Le.own (Le.refl _) 2).le qr.1) p3h) <| ?_
 rintro _ nk ⟨rfl,qa⟩
 refine ⟨_,rfl,?_⟩
 refine Wb (Bh rfl rfl) <| anz <| W_cond (b:=decide (y61 ≥ (0:Int))) rfl ?_ ?_
 intro nd
 rw [nd] at ho
 refine W_region rfl <| Wb (Mv v27 rfl) <| Wb (Mv v12 rfl) <| Wb (Mi rfl) <| ?_
 obtain ⟨e66,hx67e,ho⟩:=bs ho
 have hx67:=idx_some hx67e
 refine Wa qa (Ix sl22 ((Le.own (Le.refl _) 2).le p4.1) hx67 rfl rfl rfl) <| Wa qa (Ei na2 ((Le.own (Le.refl _) 2).le p4.1) hx67 rfl) <| WL.lit1 u22z info2 zr2 sz2 rfl fun b68 nm ql j4 p3j=>?_
 replace j4:Row nm b68 [.int .i64 (e66)] 2:=j4
 have ku:=dl (onw p3j) (sl _ (kp _ px.1 (qa)))
 have jz:=(qa).trans ql
 replace hr4:=kr hr4 jz
 replace p4:=ko p4 jz
 replace px:=ko px jz
 replace hB:=(hB.trans jz)
 obtain ⟨n84,hn85,ho⟩:=bs ho
 have hn85a:=fits_some hn85
 refine WL.append1 (E:=(sInt .i64)) _ _ u22z info2 zr2 sz2 rfl rfl rfl px rfl j4 ⟨rfl,rfl⟩ List.nodup_nil (fun _ h=>nomatch h) (fun _ h=>nomatch h) (by rw [by2]; exact hn85a.1) hn85a.2 hB.size fun v78 p3k f80 k0 o82 hs83=>?_
 have kv:=dis_upd hs83 (j2).symm (fun _ h=>nomatch h) (one_lt (Row.lt hr4))
 have kw:=dis_upd hs83 (j3).symm (fun _ h=>nomatch h) (sl _ p4.1)
 replace hr4:=Row.keep hr4 k0 (j2 _ (ms rfl))
 replace p4:=okp p4 k0 j3
 replace j4:=Row.keep j4 k0 (ku _ (ms rfl))
 replace hB:=hB.then k0 px.2.2
 refine Wb (Av v78 rfl) <| inBlk_n <| anz <| Wq rfl (cr [] p3k) <| Qa (Mi rfl) <| Qa (Ba rfl rfl) <| Qa (Ai rfl) <| fun p4n k1=>?_
 cases ho
 exact ⟨_,_,(hB.trans k1),(kr hr4 k1),(ko p4 k1),(ko o82 k1),jx,((kv).symm),((kw).symm),fe rfl⟩
 intro nd
 rw [nd] at ho
 refine W_skip <| inBlk_n <| anz <| Wq rfl qa <| Qa (Mi rfl) <| Qa (Ba rfl rfl) <| Qa (Ai rfl) <| fun p0h qm=>?_
 cases ho
 exact ⟨_,_,(hB.trans qm),(kr hr4 qm),(ko p4 qm),(ko px qm),jx,j2,j3,fe rfl⟩
 intro nc
 rw [nc] at ho
 refine W_exit <| andThen_x <| ?_
 cases ho
 exact ⟨rfl,⟨_,_,(hB.trans p1),(kr hr4 p1),(ko p4 p1),(ko px p1),jx,j2,j3,fe rfl⟩⟩
 rintro ⟨s0_8,s0_9⟩ _ p3m ⟨v27,j1,hB,hr4,p4,px,jx,j2,j3,F,rfl⟩ ho
 dsimp only at ho
 refine anz <| wq <| Wq rfl (cr [] p3m) <| Qa (Mv v27 rfl) <| Qa (Av v27 rfl) <| fun p4o p00=>anz <| ?_
 cases ho
 exact W_ret ⟨_,res_1 Tryz.results79,_,_,rfl,(hB.trans p00),(ko px p00)⟩
end Go.Proofs.YtcmckiiafgcmjaaGreat
