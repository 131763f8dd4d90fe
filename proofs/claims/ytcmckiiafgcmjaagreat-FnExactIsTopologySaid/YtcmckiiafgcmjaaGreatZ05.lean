/- Walks, printed by a program: that a call of each function computes what its model says. No condition beside those that each theorem names. -/
import Derived.Test.YtcmckiiafgcmjaaGreatTy
import Derived.Test.YtcmckiiafgcmjaaGreatMo
import Derived.Test.YtcmckiiafgcmjaaGreatZ00
import Derived.Test.YtcmckiiafgcmjaaGreatZ02
import Derived.Test.YtcmckiiafgcmjaaGreatZ03
import Derived.Test.YtcmckiiafgcmjaaGreatZ04
namespace Go.Proofs.YtcmckiiafgcmjaaGreat
open Go Go.Li
set_option linter.unusedVariables false
set_option maxHeartbeats 4000000
set_option maxRecDepth 100000
abbrev impl_coverage_locally_post (w:World) (x:(Bool)) (e:Ending) (w':World):Prop:=e = .returned (.bool x)∧Chg [] w w'
abbrev impl_coverage_locally_T (w:World):=Tm Tryz.prog Tryz.f211 36 (impl_coverage_locally_post w)
theorem impl_coverage_locally_calls {w:World} {x0:MCoverage} {p_x0:Addr} {p_x0_Classifier:Addr} {z1m:Value} {z1t:List Nat} {z1n:Value} {z1u:List Nat} {z1o:Value} {z1v:List Nat} {z1p:Value} {z1w:List Nat} {z1q:Value} {z1x:List Nat} {z1d:Value} {z1y:List Nat} {z1f:Value} {z20:List Nat} {p_x0_C:Addr} {zu:Value} {z19:List Nat} {zo:Value} {z1a:List Nat} {z10:Value} {z1b:List Nat} {z11:Value} {z1c:List Nat} {zi:Value} {zj:List Nat} {p_x0_Count:Addr} {x1:(List Int)} {v_x1:Value} {f_x1:List Nat} {x2:(List Int)} {v_x2:Value} {f_x2:List Nat} (z1h:(sImm (sInt .i64)).rep w.heap [z1m] x0.Classifier.Sets.Shape.From z1t) (z1i:(sImm (sInt .i64)).rep w.heap [z1n] x0.Classifier.Sets.Shape.To z1u) (z1j:(sImm (sInt .i64)).rep w.heap [z1o] x0.Classifier.Sets.Shape.Identity z1v) (z1k:(sImm (sImm (sInt .i64))).rep w.heap [z1p] x0.Classifier.Sets.Shape.Composites z1w) (z1l:(sImm (sInt .i64)).rep w.heap [z1q] x0.Classifier.Sets.Sizes z1x) (z1g:(sImm (sImm (sInt .i64))).rep w.heap [z1d] x0.Classifier.Sets.Actions z1y) (z1e:(sImm (sImm (sImm (sInt .i64)))).rep w.heap [z1f] x0.Classifier.Sieves z20) (a_x0_Classifier:At w p_x0_Classifier [.int .i64 (x0.Classifier.Sets.Shape.Objects),z1m,z1n,z1o,z1p,z1q,z1d,z1f]) (z16:(sImm (sInt .i64)).rep w.heap [zu] x0.C.From z19) (z12:(sImm (sInt .i64)).rep w.heap [zo] x0.C.To z1a) (z17:(sImm (sInt .i64)).rep w.heap [z10] x0.C.Identity z1b) (z18:(sImm (sImm (sInt .i64))).rep w.heap [z11] x0.C.Composites z1c) (a_x0_C:At w p_x0_C [.int .i64 (x0.C.Objects),zu,zo,z10,z11]) (zh:(sImm (sImm sBool)).rep w.heap [zi] x0.Covers zj) (a_x0_Count:At w p_x0_Count [.int .i64 (x0.Count)]) (a_x0:At w p_x0 [.pointer (some (p_x0_Classifier)),.pointer (some (p_x0_C)),zi,.pointer (some (p_x0_Count))]) (h_x1:(sImm (sInt .i64)).rep w.heap [v_x1] x1 f_x1) (h_x2:(sImm (sInt .i64)).rep w.heap [v_x2] x2 f_x2) {y:(Bool)} (hm:impl_coverage_locally x0 x1 x2=some y) :
  Calls Tryz.prog 211 #[.pointer (some (p_x0)),v_x1,v_x2] w (impl_coverage_locally_post w y):=by
 refine Cm (S:=Unit) Tryz.func211 rfl Tryz.ntmps211 rfl hm fun o ho hB=>?_
 clear hm
 refine wq <| Wq rfl (cr [] w) <| Qa (Ab rfl) <| fun wd1 hC2=>anz <| wq <| wq <| Wq rfl hC2 <| Qa (Mv v_x2 rfl) <| Qa (Ln sl114 (kB h_x2 hB) rfl) <| Qa (Mi rfl) <| fun wd3 hC4=>anz <| Wf (S1:=Int) (fun (s0_11:Int) r w'=>Chg [] w w'∧∃ F,r=updL F [(0,.pointer (some (p_x0))),(1,v_x1),(9,v_x2),(10,.int .i64 ((x2.length:Int))),(11,.int .i64 (s0_11))]) (impl_coverage_locally_T w) ho ⟨(hB.trans hC4),fe rfl⟩ ?_ ?_
 rintro s0_11 _ wd5 ⟨hB,F,rfl⟩ o ho
 replace ho:impl_coverage_locally_L0 x0 x1 x2 s0_11=some o:=ho
 unfold impl_coverage_locally_L0 at ho
 refine wq <| Wq rfl (cr [] wd5) <| Qa (Bl rfl rfl) <| fun wd6 hC7=>anz <| wq <| W_cond (b:=decide (s0_11 < (x2.length:Int))) rfl ?_ ?_
 intro hb8
 rw [hb8] at ho
 refine W_skip <| anz <| wq <| W_block <| wq <| Wq rfl hC7 <| ?_
 obtain ⟨e9,hx10e,ho⟩:=bs ho
 have hx10:=idx_some hx10e
 refine Qa (Ix sl114 (kB h_x2 hB) hx10 rfl rfl rfl) <| Qa (Ei na2 (kB h_x2 hB) hx10 rfl) <| Qa (Ai rfl) <| fun kw p0=>anz <| wq <| ?_
 obtain ⟨e13,hx14e,ho⟩:=bs ho
 have hx14:=idx_some hx14e
 obtain ⟨y15,p0f,ho⟩:=bs ho
 refine W_any (m:=18) (U:=.replicate 18 []) (S:=[sV (.pointer (some (p_x0))),sV (.pointer (some (p_x0))),sV (.pointer (some (p_x0))),sV (.pointer (some (p_x0.add 1))),sV (.pointer (some (p_x0_C))),sV (.pointer (some (p_x0_C))),sV (.pointer (some (p_x0_C.add 2))),sV (zo),sV (.int .i64 (e9)),sV (.pointer (some (elA (zo) 1 (e9)))),sV (.int .i64 (e13)),sV (.pointer (some (p_x0))),sV (.pointer (some (p_x0))),sV (.pointer (some (p_x0.add 1))),sV (.pointer (some (p_x0_C))),sV (.int .i64 (e9)),sV (v_x1),sO (sOwn 2 (sInt .i64)) (y15)]) (Z:=[]) hmix rfl (by decide) (by decide +kernel) (fun _ _ _ h=>np_out h) (by decide) rfl (by decide +kernel) (stable_all (by repeat first | exact stable_nil | refine stable_cons stable_val ?_ | refine stable_cons stable_own ?_)) ?_ ?_
 refine owes_cons ?_ <| owes_cons ?_ <| owes_cons ?_ <| owes_cons ?_ <| owes_cons ?_ <| owes_cons ?_ <| owes_cons ?_ <| owes_cons ?_ <| owes_cons ?_ <| owes_cons ?_ <| owes_cons ?_ <| owes_cons ?_ <| owes_cons ?_ <| owes_cons ?_ <| owes_cons ?_ <| owes_cons ?_ <| owes_cons ?_ <| owes_cons ?_ <| owes_nil
 exact Oh rfl rfl rfl [(0,.pointer (some (p_x0)))] p0 rfl rfl fun _=>Mp rfl
 exact Oh rfl rfl rfl [(0,.pointer (some (p_x0)))] p0 rfl rfl fun _=>Mp rfl
 exact Ov rfl rfl rfl [] [(16,.pointer (some (p_x0)))] [1] p0 rfl rfl (by decide +kernel) rfl fun _=>Nk rfl
 exact Ov rfl rfl rfl [] [(17,.pointer (some (p_x0)))] [2] p0 rfl rfl (by decide +kernel) rfl fun _=>Fp fa144_1 rfl
 exact Ov rfl rfl rfl [] [(18,.pointer (some (p_x0.add 1)))] [3] p0 rfl rfl (by decide +kernel) rfl fun _=>La na131 (At.keep0 a_x0 hB) rfl rfl
 exact Ov rfl rfl rfl [] [(19,.pointer (some (p_x0_C)))] [4] p0 rfl rfl (by decide +kernel) rfl fun _=>Nk rfl
 exact Ov rfl rfl rfl [] [(20,.pointer (some (p_x0_C)))] [5] p0 rfl rfl (by decide +kernel) rfl fun _=>Fp fa32_2 rfl
 exact Ov rfl rfl rfl [] [(21,.pointer (some (p_x0_C.add 2)))] [6] p0 rfl rfl (by decide +kernel) rfl fun _=>La na22 (At.keep0 a_x0_C hB) rfl rfl
 exact Oh rfl rfl rfl [(8,.int .i64 (e9))] p0 rfl rfl fun _=>Mi rfl
 exact Ov rfl rfl rfl [] [(22,zo),(23,.int .i64 (e9))] [7,8] p0 rfl rfl (by decide +kernel) rfl fun _=>Ix sl22 (kB z12 hB) hx14 rfl rfl rfl
 exact Ov rfl rfl rfl [] [(24,.pointer (some (elA (zo) 1 (e9))))] [9] p0 rfl rfl (by decide +kernel) rfl fun _=>Ei na2 (kB z12 hB) hx14 rfl
 exact Oh rfl rfl rfl [(0,.pointer (some (p_x0)))] p0 rfl rfl fun _=>Mp rfl
 exact Ov rfl rfl rfl [] [(26,.pointer (some (p_x0)))] [11] p0 rfl rfl (by decide +kernel) rfl fun _=>Nk rfl
 exact Ov rfl rfl rfl [] [(27,.pointer (some (p_x0)))] [12] p0 rfl rfl (by decide +kernel) rfl fun _=>Fp fa144_1 rfl
 exact Ov rfl rfl rfl [] [(28,.pointer (some (p_x0.add 1)))] [13] p0 rfl rfl (by decide +kernel) rfl fun _=>La na131 (At.keep0 a_x0 hB) rfl rfl
 exact Oh rfl rfl rfl [(8,.int .i64 (e9))] p0 rfl rfl fun _=>Mi rfl
 exact Oh rfl rfl rfl [(1,v_x1)] p0 rfl rfl fun _=>Mv v_x1 rfl
 refine Owes.mem rfl rfl rfl <| fun g r wr hCr H hot=>?_
 have hC:=p0.trans hCr
 obtain ⟨F,rfl⟩:=fr (r:=r) (l:=[(29,.pointer (some (p_x0_C))),(30,.int .i64 (e9)),(31,v_x1)]) ⟨(H 14 (by decide +kernel) 29 rfl),(H 15 (by decide +kernel) 30 rfl),(H 16 (by decide +kernel) 31 rfl),trivial⟩
 exact OpW.own (op_callF Tryz.func153 rfl rfl) (impl_Category_pull_calls (kp _ z16 (hB.trans hC)) (kp _ z12 (hB.trans hC)) (kp _ z17 (hB.trans hC)) (kp _ z18 (hB.trans hC)) (At.keep0 a_x0_C (hB.trans hC)) (kp _ h_x1 (hB.trans hC)) p0f)
 rintro g r p0g ⟨p0h,hdone,hot,hfresh,hdis⟩
 have p5:OwnV (sOwn 2 (sInt .i64)) (y15) _ _ _:=hdone 17 (by decide) (by decide) 32 rfl
 generalize hvv17:r 32=v17 at p5
 have hfo19:=hfresh 17 (by decide)
 have hdd:=hdis
 obtain ⟨F,rfl⟩:=fw hdone hot [(0,.pointer (some (p_x0))),(1,v_x1),(9,v_x2),(10,.int .i64 ((x2.length:Int))),(11,.int .i64 (s0_11))] [(15,.pointer (some (p_x0))),(25,.int .i64 (e13))] [0,10] rfl rfl rfl rfl (z:=[(32,v17)]) ⟨hvv17,trivial⟩
 obtain ⟨jg,hgf18⟩ : ∃ k,k=g 17:=⟨_,rfl⟩
 rw [← hgf18] at p5 hfo19
 replace p5:OE [] w.heap.size p0g (sOwn 2 (sInt .i64)) [v17] (y15) jg:=⟨p5.1,p5.2,fun b hb=>.inr (Nat.le_trans (hB.trans p0).size (hfo19 b hb).1)⟩
 have p0i:=(p0.trans p0h)
 replace hB:=(hB.trans p0i)
 obtain ⟨y23,kx,ho⟩:=bs ho
 refine WL.call rfl (op_callF Tryz.func152 rfl rfl) (impl_coverage_is_calls (kp _ z1h hB) (kp _ z1i hB) (kp _ z1j hB) (kp _ z1k hB) (kp _ z1l hB) (kp _ z1g hB) (kp _ z1e hB) (At.keep0 a_x0_Classifier hB) (kp _ z16 hB) (kp _ z12 hB) (kp _ z17 hB) (kp _ z18 hB) (At.keep0 a_x0_C hB) (kp _ zh hB) (At.keep0 a_x0_Count hB) (At.keep0 a_x0 hB) ((Le.own (Le.refl _) 2).le p5.1) kx) <| ?_
 rintro _ ky ⟨rfl,qy⟩
 refine ⟨_,rfl,?_⟩
 refine Wb (Nt rfl) <| anz <| W_cond (b:=!(y23)) rfl ?_ ?_
 intro q5
 rw [q5] at ho
 refine wq <| Wq rfl qy <| Qa (Ab rfl) <| fun p0j kz=>anz <| ?_
 cases ho
 exact W_ret ⟨_,res_1 Tryz.results211,rfl,(hB.trans kz)⟩
 intro q5
 rw [q5] at ho
 refine W_skip <| inBlk_n <| anz <| Wq rfl qy <| Qa (Ba rfl rfl) <| Qa (Mi rfl) <| fun jh pd=>?_
 cases ho
 exact ⟨(hB.trans pd),fe rfl⟩
 intro hb8
 rw [hb8] at ho
 refine W_exit <| andThen_x <| ?_
 cases ho
 exact ⟨rfl,⟨(hB.trans hC7),fe rfl⟩⟩
 rintro s0_11 _ p0k ⟨hB,F,rfl⟩ ho
 refine anz <| wq <| Wq rfl (cr [] p0k) <| Qa (Ab rfl) <| fun n0 q6=>anz <| ?_
 cases ho
 exact W_ret ⟨_,res_1 Tryz.results211,rfl,(hB.trans q6)⟩

abbrev impl_coverage_follows_isTop_post (b_x1a:Nat) (w:World) (x:(Bool)) (e:Ending) (w':World):Prop:=e = .returned (.tuple #[])∧Chg [b_x1a] w w'∧Row w' b_x1a [.bool x] 4
abbrev impl_coverage_follows_isTop_T (b_x1a:Nat) (w:World):=Tm Tryz.prog Tryz.f157 158 (impl_coverage_follows_isTop_post b_x1a w)
theorem impl_coverage_follows_isTop_calls {w:World} {x0:MCoverage} {p_x0:Addr} {p_x0_Classifier:Addr} {z1m:Value} {z1t:List Nat} {z1n:Value} {z1u:List Nat} {z1o:Value} {z1v:List Nat} {z1p:Value} {z1w:List Nat} {z1q:Value} {z1x:List Nat} {z1d:Value} {z1y:List Nat} {z1f:Value} {z20:List Nat} {p_x0_C:Addr} {zu:Value} {z19:List Nat} {zo:Value} {z1a:List Nat} {z10:Value} {z1b:List Nat} {z11:Value} {z1c:List Nat} {zi:Value} {zj:List Nat} {p_x0_Count:Addr} {x1a:Bool} {b_x1a:Nat} {p_x1b:Addr} (z1h:(sImm (sInt .i64)).rep w.heap [z1m] x0.Classifier.Sets.Shape.From z1t) (z1i:(sImm (sInt .i64)).rep w.heap [z1n] x0.Classifier.Sets.Shape.To z1u) (z1j:(sImm (sInt .i64)).rep w.heap [z1o] x0.Classifier.Sets.Shape.Identity z1v) (z1k:(sImm (sImm (sInt .i64))).rep w.heap [z1p] x0.Classifier.Sets.Shape.Composites z1w) (z1l:(sImm (sInt .i64)).rep w.heap [z1q] x0.Classifier.Sets.Sizes z1x) (z1g:(sImm (sImm (sInt .i64))).rep w.heap [z1d] x0.Classifier.Sets.Actions z1y) (z1e:(sImm (sImm (sImm (sInt .i64)))).rep w.heap [z1f] x0.Classifier.Sieves z20) (a_x0_Classifier:At w p_x0_Classifier [.int .i64 (x0.Classifier.Sets.Shape.Objects),z1m,z1n,z1o,z1p,z1q,z1d,z1f]) (z16:(sImm (sInt .i64)).rep w.heap [zu] x0.C.From z19) (z12:(sImm (sInt .i64)).rep w.heap [zo] x0.C.To z1a) (z17:(sImm (sInt .i64)).rep w.heap [z10] x0.C.Identity z1b) (z18:(sImm (sImm (sInt .i64))).rep w.heap [z11] x0.C.Composites z1c) (a_x0_C:At w p_x0_C [.int .i64 (x0.C.Objects),zu,zo,z10,z11]) (zh:(sImm (sImm sBool)).rep w.heap [zi] x0.Covers zj) (a_x0_Count:At w p_x0_Count [.int .i64 (x0.Count)]) (a_x0:At w p_x0 [.pointer (some (p_x0_Classifier)),.pointer (some (p_x0_C)),zi,.pointer (some (p_x0_Count))]) (r_x1a:Row w b_x1a [.bool (x1a)] 4) (a_x1b:At w p_x1b [.pointer (some (p_x0))]) (n_h_x0_Classifier_Sets_Shape_From:Dis z1t [b_x1a]) (n_h_x0_Classifier_Sets_Shape_To:Dis z1u [b_x1a]) (n_h_x0_Classifier_Sets_Shape_Identity:Dis z1v [b_x1a]) (n_h_x0_Classifier_Sets_Shape_Composites:Dis z1w [b_x1a]) (n_h_x0_Classifier_Sets_Sizes:Dis z1x [b_x1a]) (n_h_x0_Classifier_Sets_Actions:Dis z1y [b_x1a]) (n_h_x0_Classifier_Sieves:Dis z20 [b_x1a]) (n_x0_Classifier:p_x0_Classifier.block ∉ [b_x1a]) (n_h_x0_C_From:Dis z19 [b_x1a]) (n_h_x0_C_To:Dis z1a [b_x1a]) (n_h_x0_C_Identity:Dis z1b [b_x1a]) (n_h_x0_C_Composites:Dis z1c [b_x1a]) (n_x0_C:p_x0_C.block ∉ [b_x1a]) (n_h_x0_Covers:Dis zj [b_x1a]) (n_x0_Count:p_x0_Count.block ∉ [b_x1a]) (n_x0:p_x0.block ∉ [b_x1a]) (n_x1b:p_x1b.block ∉ [b_x1a]) {y:(Bool)} (hm:impl_coverage_follows_isTop x0 x1a=some y) :
  Calls Tryz.prog 157 #[.pointer (some (p_x0)),.func (.func 208) #[] #[.pointer (some (⟨b_x1a,0,none⟩)),.pointer (some (p_x1b))]] w (impl_coverage_follows_isTop_post b_x1a w y):=by
 refine Cv (R:=(Bool)) Tryz.func157 rfl Tryz.ntmps157 rfl hm fun o ho hB=>?_
 clear hm
 have hB:Chg [b_x1a] w w:=cr _ _
 refine wq <| wq <| W_region rfl <| Wb (Mp rfl) <| Wb (Nk rfl) <| Wb (F0 fa144_0 rfl) <| Wb (Lb na141 (At.keep a_x0 hB n_x0) rfl rfl) <| ?_
 obtain ⟨y13,p0l,ho⟩:=bs ho
 refine WL.call rfl (op_callF Tryz.func123 rfl rfl) (impl_classifier_tops_calls (STy.keep _ z1h hB n_h_x0_Classifier_Sets_Shape_From) (STy.keep _ z1i hB n_h_x0_Classifier_Sets_Shape_To) (STy.keep _ z1j hB n_h_x0_Classifier_Sets_Shape_Identity) (STy.keep _ z1k hB n_h_x0_Classifier_Sets_Shape_Composites) (STy.keep _ z1l hB n_h_x0_Classifier_Sets_Sizes) (STy.keep _ z1g hB n_h_x0_Classifier_Sets_Actions) (STy.keep _ z1e hB n_h_x0_Classifier_Sieves) (At.keep a_x0_Classifier hB n_x0_Classifier) p0l) <| ?_
 rintro _ p3a ⟨v17,jg,rfl,gf,p5⟩
 refine ⟨_,rfl,?_⟩
 have d20:=dl (ofr p5) (one_lt (Row.lt r_x1a))
 replace p5:=OE.low (G:=[b_x1a]) p5 hB.size
 replace r_x1a:=kr r_x1a gf
 replace hB:=(hB.trans (Chg.nil gf))
 refine Wb (Ln sl22 ((Le.own (Le.refl _) 2).le p5.1) rfl) <| Wb (Mi rfl) <| anz <| Wf (S1:=Int×Bool) (fun s r w'=>match s with | (s0_20,s0_b_x1a_0)=>Chg [b_x1a] w w'∧Row w' b_x1a [.bool (s0_b_x1a_0)] 4∧OE [b_x1a] w.heap.size w' (sOwn 2 (sInt .i64)) [v17] (y13) jg∧Dis [b_x1a] jg∧∃ F,r=updL F [(0,.pointer (some (p_x0))),(1,.func (.func 208) #[] #[.pointer (some (⟨b_x1a,0,none⟩)),.pointer (some (p_x1b))]),(18,v17),(19,.int .i64 ((y13.length:Int))),(20,.int .i64 (s0_20))]) (impl_coverage_follows_isTop_T b_x1a w) ho ⟨hB,r_x1a,p5,((d20).symm),fe rfl⟩ ?_ ?_
 rintro ⟨s0_20,s0_b_x1a_0⟩ _ ji ⟨hB,r_x1a,p5,jj,F,rfl⟩ o ho
 replace ho:impl_coverage_follows_isTop_L0 x0 y13 s0_20 s0_b_x1a_0=some o:=ho
 unfold impl_coverage_follows_isTop_L0 at ho
 refine wq <| Wq rfl (cr [] ji) <| Qa (Bl rfl rfl) <| fun p3b jk=>anz <| wq <| W_cond (b:=decide (s0_20 < (y13.length:Int))) rfl ?_ ?_
 intro n1
 rw [n1] at ho
 refine W_skip <| anz <| wq <| W_block <| wq <| Wq rfl jk <| Qa (Mi rfl) <| ?_
 obtain ⟨e27,hx28e,ho⟩:=bs ho
 have hx28:=idx_some hx28e
 refine Qa (Ix sl22 ((Le.own (Le.refl _) 2).le p5.1) hx28 rfl rfl rfl) <| Qa (Ei na2 ((Le.own (Le.refl _) 2).le p5.1) hx28 rfl) <| Qa (Ai rfl) <| Qa (Ai rfl) <| fun p0n p0o=>anz <| W_region rfl <| Wb (Mv (.func (.func 208) #[] #[.pointer (some (⟨b_x1a,0,none⟩)),.pointer (some p_x1b)]) rfl) <| Wb (Mi rfl) <| Wb (Mi rfl) <| ?_
 have n2:=p0o.trans (cr [] p0n)
 replace r_x1a:=kr r_x1a n2
 replace p5:=ko p5 n2
 replace hB:=(hB.trans (Chg.nil n2))
 obtain ⟨y32,p0p,ho⟩:=bs ho
 refine WL.call rfl (op_callT (fst:=[]) (cap:=[.pointer (some (⟨b_x1a,0,none⟩)),.pointer (some (p_x1b))]) rfl Tryz.func208 rfl rfl) (impl_coverage_isTopology_1_calls r_x1a (STy.keep _ z1h hB n_h_x0_Classifier_Sets_Shape_From) (STy.keep _ z1i hB n_h_x0_Classifier_Sets_Shape_To) (STy.keep _ z1j hB n_h_x0_Classifier_Sets_Shape_Identity) (STy.keep _ z1k hB n_h_x0_Classifier_Sets_Shape_Composites) (STy.keep _ z1l hB n_h_x0_Classifier_Sets_Sizes) (STy.keep _ z1g hB n_h_x0_Classifier_Sets_Actions) (STy.keep _ z1e hB n_h_x0_Classifier_Sieves) (At.keep a_x0_Classifier hB n_x0_Classifier) (STy.keep _ z16 hB n_h_x0_C_From) (STy.keep _ z12 hB n_h_x0_C_To) (STy.keep _ z17 hB n_h_x0_C_Identity) (STy.keep _ z18 hB n_h_x0_C_Composites) (At.keep a_x0_C hB n_x0_C) (STy.keep _ zh hB n_h_x0_Covers) (At.keep a_x0_Count hB n_x0_Count) (At.keep a_x0 hB n_x0) (At.keep a_x1b hB n_x1b) (dis_parF z1h n_h_x0_Classifier_Sets_Shape_From (fun i hi=>.inl (by simp [List.mem_singleton.1 hi]))) (dis_parF z1i n_h_x0_Classifier_Sets_Shape_To (fun i hi=>.inl (by simp [List.mem_singleton.1 hi]))) (dis_parF z1j n_h_x0_Classifier_Sets_Shape_Identity (fun i hi=>.inl (by simp [List.mem_singleton.1 hi]))) (dis_parF z1k n_h_x0_Classifier_Sets_Shape_Composites (fun i hi=>.inl (by simp [List.mem_singleton.1 hi]))) (dis_parF z1l n_h_x0_Classifier_Sets_Sizes (fun i hi=>.inl (by simp [List.mem_singleton.1 hi]))) (dis_parF z1g n_h_x0_Classifier_Sets_Actions (fun i hi=>.inl (by simp [List.mem_singleton.1 hi]))) (dis_parF z1e n_h_x0_Classifier_Sieves (fun i hi=>.inl (by simp [List.mem_singleton.1 hi]))) (pat_out a_x0_Classifier n_x0_Classifier (fun i hi=>.inl (by simp [List.mem_singleton.1 hi]))) (dis_parF z16 n_h_x0_C_From (fun i hi=>.inl (by simp [List.mem_singleton.1 hi]))) (dis_parF z12 n_h_x0_C_To (fun i hi=>.inl (by simp [List.mem_singleton.1 hi]))) (dis_parF z17 n_h_x0_C_Identity (fun i hi=>.inl (by simp [List.mem_singleton.1 hi]))) (dis_parF z18 n_h_x0_C_Composites (fun i hi=>.inl (by simp [List.mem_singleton.1 hi]))) (pat_out a_x0_C n_x0_C (fun i hi=>.inl (by simp [List.mem_singleton.1 hi]))) (dis_parF zh n_h_x0_Covers (fun i hi=>.inl (by simp [List.mem_singleton.1 hi]))) (pat_out a_x0_Count n_x0_Count (fun i hi=>.inl (by simp [List.mem_singleton.1 hi]))) (pat_out a_x0 n_x0 (fun i hi=>.inl (by simp [List.mem_singleton.1 hi]))) (pat_out a_x1b n_x1b (fun i hi=>.inl (by simp [List.mem_singleton.1 hi]))) p0p) ?_
 rintro _ p0q ⟨rfl,gg,qg⟩
 refine ⟨_,rfl,?_⟩
 replace p5:=okp p5 gg (Dis.symm jj)
 replace hB:=hB.then gg (fun i hi=>.inl (by simp [List.mem_singleton.1 hi]))
 refine inBlk_n <| anz <| Wq rfl (cr [] p0q) <| Qa (Ba rfl rfl) <| Qa (Mi rfl) <| fun gh q7=>?_
 cases ho
 exact ⟨(hB.trans (Chg.nil q7)),(kr qg q7),(ko p5 q7),jj,fe rfl⟩
 intro n1
 rw [n1] at ho
 refine W_exit <| andThen_x <| ?_
 cases ho
 exact ⟨rfl,⟨(hB.trans (Chg.nil jk)),(kr r_x1a jk),(ko p5 jk),jj,fe rfl⟩⟩
 rintro ⟨s0_20,s0_b_x1a_0⟩ _ gi ⟨hB,r_x1a,p5,jj,F,rfl⟩ ho
 dsimp only at ho
 refine anz <| wq <| wq <| Wq rfl (cr [] gi) <| Qa (Mp rfl) <| Qa (Nk rfl) <| Qa (Fp fa144_1 rfl) <| Qa (La na131 (At.keep a_x0 hB n_x0) rfl rfl) <| Qa (Nk rfl) <| Qa (Fp fa32_1 rfl) <| Qa (La na22 (At.keep a_x0_C hB n_x0_C) rfl rfl) <| Qa (Ln sl22 (STy.keep _ z16 hB n_h_x0_C_From) rfl) <| Qa (Mi rfl) <| fun p3c gj=>anz <| Wf (S1:=Int×Bool) (fun s r w'=>match s with | (s1_38,s1_b_x1a_0)=>Chg [b_x1a] w w'∧Row w' b_x1a [.bool (s1_b_x1a_0)] 4∧∃ F,r=updL F [(0,.pointer (some (p_x0))),(1,.func (.func 208) #[] #[.pointer (some (⟨b_x1a,0,none⟩)),.pointer (some (p_x1b))]),(37,.int .i64 ((x0.C.From.length:Int))),(38,.int .i64 (s1_38))]) (impl_coverage_follows_isTop_T b_x1a w) ho ⟨(hB.trans (Chg.nil gj)),(kr r_x1a gj),fe rfl⟩ ?_ ?_
 rintro ⟨s1_38,s1_b_x1a_0⟩ _ p0r ⟨hB,r_x1a,F,rfl⟩ o ho
 replace ho:impl_coverage_follows_isTop_L1 x0 s1_38 s1_b_x1a_0=some o:=ho
 unfold impl_coverage_follows_isTop_L1 at ho
 refine wq <| Wq rfl (cr [] p0r) <| Qa (Bl rfl rfl) <| fun p0s qh=>anz <| wq <| W_cond (b:=decide (s1_38 < (x0.C.From.length:Int))) rfl ?_ ?_
 intro q8
 rw [q8] at ho
 refine W_skip <| anz <| wq <| W_block <| wq <| Wq rfl qh <| Qa (Mi rfl) <| Qa (Ai rfl) <| fun p0t p4=>anz <| wq <| ?_
 obtain ⟨e49,hx50e,ho⟩:=bs ho
 have hx50:=idx_some hx50e
 obtain ⟨e51,hx52e,ho⟩:=bs ho
 have hx52:=idx_some hx52e
 obtain ⟨u53,fu54,hu55,p0u,hs57⟩:=one_getP rfl zh hB n_h_x0_Covers hx52.1 hx52.2
 have n_hr56:Dis fu54 [b_x1a]:=fun b hb=>n_h_x0_Covers b (hs57 b hb)
 obtain ⟨y58,n3,ho⟩:=bs ho
 refine W_any (m:=19) (U:=.replicate 19 []) (S:=[sV (.pointer (some (p_x0))),sV (.pointer (some (p_x0))),sV (.pointer (some (p_x0.add 2))),sV (zi),sV (.pointer (some (p_x0))),sV (.pointer (some (p_x0))),sV (.pointer (some (p_x0.add 1))),sV (.pointer (some (p_x0_C))),sV (.pointer (some (p_x0_C))),sV (.pointer (some (p_x0_C.add 1))),sV (zu),sV (.int .i64 (s1_38)),sV (.pointer (some (elA (zu) 1 (s1_38)))),sV (.int .i64 (e49)),sV (.pointer (some (elA (zi) 1 (e49)))),sV (u53),sO (sOwn 4 sBool) (y58),sV (.int .i64 ((y58.length:Int))),sV (.int .i64 ((0:Int)))]) (Z:=[]) hmix rfl (by decide) (by decide +kernel) (fun _ _ _ h=>np_out h) (by decide) rfl (by decide +kernel) (stable_all (by repeat first | exact stable_nil | refine stable_cons stable_val ?_ | refine stable_cons stable_own ?_)) ?_ ?_
 refine owes_cons ?_ <| owes_cons ?_ <| owes_cons ?_ <| owes_cons ?_ <| owes_cons ?_ <| owes_cons ?_ <| owes_cons ?_ <| owes_cons ?_ <| owes_cons ?_ <| owes_cons ?_ <| owes_cons ?_ <| owes_cons ?_ <| owes_cons ?_ <| owes_cons ?_ <| owes_cons ?_ <| owes_cons ?_ <| owes_cons ?_ <| owes_cons ?_ <| owes_cons ?_ <| owes_nil
 exact Oh rfl rfl rfl [(0,.pointer (some (p_x0)))] p4 rfl rfl fun _=>Mp rfl
 exact Ov rfl rfl rfl [] [(41,.pointer (some (p_x0)))] [0] p4 rfl rfl (by decide +kernel) rfl fun _=>Nk rfl
 exact Ov rfl rfl rfl [] [(42,.pointer (some (p_x0)))] [1] p4 rfl rfl (by decide +kernel) rfl fun _=>Fp fa144_2 rfl
 exact Ov rfl rfl rfl [] [(43,.pointer (some (p_x0.add 2)))] [2] p4 rfl rfl (by decide +kernel) rfl fun _=>La na97 (At.keep a_x0 hB n_x0) rfl rfl
 exact Oh rfl rfl rfl [(0,.pointer (some (p_x0)))] p4 rfl rfl fun _=>Mp rfl
 exact Ov rfl rfl rfl [] [(45,.pointer (some (p_x0)))] [4] p4 rfl rfl (by decide +kernel) rfl fun _=>Nk rfl
 exact Ov rfl rfl rfl [] [(46,.pointer (some (p_x0)))] [5] p4 rfl rfl (by decide +kernel) rfl fun _=>Fp fa144_1 rfl
 exact Ov rfl rfl rfl [] [(47,.pointer (some (p_x0.add 1)))] [6] p4 rfl rfl (by decide +kernel) rfl fun _=>La na131 (At.keep a_x0 hB n_x0) rfl rfl
 exact Ov rfl rfl rfl [] [(48,.pointer (some (p_x0_C)))] [7] p4 rfl rfl (by decide +kernel) rfl fun _=>Nk rfl
 exact Ov rfl rfl rfl [] [(49,.pointer (some (p_x0_C)))] [8] p4 rfl rfl (by decide +kernel) rfl fun _=>Fp fa32_1 rfl
 exact Ov rfl rfl rfl [] [(50,.pointer (some (p_x0_C.add 1)))] [9] p4 rfl rfl (by decide +kernel) rfl fun _=>La na22 (At.keep a_x0_C hB n_x0_C) rfl rfl
 exact Oh rfl rfl rfl [(6,.int .i64 (s1_38))] p4 rfl rfl fun _=>Mi rfl
 exact Ov rfl rfl rfl [] [(51,zu),(52,.int .i64 (s1_38))] [10,11] p4 rfl rfl (by decide +kernel) rfl fun _=>Ix sl22 (STy.keep _ z16 hB n_h_x0_C_From) hx50 rfl rfl rfl
 exact Ov rfl rfl rfl [] [(53,.pointer (some (elA (zu) 1 (s1_38))))] [12] p4 rfl rfl (by decide +kernel) rfl fun _=>Ei na2 (STy.keep _ z16 hB n_h_x0_C_From) hx50 rfl
 exact Ov rfl rfl rfl [] [(44,zi),(54,.int .i64 (e49))] [3,13] p4 rfl rfl (by decide +kernel) rfl fun _=>Ix sl97 (STy.keep _ zh hB n_h_x0_Covers) hx52 rfl rfl rfl
 exact Ov rfl rfl rfl [] [(55,.pointer (some (elA (zi) 1 (e49))))] [14] p4 rfl rfl (by decide +kernel) rfl fun _=>Ld na138 hu55 rfl
 refine Owes.mem rfl rfl rfl <| fun g r wr hCr H hot=>?_
 have hC:=p4.trans hCr
 obtain ⟨F,rfl⟩:=fr (r:=r) (l:=[(56,u53)]) ⟨(H 15 (by decide +kernel) 56 rfl),trivial⟩
 exact OpW.own (op_callF Tryz.func210 rfl rfl) (slices_Clone___bool_bool__calls (STy.keep _ p0u (hB.trans (Chg.nil hC)) n_hr56) n3)
 refine Owes.val rfl rfl rfl <| fun g r wr hCr H hot=>?_
 have hC:=p4.trans hCr
 have p6:OwnV (sOwn 4 sBool) (y58) _ _ _:=H 16 (by decide +kernel) 57 rfl
 generalize hvv60:r 57=v60 at p6
 obtain ⟨F,rfl⟩:=fr (r:=r) (l:=[(57,v60)]) ⟨hvv60,trivial⟩
 exact (Ln sl138 ((Le.own (Le.refl _) 4).le p6.1) rfl) _ (cr _ _)
 exact Oh rfl rfl rfl [] p4 rfl rfl fun _=>Mi rfl
 rintro g r p0v ⟨p0w,hdone,hot,hfresh,hdis⟩
 have p6:OwnV (sOwn 4 sBool) (y58) _ _ _:=hdone 16 (by decide) (by decide) 57 rfl
 generalize hvv60:r 57=v60 at p6
 have hfo62:=hfresh 16 (by decide)
 have hdd:=hdis
 obtain ⟨F,rfl⟩:=fw hdone hot [(0,.pointer (some (p_x0))),(1,.func (.func 208) #[] #[.pointer (some (⟨b_x1a,0,none⟩)),.pointer (some (p_x1b))]),(6,.int .i64 (s1_38)),(37,.int .i64 ((x0.C.From.length:Int))),(38,.int .i64 (s1_38))] [(58,.int .i64 ((y58.length:Int))),(59,.int .i64 ((0:Int)))] [17,18] rfl rfl rfl rfl (z:=[(57,v60)]) ⟨hvv60,trivial⟩
 obtain ⟨n4,hgf61⟩ : ∃ k,k=g 16:=⟨_,rfl⟩
 rw [← hgf61] at p6 hfo62
 replace p6:OE [b_x1a] w.heap.size p0v (sOwn 4 sBool) [v60] (y58) n4:=⟨p6.1,p6.2,fun b hb=>.inr (Nat.le_trans (hB.trans (Chg.nil p4)).size (hfo62 b hb).1)⟩
 have qi:=dl (fun b hb=>(hfo62 b hb).1) (one_lt (Row.lt (kr r_x1a p4)))
 have gk:=(p4.trans p0w)
 replace r_x1a:=kr r_x1a gk
 replace hB:=(hB.trans (Chg.nil gk))
 refine anz <| Wf (S1:=Int×Bool) (fun s r w'=>match s with | (s2_59,s2_b_x1a_0)=>Chg [b_x1a] w w'∧Row w' b_x1a [.bool (s2_b_x1a_0)] 4∧OE [b_x1a] w.heap.size w' (sOwn 4 sBool) [v60] (y58) n4∧Dis [b_x1a] n4∧∃ F,r=updL F [(0,.pointer (some (p_x0))),(1,.func (.func 208) #[] #[.pointer (some (⟨b_x1a,0,none⟩)),.pointer (some (p_x1b))]),(6,.int .i64 (s1_38)),(37,.int .i64 ((x0.C.From.length:Int))),(38,.int .i64 (s1_38)),(57,v60),(58,.int .i64 ((y58.length:Int))),(59,.int .i64 (s2_59))]) (impl_coverage_follows_isTop_T b_x1a w) ho ⟨hB,r_x1a,p6,((qi).symm),fe rfl⟩ ?_ ?_
 rintro ⟨s2_59,s2_b_x1a_0⟩ _ p0x ⟨hB,r_x1a,p6,pu,F,rfl⟩ o ho
 replace ho:impl_coverage_follows_isTop_L2 x0 s1_38 y58 s2_59 s2_b_x1a_0=some o:=ho
 unfold impl_coverage_follows_isTop_L2 at ho
 refine wq <| Wq rfl (cr [] p0x) <| Qa (Bl rfl rfl) <| fun p3d jl=>anz <| wq <| W_cond (b:=decide (s2_59 < (y58.length:Int))) rfl ?_ ?_
 intro n5
 rw [n5] at ho
 refine W_skip <| anz <| wq <| W_block <| wq <| Wq rfl jl <| Qa (Mi rfl) <| ?_
 obtain ⟨e72,hx73e,ho⟩:=bs ho
 have hx73:=idx_some hx73e
 refine Qa (Ix sl138 ((Le.own (Le.refl _) 4).le p6.1) hx73 rfl rfl rfl) <| Qa (Eb na4 ((Le.own (Le.refl _) 4).le p6.1) hx73 rfl) <| Qa (Ai rfl) <| Qa (Ab rfl) <| fun p3e p0y=>anz <| wq <| Wq rfl p0y <| Qa (Mb rfl) <| fun p3f p1=>anz <| W_cond (b:=e72) rfl ?_ ?_
 intro n6
 rw [n6] at ho
 obtain ⟨e79,hx80e,ho⟩:=bs ho
 have hx80:=idx_some hx80e
 have at81:At w (p_x0_Classifier.add 0) [.int .i64 (x0.Classifier.Sets.Shape.Objects),z1m,z1n,z1o,z1p,z1q,z1d]:=At.sub a_x0_Classifier 0 7
 have hn82:(p_x0_Classifier.add 0).block ∉ [b_x1a]:=by rw [add_block]; exact n_x0_Classifier
 obtain ⟨e83,hx84e,ho⟩:=bs ho
 have hx84:=idx_some hx84e
 obtain ⟨u85,fu86,hu87,gl,hs89⟩:=one_getP rfl z1g hB n_h_x0_Classifier_Sets_Actions hx84.1 hx84.2
 have n_hr88:Dis fu86 [b_x1a]:=fun b hb=>n_h_x0_Classifier_Sets_Actions b (hs89 b hb)
 obtain ⟨e90,hx91e,ho⟩:=bs ho
 have hx91:=idx_some hx91e
 refine W_any (m:=25) (U:=.replicate 25 []) (S:=[sV (.func (.func 208) #[] #[.pointer (some (⟨b_x1a,0,none⟩)),.pointer (some (p_x1b))]),sV (.pointer (some (p_x0))),sV (.pointer (some (p_x0))),sV (.pointer (some (p_x0.add 1))),sV (.pointer (some (p_x0_C))),sV (.pointer (some (p_x0_C))),sV (.pointer (some (p_x0_C.add 2))),sV (zo),sV (.int .i64 (s1_38)),sV (.pointer (some (elA (zo) 1 (s1_38)))),sV (.int .i64 (e79)),sV (.pointer (some (p_x0))),sV (.pointer (some (p_x0))),sV (.pointer (some (p_x0))),sV (.pointer (some (p_x0_Classifier))),sV (.pointer (some (p_x0_Classifier))),sV (.pointer (some ((p_x0_Classifier.add 0)))),sV (.pointer (some ((p_x0_Classifier.add 0).add 6))),sV (z1d),sV (.int .i64 (s1_38)),sV (.pointer (some (elA (z1d) 1 (s1_38)))),sV (u85),sV (.int .i64 (s2_59)),sV (.pointer (some (elA (u85) 1 (s2_59)))),sV (.int .i64 (e90))]) (Z:=[]) hmix rfl (by decide) (by decide +kernel) (fun _ _ _ h=>np_out h) (by decide) rfl (by decide +kernel) (stable_all (by repeat first | exact stable_nil | refine stable_cons stable_val ?_ | refine stable_cons stable_own ?_)) ?_ ?_
 refine owes_cons ?_ <| owes_cons ?_ <| owes_cons ?_ <| owes_cons ?_ <| owes_cons ?_ <| owes_cons ?_ <| owes_cons ?_ <| owes_cons ?_ <| owes_cons ?_ <| owes_cons ?_ <| owes_cons ?_ <| owes_cons ?_ <| owes_cons ?_ <| owes_cons ?_ <| owes_cons ?_ <| owes_cons ?_ <| owes_cons ?_ <| owes_cons ?_ <| owes_cons ?_ <| owes_cons ?_ <| owes_cons ?_ <| owes_cons ?_ <| owes_cons ?_ <| owes_cons ?_ <| owes_cons ?_ <| owes_nil
 exact Oh rfl rfl rfl [(1,.func (.func 208) #[] #[.pointer (some (⟨b_x1a,0,none⟩)),.pointer (some (p_x1b))])] p1 rfl rfl fun _=>Mv (.func (.func 208) #[] #[.pointer (some (⟨b_x1a,0,none⟩)),.pointer (some (p_x1b))]) rfl
 exact Oh rfl rfl rfl [(0,.pointer (some (p_x0)))] p1 rfl rfl fun _=>Mp rfl
 exact Ov rfl rfl rfl [] [(66,.pointer (some (p_x0)))] [1] p1 rfl rfl (by decide +kernel) rfl fun _=>Nk rfl
 exact Ov rfl rfl rfl [] [(67,.pointer (some (p_x0)))] [2] p1 rfl rfl (by decide +kernel) rfl fun _=>Fp fa144_1 rfl
 exact Ov rfl rfl rfl [] [(68,.pointer (some (p_x0.add 1)))] [3] p1 rfl rfl (by decide +kernel) rfl fun _=>La na131 (At.keep a_x0 hB n_x0) rfl rfl
 exact Ov rfl rfl rfl [] [(69,.pointer (some (p_x0_C)))] [4] p1 rfl rfl (by decide +kernel) rfl fun _=>Nk rfl
 exact Ov rfl rfl rfl [] [(70,.pointer (some (p_x0_C)))] [5] p1 rfl rfl (by decide +kernel) rfl fun _=>Fp fa32_2 rfl
 exact Ov rfl rfl rfl [] [(71,.pointer (some (p_x0_C.add 2)))] [6] p1 rfl rfl (by decide +kernel) rfl fun _=>La na22 (At.keep a_x0_C hB n_x0_C) rfl rfl
 exact Oh rfl rfl rfl [(6,.int .i64 (s1_38))] p1 rfl rfl fun _=>Mi rfl
 exact Ov rfl rfl rfl [] [(72,zo),(73,.int .i64 (s1_38))] [7,8] p1 rfl rfl (by decide +kernel) rfl fun _=>Ix sl22 (STy.keep _ z12 hB n_h_x0_C_To) hx80 rfl rfl rfl
 exact Ov rfl rfl rfl [] [(74,.pointer (some (elA (zo) 1 (s1_38))))] [9] p1 rfl rfl (by decide +kernel) rfl fun _=>Ei na2 (STy.keep _ z12 hB n_h_x0_C_To) hx80 rfl
 exact Oh rfl rfl rfl [(0,.pointer (some (p_x0)))] p1 rfl rfl fun _=>Mp rfl
 exact Ov rfl rfl rfl [] [(76,.pointer (some (p_x0)))] [11] p1 rfl rfl (by decide +kernel) rfl fun _=>Nk rfl
 exact Ov rfl rfl rfl [] [(77,.pointer (some (p_x0)))] [12] p1 rfl rfl (by decide +kernel) rfl fun _=>F0 fa144_0 rfl
 exact Ov rfl rfl rfl [] [(78,.pointer (some (p_x0)))] [13] p1 rfl rfl (by decide +kernel) rfl fun _=>Lb na141 (At.keep a_x0 hB n_x0) rfl rfl
 exact Ov rfl rfl rfl [] [(79,.pointer (some (p_x0_Classifier)))] [14] p1 rfl rfl (by decide +kernel) rfl fun _=>Nk rfl
 exact Ov rfl rfl rfl [] [(80,.pointer (some (p_x0_Classifier)))] [15] p1 rfl rfl (by decide +kernel) rfl fun _=>Fp fa151_0 rfl
 exact Ov rfl rfl rfl [] [(81,.pointer (some ((p_x0_Classifier.add 0))))] [16] p1 rfl rfl (by decide +kernel) rfl fun _=>Fp fa66_2 rfl
 exact Ov rfl rfl rfl [] [(82,.pointer (some ((p_x0_Classifier.add 0).add 6)))] [17] p1 rfl rfl (by decide +kernel) rfl fun _=>La na23 (At.keep at81 hB hn82) rfl rfl
 exact Oh rfl rfl rfl [(6,.int .i64 (s1_38))] p1 rfl rfl fun _=>Mi rfl
 exact Ov rfl rfl rfl [] [(83,z1d),(84,.int .i64 (s1_38))] [18,19] p1 rfl rfl (by decide +kernel) rfl fun _=>Ix sl23 (STy.keep _ z1g hB n_h_x0_Classifier_Sets_Actions) hx84 rfl rfl rfl
 exact Ov rfl rfl rfl [] [(85,.pointer (some (elA (z1d) 1 (s1_38))))] [20] p1 rfl rfl (by decide +kernel) rfl fun _=>Ld na22 hu87 rfl
 exact Oh rfl rfl rfl [(7,.int .i64 (s2_59))] p1 rfl rfl fun _=>Mi rfl
 exact Ov rfl rfl rfl [] [(86,u85),(87,.int .i64 (s2_59))] [21,22] p1 rfl rfl (by decide +kernel) rfl fun _=>Ix sl22 (STy.keep _ gl hB n_hr88) hx91 rfl rfl rfl
 exact Ov rfl rfl rfl [] [(88,.pointer (some (elA (u85) 1 (s2_59))))] [23] p1 rfl rfl (by decide +kernel) rfl fun _=>Ei na2 (STy.keep _ gl hB n_hr88) hx91 rfl
 rintro g r p3g ⟨p0z,hdone,hot,hfresh,hdis⟩
 have hdd:=hdis
 obtain ⟨F,rfl⟩:=fw hdone hot [(0,.pointer (some (p_x0))),(1,.func (.func 208) #[] #[.pointer (some (⟨b_x1a,0,none⟩)),.pointer (some (p_x1b))]),(6,.int .i64 (s1_38)),(37,.int .i64 ((x0.C.From.length:Int))),(38,.int .i64 (s1_38)),(57,v60),(58,.int .i64 ((y58.length:Int))),(59,.int .i64 (s2_59))] [(65,.func (.func 208) #[] #[.pointer (some (⟨b_x1a,0,none⟩)),.pointer (some (p_x1b))]),(75,.int .i64 (e79)),(89,.int .i64 (e90))] [0,10,24] rfl rfl rfl rfl (z:=[]) trivial
 have n7:=(p1.trans p0z)
 replace r_x1a:=kr r_x1a n7
 replace p6:=ko p6 n7
 replace hB:=(hB.trans (Chg.nil n7))
 obtain ⟨y95,p10,ho⟩:=bs ho
 refine WL.call rfl (op_callT (fst:=[]) (cap:=[.pointer (some (⟨b_x1a,0,none⟩)),.pointer (some (p_x1b))]) rfl Tryz.func208 rfl rfl) (impl_coverage_isTopology_1_calls r_x1a (STy.keep _ z1h hB n_h_x0_Classifier_Sets_Shape_From) (STy.keep _ z1i hB n_h_x0_Classifier_Sets_Shape_To) (STy.keep _ z1j hB n_h_x0_Classifier_Sets_Shape_Identity) (STy.keep _ z1k hB n_h_x0_Classifier_Sets_Shape_Composites) (STy.keep _ z1l hB n_h_x0_Classifier_Sets_Sizes) (STy.keep _ z1g hB n_h_x0_Classifier_Sets_Actions) (STy.keep _ z1e hB n_h_x0_Classifier_Sieves) (At.keep a_x0_Classifier hB n_x0_Classifier) (STy.keep _ z16 hB n_h_x0_C_From) (STy.keep _ z12 hB n_h_x0_C_To) (STy.keep _ z17 hB n_h_x0_C_Identity) (STy.keep _ z18 hB n_h_x0_C_Composites) (At.keep a_x0_C hB n_x0_C) (STy.keep _ zh hB n_h_x0_Covers) (At.keep a_x0_Count hB n_x0_Count) (At.keep a_x0 hB n_x0) (At.keep a_x1b hB n_x1b) (dis_parF z1h n_h_x0_Classifier_Sets_Shape_From (fun i hi=>.inl (by simp [List.mem_singleton.1 hi]))) (dis_parF z1i n_h_x0_Classifier_Sets_Shape_To (fun i hi=>.inl (by simp [List.mem_singleton.1 hi]))) (dis_parF z1j n_h_x0_Classifier_Sets_Shape_Identity (fun i hi=>.inl (by simp [List.mem_singleton.1 hi]))) (dis_parF z1k n_h_x0_Classifier_Sets_Shape_Composites (fun i hi=>.inl (by simp [List.mem_singleton.1 hi]))) (dis_parF z1l n_h_x0_Classifier_Sets_Sizes (fun i hi=>.inl (by simp [List.mem_singleton.1 hi]))) (dis_parF z1g n_h_x0_Classifier_Sets_Actions (fun i hi=>.inl (by simp [List.mem_singleton.1 hi]))) (dis_parF z1e n_h_x0_Classifier_Sieves (fun i hi=>.inl (by simp [List.mem_singleton.1 hi]))) (pat_out a_x0_Classifier n_x0_Classifier (fun i hi=>.inl (by simp [List.mem_singleton.1 hi]))) (dis_parF z16 n_h_x0_C_From (fun i hi=>.inl (by simp [List.mem_singleton.1 hi]))) (dis_parF z12 n_h_x0_C_To (fun i hi=>.inl (by simp [List.mem_singleton.1 hi]))) (dis_parF z17 n_h_x0_C_Identity (fun i hi=>.inl (by simp [List.mem_singleton.1 hi]))) (dis_parF z18 n_h_x0_C_Composites (fun i hi=>.inl (by simp [List.mem_singleton.1 hi]))) (pat_out a_x0_C n_x0_C (fun i hi=>.inl (by simp [List.mem_singleton.1 hi]))) (dis_parF zh n_h_x0_Covers (fun i hi=>.inl (by simp [List.mem_singleton.1 hi]))) (pat_out a_x0_Count n_x0_Count (fun i hi=>.inl (by simp [List.mem_singleton.1 hi]))) (pat_out a_x0 n_x0 (fun i hi=>.inl (by simp [List.mem_singleton.1 hi]))) (pat_out a_x1b n_x1b (fun i hi=>.inl (by simp [List.mem_singleton.1 hi]))) p10) ?_
 rintro _ p11 ⟨rfl,gm,o99⟩
 refine ⟨_,rfl,?_⟩
 replace p6:=okp p6 gm (Dis.symm pu)
 replace hB:=hB.then gm (fun i hi=>.inl (by simp [List.mem_singleton.1 hi]))
 refine inBlk_n <| anz <| Wq rfl (cr [] p11) <| Qa (Ba rfl rfl) <| Qa (Mi rfl) <| fun p3h n8=>?_
 cases ho
 exact ⟨(hB.trans (Chg.nil n8)),(kr o99 n8),(ko p6 n8),pu,fe rfl⟩
 intro n6
 rw [n6] at ho
 refine W_skip <| inBlk_n <| anz <| Wq rfl p1 <| Qa (Ba rfl rfl) <| Qa (Mi rfl) <| fun p3i n9=>?_
 cases ho
 exact ⟨(hB.trans (Chg.nil n9)),(kr r_x1a n9),(ko p6 n9),pu,fe rfl⟩
 intro n5
 rw [n5] at ho
 refine W_exit <| andThen_x <| ?_
 cases ho
 exact ⟨rfl,⟨(hB.trans (Chg.nil jl)),(kr r_x1a jl),(ko p6 jl),pu,fe rfl⟩⟩
 rintro ⟨s2_59,s2_b_x1a_0⟩ _ p13 ⟨hB,r_x1a,p6,pu,F,rfl⟩ ho
 dsimp only at ho
 refine inBlk_n <| anz <| Wq rfl (cr [] p13) <| Qa (Ba rfl rfl) <| Qa (Mi rfl) <| fun na pv=>?_
 cases ho
 exact ⟨(hB.trans (Chg.nil pv)),(kr r_x1a pv),fe rfl⟩
 intro q8
 rw [q8] at ho
 refine W_exit <| andThen_x <| ?_
 cases ho
 exact ⟨rfl,⟨(hB.trans (Chg.nil qh)),(kr r_x1a qh),fe rfl⟩⟩
 rintro ⟨s1_38,s1_b_x1a_0⟩ _ p14 ⟨hB,r_x1a,F,rfl⟩ ho
 dsimp only at ho
 refine anz <| wq <| Wq rfl (cr [] p14) <| Qa (Mp rfl) <| Qa (Nk rfl) <| Qa (F0 fa144_0 rfl) <| Qa (Lb na141 (At.keep a_x0 hB n_x0) rfl rfl) <| Qa (Nk rfl) <| Qa (Fp fa151_1 rfl) <| Qa (La na149 (At.keep a_x0_Classifier hB n_x0_Classifier) rfl rfl) <| Qa (Ln sl149 (STy.keep _ z1e hB n_h_x0_Classifier_Sieves) rfl) <| Qa (Mi rfl) <| fun p3j gn=>anz <| Wf (S1:=Int×Bool) (fun s r w'=>match s with | (s3_101,s3_b_x1a_0)=>Chg [b_x1a] w w'∧Row w' b_x1a [.bool (s3_b_x1a_0)] 4∧∃ F,r=updL F [(0,.pointer (some (p_x0))),(1,.func (.func 208) #[] #[.pointer (some (⟨b_x1a,0,none⟩)),.pointer (some (p_x1b))]),(99,z1f),(100,.int .i64 ((x0.Classifier.Sieves.length:Int))),(101,.int .i64 (s3_101))]) (impl_coverage_follows_isTop_T b_x1a w) ho ⟨(hB.trans (Chg.nil gn)),(kr r_x1a gn),fe rfl⟩ ?_ ?_
 rintro ⟨s3_101,s3_b_x1a_0⟩ _ p15 ⟨hB,r_x1a,F,rfl⟩ o ho
 replace ho:impl_coverage_follows_isTop_L3 x0 s3_101 s3_b_x1a_0=some o:=ho
 unfold impl_coverage_follows_isTop_L3 at ho
 refine wq <| Wq rfl (cr [] p15) <| Qa (Bl rfl rfl) <| fun p16 qz=>anz <| wq <| W_cond (b:=decide (s3_101 < (x0.Classifier.Sieves.length:Int))) rfl ?_ ?_
 intro nb
 rw [nb] at ho
 refine W_skip <| anz <| wq <| W_block <| wq <| Wq rfl qz <| Qa (Mi rfl) <| ?_
 obtain ⟨e115,hx116e,ho⟩:=bs ho
 have hx116:=idx_some hx116e
 refine Qa (Ix sl149 (STy.keep _ z1e hB n_h_x0_Classifier_Sieves) hx116 rfl rfl rfl) <| ?_
 obtain ⟨u117,fu118,hu119,j0,hs121⟩:=one_getP rfl z1e hB n_h_x0_Classifier_Sieves hx116.1 hx116.2
 have n_hr120:Dis fu118 [b_x1a]:=fun b hb=>n_h_x0_Classifier_Sieves b (hs121 b hb)
 refine Qa (Ld na118 hu119 rfl) <| Qa (Ai rfl) <| Qa (Av u117 rfl) <| fun p17 pa=>anz <| wq <| Wq rfl pa <| Qa (Mv u117 rfl) <| Qa (Ln sl118 (STy.keep _ j0 hB n_hr120) rfl) <| Qa (Mi rfl) <| fun p3k go=>anz <| Wf (S1:=Int×Bool) (fun s r w'=>match s with | (s4_108,s4_b_x1a_0)=>Chg [b_x1a] w w'∧Row w' b_x1a [.bool (s4_b_x1a_0)] 4∧∃ F,r=updL F [(0,.pointer (some (p_x0))),(1,.func (.func 208) #[] #[.pointer (some (⟨b_x1a,0,none⟩)),.pointer (some (p_x1b))]),(9,.int .i64 (s3_101)),(10,u117),(99,z1f),(100,.int .i64 ((x0.Classifier.Sieves.length:Int))),(101,.int .i64 (s3_101)),(107,.int .i64 ((e115.length:Int))),(108,.int .i64 (s4_108))]) (impl_coverage_follows_isTop_T b_x1a w) ho ⟨(hB.trans (Chg.nil go)),(kr r_x1a go),fe rfl⟩ ?_ ?_
 rintro ⟨s4_108,s4_b_x1a_0⟩ _ p18 ⟨hB,r_x1a,F,rfl⟩ o ho
 replace ho:impl_coverage_follows_isTop_L4 x0 s3_101 e115 s4_108 s4_b_x1a_0=some o:=ho
 unfold impl_coverage_follows_isTop_L4 at ho
 refine wq <| Wq rfl (cr [] p18) <| Qa (Bl rfl rfl) <| fun p3l nc=>anz <| wq <| W_cond (b:=decide (s4_108 < (e115.length:Int))) rfl ?_ ?_
 intro nd
 rw [nd] at ho
 refine W_skip <| anz <| wq <| W_block <| wq <| Wq rfl nc <| Qa (Mi rfl) <| Qa (Ai rfl) <| fun p3m q9=>anz <| wq <| W_region rfl <| Wb (Mp rfl) <| Wb (Nk rfl) <| Wb (Fp fa144_2 rfl) <| Wa q9 (La na97 (At.keep a_x0 hB n_x0) rfl rfl) <| ?_
 refine Wb (Mi rfl) <| ?_
 obtain ⟨e132,hx133e,ho⟩:=bs ho
 have hx133:=idx_some hx133e
 refine Wa q9 (Ix sl97 (STy.keep _ zh hB n_h_x0_Covers) hx133 rfl rfl rfl) <| ?_
 obtain ⟨u134,fu135,hu136,p19,hs138⟩:=one_getP rfl zh hB n_h_x0_Covers hx133.1 hx133.2
 have n_hr137:Dis fu135 [b_x1a]:=fun b hb=>n_h_x0_Covers b (hs138 b hb)
 refine Wa q9 (Ld na138 hu136 rfl) <| ?_
 obtain ⟨y139,p1a,ho⟩:=bs ho
 refine WL.call rfl (op_callF Tryz.func210 rfl rfl) (slices_Clone___bool_bool__calls (STy.keep _ p19 (hB.trans (Chg.nil q9)) n_hr137) p1a) <| ?_
 rintro _ p3n ⟨v143,gp,rfl,p1b,p8⟩
 refine ⟨_,rfl,?_⟩
 have p1c:=dl (ofr p8) (one_lt (Row.lt (kr r_x1a q9)))
 replace p8:=OE.low (G:=[b_x1a]) p8 (hB.trans (Chg.nil q9)).size
 have gq:=q9.trans p1b
 replace r_x1a:=kr r_x1a gq
 replace hB:=(hB.trans (Chg.nil gq))
 refine Wb (Ln sl138 ((Le.own (Le.refl _) 4).le p8.1) rfl) <| Wb (Mi rfl) <| anz <| Wf (S1:=Int×Bool) (fun s r w'=>match s with | (s5_120,s5_b_x1a_0)=>Chg [b_x1a] w w'∧Row w' b_x1a [.bool (s5_b_x1a_0)] 4∧OE [b_x1a] w.heap.size w' (sOwn 4 sBool) [v143] (y139) gp∧Dis [b_x1a] gp∧∃ F,r=updL F [(0,.pointer (some (p_x0))),(1,.func (.func 208) #[] #[.pointer (some (⟨b_x1a,0,none⟩)),.pointer (some (p_x1b))]),(9,.int .i64 (s3_101)),(10,u117),(11,.int .i64 (s4_108)),(99,z1f),(100,.int .i64 ((x0.Classifier.Sieves.length:Int))),(101,.int .i64 (s3_101)),(107,.int .i64 ((e115.length:Int))),(108,.int .i64 (s4_108)),(118,v143),(119,.int .i64 ((y139.length:Int))),(120,.int .i64 (s5_120))]) (impl_coverage_follows_isTop_T b_x1a w) ho ⟨hB,r_x1a,p8,((p1c).symm),fe rfl⟩ ?_ ?_
 rintro ⟨s5_120,s5_b_x1a_0⟩ _ p1d ⟨hB,r_x1a,p8,j1,F,rfl⟩ o ho
 replace ho:impl_coverage_follows_isTop_L5 x0 s3_101 e115 s4_108 y139 s5_120 s5_b_x1a_0=some o:=ho
 unfold impl_coverage_follows_isTop_L5 at ho
 refine wq <| Wq rfl (cr [] p1d) <| Qa (Bl rfl rfl) <| fun p3o jm=>anz <| wq <| W_cond (b:=decide (s5_120 < (y139.length:Int))) rfl ?_ ?_
 intro ne
 rw [ne] at ho
 refine W_skip <| anz <| wq <| W_block <| wq <| Wq rfl jm <| Qa (Mi rfl) <| ?_
 obtain ⟨e153,hx154e,ho⟩:=bs ho
 have hx154:=idx_some hx154e
 refine Qa (Ix sl138 ((Le.own (Le.refl _) 4).le p8.1) hx154 rfl rfl rfl) <| Qa (Eb na4 ((Le.own (Le.refl _) 4).le p8.1) hx154 rfl) <| Qa (Ai rfl) <| Qa (Ab rfl) <| fun p3p p1e=>anz <| wq <| Wqd rfl (by kernel_rfl) p1e <| ?_
 obtain ⟨g157,hm158,ho⟩:=bs ho
 refine QL.meet (fun r=>∃ F,r=updL F [(0,.pointer (some (p_x0))),(1,.func (.func 208) #[] #[.pointer (some (⟨b_x1a,0,none⟩)),.pointer (some (p_x1b))]),(9,.int .i64 (s3_101)),(10,u117),(11,.int .i64 (s4_108)),(99,z1f),(100,.int .i64 ((x0.Classifier.Sieves.length:Int))),(101,.int .i64 (s3_101)),(107,.int .i64 ((e115.length:Int))),(108,.int .i64 (s4_108)),(118,v143),(119,.int .i64 ((y139.length:Int))),(120,.int .i64 (s5_120)),(150,.bool (g157))]) ?_ ?_
 skip
 refine Qa (Mb rfl) <| Qa (Mb rfl) <| ?_
 rcases Bool.eq_false_or_eq_true e153 with p2 | p2
 rw [p2] at hm158
 refine Qg rfl p2 (Mp rfl) <| Qg rfl p2 (Nk rfl) <| Qg rfl p2 (Fp fa144_2 rfl) <| Qg rfl p2 (La na97 (At.keep a_x0 hB n_x0) rfl rfl) <| Qg rfl p2 (Mi rfl) <| ?_
 obtain ⟨e160,hx161e,hm158⟩:=bs hm158
 have hx161:=idx_some hx161e
 refine Qg rfl p2 (Ix sl97 (STy.keep _ zh hB n_h_x0_Covers) hx161 rfl rfl rfl) <| ?_
 obtain ⟨u162,fu163,hu164,gr,hs166⟩:=one_getP rfl zh hB n_h_x0_Covers hx161.1 hx161.2
 have n_hr165:Dis fu163 [b_x1a]:=fun b hb=>n_h_x0_Covers b (hs166 b hb)
 refine Qg rfl p2 (Ld na138 hu164 rfl) <| Qg rfl p2 (Mi rfl) <| ?_
 obtain ⟨e167,hx168e,hm158⟩:=bs hm158
 have hx168:=idx_some hx168e
 refine Qg rfl p2 (Ix sl138 (STy.keep _ gr hB n_hr165) hx168 rfl rfl rfl) <| Qg rfl p2 (Eb na4 (STy.keep _ gr hB n_hr165) hx168 rfl) <| Qg rfl p2 (Nt rfl) <| Qa (PTb rfl p2 rfl) <| Qa (Mb rfl) <| ?_
 rcases Bool.eq_false_or_eq_true (!(e167)) with p3 | p3
 rw [p3] at hm158
 refine Qg rfl p3 (Mp rfl) <| Qg rfl p3 (Mv u117 rfl) <| Qg rfl p3 (Mi rfl) <| ?_
 obtain ⟨e170,hx171e,hm158⟩:=bs hm158
 have hx171:=idx_some hx171e
 refine Qg rfl p3 (Ix sl118 (STy.keep _ j0 hB n_hr120) hx171 rfl rfl rfl) <| ?_
 obtain ⟨u172,fu173,hu174,p1f,hs176⟩:=one_getP rfl j0 hB n_hr120 hx171.1 hx171.2
 have n_hr175:Dis fu173 [b_x1a]:=fun b hb=>n_hr120 b (hs176 b hb)
 refine Qg rfl p3 (Ld na114 hu174 rfl) <| Qg rfl p3 (Mv u117 rfl) <| Qg rfl p3 (Mi rfl) <| ?_
 obtain ⟨e177,hx178e,hm158⟩:=bs hm158
 have hx178:=idx_some hx178e
 refine Qg rfl p3 (Ix sl118 (STy.keep _ j0 hB n_hr120) hx178 rfl rfl rfl) <| ?_
 obtain ⟨u179,fu180,hu181,p1g,hs183⟩:=one_getP rfl j0 hB n_hr120 hx178.1 hx178.2
 have n_hr182:Dis fu180 [b_x1a]:=fun b hb=>n_hr120 b (hs183 b hb)
 refine Qg rfl p3 (Ld na114 hu181 rfl) <| ?_
 obtain ⟨y184,p1h,hm158⟩:=bs hm158
 refine Qcg rfl p3 Tryz.func211 rfl rfl (fun _ hC=>impl_coverage_locally_calls (STy.keep _ z1h (hB.trans (Chg.nil hC)) n_h_x0_Classifier_Sets_Shape_From) (STy.keep _ z1i (hB.trans (Chg.nil hC)) n_h_x0_Classifier_Sets_Shape_To) (STy.keep _ z1j (hB.trans (Chg.nil hC)) n_h_x0_Classifier_Sets_Shape_Identity) (STy.keep _ z1k (hB.trans (Chg.nil hC)) n_h_x0_Classifier_Sets_Shape_Composites) (STy.keep _ z1l (hB.trans (Chg.nil hC)) n_h_x0_Classifier_Sets_Sizes) (STy.keep _ z1g (hB.trans (Chg.nil hC)) n_h_x0_Classifier_Sets_Actions) (STy.keep _ z1e (hB.trans (Chg.nil hC)) n_h_x0_Classifier_Sieves) (At.keep a_x0_Classifier (hB.trans (Chg.nil hC)) n_x0_Classifier) (STy.keep _ z16 (hB.trans (Chg.nil hC)) n_h_x0_C_From) (STy.keep _ z12 (hB.trans (Chg.nil hC)) n_h_x0_C_To) (STy.keep _ z17 (hB.trans (Chg.nil hC)) n_h_x0_C_Identity) (STy.keep _ z18 (hB.trans (Chg.nil hC)) n_h_x0_C_Composites) (At.keep a_x0_C (hB.trans (Chg.nil hC)) n_x0_C) (STy.keep _ zh (hB.trans (Chg.nil hC)) n_h_x0_Covers) (At.keep a_x0_Count (hB.trans (Chg.nil hC)) n_x0_Count) (At.keep a_x0 (hB.trans (Chg.nil hC)) n_x0) (STy.keep _ p1f (hB.trans (Chg.nil hC)) n_hr175) (STy.keep _ p1g (hB.trans (Chg.nil hC)) n_hr182) p1h) <| Qa (PTb rfl p3 rfl) <| ?_
 cases hm158
 exact fe rfl
 rw [p3] at hm158
 refine Sk rfl p3 rfl <| Sk rfl p3 rfl <| Sk rfl p3 rfl <| Sk rfl p3 rfl <| Sk rfl p3 rfl <| Sk rfl p3 rfl <| Sk rfl p3 rfl <| Sk rfl p3 rfl <| Sk rfl p3 rfl <| Sk rfl p3 rfl <| Qa (PFb rfl p3 rfl) <| ?_
 cases hm158
 exact fe rfl
 rw [p2] at hm158
 refine Sk rfl p2 rfl <| Sk rfl p2 rfl <| Sk rfl p2 rfl <| Sk rfl p2 rfl <| Sk rfl p2 rfl <| Sk rfl p2 rfl <| Sk rfl p2 rfl <| Sk rfl p2 rfl <| Sk rfl p2 rfl <| Sk rfl p2 rfl <| Sk rfl p2 rfl <| Qa (PFb rfl p2 rfl) <| Qa (Mb rfl) <| Sk rfl rfl rfl <| Sk rfl rfl rfl <| Sk rfl rfl rfl <| ?_
 refine Sk rfl rfl rfl <| Sk rfl rfl rfl <| Sk rfl rfl rfl <| Sk rfl rfl rfl <| Sk rfl rfl rfl <| Sk rfl rfl rfl <| Sk rfl rfl rfl <| Qa (PFb rfl rfl rfl) <| ?_
 cases hm158
 exact fe rfl
 rintro _ ⟨F,rfl⟩
 refine fun p1i gs=>anz <| W_cond (b:=g157) rfl ?_ ?_
 intro nf
 rw [nf] at ho
 refine W_region rfl <| Wb (Mv (.func (.func 208) #[] #[.pointer (some (⟨b_x1a,0,none⟩)),.pointer (some p_x1b)]) rfl) <| Wb (Mi rfl) <| Wb (Mi rfl) <| ?_
 have ng:=gs.trans (cr [] p1i)
 replace r_x1a:=kr r_x1a ng
 replace p8:=ko p8 ng
 replace hB:=(hB.trans (Chg.nil ng))
 obtain ⟨y190,p1j,ho⟩:=bs ho
 refine WL.call rfl (op_callT (fst:=[]) (cap:=[.pointer (some (⟨b_x1a,0,none⟩)),.pointer (some (p_x1b))]) rfl Tryz.func208 rfl rfl) (impl_coverage_isTopology_1_calls r_x1a (STy.keep _ z1h hB n_h_x0_Classifier_Sets_Shape_From) (STy.keep _ z1i hB n_h_x0_Classifier_Sets_Shape_To) (STy.keep _ z1j hB n_h_x0_Classifier_Sets_Shape_Identity) (STy.keep _ z1k hB n_h_x0_Classifier_Sets_Shape_Composites) (STy.keep _ z1l hB n_h_x0_Classifier_Sets_Sizes) (STy.keep _ z1g hB n_h_x0_Classifier_Sets_Actions) (STy.keep _ z1e hB n_h_x0_Classifier_Sieves) (At.keep a_x0_Classifier hB n_x0_Classifier) (STy.keep _ z16 hB n_h_x0_C_From) (STy.keep _ z12 hB n_h_x0_C_To) (STy.keep _ z17 hB n_h_x0_C_Identity) (STy.keep _ z18 hB n_h_x0_C_Composites) (At.keep a_x0_C hB n_x0_C) (STy.keep _ zh hB n_h_x0_Covers) (At.keep a_x0_Count hB n_x0_Count) (At.keep a_x0 hB n_x0) (At.keep a_x1b hB n_x1b) (dis_parF z1h n_h_x0_Classifier_Sets_Shape_From (fun i hi=>.inl (by simp [List.mem_singleton.1 hi]))) (dis_parF z1i n_h_x0_Classifier_Sets_Shape_To (fun i hi=>.inl (by simp [List.mem_singleton.1 hi]))) (dis_parF z1j n_h_x0_Classifier_Sets_Shape_Identity (fun i hi=>.inl (by simp [List.mem_singleton.1 hi]))) (dis_parF z1k n_h_x0_Classifier_Sets_Shape_Composites (fun i hi=>.inl (by simp [List.mem_singleton.1 hi]))) (dis_parF z1l n_h_x0_Classifier_Sets_Sizes (fun i hi=>.inl (by simp [List.mem_singleton.1 hi]))) (dis_parF z1g n_h_x0_Classifier_Sets_Actions (fun i hi=>.inl (by simp [List.mem_singleton.1 hi]))) (dis_parF z1e n_h_x0_Classifier_Sieves (fun i hi=>.inl (by simp [List.mem_singleton.1 hi]))) (pat_out a_x0_Classifier n_x0_Classifier (fun i hi=>.inl (by simp [List.mem_singleton.1 hi]))) (dis_parF z16 n_h_x0_C_From (fun i hi=>.inl (by simp [List.mem_singleton.1 hi]))) (dis_parF z12 n_h_x0_C_To (fun i hi=>.inl (by simp [List.mem_singleton.1 hi]))) (dis_parF z17 n_h_x0_C_Identity (fun i hi=>.inl (by simp [List.mem_singleton.1 hi]))) (dis_parF z18 n_h_x0_C_Composites (fun i hi=>.inl (by simp [List.mem_singleton.1 hi]))) (pat_out a_x0_C n_x0_C (fun i hi=>.inl (by simp [List.mem_singleton.1 hi]))) (dis_parF zh n_h_x0_Covers (fun i hi=>.inl (by simp [List.mem_singleton.1 hi]))) (pat_out a_x0_Count n_x0_Count (fun i hi=>.inl (by simp [List.mem_singleton.1 hi]))) (pat_out a_x0 n_x0 (fun i hi=>.inl (by simp [List.mem_singleton.1 hi]))) (pat_out a_x1b n_x1b (fun i hi=>.inl (by simp [List.mem_singleton.1 hi]))) p1j) ?_
 rintro _ p1k ⟨rfl,gt,p1l⟩
 refine ⟨_,rfl,?_⟩
 replace p8:=okp p8 gt (Dis.symm j1)
 replace hB:=hB.then gt (fun i hi=>.inl (by simp [List.mem_singleton.1 hi]))
 refine inBlk_n <| anz <| Wq rfl (cr [] p1k) <| Qa (Ba rfl rfl) <| Qa (Mi rfl) <| fun p3q nh=>?_
 cases ho
 exact ⟨(hB.trans (Chg.nil nh)),(kr p1l nh),(ko p8 nh),j1,fe rfl⟩
 intro nf
 rw [nf] at ho
 refine W_skip <| inBlk_n <| anz <| Wq rfl gs <| Qa (Ba rfl rfl) <| Qa (Mi rfl) <| fun p3r ni=>?_
 cases ho
 exact ⟨(hB.trans (Chg.nil ni)),(kr r_x1a ni),(ko p8 ni),j1,fe rfl⟩
 intro ne
 rw [ne] at ho
 refine W_exit <| andThen_x <| ?_
 cases ho
 exact ⟨rfl,⟨(hB.trans (Chg.nil jm)),(kr r_x1a jm),(ko p8 jm),j1,fe rfl⟩⟩
 rintro ⟨s5_120,s5_b_x1a_0⟩ _ p1m ⟨hB,r_x1a,p8,j1,F,rfl⟩ ho
 dsimp only at ho
 refine inBlk_n <| anz <| Wq rfl (cr [] p1m) <| Qa (Ba rfl rfl) <| Qa (Mi rfl) <| fun p3s gu=>?_
 cases ho
 exact ⟨(hB.trans (Chg.nil gu)),(kr r_x1a gu),fe rfl⟩
 intro nd
 rw [nd] at ho
 refine W_exit <| andThen_x <| ?_
 cases ho
 exact ⟨rfl,⟨(hB.trans (Chg.nil nc)),(kr r_x1a nc),fe rfl⟩⟩
 rintro ⟨s4_108,s4_b_x1a_0⟩ _ p1n ⟨hB,r_x1a,F,rfl⟩ ho
 dsimp only at ho
 refine inBlk_n <| anz <| Wq rfl (cr [] p1n) <| Qa (Ba rfl rfl) <| Qa (Mi rfl) <| fun p3t gv=>?_
 cases ho
 exact ⟨(hB.trans (Chg.nil gv)),(kr r_x1a gv),fe rfl⟩
 intro nb
 rw [nb] at ho
 refine W_exit <| andThen_x <| ?_
 cases ho
 exact ⟨rfl,⟨(hB.trans (Chg.nil qz)),(kr r_x1a qz),fe rfl⟩⟩
 rintro ⟨s3_101,s3_b_x1a_0⟩ _ p3u ⟨hB,r_x1a,F,rfl⟩ ho
 dsimp only at ho
 cases ho
 exact ⟨_,res_0 Tryz.results157,rfl,hB,r_x1a⟩

abbrev impl_coverage_isTopology_post (w:World) (x:(Bool)) (e:Ending) (w':World):Prop:=e = .returned (.bool x)∧Chg [] w w'
abbrev impl_coverage_isTopology_T (w:World):=Tm Tryz.prog Tryz.f151 8 (impl_coverage_isTopology_post w)
theorem impl_coverage_isTopology_calls {w:World} {x0:MCoverage} {p_x0:Addr} {p_x0_Classifier:Addr} {z1m:Value} {z1t:List Nat} {z1n:Value} {z1u:List Nat} {z1o:Value} {z1v:List Nat} {z1p:Value} {z1w:List Nat} {z1q:Value} {z1x:List Nat} {z1d:Value} {z1y:List Nat} {z1f:Value} {z20:List Nat} {p_x0_C:Addr} {zu:Value} {z19:List Nat} {zo:Value} {z1a:List Nat} {z10:Value} {z1b:List Nat} {z11:Value} {z1c:List Nat} {zi:Value} {zj:List Nat} {p_x0_Count:Addr} (z1h:(sImm (sInt .i64)).rep w.heap [z1m] x0.Classifier.Sets.Shape.From z1t) (z1i:(sImm (sInt .i64)).rep w.heap [z1n] x0.Classifier.Sets.Shape.To z1u) (z1j:(sImm (sInt .i64)).rep w.heap [z1o] x0.Classifier.Sets.Shape.Identity z1v) (z1k:(sImm (sImm (sInt .i64))).rep w.heap [z1p] x0.Classifier.Sets.Shape.Composites z1w) (z1l:(sImm (sInt .i64)).rep w.heap [z1q] x0.Classifier.Sets.Sizes z1x) (z1g:(sImm (sImm (sInt .i64))).rep w.heap [z1d] x0.Classifier.Sets.Actions z1y) (z1e:(sImm (sImm (sImm (sInt .i64)))).rep w.heap [z1f] x0.Classifier.Sieves z20) (a_x0_Classifier:At w p_x0_Classifier [.int .i64 (x0.Classifier.Sets.Shape.Objects),z1m,z1n,z1o,z1p,z1q,z1d,z1f]) (z16:(sImm (sInt .i64)).rep w.heap [zu] x0.C.From z19) (z12:(sImm (sInt .i64)).rep w.heap [zo] x0.C.To z1a) (z17:(sImm (sInt .i64)).rep w.heap [z10] x0.C.Identity z1b) (z18:(sImm (sImm (sInt .i64))).rep w.heap [z11] x0.C.Composites z1c) (a_x0_C:At w p_x0_C [.int .i64 (x0.C.Objects),zu,zo,z10,z11]) (zh:(sImm (sImm sBool)).rep w.heap [zi] x0.Covers zj) (a_x0_Count:At w p_x0_Count [.int .i64 (x0.Count)]) (a_x0:At w p_x0 [.pointer (some (p_x0_Classifier)),.pointer (some (p_x0_C)),zi,.pointer (some (p_x0_Count))]) {y:(Bool)} (hm:impl_coverage_isTopology x0=some y) :
  Calls Tryz.prog 151 #[.pointer (some (p_x0))] w (impl_coverage_isTopology_post w y):=by
 refine Cm (S:=Unit) Tryz.func151 rfl Tryz.ntmps151 rfl hm fun o ho hB=>?_
 clear hm
 refine wq <| W_region rfl <| WL.box fun b1 wd2 hC3 hr4 hl5=>?_
 replace hr4:Row wd2 b1 [.pointer (some (p_x0))] 102:=hr4
 replace hB:=(hB.trans hC3)
 refine Wb (Ab rfl) <| anz <| wq <| W_region rfl <| WL.alloc info4 zr4 fun b8 wd9 pw p9 jn=>?_
 replace p9:Row wd9 b8 [.bool (false)] 4:=p9
 have p7:w.heap.size≤b8:=Nat.le_trans hB.size jn
 have nj:=dl (onw jn) (one_lt (Row.lt hr4))
 replace hr4:=kr hr4 pw
 replace hB:=(hB.trans pw)
 refine WL.storeRow (j:=0) info4 sz4 p9 (Nat.le_of_ble_eq_true rfl) rfl rfl rfl fun nk qa nl=>?_
 replace nl:Row nk b8 [.bool (true)] 4:=nl
 replace hr4:=Row.keep hr4 qa ((nj).symm _ (ms rfl))
 replace hB:=hB.then qa (one_then p7)
 refine anz <| wq <| W_region rfl <| Wb (Lr na102 hr4 rfl rfl) <| WL.val (v:=.func (.func 208) #[] #[.pointer (some (⟨b8,0,none⟩)),.pointer (some (⟨b1,0,none⟩))]) rfl (op_makeFunc (fst:=[]) (cap:=[.tmp 3,.tmp 1])) <| ?_
 obtain ⟨y20,p1o,ho⟩:=bs ho
 refine WL.call rfl (op_callF Tryz.func157 rfl rfl) (impl_coverage_follows_isTop_calls (kp _ z1h hB) (kp _ z1i hB) (kp _ z1j hB) (kp _ z1k hB) (kp _ z1l hB) (kp _ z1g hB) (kp _ z1e hB) (At.keep0 a_x0_Classifier hB) (kp _ z16 hB) (kp _ z12 hB) (kp _ z17 hB) (kp _ z18 hB) (At.keep0 a_x0_C hB) (kp _ zh hB) (At.keep0 a_x0_Count hB) (At.keep0 a_x0 hB) nl hr4.at (dis_par (sl _ z1h) (one_then p7)) (dis_par (sl _ z1i) (one_then p7)) (dis_par (sl _ z1j) (one_then p7)) (dis_par (sl _ z1k) (one_then p7)) (dis_par (sl _ z1l) (one_then p7)) (dis_par (sl _ z1g) (one_then p7)) (dis_par (sl _ z1e) (one_then p7)) (pat_out a_x0_Classifier List.not_mem_nil (one_then p7)) (dis_par (sl _ z16) (one_then p7)) (dis_par (sl _ z12) (one_then p7)) (dis_par (sl _ z17) (one_then p7)) (dis_par (sl _ z18) (one_then p7)) (pat_out a_x0_C List.not_mem_nil (one_then p7)) (dis_par (sl _ zh) (one_then p7)) (pat_out a_x0_Count List.not_mem_nil (one_then p7)) (pat_out a_x0 List.not_mem_nil (one_then p7)) (fun hm=>nj _ hm (ms rfl)) p1o) <| ?_
 rintro _ p1p ⟨rfl,gw,qj⟩
 refine ⟨_,rfl,?_⟩
 replace hr4:=Row.keep hr4 gw ((Dis.symm nj) _ (ms rfl))
 replace hB:=hB.then gw (one_then p7)
 refine anz <| wq <| Wq rfl (cr [] p1p) <| Qa (Lr na4 qj rfl rfl) <| Qa (Ab rfl) <| fun gx j2=>anz <| ?_
 cases ho
 exact W_ret ⟨_,res_1 Tryz.results151,rfl,(hB.trans j2)⟩

abbrev impl_limitCode_post (p_x0:Addr) (w:World) (x:((Option MCoverage)×Int)) (e:Ending) (w':World):Prop:=∃ (v0:Value),e = .returned (.tuple #[v0,.int .i64 x.2])∧Chg [] w w'∧(match x.1 with | none=>(v0 = .pointer none) | some m0=>∃ (b101:Nat) (b102:Nat) (v101:Value) (f101:List Nat) (v102:Value) (f102:List Nat) (v103:Value) (f103:List Nat) (v104:Value) (f104:List Nat) (v105:Value) (f105:List Nat) (v106:Value) (f106:List Nat) (v107:Value) (f107:List Nat) (v108:Value) (f108:List Nat) (b103:Nat),v0 = .pointer (some (⟨b101,0,none⟩))∧OE [] w.heap.size w' (sOwn 2 (sInt .i64)) [v101] m0.Classifier.Sets.Shape.From f101∧OE [] w.heap.size w' (sOwn 2 (sInt .i64)) [v102] m0.Classifier.Sets.Shape.To f102∧OE [] w.heap.size w' (sOwn 2 (sInt .i64)) [v103] m0.Classifier.Sets.Shape.Identity f103∧OE [] w.heap.size w' (sOwn 22 (sOwn 2 (sInt .i64))) [v104] m0.Classifier.Sets.Shape.Composites f104∧OE [] w.heap.size w' (sOwn 2 (sInt .i64)) [v105] m0.Classifier.Sets.Sizes f105∧OE [] w.heap.size w' (sOwn 22 (sOwn 2 (sInt .i64))) [v106] m0.Classifier.Sets.Actions f106∧OE [] w.heap.size w' (sOwn 118 (sOwn 114 (sOwn 2 (sInt .i64)))) [v107] m0.Classifier.Sieves f107∧Row w' b102 [.int .i64 (m0.Classifier.Sets.Shape.Objects),v101,v102,v103,v104,v105,v106,v107] 151∧w.heap.size≤b102∧OE [] w.heap.size w' (sOwn 138 (sOwn 4 sBool)) [v108] m0.Covers f108∧Row w' b103 [.int .i64 (m0.Count)] 197∧w.heap.size≤b103∧Row w' b101 [.pointer (some (⟨b102,0,none⟩)),.pointer (some ((p_x0.add 0))),v108,.pointer (some (⟨b103,0,none⟩))] 144∧w.heap.size≤b101∧Dis f101 f102∧Dis f101 f103∧Dis f101 f104∧Dis f101 f105∧Dis f101 f106∧Dis f101 f107∧Dis f101 [b102]∧Dis f101 f108∧Dis f101 [b103]∧Dis f101 [b101]∧Dis f102 f103∧Dis f102 f104∧Dis f102 f105∧Dis f102 f106∧Dis f102 f107∧Dis f102 [b102]∧Dis f102 f108∧Dis f102 [b103]∧Dis f102 [b101]∧Dis f103 f104∧Dis f103 f105∧Dis f103 f106∧Dis f103 f107∧Dis f103 [b102]∧Dis f103 f108∧Dis f103 [b103]∧Dis f103 [b101]∧Dis f104 f105∧Dis f104 f106∧Dis f104 f107∧Dis f104 [b102]∧Dis f104 f108∧Dis f104 [b103]∧Dis f104 [b101]∧Dis f105 f106∧Dis f105 f107∧Dis f105 [b102]∧Dis f105 f108∧Dis f105 [b103]∧Dis f105 [b101]∧Dis f106 f107∧Dis f106 [b102]∧Dis f106 f108∧Dis f106 [b103]∧Dis f106 [b101]∧Dis f107 [b102]∧Dis f107 f108∧Dis f107 [b103]∧Dis f107 [b101]∧Dis [b102] f108∧Dis [b102] [b103]∧Dis [b102] [b101]∧Dis f108 [b103]∧Dis f108 [b101]∧Dis [b103] [b101])
abbrev impl_limitCode_T (p_x0:Addr) (w:World):=Tm Tryz.prog Tryz.f83 17 (impl_limitCode_post p_x0 w)
theorem impl_limitCode_calls {w:World} {x0:MTopology} {p_x0:Addr} {zk:Value} {zv:List Nat} {zl:Value} {zw:List Nat} {zm:Value} {zx:List Nat} {zn:Value} {zy:List Nat} {zi:Value} {zj:List Nat} (zp:(sImm (sInt .i64)).rep w.heap [zk] x0.Shape.From zv) (zq:(sImm (sInt .i64)).rep w.heap [zl] x0.Shape.To zw) (zr:(sImm (sInt .i64)).rep w.heap [zm] x0.Shape.Identity zx) (zt:(sImm (sImm (sInt .i64))).rep w.heap [zn] x0.Shape.Composites zy) (zh:(sImm (sImm (sImm (sInt .i64)))).rep w.heap [zi] x0.Covers zj) (a_x0:At w p_x0 [.int .i64 (x0.Shape.Objects),zk,zl,zm,zn,zi]) {y:((Option MCoverage)×Int)} (hm:impl_limitCode x0=some y) :
  Calls Tryz.prog 83 #[.pointer (some (p_x0))] w (impl_limitCode_post p_x0 w y):=by
 refine Cm (S:=Unit) Tryz.func83 rfl Tryz.ntmps83 rfl hm fun o ho hB=>?_
 clear hm
 refine wq <| Wq rfl (cr [] w) <| Qa (Av (.pointer none) rfl) <| Qa (Ai rfl) <| fun wd1 hC2=>anz <| wq <| W_region rfl <| Wb (Mp rfl) <| ?_
 obtain ⟨y3,hy4,ho⟩:=bs ho
 refine WL.call rfl (op_callF Tryz.func93 rfl rfl) (impl_Topology_coverage_calls (kp _ zp (hB.trans hC2)) (kp _ zq (hB.trans hC2)) (kp _ zr (hB.trans hC2)) (kp _ zt (hB.trans hC2)) (kp _ zh (hB.trans hC2)) (At.keep0 a_x0 (hB.trans hC2)) hy4) <| ?_
 rintro _ wd5 ⟨v8,rfl,hC6,hp7⟩
 refine ⟨_,rfl,?_⟩
 have sb9:At w (p_x0.add 0) [.int .i64 (x0.Shape.Objects),zk,zl,zm,zn]:=At.sub a_x0 0 5
 rcases hq10:y3.1 with _ | m11
 rw [hq10] at hp7 ho
 try dsimp only at hp7
 try dsimp only at ho
 obtain rfl:=hp7
 have p1q:=hC2.trans hC6
 replace hB:=(hB.trans p1q)
 refine Wb (Mt rfl) <| Wb (Ex (.pointer none) rfl rfl) <| Wb (Exb rfl rfl) <| Wb (Av (.pointer none) rfl) <| Wb (Ab rfl) <| anz <| wq <| wq <| Wq rfl (cr [] wd5) <| Qa (Mb rfl) <| Qa (Nt rfl) <| fun p3v gy=>anz <| W_cond (b:=!(y3.2)) rfl ?_ ?_
 intro nm
 rw [nm] at ho
 refine wq <| Wq rfl gy <| Qa (Av (.pointer none) rfl) <| Qa (Ai rfl) <| fun nk qa=>anz <| ?_
 cases ho
 exact W_ret ⟨_,res_2 Tryz.results83,_,rfl,(hB.trans qa),rfl⟩
 intro nm
 rw [nm] at ho
 refine W_skip <| anz <| wq <| wq <| Wq rfl gy <| Qa (Mv (.pointer none) rfl) <| ?_
 cases ho
 rw [hq10] at hp7 ho
 try dsimp only at hp7
 try dsimp only at ho
 obtain ⟨gz,jo,v22,f23,v25,f26,v28,f29,v31,f32,v34,f35,v37,f38,v40,f41,v44,f45,b47,rfl,qj,jp,jq,jr,qg,js,jt,ju,p1t,qb,p00,p1u,qk,p01,d51,d52,nn,no,np,nq,nr,jv,jw,jx,jy,jz,k0,k1,qi,k2,pu,k3,k4,k5,k6,k7,k8,k9,ka,kb,j3,j4,j5,j6,j7,j8,j9,ja,jb,jc,kc,kd,ke,kf,kg,kh,ki,kj,kk,kl,km,kn,ql,qm,qn,qo,qp,qq,kq⟩:=hp7
 replace qj:=OE.low (G:=[]) qj (hB.trans hC2).size
 replace jp:=OE.low (G:=[]) jp (hB.trans hC2).size
 replace jq:=OE.low (G:=[]) jq (hB.trans hC2).size
 replace jr:=OE.low (G:=[]) jr (hB.trans hC2).size
 replace qg:=OE.low (G:=[]) qg (hB.trans hC2).size
 replace js:=OE.low (G:=[]) js (hB.trans hC2).size
 replace jt:=OE.low (G:=[]) jt (hB.trans hC2).size
 have p1x:w.heap.size≤jo:=Nat.le_trans (hB.trans hC2).size p1t
 replace qb:=OE.low (G:=[]) qb (hB.trans hC2).size
 have p1y:w.heap.size≤b47:=Nat.le_trans (hB.trans hC2).size p1u
 have ns:w.heap.size≤gz:=Nat.le_trans (hB.trans hC2).size p01
 have p1z:=hC2.trans hC6
 replace hB:=(hB.trans p1z)
 refine Wb (Mt rfl) <| Wb (Ex (.pointer (some (⟨gz,0,none⟩))) rfl rfl) <| Wb (Exb rfl rfl) <| Wb (Ap rfl) <| Wb (Ab rfl) <| anz <| wq <| wq <| Wq rfl (cr [] wd5) <| Qa (Mb rfl) <| Qa (Nt rfl) <| fun p43 p02=>anz <| W_cond (b:=!(y3.2)) rfl ?_ ?_
 intro nt
 rw [nt] at ho
 refine wq <| Wq rfl p02 <| Qa (Av (.pointer none) rfl) <| Qa (Ai rfl) <| fun p44 p20=>anz <| ?_
 cases ho
 exact W_ret ⟨_,res_2 Tryz.results83,_,rfl,(hB.trans p20),rfl⟩
 intro nt
 rw [nt] at ho
 refine W_skip <| anz <| wq <| wq <| Wq rfl p02 <| Qa (Mp rfl) <| ?_
 obtain ⟨y115,p21,ho⟩:=bs ho
 refine Qc Tryz.func151 rfl rfl (fun _ hC=>impl_coverage_isTopology_calls (x0:=(MCoverage.mk m11.Classifier x0.Shape m11.Covers m11.Count)) ((Le.own (Le.refl _) 2).le (kp _ qj.1 hC)) ((Le.own (Le.refl _) 2).le (kp _ jp.1 hC)) ((Le.own (Le.refl _) 2).le (kp _ jq.1 hC)) ((Le.own (Le.own (Le.refl _) 2) 22).le (kp _ jr.1 hC)) ((Le.own (Le.refl _) 2).le (kp _ qg.1 hC)) ((Le.own (Le.own (Le.refl _) 2) 22).le (kp _ js.1 hC)) ((Le.own (Le.own (Le.own (Le.refl _) 2) 114) 118).le (kp _ jt.1 hC)) (kr ju hC).at (kp _ zp (hB.trans hC)) (kp _ zq (hB.trans hC)) (kp _ zr (hB.trans hC)) (kp _ zt (hB.trans hC)) (At.keep0 sb9 (hB.trans hC)) ((Le.own (Le.own (Le.refl _) 4) 138).le (kp _ qb.1 hC)) (kr p00 hC).at (kr qk hC).at p21) <| Qa (Nt rfl) <| fun qr pb=>anz <| W_cond (b:=!(y115)) rfl ?_ ?_
 intro qc
 rw [qc] at ho
 refine wq <| Wq rfl pb <| Qa (Av (.pointer none) rfl) <| Qa (Ai rfl) <| fun p22 nu=>anz <| ?_
 cases ho
 exact W_ret ⟨_,res_2 Tryz.results83,_,rfl,(hB.trans nu),rfl⟩
 intro qc
 rw [qc] at ho
 refine W_skip <| anz <| wq <| Wq rfl pb <| Qa (Mp rfl) <| Qa (Ap rfl) <| Qa (Ai rfl) <| fun p17 pa=>anz <| ?_
 cases ho
 exact W_ret ⟨_,res_2 Tryz.results83,_,rfl,(hB.trans pa),_,_,_,_,_,_,_,_,_,_,_,_,_,_,_,_,_,_,_,rfl,(ko qj pa),(ko jp pa),(ko jq pa),(ko jr pa),(ko qg pa),(ko js pa),(ko jt pa),(kr ju pa),p1x,(ko qb pa),(kr p00 pa),p1y,(kr qk pa),ns,d51,d52,nn,no,np,nq,nr,jv,jw,jx,jy,jz,k0,k1,qi,k2,pu,k3,k4,k5,k6,k7,k8,k9,ka,kb,j3,j4,j5,j6,j7,j8,j9,ja,jb,jc,kc,kd,ke,kf,kg,kh,ki,kj,kk,kl,km,kn,ql,qm,qn,qo,qp,qq,kq⟩

abbrev impl_topologyCode_post (p_x0:Addr) (w:World) (x:((Option MCoverage)×Int)) (e:Ending) (w':World):Prop:=∃ (v0:Value),e = .returned (.tuple #[v0,.int .i64 x.2])∧Chg [] w w'∧(match x.1 with | none=>(v0 = .pointer none) | some m0=>∃ (b101:Nat) (b102:Nat) (v101:Value) (f101:List Nat) (v102:Value) (f102:List Nat) (v103:Value) (f103:List Nat) (v104:Value) (f104:List Nat) (v105:Value) (f105:List Nat) (v106:Value) (f106:List Nat) (v107:Value) (f107:List Nat) (v108:Value) (f108:List Nat) (b103:Nat),v0 = .pointer (some (⟨b101,0,none⟩))∧OE [] w.heap.size w' (sOwn 2 (sInt .i64)) [v101] m0.Classifier.Sets.Shape.From f101∧OE [] w.heap.size w' (sOwn 2 (sInt .i64)) [v102] m0.Classifier.Sets.Shape.To f102∧OE [] w.heap.size w' (sOwn 2 (sInt .i64)) [v103] m0.Classifier.Sets.Shape.Identity f103∧OE [] w.heap.size w' (sOwn 22 (sOwn 2 (sInt .i64))) [v104] m0.Classifier.Sets.Shape.Composites f104∧OE [] w.heap.size w' (sOwn 2 (sInt .i64)) [v105] m0.Classifier.Sets.Sizes f105∧OE [] w.heap.size w' (sOwn 22 (sOwn 2 (sInt .i64))) [v106] m0.Classifier.Sets.Actions f106∧OE [] w.heap.size w' (sOwn 118 (sOwn 114 (sOwn 2 (sInt .i64)))) [v107] m0.Classifier.Sieves f107∧Row w' b102 [.int .i64 (m0.Classifier.Sets.Shape.Objects),v101,v102,v103,v104,v105,v106,v107] 151∧w.heap.size≤b102∧OE [] w.heap.size w' (sOwn 138 (sOwn 4 sBool)) [v108] m0.Covers f108∧Row w' b103 [.int .i64 (m0.Count)] 197∧w.heap.size≤b103∧Row w' b101 [.pointer (some (⟨b102,0,none⟩)),.pointer (some ((p_x0.add 0))),v108,.pointer (some (⟨b103,0,none⟩))] 144∧w.heap.size≤b101∧Dis f101 f102∧Dis f101 f103∧Dis f101 f104∧Dis f101 f105∧Dis f101 f106∧Dis f101 f107∧Dis f101 [b102]∧Dis f101 f108∧Dis f101 [b103]∧Dis f101 [b101]∧Dis f102 f103∧Dis f102 f104∧Dis f102 f105∧Dis f102 f106∧Dis f102 f107∧Dis f102 [b102]∧Dis f102 f108∧Dis f102 [b103]∧Dis f102 [b101]∧Dis f103 f104∧Dis f103 f105∧Dis f103 f106∧Dis f103 f107∧Dis f103 [b102]∧Dis f103 f108∧Dis f103 [b103]∧Dis f103 [b101]∧Dis f104 f105∧Dis f104 f106∧Dis f104 f107∧Dis f104 [b102]∧Dis f104 f108∧Dis f104 [b103]∧Dis f104 [b101]∧Dis f105 f106∧Dis f105 f107∧Dis f105 [b102]∧Dis f105 f108∧Dis f105 [b103]∧Dis f105 [b101]∧Dis f106 f107∧Dis f106 [b102]∧Dis f106 f108∧Dis f106 [b103]∧Dis f106 [b101]∧Dis f107 [b102]∧Dis f107 f108∧Dis f107 [b103]∧Dis f107 [b101]∧Dis [b102] f108∧Dis [b102] [b103]∧Dis [b102] [b101]∧Dis f108 [b103]∧Dis f108 [b101]∧Dis [b103] [b101])
abbrev impl_topologyCode_T (p_x0:Addr) (w:World):=Tm Tryz.prog Tryz.f73 11 (impl_topologyCode_post p_x0 w)
theorem impl_topologyCode_calls {w:World} {x0:MTopology} {p_x0:Addr} {zk:Value} {zv:List Nat} {zl:Value} {zw:List Nat} {zm:Value} {zx:List Nat} {zn:Value} {zy:List Nat} {zi:Value} {zj:List Nat} (zp:(sImm (sInt .i64)).rep w.heap [zk] x0.Shape.From zv) (zq:(sImm (sInt .i64)).rep w.heap [zl] x0.Shape.To zw) (zr:(sImm (sInt .i64)).rep w.heap [zm] x0.Shape.Identity zx) (zt:(sImm (sImm (sInt .i64))).rep w.heap [zn] x0.Shape.Composites zy) (zh:(sImm (sImm (sImm (sInt .i64)))).rep w.heap [zi] x0.Covers zj) (a_x0:At w p_x0 [.int .i64 (x0.Shape.Objects),zk,zl,zm,zn,zi]) {y:((Option MCoverage)×Int)} (hm:impl_topologyCode x0=some y) :
  Calls Tryz.prog 73 #[.pointer (some (p_x0))] w (impl_topologyCode_post p_x0 w y):=by
 refine Cm (S:=Unit) Tryz.func73 rfl Tryz.ntmps73 rfl hm fun o ho hB=>?_
 clear hm
 refine wq <| Wq rfl (cr [] w) <| Qa (Av (.pointer none) rfl) <| Qa (Ai rfl) <| fun wd1 hC2=>anz <| wq <| wq <| Wq rfl hC2 <| Qa (Mp rfl) <| ?_
 obtain ⟨y3,hy4,ho⟩:=bs ho
 refine Qc Tryz.func80 rfl rfl (fun _ hC=>impl_Topology_hasForm_calls (kp _ zp (hB.trans hC)) (kp _ zq (hB.trans hC)) (kp _ zr (hB.trans hC)) (kp _ zt (hB.trans hC)) (kp _ zh (hB.trans hC)) (At.keep0 a_x0 (hB.trans hC)) hy4) <| Qa (Nt rfl) <| fun wd5 hC6=>anz <| W_cond (b:=!(y3)) rfl ?_ ?_
 intro hb7
 rw [hb7] at ho
 refine wq <| Wq rfl hC6 <| Qa (Av (.pointer none) rfl) <| Qa (Ai rfl) <| fun wd8 hC9=>anz <| ?_
 cases ho
 exact W_ret ⟨_,res_2 Tryz.results73,_,rfl,(hB.trans hC9),rfl⟩
 intro hb7
 rw [hb7] at ho
 refine W_skip <| anz <| wq <| W_region rfl <| Wb (Mp rfl) <| ?_
 obtain ⟨y10,nv,ho⟩:=bs ho
 refine WL.call rfl (op_callF Tryz.func83 rfl rfl) (impl_limitCode_calls (kp _ zp (hB.trans hC6)) (kp _ zq (hB.trans hC6)) (kp _ zr (hB.trans hC6)) (kp _ zt (hB.trans hC6)) (kp _ zh (hB.trans hC6)) (At.keep0 a_x0 (hB.trans hC6)) nv) <| ?_
 rintro _ p23 ⟨v15,rfl,ks,hp14⟩
 refine ⟨_,rfl,?_⟩
 rcases hq17:y10.1 with _ | m18
 rw [hq17] at hp14 ho
 try dsimp only at hp14
 try dsimp only at ho
 obtain rfl:=hp14
 have p24:=hC6.trans ks
 replace hB:=(hB.trans p24)
 refine Wb (Ex (.pointer none) rfl rfl) <| Wb (Exi rfl rfl) <| Wb (Av (.pointer none) rfl) <| Wb (Ai rfl) <| anz <| ?_
 cases ho
 exact W_ret ⟨_,res_2 Tryz.results73,_,rfl,hB,rfl⟩
 rw [hq17] at hp14 ho
 try dsimp only at hp14
 try dsimp only at ho
 obtain ⟨jo,b22,v24,f25,v27,f28,v30,f31,v33,f34,v36,f37,v39,f40,v42,f43,v46,f47,b49,rfl,nw,nx,ny,nz,g0,g1,g2,p27,p28,g3,p29,p2a,ju,p2b,nn,no,np,nq,nr,jv,jw,jx,jy,jz,k0,k1,qi,k2,pu,k3,k4,k5,k6,k7,k8,k9,ka,kb,j3,j4,j5,j6,j7,j8,j9,ja,jb,jc,kc,kd,ke,kf,kg,kh,ki,kj,kk,kl,km,kn,ql,qm,qn,qo,qp,qq,kq,p03,p04⟩:=hp14
 replace nw:=OE.low (G:=[]) nw (hB.trans hC6).size
 replace nx:=OE.low (G:=[]) nx (hB.trans hC6).size
 replace ny:=OE.low (G:=[]) ny (hB.trans hC6).size
 replace nz:=OE.low (G:=[]) nz (hB.trans hC6).size
 replace g0:=OE.low (G:=[]) g0 (hB.trans hC6).size
 replace g1:=OE.low (G:=[]) g1 (hB.trans hC6).size
 replace g2:=OE.low (G:=[]) g2 (hB.trans hC6).size
 have ns:w.heap.size≤b22:=Nat.le_trans (hB.trans hC6).size p28
 replace g3:=OE.low (G:=[]) g3 (hB.trans hC6).size
 have p2c:w.heap.size≤b49:=Nat.le_trans (hB.trans hC6).size p2a
 have p2d:w.heap.size≤jo:=Nat.le_trans (hB.trans hC6).size p2b
 have p2e:=hC6.trans ks
 replace hB:=(hB.trans p2e)
 refine Wb (Ex (.pointer (some (⟨jo,0,none⟩))) rfl rfl) <| Wb (Exi rfl rfl) <| Wb (Ap rfl) <| Wb (Ai rfl) <| anz <| ?_
 cases ho
 exact W_ret ⟨_,res_2 Tryz.results73,_,rfl,hB,_,_,_,_,_,_,_,_,_,_,_,_,_,_,_,_,_,_,_,rfl,nw,nx,ny,nz,g0,g1,g2,p27,ns,g3,p29,p2c,ju,p2d,nn,no,np,nq,nr,jv,jw,jx,jy,jz,k0,k1,qi,k2,pu,k3,k4,k5,k6,k7,k8,k9,ka,kb,j3,j4,j5,j6,j7,j8,j9,ja,jb,jc,kc,kd,ke,kf,kg,kh,ki,kj,kk,kl,km,kn,ql,qm,qn,qo,qp,qq,kq,p03,p04⟩

abbrev impl_IsTopology_post (w:World) (x:(Bool×Int)) (e:Ending) (w':World):Prop:=e = .returned (.tuple #[.bool x.1,.int .i64 x.2])∧Chg [] w w'
abbrev impl_IsTopology_T (w:World):=Tm Tryz.prog Tryz.f18 15 (impl_IsTopology_post w)
theorem impl_IsTopology_calls {w:World} {x0:MTopology} {zk:Value} {zv:List Nat} {zl:Value} {zw:List Nat} {zm:Value} {zx:List Nat} {zn:Value} {zy:List Nat} {zi:Value} {zj:List Nat} (zp:(sImm (sInt .i64)).rep w.heap [zk] x0.Shape.From zv) (zq:(sImm (sInt .i64)).rep w.heap [zl] x0.Shape.To zw) (zr:(sImm (sInt .i64)).rep w.heap [zm] x0.Shape.Identity zx) (zt:(sImm (sImm (sInt .i64))).rep w.heap [zn] x0.Shape.Composites zy) (zh:(sImm (sImm (sImm (sInt .i64)))).rep w.heap [zi] x0.Covers zj) {y:(Bool×Int)} (hm:impl_IsTopology x0=some y) :
  Calls Tryz.prog 18 #[.agg #[.int .i64 (x0.Shape.Objects),zk,zl,zm,zn,zi]] w (impl_IsTopology_post w y):=by
 refine Cm (S:=Unit) Tryz.func18 rfl Tryz.ntmps18 rfl hm fun o ho hB=>?_
 clear hm
 refine wq <| W_region rfl <| WL.box fun b1 wd2 hC3 hr4 hl5=>?_
 replace hr4:Row wd2 b1 [.int .i64 (x0.Shape.Objects),zk,zl,zm,zn,zi] 34:=hr4
 replace hB:=(hB.trans hC3)
 refine Wb (Ab rfl) <| Wb (Ai rfl) <| anz <| wq <| W_region rfl <| ?_
 obtain ⟨y8,hy9,ho⟩:=bs ho
 refine WL.call rfl (op_callF Tryz.func73 rfl rfl) (impl_topologyCode_calls (kp _ zp hB) (kp _ zq hB) (kp _ zr hB) (kp _ zt hB) (kp _ zh hB) hr4.at hy9) <| ?_
 rintro _ px ⟨v13,rfl,kt,hp12⟩
 refine ⟨_,rfl,?_⟩
 rcases hq15:y8.1 with _ | m16
 rw [hq15] at hp12 ho
 try dsimp only at hp12
 try dsimp only at ho
 obtain rfl:=hp12
 replace hr4:=kr hr4 kt
 replace hB:=(hB.trans kt)
 refine Wb (Mt rfl) <| Wb (Ex (.pointer none) rfl rfl) <| Wb (Exi rfl rfl) <| Wb (Av (.pointer none) rfl) <| Wb (Ai rfl) <| anz <| wq <| wq <| Wq rfl (cr [] px) <| Qa (Mi rfl) <| Qa (Be rfl rfl) <| fun p05 py=>anz <| W_cond (b:=(y8.2) == ((5:Int))) rfl ?_ ?_
 intro pq
 rw [pq] at ho
 refine wq <| Wq rfl py <| Qa (Ab rfl) <| Qa (Ai rfl) <| fun g4 qd=>anz <| ?_
 cases ho
 exact W_ret ⟨_,res_2 Tryz.results18,rfl,(hB.trans qd)⟩
 intro pq
 rw [pq] at ho
 refine W_skip <| anz <| wq <| Wq rfl py <| Qa (Mv (.pointer none) rfl) <| Qa (Bpn0 pt102 rfl rfl) <| Qa (Mi rfl) <| Qa (Ab rfl) <| Qa (Ai rfl) <| fun ji qs=>anz <| ?_
 cases ho
 exact W_ret ⟨_,res_2 Tryz.results18,rfl,(hB.trans qs)⟩
 rw [hq15] at hp12 ho
 try dsimp only at hp12
 try dsimp only at ho
 obtain ⟨b25,b27,v29,f30,v32,f33,v35,f36,v38,f39,v41,f42,v44,f45,v47,f48,v51,f52,b54,rfl,qt,qu,qw,o40,o43,qb,o49,p4j,p01,o53,p4k,p4l,ku,p4m,jv,jw,jx,jy,jz,k0,k1,qi,k2,pu,k3,k4,k5,k6,k7,k8,k9,ka,kb,j3,j4,j5,j6,j7,j8,j9,ja,jb,jc,kc,kd,ke,kf,kg,kh,ki,kj,kk,kl,km,kn,ql,qm,qn,qo,qp,qq,kq,p03,p04,p4n,p4o,p4p,p4q,p4r⟩:=hp12
 replace qt:=OE.low (G:=[]) qt hB.size
 replace qu:=OE.low (G:=[]) qu hB.size
 replace qw:=OE.low (G:=[]) qw hB.size
 replace o40:=OE.low (G:=[]) o40 hB.size
 replace o43:=OE.low (G:=[]) o43 hB.size
 replace qb:=OE.low (G:=[]) qb hB.size
 replace o49:=OE.low (G:=[]) o49 hB.size
 replace o53:=OE.low (G:=[]) o53 hB.size
 replace hr4:=kr hr4 kt
 replace hB:=(hB.trans kt)
 refine Wb (Mt rfl) <| Wb (Ex (.pointer (some (⟨b25,0,none⟩))) rfl rfl) <| Wb (Exi rfl rfl) <| Wb (Ap rfl) <| Wb (Ai rfl) <| anz <| wq <| wq <| Wq rfl (cr [] px) <| Qa (Mi rfl) <| Qa (Be rfl rfl) <| fun p4s p0a=>anz <| W_cond (b:=(y8.2) == ((5:Int))) rfl ?_ ?_
 intro g5
 rw [g5] at ho
 refine wq <| Wq rfl p0a <| Qa (Ab rfl) <| Qa (Ai rfl) <| fun p4t p2j=>anz <| ?_
 cases ho
 exact W_ret ⟨_,res_2 Tryz.results18,rfl,(hB.trans p2j)⟩
 intro g5
 rw [g5] at ho
 refine W_skip <| anz <| wq <| Wq rfl p0a <| Qa (Mp rfl) <| Qa (Bpn1 pt102 rfl rfl) <| Qa (Mi rfl) <| Qa (Ab rfl) <| Qa (Ai rfl) <| fun p4u p2k=>anz <| ?_
 cases ho
 exact W_ret ⟨_,res_2 Tryz.results18,rfl,(hB.trans p2k)⟩

abbrev laws_eqInt64S_post (w:World) (x:(Bool)) (e:Ending) (w':World):Prop:=e = .returned (.bool x)∧Chg [] w w'
abbrev laws_eqInt64S_T (w:World):=Tm Tryz.prog Tryz.f23 26 (laws_eqInt64S_post w)
theorem laws_eqInt64S_calls {w:World} {x0:(List Int)} {v_x0:Value} {f_x0:List Nat} {x1:(List Int)} {v_x1:Value} {f_x1:List Nat} (h_x0:(sImm (sInt .i64)).rep w.heap [v_x0] x0 f_x0) (h_x1:(sImm (sInt .i64)).rep w.heap [v_x1] x1 f_x1) {y:(Bool)} (hm:laws_eqInt64S x0 x1=some y) :
  Calls Tryz.prog 23 #[v_x0,v_x1] w (laws_eqInt64S_post w y):=by
 refine Cm (S:=Unit) Tryz.func23 rfl Tryz.ntmps23 rfl hm fun o ho hB=>?_
 clear hm
 refine wq <| Wq rfl (cr [] w) <| Qa (Ab rfl) <| fun wd1 hC2=>anz <| wq <| wq <| Wq rfl hC2 <| Qa (Mv v_x0 rfl) <| Qa (Ln sl22 (kB h_x0 hB) rfl) <| Qa (Mv v_x1 rfl) <| Qa (Ln sl22 (kB h_x1 hB) rfl) <| Qa (Bn rfl rfl) <| fun wd3 hC4=>anz <| W_cond (b:=((x0.length:Int)) != ((x1.length:Int))) rfl ?_ ?_
 intro hb5
 rw [hb5] at ho
 refine wq <| Wq rfl hC4 <| Qa (Ab rfl) <| fun wd6 hC7=>anz <| ?_
 cases ho
 exact W_ret ⟨_,res_1 Tryz.results23,rfl,(hB.trans hC7)⟩
 intro hb5
 rw [hb5] at ho
 refine W_skip <| anz <| wq <| wq <| Wq rfl hC4 <| Qa (Ai rfl) <| fun wd8 hC9=>anz <| Wf (S1:=Int) (fun (s0_5:Int) r w'=>Chg [] w w'∧∃ F,r=updL F [(0,v_x0),(1,v_x1),(5,.int .i64 (s0_5))]) (laws_eqInt64S_T w) ho ⟨(hB.trans hC9),fe rfl⟩ ?_ ?_
 rintro s0_5 _ px ⟨hB,F,rfl⟩ o ho
 replace ho:laws_eqInt64S_L0 x0 x1 s0_5=some o:=ho
 unfold laws_eqInt64S_L0 at ho
 refine wq <| wq <| Wq rfl (cr [] px) <| Qa (Mi rfl) <| Qa (Mv v_x0 rfl) <| Qa (Ln sl22 (kB h_x0 hB) rfl) <| Qa (Bl rfl rfl) <| fun kw p0=>anz <| W_cond (b:=decide (s0_5 < (x0.length:Int))) rfl ?_ ?_
 intro pr
 rw [pr] at ho
 refine W_skip <| anz <| wq <| W_block <| wq <| Wqd rfl (by kernel_rfl) p0 <| Qa (Mv v_x0 rfl) <| Qa (Mi rfl) <| ?_
 obtain ⟨e14,hx15e,ho⟩:=bs ho
 have hx15:=idx_some hx15e
 refine Qa (Ix sl22 (kB h_x0 hB) hx15 rfl rfl rfl) <| Qa (Ei na2 (kB h_x0 hB) hx15 rfl) <| Qa (Mv v_x1 rfl) <| Qa (Mi rfl) <| ?_
 obtain ⟨e16,hx17e,ho⟩:=bs ho
 have hx17:=idx_some hx17e
 refine Qa (Ix sl22 (kB h_x1 hB) hx17 rfl rfl rfl) <| Qa (Ei na2 (kB h_x1 hB) hx17 rfl) <| Qa (Bn rfl rfl) <| fun p05 py=>anz <| W_cond (b:=(e14) != (e16)) rfl ?_ ?_
 intro pq
 rw [pq] at ho
 refine wq <| Wq rfl py <| Qa (Ab rfl) <| fun g4 qd=>anz <| ?_
 cases ho
 exact W_ret ⟨_,res_1 Tryz.results23,rfl,(hB.trans qd)⟩
 intro pq
 rw [pq] at ho
 refine W_skip <| inBlk_n <| anz <| Wq rfl py <| Qa (Mi rfl) <| Qa (Ba rfl rfl) <| Qa (Ai rfl) <| fun ji qs=>?_
 cases ho
 exact ⟨(hB.trans qs),fe rfl⟩
 intro pr
 rw [pr] at ho
 refine W_exit <| andThen_x <| ?_
 cases ho
 exact ⟨rfl,⟨(hB.trans p0),fe rfl⟩⟩
 rintro s0_5 _ ky ⟨hB,F,rfl⟩ ho
 refine anz <| wq <| Wq rfl (cr [] ky) <| Qa (Ab rfl) <| fun gx j2=>anz <| ?_
 cases ho
 exact W_ret ⟨_,res_1 Tryz.results23,rfl,(hB.trans j2)⟩

abbrev laws_eqInt64SS_post (w:World) (x:(Bool)) (e:Ending) (w':World):Prop:=e = .returned (.bool x)∧Chg [] w w'
abbrev laws_eqInt64SS_T (w:World):=Tm Tryz.prog Tryz.f29 27 (laws_eqInt64SS_post w)
theorem laws_eqInt64SS_calls {w:World} {x0:(List (List Int))} {v_x0:Value} {f_x0:List Nat} {x1:(List (List Int))} {v_x1:Value} {f_x1:List Nat} (h_x0:(sImm (sImm (sInt .i64))).rep w.heap [v_x0] x0 f_x0) (h_x1:(sImm (sImm (sInt .i64))).rep w.heap [v_x1] x1 f_x1) {y:(Bool)} (hm:laws_eqInt64SS x0 x1=some y) :
  Calls Tryz.prog 29 #[v_x0,v_x1] w (laws_eqInt64SS_post w y):=by
 refine Cm (S:=Unit) Tryz.func29 rfl Tryz.ntmps29 rfl hm fun o ho hB=>?_
 clear hm
 refine wq <| Wq rfl (cr [] w) <| Qa (Ab rfl) <| fun wd1 hC2=>anz <| wq <| wq <| Wq rfl hC2 <| Qa (Mv v_x0 rfl) <| Qa (Ln sl23 (kB h_x0 hB) rfl) <| Qa (Mv v_x1 rfl) <| Qa (Ln sl23 (kB h_x1 hB) rfl) <| Qa (Bn rfl rfl) <| fun wd3 hC4=>anz <| W_cond (b:=((x0.length:Int)) != ((x1.length:Int))) rfl ?_ ?_
 intro hb5
 rw [hb5] at ho
 refine wq <| Wq rfl hC4 <| Qa (Ab rfl) <| fun wd6 hC7=>anz <| ?_
 cases ho
 exact W_ret ⟨_,res_1 Tryz.results29,rfl,(hB.trans hC7)⟩
 intro hb5
 rw [hb5] at ho
 refine W_skip <| anz <| wq <| wq <| Wq rfl hC4 <| Qa (Ai rfl) <| fun wd8 hC9=>anz <| Wf (S1:=Int) (fun (s0_5:Int) r w'=>Chg [] w w'∧∃ F,r=updL F [(0,v_x0),(1,v_x1),(5,.int .i64 (s0_5))]) (laws_eqInt64SS_T w) ho ⟨(hB.trans hC9),fe rfl⟩ ?_ ?_
 rintro s0_5 _ px ⟨hB,F,rfl⟩ o ho
 replace ho:laws_eqInt64SS_L0 x0 x1 s0_5=some o:=ho
 unfold laws_eqInt64SS_L0 at ho
 refine wq <| wq <| Wq rfl (cr [] px) <| Qa (Mi rfl) <| Qa (Mv v_x0 rfl) <| Qa (Ln sl23 (kB h_x0 hB) rfl) <| Qa (Bl rfl rfl) <| fun kw p0=>anz <| W_cond (b:=decide (s0_5 < (x0.length:Int))) rfl ?_ ?_
 intro pr
 rw [pr] at ho
 refine W_skip <| anz <| wq <| W_block <| wq <| Wqd rfl (by kernel_rfl) p0 <| Qa (Mv v_x0 rfl) <| Qa (Mi rfl) <| ?_
 obtain ⟨e14,hx15e,ho⟩:=bs ho
 have hx15:=idx_some hx15e
 refine Qa (Ix sl23 (kB h_x0 hB) hx15 rfl rfl rfl) <| ?_
 obtain ⟨u16,fu17,hu18,qk,hs20⟩:=one_get rfl h_x0 hx15.1 hx15.2
 refine Qa (Ld na22 (hB.cell0 hu18) rfl) <| Qa (Mv v_x1 rfl) <| Qa (Mi rfl) <| ?_
 obtain ⟨e21,hx22e,ho⟩:=bs ho
 have hx22:=idx_some hx22e
 refine Qa (Ix sl23 (kB h_x1 hB) hx22 rfl rfl rfl) <| ?_
 obtain ⟨u23,fu24,hu25,ku,hs27⟩:=one_get rfl h_x1 hx22.1 hx22.2
 refine Qa (Ld na22 (hB.cell0 hu25) rfl) <| ?_
 obtain ⟨y28,jd,ho⟩:=bs ho
 refine Qc Tryz.func23 rfl rfl (fun _ hC=>laws_eqInt64S_calls (kp _ qk (hB.trans hC)) (kp _ ku (hB.trans hC)) jd) <| Qa (Nt rfl) <| fun jh pd=>anz <| W_cond (b:=!(y28)) rfl ?_ ?_
 intro ps
 rw [ps] at ho
 refine wq <| Wq rfl pd <| Qa (Ab rfl) <| fun n0 q6=>anz <| ?_
 cases ho
 exact W_ret ⟨_,res_1 Tryz.results29,rfl,(hB.trans q6)⟩
 intro ps
 rw [ps] at ho
 refine W_skip <| inBlk_n <| anz <| Wq rfl pd <| Qa (Mi rfl) <| Qa (Ba rfl rfl) <| Qa (Ai rfl) <| fun p2l g6=>?_
 cases ho
 exact ⟨(hB.trans g6),fe rfl⟩
 intro pr
 rw [pr] at ho
 refine W_exit <| andThen_x <| ?_
 cases ho
 exact ⟨rfl,⟨(hB.trans p0),fe rfl⟩⟩
 rintro s0_5 _ kv ⟨hB,F,rfl⟩ ho
 refine anz <| wq <| Wq rfl (cr [] kv) <| Qa (Ab rfl) <| fun gh q7=>anz <| ?_
 cases ho
 exact W_ret ⟨_,res_1 Tryz.results29,rfl,(hB.trans q7)⟩

abbrev laws_eqCategory_post (w:World) (x:(Bool)) (e:Ending) (w':World):Prop:=e = .returned (.bool x)∧Chg [] w w'
abbrev laws_eqCategory_T (w:World):=Tm Tryz.prog Tryz.f42 34 (laws_eqCategory_post w)
theorem laws_eqCategory_calls {w:World} {x0:MCategory} {z2:Value} {zd:List Nat} {z1:Value} {ze:List Nat} {z8:Value} {zf:List Nat} {z7:Value} {zg:List Nat} {x1:MCategory} {z2g:Value} {z2w:List Nat} {z2h:Value} {z2x:List Nat} {z2i:Value} {z2y:List Nat} {z2j:Value} {z30:List Nat} (z6:(sImm (sInt .i64)).rep w.heap [z2] x0.From zd) (za:(sImm (sInt .i64)).rep w.heap [z1] x0.To ze) (zc:(sImm (sInt .i64)).rep w.heap [z8] x0.Identity zf) (zb:(sImm (sImm (sInt .i64))).rep w.heap [z7] x0.Composites zg) (z3w:(sImm (sInt .i64)).rep w.heap [z2g] x1.From z2w) (z3x:(sImm (sInt .i64)).rep w.heap [z2h] x1.To z2x) (z2o:(sImm (sInt .i64)).rep w.heap [z2i] x1.Identity z2y) (z3y:(sImm (sImm (sInt .i64))).rep w.heap [z2j] x1.Composites z30) {y:(Bool)} (hm:laws_eqCategory x0 x1=some y) :
  Calls Tryz.prog 42 #[.agg #[.int .i64 (x0.Objects),z2,z1,z8,z7],.agg #[.int .i64 (x1.Objects),z2g,z2h,z2i,z2j]] w (laws_eqCategory_post w y):=by
 refine Cm (S:=Unit) Tryz.func42 rfl Tryz.ntmps42 rfl hm fun o ho hB=>?_
 clear hm
 refine wq <| W_region rfl <| WL.box fun b1 wd2 hC3 hr4 hl5=>?_
 replace hr4:Row wd2 b1 [.int .i64 (x0.Objects),z2,z1,z8,z7] 32:=hr4
 replace hB:=(hB.trans hC3)
 refine WL.box fun b8 wd9 pw p9 jn=>?_
 replace p9:Row wd9 b8 [.int .i64 (x1.Objects),z2g,z2h,z2i,z2j] 32:=p9
 replace hr4:=kr hr4 pw
 replace hB:=(hB.trans pw)
 refine Wb (Ab rfl) <| anz <| wq <| wq <| Wq rfl (cr [] wd9) <| Qa (Fr fa32_0 rfl) <| Qa (Lr na2 hr4 rfl rfl) <| Qa (Fr fa32_0 rfl) <| Qa (Lr na2 p9 rfl rfl) <| Qa (Bn rfl rfl) <| fun nk qa=>anz <| W_cond (b:=(x0.Objects) != (x1.Objects)) rfl ?_ ?_
 intro g7
 rw [g7] at ho
 refine wq <| Wq rfl qa <| Qa (Ab rfl) <| fun p4v p2m=>anz <| ?_
 cases ho
 exact W_ret ⟨_,res_1 Tryz.results42,rfl,(hB.trans p2m)⟩
 intro g7
 rw [g7] at ho
 refine W_skip <| anz <| wq <| wq <| Wq rfl qa <| Qa (Fr fa32_1 rfl) <| Qa (Lr na22 hr4 rfl rfl) <| Qa (Fr fa32_1 rfl) <| Qa (Lr na22 p9 rfl rfl) <| ?_
 obtain ⟨y21,p2n,ho⟩:=bs ho
 refine Qc Tryz.func23 rfl rfl (fun _ hC=>laws_eqInt64S_calls (kp _ z6 (hB.trans hC)) (kp _ z3w (hB.trans hC)) p2n) <| Qa (Nt rfl) <| fun ji qs=>anz <| W_cond (b:=!(y21)) rfl ?_ ?_
 intro g8
 rw [g8] at ho
 refine wq <| Wq rfl qs <| Qa (Ab rfl) <| fun gx j2=>anz <| ?_
 cases ho
 exact W_ret ⟨_,res_1 Tryz.results42,rfl,(hB.trans j2)⟩
 intro g8
 rw [g8] at ho
 refine W_skip <| anz <| wq <| wq <| Wq rfl qs <| Qa (Fr fa32_2 rfl) <| Qa (Lr na22 hr4 rfl rfl) <| Qa (Fr fa32_2 rfl) <| Qa (Lr na22 p9 rfl rfl) <| ?_
 obtain ⟨y28,jd,ho⟩:=bs ho
 refine Qc Tryz.func23 rfl rfl (fun _ hC=>laws_eqInt64S_calls (kp _ za (hB.trans hC)) (kp _ z3x (hB.trans hC)) jd) <| Qa (Nt rfl) <| fun jh pd=>anz <| W_cond (b:=!(y28)) rfl ?_ ?_
 intro ps
 rw [ps] at ho
 refine wq <| Wq rfl pd <| Qa (Ab rfl) <| fun n0 q6=>anz <| ?_
 cases ho
 exact W_ret ⟨_,res_1 Tryz.results42,rfl,(hB.trans q6)⟩
 intro ps
 rw [ps] at ho
 refine W_skip <| anz <| wq <| wq <| Wq rfl pd <| Qa (Fr fa32_3 rfl) <| Qa (Lr na22 hr4 rfl rfl) <| Qa (Fr fa32_3 rfl) <| Qa (Lr na22 p9 rfl rfl) <| ?_
 obtain ⟨y35,p2o,ho⟩:=bs ho
 refine Qc Tryz.func23 rfl rfl (fun _ hC=>laws_eqInt64S_calls (kp _ zc (hB.trans hC)) (kp _ z2o (hB.trans hC)) p2o) <| Qa (Nt rfl) <| fun kv p0b=>anz <| W_cond (b:=!(y35)) rfl ?_ ?_
 intro g9
 rw [g9] at ho
 refine wq <| Wq rfl p0b <| Qa (Ab rfl) <| fun gi p2p=>anz <| ?_
 cases ho
 exact W_ret ⟨_,res_1 Tryz.results42,rfl,(hB.trans p2p)⟩
 intro g9
 rw [g9] at ho
 refine W_skip <| anz <| wq <| wq <| Wq rfl p0b <| Qa (Fr fa32_4 rfl) <| Qa (Lr na23 hr4 rfl rfl) <| Qa (Fr fa32_4 rfl) <| Qa (Lr na23 p9 rfl rfl) <| ?_
 obtain ⟨y42,p2q,ho⟩:=bs ho
 refine Qc Tryz.func29 rfl rfl (fun _ hC=>laws_eqInt64SS_calls (kp _ zb (hB.trans hC)) (kp _ z3y (hB.trans hC)) p2q) <| Qa (Nt rfl) <| fun p0s qh=>anz <| W_cond (b:=!(y42)) rfl ?_ ?_
 intro q8
 rw [q8] at ho
 refine wq <| Wq rfl qh <| Qa (Ab rfl) <| fun p0t p4=>anz <| ?_
 cases ho
 exact W_ret ⟨_,res_1 Tryz.results42,rfl,(hB.trans p4)⟩
 intro q8
 rw [q8] at ho
 refine W_skip <| anz <| wq <| Wq rfl qh <| Qa (Ab rfl) <| fun p4w p2r=>anz <| ?_
 cases ho
 exact W_ret ⟨_,res_1 Tryz.results42,rfl,(hB.trans p2r)⟩

abbrev laws_eqInt64SSS_post (w:World) (x:(Bool)) (e:Ending) (w':World):Prop:=e = .returned (.bool x)∧Chg [] w w'
abbrev laws_eqInt64SSS_T (w:World):=Tm Tryz.prog Tryz.f74 27 (laws_eqInt64SSS_post w)
theorem laws_eqInt64SSS_calls {w:World} {x0:(List (List (List Int)))} {v_x0:Value} {f_x0:List Nat} {x1:(List (List (List Int)))} {v_x1:Value} {f_x1:List Nat} (h_x0:(sImm (sImm (sImm (sInt .i64)))).rep w.heap [v_x0] x0 f_x0) (h_x1:(sImm (sImm (sImm (sInt .i64)))).rep w.heap [v_x1] x1 f_x1) {y:(Bool)} (hm:laws_eqInt64SSS x0 x1=some y) :
  Calls Tryz.prog 74 #[v_x0,v_x1] w (laws_eqInt64SSS_post w y):=by
 refine Cm (S:=Unit) Tryz.func74 rfl Tryz.ntmps74 rfl hm fun o ho hB=>?_
 clear hm
 refine wq <| Wq rfl (cr [] w) <| Qa (Ab rfl) <| fun wd1 hC2=>anz <| wq <| wq <| Wq rfl hC2 <| Qa (Mv v_x0 rfl) <| Qa (Ln sl26 (kB h_x0 hB) rfl) <| Qa (Mv v_x1 rfl) <| Qa (Ln sl26 (kB h_x1 hB) rfl) <| Qa (Bn rfl rfl) <| fun wd3 hC4=>anz <| W_cond (b:=((x0.length:Int)) != ((x1.length:Int))) rfl ?_ ?_
 intro hb5
 rw [hb5] at ho
 refine wq <| Wq rfl hC4 <| Qa (Ab rfl) <| fun wd6 hC7=>anz <| ?_
 cases ho
 exact W_ret ⟨_,res_1 Tryz.results74,rfl,(hB.trans hC7)⟩
 intro hb5
 rw [hb5] at ho
 refine W_skip <| anz <| wq <| wq <| Wq rfl hC4 <| Qa (Ai rfl) <| fun wd8 hC9=>anz <| Wf (S1:=Int) (fun (s0_5:Int) r w'=>Chg [] w w'∧∃ F,r=updL F [(0,v_x0),(1,v_x1),(5,.int .i64 (s0_5))]) (laws_eqInt64SSS_T w) ho ⟨(hB.trans hC9),fe rfl⟩ ?_ ?_
 rintro s0_5 _ px ⟨hB,F,rfl⟩ o ho
 replace ho:laws_eqInt64SSS_L0 x0 x1 s0_5=some o:=ho
 unfold laws_eqInt64SSS_L0 at ho
 refine wq <| wq <| Wq rfl (cr [] px) <| Qa (Mi rfl) <| Qa (Mv v_x0 rfl) <| Qa (Ln sl26 (kB h_x0 hB) rfl) <| Qa (Bl rfl rfl) <| fun kw p0=>anz <| W_cond (b:=decide (s0_5 < (x0.length:Int))) rfl ?_ ?_
 intro pr
 rw [pr] at ho
 refine W_skip <| anz <| wq <| W_block <| wq <| Wqd rfl (by kernel_rfl) p0 <| Qa (Mv v_x0 rfl) <| Qa (Mi rfl) <| ?_
 obtain ⟨e14,hx15e,ho⟩:=bs ho
 have hx15:=idx_some hx15e
 refine Qa (Ix sl26 (kB h_x0 hB) hx15 rfl rfl rfl) <| ?_
 obtain ⟨u16,fu17,hu18,qk,hs20⟩:=one_get rfl h_x0 hx15.1 hx15.2
 refine Qa (Ld na23 (hB.cell0 hu18) rfl) <| Qa (Mv v_x1 rfl) <| Qa (Mi rfl) <| ?_
 obtain ⟨e21,hx22e,ho⟩:=bs ho
 have hx22:=idx_some hx22e
 refine Qa (Ix sl26 (kB h_x1 hB) hx22 rfl rfl rfl) <| ?_
 obtain ⟨u23,fu24,hu25,ku,hs27⟩:=one_get rfl h_x1 hx22.1 hx22.2
 refine Qa (Ld na23 (hB.cell0 hu25) rfl) <| ?_
 obtain ⟨y28,jd,ho⟩:=bs ho
 refine Qc Tryz.func29 rfl rfl (fun _ hC=>laws_eqInt64SS_calls (kp _ qk (hB.trans hC)) (kp _ ku (hB.trans hC)) jd) <| Qa (Nt rfl) <| fun jh pd=>anz <| W_cond (b:=!(y28)) rfl ?_ ?_
 intro ps
 rw [ps] at ho
 refine wq <| Wq rfl pd <| Qa (Ab rfl) <| fun n0 q6=>anz <| ?_
 cases ho
 exact W_ret ⟨_,res_1 Tryz.results74,rfl,(hB.trans q6)⟩
 intro ps
 rw [ps] at ho
 refine W_skip <| inBlk_n <| anz <| Wq rfl pd <| Qa (Mi rfl) <| Qa (Ba rfl rfl) <| Qa (Ai rfl) <| fun p2l g6=>?_
 cases ho
 exact ⟨(hB.trans g6),fe rfl⟩
 intro pr
 rw [pr] at ho
 refine W_exit <| andThen_x <| ?_
 cases ho
 exact ⟨rfl,⟨(hB.trans p0),fe rfl⟩⟩
 rintro s0_5 _ kv ⟨hB,F,rfl⟩ ho
 refine anz <| wq <| Wq rfl (cr [] kv) <| Qa (Ab rfl) <| fun gh q7=>anz <| ?_
 cases ho
 exact W_ret ⟨_,res_1 Tryz.results74,rfl,(hB.trans q7)⟩

abbrev laws_eqTopology_post (w:World) (x:(Bool)) (e:Ending) (w':World):Prop:=e = .returned (.bool x)∧Chg [] w w'
abbrev laws_eqTopology_T (w:World):=Tm Tryz.prog Tryz.f19 17 (laws_eqTopology_post w)
theorem laws_eqTopology_calls {w:World} {x0:MTopology} {zk:Value} {zv:List Nat} {zl:Value} {zw:List Nat} {zm:Value} {zx:List Nat} {zn:Value} {zy:List Nat} {zi:Value} {zj:List Nat} {x1:MTopology} {z2k:Value} {z42:List Nat} {z2l:Value} {z43:List Nat} {z2m:Value} {z44:List Nat} {z2n:Value} {z47:List Nat} {z31:Value} {z48:List Nat} (zp:(sImm (sInt .i64)).rep w.heap [zk] x0.Shape.From zv) (zq:(sImm (sInt .i64)).rep w.heap [zl] x0.Shape.To zw) (zr:(sImm (sInt .i64)).rep w.heap [zm] x0.Shape.Identity zx) (zt:(sImm (sImm (sInt .i64))).rep w.heap [zn] x0.Shape.Composites zy) (zh:(sImm (sImm (sImm (sInt .i64)))).rep w.heap [zi] x0.Covers zj) (z49:(sImm (sInt .i64)).rep w.heap [z2k] x1.Shape.From z42) (z4a:(sImm (sInt .i64)).rep w.heap [z2l] x1.Shape.To z43) (z4b:(sImm (sInt .i64)).rep w.heap [z2m] x1.Shape.Identity z44) (z4c:(sImm (sImm (sInt .i64))).rep w.heap [z2n] x1.Shape.Composites z47) (z4d:(sImm (sImm (sImm (sInt .i64)))).rep w.heap [z31] x1.Covers z48) {y:(Bool)} (hm:laws_eqTopology x0 x1=some y) :
  Calls Tryz.prog 19 #[.agg #[.int .i64 (x0.Shape.Objects),zk,zl,zm,zn,zi],.agg #[.int .i64 (x1.Shape.Objects),z2k,z2l,z2m,z2n,z31]] w (laws_eqTopology_post w y):=by
 refine Cm (S:=Unit) Tryz.func19 rfl Tryz.ntmps19 rfl hm fun o ho hB=>?_
 clear hm
 refine wq <| W_region rfl <| WL.box fun b1 wd2 hC3 hr4 hl5=>?_
 replace hr4:Row wd2 b1 [.int .i64 (x0.Shape.Objects),zk,zl,zm,zn,zi] 34:=hr4
 replace hB:=(hB.trans hC3)
 refine WL.box fun b8 wd9 pw p9 jn=>?_
 replace p9:Row wd9 b8 [.int .i64 (x1.Shape.Objects),z2k,z2l,z2m,z2n,z31] 34:=p9
 replace hr4:=kr hr4 pw
 replace hB:=(hB.trans pw)
 refine Wb (Ab rfl) <| anz <| wq <| wq <| Wq rfl (cr [] wd9) <| Qa (Fr fa34_0 rfl) <| ?_
 refine qv (v:=.agg #[.int .i64 (x0.Shape.Objects),zk,zl,zm,zn]) rfl (fun _ hC=>op_loadAgg (cs:=[.int .i64 (x0.Shape.Objects),zk,zl,zm,zn]) u32 rfl info32 (by rw [sz32]; rfl) rfl (At.sub (kr hr4 hC).at 0 5)) ?_
 refine Qa (Fr fa34_0 rfl) <| ?_
 refine qv (v:=.agg #[.int .i64 (x1.Shape.Objects),z2k,z2l,z2m,z2n]) rfl (fun _ hC=>op_loadAgg (cs:=[.int .i64 (x1.Shape.Objects),z2k,z2l,z2m,z2n]) u32 rfl info32 (by rw [sz32]; rfl) rfl (At.sub (kr p9 hC).at 0 5)) ?_
 obtain ⟨y16,p2s,ho⟩:=bs ho
 refine Qc Tryz.func42 rfl rfl (fun _ hC=>laws_eqCategory_calls (kp _ zp (hB.trans hC)) (kp _ zq (hB.trans hC)) (kp _ zr (hB.trans hC)) (kp _ zt (hB.trans hC)) (kp _ z49 (hB.trans hC)) (kp _ z4a (hB.trans hC)) (kp _ z4b (hB.trans hC)) (kp _ z4c (hB.trans hC)) p2s) <| Qa (Nt rfl) <| fun p05 py=>anz <| W_cond (b:=!(y16)) rfl ?_ ?_
 intro pq
 rw [pq] at ho
 refine wq <| Wq rfl py <| Qa (Ab rfl) <| fun g4 qd=>anz <| ?_
 cases ho
 exact W_ret ⟨_,res_1 Tryz.results19,rfl,(hB.trans qd)⟩
 intro pq
 rw [pq] at ho
 refine W_skip <| anz <| wq <| wq <| Wq rfl py <| Qa (Fr fa34_1 rfl) <| Qa (Lr na26 hr4 rfl rfl) <| Qa (Fr fa34_1 rfl) <| Qa (Lr na26 p9 rfl rfl) <| ?_
 obtain ⟨y23,kx,ho⟩:=bs ho
 refine Qc Tryz.func74 rfl rfl (fun _ hC=>laws_eqInt64SSS_calls (kp _ zh (hB.trans hC)) (kp _ z4d (hB.trans hC)) kx) <| Qa (Nt rfl) <| fun ky qy=>anz <| W_cond (b:=!(y23)) rfl ?_ ?_
 intro q5
 rw [q5] at ho
 refine wq <| Wq rfl qy <| Qa (Ab rfl) <| fun p0j kz=>anz <| ?_
 cases ho
 exact W_ret ⟨_,res_1 Tryz.results19,rfl,(hB.trans kz)⟩
 intro q5
 rw [q5] at ho
 refine W_skip <| anz <| wq <| Wq rfl qy <| Qa (Ab rfl) <| fun jh pd=>anz <| ?_
 cases ho
 exact W_ret ⟨_,res_1 Tryz.results19,rfl,(hB.trans pd)⟩

abbrev laws_FnExactIsTopology_post (w:World) (x:(Bool)) (e:Ending) (w':World):Prop:=e = .returned (.bool x)∧Chg [] w w'
abbrev laws_FnExactIsTopology_T (w:World):=Tm Tryz.prog Tryz.f3 40 (laws_FnExactIsTopology_post w)
theorem laws_FnExactIsTopology_calls {w:World} {x0:MTopology} {zk:Value} {zv:List Nat} {zl:Value} {zw:List Nat} {zm:Value} {zx:List Nat} {zn:Value} {zy:List Nat} {zi:Value} {zj:List Nat} (zp:(sImm (sInt .i64)).rep w.heap [zk] x0.Shape.From zv) (zq:(sImm (sInt .i64)).rep w.heap [zl] x0.Shape.To zw) (zr:(sImm (sInt .i64)).rep w.heap [zm] x0.Shape.Identity zx) (zt:(sImm (sImm (sInt .i64))).rep w.heap [zn] x0.Shape.Composites zy) (zh:(sImm (sImm (sImm (sInt .i64)))).rep w.heap [zi] x0.Covers zj) {y:(Bool)} (hm:laws_FnExactIsTopology x0=some y) :
  Calls Tryz.prog 3 #[.agg #[.int .i64 (x0.Shape.Objects),zk,zl,zm,zn,zi]] w (laws_FnExactIsTopology_post w y):=by
 refine Cm (S:=Unit) Tryz.func3 rfl Tryz.ntmps3 rfl hm fun o ho hB=>?_
 clear hm
 refine wq <| W_region rfl <| WL.box fun b1 wd2 hC3 hr4 hl5=>?_
 replace hr4:Row wd2 b1 [.int .i64 (x0.Shape.Objects),zk,zl,zm,zn,zi] 28:=hr4
 replace hB:=(hB.trans hC3)
 refine Wb (Ab rfl) <| anz <| wq <| Wq rfl (cr [] wd2) <| Qa (Ai rfl) <| fun wd8 hC9=>anz <| wq <| Wq rfl hC9 <| Qa (Lg ag28 hr4.at rfl rfl) <| Qa (Mi rfl) <| ?_
 obtain ⟨y10,nv,ho⟩:=bs ho
 refine Qc Tryz.func15 rfl rfl (fun _ hC=>laws_szTopology_calls (kp _ zp (hB.trans hC)) (kp _ zq (hB.trans hC)) (kp _ zr (hB.trans hC)) (kp _ zt (hB.trans hC)) (kp _ zh (hB.trans hC)) nv) <| Qa (Ai rfl) <| fun p23 ks=>anz <| wq <| wq <| Wq rfl ks <| Qa (Mi rfl) <| Qa (Bl rfl rfl) <| fun p4x pc=>anz <| W_cond (b:=decide (y10 < (0:Int))) rfl ?_ ?_
 intro ga
 rw [ga] at ho
 refine wq <| Wq rfl pc <| Qa (Ab rfl) <| fun p4y p2t=>anz <| ?_
 cases ho
 exact W_ret ⟨_,res_1 Tryz.results3,rfl,(hB.trans p2t)⟩
 intro ga
 rw [ga] at ho
 refine W_skip <| anz <| wq <| W_region rfl <| Wa pc (Lg ag28 hr4.at rfl rfl) <| ?_
 obtain ⟨y19,p2u,ho⟩:=bs ho
 refine WL.call rfl (op_callF Tryz.func17 rfl rfl) (laws_toTopology_calls (kp _ zp (hB.trans pc)) (kp _ zq (hB.trans pc)) (kp _ zr (hB.trans pc)) (kp _ zt (hB.trans pc)) (kp _ zh (hB.trans pc)) p2u) <| ?_
 rintro _ g4 ⟨v23,f24,v26,f27,v29,f30,v32,f33,v35,f36,rfl,qd,gb,gc,qt,qu,qw,d38,d39,d40,d41,d42,d43,d44,d45,d46,d47⟩
 refine ⟨_,rfl,?_⟩
 replace gb:=OE.low (G:=[]) gb (hB.trans pc).size
 replace gc:=OE.low (G:=[]) gc (hB.trans pc).size
 replace qt:=OE.low (G:=[]) qt (hB.trans pc).size
 replace qu:=OE.low (G:=[]) qu (hB.trans pc).size
 replace qw:=OE.low (G:=[]) qw (hB.trans pc).size
 have p0c:=pc.trans qd
 replace hr4:=kr hr4 p0c
 replace hB:=(hB.trans p0c)
 obtain ⟨y54,p2v,ho⟩:=bs ho
 refine WL.call rfl (op_callF Tryz.func16 rfl rfl) (spec_IsTopology_calls ((Le.own (Le.refl _) 2).le gb.1) ((Le.own (Le.refl _) 2).le gc.1) ((Le.own (Le.refl _) 2).le qt.1) ((Le.own (Le.own (Le.refl _) 2) 22).le qu.1) ((Le.own (Le.own (Le.own (Le.refl _) 2) 22) 23).le qw.1) p2v) <| ?_
 rintro _ p5b ⟨rfl,pe⟩
 refine ⟨_,rfl,?_⟩
 refine Wb (Mt rfl) <| Wb (Exb rfl rfl) <| Wb (Exi rfl rfl) <| Wb (Ab rfl) <| Wb (Ai rfl) <| anz <| wq <| W_region rfl <| Wa pe (Lg ag28 hr4.at rfl rfl) <| ?_
 obtain ⟨y58,n3,ho⟩:=bs ho
 refine WL.call rfl (op_callF Tryz.func17 rfl rfl) (laws_toTopology_calls (kp _ zp (hB.trans pe)) (kp _ zq (hB.trans pe)) (kp _ zr (hB.trans pe)) (kp _ zt (hB.trans pe)) (kp _ zh (hB.trans pe)) n3) <| ?_
 rintro _ p5c ⟨v62,f63,v65,f66,v68,f69,v71,f72,v74,f75,rfl,p2w,pf,pg,ph,pi,pj,j3,j4,j5,j6,j7,j8,j9,ja,jb,jc⟩
 refine ⟨_,rfl,?_⟩
 replace pf:=OE.low (G:=[]) pf (hB.trans (pe)).size
 replace pg:=OE.low (G:=[]) pg (hB.trans (pe)).size
 replace ph:=OE.low (G:=[]) ph (hB.trans (pe)).size
 replace pi:=OE.low (G:=[]) pi (hB.trans (pe)).size
 replace pj:=OE.low (G:=[]) pj (hB.trans (pe)).size
 have p0d:=(pe).trans p2w
 replace hr4:=kr hr4 p0d
 replace hB:=(hB.trans p0d)
 refine WL.alloc info34 zr34 fun je p2x qe gd qf=>?_
 replace gd:Row p2x je [.int .i64 ((0:Int)),.slice none 0 0,.slice none 0 0,.slice none 0 0,.slice none 0 0,.slice none 0 0] 34:=gd
 have p2y:w.heap.size≤je:=Nat.le_trans hB.size qf
 have ql:=dl (onw qf) (one_lt (Row.lt hr4))
 have qm:=dl (onw qf) (sl _ pf.1)
 have qn:=dl (onw qf) (sl _ pg.1)
 have qo:=dl (onw qf) (sl _ ph.1)
 have qp:=dl (onw qf) (sl _ pi.1)
 have qq:=dl (onw qf) (sl _ pj.1)
 replace hr4:=kr hr4 qe
 replace pf:=ko pf qe
 replace pg:=ko pg qe
 replace ph:=ko ph qe
 replace pi:=ko pi qe
 replace pj:=ko pj qe
 replace hB:=(hB.trans qe)
 refine WL.storeAll (us:=[.int .i64 (y58.Shape.Objects),v62,v65,v68,v71,v74]) info34 (by rw [sz34]; rfl) gd rfl rfl rfl (by intro u hu; simp only [List.mem_cons,List.mem_nil_iff,or_false] at hu; rcases hu with rfl | rfl | rfl | rfl | rfl | rfl <;> first | exact rfl | exact (STy.one _ pf.1 _ (ms rfl)) | exact (STy.one _ pg.1 _ (ms rfl)) | exact (STy.one _ ph.1 _ (ms rfl)) | exact (STy.one _ pi.1 _ (ms rfl)) | exact (STy.one _ pj.1 _ (ms rfl))) fun na pv qx=>?_
 replace qx:Row na je [.int .i64 (y58.Shape.Objects),v62,v65,v68,v71,v74] 34:=qx
 replace hr4:=Row.keep hr4 pv ((ql).symm _ (ms rfl))
 replace pf:=okp pf pv (qm).symm
 replace pg:=okp pg pv (qn).symm
 replace ph:=okp ph pv (qo).symm
 replace pi:=okp pi pv (qp).symm
 replace pj:=okp pj pv (qq).symm
 replace hB:=hB.then pv (one_then p2y)
 refine anz <| wq <| Wq rfl (cr [] na) <| Qa (Lg ag34 qx.at rfl rfl) <| ?_
 obtain ⟨y110,p2z,ho⟩:=bs ho
 refine Qc Tryz.func18 rfl rfl (fun _ hC=>impl_IsTopology_calls ((Le.own (Le.refl _) 2).le (kp _ pf.1 hC)) ((Le.own (Le.refl _) 2).le (kp _ pg.1 hC)) ((Le.own (Le.refl _) 2).le (kp _ ph.1 hC)) ((Le.own (Le.own (Le.refl _) 2) 22).le (kp _ pi.1 hC)) ((Le.own (Le.own (Le.own (Le.refl _) 2) 22) 23).le (kp _ pj.1 hC)) p2z) <| Qa (Mt rfl) <| Qa (Exb rfl rfl) <| Qa (Exi rfl rfl) <| Qa (Ab rfl) <| Qa (Ai rfl) <| fun p16 qz=>anz <| wq <| wq <| Wq rfl qz <| ?_
 obtain ⟨g114,hm115,ho⟩:=bs ho
 refine QL.meet (fun r=>∃ F,r=updL F [(1,.pointer (some (⟨b1,0,none⟩))),(6,.pointer (some (⟨je,0,none⟩))),(34,.bool (g114))]) ?_ ?_
 skip
 refine Qa (Mb rfl) <| Qa (Mb rfl) <| qv (v:=.bool (!((y110.1) == (y54.1)))) rfl (fun _ _=>op_binBn rfl rfl Tryz.underlying4) <| Qa (Mb rfl) <| ?_
 rcases Bool.eq_false_or_eq_true (!((y110.1) == (y54.1))) with pt | pt
 rw [pt] at hm115
 refine Sk rfl pt rfl <| Sk rfl pt rfl <| Sk rfl pt rfl <| Qa (PTb rfl pt rfl) <| ?_
 cases hm115
 exact fe rfl
 rw [pt] at hm115
 refine Qg rfl pt (Mi rfl) <| Qg rfl pt (Mi rfl) <| Qg rfl pt (Bn rfl rfl) <| Qa (PFb rfl pt rfl) <| ?_
 cases hm115
 exact fe rfl
 rintro _ ⟨F,rfl⟩
 refine fun qr pb=>anz <| W_cond (b:=g114) rfl ?_ ?_
 intro qc
 rw [qc] at ho
 refine wq <| Wq rfl pb <| Qa (Ab rfl) <| fun p22 nu=>anz <| ?_
 cases ho
 exact W_ret ⟨_,res_1 Tryz.results3,rfl,(hB.trans nu)⟩
 intro qc
 rw [qc] at ho
 refine W_skip <| anz <| wq <| wq <| ?_
 obtain ⟨y122,p30,ho⟩:=bs ho
 refine W_any (m:=3) (U:=.replicate 3 []) (S:=[sV (.agg #[.int .i64 (y58.Shape.Objects),v62,v65,v68,v71,v74]),sV (.agg #[.int .i64 (x0.Shape.Objects),zk,zl,zm,zn,zi]),⟨true,pl (fun f w v=>∃ (v124:Value) (pk:List Nat) (v127:Value) (pm:List Nat) (v130:Value) (pn:List Nat) (v133:Value) (po:List Nat) (v136:Value) (pp:List Nat),v = .agg #[.int .i64 (y122.Shape.Objects),v124,v127,v130,v133,v136]∧f=(pk++(pm++(pn++(po++pp))))∧(sOwn 2 (sInt .i64)).rep w.heap [v124] (y122.Shape.From) pk∧(sOwn 2 (sInt .i64)).rep w.heap [v127] (y122.Shape.To) pm∧(sOwn 2 (sInt .i64)).rep w.heap [v130] (y122.Shape.Identity) pn∧(sOwn 22 (sOwn 2 (sInt .i64))).rep w.heap [v133] (y122.Shape.Composites) po∧(sOwn 23 (sOwn 22 (sOwn 2 (sInt .i64)))).rep w.heap [v136] (y122.Covers) pp∧List.Nodup ((pk++(pm++(pn++(po++pp))))))⟩]) (Z:=[]) hmix rfl (by decide) (by decide +kernel) (fun _ _ _ h=>np_out h) (by decide) rfl (by decide +kernel) (stable_all <| stable_cons stable_val (stable_cons stable_val (stable_cons (stable_pl <| by rintro f F w w' v hC hn ⟨v124,pk,v127,pm,v130,pn,v133,po,v136,pp,e1_,e2_,ho126,ho129,ho132,ho135,ho138,hnd⟩; exact ⟨v124,pk,v127,pm,v130,pn,v133,po,v136,pp,e1_,e2_,STy.keep _ ho126 hC (fun b hb=>hn b (by rw [e2_]; simp [hb])),STy.keep _ ho129 hC (fun b hb=>hn b (by rw [e2_]; simp [hb])),STy.keep _ ho132 hC (fun b hb=>hn b (by rw [e2_]; simp [hb])),STy.keep _ ho135 hC (fun b hb=>hn b (by rw [e2_]; simp [hb])),STy.keep _ ho138 hC (fun b hb=>hn b (by rw [e2_]; simp [hb])),hnd⟩) ( stable_nil)))) ?_ ?_
 refine owes_cons ?_ <| owes_cons ?_ <| owes_cons ?_ <| owes_nil
 exact Oh rfl rfl rfl [(6,.pointer (some (⟨je,0,none⟩)))] pb rfl rfl fun _=>Lg ag34 qx.at rfl rfl
 exact Oh rfl rfl rfl [(1,.pointer (some (⟨b1,0,none⟩)))] pb rfl rfl fun _=>Lg ag28 hr4.at rfl rfl
 refine Owes.mem rfl rfl rfl <| fun g r wr hCr H hot=>?_
 have hC:=pb.trans hCr
 obtain ⟨F,rfl⟩:=fr (r:=r) (l:=[(36,.agg #[.int .i64 (x0.Shape.Objects),zk,zl,zm,zn,zi])]) ⟨(H 1 (by decide +kernel) 36 rfl),trivial⟩
 exact OpW.callV (op_callF Tryz.func17 rfl rfl) (laws_toTopology_calls (kp _ zp (hB.trans hC)) (kp _ zq (hB.trans hC)) (kp _ zr (hB.trans hC)) (kp _ zt (hB.trans hC)) (kp _ zh (hB.trans hC)) p30) fun e w' ⟨v124,pk,v127,pm,v130,pn,v133,po,v136,pp,he,hC',pz,q0,q1,q2,q3,d0_1,d0_2,d0_3,d0_4,d1_2,d1_3,d1_4,d2_3,d2_4,d3_4⟩=>⟨_,he,hC',(pk++(pm++(pn++(po++pp)))),(fun b hb=>(List.mem_append.1 hb).elim (fun hb=>⟨ofr pz b hb,sl _ pz.1 b hb⟩) (fun hb=>(List.mem_append.1 hb).elim (fun hb=>⟨ofr q0 b hb,sl _ q0.1 b hb⟩) (fun hb=>(List.mem_append.1 hb).elim (fun hb=>⟨ofr q1 b hb,sl _ q1.1 b hb⟩) (fun hb=>(List.mem_append.1 hb).elim (fun hb=>⟨ofr q2 b hb,sl _ q2.1 b hb⟩) (fun hb=>⟨ofr q3 b hb,sl _ q3.1 b hb⟩))))),v124,pk,v127,pm,v130,pn,v133,po,v136,pp,rfl,rfl,pz.1,q0.1,q1.1,q2.1,q3.1,(nodup_app pz.2.1 (nodup_app q0.2.1 (nodup_app q1.2.1 (nodup_app q2.2.1 q3.2.1 d3_4) (dis_appR d2_3 d2_4)) (dis_appR d1_2 (dis_appR d1_3 d1_4))) (dis_appR d0_1 (dis_appR d0_2 (dis_appR d0_3 d0_4))))⟩
 rintro g r jf ⟨p31,hdone,hot,hfresh,hdis⟩
 obtain ⟨v124,pk,v127,pm,v130,pn,v133,po,v136,pp,hvo126,hgo126,pz,q0,q1,q2,q3,hno126⟩:=hdone 2 (by decide) (by decide) 37 rfl
 have hfo126:=hfresh 2 (by decide)
 have hdd:=hdis
 obtain ⟨F,rfl⟩:=fw hdone hot [] [(35,.agg #[.int .i64 (y58.Shape.Objects),v62,v65,v68,v71,v74])] [0] rfl rfl rfl rfl (z:=[(37,.agg #[.int .i64 (y122.Shape.Objects),v124,v127,v130,v133,v136])]) ⟨hvo126,trivial⟩
 have p32 : ∀ b∈pk,qr.heap.size≤b:=fun b hb=>(hfo126 b (show b∈g 2 from (show ∀ b∈pk,b∈g 2 from (fun b hb=>(by rw [hgo126]; simp [hb]))) b hb)).1
 replace pz:OE [] w.heap.size jf (sOwn 2 (sInt .i64)) [v124] (y122.Shape.From) pk:=⟨pz,(List.nodup_append.1 hno126).1,fun b hb=>.inr (Nat.le_trans (hB.trans pb).size (p32 b hb))⟩
 have p33 : ∀ b∈pm,qr.heap.size≤b:=fun b hb=>(hfo126 b (show b∈g 2 from (show ∀ b∈pm,b∈g 2 from (fun b hb=>(by rw [hgo126]; simp [hb]))) b hb)).1
 replace q0:OE [] w.heap.size jf (sOwn 2 (sInt .i64)) [v127] (y122.Shape.To) pm:=⟨q0,(List.nodup_append.1 (List.nodup_append.1 hno126).2.1).1,fun b hb=>.inr (Nat.le_trans (hB.trans pb).size (p33 b hb))⟩
 have p34 : ∀ b∈pn,qr.heap.size≤b:=fun b hb=>(hfo126 b (show b∈g 2 from (show ∀ b∈pn,b∈g 2 from (fun b hb=>(by rw [hgo126]; simp [hb]))) b hb)).1
 replace q1:OE [] w.heap.size jf (sOwn 2 (sInt .i64)) [v130] (y122.Shape.Identity) pn:=⟨q1,(List.nodup_append.1 (List.nodup_append.1 (List.nodup_append.1 hno126).2.1).2.1).1,fun b hb=>.inr (Nat.le_trans (hB.trans pb).size (p34 b hb))⟩
 have p35 : ∀ b∈po,qr.heap.size≤b:=fun b hb=>(hfo126 b (show b∈g 2 from (show ∀ b∈po,b∈g 2 from (fun b hb=>(by rw [hgo126]; simp [hb]))) b hb)).1
 replace q2:OE [] w.heap.size jf (sOwn 22 (sOwn 2 (sInt .i64))) [v133] (y122.Shape.Composites) po:=⟨q2,(List.nodup_append.1 (List.nodup_append.1 (List.nodup_append.1 (List.nodup_append.1 hno126).2.1).2.1).2.1).1,fun b hb=>.inr (Nat.le_trans (hB.trans pb).size (p35 b hb))⟩
 have p36 : ∀ b∈pp,qr.heap.size≤b:=fun b hb=>(hfo126 b (show b∈g 2 from (show ∀ b∈pp,b∈g 2 from (fun b hb=>(by rw [hgo126]; simp [hb]))) b hb)).1
 replace q3:OE [] w.heap.size jf (sOwn 23 (sOwn 22 (sOwn 2 (sInt .i64)))) [v136] (y122.Covers) pp:=⟨q3,(List.nodup_append.1 (List.nodup_append.1 (List.nodup_append.1 (List.nodup_append.1 hno126).2.1).2.1).2.1).2.1,fun b hb=>.inr (Nat.le_trans (hB.trans pb).size (p36 b hb))⟩
 have q4:=(pb.trans p31)
 replace hr4:=kr hr4 q4
 replace pf:=ko pf q4
 replace pg:=ko pg q4
 replace ph:=ko ph q4
 replace pi:=ko pi q4
 replace pj:=ko pj q4
 replace qx:=kr qx q4
 replace hB:=(hB.trans q4)
 obtain ⟨y182,p37,ho⟩:=bs ho
 refine WL.call rfl (op_callF Tryz.func19 rfl rfl) (laws_eqTopology_calls ((Le.own (Le.refl _) 2).le pf.1) ((Le.own (Le.refl _) 2).le pg.1) ((Le.own (Le.refl _) 2).le ph.1) ((Le.own (Le.own (Le.refl _) 2) 22).le pi.1) ((Le.own (Le.own (Le.own (Le.refl _) 2) 22) 23).le pj.1) ((Le.own (Le.refl _) 2).le pz.1) ((Le.own (Le.refl _) 2).le q0.1) ((Le.own (Le.refl _) 2).le q1.1) ((Le.own (Le.own (Le.refl _) 2) 22).le q2.1) ((Le.own (Le.own (Le.own (Le.refl _) 2) 22) 23).le q3.1) p37) <| ?_
 rintro _ p5i ⟨rfl,p0e⟩
 refine ⟨_,rfl,?_⟩
 refine Wb (Nt rfl) <| anz <| W_cond (b:=!(y182)) rfl ?_ ?_
 intro ge
 rw [ge] at ho
 refine wq <| Wq rfl p0e <| Qa (Ab rfl) <| fun p5j p38=>anz <| ?_
 cases ho
 exact W_ret ⟨_,res_1 Tryz.results3,rfl,(hB.trans p38)⟩
 intro ge
 rw [ge] at ho
 refine W_skip <| anz <| wq <| Wq rfl p0e <| Qa (Ab rfl) <| fun p5k p39=>anz <| ?_
 cases ho
 exact W_ret ⟨_,res_1 Tryz.results3,rfl,(hB.trans p39)⟩
end Go.Proofs.YtcmckiiafgcmjaaGreat
