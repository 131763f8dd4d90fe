/- Walks, printed by a program: that a call of each function computes what its model says. No condition beside those that each theorem names. -/
import Derived.Test.YtcmckiiafgcmjaaGreatTy
import Derived.Test.YtcmckiiafgcmjaaGreatMo
import Derived.Test.YtcmckiiafgcmjaaGreatSo
import Derived.Test.YtcmckiiafgcmjaaGreatZ02
namespace Go.Proofs.YtcmckiiafgcmjaaGreat
open Go Go.Li
set_option linter.unusedVariables false
set_option maxHeartbeats 4000000
set_option maxRecDepth 100000
abbrev impl_Category_fault_post (w:World) (x:(Int×Int×Int×Int)) (e:Ending) (w':World):Prop:=e = .returned (.tuple #[.int .i64 x.1,.int .i64 x.2.1,.int .i64 x.2.2.1,.int .i64 x.2.2.2])∧Chg [] w w'
abbrev impl_Category_fault_T (w:World):=Tm Tryz.prog Tryz.f163 102 (impl_Category_fault_post w)
theorem impl_Category_fault_calls {w:World} {x0:MCategory} {p_x0:Addr} {z2:Value} {ze:List Nat} {z1:Value} {zf:List Nat} {z7:Value} {zg:List Nat} {z6:Value} {zh:List Nat} (z8:(sImm (sInt .i64)).rep w.heap [z2] x0.From ze) (za:(sImm (sInt .i64)).rep w.heap [z1] x0.To zf) (zc:(sImm (sInt .i64)).rep w.heap [z7] x0.Identity zg) (zb:(sImm (sImm (sInt .i64))).rep w.heap [z6] x0.Composites zh) (a_x0:At w p_x0 [.int .i64 (x0.Objects),z2,z1,z7,z6]) {y:(Int×Int×Int×Int)} (hm:impl_Category_fault x0=some y) :
  Calls Tryz.prog 163 #[.pointer (some (p_x0))] w (impl_Category_fault_post w y):=by
 refine Cm (S:=Unit) Tryz.func163 rfl Tryz.ntmps163 rfl hm fun o ho hB=>?_
 clear hm
 refine wq <| Wq rfl (cr [] w) <| Qa (Ai rfl) <| Qa (Ai rfl) <| Qa (Ai rfl) <| Qa (Ai rfl) <| fun wd1 hC2=>anz <| wq <| Wq rfl hC2 <| Qa (Mp rfl) <| ?_
 obtain ⟨y3,hy4,ho⟩:=bs ho
 refine Qc Tryz.func105 rfl rfl (fun _ hC=>impl_Category_arrows_calls (kp _ z8 (hB.trans hC)) (kp _ za (hB.trans hC)) (kp _ zc (hB.trans hC)) (kp _ zb (hB.trans hC)) (At.keep0 a_x0 (hB.trans hC)) hy4) <| Qa (Ai rfl) <| fun wd5 hC6=>anz <| wq <| wq <| Wq rfl hC6 <| Qa (Ai rfl) <| fun wd7 hC8=>anz <| Wf (S1:=Int) (fun (s0_7:Int) r w'=>Chg [] w w'∧∃ F,r=updL F [(0,.pointer (some (p_x0))),(6,.int .i64 (y3)),(7,.int .i64 (s0_7))]) (impl_Category_fault_T w) ho ⟨(hB.trans hC8),fe rfl⟩ ?_ ?_
 rintro s0_7 _ wd9 ⟨hB,F,rfl⟩ o ho
 replace ho:impl_Category_fault_L0 x0 y3 s0_7=some o:=ho
 unfold impl_Category_fault_L0 at ho
 refine wq <| wq <| Wq rfl (cr [] wd9) <| Qa (Mi rfl) <| Qa (Mi rfl) <| Qa (Bl rfl rfl) <| fun qd qz=>anz <| W_cond (b:=decide (s0_7 < y3)) rfl ?_ ?_
 intro k0
 rw [k0] at ho
 refine W_skip <| anz <| wq <| W_block <| wq <| Wqd rfl (by kernel_rfl) qz <| ?_
 obtain ⟨g13,hm14,ho⟩:=bs ho
 refine QL.meet (fun r=>∃ F,r=updL F [(0,.pointer (some (p_x0))),(6,.int .i64 (y3)),(7,.int .i64 (s0_7)),(55,.bool (g13))]) ?_ ?_
 skip
 refine Qa (Mp rfl) <| Qa (Mp rfl) <| Qa (Nk rfl) <| Qa (Fp fa32_3 rfl) <| Qa (La na22 (At.keep0 a_x0 hB) rfl rfl) <| Qa (Mp rfl) <| Qa (Nk rfl) <| Qa (Fp fa32_1 rfl) <| Qa (La na22 (At.keep0 a_x0 hB) rfl rfl) <| Qa (Mi rfl) <| ?_
 obtain ⟨e15,hx16e,hm14⟩:=bs hm14
 have hx16:=idx_some hx16e
 refine Qa (Ix sl22 (kB z8 hB) hx16 rfl rfl rfl) <| Qa (Ei na2 (kB z8 hB) hx16 rfl) <| ?_
 obtain ⟨e17,hx18e,hm14⟩:=bs hm14
 have hx18:=idx_some hx18e
 refine Qa (Ix sl22 (kB zc hB) hx18 rfl rfl rfl) <| Qa (Ei na2 (kB zc hB) hx18 rfl) <| Qa (Mi rfl) <| ?_
 obtain ⟨y19,gi,hm14⟩:=bs hm14
 refine Qc Tryz.func150 rfl rfl (fun _ hC=>impl_Category_then_calls (kp _ z8 (hB.trans hC)) (kp _ za (hB.trans hC)) (kp _ zc (hB.trans hC)) (kp _ zb (hB.trans hC)) (At.keep0 a_x0 (hB.trans hC)) gi) <| Qa (Mi rfl) <| Qa (Bn rfl rfl) <| Qa (Mb rfl) <| ?_
 rcases Bool.eq_false_or_eq_true (y19 != s0_7) with p1 | p1
 rw [p1] at hm14
 refine Sk rfl p1 rfl <| Sk rfl p1 rfl <| Sk rfl p1 rfl <| Sk rfl p1 rfl <| Sk rfl p1 rfl <| Sk rfl p1 rfl <| Sk rfl p1 rfl <| Sk rfl p1 rfl <| Sk rfl p1 rfl <| Sk rfl p1 rfl <| Sk rfl p1 rfl <| Sk rfl p1 rfl <| Sk rfl p1 rfl <| Sk rfl p1 rfl <| Sk rfl p1 rfl <| Sk rfl p1 rfl <| ?_
 refine Sk rfl p1 rfl <| Sk rfl p1 rfl <| Qa (PTb rfl p1 rfl) <| ?_
 cases hm14
 exact fe rfl
 rw [p1] at hm14
 refine Qg rfl p1 (Mp rfl) <| Qg rfl p1 (Mi rfl) <| Qg rfl p1 (Mp rfl) <| Qg rfl p1 (Nk rfl) <| Qg rfl p1 (Fp fa32_3 rfl) <| Qg rfl p1 (La na22 (At.keep0 a_x0 hB) rfl rfl) <| Qg rfl p1 (Mp rfl) <| Qg rfl p1 (Nk rfl) <| Qg rfl p1 (Fp fa32_2 rfl) <| Qg rfl p1 (La na22 (At.keep0 a_x0 hB) rfl rfl) <| Qg rfl p1 (Mi rfl) <| ?_
 obtain ⟨e22,hx23e,hm14⟩:=bs hm14
 have hx23:=idx_some hx23e
 refine Qg rfl p1 (Ix sl22 (kB za hB) hx23 rfl rfl rfl) <| Qg rfl p1 (Ei na2 (kB za hB) hx23 rfl) <| ?_
 obtain ⟨e24,hx25e,hm14⟩:=bs hm14
 have hx25:=idx_some hx25e
 refine Qg rfl p1 (Ix sl22 (kB zc hB) hx25 rfl rfl rfl) <| Qg rfl p1 (Ei na2 (kB zc hB) hx25 rfl) <| ?_
 obtain ⟨y26,gj,hm14⟩:=bs hm14
 refine Qcg rfl p1 Tryz.func150 rfl rfl (fun _ hC=>impl_Category_then_calls (kp _ z8 (hB.trans hC)) (kp _ za (hB.trans hC)) (kp _ zc (hB.trans hC)) (kp _ zb (hB.trans hC)) (At.keep0 a_x0 (hB.trans hC)) gj) <| Qg rfl p1 (Mi rfl) <| Qg rfl p1 (Bn rfl rfl) <| Qa (PFb rfl p1 rfl) <| ?_
 cases hm14
 exact fe rfl
 rintro _ ⟨F,rfl⟩
 refine fun qs qe=>anz <| W_cond (b:=g13) rfl ?_ ?_
 intro k1
 rw [k1] at ho
 refine wq <| Wq rfl qe <| Qa (Mi rfl) <| Qa (Ai rfl) <| Qa (Ai rfl) <| Qa (Ai rfl) <| Qa (Ai rfl) <| fun nq j0=>anz <| ?_
 cases ho
 exact W_ret ⟨_,res_4 Tryz.results163,rfl,(hB.trans j0)⟩
 intro k1
 rw [k1] at ho
 refine W_skip <| inBlk_n <| anz <| Wq rfl qe <| Qa (Mi rfl) <| Qa (Ba rfl rfl) <| Qa (Ai rfl) <| fun nr gk=>?_
 cases ho
 exact ⟨(hB.trans gk),fe rfl⟩
 intro k0
 rw [k0] at ho
 refine W_exit <| andThen_x <| ?_
 cases ho
 exact ⟨rfl,⟨(hB.trans qz),fe rfl⟩⟩
 rintro s0_7 _ gl ⟨hB,F,rfl⟩ ho
 refine anz <| wq <| wq <| Wq rfl (cr [] gl) <| Qa (Ai rfl) <| fun k2 j1=>anz <| Wf (S1:=Int) (fun (s1_8:Int) r w'=>Chg [] w w'∧∃ F,r=updL F [(0,.pointer (some (p_x0))),(6,.int .i64 (y3)),(8,.int .i64 (s1_8))]) (impl_Category_fault_T w) ho ⟨(hB.trans j1),fe rfl⟩ ?_ ?_
 rintro s1_8 _ k3 ⟨hB,F,rfl⟩ o ho
 replace ho:impl_Category_fault_L1 x0 y3 s1_8=some o:=ho
 unfold impl_Category_fault_L1 at ho
 refine wq <| wq <| Wq rfl (cr [] k3) <| Qa (Mi rfl) <| Qa (Mi rfl) <| Qa (Bl rfl rfl) <| fun ns qt=>anz <| W_cond (b:=decide (s1_8 < y3)) rfl ?_ ?_
 intro k4
 rw [k4] at ho
 refine W_skip <| anz <| wq <| W_block <| wq <| Wq rfl qt <| Qa (Ai rfl) <| fun gm k5=>anz <| Wf (S1:=Int) (fun (s2_9:Int) r w'=>Chg [] w w'∧∃ F,r=updL F [(0,.pointer (some (p_x0))),(6,.int .i64 (y3)),(8,.int .i64 (s1_8)),(9,.int .i64 (s2_9))]) (impl_Category_fault_T w) ho ⟨(hB.trans k5),fe rfl⟩ ?_ ?_
 rintro s2_9 _ jl ⟨hB,F,rfl⟩ o ho
 replace ho:impl_Category_fault_L2 x0 y3 s1_8 s2_9=some o:=ho
 unfold impl_Category_fault_L2 at ho
 refine wq <| wq <| Wq rfl (cr [] jl) <| Qa (Mi rfl) <| Qa (Mi rfl) <| Qa (Bl rfl rfl) <| fun k6 pi=>anz <| W_cond (b:=decide (s2_9 < y3)) rfl ?_ ?_
 intro qf
 rw [qf] at ho
 refine W_skip <| anz <| wq <| W_block <| wq <| wq <| Wq rfl pi <| Qa (Mp rfl) <| Qa (Mi rfl) <| Qa (Mi rfl) <| ?_
 obtain ⟨y48,k7,ho⟩:=bs ho
 refine Qc Tryz.func150 rfl rfl (fun _ hC=>impl_Category_then_calls (kp _ z8 (hB.trans hC)) (kp _ za (hB.trans hC)) (kp _ zc (hB.trans hC)) (kp _ zb (hB.trans hC)) (At.keep0 a_x0 (hB.trans hC)) k7) <| Qa (Bl rfl rfl) <| fun gn q0=>anz <| W_cond (b:=decide (y48 < (0:Int))) rfl ?_ ?_
 intro k8
 rw [k8] at ho
 refine W_exit <| andThen_x <| inBlk_x <| anz <| Wq rfl q0 <| Qa (Mi rfl) <| Qa (Ba rfl rfl) <| Qa (Ai rfl) <| fun p2g go=>?_
 cases ho
 exact ⟨(hB.trans go),fe rfl⟩
 intro k8
 rw [k8] at ho
 refine W_skip <| anz <| wq <| Wq rfl q0 <| Qa (Ai rfl) <| fun gp j2=>anz <| Wf (S1:=Int) (fun (s3_10:Int) r w'=>Chg [] w w'∧∃ F,r=updL F [(0,.pointer (some (p_x0))),(6,.int .i64 (y3)),(8,.int .i64 (s1_8)),(9,.int .i64 (s2_9)),(10,.int .i64 (s3_10))]) (impl_Category_fault_T w) ho ⟨(hB.trans j2),fe rfl⟩ ?_ ?_
 rintro s3_10 _ jm ⟨hB,F,rfl⟩ o ho
 replace ho:impl_Category_fault_L3 x0 y3 s1_8 s2_9 s3_10=some o:=ho
 unfold impl_Category_fault_L3 at ho
 refine wq <| wq <| Wq rfl (cr [] jm) <| Qa (Mi rfl) <| Qa (Mi rfl) <| Qa (Bl rfl rfl) <| fun nt q1=>anz <| W_cond (b:=decide (s3_10 < y3)) rfl ?_ ?_
 intro k9
 rw [k9] at ho
 refine W_skip <| anz <| wq <| W_block <| wq <| Wq rfl q1 <| ?_
 obtain ⟨g61,hm62,ho⟩:=bs ho
 refine QL.meet (fun r=>∃ F,r=updL F [(0,.pointer (some (p_x0))),(6,.int .i64 (y3)),(8,.int .i64 (s1_8)),(9,.int .i64 (s2_9)),(10,.int .i64 (s3_10)),(98,.bool (g61))]) ?_ ?_
 skip
 refine Qa (Mp rfl) <| Qa (Mi rfl) <| Qa (Mi rfl) <| ?_
 obtain ⟨y63,gq,hm62⟩:=bs hm62
 refine Qc Tryz.func150 rfl rfl (fun _ hC=>impl_Category_then_calls (kp _ z8 (hB.trans hC)) (kp _ za (hB.trans hC)) (kp _ zc (hB.trans hC)) (kp _ zb (hB.trans hC)) (At.keep0 a_x0 (hB.trans hC)) gq) <| Qa (Bh rfl rfl) <| Qa (Mb rfl) <| ?_
 rcases Bool.eq_false_or_eq_true (decide (y63 ≥ (0:Int))) with p3 | p3
 rw [p3] at hm62
 refine Qg rfl p3 (Mp rfl) <| Qg rfl p3 (Mp rfl) <| Qg rfl p3 (Mi rfl) <| Qg rfl p3 (Mi rfl) <| ?_
 obtain ⟨y66,gr,hm62⟩:=bs hm62
 refine Qcg rfl p3 Tryz.func150 rfl rfl (fun _ hC=>impl_Category_then_calls (kp _ z8 (hB.trans hC)) (kp _ za (hB.trans hC)) (kp _ zc (hB.trans hC)) (kp _ zb (hB.trans hC)) (At.keep0 a_x0 (hB.trans hC)) gr) <| Qg rfl p3 (Mi rfl) <| ?_
 obtain ⟨y68,gs,hm62⟩:=bs hm62
 refine Qcg rfl p3 Tryz.func150 rfl rfl (fun _ hC=>impl_Category_then_calls (kp _ z8 (hB.trans hC)) (kp _ za (hB.trans hC)) (kp _ zc (hB.trans hC)) (kp _ zb (hB.trans hC)) (At.keep0 a_x0 (hB.trans hC)) gs) <| Qg rfl p3 (Mp rfl) <| Qg rfl p3 (Mi rfl) <| Qg rfl p3 (Mp rfl) <| Qg rfl p3 (Mi rfl) <| Qg rfl p3 (Mi rfl) <| ?_
 obtain ⟨y70,gt,hm62⟩:=bs hm62
 refine Qcg rfl p3 Tryz.func150 rfl rfl (fun _ hC=>impl_Category_then_calls (kp _ z8 (hB.trans hC)) (kp _ za (hB.trans hC)) (kp _ zc (hB.trans hC)) (kp _ zb (hB.trans hC)) (At.keep0 a_x0 (hB.trans hC)) gt) <| ?_
 obtain ⟨y72,gu,hm62⟩:=bs hm62
 refine Qcg rfl p3 Tryz.func150 rfl rfl (fun _ hC=>impl_Category_then_calls (kp _ z8 (hB.trans hC)) (kp _ za (hB.trans hC)) (kp _ zc (hB.trans hC)) (kp _ zb (hB.trans hC)) (At.keep0 a_x0 (hB.trans hC)) gu) <| Qg rfl p3 (Bn rfl rfl) <| Qa (PTb rfl p3 rfl) <| ?_
 cases hm62
 exact fe rfl
 rw [p3] at hm62
 refine Sk rfl p3 rfl <| Sk rfl p3 rfl <| Sk rfl p3 rfl <| Sk rfl p3 rfl <| Sk rfl p3 rfl <| Sk rfl p3 rfl <| Sk rfl p3 rfl <| Sk rfl p3 rfl <| Sk rfl p3 rfl <| Sk rfl p3 rfl <| Sk rfl p3 rfl <| Sk rfl p3 rfl <| Sk rfl p3 rfl <| Sk rfl p3 rfl <| Sk rfl p3 rfl <| Qa (PFb rfl p3 rfl) <| ?_
 cases hm62
 exact fe rfl
 rintro _ ⟨F,rfl⟩
 refine fun p2h nu=>anz <| W_cond (b:=g61) rfl ?_ ?_
 intro ka
 rw [ka] at ho
 refine wq <| Wq rfl nu <| Qa (Mi rfl) <| Qa (Mi rfl) <| Qa (Mi rfl) <| Qa (Ai rfl) <| Qa (Ai rfl) <| Qa (Ai rfl) <| Qa (Ai rfl) <| fun p2i q2=>anz <| ?_
 cases ho
 exact W_ret ⟨_,res_4 Tryz.results163,rfl,(hB.trans q2)⟩
 intro ka
 rw [ka] at ho
 refine W_skip <| inBlk_n <| anz <| Wq rfl nu <| Qa (Mi rfl) <| Qa (Ba rfl rfl) <| Qa (Ai rfl) <| fun p2j gv=>?_
 cases ho
 exact ⟨(hB.trans gv),fe rfl⟩
 intro k9
 rw [k9] at ho
 refine W_exit <| andThen_x <| ?_
 cases ho
 exact ⟨rfl,⟨(hB.trans q1),fe rfl⟩⟩
 rintro s3_10 _ gw ⟨hB,F,rfl⟩ ho
 refine inBlk_n <| anz <| Wq rfl (cr [] gw) <| Qa (Mi rfl) <| Qa (Ba rfl rfl) <| Qa (Ai rfl) <| fun p2k gx=>?_
 cases ho
 exact ⟨(hB.trans gx),fe rfl⟩
 intro qf
 rw [qf] at ho
 refine W_exit <| andThen_x <| ?_
 cases ho
 exact ⟨rfl,⟨(hB.trans pi),fe rfl⟩⟩
 rintro s2_9 _ gy ⟨hB,F,rfl⟩ ho
 refine inBlk_n <| anz <| Wq rfl (cr [] gy) <| Qa (Mi rfl) <| Qa (Ba rfl rfl) <| Qa (Ai rfl) <| fun p2l gz=>?_
 cases ho
 exact ⟨(hB.trans gz),fe rfl⟩
 intro k4
 rw [k4] at ho
 refine W_exit <| andThen_x <| ?_
 cases ho
 exact ⟨rfl,⟨(hB.trans qt),fe rfl⟩⟩
 rintro s1_8 _ p00 ⟨hB,F,rfl⟩ ho
 refine anz <| wq <| Wq rfl (cr [] p00) <| Qa (Ai rfl) <| Qa (Ai rfl) <| Qa (Ai rfl) <| Qa (Ai rfl) <| fun p2m p01=>anz <| ?_
 cases ho
 exact W_ret ⟨_,res_4 Tryz.results163,rfl,(hB.trans p01)⟩

abbrev impl_Category_isCategory_post (w:World) (x:(Bool)) (e:Ending) (w':World):Prop:=e = .returned (.bool x)∧Chg [] w w'
abbrev impl_Category_isCategory_T (w:World):=Tm Tryz.prog Tryz.f103 19 (impl_Category_isCategory_post w)
theorem impl_Category_isCategory_calls {w:World} {x0:MCategory} {p_x0:Addr} {z2:Value} {ze:List Nat} {z1:Value} {zf:List Nat} {z7:Value} {zg:List Nat} {z6:Value} {zh:List Nat} (z8:(sImm (sInt .i64)).rep w.heap [z2] x0.From ze) (za:(sImm (sInt .i64)).rep w.heap [z1] x0.To zf) (zc:(sImm (sInt .i64)).rep w.heap [z7] x0.Identity zg) (zb:(sImm (sImm (sInt .i64))).rep w.heap [z6] x0.Composites zh) (a_x0:At w p_x0 [.int .i64 (x0.Objects),z2,z1,z7,z6]) {y:(Bool)} (hm:impl_Category_isCategory x0=some y) :
  Calls Tryz.prog 103 #[.pointer (some (p_x0))] w (impl_Category_isCategory_post w y):=by
 refine Cm (S:=Unit) Tryz.func103 rfl Tryz.ntmps103 rfl hm fun o ho hB=>?_
 clear hm
 refine wq <| Wq rfl (cr [] w) <| Qa (Ab rfl) <| fun wd1 hC2=>anz <| wq <| wq <| Wq rfl hC2 <| Qa (Mp rfl) <| ?_
 obtain ⟨y3,hy4,ho⟩:=bs ho
 refine Qc Tryz.func162 rfl rfl (fun _ hC=>impl_Category_isShape_calls (kp _ z8 (hB.trans hC)) (kp _ za (hB.trans hC)) (kp _ zc (hB.trans hC)) (kp _ zb (hB.trans hC)) (At.keep0 a_x0 (hB.trans hC)) hy4) <| Qa (Nt rfl) <| fun wd5 hC6=>anz <| W_cond (b:=!(y3)) rfl ?_ ?_
 intro hb7
 rw [hb7] at ho
 refine wq <| Wq rfl hC6 <| Qa (Ab rfl) <| fun wd8 hC9=>anz <| ?_
 cases ho
 exact W_ret ⟨_,res_1 Tryz.results103,rfl,(hB.trans hC9)⟩
 intro hb7
 rw [hb7] at ho
 refine W_skip <| anz <| wq <| Wq rfl hC6 <| Qa (Mp rfl) <| ?_
 obtain ⟨y10,kb,ho⟩:=bs ho
 refine Qc Tryz.func163 rfl rfl (fun _ hC=>impl_Category_fault_calls (kp _ z8 (hB.trans hC)) (kp _ za (hB.trans hC)) (kp _ zc (hB.trans hC)) (kp _ zb (hB.trans hC)) (At.keep0 a_x0 (hB.trans hC)) kb) <| Qa (Mt rfl) <| Qa (Exi rfl rfl) <| Qa (Exi rfl rfl) <| Qa (Exi rfl rfl) <| Qa (Exi rfl rfl) <| Qa (Ai rfl) <| Qa (Ai rfl) <| Qa (Ai rfl) <| Qa (Ai rfl) <| fun p02 jn=>anz <| wq <| Wq rfl jn <| Qa (Mi rfl) <| Qa (Be rfl rfl) <| ?_
 refine Qa (Ab rfl) <| fun qu j3=>anz <| ?_
 cases ho
 exact W_ret ⟨_,res_1 Tryz.results103,rfl,(hB.trans j3)⟩

abbrev impl_rising_post (w:World) (x:(Bool)) (e:Ending) (w':World):Prop:=e = .returned (.bool x)∧Chg [] w w'
abbrev impl_rising_T (w:World):=Tm Tryz.prog Tryz.f146 20 (impl_rising_post w)
theorem impl_rising_calls {w:World} {x0:(List Int)} {v_x0:Value} {f_x0:List Nat} (h_x0:(sImm (sInt .i64)).rep w.heap [v_x0] x0 f_x0) {y:(Bool)} (hm:impl_rising x0=some y) :
  Calls Tryz.prog 146 #[v_x0] w (impl_rising_post w y):=by
 refine Cm (S:=Unit) Tryz.func146 rfl Tryz.ntmps146 rfl hm fun o ho hB=>?_
 clear hm
 refine wq <| Wq rfl (cr [] w) <| Qa (Ab rfl) <| fun wd1 hC2=>anz <| wq <| wq <| Wq rfl hC2 <| Qa (Ai rfl) <| fun wd3 hC4=>anz <| Wf (S1:=Int) (fun (s0_3:Int) r w'=>Chg [] w w'∧∃ F,r=updL F [(0,v_x0),(3,.int .i64 (s0_3))]) (impl_rising_T w) ho ⟨(hB.trans hC4),fe rfl⟩ ?_ ?_
 rintro s0_3 _ wd5 ⟨hB,F,rfl⟩ o ho
 replace ho:impl_rising_L0 x0 s0_3=some o:=ho
 unfold impl_rising_L0 at ho
 refine wq <| wq <| Wq rfl (cr [] wd5) <| Qa (Mi rfl) <| Qa (Mv v_x0 rfl) <| Qa (Ln sl22 (kB h_x0 hB) rfl) <| Qa (Bl rfl rfl) <| fun wd6 hC7=>anz <| W_cond (b:=decide (s0_3 < (x0.length:Int))) rfl ?_ ?_
 intro hb8
 rw [hb8] at ho
 refine W_skip <| anz <| wq <| W_block <| wq <| Wqd rfl (by kernel_rfl) hC7 <| Qa (Mv v_x0 rfl) <| Qa (Mi rfl) <| Qa (Bs rfl rfl) <| ?_
 obtain ⟨e9,hx10e,ho⟩:=bs ho
 have hx10:=idx_some hx10e
 refine Qa (Ix sl22 (kB h_x0 hB) hx10 rfl rfl rfl) <| Qa (Ei na2 (kB h_x0 hB) hx10 rfl) <| Qa (Mv v_x0 rfl) <| Qa (Mi rfl) <| ?_
 obtain ⟨e11,hx12e,ho⟩:=bs ho
 have hx12:=idx_some hx12e
 refine Qa (Ix sl22 (kB h_x0 hB) hx12 rfl rfl rfl) <| Qa (Ei na2 (kB h_x0 hB) hx12 rfl) <| Qa (Bh rfl rfl) <| fun nv q3=>anz <| W_cond (b:=decide (e9 ≥ e11)) rfl ?_ ?_
 intro qg
 rw [qg] at ho
 refine wq <| Wq rfl q3 <| Qa (Ab rfl) <| fun jo j4=>anz <| ?_
 cases ho
 exact W_ret ⟨_,res_1 Tryz.results146,rfl,(hB.trans j4)⟩
 intro qg
 rw [qg] at ho
 refine W_skip <| inBlk_n <| anz <| Wq rfl q3 <| Qa (Mi rfl) <| Qa (Ba rfl rfl) <| Qa (Ai rfl) <| fun j5 pq=>?_
 cases ho
 exact ⟨(hB.trans pq),fe rfl⟩
 intro hb8
 rw [hb8] at ho
 refine W_exit <| andThen_x <| ?_
 cases ho
 exact ⟨rfl,⟨(hB.trans hC7),fe rfl⟩⟩
 rintro s0_3 _ q4 ⟨hB,F,rfl⟩ ho
 refine anz <| wq <| Wq rfl (cr [] q4) <| Qa (Ab rfl) <| fun p03 kc=>anz <| ?_
 cases ho
 exact W_ret ⟨_,res_1 Tryz.results146,rfl,(hB.trans kc)⟩

abbrev impl_Category_outOf_post (w:World) (x:((List Int))) (e:Ending) (w':World):Prop:=∃ (v0:Value) (f0:List Nat),e = .returned (v0)∧Chg [] w w'∧OE [] w.heap.size w' (sOwn 2 (sInt .i64)) [v0] x f0
abbrev impl_Category_outOf_T (w:World):=Tm Tryz.prog Tryz.f148 28 (impl_Category_outOf_post w)
theorem impl_Category_outOf_calls {w:World} {x0:MCategory} {p_x0:Addr} {z2:Value} {ze:List Nat} {z1:Value} {zf:List Nat} {z7:Value} {zg:List Nat} {z6:Value} {zh:List Nat} {x1:Int} (z8:(sImm (sInt .i64)).rep w.heap [z2] x0.From ze) (za:(sImm (sInt .i64)).rep w.heap [z1] x0.To zf) (zc:(sImm (sInt .i64)).rep w.heap [z7] x0.Identity zg) (zb:(sImm (sImm (sInt .i64))).rep w.heap [z6] x0.Composites zh) (a_x0:At w p_x0 [.int .i64 (x0.Objects),z2,z1,z7,z6]) {y:((List Int))} (hm:impl_Category_outOf x0 x1=some y) :
  Calls Tryz.prog 148 #[.pointer (some (p_x0)),.int .i64 (x1)] w (impl_Category_outOf_post w y):=by
 refine Cm (S:=Unit) Tryz.func148 rfl Tryz.ntmps148 rfl hm fun o ho hB=>?_
 clear hm
 refine wq <| Wq rfl (cr [] w) <| Qa (As rfl) <| fun wd1 hC2=>anz <| wq <| W_region rfl <| WL.lit0 (sInt .i64) u22z info2 fun v3 wd4 f5 hC6 o7=>?_
 replace o7:=OE.low (G:=[]) o7 (hB.trans hC2).size
 have hT8:=hC2.trans hC6
 replace hB:=(hB.trans hT8)
 refine Wb (Av v3 rfl) <| anz <| wq <| wq <| Wq rfl (cr [] wd4) <| Qa (Mp rfl) <| Qa (Nk rfl) <| Qa (Fp fa32_1 rfl) <| Qa (La na22 (At.keep0 a_x0 hB) rfl rfl) <| Qa (Ln sl22 (kB z8 hB) rfl) <| Qa (Mi rfl) <| fun wd9 px=>anz <| Wf (S1:=(List Int)×Int) (fun s r w'=>match s with | (s0_5,s0_14)=>∃ (v11:Value) (qh:List Nat),Chg [] w w'∧OE [] w.heap.size w' (sOwn 2 (sInt .i64)) [v11] (s0_5) qh∧∃ F,r=updL F [(1,.int .i64 (x1)),(5,v11),(12,z2),(13,.int .i64 ((x0.From.length:Int))),(14,.int .i64 (s0_14))]) (impl_Category_outOf_T w) ho ⟨_,_,(hB.trans px),(ko o7 px),fe rfl⟩ ?_ ?_
 rintro ⟨s0_5,s0_14⟩ _ qu ⟨v11,qh,hB,p2,F,rfl⟩ o ho
 replace ho:impl_Category_outOf_L0 x0 x1 s0_5 s0_14=some o:=ho
 unfold impl_Category_outOf_L0 at ho
 refine wq <| Wq rfl (cr [] qu) <| Qa (Bl rfl rfl) <| fun kd pj=>anz <| wq <| W_cond (b:=decide (s0_14 < (x0.From.length:Int))) rfl ?_ ?_
 intro qi
 rw [qi] at ho
 refine W_skip <| anz <| wq <| W_block <| wq <| Wq rfl pj <| Qa (Mi rfl) <| ?_
 obtain ⟨e18,hx19e,ho⟩:=bs ho
 have hx19:=idx_some hx19e
 refine Qa (Ix sl22 (kB z8 hB) hx19 rfl rfl rfl) <| Qa (Ei na2 (kB z8 hB) hx19 rfl) <| Qa (Ai rfl) <| Qa (Ai rfl) <| fun q4 pk=>anz <| wq <| Wq rfl pk <| Qa (Mi rfl) <| Qa (Mi rfl) <| Qa (Be rfl rfl) <| fun p04 qj=>anz <| W_cond (b:=(e18) == (x1)) rfl ?_ ?_
 intro qk
 rw [qk] at ho
 refine W_region rfl <| Wb (Mv v11 rfl) <| Wb (Mi rfl) <| WL.lit1 u22z info2 zr2 sz2 rfl fun ke kf kg pn kh=>?_
 replace pn:Row kf ke [.int .i64 (s0_14)] 2:=pn
 have j6:=dl (onw kh) (sl _ (kp _ p2.1 qj))
 have j7:=qj.trans kg
 replace p2:=ko p2 j7
 replace hB:=(hB.trans j7)
 obtain ⟨n39,hn40,ho⟩:=bs ho
 have hn40a:=fits_some hn40
 refine WL.append1 (E:=(sInt .i64)) _ _ u22z info2 zr2 sz2 rfl rfl rfl p2 rfl pn ⟨rfl,rfl⟩ List.nodup_nil (fun _ h=>nomatch h) (fun _ h=>nomatch h) (by rw [by2]; exact hn40a.1) hn40a.2 hB.size fun v33 j8 f35 j9 ki hs38=>?_
 replace pn:=Row.keep pn j9 (j6 _ (ms rfl))
 replace hB:=hB.then j9 p2.2.2
 refine Wb (Av v33 rfl) <| inBlk_n <| anz <| Wq rfl (cr [] j8) <| Qa (Ba rfl rfl) <| Qa (Mi rfl) <| fun nw pd=>?_
 cases ho
 exact ⟨_,_,(hB.trans pd),(ko ki pd),fe rfl⟩
 intro qk
 rw [qk] at ho
 refine W_skip <| inBlk_n <| anz <| Wq rfl qj <| Qa (Ba rfl rfl) <| Qa (Mi rfl) <| fun k6 pi=>?_
 cases ho
 exact ⟨_,_,(hB.trans pi),(ko p2 pi),fe rfl⟩
 intro qi
 rw [qi] at ho
 refine W_exit <| andThen_x <| ?_
 cases ho
 exact ⟨rfl,⟨_,_,(hB.trans pj),(ko p2 pj),fe rfl⟩⟩
 rintro ⟨s0_5,s0_14⟩ _ jp ⟨v11,qh,hB,p2,F,rfl⟩ ho
 dsimp only at ho
 refine anz <| wq <| Wq rfl (cr [] jp) <| Qa (Mv v11 rfl) <| Qa (Av v11 rfl) <| fun kj ja=>anz <| ?_
 cases ho
 exact W_ret ⟨_,res_1 Tryz.results148,_,_,rfl,(hB.trans ja),(ko p2 ja)⟩

abbrev impl_has_post (w:World) (x:(Bool)) (e:Ending) (w':World):Prop:=e = .returned (.bool x)∧Chg [] w w'
abbrev impl_has_T (w:World):=Tm Tryz.prog Tryz.f149 17 (impl_has_post w)
theorem impl_has_calls {w:World} {x0:(List Int)} {v_x0:Value} {f_x0:List Nat} {x1:Int} (h_x0:(sImm (sInt .i64)).rep w.heap [v_x0] x0 f_x0) {y:(Bool)} (hm:impl_has x0 x1=some y) :
  Calls Tryz.prog 149 #[v_x0,.int .i64 (x1)] w (impl_has_post w y):=by
 refine Cm (S:=Unit) Tryz.func149 rfl Tryz.ntmps149 rfl hm fun o ho hB=>?_
 clear hm
 refine wq <| Wq rfl (cr [] w) <| Qa (Ab rfl) <| fun wd1 hC2=>anz <| wq <| wq <| Wq rfl hC2 <| Qa (Mv v_x0 rfl) <| Qa (Ln sl22 (kB h_x0 hB) rfl) <| Qa (Mi rfl) <| fun wd3 hC4=>anz <| Wf (S1:=Int) (fun (s0_9:Int) r w'=>Chg [] w w'∧∃ F,r=updL F [(1,.int .i64 (x1)),(7,v_x0),(8,.int .i64 ((x0.length:Int))),(9,.int .i64 (s0_9))]) (impl_has_T w) ho ⟨(hB.trans hC4),fe rfl⟩ ?_ ?_
 rintro s0_9 _ wd5 ⟨hB,F,rfl⟩ o ho
 replace ho:impl_has_L0 x0 x1 s0_9=some o:=ho
 unfold impl_has_L0 at ho
 refine wq <| Wq rfl (cr [] wd5) <| Qa (Bl rfl rfl) <| fun wd6 hC7=>anz <| wq <| W_cond (b:=decide (s0_9 < (x0.length:Int))) rfl ?_ ?_
 intro hb8
 rw [hb8] at ho
 refine W_skip <| anz <| wq <| W_block <| wq <| Wq rfl hC7 <| ?_
 obtain ⟨e9,hx10e,ho⟩:=bs ho
 have hx10:=idx_some hx10e
 refine Qa (Ix sl22 (kB h_x0 hB) hx10 rfl rfl rfl) <| Qa (Ei na2 (kB h_x0 hB) hx10 rfl) <| Qa (Ai rfl) <| fun kk pe=>anz <| wq <| Wq rfl pe <| Qa (Mi rfl) <| Qa (Mi rfl) <| Qa (Be rfl rfl) <| fun nv q3=>anz <| W_cond (b:=(e9) == (x1)) rfl ?_ ?_
 intro qg
 rw [qg] at ho
 refine wq <| Wq rfl q3 <| Qa (Ab rfl) <| fun jo j4=>anz <| ?_
 cases ho
 exact W_ret ⟨_,res_1 Tryz.results149,rfl,(hB.trans j4)⟩
 intro qg
 rw [qg] at ho
 refine W_skip <| inBlk_n <| anz <| Wq rfl q3 <| Qa (Ba rfl rfl) <| Qa (Mi rfl) <| fun j5 pq=>?_
 cases ho
 exact ⟨(hB.trans pq),fe rfl⟩
 intro hb8
 rw [hb8] at ho
 refine W_exit <| andThen_x <| ?_
 cases ho
 exact ⟨rfl,⟨(hB.trans hC7),fe rfl⟩⟩
 rintro s0_9 _ q4 ⟨hB,F,rfl⟩ ho
 refine anz <| wq <| Wq rfl (cr [] q4) <| Qa (Ab rfl) <| fun p03 kc=>anz <| ?_
 cases ho
 exact W_ret ⟨_,res_1 Tryz.results149,rfl,(hB.trans kc)⟩

abbrev impl_Category_isSieve_post (w:World) (x:(Bool)) (e:Ending) (w':World):Prop:=e = .returned (.bool x)∧Chg [] w w'
abbrev impl_Category_isSieve_T (w:World):=Tm Tryz.prog Tryz.f82 59 (impl_Category_isSieve_post w)
theorem impl_Category_isSieve_calls {w:World} {x0:MCategory} {p_x0:Addr} {z2:Value} {ze:List Nat} {z1:Value} {zf:List Nat} {z7:Value} {zg:List Nat} {z6:Value} {zh:List Nat} {x1:Int} {x2:(List Int)} {v_x2:Value} {f_x2:List Nat} (z8:(sImm (sInt .i64)).rep w.heap [z2] x0.From ze) (za:(sImm (sInt .i64)).rep w.heap [z1] x0.To zf) (zc:(sImm (sInt .i64)).rep w.heap [z7] x0.Identity zg) (zb:(sImm (sImm (sInt .i64))).rep w.heap [z6] x0.Composites zh) (a_x0:At w p_x0 [.int .i64 (x0.Objects),z2,z1,z7,z6]) (h_x2:(sImm (sInt .i64)).rep w.heap [v_x2] x2 f_x2) {y:(Bool)} (hm:impl_Category_isSieve x0 x1 x2=some y) :
  Calls Tryz.prog 82 #[.pointer (some (p_x0)),.int .i64 (x1),v_x2] w (impl_Category_isSieve_post w y):=by
 refine Cm (S:=Unit) Tryz.func82 rfl Tryz.ntmps82 rfl hm fun o ho hB=>?_
 clear hm
 refine wq <| Wq rfl (cr [] w) <| Qa (Ab rfl) <| fun wd1 hC2=>anz <| wq <| wq <| Wq rfl hC2 <| ?_
 obtain ⟨g3,hm4,ho⟩:=bs ho
 refine QL.meet (fun r=>∃ F,r=updL F [(0,.pointer (some (p_x0))),(1,.int .i64 (x1)),(2,v_x2),(20,.bool (g3))]) ?_ ?_
 skip
 refine Qa (Mv v_x2 rfl) <| ?_
 obtain ⟨y5,hy6,hm4⟩:=bs hm4
 refine Qc Tryz.func146 rfl rfl (fun _ hC=>impl_rising_calls (kp _ h_x2 (hB.trans hC)) hy6) <| Qa (Nt rfl) <| Qa (Mb rfl) <| ?_
 rcases Bool.eq_false_or_eq_true (!(y5)) with hb7 | hb7
 rw [hb7] at hm4
 refine Sk rfl hb7 rfl <| Sk rfl hb7 rfl <| Sk rfl hb7 rfl <| Sk rfl hb7 rfl <| Sk rfl hb7 rfl <| Qa (PTb rfl hb7 rfl) <| ?_
 cases hm4
 exact fe rfl
 rw [hb7] at hm4
 refine Qg rfl hb7 (Mv v_x2 rfl) <| Qg rfl hb7 (Mp rfl) <| ?_
 obtain ⟨y8,hy9,hm4⟩:=bs hm4
 refine Qcg rfl hb7 Tryz.func105 rfl rfl (fun _ hC=>impl_Category_arrows_calls (kp _ z8 (hB.trans hC)) (kp _ za (hB.trans hC)) (kp _ zc (hB.trans hC)) (kp _ zb (hB.trans hC)) (At.keep0 a_x0 (hB.trans hC)) hy9) <| ?_
 obtain ⟨y10,kb,hm4⟩:=bs hm4
 refine Qcg rfl hb7 Tryz.func147 rfl rfl (fun _ hC=>impl_within_calls (kp _ h_x2 (hB.trans hC)) kb) <| Qg rfl hb7 (Nt rfl) <| Qa (PFb rfl hb7 rfl) <| ?_
 cases hm4
 exact fe rfl
 rintro _ ⟨F,rfl⟩
 refine fun p02 jn=>anz <| W_cond (b:=g3) rfl ?_ ?_
 intro kl
 rw [kl] at ho
 refine wq <| Wq rfl jn <| Qa (Ab rfl) <| fun kd pj=>anz <| ?_
 cases ho
 exact W_ret ⟨_,res_1 Tryz.results82,rfl,(hB.trans pj)⟩
 intro kl
 rw [kl] at ho
 refine W_skip <| anz <| wq <| wq <| Wq rfl jn <| Qa (Mv v_x2 rfl) <| Qa (Ln sl22 (kB h_x2 hB) rfl) <| Qa (Mi rfl) <| fun jq ql=>anz <| Wf (S1:=Int) (fun (s0_23:Int) r w'=>Chg [] w w'∧∃ F,r=updL F [(0,.pointer (some (p_x0))),(1,.int .i64 (x1)),(2,v_x2),(21,v_x2),(22,.int .i64 ((x2.length:Int))),(23,.int .i64 (s0_23))]) (impl_Category_isSieve_T w) ho ⟨(hB.trans ql),fe rfl⟩ ?_ ?_
 rintro s0_23 _ nx ⟨hB,F,rfl⟩ o ho
 replace ho:impl_Category_isSieve_L0 x0 x1 x2 s0_23=some o:=ho
 unfold impl_Category_isSieve_L0 at ho
 refine wq <| Wq rfl (cr [] nx) <| Qa (Bl rfl rfl) <| fun q4 pk=>anz <| wq <| W_cond (b:=decide (s0_23 < (x2.length:Int))) rfl ?_ ?_
 intro po
 rw [po] at ho
 refine W_skip <| anz <| wq <| W_block <| wq <| Wq rfl pk <| ?_
 obtain ⟨e23,hx24e,ho⟩:=bs ho
 have hx24:=idx_some hx24e
 refine Qa (Ix sl22 (kB h_x2 hB) hx24 rfl rfl rfl) <| Qa (Ei na2 (kB h_x2 hB) hx24 rfl) <| Qa (Ai rfl) <| fun ny q5=>anz <| wq <| wq <| Wq rfl q5 <| Qa (Mp rfl) <| Qa (Nk rfl) <| Qa (Fp fa32_1 rfl) <| Qa (La na22 (At.keep0 a_x0 hB) rfl rfl) <| Qa (Mi rfl) <| ?_
 obtain ⟨e27,hx28e,ho⟩:=bs ho
 have hx28:=idx_some hx28e
 refine Qa (Ix sl22 (kB z8 hB) hx28 rfl rfl rfl) <| Qa (Ei na2 (kB z8 hB) hx28 rfl) <| Qa (Mi rfl) <| Qa (Bn rfl rfl) <| fun km p9=>anz <| W_cond (b:=(e27) != (x1)) rfl ?_ ?_
 intro kn
 rw [kn] at ho
 refine wq <| Wq rfl p9 <| Qa (Ab rfl) <| fun p06 kq=>anz <| ?_
 cases ho
 exact W_ret ⟨_,res_1 Tryz.results82,rfl,(hB.trans kq)⟩
 intro kn
 rw [kn] at ho
 refine W_skip <| anz <| wq <| W_region rfl <| Wb (Mp rfl) <| Wb (Mp rfl) <| Wb (Nk rfl) <| Wb (Fp fa32_2 rfl) <| Wa p9 (La na22 (At.keep0 a_x0 hB) rfl rfl) <| Wb (Mi rfl) <| ?_
 obtain ⟨e34,hx35e,ho⟩:=bs ho
 have hx35:=idx_some hx35e
 refine Wa p9 (Ix sl22 (kB za hB) hx35 rfl rfl rfl) <| Wa p9 (Ei na2 (kB za hB) hx35 rfl) <| ?_
 obtain ⟨y36,p07,ho⟩:=bs ho
 refine WL.call rfl (op_callF Tryz.func148 rfl rfl) (impl_Category_outOf_calls (kp _ z8 (hB.trans p9)) (kp _ za (hB.trans p9)) (kp _ zc (hB.trans p9)) (kp _ zb (hB.trans p9)) (At.keep0 a_x0 (hB.trans p9)) p07) <| ?_
 rintro _ k3 ⟨v40,f41,rfl,qw,pr⟩
 refine ⟨_,rfl,?_⟩
 replace pr:=OE.low (G:=[]) pr (hB.trans p9).size
 have p09:=p9.trans qw
 replace hB:=(hB.trans p09)
 refine Wb (Ln sl22 ((Le.own (Le.refl _) 2).le pr.1) rfl) <| Wb (Mi rfl) <| anz <| Wf (S1:=Int) (fun (s1_46:Int) r w'=>Chg [] w w'∧OE [] w.heap.size w' (sOwn 2 (sInt .i64)) [v40] (y36) f41∧∃ F,r=updL F [(0,.pointer (some (p_x0))),(1,.int .i64 (x1)),(2,v_x2),(8,.int .i64 (e23)),(21,v_x2),(22,.int .i64 ((x2.length:Int))),(23,.int .i64 (s0_23)),(44,v40),(45,.int .i64 ((y36.length:Int))),(46,.int .i64 (s1_46))]) (impl_Category_isSieve_T w) ho ⟨hB,pr,fe rfl⟩ ?_ ?_
 rintro s1_46 _ jl ⟨hB,pr,F,rfl⟩ o ho
 replace ho:impl_Category_isSieve_L1 x0 x2 e23 y36 s1_46=some o:=ho
 unfold impl_Category_isSieve_L1 at ho
 refine wq <| Wq rfl (cr [] jl) <| Qa (Bl rfl rfl) <| fun k6 pi=>anz <| wq <| W_cond (b:=decide (s1_46 < (y36.length:Int))) rfl ?_ ?_
 intro qf
 rw [qf] at ho
 refine W_skip <| anz <| wq <| W_block <| wq <| Wq rfl pi <| ?_
 obtain ⟨e48,hx49e,ho⟩:=bs ho
 have hx49:=idx_some hx49e
 refine Qa (Ix sl22 ((Le.own (Le.refl _) 2).le pr.1) hx49 rfl rfl rfl) <| Qa (Ei na2 ((Le.own (Le.refl _) 2).le pr.1) hx49 rfl) <| Qa (Ai rfl) <| fun gn q0=>anz <| wq <| Wq rfl q0 <| Qa (Mv v_x2 rfl) <| Qa (Mp rfl) <| Qa (Mi rfl) <| Qa (Mi rfl) <| ?_
 obtain ⟨y52,p0a,ho⟩:=bs ho
 refine Qc Tryz.func150 rfl rfl (fun _ hC=>impl_Category_then_calls (kp _ z8 (hB.trans hC)) (kp _ za (hB.trans hC)) (kp _ zc (hB.trans hC)) (kp _ zb (hB.trans hC)) (At.keep0 a_x0 (hB.trans hC)) p0a) <| ?_
 obtain ⟨y54,p0b,ho⟩:=bs ho
 refine Qc Tryz.func149 rfl rfl (fun _ hC=>impl_has_calls (kp _ h_x2 (hB.trans hC)) p0b) <| Qa (Nt rfl) <| fun p2n nz=>anz <| W_cond (b:=!(y54)) rfl ?_ ?_
 intro ks
 rw [ks] at ho
 refine wq <| Wq rfl nz <| Qa (Ab rfl) <| fun p0c jb=>anz <| ?_
 cases ho
 exact W_ret ⟨_,res_1 Tryz.results82,rfl,(hB.trans jb)⟩
 intro ks
 rw [ks] at ho
 refine W_skip <| inBlk_n <| anz <| Wq rfl nz <| Qa (Ba rfl rfl) <| Qa (Mi rfl) <| fun kt pl=>?_
 cases ho
 exact ⟨(hB.trans pl),(ko pr pl),fe rfl⟩
 intro qf
 rw [qf] at ho
 refine W_exit <| andThen_x <| ?_
 cases ho
 exact ⟨rfl,⟨(hB.trans pi),(ko pr pi),fe rfl⟩⟩
 rintro s1_46 _ jr ⟨hB,pr,F,rfl⟩ ho
 refine inBlk_n <| anz <| Wq rfl (cr [] jr) <| Qa (Ba rfl rfl) <| Qa (Mi rfl) <| fun g0 qx=>?_
 cases ho
 exact ⟨(hB.trans qx),fe rfl⟩
 intro po
 rw [po] at ho
 refine W_exit <| andThen_x <| ?_
 cases ho
 exact ⟨rfl,⟨(hB.trans pk),fe rfl⟩⟩
 rintro s0_23 _ js ⟨hB,F,rfl⟩ ho
 refine anz <| wq <| Wq rfl (cr [] js) <| Qa (Ab rfl) <| fun p2o p0d=>anz <| ?_
 cases ho
 exact W_ret ⟨_,res_1 Tryz.results82,rfl,(hB.trans p0d)⟩

abbrev impl_compare_post (w:World) (x:(Int)) (e:Ending) (w':World):Prop:=e = .returned (.int .i64 x)∧Chg [] w w'
abbrev impl_compare_T (w:World):=Tm Tryz.prog Tryz.f145 39 (impl_compare_post w)
theorem impl_compare_calls {w:World} {x0:(List Int)} {v_x0:Value} {f_x0:List Nat} {x1:(List Int)} {v_x1:Value} {f_x1:List Nat} (h_x0:(sImm (sInt .i64)).rep w.heap [v_x0] x0 f_x0) (h_x1:(sImm (sInt .i64)).rep w.heap [v_x1] x1 f_x1) {y:(Int)} (hm:impl_compare x0 x1=some y) :
  Calls Tryz.prog 145 #[v_x0,v_x1] w (impl_compare_post w y):=by
 refine Cm (S:=Unit) Tryz.func145 rfl Tryz.ntmps145 rfl hm fun o ho hB=>?_
 clear hm
 refine wq <| Wq rfl (cr [] w) <| Qa (Ai rfl) <| fun wd1 hC2=>anz <| wq <| wq <| Wq rfl hC2 <| Qa (Mv v_x0 rfl) <| Qa (Ln sl22 (kB h_x0 hB) rfl) <| Qa (Mi rfl) <| fun wd3 hC4=>anz <| Wf (S1:=Int) (fun (s0_8:Int) r w'=>Chg [] w w'∧∃ F,r=updL F [(0,v_x0),(1,v_x1),(7,.int .i64 ((x0.length:Int))),(8,.int .i64 (s0_8))]) (impl_compare_T w) ho ⟨(hB.trans hC4),fe rfl⟩ ?_ ?_
 rintro s0_8 _ wd5 ⟨hB,F,rfl⟩ o ho
 replace ho:impl_compare_L0 x0 x1 s0_8=some o:=ho
 unfold impl_compare_L0 at ho
 refine wq <| Wq rfl (cr [] wd5) <| Qa (Bl rfl rfl) <| fun wd6 hC7=>anz <| wq <| W_cond (b:=decide (s0_8 < (x0.length:Int))) rfl ?_ ?_
 intro hb8
 rw [hb8] at ho
 refine W_skip <| anz <| wq <| W_block <| wq <| Wq rfl hC7 <| Qa (Mi rfl) <| Qa (Ai rfl) <| fun wd9 px=>anz <| wq <| wq <| Wq rfl px <| Qa (Mi rfl) <| Qa (Mv v_x1 rfl) <| Qa (Ln sl22 (kB h_x1 hB) rfl) <| ?_
 refine Qa (Be rfl rfl) <| fun kk pe=>anz <| W_cond (b:=(s0_8) == ((x1.length:Int))) rfl ?_ ?_
 intro qm
 rw [qm] at ho
 refine wq <| Wq rfl pe <| Qa (Ai rfl) <| fun qu j3=>anz <| ?_
 cases ho
 exact W_ret ⟨_,res_1 Tryz.results145,rfl,(hB.trans j3)⟩
 intro qm
 rw [qm] at ho
 refine W_skip <| anz <| wq <| Wqd rfl (by kernel_rfl) pe <| Qa (Mv v_x0 rfl) <| Qa (Mi rfl) <| ?_
 obtain ⟨e16,hx17e,ho⟩:=bs ho
 have hx17:=idx_some hx17e
 refine Qa (Ix sl22 (kB h_x0 hB) hx17 rfl rfl rfl) <| Qa (Ei na2 (kB h_x0 hB) hx17 rfl) <| Qa (Mv v_x1 rfl) <| Qa (Mi rfl) <| ?_
 obtain ⟨e18,hx19e,ho⟩:=bs ho
 have hx19:=idx_some hx19e
 refine Qa (Ix sl22 (kB h_x1 hB) hx19 rfl rfl rfl) <| Qa (Ei na2 (kB h_x1 hB) hx19 rfl) <| Qa (Bn rfl rfl) <| fun q4 pk=>anz <| W_cond (b:=(e16) != (e18)) rfl ?_ ?_
 intro po
 rw [po] at ho
 refine wq <| wq <| Wqd rfl (by kernel_rfl) pk <| Qa (Mv v_x0 rfl) <| Qa (Mi rfl) <| ?_
 obtain ⟨e23,hx24e,ho⟩:=bs ho
 have hx24:=idx_some hx24e
 refine Qa (Ix sl22 (kB h_x0 hB) hx24 rfl rfl rfl) <| Qa (Ei na2 (kB h_x0 hB) hx24 rfl) <| Qa (Mv v_x1 rfl) <| Qa (Mi rfl) <| ?_
 obtain ⟨e25,hx26e,ho⟩:=bs ho
 have hx26:=idx_some hx26e
 refine Qa (Ix sl22 (kB h_x1 hB) hx26 rfl rfl rfl) <| Qa (Ei na2 (kB h_x1 hB) hx26 rfl) <| Qa (Bl rfl rfl) <| fun ku qn=>anz <| W_cond (b:=decide (e23 < e25)) rfl ?_ ?_
 intro kv
 rw [kv] at ho
 refine wq <| Wq rfl qn <| Qa (Ai rfl) <| fun p0e kw=>anz <| ?_
 cases ho
 exact W_ret ⟨_,res_1 Tryz.results145,rfl,(hB.trans kw)⟩
 intro kv
 rw [kv] at ho
 refine W_skip <| anz <| wq <| Wq rfl qn <| Qa (Ai rfl) <| fun p06 kq=>anz <| ?_
 cases ho
 exact W_ret ⟨_,res_1 Tryz.results145,rfl,(hB.trans kq)⟩
 intro po
 rw [po] at ho
 refine W_skip <| inBlk_n <| anz <| Wq rfl pk <| Qa (Ba rfl rfl) <| Qa (Mi rfl) <| fun j8 jt=>?_
 cases ho
 exact ⟨(hB.trans jt),fe rfl⟩
 intro hb8
 rw [hb8] at ho
 refine W_exit <| andThen_x <| ?_
 cases ho
 exact ⟨rfl,⟨(hB.trans hC7),fe rfl⟩⟩
 rintro s0_8 _ k2 ⟨hB,F,rfl⟩ ho
 refine anz <| wq <| wq <| Wq rfl (cr [] k2) <| Qa (Mv v_x0 rfl) <| Qa (Ln sl22 (kB h_x0 hB) rfl) <| Qa (Mv v_x1 rfl) <| Qa (Ln sl22 (kB h_x1 hB) rfl) <| Qa (Bl rfl rfl) <| fun g1 g2=>anz <| W_cond (b:=decide ((x0.length:Int) < (x1.length:Int))) rfl ?_ ?_
 intro kx
 rw [kx] at ho
 refine wq <| Wq rfl g2 <| Qa (Ai rfl) <| fun ju ky=>anz <| ?_
 cases ho
 exact W_ret ⟨_,res_1 Tryz.results145,rfl,(hB.trans ky)⟩
 intro kx
 rw [kx] at ho
 refine W_skip <| anz <| wq <| Wq rfl g2 <| Qa (Ai rfl) <| fun gm k5=>anz <| ?_
 cases ho
 exact W_ret ⟨_,res_1 Tryz.results145,rfl,(hB.trans k5)⟩

abbrev impl_Topology_hasForm_post (w:World) (x:(Bool)) (e:Ending) (w':World):Prop:=e = .returned (.bool x)∧Chg [] w w'
abbrev impl_Topology_hasForm_T (w:World):=Tm Tryz.prog Tryz.f80 64 (impl_Topology_hasForm_post w)
theorem impl_Topology_hasForm_calls {w:World} {x0:MTopology} {p_x0:Addr} {zl:Value} {zo:List Nat} {zk:Value} {zp:List Nat} {zm:Value} {zq:List Nat} {zn:Value} {zr:List Nat} {zi:Value} {zd:List Nat} (zu:(sImm (sInt .i64)).rep w.heap [zl] x0.Shape.From zo) (zt:(sImm (sInt .i64)).rep w.heap [zk] x0.Shape.To zp) (zv:(sImm (sInt .i64)).rep w.heap [zm] x0.Shape.Identity zq) (zw:(sImm (sImm (sInt .i64))).rep w.heap [zn] x0.Shape.Composites zr) (zj:(sImm (sImm (sImm (sInt .i64)))).rep w.heap [zi] x0.Covers zd) (a_x0:At w p_x0 [.int .i64 (x0.Shape.Objects),zl,zk,zm,zn,zi]) {y:(Bool)} (hm:impl_Topology_hasForm x0=some y) :
  Calls Tryz.prog 80 #[.pointer (some (p_x0))] w (impl_Topology_hasForm_post w y):=by
 refine Cm (S:=Unit) Tryz.func80 rfl Tryz.ntmps80 rfl hm fun o ho hB=>?_
 clear hm
 refine wq <| Wq rfl (cr [] w) <| Qa (Ab rfl) <| fun wd1 hC2=>anz <| wq <| Wq rfl hC2 <| Qa (Mp rfl) <| Qa (Nk rfl) <| ?_
 have at3:At w (p_x0.add 0) [.int .i64 (x0.Shape.Objects),zl,zk,zm,zn]:=At.sub a_x0 0 5
 refine Qa (Fp fa34_0 rfl) <| Qa (Ap rfl) <| fun wd4 hC5=>anz <| wq <| wq <| Wqd rfl (by kernel_rfl) hC5 <| ?_
 obtain ⟨g6,hm7,ho⟩:=bs ho
 refine QL.meet (fun r=>∃ F,r=updL F [(0,.pointer (some (p_x0))),(3,.pointer (some ((p_x0.add 0)))),(25,.bool (g6))]) ?_ ?_
 skip
 refine Qa (Mp rfl) <| ?_
 obtain ⟨y8,hy9,hm7⟩:=bs hm7
 refine Qc Tryz.func103 rfl rfl (fun _ hC=>impl_Category_isCategory_calls (kp _ zu (hB.trans hC)) (kp _ zt (hB.trans hC)) (kp _ zv (hB.trans hC)) (kp _ zw (hB.trans hC)) (At.keep0 at3 (hB.trans hC)) hy9) <| Qa (Nt rfl) <| Qa (Mb rfl) <| ?_
 rcases Bool.eq_false_or_eq_true (!(y8)) with p7 | p7
 rw [p7] at hm7
 refine Sk rfl p7 rfl <| Sk rfl p7 rfl <| Sk rfl p7 rfl <| Sk rfl p7 rfl <| Sk rfl p7 rfl <| Sk rfl p7 rfl <| Sk rfl p7 rfl <| Sk rfl p7 rfl <| Sk rfl p7 rfl <| Sk rfl p7 rfl <| Qa (PTb rfl p7 rfl) <| ?_
 cases hm7
 exact fe rfl
 rw [p7] at hm7
 refine Qg rfl p7 (Mp rfl) <| Qg rfl p7 (Nk rfl) <| Qg rfl p7 (Fp fa34_1 rfl) <| Qg rfl p7 (La na26 (At.keep0 a_x0 hB) rfl rfl) <| Qg rfl p7 (Ln sl26 (kB zj hB) rfl) <| Qg rfl p7 (Mp rfl) <| Qg rfl p7 (Nk rfl) <| Qg rfl p7 (F0 fa32_0 rfl) <| Qg rfl p7 (Lb na2 (At.keep0 at3 hB) rfl rfl) <| Qg rfl p7 (Bn rfl rfl) <| Qa (PFb rfl p7 rfl) <| ?_
 cases hm7
 exact fe rfl
 rintro _ ⟨F,rfl⟩
 refine fun kk pe=>anz <| W_cond (b:=g6) rfl ?_ ?_
 intro qm
 rw [qm] at ho
 refine wq <| Wq rfl pe <| Qa (Ab rfl) <| fun qu j3=>anz <| ?_
 cases ho
 exact W_ret ⟨_,res_1 Tryz.results80,rfl,(hB.trans j3)⟩
 intro qm
 rw [qm] at ho
 refine W_skip <| anz <| wq <| wq <| Wq rfl pe <| Qa (Mp rfl) <| Qa (Nk rfl) <| Qa (Fp fa34_1 rfl) <| Qa (La na26 (At.keep0 a_x0 hB) rfl rfl) <| Qa (Ln sl26 (kB zj hB) rfl) <| Qa (Mi rfl) <| fun jo j4=>anz <| Wf (S1:=Int) (fun (s0_31:Int) r w'=>Chg [] w w'∧∃ F,r=updL F [(3,.pointer (some ((p_x0.add 0)))),(29,zi),(30,.int .i64 ((x0.Covers.length:Int))),(31,.int .i64 (s0_31))]) (impl_Topology_hasForm_T w) ho ⟨(hB.trans j4),fe rfl⟩ ?_ ?_
 rintro s0_31 _ j5 ⟨hB,F,rfl⟩ o ho
 replace ho:impl_Topology_hasForm_L0 x0 s0_31=some o:=ho
 unfold impl_Topology_hasForm_L0 at ho
 refine wq <| Wq rfl (cr [] j5) <| Qa (Bl rfl rfl) <| fun nx g4=>anz <| wq <| W_cond (b:=decide (s0_31 < (x0.Covers.length:Int))) rfl ?_ ?_
 intro p1
 rw [p1] at ho
 refine W_skip <| anz <| wq <| W_block <| wq <| Wq rfl g4 <| Qa (Mi rfl) <| ?_
 obtain ⟨e22,hx23e,ho⟩:=bs ho
 have hx23:=idx_some hx23e
 refine Qa (Ix sl26 (kB zj hB) hx23 rfl rfl rfl) <| ?_
 obtain ⟨u24,fu25,hu26,jc,hs28⟩:=one_get rfl zj hx23.1 hx23.2
 refine Qa (Ld na23 (hB.cell0 hu26) rfl) <| Qa (Ai rfl) <| Qa (Av u24 rfl) <| fun km p9=>anz <| wq <| Wq rfl p9 <| Qa (Mv u24 rfl) <| Qa (Ln sl23 (kB jc hB) rfl) <| Qa (Mi rfl) <| fun nq j0=>anz <| Wf (S1:=Int) (fun (s1_38:Int) r w'=>Chg [] w w'∧∃ F,r=updL F [(3,.pointer (some ((p_x0.add 0)))),(4,.int .i64 (s0_31)),(5,u24),(29,zi),(30,.int .i64 ((x0.Covers.length:Int))),(31,.int .i64 (s0_31)),(36,u24),(37,.int .i64 ((e22.length:Int))),(38,.int .i64 (s1_38))]) (impl_Topology_hasForm_T w) ho ⟨(hB.trans j0),fe rfl⟩ ?_ ?_
 rintro s1_38 _ nr ⟨hB,F,rfl⟩ o ho
 replace ho:impl_Topology_hasForm_L1 x0 s0_31 e22 s1_38=some o:=ho
 unfold impl_Topology_hasForm_L1 at ho
 refine wq <| Wq rfl (cr [] nr) <| Qa (Bl rfl rfl) <| fun j8 jt=>anz <| wq <| W_cond (b:=decide (s1_38 < (e22.length:Int))) rfl ?_ ?_
 intro kz
 rw [kz] at ho
 refine W_skip <| anz <| wq <| W_block <| wq <| Wq rfl jt <| Qa (Mi rfl) <| ?_
 obtain ⟨e37,hx38e,ho⟩:=bs ho
 have hx38:=idx_some hx38e
 refine Qa (Ix sl23 (kB jc hB) hx38 rfl rfl rfl) <| ?_
 obtain ⟨u39,fu40,hu41,q6,hs43⟩:=one_get rfl jc hx38.1 hx38.2
 refine Qa (Ld na22 (hB.cell0 hu41) rfl) <| Qa (Ai rfl) <| Qa (Av u39 rfl) <| fun jl p0f=>anz <| wq <| Wq rfl p0f <| ?_
 obtain ⟨g46,hm47,ho⟩:=bs ho
 refine QL.meet (fun r=>∃ F,r=updL F [(3,.pointer (some ((p_x0.add 0)))),(4,.int .i64 (s0_31)),(5,u24),(29,zi),(30,.int .i64 ((x0.Covers.length:Int))),(31,.int .i64 (s0_31)),(36,u24),(37,.int .i64 ((e22.length:Int))),(38,.int .i64 (s1_38)),(61,.bool (g46))]) ?_ ?_
 skip
 refine Qa (Mp rfl) <| Qa (Mi rfl) <| Qa (Mv u39 rfl) <| ?_
 obtain ⟨y48,k7,hm47⟩:=bs hm47
 refine Qc Tryz.func82 rfl rfl (fun _ hC=>impl_Category_isSieve_calls (kp _ zu (hB.trans hC)) (kp _ zt (hB.trans hC)) (kp _ zv (hB.trans hC)) (kp _ zw (hB.trans hC)) (At.keep0 at3 (hB.trans hC)) (kp _ q6 (hB.trans hC)) k7) <| Qa (Nt rfl) <| Qa (Mb rfl) <| ?_
 rcases Bool.eq_false_or_eq_true (!(y48)) with pc | pc
 rw [pc] at hm47
 refine Sk rfl pc rfl <| Sk rfl pc rfl <| Sk rfl pc rfl <| QL.skipN rfl rfl <| QL.skipN rfl rfl <| QL.skipN rfl rfl <| QL.skipN rfl rfl <| QL.skipN rfl rfl <| QL.skipN rfl rfl <| QL.skipN rfl rfl <| QL.skipN rfl rfl <| Sk rfl pc rfl <| Qa (PTb rfl pc rfl) <| ?_
 cases hm47
 exact fe rfl
 rw [pc] at hm47
 refine Qg rfl pc (Mi rfl) <| Qg rfl pc (Bg rfl rfl) <| Qg rfl pc (Mb rfl) <| ?_
 rcases Bool.eq_false_or_eq_true (decide (s1_38 > (0:Int))) with p8 | p8
 rw [p8] at hm47
 refine Qg rfl p8 (Mv u24 rfl) <| Qg rfl p8 (Mi rfl) <| Qg rfl p8 (Bs rfl rfl) <| ?_
 obtain ⟨e52,hx53e,hm47⟩:=bs hm47
 have hx53:=idx_some hx53e
 refine Qg rfl p8 (Ix sl23 (kB jc hB) hx53 rfl rfl rfl) <| ?_
 obtain ⟨u54,fu55,hu56,p0g,hs58⟩:=one_get rfl jc hx53.1 hx53.2
 refine Qg rfl p8 (Ld na22 (hB.cell0 hu56) rfl) <| Qg rfl p8 (Mv u39 rfl) <| ?_
 obtain ⟨y59,p0h,hm47⟩:=bs hm47
 refine Qcg rfl p8 Tryz.func145 rfl rfl (fun _ hC=>impl_compare_calls (kp _ p0g (hB.trans hC)) (kp _ q6 (hB.trans hC)) p0h) <| Qg rfl p8 (Bh rfl rfl) <| Qg rfl pc (PTb rfl p8 rfl) <| Qa (PFb rfl pc rfl) <| ?_
 cases hm47
 exact fe rfl
 rw [p8] at hm47
 refine Sk rfl p8 rfl <| Sk rfl p8 rfl <| Sk rfl p8 rfl <| Sk rfl p8 rfl <| Sk rfl p8 rfl <| Sk rfl p8 rfl <| Sk rfl p8 rfl <| Sk rfl p8 rfl <| Qg rfl pc (PFb rfl p8 rfl) <| Qa (PFb rfl pc rfl) <| ?_
 cases hm47
 exact fe rfl
 rintro _ ⟨F,rfl⟩
 refine fun kt pl=>anz <| W_cond (b:=g46) rfl ?_ ?_
 intro n0
 rw [n0] at ho
 refine wq <| Wq rfl pl <| Qa (Ab rfl) <| fun g0 qx=>anz <| ?_
 cases ho
 exact W_ret ⟨_,res_1 Tryz.results80,rfl,(hB.trans qx)⟩
 intro n0
 rw [n0] at ho
 refine W_skip <| inBlk_n <| anz <| Wq rfl pl <| Qa (Ba rfl rfl) <| Qa (Mi rfl) <| fun js q7=>?_
 cases ho
 exact ⟨(hB.trans q7),fe rfl⟩
 intro kz
 rw [kz] at ho
 refine W_exit <| andThen_x <| ?_
 cases ho
 exact ⟨rfl,⟨(hB.trans jt),fe rfl⟩⟩
 rintro s1_38 _ p0i ⟨hB,F,rfl⟩ ho
 refine inBlk_n <| anz <| Wq rfl (cr [] p0i) <| Qa (Ba rfl rfl) <| Qa (Mi rfl) <| fun p2p p0j=>?_
 cases ho
 exact ⟨(hB.trans p0j),fe rfl⟩
 intro p1
 rw [p1] at ho
 refine W_exit <| andThen_x <| ?_
 cases ho
 exact ⟨rfl,⟨(hB.trans g4),fe rfl⟩⟩
 rintro s0_31 _ p0k ⟨hB,F,rfl⟩ ho
 refine anz <| wq <| Wq rfl (cr [] p0k) <| Qa (Ab rfl) <| fun p2q p0l=>anz <| ?_
 cases ho
 exact W_ret ⟨_,res_1 Tryz.results80,rfl,(hB.trans p0l)⟩

abbrev impl_clone_post (w:World) (x:((List Int))) (e:Ending) (w':World):Prop:=∃ (v0:Value) (f0:List Nat),e = .returned (v0)∧Chg [] w w'∧OE [] w.heap.size w' (sOwn 2 (sInt .i64)) [v0] x f0
abbrev impl_clone_T (w:World):=Tm Tryz.prog Tryz.f159 6 (impl_clone_post w)
theorem impl_clone_calls {w:World} {x0:(List Int)} {v_x0:Value} {f_x0:List Nat} (h_x0:(sImm (sInt .i64)).rep w.heap [v_x0] x0 f_x0) {y:((List Int))} (hm:impl_clone x0=some y) :
  Calls Tryz.prog 159 #[v_x0] w (impl_clone_post w y):=by
 refine Cm (S:=Unit) Tryz.func159 rfl Tryz.ntmps159 rfl hm fun o ho hB=>?_
 clear hm
 refine wq <| Wq rfl (cr [] w) <| Qa (As rfl) <| fun wd1 hC2=>anz <| wq <| W_region rfl <| WL.lit0 (sInt .i64) u22z info2 fun v3 wd4 f5 hC6 o7=>?_
 replace o7:=OE.low (G:=[]) o7 (hB.trans hC2).size
 have hT8:=hC2.trans hC6
 replace hB:=(hB.trans hT8)
 refine Wb (Mv v_x0 rfl) <| ?_
 obtain ⟨n15,hn16,ho⟩:=bs ho
 have hn16a:=fits_some hn16
 refine WL.appendS (E:=(sInt .i64)) _ _ sInt_nofp u22z info2 zr2 sz2 rfl rfl rfl o7 rfl (kp _ h_x0 hB) (by rw [by2]; exact hn16a.1) hn16a.2 hB.size fun v9 qd pf pe p2 hs14=>?_
 replace hB:=hB.then pe o7.2.2
 refine Wb (Av v9 rfl) <| anz <| ?_
 cases ho
 exact W_ret ⟨_,res_1 Tryz.results159,_,_,rfl,hB,p2⟩

abbrev impl_clones_post (w:World) (x:((List (List Int)))) (e:Ending) (w':World):Prop:=∃ (v0:Value) (f0:List Nat),e = .returned (v0)∧Chg [] w w'∧OE [] w.heap.size w' (sOwn 22 (sOwn 2 (sInt .i64))) [v0] x f0
abbrev impl_clones_T (w:World):=Tm Tryz.prog Tryz.f178 22 (impl_clones_post w)
theorem impl_clones_calls {w:World} {x0:(List (List Int))} {v_x0:Value} {f_x0:List Nat} (h_x0:(sImm (sImm (sInt .i64))).rep w.heap [v_x0] x0 f_x0) {y:((List (List Int)))} (hm:impl_clones x0=some y) :
  Calls Tryz.prog 178 #[v_x0] w (impl_clones_post w y):=by
 refine Cm (S:=Unit) Tryz.func178 rfl Tryz.ntmps178 rfl hm fun o ho hB=>?_
 clear hm
 refine wq <| Wq rfl (cr [] w) <| Qa (As rfl) <| fun wd1 hC2=>anz <| wq <| W_region rfl <| Wb (Mv v_x0 rfl) <| Wa hC2 (Ln sl23 (kB h_x0 hB) rfl) <| ?_
 obtain ⟨n3,hn4,ho⟩:=bs ho
 obtain ⟨hn4a,hn4b,hn4c⟩:=mk_some hn4
 refine WL.make0 (sOwn 2 (sInt .i64)) u23z info22 zr22 sz22 rfl (congrArg (Value.int .i64) hn4a) (by rw [by22]; exact hn4b) hn4c fun v5 wd6 f7 hC8 o9=>?_
 replace o9:=OE.low (G:=[]) o9 (hB.trans hC2).size
 have p0m:=hC2.trans hC8
 replace hB:=(hB.trans p0m)
 refine Wb (Av v5 rfl) <| anz <| wq <| wq <| Wq rfl (cr [] wd6) <| Qa (Mv v_x0 rfl) <| Qa (Ln sl23 (kB h_x0 hB) rfl) <| Qa (Mi rfl) <| fun kk pe=>anz <| Wf (S1:=(List (List Int))×Int) (fun s r w'=>match s with | (s0_3,s0_11)=>∃ (v13:Value) (n1:List Nat),Chg [] w w'∧OE [] w.heap.size w' (sOwn 22 (sOwn 2 (sInt .i64))) [v13] (s0_3) n1∧∃ F,r=updL F [(3,v13),(9,v_x0),(10,.int .i64 ((x0.length:Int))),(11,.int .i64 (s0_11))]) (impl_clones_T w) ho ⟨_,_,(hB.trans pe),(ko o9 pe),fe rfl⟩ ?_ ?_
 rintro ⟨s0_3,s0_11⟩ _ jo ⟨v13,n1,hB,pp,F,rfl⟩ o ho
 replace ho:impl_clones_L0 x0 s0_3 s0_11=some o:=ho
 unfold impl_clones_L0 at ho
 refine wq <| Wq rfl (cr [] jo) <| Qa (Bl rfl rfl) <| fun jq ql=>anz <| wq <| W_cond (b:=decide (s0_11 < (x0.length:Int))) rfl ?_ ?_
 intro n2
 rw [n2] at ho
 refine W_skip <| anz <| wq <| W_block <| wq <| Wq rfl ql <| ?_
 obtain ⟨e20,hx21e,ho⟩:=bs ho
 have hx21:=idx_some hx21e
 refine Qa (Ix sl23 (kB h_x0 hB) hx21 rfl rfl rfl) <| ?_
 obtain ⟨u22,fu23,hu24,p0n,hs26⟩:=one_get rfl h_x0 hx21.1 hx21.2
 refine Qa (Ld na22 (hB.cell0 hu24) rfl) <| Qa (Av u22 rfl) <| fun ku qn=>anz <| W_region rfl <| Wb (Mv v13 rfl) <| Wb (Mv u22 rfl) <| ?_
 obtain ⟨y29,p0o,ho⟩:=bs ho
 refine WL.call rfl (op_callF Tryz.func159 rfl rfl) (impl_clone_calls (kp _ p0n (hB.trans qn)) p0o) <| ?_
 rintro _ nq ⟨v33,f34,rfl,j0,py⟩
 refine ⟨_,rfl,?_⟩
 have q8:=dl (ofr py) (sl _ (kp _ pp.1 qn))
 replace py:=OE.low (G:=[]) py (hB.trans qn).size
 have g5:=qn.trans j0
 replace pp:=ko pp g5
 replace hB:=(hB.trans g5)
 refine WL.lit1 u23z info22 zr22 sz22 (STy.one _ py.1 _ (ms rfl)) fun b38 ns qt jd p0q=>?_
 replace jd:Row ns b38 [v33] 22:=jd
 have d44:=dl (onw p0q) (sl _ pp.1)
 replace pp:=ko pp qt
 replace py:=ko py qt
 replace hB:=(hB.trans qt)
 obtain ⟨n53,hn54,ho⟩:=bs ho
 have hn54a:=fits_some hn54
 refine WL.append1 (E:=(sOwn 2 (sInt .i64))) _ _ u23z info22 zr22 sz22 rfl rfl rfl pp rfl jd py.1 py.2.1 py.2.2 q8 (by rw [by22]; exact hn54a.1) hn54a.2 hB.size fun v47 kj f49 g7 o51 hs52=>?_
 replace jd:=Row.keep jd g7 (d44 _ (ms rfl))
 replace hB:=hB.then g7 pp.2.2
 refine Wb (Av v47 rfl) <| inBlk_n <| anz <| Wq rfl (cr [] kj) <| Qa (Ba rfl rfl) <| Qa (Mi rfl) <| fun nt q1=>?_
 cases ho
 exact ⟨_,_,(hB.trans q1),(ko o51 q1),fe rfl⟩
 intro n2
 rw [n2] at ho
 refine W_exit <| andThen_x <| ?_
 cases ho
 exact ⟨rfl,⟨_,_,(hB.trans ql),(ko pp ql),fe rfl⟩⟩
 rintro ⟨s0_3,s0_11⟩ _ g8 ⟨v13,n1,hB,pp,F,rfl⟩ ho
 dsimp only at ho
 refine anz <| wq <| Wq rfl (cr [] g8) <| Qa (Mv v13 rfl) <| Qa (Av v13 rfl) <| fun kt pl=>anz <| ?_
 cases ho
 exact W_ret ⟨_,res_1 Tryz.results178,_,_,rfl,(hB.trans pl),(ko pp pl)⟩

abbrev impl_Category_copy_post (w:World) (x:(MCategory)) (e:Ending) (w':World):Prop:=∃ (v0:Value) (f0:List Nat) (v1:Value) (f1:List Nat) (v2:Value) (f2:List Nat) (v3:Value) (f3:List Nat),e = .returned (.agg #[.int .i64 x.Objects,v0,v1,v2,v3])∧Chg [] w w'∧OE [] w.heap.size w' (sOwn 2 (sInt .i64)) [v0] x.From f0∧OE [] w.heap.size w' (sOwn 2 (sInt .i64)) [v1] x.To f1∧OE [] w.heap.size w' (sOwn 2 (sInt .i64)) [v2] x.Identity f2∧OE [] w.heap.size w' (sOwn 22 (sOwn 2 (sInt .i64))) [v3] x.Composites f3∧Dis f0 f1∧Dis f0 f2∧Dis f0 f3∧Dis f1 f2∧Dis f1 f3∧Dis f2 f3
abbrev impl_Category_copy_T (w:World):=Tm Tryz.prog Tryz.f158 28 (impl_Category_copy_post w)
theorem impl_Category_copy_calls {w:World} {x0:MCategory} {p_x0:Addr} {z2:Value} {ze:List Nat} {z1:Value} {zf:List Nat} {z7:Value} {zg:List Nat} {z6:Value} {zh:List Nat} (z8:(sImm (sInt .i64)).rep w.heap [z2] x0.From ze) (za:(sImm (sInt .i64)).rep w.heap [z1] x0.To zf) (zc:(sImm (sInt .i64)).rep w.heap [z7] x0.Identity zg) (zb:(sImm (sImm (sInt .i64))).rep w.heap [z6] x0.Composites zh) (a_x0:At w p_x0 [.int .i64 (x0.Objects),z2,z1,z7,z6]) {y:(MCategory)} (hm:impl_Category_copy x0=some y) :
  Calls Tryz.prog 158 #[.pointer (some (p_x0))] w (impl_Category_copy_post w y):=by
 refine Cm (S:=Unit) Tryz.func158 rfl Tryz.ntmps158 rfl hm fun o ho hB=>?_
 clear hm
 refine wq <| W_region rfl <| WL.alloc info32 zr32 fun b1 wd2 hC3 hr4 hl5=>?_
 replace hr4:Row wd2 b1 [.int .i64 ((0:Int)),.slice none 0 0,.slice none 0 0,.slice none 0 0,.slice none 0 0] 32:=hr4
 have lo6:w.heap.size≤b1:=Nat.le_trans hB.size hl5
 replace hB:=(hB.trans hC3)
 refine anz <| wq <| ?_
 obtain ⟨y8,hy9,ho⟩:=bs ho
 obtain ⟨y13,p0t,ho⟩:=bs ho
 obtain ⟨y18,n4,ho⟩:=bs ho
 obtain ⟨y23,p0u,ho⟩:=bs ho
 refine W_any (m:=24) (U:=.replicate 24 []) (S:=[sV (.pointer (some (p_x0))),sV (.pointer (some (p_x0))),sV (.pointer (some (p_x0))),sV (.int .i64 (x0.Objects)),sV (.pointer (some (p_x0))),sV (.pointer (some (p_x0))),sV (.pointer (some (p_x0.add 1))),sV (z2),sO (sOwn 2 (sInt .i64)) (y8),sV (.pointer (some (p_x0))),sV (.pointer (some (p_x0))),sV (.pointer (some (p_x0.add 2))),sV (z1),sO (sOwn 2 (sInt .i64)) (y13),sV (.pointer (some (p_x0))),sV (.pointer (some (p_x0))),sV (.pointer (some (p_x0.add 3))),sV (z7),sO (sOwn 2 (sInt .i64)) (y18),sV (.pointer (some (p_x0))),sV (.pointer (some (p_x0))),sV (.pointer (some (p_x0.add 4))),sV (z6),sO (sOwn 22 (sOwn 2 (sInt .i64))) (y23)]) (Z:=[]) hmix rfl (by decide) (by decide +kernel) (fun _ _ _ h=>np_out h) (by decide) rfl (by decide +kernel) (stable_all (by repeat first | exact stable_nil | refine stable_cons stable_val ?_ | refine stable_cons stable_own ?_)) ?_ ?_
 refine owes_cons ?_ <| owes_cons ?_ <| owes_cons ?_ <| owes_cons ?_ <| owes_cons ?_ <| owes_cons ?_ <| owes_cons ?_ <| owes_cons ?_ <| owes_cons ?_ <| owes_cons ?_ <| owes_cons ?_ <| owes_cons ?_ <| owes_cons ?_ <| owes_cons ?_ <| owes_cons ?_ <| owes_cons ?_ <| owes_cons ?_ <| owes_cons ?_ <| owes_cons ?_ <| owes_cons ?_ <| owes_cons ?_ <| owes_cons ?_ <| owes_cons ?_ <| owes_cons ?_ <| owes_nil
 exact Oh rfl rfl rfl [(0,.pointer (some (p_x0)))] (cr [] wd2) rfl rfl fun _=>Mp rfl
 exact Ov rfl rfl rfl [] [(3,.pointer (some (p_x0)))] [0] (cr [] wd2) rfl rfl (by decide +kernel) rfl fun _=>Nk rfl
 exact Ov rfl rfl rfl [] [(4,.pointer (some (p_x0)))] [1] (cr [] wd2) rfl rfl (by decide +kernel) rfl fun _=>F0 fa32_0 rfl
 exact Ov rfl rfl rfl [] [(5,.pointer (some (p_x0)))] [2] (cr [] wd2) rfl rfl (by decide +kernel) rfl fun _=>Lb na2 (At.keep0 a_x0 hB) rfl rfl
 exact Oh rfl rfl rfl [(0,.pointer (some (p_x0)))] (cr [] wd2) rfl rfl fun _=>Mp rfl
 exact Ov rfl rfl rfl [] [(7,.pointer (some (p_x0)))] [4] (cr [] wd2) rfl rfl (by decide +kernel) rfl fun _=>Nk rfl
 exact Ov rfl rfl rfl [] [(8,.pointer (some (p_x0)))] [5] (cr [] wd2) rfl rfl (by decide +kernel) rfl fun _=>Fp fa32_1 rfl
 exact Ov rfl rfl rfl [] [(9,.pointer (some (p_x0.add 1)))] [6] (cr [] wd2) rfl rfl (by decide +kernel) rfl fun _=>La na22 (At.keep0 a_x0 hB) rfl rfl
 refine Owes.mem rfl rfl rfl <| fun g r wr hCr H hot=>?_
 have hC:=hCr
 obtain ⟨F,rfl⟩:=fr (r:=r) (l:=[(10,z2)]) ⟨(H 7 (by decide +kernel) 10 rfl),trivial⟩
 exact OpW.own (op_callF Tryz.func159 rfl rfl) (impl_clone_calls (kp _ z8 (hB.trans hC)) hy9)
 exact Oh rfl rfl rfl [(0,.pointer (some (p_x0)))] (cr [] wd2) rfl rfl fun _=>Mp rfl
 exact Ov rfl rfl rfl [] [(12,.pointer (some (p_x0)))] [9] (cr [] wd2) rfl rfl (by decide +kernel) rfl fun _=>Nk rfl
 exact Ov rfl rfl rfl [] [(13,.pointer (some (p_x0)))] [10] (cr [] wd2) rfl rfl (by decide +kernel) rfl fun _=>Fp fa32_2 rfl
 exact Ov rfl rfl rfl [] [(14,.pointer (some (p_x0.add 2)))] [11] (cr [] wd2) rfl rfl (by decide +kernel) rfl fun _=>La na22 (At.keep0 a_x0 hB) rfl rfl
 refine Owes.mem rfl rfl rfl <| fun g r wr hCr H hot=>?_
 have hC:=hCr
 obtain ⟨F,rfl⟩:=fr (r:=r) (l:=[(15,z1)]) ⟨(H 12 (by decide +kernel) 15 rfl),trivial⟩
 exact OpW.own (op_callF Tryz.func159 rfl rfl) (impl_clone_calls (kp _ za (hB.trans hC)) p0t)
 exact Oh rfl rfl rfl [(0,.pointer (some (p_x0)))] (cr [] wd2) rfl rfl fun _=>Mp rfl
 exact Ov rfl rfl rfl [] [(17,.pointer (some (p_x0)))] [14] (cr [] wd2) rfl rfl (by decide +kernel) rfl fun _=>Nk rfl
 exact Ov rfl rfl rfl [] [(18,.pointer (some (p_x0)))] [15] (cr [] wd2) rfl rfl (by decide +kernel) rfl fun _=>Fp fa32_3 rfl
 exact Ov rfl rfl rfl [] [(19,.pointer (some (p_x0.add 3)))] [16] (cr [] wd2) rfl rfl (by decide +kernel) rfl fun _=>La na22 (At.keep0 a_x0 hB) rfl rfl
 refine Owes.mem rfl rfl rfl <| fun g r wr hCr H hot=>?_
 have hC:=hCr
 obtain ⟨F,rfl⟩:=fr (r:=r) (l:=[(20,z7)]) ⟨(H 17 (by decide +kernel) 20 rfl),trivial⟩
 exact OpW.own (op_callF Tryz.func159 rfl rfl) (impl_clone_calls (kp _ zc (hB.trans hC)) n4)
 exact Oh rfl rfl rfl [(0,.pointer (some (p_x0)))] (cr [] wd2) rfl rfl fun _=>Mp rfl
 exact Ov rfl rfl rfl [] [(22,.pointer (some (p_x0)))] [19] (cr [] wd2) rfl rfl (by decide +kernel) rfl fun _=>Nk rfl
 exact Ov rfl rfl rfl [] [(23,.pointer (some (p_x0)))] [20] (cr [] wd2) rfl rfl (by decide +kernel) rfl fun _=>Fp fa32_4 rfl
 exact Ov rfl rfl rfl [] [(24,.pointer (some (p_x0.add 4)))] [21] (cr [] wd2) rfl rfl (by decide +kernel) rfl fun _=>La na23 (At.keep0 a_x0 hB) rfl rfl
 refine Owes.mem rfl rfl rfl <| fun g r wr hCr H hot=>?_
 have hC:=hCr
 obtain ⟨F,rfl⟩:=fr (r:=r) (l:=[(25,z6)]) ⟨(H 22 (by decide +kernel) 25 rfl),trivial⟩
 exact OpW.own (op_callF Tryz.func178 rfl rfl) (impl_clones_calls (kp _ zb (hB.trans hC)) p0u)
 rintro g r qs ⟨qe,hdone,hot,hfresh,hdis⟩
 have ps:OwnV (sOwn 2 (sInt .i64)) (y8) _ _ _:=hdone 8 (by decide) (by decide) 11 rfl
 generalize hvv10:r 11=v10 at ps
 have hfo12:=hfresh 8 (by decide)
 have p5:OwnV (sOwn 2 (sInt .i64)) (y13) _ _ _:=hdone 13 (by decide) (by decide) 16 rfl
 generalize hvv15:r 16=v15 at p5
 have hfo17:=hfresh 13 (by decide)
 have p4:OwnV (sOwn 2 (sInt .i64)) (y18) _ _ _:=hdone 18 (by decide) (by decide) 21 rfl
 generalize hvv20:r 21=v20 at p4
 have hfo22:=hfresh 18 (by decide)
 have pt:OwnV (sOwn 22 (sOwn 2 (sInt .i64))) (y23) _ _ _:=hdone 23 (by decide) (by decide) 26 rfl
 generalize hvv25:r 26=v25 at pt
 have hfo27:=hfresh 23 (by decide)
 have hdd:=hdis
 obtain ⟨F,rfl⟩:=fw hdone hot [(2,.pointer (some (⟨b1,0,none⟩)))] [(6,.int .i64 (x0.Objects))] [3] rfl rfl rfl rfl (z:=[(11,v10),(16,v15),(21,v20),(26,v25)]) ⟨hvv10,hvv15,hvv20,hvv25,trivial⟩
 obtain ⟨pf,hgf11⟩ : ∃ k,k=g 8:=⟨_,rfl⟩
 rw [← hgf11] at ps hfo12
 replace ps:OE [] w.heap.size qs (sOwn 2 (sInt .i64)) [v10] (y8) pf:=⟨ps.1,ps.2,fun b hb=>.inr (Nat.le_trans hB.size (hfo12 b hb).1)⟩
 have d30:=dl (fun b hb=>(hfo12 b hb).1) (one_lt (Row.lt hr4))
 obtain ⟨pu,hgf16⟩ : ∃ k,k=g 13:=⟨_,rfl⟩
 rw [← hgf16] at p5 hfo17
 replace p5:OE [] w.heap.size qs (sOwn 2 (sInt .i64)) [v15] (y13) pu:=⟨p5.1,p5.2,fun b hb=>.inr (Nat.le_trans hB.size (hfo17 b hb).1)⟩
 have j6:=dl (fun b hb=>(hfo17 b hb).1) (one_lt (Row.lt hr4))
 have d32:Dis pu pf:=fun b hb hm=>hdd 13 8 (by decide) (by decide) (by decide) b ((show ∀ b∈pu,b∈g 13 from (fun b hb=>(by rw [← hgf16]; exact hb))) b hb) ((show ∀ b∈pf,b∈g 8 from (fun b hb=>(by rw [← hgf11]; exact hb))) b hm)
 obtain ⟨pb,hgf21⟩ : ∃ k,k=g 18:=⟨_,rfl⟩
 rw [← hgf21] at p4 hfo22
 replace p4:OE [] w.heap.size qs (sOwn 2 (sInt .i64)) [v20] (y18) pb:=⟨p4.1,p4.2,fun b hb=>.inr (Nat.le_trans hB.size (hfo22 b hb).1)⟩
 have d33:=dl (fun b hb=>(hfo22 b hb).1) (one_lt (Row.lt hr4))
 have je:Dis pb pf:=fun b hb hm=>hdd 18 8 (by decide) (by decide) (by decide) b ((show ∀ b∈pb,b∈g 18 from (fun b hb=>(by rw [← hgf21]; exact hb))) b hb) ((show ∀ b∈pf,b∈g 8 from (fun b hb=>(by rw [← hgf11]; exact hb))) b hm)
 have d35:Dis pb pu:=fun b hb hm=>hdd 18 13 (by decide) (by decide) (by decide) b ((show ∀ b∈pb,b∈g 18 from (fun b hb=>(by rw [← hgf21]; exact hb))) b hb) ((show ∀ b∈pu,b∈g 13 from (fun b hb=>(by rw [← hgf16]; exact hb))) b hm)
 obtain ⟨qo,hgf26⟩ : ∃ k,k=g 23:=⟨_,rfl⟩
 rw [← hgf26] at pt hfo27
 replace pt:OE [] w.heap.size qs (sOwn 22 (sOwn 2 (sInt .i64))) [v25] (y23) qo:=⟨pt.1,pt.2,fun b hb=>.inr (Nat.le_trans hB.size (hfo27 b hb).1)⟩
 have q8:=dl (fun b hb=>(hfo27 b hb).1) (one_lt (Row.lt hr4))
 have d37:Dis qo pf:=fun b hb hm=>hdd 23 8 (by decide) (by decide) (by decide) b ((show ∀ b∈qo,b∈g 23 from (fun b hb=>(by rw [← hgf26]; exact hb))) b hb) ((show ∀ b∈pf,b∈g 8 from (fun b hb=>(by rw [← hgf11]; exact hb))) b hm)
 have d38:Dis qo pu:=fun b hb hm=>hdd 23 13 (by decide) (by decide) (by decide) b ((show ∀ b∈qo,b∈g 23 from (fun b hb=>(by rw [← hgf26]; exact hb))) b hb) ((show ∀ b∈pu,b∈g 13 from (fun b hb=>(by rw [← hgf16]; exact hb))) b hm)
 have qp:Dis qo pb:=fun b hb hm=>hdd 23 18 (by decide) (by decide) (by decide) b ((show ∀ b∈qo,b∈g 23 from (fun b hb=>(by rw [← hgf26]; exact hb))) b hb) ((show ∀ b∈pb,b∈g 18 from (fun b hb=>(by rw [← hgf21]; exact hb))) b hm)
 replace hr4:=kr hr4 qe
 replace hB:=(hB.trans qe)
 refine Wb (Bu (bld32_0_1_2_3_4 rfl (STy.one _ ps.1 _ (ms rfl)) (STy.one _ p5.1 _ (ms rfl)) (STy.one _ p4.1 _ (ms rfl)) (STy.one _ pt.1 _ (ms rfl)))) <| WL.storeAll (us:=[.int .i64 (x0.Objects),v10,v15,v20,v25]) info32 (by rw [sz32]; rfl) hr4 rfl rfl rfl (by intro u hu; simp only [List.mem_cons,List.mem_nil_iff,or_false] at hu; rcases hu with rfl | rfl | rfl | rfl | rfl <;> first | exact rfl | exact (STy.one _ ps.1 _ (ms rfl)) | exact (STy.one _ p5.1 _ (ms rfl)) | exact (STy.one _ p4.1 _ (ms rfl)) | exact (STy.one _ pt.1 _ (ms rfl))) fun g9 pv n5=>?_
 replace n5:Row g9 b1 [.int .i64 (x0.Objects),v10,v15,v20,v25] 32:=n5
 replace ps:=okp ps pv d30
 replace p5:=okp p5 pv j6
 replace p4:=okp p4 pv d33
 replace pt:=okp pt pv q8
 replace hB:=hB.then pv (one_then lo6)
 refine anz <| ?_
 cases ho
 exact W_ret ⟨_,res_c Tryz.results158 u32 rfl info32 (by rw [sz32]; rfl) rfl n5.at,_,_,_,_,_,_,_,_,rfl,hB,ps,p5,p4,pt,((d32).symm),((je).symm),((d37).symm),((d35).symm),((d38).symm),((qp).symm)⟩

abbrev impl_marked_post (w:World) (x:((List Int))) (e:Ending) (w':World):Prop:=∃ (v0:Value) (f0:List Nat),e = .returned (v0)∧Chg [] w w'∧OE [] w.heap.size w' (sOwn 2 (sInt .i64)) [v0] x f0
abbrev impl_marked_T (w:World):=Tm Tryz.prog Tryz.f248 21 (impl_marked_post w)
theorem impl_marked_calls {w:World} {x0:(List Bool)} {v_x0:Value} {f_x0:List Nat} (h_x0:(sImm sBool).rep w.heap [v_x0] x0 f_x0) {y:((List Int))} (hm:impl_marked x0=some y) :
  Calls Tryz.prog 248 #[v_x0] w (impl_marked_post w y):=by
 refine Cm (S:=Unit) Tryz.func248 rfl Tryz.ntmps248 rfl hm fun o ho hB=>?_
 clear hm
 refine wq <| Wq rfl (cr [] w) <| Qa (As rfl) <| fun wd1 hC2=>anz <| wq <| W_region rfl <| WL.lit0 (sInt .i64) u22z info2 fun v3 wd4 f5 hC6 o7=>?_
 replace o7:=OE.low (G:=[]) o7 (hB.trans hC2).size
 have hT8:=hC2.trans hC6
 replace hB:=(hB.trans hT8)
 refine Wb (Av v3 rfl) <| anz <| wq <| wq <| Wq rfl (cr [] wd4) <| Qa (Mv v_x0 rfl) <| Qa (Ln sl138 (kB h_x0 hB) rfl) <| Qa (Mi rfl) <| fun wd9 px=>anz <| Wf (S1:=(List Int)×Int) (fun s r w'=>match s with | (s0_3,s0_9)=>∃ (v11:Value) (qh:List Nat),Chg [] w w'∧OE [] w.heap.size w' (sOwn 2 (sInt .i64)) [v11] (s0_3) qh∧∃ F,r=updL F [(3,v11),(7,v_x0),(8,.int .i64 ((x0.length:Int))),(9,.int .i64 (s0_9))]) (impl_marked_T w) ho ⟨_,_,(hB.trans px),(ko o7 px),fe rfl⟩ ?_ ?_
 rintro ⟨s0_3,s0_9⟩ _ qu ⟨v11,qh,hB,p2,F,rfl⟩ o ho
 replace ho:impl_marked_L0 x0 s0_3 s0_9=some o:=ho
 unfold impl_marked_L0 at ho
 refine wq <| Wq rfl (cr [] qu) <| Qa (Bl rfl rfl) <| fun kd pj=>anz <| wq <| W_cond (b:=decide (s0_9 < (x0.length:Int))) rfl ?_ ?_
 intro qi
 rw [qi] at ho
 refine W_skip <| anz <| wq <| W_block <| wq <| Wq rfl pj <| Qa (Mi rfl) <| ?_
 obtain ⟨e18,hx19e,ho⟩:=bs ho
 have hx19:=idx_some hx19e
 refine Qa (Ix sl138 (kB h_x0 hB) hx19 rfl rfl rfl) <| Qa (Eb na4 (kB h_x0 hB) hx19 rfl) <| Qa (Ai rfl) <| Qa (Ab rfl) <| fun q4 pk=>anz <| wq <| Wq rfl pk <| Qa (Mb rfl) <| fun p04 qj=>anz <| W_cond (b:=e18) rfl ?_ ?_
 intro qk
 rw [qk] at ho
 refine W_region rfl <| Wb (Mv v11 rfl) <| Wb (Mi rfl) <| WL.lit1 u22z info2 zr2 sz2 rfl fun ke kf kg pn kh=>?_
 replace pn:Row kf ke [.int .i64 (s0_9)] 2:=pn
 have j6:=dl (onw kh) (sl _ (kp _ p2.1 qj))
 have j7:=qj.trans kg
 replace p2:=ko p2 j7
 replace hB:=(hB.trans j7)
 obtain ⟨n39,hn40,ho⟩:=bs ho
 have hn40a:=fits_some hn40
 refine WL.append1 (E:=(sInt .i64)) _ _ u22z info2 zr2 sz2 rfl rfl rfl p2 rfl pn ⟨rfl,rfl⟩ List.nodup_nil (fun _ h=>nomatch h) (fun _ h=>nomatch h) (by rw [by2]; exact hn40a.1) hn40a.2 hB.size fun v33 j8 f35 j9 ki hs38=>?_
 replace pn:=Row.keep pn j9 (j6 _ (ms rfl))
 replace hB:=hB.then j9 p2.2.2
 refine Wb (Av v33 rfl) <| inBlk_n <| anz <| Wq rfl (cr [] j8) <| Qa (Ba rfl rfl) <| Qa (Mi rfl) <| fun nw pd=>?_
 cases ho
 exact ⟨_,_,(hB.trans pd),(ko ki pd),fe rfl⟩
 intro qk
 rw [qk] at ho
 refine W_skip <| inBlk_n <| anz <| Wq rfl qj <| Qa (Ba rfl rfl) <| Qa (Mi rfl) <| fun k6 pi=>?_
 cases ho
 exact ⟨_,_,(hB.trans pi),(ko p2 pi),fe rfl⟩
 intro qi
 rw [qi] at ho
 refine W_exit <| andThen_x <| ?_
 cases ho
 exact ⟨rfl,⟨_,_,(hB.trans pj),(ko p2 pj),fe rfl⟩⟩
 rintro ⟨s0_3,s0_9⟩ _ jp ⟨v11,qh,hB,p2,F,rfl⟩ ho
 dsimp only at ho
 refine anz <| wq <| Wq rfl (cr [] jp) <| Qa (Mv v11 rfl) <| Qa (Av v11 rfl) <| fun kj ja=>anz <| ?_
 cases ho
 exact W_ret ⟨_,res_1 Tryz.results248,_,_,rfl,(hB.trans ja),(ko p2 ja)⟩

abbrev impl_Category_sieveOf_post (w:World) (x:((List Int))) (e:Ending) (w':World):Prop:=∃ (v0:Value) (f0:List Nat),e = .returned (v0)∧Chg [] w w'∧OE [] w.heap.size w' (sOwn 2 (sInt .i64)) [v0] x f0
abbrev impl_Category_sieveOf_T (w:World):=Tm Tryz.prog Tryz.f227 43 (impl_Category_sieveOf_post w)
theorem impl_Category_sieveOf_calls {w:World} {x0:MCategory} {p_x0:Addr} {z2:Value} {ze:List Nat} {z1:Value} {zf:List Nat} {z7:Value} {zg:List Nat} {z6:Value} {zh:List Nat} {x1:(List Int)} {v_x1:Value} {f_x1:List Nat} (z8:(sImm (sInt .i64)).rep w.heap [z2] x0.From ze) (za:(sImm (sInt .i64)).rep w.heap [z1] x0.To zf) (zc:(sImm (sInt .i64)).rep w.heap [z7] x0.Identity zg) (zb:(sImm (sImm (sInt .i64))).rep w.heap [z6] x0.Composites zh) (a_x0:At w p_x0 [.int .i64 (x0.Objects),z2,z1,z7,z6]) (h_x1:(sImm (sInt .i64)).rep w.heap [v_x1] x1 f_x1) {y:((List Int))} (hm:impl_Category_sieveOf x0 x1=some y) :
  Calls Tryz.prog 227 #[.pointer (some (p_x0)),v_x1] w (impl_Category_sieveOf_post w y):=by
 refine Cm (S:=Unit) Tryz.func227 rfl Tryz.ntmps227 rfl hm fun o ho hB=>?_
 clear hm
 refine wq <| Wq rfl (cr [] w) <| Qa (As rfl) <| fun wd1 hC2=>anz <| wq <| W_region rfl <| Wb (Mp rfl) <| ?_
 obtain ⟨y3,hy4,ho⟩:=bs ho
 refine WL.call rfl (op_callF Tryz.func105 rfl rfl) (impl_Category_arrows_calls (kp _ z8 (hB.trans hC2)) (kp _ za (hB.trans hC2)) (kp _ zc (hB.trans hC2)) (kp _ zb (hB.trans hC2)) (At.keep0 a_x0 (hB.trans hC2)) hy4) <| ?_
 rintro _ wd5 ⟨rfl,hC6⟩
 refine ⟨_,rfl,?_⟩
 obtain ⟨n7,hn8,ho⟩:=bs ho
 obtain ⟨hn8a,hn8b,hn8c⟩:=mk_some hn8
 refine WL.make (z0:=false) sBool u138 info4 zr4 sz4 rfl rfl (fun _=>⟨rfl,rfl⟩) (congrArg (Value.int .i64) hn8a) (congrArg (Value.int .i64) hn8a) (by rw [by4]; exact hn8b) hn8c fun v9 qd pf pe p2=>?_
 replace p2:=OE.low (G:=[]) p2 (hB.trans (hC2.trans hC6)).size
 have p11:=(hC2.trans hC6).trans pe
 replace hB:=(hB.trans p11)
 refine Wb (Av v9 rfl) <| anz <| wq <| wq <| Wq rfl (cr [] qd) <| Qa (Mv v_x1 rfl) <| Qa (Ln sl22 (kB h_x1 hB) rfl) <| Qa (Mi rfl) <| fun kd pj=>anz <| Wf (S1:=Int×(List Bool)) (fun s r w'=>match s with | (s0_15,s0_o13)=>Chg [] w w'∧OE [] w.heap.size w' (sOwn 4 sBool) [v9] (s0_o13) pf∧∃ F,r=updL F [(0,.pointer (some (p_x0))),(5,v9),(13,v_x1),(14,.int .i64 ((x1.length:Int))),(15,.int .i64 (s0_15))]) (impl_Category_sieveOf_T w) ho ⟨(hB.trans pj),(ko p2 pj),fe rfl⟩ ?_ ?_
 rintro ⟨s0_15,s0_o13⟩ _ jq ⟨hB,p2,F,rfl⟩ o ho
 replace ho:impl_Category_sieveOf_L0 x0 x1 s0_15 s0_o13=some o:=ho
 unfold impl_Category_sieveOf_L0 at ho
 refine wq <| Wq rfl (cr [] jq) <| Qa (Bl rfl rfl) <| fun j5 pq=>anz <| wq <| W_cond (b:=decide (s0_15 < (x1.length:Int))) rfl ?_ ?_
 intro n6
 rw [n6] at ho
 refine W_skip <| anz <| wq <| W_block <| wq <| Wq rfl pq <| ?_
 obtain ⟨e21,hx22e,ho⟩:=bs ho
 have hx22:=idx_some hx22e
 refine Qa (Ix sl22 (kB h_x1 hB) hx22 rfl rfl rfl) <| Qa (Ei na2 (kB h_x1 hB) hx22 rfl) <| Qa (Ai rfl) <| fun n8 pg=>anz <| wq <| W_region rfl <| Wb (Mp rfl) <| Wb (Mp rfl) <| Wb (Nk rfl) <| Wb (Fp fa32_2 rfl) <| Wa pg (La na22 (At.keep0 a_x0 hB) rfl rfl) <| Wb (Mi rfl) <| ?_
 obtain ⟨e25,hx26e,ho⟩:=bs ho
 have hx26:=idx_some hx26e
 refine Wa pg (Ix sl22 (kB za hB) hx26 rfl rfl rfl) <| Wa pg (Ei na2 (kB za hB) hx26 rfl) <| ?_
 obtain ⟨y27,n9,ho⟩:=bs ho
 refine WL.call rfl (op_callF Tryz.func148 rfl rfl) (impl_Category_outOf_calls (kp _ z8 (hB.trans pg)) (kp _ za (hB.trans pg)) (kp _ zc (hB.trans pg)) (kp _ zb (hB.trans pg)) (At.keep0 a_x0 (hB.trans pg)) n9) <| ?_
 rintro _ km ⟨v31,jf,rfl,p9,p0⟩
 refine ⟨_,rfl,?_⟩
 have je:=dl (ofr p0) (sl _ (kp _ p2.1 pg))
 replace p0:=OE.low (G:=[]) p0 (hB.trans pg).size
 have jg:=pg.trans p9
 replace p2:=ko p2 jg
 replace hB:=(hB.trans jg)
 refine Wb (Ln sl22 ((Le.own (Le.refl _) 2).le p0.1) rfl) <| Wb (Mi rfl) <| anz <| Wf (S1:=Int×(List Bool)) (fun s r w'=>match s with | (s1_29,s1_o13)=>Chg [] w w'∧OE [] w.heap.size w' (sOwn 4 sBool) [v9] (s1_o13) pf∧OE [] w.heap.size w' (sOwn 2 (sInt .i64)) [v31] (y27) jf∧Dis pf jf∧∃ F,r=updL F [(0,.pointer (some (p_x0))),(5,v9),(7,.int .i64 (e21)),(13,v_x1),(14,.int .i64 ((x1.length:Int))),(15,.int .i64 (s0_15)),(27,v31),(28,.int .i64 ((y27.length:Int))),(29,.int .i64 (s1_29))]) (impl_Category_sieveOf_T w) ho ⟨hB,p2,p0,((je).symm),fe rfl⟩ ?_ ?_
 rintro ⟨s1_29,s1_o13⟩ _ g1 ⟨hB,p2,p0,q8,F,rfl⟩ o ho
 replace ho:impl_Category_sieveOf_L1 x0 e21 y27 s1_29 s1_o13=some o:=ho
 unfold impl_Category_sieveOf_L1 at ho
 refine wq <| Wq rfl (cr [] g1) <| Qa (Bl rfl rfl) <| fun k3 qw=>anz <| wq <| W_cond (b:=decide (s1_29 < (y27.length:Int))) rfl ?_ ?_
 intro na
 rw [na] at ho
 refine W_skip <| anz <| wq <| W_block <| wq <| Wq rfl qw <| ?_
 obtain ⟨e41,hx42e,ho⟩:=bs ho
 have hx42:=idx_some hx42e
 refine Qa (Ix sl22 ((Le.own (Le.refl _) 2).le p0.1) hx42 rfl rfl rfl) <| Qa (Ei na2 ((Le.own (Le.refl _) 2).le p0.1) hx42 rfl) <| Qa (Ai rfl) <| fun nw pd=>anz <| W_region rfl <| Wb (Mv v9 rfl) <| Wb (Mp rfl) <| Wb (Mi rfl) <| Wb (Mi rfl) <| ?_
 obtain ⟨y45,p12,ho⟩:=bs ho
 refine WL.call rfl (op_callF Tryz.func150 rfl rfl) (impl_Category_then_calls (kp _ z8 (hB.trans pd)) (kp _ za (hB.trans pd)) (kp _ zc (hB.trans pd)) (kp _ zb (hB.trans pd)) (At.keep0 a_x0 (hB.trans pd)) p12) <| ?_
 rintro _ jp ⟨rfl,nb⟩
 refine ⟨_,rfl,?_⟩
 obtain ⟨e49,hx50e,ho⟩:=bs ho
 have hx50:=idx_some hx50e
 refine Wa (pd.trans nb) (Ix sl138 ((Le.own (Le.refl _) 4).le p2.1) hx50 rfl rfl rfl) <| WL.storeEl (z':=true) _ _ sBool_nofp rfl info4 sz4 (ko p2 (pd.trans nb)) hx50.2 rfl rfl ⟨rfl,rfl⟩ fun p13 p14 o53=>?_
 have ga:=((pd.trans nb).nil (G:=pf)).trans p14
 replace p0:=okp p0 ga (q8).symm
 replace hB:=hB.then ga p2.2.2
 refine inBlk_n <| anz <| Wq rfl (cr [] p13) <| Qa (Ba rfl rfl) <| Qa (Mi rfl) <| fun gp j2=>?_
 cases ho
 exact ⟨(hB.trans j2),(ko o53 j2),(ko p0 j2),q8,fe rfl⟩
 intro na
 rw [na] at ho
 refine W_exit <| andThen_x <| ?_
 cases ho
 exact ⟨rfl,⟨(hB.trans qw),(ko p2 qw),(ko p0 qw),q8,fe rfl⟩⟩
 rintro ⟨s1_29,s1_o13⟩ _ jm ⟨hB,p2,p0,q8,F,rfl⟩ ho
 dsimp only at ho
 refine inBlk_n <| anz <| Wq rfl (cr [] jm) <| Qa (Ba rfl rfl) <| Qa (Mi rfl) <| fun nt q1=>?_
 cases ho
 exact ⟨(hB.trans q1),(ko p2 q1),fe rfl⟩
 intro n6
 rw [n6] at ho
 refine W_exit <| andThen_x <| ?_
 cases ho
 exact ⟨rfl,⟨(hB.trans pq),(ko p2 pq),fe rfl⟩⟩
 rintro ⟨s0_15,s0_o13⟩ _ g8 ⟨hB,p2,F,rfl⟩ ho
 dsimp only at ho
 refine anz <| wq <| W_region rfl <| Wb (Mv v9 rfl) <| ?_
 obtain ⟨y61,p16,ho⟩:=bs ho
 refine WL.call rfl (op_callF Tryz.func248 rfl rfl) (impl_marked_calls ((Le.own (Le.refl _) 4).le p2.1) p16) <| ?_
 rintro _ jr ⟨v65,f66,rfl,gb,nc⟩
 refine ⟨_,rfl,?_⟩
 replace nc:=OE.low (G:=[]) nc hB.size
 replace p2:=ko p2 gb
 replace hB:=(hB.trans gb)
 refine Wb (Av v65 rfl) <| anz <| ?_
 cases ho
 exact W_ret ⟨_,res_1 Tryz.results227,_,_,rfl,hB,nc⟩

abbrev impl_same_post (w:World) (x:(Bool)) (e:Ending) (w':World):Prop:=e = .returned (.bool x)∧Chg [] w w'
abbrev impl_same_T (w:World):=Tm Tryz.prog Tryz.f154 9 (impl_same_post w)
theorem impl_same_calls {w:World} {x0:(List Int)} {v_x0:Value} {f_x0:List Nat} {x1:(List Int)} {v_x1:Value} {f_x1:List Nat} (h_x0:(sImm (sInt .i64)).rep w.heap [v_x0] x0 f_x0) (h_x1:(sImm (sInt .i64)).rep w.heap [v_x1] x1 f_x1) {y:(Bool)} (hm:impl_same x0 x1=some y) :
  Calls Tryz.prog 154 #[v_x0,v_x1] w (impl_same_post w y):=by
 refine Cm (S:=Unit) Tryz.func154 rfl Tryz.ntmps154 rfl hm fun o ho hB=>?_
 clear hm
 refine wq <| Wq rfl (cr [] w) <| Qa (Ab rfl) <| fun wd1 hC2=>anz <| wq <| Wq rfl hC2 <| Qa (Mv v_x0 rfl) <| Qa (Mv v_x1 rfl) <| ?_
 obtain ⟨y3,hy4,ho⟩:=bs ho
 refine Qc Tryz.func145 rfl rfl (fun _ hC=>impl_compare_calls (kp _ h_x0 (hB.trans hC)) (kp _ h_x1 (hB.trans hC)) hy4) <| Qa (Be rfl rfl) <| Qa (Ab rfl) <| fun wd5 hC6=>anz <| ?_
 cases ho
 exact W_ret ⟨_,res_1 Tryz.results154,rfl,(hB.trans hC6)⟩

abbrev impl_Category_sieves_1_post (w:World) (x:(Bool)) (e:Ending) (w':World):Prop:=e = .returned (.bool x)∧Chg [] w w'
abbrev impl_Category_sieves_1_T (w:World):=Tm Tryz.prog Tryz.f229 7 (impl_Category_sieves_1_post w)
theorem impl_Category_sieves_1_calls {w:World} {x0:(List Int)} {v_x0:Value} {f_x0:List Nat} {x1:(List Int)} {p_x1:Addr} {v_x1:Value} {f_x1:List Nat} (h_x0:(sImm (sInt .i64)).rep w.heap [v_x0] x0 f_x0) (h_x1:(sImm (sInt .i64)).rep w.heap [v_x1] x1 f_x1) (a_x1:At w p_x1 [v_x1]) {y:(Bool)} (hm:impl_Category_sieves_1 x0 x1=some y) :
  Calls Tryz.prog 229 #[v_x0,.pointer (some (p_x1))] w (impl_Category_sieves_1_post w y):=by
 refine Cm (S:=Unit) Tryz.func229 rfl Tryz.ntmps229 rfl hm fun o ho hB=>?_
 clear hm
 refine wq <| Wq rfl (cr [] w) <| Qa (Ab rfl) <| fun wd1 hC2=>anz <| wq <| Wq rfl hC2 <| Qa (Lb na114 (At.keep0 a_x1 hB) rfl rfl) <| Qa (Mv v_x0 rfl) <| ?_
 obtain ⟨y3,hy4,ho⟩:=bs ho
 refine Qc Tryz.func154 rfl rfl (fun _ hC=>impl_same_calls (kp _ h_x1 (hB.trans hC)) (kp _ h_x0 (hB.trans hC)) hy4) <| Qa (Ab rfl) <| fun wd5 hC6=>anz <| ?_
 cases ho
 exact W_ret ⟨_,res_1 Tryz.results229,rfl,(hB.trans hC6)⟩

abbrev slices_IndexFunc___impl_sieve_impl_sieve__post (w:World) (x:(Int)) (e:Ending) (w':World):Prop:=e = .returned (.int .i64 x)∧Chg [] w w'
abbrev slices_IndexFunc___impl_sieve_impl_sieve__T (w:World):=Tm Tryz.prog Tryz.f175 19 (slices_IndexFunc___impl_sieve_impl_sieve__post w)
theorem slices_IndexFunc___impl_sieve_impl_sieve__calls {w:World} {x0:(List (List Int))} {v_x0:Value} {f_x0:List Nat} {g_x1:FuncId} {c_x1:List Value} {x1:((List Int)→Option (Bool))} (h_x0:(sImm (sImm (sInt .i64))).rep w.heap [v_x0] x0 f_x0) (h_x1:FnOk Tryz.prog g_x1∧∀ {W:World} (hW:Chg [] w W) {a0:(List Int)} {v0:Value} {f0:List Nat} (h0:(sImm (sInt .i64)).rep W.heap [v0] a0 f0) {y:Bool} (hm:x1 a0=some y),Calls Tryz.prog g_x1 (([v0]:List Value)++c_x1).toArray W (fun e W'=>e = .returned (.bool y)∧Chg [] W W')) {y:(Int)} (hm:slices_IndexFunc___impl_sieve_impl_sieve_ x0 x1=some y) :
  Calls Tryz.prog 175 #[v_x0,.func (.func g_x1) #[] c_x1.toArray] w (slices_IndexFunc___impl_sieve_impl_sieve__post w y):=by
 refine Cm (S:=Unit) Tryz.func175 rfl Tryz.ntmps175 rfl hm fun o ho hB=>?_
 clear hm
 refine wq <| Wq rfl (cr [] w) <| Qa (Ai rfl) <| fun wd1 hC2=>anz <| wq <| wq <| Wq rfl hC2 <| Qa (Mv v_x0 rfl) <| Qa (Ln sl118 (kB h_x0 hB) rfl) <| Qa (Mi rfl) <| fun wd3 hC4=>anz <| Wf (S1:=Int) (fun (s0_8:Int) r w'=>Chg [] w w'∧∃ F,r=updL F [(0,v_x0),(1,.func (.func g_x1) #[] c_x1.toArray),(7,.int .i64 ((x0.length:Int))),(8,.int .i64 (s0_8))]) (slices_IndexFunc___impl_sieve_impl_sieve__T w) ho ⟨(hB.trans hC4),fe rfl⟩ ?_ ?_
 rintro s0_8 _ wd5 ⟨hB,F,rfl⟩ o ho
 replace ho:slices_IndexFunc___impl_sieve_impl_sieve__L0 x0 x1 s0_8=some o:=ho
 unfold slices_IndexFunc___impl_sieve_impl_sieve__L0 at ho
 refine wq <| Wq rfl (cr [] wd5) <| Qa (Bl rfl rfl) <| fun wd6 hC7=>anz <| wq <| W_cond (b:=decide (s0_8 < (x0.length:Int))) rfl ?_ ?_
 intro hb8
 rw [hb8] at ho
 refine W_skip <| anz <| wq <| W_block <| wq <| Wq rfl hC7 <| Qa (Mi rfl) <| Qa (Ai rfl) <| fun wd9 px=>anz <| wq <| Wq rfl px <| Qa (Mv (.func (.func g_x1) #[] c_x1.toArray) rfl) <| Qa (Mv v_x0 rfl) <| Qa (Mi rfl) <| ?_
 obtain ⟨e11,hx12e,ho⟩:=bs ho
 have hx12:=idx_some hx12e
 refine Qa (Ix sl118 (kB h_x0 hB) hx12 rfl rfl rfl) <| ?_
 obtain ⟨u13,fu14,hu15,p17,hs17⟩:=one_get rfl h_x0 hx12.1 hx12.2
 refine Qa (Ld na114 (hB.cell0 hu15) rfl) <| ?_
 obtain ⟨y18,n4,ho⟩:=bs ho
 refine QL.call (v:=.bool (y18)) rfl (fun _ _=>op_callP rfl h_x1.1) (fun _ hC=>(h_x1.2 (hB.trans hC) (kp _ p17 (hB.trans hC)) n4).mono fun _ _ h=>⟨h.1,hC.trans h.2⟩) <| fun q4 pk=>anz <| W_cond (b:=y18) rfl ?_ ?_
 intro po
 rw [po] at ho
 refine wq <| Wq rfl pk <| Qa (Mi rfl) <| Qa (Ai rfl) <| fun n8 pg=>anz <| ?_
 cases ho
 exact W_ret ⟨_,res_1 Tryz.results175,rfl,(hB.trans pg)⟩
 intro po
 rw [po] at ho
 refine W_skip <| inBlk_n <| anz <| Wq rfl pk <| Qa (Ba rfl rfl) <| Qa (Mi rfl) <| fun ny q5=>?_
 cases ho
 exact ⟨(hB.trans q5),fe rfl⟩
 intro hb8
 rw [hb8] at ho
 refine W_exit <| andThen_x <| ?_
 cases ho
 exact ⟨rfl,⟨(hB.trans hC7),fe rfl⟩⟩
 rintro s0_8 _ ku ⟨hB,F,rfl⟩ ho
 refine anz <| wq <| Wq rfl (cr [] ku) <| Qa (Ai rfl) <| fun qs qe=>anz <| ?_
 cases ho
 exact W_ret ⟨_,res_1 Tryz.results175,rfl,(hB.trans qe)⟩

abbrev slices_ContainsFunc___impl_sieve_impl_sieve__post (w:World) (x:(Bool)) (e:Ending) (w':World):Prop:=e = .returned (.bool x)∧Chg [] w w'
abbrev slices_ContainsFunc___impl_sieve_impl_sieve__T (w:World):=Tm Tryz.prog Tryz.f228 9 (slices_ContainsFunc___impl_sieve_impl_sieve__post w)
theorem slices_ContainsFunc___impl_sieve_impl_sieve__calls {w:World} {x0:(List (List Int))} {v_x0:Value} {f_x0:List Nat} {g_x1:FuncId} {c_x1:List Value} {x1:((List Int)→Option (Bool))} (h_x0:(sImm (sImm (sInt .i64))).rep w.heap [v_x0] x0 f_x0) (h_x1:FnOk Tryz.prog g_x1∧∀ {W:World} (hW:Chg [] w W) {a0:(List Int)} {v0:Value} {f0:List Nat} (h0:(sImm (sInt .i64)).rep W.heap [v0] a0 f0) {y:Bool} (hm:x1 a0=some y),Calls Tryz.prog g_x1 (([v0]:List Value)++c_x1).toArray W (fun e W'=>e = .returned (.bool y)∧Chg [] W W')) {y:(Bool)} (hm:slices_ContainsFunc___impl_sieve_impl_sieve_ x0 x1=some y) :
  Calls Tryz.prog 228 #[v_x0,.func (.func g_x1) #[] c_x1.toArray] w (slices_ContainsFunc___impl_sieve_impl_sieve__post w y):=by
 refine Cm (S:=Unit) Tryz.func228 rfl Tryz.ntmps228 rfl hm fun o ho hB=>?_
 clear hm
 refine wq <| Wq rfl (cr [] w) <| Qa (Ab rfl) <| fun wd1 hC2=>anz <| wq <| Wq rfl hC2 <| Qa (Mv v_x0 rfl) <| Qa (Mv (.func (.func g_x1) #[] c_x1.toArray) rfl) <| ?_
 obtain ⟨y3,hy4,ho⟩:=bs ho
 refine Qc Tryz.func175 rfl rfl (fun _ hC=>slices_IndexFunc___impl_sieve_impl_sieve__calls (kp _ h_x0 (hB.trans hC)) ⟨h_x1.1,fun hW=>h_x1.2 ((hB.trans hC).trans hW)⟩ hy4) <| Qa (Bh rfl rfl) <| Qa (Ab rfl) <| fun wd5 hC6=>anz <| ?_
 cases ho
 exact W_ret ⟨_,res_1 Tryz.results228,rfl,(hB.trans hC6)⟩

abbrev impl_Category_sieves_2_post (w:World) (x:(Int)) (e:Ending) (w':World):Prop:=e = .returned (.int .i64 x)∧Chg [] w w'
abbrev impl_Category_sieves_2_T (w:World):=Tm Tryz.prog Tryz.f231 8 (impl_Category_sieves_2_post w)
theorem impl_Category_sieves_2_calls {w:World} {x0:(List Int)} {v_x0:Value} {f_x0:List Nat} {x1:(List Int)} {v_x1:Value} {f_x1:List Nat} (h_x0:(sImm (sInt .i64)).rep w.heap [v_x0] x0 f_x0) (h_x1:(sImm (sInt .i64)).rep w.heap [v_x1] x1 f_x1) {y:(Int)} (hm:impl_Category_sieves_2 x0 x1=some y) :
  Calls Tryz.prog 231 #[v_x0,v_x1] w (impl_Category_sieves_2_post w y):=by
 refine Cm (S:=Unit) Tryz.func231 rfl Tryz.ntmps231 rfl hm fun o ho hB=>?_
 clear hm
 refine wq <| Wq rfl (cr [] w) <| Qa (Ai rfl) <| fun wd1 hC2=>anz <| wq <| Wq rfl hC2 <| Qa (Mv v_x0 rfl) <| Qa (Mv v_x1 rfl) <| ?_
 obtain ⟨y3,hy4,ho⟩:=bs ho
 refine Qc Tryz.func145 rfl rfl (fun _ hC=>impl_compare_calls (kp _ h_x0 (hB.trans hC)) (kp _ h_x1 (hB.trans hC)) hy4) <| Qa (Ai rfl) <| fun wd5 hC6=>anz <| ?_
 cases ho
 exact W_ret ⟨_,res_1 Tryz.results231,rfl,(hB.trans hC6)⟩

theorem sortM_impl_Category_sieves_2_calls {w:World} {x0:List (List Int)} {v_x0:Value} {f_x0:List Nat} (o_x0:OE f_x0 w.heap.size w (sOwn 114 (sOwn 2 (sInt .i64))) [v_x0] x0 f_x0) {y:List (List Int)} (hm:sortM_impl_Category_sieves_2 x0=some y) :
    Calls Tryz.prog 230 #[v_x0,.func (.func 231) #[] #[]] w (fun e w'=>∃ f0,e = .returned (.tuple #[])∧Chg f_x0 w w'∧OE f_x0 w.heap.size w' (sOwn 114 (sOwn 2 (sInt .i64))) [v_x0] y f0):=by
  unfold sortM_impl_Category_sieves_2 at hm
  split at hm
  · rename_i h
    cases hm
    have hcon:=sort_rows Tryz.sort230 (g:=231) (e1:=114) (T:=(sOwn 2 (sInt .i64))) rfl (fun args w=>enters_of Tryz.func231 (by kernel_rfl) rfl args w) (xs:=x0)
      (fun {W} {x} {y} {vx} {vy} {fx} {fy} hx hy mx my=>impl_Category_sieves_2_calls ((Le.own (Le.refl _) 2).le hx) ((Le.own (Le.refl _) 2).le hy) (h.2.2 x mx y my)) h.1 h.2.1 o_x0
    change Calls Tryz.prog 230 _ _ _ at hcon
    exact hcon
  · cases hm

abbrev impl_Category_sieves_post (w:World) (x:((List (List Int))×Bool)) (e:Ending) (w':World):Prop:=∃ (v0:Value) (f0:List Nat),e = .returned (.tuple #[v0,.bool x.2])∧Chg [] w w'∧OE [] w.heap.size w' (sOwn 114 (sOwn 2 (sInt .i64))) [v0] x.1 f0
abbrev impl_Category_sieves_T (w:World):=Tm Tryz.prog Tryz.f213 51 (impl_Category_sieves_post w)
theorem impl_Category_sieves_calls {w:World} {x0:MCategory} {p_x0:Addr} {z2:Value} {ze:List Nat} {z1:Value} {zf:List Nat} {z7:Value} {zg:List Nat} {z6:Value} {zh:List Nat} {x1:Int} (z8:(sImm (sInt .i64)).rep w.heap [z2] x0.From ze) (za:(sImm (sInt .i64)).rep w.heap [z1] x0.To zf) (zc:(sImm (sInt .i64)).rep w.heap [z7] x0.Identity zg) (zb:(sImm (sImm (sInt .i64))).rep w.heap [z6] x0.Composites zh) (a_x0:At w p_x0 [.int .i64 (x0.Objects),z2,z1,z7,z6]) {y:((List (List Int))×Bool)} (hm:impl_Category_sieves x0 x1=some y) :
  Calls Tryz.prog 213 #[.pointer (some (p_x0)),.int .i64 (x1)] w (impl_Category_sieves_post w y):=by
 refine Cm (S:=Unit) Tryz.func213 rfl Tryz.ntmps213 rfl hm fun o ho hB=>?_
 clear hm
 refine wq <| Wq rfl (cr [] w) <| Qa (As rfl) <| Qa (Ab rfl) <| fun wd1 hC2=>anz <| wq <| W_region rfl <| WL.lit0 (sInt .i64) u114z info2 fun v3 wd4 f5 hC6 o7=>?_
 replace o7:=OE.low (G:=[]) o7 (hB.trans hC2).size
 have hT8:=hC2.trans hC6
 replace hB:=(hB.trans hT8)
 refine WL.lit1 Tryz.underlying118 info114 zr114 sz114 (STy.one _ o7.1 _ (ms rfl)) fun b9 qd qz nd gc=>?_
 replace nd:Row qd b9 [v3] 114:=nd
 have p18:w.heap.size≤b9:=Nat.le_trans hB.size gc
 have d15:=dl (onw gc) (sl _ o7.1)
 replace o7:=ko o7 qz
 replace hB:=(hB.trans qz)
 have p5:OE [] w.heap.size qd (sOwn 114 (sOwn 2 (sInt .i64))) [.slice (some ⟨b9,0,none⟩) 1 1] [([]:(List Int))] (b9 :: f5):=own_row1 rfl nd o7.1 o7.2.1 (fun h=>d15 _ (ms rfl) h) p18 o7.2.2
 refine Wb (As rfl) <| anz <| wq <| wq <| Wq rfl (cr [] qd) <| Qa (Ai rfl) <| fun j5 pq=>anz <| Wf (S1:=(List (List Int))×Int) (fun s r w'=>match s with | (s0_6,s0_7)=>∃ (v20:Value) (pb:List Nat),Chg [] w w'∧OE [] w.heap.size w' (sOwn 114 (sOwn 2 (sInt .i64))) [v20] (s0_6) pb∧∃ F,r=updL F [(0,.pointer (some (p_x0))),(1,.int .i64 (x1)),(6,v20),(7,.int .i64 (s0_7))]) (impl_Category_sieves_T w) ho ⟨_,_,(hB.trans pq),(ko p5 pq),fe rfl⟩ ?_ ?_
 rintro ⟨s0_6,s0_7⟩ _ n8 ⟨v20,pb,hB,p4,F,rfl⟩ o ho
 replace ho:impl_Category_sieves_L0 x0 x1 s0_6 s0_7=some o:=ho
 unfold impl_Category_sieves_L0 at ho
 refine wq <| wq <| Wq rfl (cr [] n8) <| Qa (Mi rfl) <| Qa (Mv v20 rfl) <| Qa (Ln sl118 ((Le.own (Le.own (Le.refl _) 2) 114).le p4.1) rfl) <| Qa (Bl rfl rfl) <| fun gd pw=>anz <| W_cond (b:=decide (s0_7 < (s0_6.length:Int))) rfl ?_ ?_
 intro ne
 rw [ne] at ho
 refine W_skip <| anz <| wq <| W_block <| wq <| W_region rfl <| Wb (Mp rfl) <| Wb (Mi rfl) <| ?_
 obtain ⟨y27,n9,ho⟩:=bs ho
 refine WL.call rfl (op_callF Tryz.func148 rfl rfl) (impl_Category_outOf_calls (kp _ z8 (hB.trans pw)) (kp _ za (hB.trans pw)) (kp _ zc (hB.trans pw)) (kp _ zb (hB.trans pw)) (At.keep0 a_x0 (hB.trans pw)) n9) <| ?_
 rintro _ km ⟨v31,jf,rfl,p9,p0⟩
 refine ⟨_,rfl,?_⟩
 have je:=dl (ofr p0) (sl _ (kp _ p4.1 pw))
 replace p0:=OE.low (G:=[]) p0 (hB.trans pw).size
 have jg:=pw.trans p9
 replace p4:=ko p4 jg
 replace hB:=(hB.trans jg)
 refine Wb (Ln sl22 ((Le.own (Le.refl _) 2).le p0.1) rfl) <| Wb (Mi rfl) <| anz <| Wf (S1:=(List (List Int))×Int) (fun s r w'=>match s with | (s1_6,s1_23)=>∃ (v36:Value) (jv:List Nat),Chg [] w w'∧OE [] w.heap.size w' (sOwn 2 (sInt .i64)) [v31] (y27) jf∧OE [] w.heap.size w' (sOwn 114 (sOwn 2 (sInt .i64))) [v36] (s1_6) jv∧Dis jf jv∧∃ F,r=updL F [(0,.pointer (some (p_x0))),(1,.int .i64 (x1)),(6,v36),(7,.int .i64 (s0_7)),(21,v31),(22,.int .i64 ((y27.length:Int))),(23,.int .i64 (s1_23))]) (impl_Category_sieves_T w) ho ⟨_,_,hB,p0,p4,(je),fe rfl⟩ ?_ ?_
 rintro ⟨s1_6,s1_23⟩ _ ju ⟨v36,jv,hB,p0,p6,qp,F,rfl⟩ o ho
 replace ho:impl_Category_sieves_L1 x0 s0_7 y27 s1_6 s1_23=some o:=ho
 unfold impl_Category_sieves_L1 at ho
 refine wq <| Wq rfl (cr [] ju) <| Qa (Bl rfl rfl) <| fun g9 pv=>anz <| wq <| W_cond (b:=decide (s1_23 < (y27.length:Int))) rfl ?_ ?_
 intro nf
 rw [nf] at ho
 refine W_skip <| anz <| wq <| W_block <| wq <| Wq rfl pv <| ?_
 obtain ⟨e44,hx45e,ho⟩:=bs ho
 have hx45:=idx_some hx45e
 refine Qa (Ix sl22 ((Le.own (Le.refl _) 2).le p0.1) hx45 rfl rfl rfl) <| Qa (Ei na2 ((Le.own (Le.refl _) 2).le p0.1) hx45 rfl) <| Qa (Ai rfl) <| fun p2u qq=>anz <| wq <| W_region rfl <| Wb (Mp rfl) <| Wb (Mv v36 rfl) <| Wb (Mi rfl) <| ?_
 obtain ⟨e48,hx49e,ho⟩:=bs ho
 have hx49:=idx_some hx49e
 refine Wa qq (Ix sl118 ((Le.own (Le.own (Le.refl _) 2) 114).le p6.1) hx49 rfl rfl rfl) <| ?_
 obtain ⟨u50,fu51,hu52,ph,hs54⟩:=one_get rfl ((Le.own (Le.own (Le.refl _) 2) 114).le p6.1) hx49.1 hx49.2
 refine Wa qq (Ld na114 hu52 rfl) <| ?_
 obtain ⟨y55,p1a,ho⟩:=bs ho
 refine WL.call rfl (op_callF Tryz.func159 rfl rfl) (impl_clone_calls (kp _ ph qq) p1a) <| ?_
 rintro _ jm ⟨v59,f60,rfl,p1b,pz⟩
 refine ⟨_,rfl,?_⟩
 have d62:=dl (ofr pz) (sl _ (kp _ p0.1 qq))
 have ng:=dl (ofr pz) (sl _ (kp _ p6.1 qq))
 replace pz:=OE.low (G:=[]) pz (hB.trans qq).size
 have jh:=qq.trans p1b
 replace hu52:=jh.cell0 hu52
 replace ph:=kp _ ph jh
 replace p0:=ko p0 jh
 replace p6:=ko p6 jh
 replace hB:=(hB.trans jh)
 refine Wb (Mi rfl) <| WL.lit1 u22z info2 zr2 sz2 rfl fun b65 js q7 pm p1e=>?_
 replace pm:Row js b65 [.int .i64 (e44)] 2:=pm
 have d73:=dl (onw p1e) (sl _ pz.1)
 replace hu52:=q7.cell0 hu52
 replace ph:=kp _ ph q7
 replace p0:=ko p0 q7
 replace p6:=ko p6 q7
 replace pz:=ko pz q7
 replace hB:=(hB.trans q7)
 obtain ⟨n81,hn82,ho⟩:=bs ho
 have hn82a:=fits_some hn82
 refine WL.append1 (E:=(sInt .i64)) _ _ u22z info2 zr2 sz2 rfl rfl rfl pz rfl pm ⟨rfl,rfl⟩ List.nodup_nil (fun _ h=>nomatch h) (fun _ h=>nomatch h) (by rw [by2]; exact hn82a.1) hn82a.2 hB.size fun v75 p2w f77 q2 q9 hs80=>?_
 replace hu52:=q2.cell (fun hm=>(ng).symm _ (own_blk p6 hx49.2) hm) hu52
 replace ph:=STy.keep _ ph q2 (fun b hb=>(ng).symm b (hs54 b hb))
 replace p0:=okp p0 q2 (d62).symm
 replace p6:=okp p6 q2 (ng).symm
 replace pm:=Row.keep pm q2 (d73 _ (ms rfl))
 replace hB:=hB.then q2 pz.2.2
 obtain ⟨y87,p1g,ho⟩:=bs ho
 refine WL.call rfl (op_callF Tryz.func227 rfl rfl) (impl_Category_sieveOf_calls (kp _ z8 hB) (kp _ za hB) (kp _ zc hB) (kp _ zb hB) (At.keep0 a_x0 hB) ((Le.own (Le.refl _) 2).le q9.1) p1g) <| ?_
 rintro _ p2y ⟨v91,f92,rfl,qr,pa⟩
 refine ⟨_,rfl,?_⟩
 have d94:=dl (ofr pa) (sl _ p0.1)
 have d95:=dl (ofr pa) (sl _ p6.1)
 replace pa:=OE.low (G:=[]) pa hB.size
 replace hu52:=qr.cell0 hu52
 replace ph:=kp _ ph qr
 replace p0:=ko p0 qr
 replace p6:=ko p6 qr
 replace pm:=kr pm qr
 replace q9:=ko q9 qr
 replace hB:=(hB.trans qr)
 refine WL.alloc info114 zr114 fun jw p1j qa nh qy=>?_
 replace nh:Row p1j jw [.slice none 0 0] 114:=nh
 have p1k:w.heap.size≤jw:=Nat.le_trans hB.size qy
 have p1l:=dl (onw qy) (sl _ p0.1)
 have jx:=dl (onw qy) (sl _ p6.1)
 have p1m:=dl (onw qy) (one_lt (Row.lt pm))
 have p1n:=dl (onw qy) (sl _ q9.1)
 have p1o:=dl (onw qy) (sl _ pa.1)
 replace hu52:=qa.cell0 hu52
 replace ph:=kp _ ph qa
 replace p0:=ko p0 qa
 replace p6:=ko p6 qa
 replace pm:=kr pm qa
 replace q9:=ko q9 qa
 replace pa:=ko pa qa
 replace hB:=(hB.trans qa)
 refine WL.storeRow (j:=0) info114 sz114 nh (Nat.le_of_ble_eq_true rfl) rfl rfl (STy.one _ pa.1 _ (ms rfl)) fun ge qb qc=>?_
 replace qc:Row ge jw [v91] 114:=qc
 replace hu52:=qb.cell (fun hm=>(jx).symm _ (own_blk p6 hx49.2) hm) hu52
 replace ph:=STy.keep _ ph qb (fun b hb=>(jx).symm b (hs54 b hb))
 replace p0:=okp p0 qb (p1l).symm
 replace p6:=okp p6 qb (jx).symm
 replace pm:=Row.keep pm qb ((p1m).symm _ (ms rfl))
 replace q9:=okp q9 qb (p1n).symm
 replace pa:=okp pa qb (p1o).symm
 replace hB:=hB.then qb (one_then p1k)
 refine anz <| wq <| wq <| Wq rfl (cr [] ge) <| Qa (Mv v36 rfl) <| qv (v:=.func (.func 229) #[] #[.pointer (some (⟨jw,0,none⟩))]) rfl (fun _ _=>op_makeFunc (fst:=[]) (cap:=[.tmp 10])) <| ?_
 obtain ⟨y115,p1p,ho⟩:=bs ho
 refine Qc Tryz.func228 rfl rfl (fun _ hC=>slices_ContainsFunc___impl_sieve_impl_sieve__calls ((Le.own (Le.own (Le.refl _) 2) 114).le (kp _ p6.1 hC)) ⟨⟨_,_,Tryz.func229,rfl,rfl⟩,fun {W} hW {a0} {v0} {f0} h0 {y} hm=>impl_Category_sieves_1_calls h0 ((Le.own (Le.refl _) 2).le (kp _ pa.1 (hC.trans hW))) (kr qc (hC.trans hW)).at hm⟩ p1p) <| fun p30 gf=>anz <| W_cond (b:=y115) rfl ?_ ?_
 intro ni
 rw [ni] at ho
 refine W_exit <| andThen_x <| inBlk_x <| anz <| Wq rfl gf <| Qa (Ba rfl rfl) <| Qa (Mi rfl) <| fun p31 nj=>?_
 cases ho
 exact ⟨_,_,(hB.trans nj),(ko p0 nj),(ko p6 nj),qp,fe rfl⟩
 intro ni
 rw [ni] at ho
 refine W_skip <| anz <| wq <| wq <| Wq rfl gf <| Qa (Mv v36 rfl) <| Qa (Ln sl118 ((Le.own (Le.own (Le.refl _) 2) 114).le p6.1) rfl) <| Qa (Be rfl rfl) <| fun p32 jy=>anz <| W_cond (b:=((s1_6.length:Int)) == ((16:Int))) rfl ?_ ?_
 intro nk
 rw [nk] at ho
 refine wq <| Wq rfl jy <| Qa (As rfl) <| Qa (Ab rfl) <| fun p33 p1q=>anz <| ?_
 cases ho
 exact W_ret ⟨_,res_2 Tryz.results213,_,_,rfl,(hB.trans p1q),nil_OE⟩
 intro nk
 rw [nk] at ho
 refine W_skip <| anz <| W_region rfl <| Wb (Mv v36 rfl) <| Wa jy (Lr na114 qc rfl rfl) <| WL.lit1 Tryz.underlying118 info114 zr114 sz114 (STy.one _ pa.1 _ (ms rfl)) fun p1r p1s p1t ji p1u=>?_
 replace ji:Row p1s p1r [v91] 114:=ji
 have p1v:=dl (onw p1u) (sl _ (kp _ p6.1 jy))
 have jj:=jy.trans p1t
 replace p0:=ko p0 jj
 replace p6:=ko p6 jj
 replace pa:=ko pa jj
 replace qc:=kr qc jj
 replace hB:=(hB.trans jj)
 obtain ⟨n144,hn145,ho⟩:=bs ho
 have hn145a:=fits_some hn145
 refine WL.append1 (E:=(sOwn 2 (sInt .i64))) _ _ Tryz.underlying118 info114 zr114 sz114 rfl rfl rfl p6 rfl ji pa.1 pa.2.1 pa.2.2 d95 (by rw [by114]; exact hn145a.1) hn145a.2 hB.size fun v138 p1w p34 jz p1x hs143=>?_
 have p1y:=dis_upd hs143 (qp).symm d94 (sl _ p0.1)
 replace p0:=okp p0 jz qp
 replace qc:=Row.keep qc jz (jx _ (ms rfl))
 replace ji:=Row.keep ji jz (p1v _ (ms rfl))
 replace hB:=hB.then jz p6.2.2
 refine Wb (Av v138 rfl) <| inBlk_n <| anz <| Wq rfl (cr [] p1w) <| Qa (Ba rfl rfl) <| Qa (Mi rfl) <| fun p35 nl=>?_
 cases ho
 exact ⟨_,_,(hB.trans nl),(ko p0 nl),(ko p1x nl),((p1y).symm),fe rfl⟩
 intro nf
 rw [nf] at ho
 refine W_exit <| andThen_x <| ?_
 cases ho
 exact ⟨rfl,⟨_,_,(hB.trans pv),(ko p0 pv),(ko p6 pv),qp,fe rfl⟩⟩
 rintro ⟨s1_6,s1_23⟩ _ p1z ⟨v36,jv,hB,p0,p6,qp,F,rfl⟩ ho
 dsimp only at ho
 refine inBlk_n <| anz <| Wq rfl (cr [] p1z) <| Qa (Mi rfl) <| Qa (Ba rfl rfl) <| Qa (Ai rfl) <| fun p36 gg=>?_
 cases ho
 exact ⟨_,_,(hB.trans gg),(ko p6 gg),fe rfl⟩
 intro ne
 rw [ne] at ho
 refine W_exit <| andThen_x <| ?_
 cases ho
 exact ⟨rfl,⟨_,_,(hB.trans pw),(ko p4 pw),fe rfl⟩⟩
 rintro ⟨s0_6,s0_7⟩ _ p20 ⟨v20,pb,hB,p4,F,rfl⟩ ho
 dsimp only at ho
 refine anz <| wq <| W_region rfl <| Wb (Mv v20 rfl) <| ?_
 obtain ⟨y157,p21,ho⟩:=bs ho
 refine WL.call rfl (op_callF Tryz.func230 rfl rfl) (sortM_impl_Category_sieves_2_calls (OE.give (B':=p20.heap.size) p4 fun _ h=>h) p21) <| ?_
 rintro _ p22 ⟨p37,rfl,p23,nm⟩
 refine ⟨_,rfl,?_⟩
 replace nm:=OE.back nm p4.2.2 hB.size
 replace hB:=hB.then p23 p4.2.2
 refine anz <| wq <| Wq rfl (cr [] p22) <| Qa (Mv v20 rfl) <| Qa (Av v20 rfl) <| Qa (Ab rfl) <| fun p38 gh=>anz <| ?_
 cases ho
 exact W_ret ⟨_,res_2 Tryz.results213,_,_,rfl,(hB.trans gh),(ko nm gh)⟩

abbrev impl_Category_pull_post (w:World) (x:((List Int))) (e:Ending) (w':World):Prop:=∃ (v0:Value) (f0:List Nat),e = .returned (v0)∧Chg [] w w'∧OE [] w.heap.size w' (sOwn 2 (sInt .i64)) [v0] x f0
abbrev impl_Category_pull_T (w:World):=Tm Tryz.prog Tryz.f153 37 (impl_Category_pull_post w)
theorem impl_Category_pull_calls {w:World} {x0:MCategory} {p_x0:Addr} {z2:Value} {ze:List Nat} {z1:Value} {zf:List Nat} {z7:Value} {zg:List Nat} {z6:Value} {zh:List Nat} {x1:Int} {x2:(List Int)} {v_x2:Value} {f_x2:List Nat} (z8:(sImm (sInt .i64)).rep w.heap [z2] x0.From ze) (za:(sImm (sInt .i64)).rep w.heap [z1] x0.To zf) (zc:(sImm (sInt .i64)).rep w.heap [z7] x0.Identity zg) (zb:(sImm (sImm (sInt .i64))).rep w.heap [z6] x0.Composites zh) (a_x0:At w p_x0 [.int .i64 (x0.Objects),z2,z1,z7,z6]) (h_x2:(sImm (sInt .i64)).rep w.heap [v_x2] x2 f_x2) {y:((List Int))} (hm:impl_Category_pull x0 x1 x2=some y) :
  Calls Tryz.prog 153 #[.pointer (some (p_x0)),.int .i64 (x1),v_x2] w (impl_Category_pull_post w y):=by
 refine Cm (S:=Unit) Tryz.func153 rfl Tryz.ntmps153 rfl hm fun o ho hB=>?_
 clear hm
 refine wq <| Wq rfl (cr [] w) <| Qa (As rfl) <| fun wd1 hC2=>anz <| wq <| W_region rfl <| WL.lit0 (sInt .i64) u114z info2 fun v3 wd4 f5 hC6 o7=>?_
 replace o7:=OE.low (G:=[]) o7 (hB.trans hC2).size
 have hT8:=hC2.trans hC6
 replace hB:=(hB.trans hT8)
 refine Wb (Av v3 rfl) <| anz <| wq <| wq <| W_region rfl <| Wb (Mp rfl) <| Wb (Mp rfl) <| Wb (Nk rfl) <| Wb (Fp fa32_2 rfl) <| Wb (La na22 (At.keep0 a_x0 hB) rfl rfl) <| Wb (Mi rfl) <| ?_
 obtain ⟨e9,hx10e,ho⟩:=bs ho
 have hx10:=idx_some hx10e
 refine Wb (Ix sl22 (kB za hB) hx10 rfl rfl rfl) <| Wb (Ei na2 (kB za hB) hx10 rfl) <| ?_
 obtain ⟨y11,p24,ho⟩:=bs ho
 refine WL.call rfl (op_callF Tryz.func148 rfl rfl) (impl_Category_outOf_calls (kp _ z8 hB) (kp _ za hB) (kp _ zc hB) (kp _ zb hB) (At.keep0 a_x0 hB) p24) <| ?_
 rintro _ nv ⟨v15,pu,rfl,q3,p5⟩
 refine ⟨_,rfl,?_⟩
 have d18:=dl (ofr p5) (sl _ o7.1)
 replace p5:=OE.low (G:=[]) p5 hB.size
 replace o7:=ko o7 q3
 replace hB:=(hB.trans q3)
 refine Wb (Ln sl22 ((Le.own (Le.refl _) 2).le p5.1) rfl) <| Wb (Mi rfl) <| anz <| Wf (S1:=(List Int)×Int) (fun s r w'=>match s with | (s0_7,s0_21)=>∃ (v20:Value) (pb:List Nat),Chg [] w w'∧OE [] w.heap.size w' (sOwn 2 (sInt .i64)) [v15] (y11) pu∧OE [] w.heap.size w' (sOwn 2 (sInt .i64)) [v20] (s0_7) pb∧Dis pu pb∧∃ F,r=updL F [(0,.pointer (some (p_x0))),(1,.int .i64 (x1)),(2,v_x2),(7,v20),(19,v15),(20,.int .i64 ((y11.length:Int))),(21,.int .i64 (s0_21))]) (impl_Category_pull_T w) ho ⟨_,_,hB,p5,o7,(d18),fe rfl⟩ ?_ ?_
 rintro ⟨s0_7,s0_21⟩ _ gd ⟨v20,pb,hB,p5,p4,jk,F,rfl⟩ o ho
 replace ho:impl_Category_pull_L0 x0 x1 x2 y11 s0_7 s0_21=some o:=ho
 unfold impl_Category_pull_L0 at ho
 refine wq <| Wq rfl (cr [] gd) <| Qa (Bl rfl rfl) <| fun ny q5=>anz <| wq <| W_cond (b:=decide (s0_21 < (y11.length:Int))) rfl ?_ ?_
 intro nn
 rw [nn] at ho
 refine W_skip <| anz <| wq <| W_block <| wq <| Wq rfl q5 <| ?_
 obtain ⟨e28,hx29e,ho⟩:=bs ho
 have hx29:=idx_some hx29e
 refine Qa (Ix sl22 ((Le.own (Le.refl _) 2).le p5.1) hx29 rfl rfl rfl) <| Qa (Ei na2 ((Le.own (Le.refl _) 2).le p5.1) hx29 rfl) <| Qa (Ai rfl) <| fun p0e kw=>anz <| wq <| Wq rfl kw <| Qa (Mv v_x2 rfl) <| Qa (Mp rfl) <| Qa (Mi rfl) <| Qa (Mi rfl) <| ?_
 obtain ⟨y32,p26,ho⟩:=bs ho
 refine Qc Tryz.func150 rfl rfl (fun _ hC=>impl_Category_then_calls (kp _ z8 (hB.trans hC)) (kp _ za (hB.trans hC)) (kp _ zc (hB.trans hC)) (kp _ zb (hB.trans hC)) (At.keep0 a_x0 (hB.trans hC)) p26) <| ?_
 obtain ⟨y34,p27,ho⟩:=bs ho
 refine Qc Tryz.func149 rfl rfl (fun _ hC=>impl_has_calls (kp _ h_x2 (hB.trans hC)) p27) <| fun k2 j1=>anz <| W_cond (b:=y34) rfl ?_ ?_
 intro no
 rw [no] at ho
 refine W_region rfl <| Wb (Mv v20 rfl) <| Wb (Mi rfl) <| WL.lit1 u114z info2 zr2 sz2 rfl fun b39 ju ky q6 p29=>?_
 replace q6:Row ju b39 [.int .i64 (e28)] 2:=q6
 have d46:=dl (onw p29) (sl _ (kp _ p4.1 j1))
 have np:=j1.trans ky
 replace p5:=ko p5 np
 replace p4:=ko p4 np
 replace hB:=(hB.trans np)
 obtain ⟨n54,hn55,ho⟩:=bs ho
 have hn55a:=fits_some hn55
 refine WL.append1 (E:=(sInt .i64)) _ _ u114z info2 zr2 sz2 rfl rfl rfl p4 rfl q6 ⟨rfl,rfl⟩ List.nodup_nil (fun _ h=>nomatch h) (fun _ h=>nomatch h) (by rw [by2]; exact hn55a.1) hn55a.2 hB.size fun v48 p2b f50 q0 o52 hs53=>?_
 have d56:=dis_upd hs53 (jk).symm (fun _ h=>nomatch h) (sl _ p5.1)
 replace p5:=okp p5 q0 jk
 replace q6:=Row.keep q6 q0 (d46 _ (ms rfl))
 replace hB:=hB.then q0 p4.2.2
 refine Wb (Av v48 rfl) <| inBlk_n <| anz <| Wq rfl (cr [] p2b) <| Qa (Ba rfl rfl) <| Qa (Mi rfl) <| fun p0c jb=>?_
 cases ho
 exact ⟨_,_,(hB.trans jb),(ko p5 jb),(ko o52 jb),((d56).symm),fe rfl⟩
 intro no
 rw [no] at ho
 refine W_skip <| inBlk_n <| anz <| Wq rfl j1 <| Qa (Ba rfl rfl) <| Qa (Mi rfl) <| fun kt pl=>?_
 cases ho
 exact ⟨_,_,(hB.trans pl),(ko p5 pl),(ko p4 pl),jk,fe rfl⟩
 intro nn
 rw [nn] at ho
 refine W_exit <| andThen_x <| ?_
 cases ho
 exact ⟨rfl,⟨_,_,(hB.trans q5),(ko p5 q5),(ko p4 q5),jk,fe rfl⟩⟩
 rintro ⟨s0_7,s0_21⟩ _ jr ⟨v20,pb,hB,p5,p4,jk,F,rfl⟩ ho
 dsimp only at ho
 refine anz <| wq <| Wq rfl (cr [] jr) <| Qa (Mv v20 rfl) <| Qa (Av v20 rfl) <| fun g0 qx=>anz <| ?_
 cases ho
 exact W_ret ⟨_,res_1 Tryz.results153,_,_,rfl,(hB.trans qx),(ko p4 qx)⟩

abbrev impl_classifier_number_1_post (w:World) (x:(Bool)) (e:Ending) (w':World):Prop:=e = .returned (.bool x)∧Chg [] w w'
abbrev impl_classifier_number_1_T (w:World):=Tm Tryz.prog Tryz.f176 7 (impl_classifier_number_1_post w)
theorem impl_classifier_number_1_calls {w:World} {x0:(List Int)} {v_x0:Value} {f_x0:List Nat} {x1:(List Int)} {p_x1:Addr} {v_x1:Value} {f_x1:List Nat} (h_x0:(sImm (sInt .i64)).rep w.heap [v_x0] x0 f_x0) (h_x1:(sImm (sInt .i64)).rep w.heap [v_x1] x1 f_x1) (a_x1:At w p_x1 [v_x1]) {y:(Bool)} (hm:impl_classifier_number_1 x0 x1=some y) :
  Calls Tryz.prog 176 #[v_x0,.pointer (some (p_x1))] w (impl_classifier_number_1_post w y):=by
 refine Cm (S:=Unit) Tryz.func176 rfl Tryz.ntmps176 rfl hm fun o ho hB=>?_
 clear hm
 refine wq <| Wq rfl (cr [] w) <| Qa (Ab rfl) <| fun wd1 hC2=>anz <| wq <| Wq rfl hC2 <| Qa (Lb na114 (At.keep0 a_x1 hB) rfl rfl) <| Qa (Mv v_x0 rfl) <| ?_
 obtain ⟨y3,hy4,ho⟩:=bs ho
 refine Qc Tryz.func154 rfl rfl (fun _ hC=>impl_same_calls (kp _ h_x1 (hB.trans hC)) (kp _ h_x0 (hB.trans hC)) hy4) <| Qa (Ab rfl) <| fun wd5 hC6=>anz <| ?_
 cases ho
 exact W_ret ⟨_,res_1 Tryz.results176,rfl,(hB.trans hC6)⟩

abbrev impl_classifier_number_post (w:World) (x:(Int)) (e:Ending) (w':World):Prop:=e = .returned (.int .i64 x)∧Chg [] w w'
abbrev impl_classifier_number_T (w:World):=Tm Tryz.prog Tryz.f113 16 (impl_classifier_number_post w)
theorem impl_classifier_number_calls {w:World} {x0:MClassifier} {p_x0:Addr} {z28:Value} {z2p:List Nat} {z29:Value} {z2q:List Nat} {z2a:Value} {z2r:List Nat} {z2b:Value} {z2s:List Nat} {z2d:Value} {z2t:List Nat} {z2e:Value} {z2u:List Nat} {z2c:Value} {z2v:List Nat} {x1:Int} {x2:(List Int)} {v_x2:Value} {f_x2:List Nat} (z32:(sImm (sInt .i64)).rep w.heap [z28] x0.Sets.Shape.From z2p) (z33:(sImm (sInt .i64)).rep w.heap [z29] x0.Sets.Shape.To z2q) (z34:(sImm (sInt .i64)).rep w.heap [z2a] x0.Sets.Shape.Identity z2r) (z35:(sImm (sImm (sInt .i64))).rep w.heap [z2b] x0.Sets.Shape.Composites z2s) (z40:(sImm (sInt .i64)).rep w.heap [z2d] x0.Sets.Sizes z2t) (z41:(sImm (sImm (sInt .i64))).rep w.heap [z2e] x0.Sets.Actions z2u) (z2f:(sImm (sImm (sImm (sInt .i64)))).rep w.heap [z2c] x0.Sieves z2v) (a_x0:At w p_x0 [.int .i64 (x0.Sets.Shape.Objects),z28,z29,z2a,z2b,z2d,z2e,z2c]) (h_x2:(sImm (sInt .i64)).rep w.heap [v_x2] x2 f_x2) {y:(Int)} (hm:impl_classifier_number x0 x1 x2=some y) :
  Calls Tryz.prog 113 #[.pointer (some (p_x0)),.int .i64 (x1),v_x2] w (impl_classifier_number_post w y):=by
 refine Cm (S:=Unit) Tryz.func113 rfl Tryz.ntmps113 rfl hm fun o ho hB=>?_
 clear hm
 refine wq <| W_region rfl <| WL.box fun b1 wd2 hC3 hr4 hl5=>?_
 replace hr4:Row wd2 b1 [v_x2] 114:=(congrArg (fun c:Array Value=>Row wd2 b1 c.toList 114) (cells_one (v:=v_x2) (STy.one _ h_x2 _ (ms rfl)))).mp hr4
 replace hB:=(hB.trans hC3)
 refine Wb (Ai rfl) <| anz <| wq <| Wq rfl (cr [] wd2) <| Qa (Mp rfl) <| Qa (Nk rfl) <| Qa (Fp fa151_1 rfl) <| Qa (La na149 (At.keep0 a_x0 hB) rfl rfl) <| Qa (Mi rfl) <| ?_
 obtain ⟨e8,hx9e,ho⟩:=bs ho
 have hx9:=idx_some hx9e
 refine Qa (Ix sl149 (kB z2f hB) hx9 rfl rfl rfl) <| ?_
 obtain ⟨u10,fu11,hu12,p2e,hs14⟩:=one_get rfl z2f hx9.1 hx9.2
 refine Qa (Ld na118 (hB.cell0 hu12) rfl) <| qv (v:=.func (.func 176) #[] #[.pointer (some (⟨b1,0,none⟩))]) rfl (fun _ _=>op_makeFunc (fst:=[]) (cap:=[.tmp 5])) <| ?_
 obtain ⟨y15,p2f,ho⟩:=bs ho
 refine Qc Tryz.func175 rfl rfl (fun _ hC=>slices_IndexFunc___impl_sieve_impl_sieve__calls (kp _ p2e (hB.trans hC)) ⟨⟨_,_,Tryz.func176,rfl,rfl⟩,fun {W} hW {a0} {v0} {f0} h0 {y} hm=>impl_classifier_number_1_calls h0 (kp _ h_x2 (hB.trans (hC.trans hW))) (kr hr4 (hC.trans hW)).at hm⟩ p2f) <| Qa (Ai rfl) <| fun jq ql=>anz <| ?_
 cases ho
 exact W_ret ⟨_,res_1 Tryz.results113,rfl,(hB.trans ql)⟩
end Go.Proofs.YtcmckiiafgcmjaaGreat
