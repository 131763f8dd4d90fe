/- Walks, printed by a program: that a call of each function computes what its model says. No condition beside those that each theorem names. -/
import Derived.Test.YtcmckiiafgcmjaaGreatTy
import Derived.Test.YtcmckiiafgcmjaaGreatMo
import Derived.Test.YtcmckiiafgcmjaaGreatSo
import Derived.Test.YtcmckiiafgcmjaaGreatZ02
namespace Go.Proofs.YtcmckiiafgcmjaaGreat
open Go Go.Li
set_option linter.unusedVariables false
set_option maxHeartbeats 4000000
set_option maxRecDepth 100000
abbrev impl_Category_isCategory_post (w:World) (x:(Bool)) (e:Ending) (w':World):Prop:=e = .returned (.bool x)∧Chg [] w w'
abbrev impl_Category_isCategory_T (w:World):=Tm Tryz.prog Tryz.f103 19 (impl_Category_isCategory_post w)
theorem impl_Category_isCategory_calls {w:World} {x0:MCategory} {p_x0:Addr} {z2:Value} {zf:List Nat} {z1:Value} {zg:List Nat} {z7:Value} {zh:List Nat} {z6:Value} {zi:List Nat} (za:(sImm (sInt .i64)).rep w.heap [z2] x0.From zf) (zb:(sImm (sInt .i64)).rep w.heap [z1] x0.To zg) (zd:(sImm (sInt .i64)).rep w.heap [z7] x0.Identity zh) (zc:(sImm (sImm (sInt .i64))).rep w.heap [z6] x0.Composites zi) (a_x0:At w p_x0 [.int .i64 (x0.Objects),z2,z1,z7,z6]) {y:(Bool)} (hm:impl_Category_isCategory x0=some y) :
  Calls Tryz.prog 103 #[.pointer (some (p_x0))] w (impl_Category_isCategory_post w y):=by
 refine Cm (S:=Unit) Tryz.func103 rfl Tryz.ntmps103 rfl hm fun o ho hB=>?_
 clear hm
 refine wq <| Wq rfl (cr [] w) <| Qa (Ab rfl) <| fun wd1 hC2=>anz <| wq <| wq <| Wq rfl hC2 <| Qa (Mp rfl) <| ?_
 obtain ⟨y3,hy4,ho⟩:=bs ho
 refine Qc Tryz.func162 rfl rfl (fun _ hC=>impl_Category_isShape_calls (kp _ za (hB.trans hC)) (kp _ zb (hB.trans hC)) (kp _ zd (hB.trans hC)) (kp _ zc (hB.trans hC)) (At.keep0 a_x0 (hB.trans hC)) hy4) <| Qa (Nt rfl) <| fun wd5 hC6=>anz <| W_cond (b:=!(y3)) rfl ?_ ?_
 intro hb7
 rw [hb7] at ho
 refine wq <| Wq rfl hC6 <| Qa (Ab rfl) <| fun wd8 hC9=>anz <| ?_
 cases ho
 exact W_ret ⟨_,res_1 Tryz.results103,rfl,(hB.trans hC9)⟩
 intro hb7
 rw [hb7] at ho
 refine W_skip <| anz <| wq <| Wq rfl hC6 <| Qa (Mp rfl) <| ?_
 obtain ⟨y10,p0t,ho⟩:=bs ho
 refine Qc Tryz.func163 rfl rfl (fun _ hC=>impl_Category_fault_calls (kp _ za (hB.trans hC)) (kp _ zb (hB.trans hC)) (kp _ zd (hB.trans hC)) (kp _ zc (hB.trans hC)) (At.keep0 a_x0 (hB.trans hC)) p0t) <| Qa (Mt rfl) <| Qa (Exi rfl rfl) <| Qa (Exi rfl rfl) <| Qa (Exi rfl rfl) <| Qa (Exi rfl rfl) <| Qa (Ai rfl) <| Qa (Ai rfl) <| Qa (Ai rfl) <| Qa (Ai rfl) <| fun p3h g0=>anz <| wq <| Wq rfl g0 <| Qa (Mi rfl) <| Qa (Be rfl rfl) <| ?_
 refine Qa (Ab rfl) <| fun k2 kg=>anz <| ?_
 cases ho
 exact W_ret ⟨_,res_1 Tryz.results103,rfl,(hB.trans kg)⟩

abbrev impl_rising_post (w:World) (x:(Bool)) (e:Ending) (w':World):Prop:=e = .returned (.bool x)∧Chg [] w w'
abbrev impl_rising_T (w:World):=Tm Tryz.prog Tryz.f146 20 (impl_rising_post w)
theorem impl_rising_calls {w:World} {x0:(List Int)} {v_x0:Value} {f_x0:List Nat} (h_x0:(sImm (sInt .i64)).rep w.heap [v_x0] x0 f_x0) {y:(Bool)} (hm:impl_rising x0=some y) :
  Calls Tryz.prog 146 #[v_x0] w (impl_rising_post w y):=by
 refine Cm (S:=Unit) Tryz.func146 rfl Tryz.ntmps146 rfl hm fun o ho hB=>?_
 clear hm
 refine wq <| Wq rfl (cr [] w) <| Qa (Ab rfl) <| fun wd1 hC2=>anz <| wq <| wq <| Wq rfl hC2 <| Qa (Ai rfl) <| fun wd3 hC4=>anz <| Wf (S1:=Int) (fun (s0_3:Int) r w'=>Chg [] w w'∧∃ F,r=updL F [(0,v_x0),(3,.int .i64 (s0_3))]) (impl_rising_T w) ho ⟨(hB.trans hC4),fe rfl⟩ ?_ ?_
 rintro s0_3 _ wd5 ⟨hB,F,rfl⟩ o ho
 replace ho:impl_rising_L0 x0 s0_3=some o:=ho
 unfold impl_rising_L0 at ho
 refine wq <| wq <| Wq rfl (cr [] wd5) <| Qa (Mi rfl) <| Qa (Mv v_x0 rfl) <| Qa (Ln sl22 (kB h_x0 hB) rfl) <| Qa (Bl rfl rfl) <| fun wd6 hC7=>anz <| W_cond (b:=decide (s0_3 < (x0.length:Int))) rfl ?_ ?_
 intro hb8
 rw [hb8] at ho
 refine W_skip <| anz <| wq <| W_block <| wq <| Wqd rfl (by kernel_rfl) hC7 <| Qa (Mv v_x0 rfl) <| Qa (Mi rfl) <| Qa (Bs rfl rfl) <| ?_
 obtain ⟨e9,hx10e,ho⟩:=bs ho
 have hx10:=idx_some hx10e
 refine Qa (Ix sl22 (kB h_x0 hB) hx10 rfl rfl rfl) <| Qa (Ei na2 (kB h_x0 hB) hx10 rfl) <| Qa (Mv v_x0 rfl) <| Qa (Mi rfl) <| ?_
 obtain ⟨e11,hx12e,ho⟩:=bs ho
 have hx12:=idx_some hx12e
 refine Qa (Ix sl22 (kB h_x0 hB) hx12 rfl rfl rfl) <| Qa (Ei na2 (kB h_x0 hB) hx12 rfl) <| Qa (Bh rfl rfl) <| fun p2k j3=>anz <| W_cond (b:=decide (e9 ≥ e11)) rfl ?_ ?_
 intro jk
 rw [jk] at ho
 refine wq <| Wq rfl j3 <| Qa (Ab rfl) <| fun g1 kh=>anz <| ?_
 cases ho
 exact W_ret ⟨_,res_1 Tryz.results146,rfl,(hB.trans kh)⟩
 intro jk
 rw [jk] at ho
 refine W_skip <| inBlk_n <| anz <| Wq rfl j3 <| Qa (Mi rfl) <| Qa (Ba rfl rfl) <| Qa (Ai rfl) <| fun ki qf=>?_
 cases ho
 exact ⟨(hB.trans qf),fe rfl⟩
 intro hb8
 rw [hb8] at ho
 refine W_exit <| andThen_x <| ?_
 cases ho
 exact ⟨rfl,⟨(hB.trans hC7),fe rfl⟩⟩
 rintro s0_3 _ j4 ⟨hB,F,rfl⟩ ho
 refine anz <| wq <| Wq rfl (cr [] j4) <| Qa (Ab rfl) <| fun p3i p0u=>anz <| ?_
 cases ho
 exact W_ret ⟨_,res_1 Tryz.results146,rfl,(hB.trans p0u)⟩

abbrev impl_Category_outOf_post (w:World) (x:((List Int))) (e:Ending) (w':World):Prop:=∃ (v0:Value) (f0:List Nat),e = .returned (v0)∧Chg [] w w'∧OE [] w.heap.size w' (sOwn 2 (sInt .i64)) [v0] x f0
abbrev impl_Category_outOf_T (w:World):=Tm Tryz.prog Tryz.f148 28 (impl_Category_outOf_post w)
theorem impl_Category_outOf_calls {w:World} {x0:MCategory} {p_x0:Addr} {z2:Value} {zf:List Nat} {z1:Value} {zg:List Nat} {z7:Value} {zh:List Nat} {z6:Value} {zi:List Nat} {x1:Int} (za:(sImm (sInt .i64)).rep w.heap [z2] x0.From zf) (zb:(sImm (sInt .i64)).rep w.heap [z1] x0.To zg) (zd:(sImm (sInt .i64)).rep w.heap [z7] x0.Identity zh) (zc:(sImm (sImm (sInt .i64))).rep w.heap [z6] x0.Composites zi) (a_x0:At w p_x0 [.int .i64 (x0.Objects),z2,z1,z7,z6]) {y:((List Int))} (hm:impl_Category_outOf x0 x1=some y) :
  Calls Tryz.prog 148 #[.pointer (some (p_x0)),.int .i64 (x1)] w (impl_Category_outOf_post w y):=by
 refine Cm (S:=Unit) Tryz.func148 rfl Tryz.ntmps148 rfl hm fun o ho hB=>?_
 clear hm
 refine wq <| Wq rfl (cr [] w) <| Qa (As rfl) <| fun wd1 hC2=>anz <| wq <| W_region rfl <| WL.lit0 (sInt .i64) u22z info2 fun v3 wd4 f5 hC6 o7=>?_
 replace o7:=OE.low (G:=[]) o7 (hB.trans hC2).size
 have hT8:=hC2.trans hC6
 replace hB:=(hB.trans hT8)
 refine Wb (Av v3 rfl) <| anz <| wq <| wq <| Wq rfl (cr [] wd4) <| Qa (Mp rfl) <| Qa (Nk rfl) <| Qa (Fp fa32_1 rfl) <| Qa (La na22 (At.keep0 a_x0 hB) rfl rfl) <| Qa (Ln sl22 (kB za hB) rfl) <| Qa (Mi rfl) <| fun wd9 qr=>anz <| Wf (S1:=(List Int)×Int) (fun s r w'=>match s with | (s0_5,s0_14)=>∃ (v11:Value) (jl:List Nat),Chg [] w w'∧OE [] w.heap.size w' (sOwn 2 (sInt .i64)) [v11] (s0_5) jl∧∃ F,r=updL F [(1,.int .i64 (x1)),(5,v11),(12,z2),(13,.int .i64 ((x0.From.length:Int))),(14,.int .i64 (s0_14))]) (impl_Category_outOf_T w) ho ⟨_,_,(hB.trans qr),(ko o7 qr),fe rfl⟩ ?_ ?_
 rintro ⟨s0_5,s0_14⟩ _ k2 ⟨v11,jl,hB,p6,F,rfl⟩ o ho
 replace ho:impl_Category_outOf_L0 x0 x1 s0_5 s0_14=some o:=ho
 unfold impl_Category_outOf_L0 at ho
 refine wq <| Wq rfl (cr [] k2) <| Qa (Bl rfl rfl) <| fun p0v q2=>anz <| wq <| W_cond (b:=decide (s0_14 < (x0.From.length:Int))) rfl ?_ ?_
 intro jm
 rw [jm] at ho
 refine W_skip <| anz <| wq <| W_block <| wq <| Wq rfl q2 <| Qa (Mi rfl) <| ?_
 obtain ⟨e18,hx19e,ho⟩:=bs ho
 have hx19:=idx_some hx19e
 refine Qa (Ix sl22 (kB za hB) hx19 rfl rfl rfl) <| Qa (Ei na2 (kB za hB) hx19 rfl) <| Qa (Ai rfl) <| Qa (Ai rfl) <| fun j4 q3=>anz <| wq <| Wq rfl q3 <| Qa (Mi rfl) <| Qa (Mi rfl) <| Qa (Be rfl rfl) <| fun p3j jn=>anz <| W_cond (b:=(e18) == (x1)) rfl ?_ ?_
 intro jo
 rw [jo] at ho
 refine W_region rfl <| Wb (Mv v11 rfl) <| Wb (Mi rfl) <| WL.lit1 u22z info2 zr2 sz2 rfl fun b25 p0x p0y q8 p0z=>?_
 replace q8:Row p0x b25 [.int .i64 (s0_14)] 2:=q8
 have kj:=dl (onw p0z) (sl _ (kp _ p6.1 jn))
 have kk:=jn.trans p0y
 replace p6:=ko p6 kk
 replace hB:=(hB.trans kk)
 obtain ⟨n39,hn40,ho⟩:=bs ho
 have hn40a:=fits_some hn40
 refine WL.append1 (E:=(sInt .i64)) _ _ u22z info2 zr2 sz2 rfl rfl rfl p6 rfl q8 ⟨rfl,rfl⟩ List.nodup_nil (fun _ h=>nomatch h) (fun _ h=>nomatch h) (by rw [by2]; exact hn40a.1) hn40a.2 hB.size fun v33 kl f35 km o37 hs38=>?_
 replace q8:=Row.keep q8 km (kj _ (ms rfl))
 replace hB:=hB.then km p6.2.2
 refine Wb (Av v33 rfl) <| inBlk_n <| anz <| Wq rfl (cr [] kl) <| Qa (Ba rfl rfl) <| Qa (Mi rfl) <| fun p2l pt=>?_
 cases ho
 exact ⟨_,_,(hB.trans pt),(ko o37 pt),fe rfl⟩
 intro jo
 rw [jo] at ho
 refine W_skip <| inBlk_n <| anz <| Wq rfl jn <| Qa (Ba rfl rfl) <| Qa (Mi rfl) <| fun p2m qs=>?_
 cases ho
 exact ⟨_,_,(hB.trans qs),(ko p6 qs),fe rfl⟩
 intro jm
 rw [jm] at ho
 refine W_exit <| andThen_x <| ?_
 cases ho
 exact ⟨rfl,⟨_,_,(hB.trans q2),(ko p6 q2),fe rfl⟩⟩
 rintro ⟨s0_5,s0_14⟩ _ g2 ⟨v11,jl,hB,p6,F,rfl⟩ ho
 dsimp only at ho
 refine anz <| wq <| Wq rfl (cr [] g2) <| Qa (Mv v11 rfl) <| Qa (Av v11 rfl) <| fun p11 kn=>anz <| ?_
 cases ho
 exact W_ret ⟨_,res_1 Tryz.results148,_,_,rfl,(hB.trans kn),(ko p6 kn)⟩

abbrev impl_has_post (w:World) (x:(Bool)) (e:Ending) (w':World):Prop:=e = .returned (.bool x)∧Chg [] w w'
abbrev impl_has_T (w:World):=Tm Tryz.prog Tryz.f149 17 (impl_has_post w)
theorem impl_has_calls {w:World} {x0:(List Int)} {v_x0:Value} {f_x0:List Nat} {x1:Int} (h_x0:(sImm (sInt .i64)).rep w.heap [v_x0] x0 f_x0) {y:(Bool)} (hm:impl_has x0 x1=some y) :
  Calls Tryz.prog 149 #[v_x0,.int .i64 (x1)] w (impl_has_post w y):=by
 refine Cm (S:=Unit) Tryz.func149 rfl Tryz.ntmps149 rfl hm fun o ho hB=>?_
 clear hm
 refine wq <| Wq rfl (cr [] w) <| Qa (Ab rfl) <| fun wd1 hC2=>anz <| wq <| wq <| Wq rfl hC2 <| Qa (Mv v_x0 rfl) <| Qa (Ln sl22 (kB h_x0 hB) rfl) <| Qa (Mi rfl) <| fun wd3 hC4=>anz <| Wf (S1:=Int) (fun (s0_9:Int) r w'=>Chg [] w w'∧∃ F,r=updL F [(1,.int .i64 (x1)),(7,v_x0),(8,.int .i64 ((x0.length:Int))),(9,.int .i64 (s0_9))]) (impl_has_T w) ho ⟨(hB.trans hC4),fe rfl⟩ ?_ ?_
 rintro s0_9 _ wd5 ⟨hB,F,rfl⟩ o ho
 replace ho:impl_has_L0 x0 x1 s0_9=some o:=ho
 unfold impl_has_L0 at ho
 refine wq <| Wq rfl (cr [] wd5) <| Qa (Bl rfl rfl) <| fun wd6 hC7=>anz <| wq <| W_cond (b:=decide (s0_9 < (x0.length:Int))) rfl ?_ ?_
 intro hb8
 rw [hb8] at ho
 refine W_skip <| anz <| wq <| W_block <| wq <| Wq rfl hC7 <| ?_
 obtain ⟨e9,hx10e,ho⟩:=bs ho
 have hx10:=idx_some hx10e
 refine Qa (Ix sl22 (kB h_x0 hB) hx10 rfl rfl rfl) <| Qa (Ei na2 (kB h_x0 hB) hx10 rfl) <| Qa (Ai rfl) <| fun p12 pu=>anz <| wq <| Wq rfl pu <| Qa (Mi rfl) <| Qa (Mi rfl) <| Qa (Be rfl rfl) <| fun p2k j3=>anz <| W_cond (b:=(e9) == (x1)) rfl ?_ ?_
 intro jk
 rw [jk] at ho
 refine wq <| Wq rfl j3 <| Qa (Ab rfl) <| fun g1 kh=>anz <| ?_
 cases ho
 exact W_ret ⟨_,res_1 Tryz.results149,rfl,(hB.trans kh)⟩
 intro jk
 rw [jk] at ho
 refine W_skip <| inBlk_n <| anz <| Wq rfl j3 <| Qa (Ba rfl rfl) <| Qa (Mi rfl) <| fun ki qf=>?_
 cases ho
 exact ⟨(hB.trans qf),fe rfl⟩
 intro hb8
 rw [hb8] at ho
 refine W_exit <| andThen_x <| ?_
 cases ho
 exact ⟨rfl,⟨(hB.trans hC7),fe rfl⟩⟩
 rintro s0_9 _ j4 ⟨hB,F,rfl⟩ ho
 refine anz <| wq <| Wq rfl (cr [] j4) <| Qa (Ab rfl) <| fun p3i p0u=>anz <| ?_
 cases ho
 exact W_ret ⟨_,res_1 Tryz.results149,rfl,(hB.trans p0u)⟩

abbrev impl_Category_isSieve_post (w:World) (x:(Bool)) (e:Ending) (w':World):Prop:=e = .returned (.bool x)∧Chg [] w w'
abbrev impl_Category_isSieve_T (w:World):=Tm Tryz.prog Tryz.f82 59 (impl_Category_isSieve_post w)
theorem impl_Category_isSieve_calls {w:World} {x0:MCategory} {p_x0:Addr} {z2:Value} {zf:List Nat} {z1:Value} {zg:List Nat} {z7:Value} {zh:List Nat} {z6:Value} {zi:List Nat} {x1:Int} {x2:(List Int)} {v_x2:Value} {f_x2:List Nat} (za:(sImm (sInt .i64)).rep w.heap [z2] x0.From zf) (zb:(sImm (sInt .i64)).rep w.heap [z1] x0.To zg) (zd:(sImm (sInt .i64)).rep w.heap [z7] x0.Identity zh) (zc:(sImm (sImm (sInt .i64))).rep w.heap [z6] x0.Composites zi) (a_x0:At w p_x0 [.int .i64 (x0.Objects),z2,z1,z7,z6]) (h_x2:(sImm (sInt .i64)).rep w.heap [v_x2] x2 f_x2) {y:(Bool)} (hm:impl_Category_isSieve x0 x1 x2=some y) :
  Calls Tryz.prog 82 #[.pointer (some (p_x0)),.int .i64 (x1),v_x2] w (impl_Category_isSieve_post w y):=by
 refine Cm (S:=Unit) Tryz.func82 rfl Tryz.ntmps82 rfl hm fun o ho hB=>?_
 clear hm
 refine wq <| Wq rfl (cr [] w) <| Qa (Ab rfl) <| fun wd1 hC2=>anz <| wq <| wq <| Wq rfl hC2 <| ?_
 obtain ⟨g3,hm4,ho⟩:=bs ho
 refine QL.meet (fun r=>∃ F,r=updL F [(0,.pointer (some (p_x0))),(1,.int .i64 (x1)),(2,v_x2),(20,.bool (g3))]) ?_ ?_
 skip
 refine Qa (Mv v_x2 rfl) <| ?_
 obtain ⟨y5,hy6,hm4⟩:=bs hm4
 refine Qc Tryz.func146 rfl rfl (fun _ hC=>impl_rising_calls (kp _ h_x2 (hB.trans hC)) hy6) <| Qa (Nt rfl) <| Qa (Mb rfl) <| ?_
 rcases Bool.eq_false_or_eq_true (!(y5)) with hb7 | hb7
 rw [hb7] at hm4
 refine Sk rfl hb7 rfl <| Sk rfl hb7 rfl <| Sk rfl hb7 rfl <| Sk rfl hb7 rfl <| Sk rfl hb7 rfl <| Qa (PTb rfl hb7 rfl) <| ?_
 cases hm4
 exact fe rfl
 rw [hb7] at hm4
 refine Qg rfl hb7 (Mv v_x2 rfl) <| Qg rfl hb7 (Mp rfl) <| ?_
 obtain ⟨y8,hy9,hm4⟩:=bs hm4
 refine Qcg rfl hb7 Tryz.func105 rfl rfl (fun _ hC=>impl_Category_arrows_calls (kp _ za (hB.trans hC)) (kp _ zb (hB.trans hC)) (kp _ zd (hB.trans hC)) (kp _ zc (hB.trans hC)) (At.keep0 a_x0 (hB.trans hC)) hy9) <| ?_
 obtain ⟨y10,p0t,hm4⟩:=bs hm4
 refine Qcg rfl hb7 Tryz.func147 rfl rfl (fun _ hC=>impl_within_calls (kp _ h_x2 (hB.trans hC)) p0t) <| Qg rfl hb7 (Nt rfl) <| Qa (PFb rfl hb7 rfl) <| ?_
 cases hm4
 exact fe rfl
 rintro _ ⟨F,rfl⟩
 refine fun p3h g0=>anz <| W_cond (b:=g3) rfl ?_ ?_
 intro p13
 rw [p13] at ho
 refine wq <| Wq rfl g0 <| Qa (Ab rfl) <| fun p0v q2=>anz <| ?_
 cases ho
 exact W_ret ⟨_,res_1 Tryz.results82,rfl,(hB.trans q2)⟩
 intro p13
 rw [p13] at ho
 refine W_skip <| anz <| wq <| wq <| Wq rfl g0 <| Qa (Mv v_x2 rfl) <| Qa (Ln sl22 (kB h_x2 hB) rfl) <| Qa (Mi rfl) <| fun g4 jp=>anz <| Wf (S1:=Int) (fun (s0_23:Int) r w'=>Chg [] w w'∧∃ F,r=updL F [(0,.pointer (some (p_x0))),(1,.int .i64 (x1)),(2,v_x2),(21,v_x2),(22,.int .i64 ((x2.length:Int))),(23,.int .i64 (s0_23))]) (impl_Category_isSieve_T w) ho ⟨(hB.trans jp),fe rfl⟩ ?_ ?_
 rintro s0_23 _ p2n ⟨hB,F,rfl⟩ o ho
 replace ho:impl_Category_isSieve_L0 x0 x1 x2 s0_23=some o:=ho
 unfold impl_Category_isSieve_L0 at ho
 refine wq <| Wq rfl (cr [] p2n) <| Qa (Bl rfl rfl) <| fun j4 q3=>anz <| wq <| W_cond (b:=decide (s0_23 < (x2.length:Int))) rfl ?_ ?_
 intro q9
 rw [q9] at ho
 refine W_skip <| anz <| wq <| W_block <| wq <| Wq rfl q3 <| ?_
 obtain ⟨e23,hx24e,ho⟩:=bs ho
 have hx24:=idx_some hx24e
 refine Qa (Ix sl22 (kB h_x2 hB) hx24 rfl rfl rfl) <| Qa (Ei na2 (kB h_x2 hB) hx24 rfl) <| Qa (Ai rfl) <| fun p2o j5=>anz <| wq <| wq <| Wq rfl j5 <| Qa (Mp rfl) <| Qa (Nk rfl) <| Qa (Fp fa32_1 rfl) <| Qa (La na22 (At.keep0 a_x0 hB) rfl rfl) <| Qa (Mi rfl) <| ?_
 obtain ⟨e27,hx28e,ho⟩:=bs ho
 have hx28:=idx_some hx28e
 refine Qa (Ix sl22 (kB za hB) hx28 rfl rfl rfl) <| Qa (Ei na2 (kB za hB) hx28 rfl) <| Qa (Mi rfl) <| Qa (Bn rfl rfl) <| fun p14 po=>anz <| W_cond (b:=(e27) != (x1)) rfl ?_ ?_
 intro p15
 rw [p15] at ho
 refine wq <| Wq rfl po <| Qa (Ab rfl) <| fun p3l p16=>anz <| ?_
 cases ho
 exact W_ret ⟨_,res_1 Tryz.results82,rfl,(hB.trans p16)⟩
 intro p15
 rw [p15] at ho
 refine W_skip <| anz <| wq <| W_region rfl <| Wb (Mp rfl) <| Wb (Mp rfl) <| Wb (Nk rfl) <| Wb (Fp fa32_2 rfl) <| Wa po (La na22 (At.keep0 a_x0 hB) rfl rfl) <| Wb (Mi rfl) <| ?_
 obtain ⟨e34,hx35e,ho⟩:=bs ho
 have hx35:=idx_some hx35e
 refine Wa po (Ix sl22 (kB zb hB) hx35 rfl rfl rfl) <| Wa po (Ei na2 (kB zb hB) hx35 rfl) <| ?_
 obtain ⟨y36,p3m,ho⟩:=bs ho
 refine WL.call rfl (op_callF Tryz.func148 rfl rfl) (impl_Category_outOf_calls (kp _ za (hB.trans po)) (kp _ zb (hB.trans po)) (kp _ zd (hB.trans po)) (kp _ zc (hB.trans po)) (At.keep0 a_x0 (hB.trans po)) p3m) <| ?_
 rintro _ p3n ⟨v40,f41,rfl,k3,qg⟩
 refine ⟨_,rfl,?_⟩
 replace qg:=OE.low (G:=[]) qg (hB.trans po).size
 have p3p:=po.trans k3
 replace hB:=(hB.trans p3p)
 refine Wb (Ln sl22 ((Le.own (Le.refl _) 2).le qg.1) rfl) <| Wb (Mi rfl) <| anz <| Wf (S1:=Int) (fun (s1_46:Int) r w'=>Chg [] w w'∧OE [] w.heap.size w' (sOwn 2 (sInt .i64)) [v40] (y36) f41∧∃ F,r=updL F [(0,.pointer (some (p_x0))),(1,.int .i64 (x1)),(2,v_x2),(8,.int .i64 (e23)),(21,v_x2),(22,.int .i64 ((x2.length:Int))),(23,.int .i64 (s0_23)),(44,v40),(45,.int .i64 ((y36.length:Int))),(46,.int .i64 (s1_46))]) (impl_Category_isSieve_T w) ho ⟨hB,qg,fe rfl⟩ ?_ ?_
 rintro s1_46 _ p2p ⟨hB,qg,F,rfl⟩ o ho
 replace ho:impl_Category_isSieve_L1 x0 x2 e23 y36 s1_46=some o:=ho
 unfold impl_Category_isSieve_L1 at ho
 refine wq <| Wq rfl (cr [] p2p) <| Qa (Bl rfl rfl) <| fun p2m qs=>anz <| wq <| W_cond (b:=decide (s1_46 < (y36.length:Int))) rfl ?_ ?_
 intro p17
 rw [p17] at ho
 refine W_skip <| anz <| wq <| W_block <| wq <| Wq rfl qs <| ?_
 obtain ⟨e48,hx49e,ho⟩:=bs ho
 have hx49:=idx_some hx49e
 refine Qa (Ix sl22 ((Le.own (Le.refl _) 2).le qg.1) hx49 rfl rfl rfl) <| Qa (Ei na2 ((Le.own (Le.refl _) 2).le qg.1) hx49 rfl) <| Qa (Ai rfl) <| fun p7y kq=>anz <| wq <| Wq rfl kq <| Qa (Mv v_x2 rfl) <| Qa (Mp rfl) <| Qa (Mi rfl) <| Qa (Mi rfl) <| ?_
 obtain ⟨y52,p3q,ho⟩:=bs ho
 refine Qc Tryz.func150 rfl rfl (fun _ hC=>impl_Category_then_calls (kp _ za (hB.trans hC)) (kp _ zb (hB.trans hC)) (kp _ zd (hB.trans hC)) (kp _ zc (hB.trans hC)) (At.keep0 a_x0 (hB.trans hC)) p3q) <| ?_
 obtain ⟨y54,p3r,ho⟩:=bs ho
 refine Qc Tryz.func149 rfl rfl (fun _ hC=>impl_has_calls (kp _ h_x2 (hB.trans hC)) p3r) <| Qa (Nt rfl) <| fun p7z p2q=>anz <| W_cond (b:=!(y54)) rfl ?_ ?_
 intro p18
 rw [p18] at ho
 refine wq <| Wq rfl p2q <| Qa (Ab rfl) <| fun p3s ks=>anz <| ?_
 cases ho
 exact W_ret ⟨_,res_1 Tryz.results82,rfl,(hB.trans ks)⟩
 intro p18
 rw [p18] at ho
 refine W_skip <| inBlk_n <| anz <| Wq rfl p2q <| Qa (Ba rfl rfl) <| Qa (Mi rfl) <| fun p19 q4=>?_
 cases ho
 exact ⟨(hB.trans q4),(ko qg q4),fe rfl⟩
 intro p17
 rw [p17] at ho
 refine W_exit <| andThen_x <| ?_
 cases ho
 exact ⟨rfl,⟨(hB.trans qs),(ko qg qs),fe rfl⟩⟩
 rintro s1_46 _ g5 ⟨hB,qg,F,rfl⟩ ho
 refine inBlk_n <| anz <| Wq rfl (cr [] g5) <| Qa (Ba rfl rfl) <| Qa (Mi rfl) <| fun p2r k4=>?_
 cases ho
 exact ⟨(hB.trans k4),fe rfl⟩
 intro q9
 rw [q9] at ho
 refine W_exit <| andThen_x <| ?_
 cases ho
 exact ⟨rfl,⟨(hB.trans q3),fe rfl⟩⟩
 rintro s0_23 _ k5 ⟨hB,F,rfl⟩ ho
 refine anz <| wq <| Wq rfl (cr [] k5) <| Qa (Ab rfl) <| fun p3t ph=>anz <| ?_
 cases ho
 exact W_ret ⟨_,res_1 Tryz.results82,rfl,(hB.trans ph)⟩

abbrev impl_compare_post (w:World) (x:(Int)) (e:Ending) (w':World):Prop:=e = .returned (.int .i64 x)∧Chg [] w w'
abbrev impl_compare_T (w:World):=Tm Tryz.prog Tryz.f145 39 (impl_compare_post w)
theorem impl_compare_calls {w:World} {x0:(List Int)} {v_x0:Value} {f_x0:List Nat} {x1:(List Int)} {v_x1:Value} {f_x1:List Nat} (h_x0:(sImm (sInt .i64)).rep w.heap [v_x0] x0 f_x0) (h_x1:(sImm (sInt .i64)).rep w.heap [v_x1] x1 f_x1) {y:(Int)} (hm:impl_compare x0 x1=some y) :
  Calls Tryz.prog 145 #[v_x0,v_x1] w (impl_compare_post w y):=by
 refine Cm (S:=Unit) Tryz.func145 rfl Tryz.ntmps145 rfl hm fun o ho hB=>?_
 clear hm
 refine wq <| Wq rfl (cr [] w) <| Qa (Ai rfl) <| fun wd1 hC2=>anz <| wq <| wq <| Wq rfl hC2 <| Qa (Mv v_x0 rfl) <| Qa (Ln sl22 (kB h_x0 hB) rfl) <| Qa (Mi rfl) <| fun wd3 hC4=>anz <| Wf (S1:=Int) (fun (s0_8:Int) r w'=>Chg [] w w'∧∃ F,r=updL F [(0,v_x0),(1,v_x1),(7,.int .i64 ((x0.length:Int))),(8,.int .i64 (s0_8))]) (impl_compare_T w) ho ⟨(hB.trans hC4),fe rfl⟩ ?_ ?_
 rintro s0_8 _ wd5 ⟨hB,F,rfl⟩ o ho
 replace ho:impl_compare_L0 x0 x1 s0_8=some o:=ho
 unfold impl_compare_L0 at ho
 refine wq <| Wq rfl (cr [] wd5) <| Qa (Bl rfl rfl) <| fun wd6 hC7=>anz <| wq <| W_cond (b:=decide (s0_8 < (x0.length:Int))) rfl ?_ ?_
 intro hb8
 rw [hb8] at ho
 refine W_skip <| anz <| wq <| W_block <| wq <| Wq rfl hC7 <| Qa (Mi rfl) <| Qa (Ai rfl) <| fun wd9 qr=>anz <| wq <| wq <| Wq rfl qr <| Qa (Mi rfl) <| Qa (Mv v_x1 rfl) <| Qa (Ln sl22 (kB h_x1 hB) rfl) <| ?_
 refine Qa (Be rfl rfl) <| fun p12 pu=>anz <| W_cond (b:=(s0_8) == ((x1.length:Int))) rfl ?_ ?_
 intro jq
 rw [jq] at ho
 refine wq <| Wq rfl pu <| Qa (Ai rfl) <| fun k2 kg=>anz <| ?_
 cases ho
 exact W_ret ⟨_,res_1 Tryz.results145,rfl,(hB.trans kg)⟩
 intro jq
 rw [jq] at ho
 refine W_skip <| anz <| wq <| Wqd rfl (by kernel_rfl) pu <| Qa (Mv v_x0 rfl) <| Qa (Mi rfl) <| ?_
 obtain ⟨e16,hx17e,ho⟩:=bs ho
 have hx17:=idx_some hx17e
 refine Qa (Ix sl22 (kB h_x0 hB) hx17 rfl rfl rfl) <| Qa (Ei na2 (kB h_x0 hB) hx17 rfl) <| Qa (Mv v_x1 rfl) <| Qa (Mi rfl) <| ?_
 obtain ⟨e18,hx19e,ho⟩:=bs ho
 have hx19:=idx_some hx19e
 refine Qa (Ix sl22 (kB h_x1 hB) hx19 rfl rfl rfl) <| Qa (Ei na2 (kB h_x1 hB) hx19 rfl) <| Qa (Bn rfl rfl) <| fun j4 q3=>anz <| W_cond (b:=(e16) != (e18)) rfl ?_ ?_
 intro q9
 rw [q9] at ho
 refine wq <| wq <| Wqd rfl (by kernel_rfl) q3 <| Qa (Mv v_x0 rfl) <| Qa (Mi rfl) <| ?_
 obtain ⟨e23,hx24e,ho⟩:=bs ho
 have hx24:=idx_some hx24e
 refine Qa (Ix sl22 (kB h_x0 hB) hx24 rfl rfl rfl) <| Qa (Ei na2 (kB h_x0 hB) hx24 rfl) <| Qa (Mv v_x1 rfl) <| Qa (Mi rfl) <| ?_
 obtain ⟨e25,hx26e,ho⟩:=bs ho
 have hx26:=idx_some hx26e
 refine Qa (Ix sl22 (kB h_x1 hB) hx26 rfl rfl rfl) <| Qa (Ei na2 (kB h_x1 hB) hx26 rfl) <| Qa (Bl rfl rfl) <| fun k6 pw=>anz <| W_cond (b:=decide (e23 < e25)) rfl ?_ ?_
 intro p1a
 rw [p1a] at ho
 refine wq <| Wq rfl pw <| Qa (Ai rfl) <| fun p3u p1b=>anz <| ?_
 cases ho
 exact W_ret ⟨_,res_1 Tryz.results145,rfl,(hB.trans p1b)⟩
 intro p1a
 rw [p1a] at ho
 refine W_skip <| anz <| wq <| Wq rfl pw <| Qa (Ai rfl) <| fun p3l p16=>anz <| ?_
 cases ho
 exact W_ret ⟨_,res_1 Tryz.results145,rfl,(hB.trans p16)⟩
 intro q9
 rw [q9] at ho
 refine W_skip <| inBlk_n <| anz <| Wq rfl q3 <| Qa (Ba rfl rfl) <| Qa (Mi rfl) <| fun kl g7=>?_
 cases ho
 exact ⟨(hB.trans g7),fe rfl⟩
 intro hb8
 rw [hb8] at ho
 refine W_exit <| andThen_x <| ?_
 cases ho
 exact ⟨rfl,⟨(hB.trans hC7),fe rfl⟩⟩
 rintro s0_8 _ p2s ⟨hB,F,rfl⟩ ho
 refine anz <| wq <| wq <| Wq rfl (cr [] p2s) <| Qa (Mv v_x0 rfl) <| Qa (Ln sl22 (kB h_x0 hB) rfl) <| Qa (Mv v_x1 rfl) <| Qa (Ln sl22 (kB h_x1 hB) rfl) <| Qa (Bl rfl rfl) <| fun p1c qt=>anz <| W_cond (b:=decide ((x0.length:Int) < (x1.length:Int))) rfl ?_ ?_
 intro p1d
 rw [p1d] at ho
 refine wq <| Wq rfl qt <| Qa (Ai rfl) <| fun g8 p1e=>anz <| ?_
 cases ho
 exact W_ret ⟨_,res_1 Tryz.results145,rfl,(hB.trans p1e)⟩
 intro p1d
 rw [p1d] at ho
 refine W_skip <| anz <| wq <| Wq rfl qt <| Qa (Ai rfl) <| fun p80 p3v=>anz <| ?_
 cases ho
 exact W_ret ⟨_,res_1 Tryz.results145,rfl,(hB.trans p3v)⟩

abbrev impl_Topology_hasForm_post (w:World) (x:(Bool)) (e:Ending) (w':World):Prop:=e = .returned (.bool x)∧Chg [] w w'
abbrev impl_Topology_hasForm_T (w:World):=Tm Tryz.prog Tryz.f80 64 (impl_Topology_hasForm_post w)
theorem impl_Topology_hasForm_calls {w:World} {x0:MTopology} {p_x0:Addr} {zk:Value} {zo:List Nat} {zl:Value} {zp:List Nat} {zm:Value} {zq:List Nat} {zn:Value} {zr:List Nat} {ze:Value} {z8:List Nat} (zu:(sImm (sInt .i64)).rep w.heap [zk] x0.Shape.From zo) (zv:(sImm (sInt .i64)).rep w.heap [zl] x0.Shape.To zp) (zw:(sImm (sInt .i64)).rep w.heap [zm] x0.Shape.Identity zq) (zx:(sImm (sImm (sInt .i64))).rep w.heap [zn] x0.Shape.Composites zr) (zj:(sImm (sImm (sImm (sInt .i64)))).rep w.heap [ze] x0.Covers z8) (a_x0:At w p_x0 [.int .i64 (x0.Shape.Objects),zk,zl,zm,zn,ze]) {y:(Bool)} (hm:impl_Topology_hasForm x0=some y) :
  Calls Tryz.prog 80 #[.pointer (some (p_x0))] w (impl_Topology_hasForm_post w y):=by
 refine Cm (S:=Unit) Tryz.func80 rfl Tryz.ntmps80 rfl hm fun o ho hB=>?_
 clear hm
 refine wq <| Wq rfl (cr [] w) <| Qa (Ab rfl) <| fun wd1 hC2=>anz <| wq <| Wq rfl hC2 <| Qa (Mp rfl) <| Qa (Nk rfl) <| ?_
 have at3:At w (p_x0.add 0) [.int .i64 (x0.Shape.Objects),zk,zl,zm,zn]:=At.sub a_x0 0 5
 refine Qa (Fp fa34_0 rfl) <| Qa (Ap rfl) <| fun wd4 hC5=>anz <| wq <| wq <| Wqd rfl (by kernel_rfl) hC5 <| ?_
 obtain ⟨g6,hm7,ho⟩:=bs ho
 refine QL.meet (fun r=>∃ F,r=updL F [(0,.pointer (some (p_x0))),(3,.pointer (some ((p_x0.add 0)))),(25,.bool (g6))]) ?_ ?_
 skip
 refine Qa (Mp rfl) <| ?_
 obtain ⟨y8,hy9,hm7⟩:=bs hm7
 refine Qc Tryz.func103 rfl rfl (fun _ hC=>impl_Category_isCategory_calls (kp _ zu (hB.trans hC)) (kp _ zv (hB.trans hC)) (kp _ zw (hB.trans hC)) (kp _ zx (hB.trans hC)) (At.keep0 at3 (hB.trans hC)) hy9) <| Qa (Nt rfl) <| Qa (Mb rfl) <| ?_
 rcases Bool.eq_false_or_eq_true (!(y8)) with pg | pg
 rw [pg] at hm7
 refine Sk rfl pg rfl <| Sk rfl pg rfl <| Sk rfl pg rfl <| Sk rfl pg rfl <| Sk rfl pg rfl <| Sk rfl pg rfl <| Sk rfl pg rfl <| Sk rfl pg rfl <| Sk rfl pg rfl <| Sk rfl pg rfl <| Qa (PTb rfl pg rfl) <| ?_
 cases hm7
 exact fe rfl
 rw [pg] at hm7
 refine Qg rfl pg (Mp rfl) <| Qg rfl pg (Nk rfl) <| Qg rfl pg (Fp fa34_1 rfl) <| Qg rfl pg (La na26 (At.keep0 a_x0 hB) rfl rfl) <| Qg rfl pg (Ln sl26 (kB zj hB) rfl) <| Qg rfl pg (Mp rfl) <| Qg rfl pg (Nk rfl) <| Qg rfl pg (F0 fa32_0 rfl) <| Qg rfl pg (Lb na2 (At.keep0 at3 hB) rfl rfl) <| Qg rfl pg (Bn rfl rfl) <| Qa (PFb rfl pg rfl) <| ?_
 cases hm7
 exact fe rfl
 rintro _ ⟨F,rfl⟩
 refine fun p12 pu=>anz <| W_cond (b:=g6) rfl ?_ ?_
 intro jq
 rw [jq] at ho
 refine wq <| Wq rfl pu <| Qa (Ab rfl) <| fun k2 kg=>anz <| ?_
 cases ho
 exact W_ret ⟨_,res_1 Tryz.results80,rfl,(hB.trans kg)⟩
 intro jq
 rw [jq] at ho
 refine W_skip <| anz <| wq <| wq <| Wq rfl pu <| Qa (Mp rfl) <| Qa (Nk rfl) <| Qa (Fp fa34_1 rfl) <| Qa (La na26 (At.keep0 a_x0 hB) rfl rfl) <| Qa (Ln sl26 (kB zj hB) rfl) <| Qa (Mi rfl) <| fun g1 kh=>anz <| Wf (S1:=Int) (fun (s0_31:Int) r w'=>Chg [] w w'∧∃ F,r=updL F [(3,.pointer (some ((p_x0.add 0)))),(29,ze),(30,.int .i64 ((x0.Covers.length:Int))),(31,.int .i64 (s0_31))]) (impl_Topology_hasForm_T w) ho ⟨(hB.trans kh),fe rfl⟩ ?_ ?_
 rintro s0_31 _ ki ⟨hB,F,rfl⟩ o ho
 replace ho:impl_Topology_hasForm_L0 x0 s0_31=some o:=ho
 unfold impl_Topology_hasForm_L0 at ho
 refine wq <| Wq rfl (cr [] ki) <| Qa (Bl rfl rfl) <| fun p2n p2t=>anz <| wq <| W_cond (b:=decide (s0_31 < (x0.Covers.length:Int))) rfl ?_ ?_
 intro p1f
 rw [p1f] at ho
 refine W_skip <| anz <| wq <| W_block <| wq <| Wq rfl p2t <| Qa (Mi rfl) <| ?_
 obtain ⟨e22,hx23e,ho⟩:=bs ho
 have hx23:=idx_some hx23e
 refine Qa (Ix sl26 (kB zj hB) hx23 rfl rfl rfl) <| ?_
 obtain ⟨u24,fu25,hu26,kt,hs28⟩:=one_get rfl zj hx23.1 hx23.2
 refine Qa (Ld na23 (hB.cell0 hu26) rfl) <| Qa (Ai rfl) <| Qa (Av u24 rfl) <| fun p14 po=>anz <| wq <| Wq rfl po <| Qa (Mv u24 rfl) <| Qa (Ln sl23 (kB kt hB) rfl) <| Qa (Mi rfl) <| fun p3w p1g=>anz <| Wf (S1:=Int) (fun (s1_38:Int) r w'=>Chg [] w w'∧∃ F,r=updL F [(3,.pointer (some ((p_x0.add 0)))),(4,.int .i64 (s0_31)),(5,u24),(29,ze),(30,.int .i64 ((x0.Covers.length:Int))),(31,.int .i64 (s0_31)),(36,u24),(37,.int .i64 ((e22.length:Int))),(38,.int .i64 (s1_38))]) (impl_Topology_hasForm_T w) ho ⟨(hB.trans p1g),fe rfl⟩ ?_ ?_
 rintro s1_38 _ p3x ⟨hB,F,rfl⟩ o ho
 replace ho:impl_Topology_hasForm_L1 x0 s0_31 e22 s1_38=some o:=ho
 unfold impl_Topology_hasForm_L1 at ho
 refine wq <| Wq rfl (cr [] p3x) <| Qa (Bl rfl rfl) <| fun kl g7=>anz <| wq <| W_cond (b:=decide (s1_38 < (e22.length:Int))) rfl ?_ ?_
 intro p1h
 rw [p1h] at ho
 refine W_skip <| anz <| wq <| W_block <| wq <| Wq rfl g7 <| Qa (Mi rfl) <| ?_
 obtain ⟨e37,hx38e,ho⟩:=bs ho
 have hx38:=idx_some hx38e
 refine Qa (Ix sl23 (kB kt hB) hx38 rfl rfl rfl) <| ?_
 obtain ⟨u39,fu40,hu41,j6,hs43⟩:=one_get rfl kt hx38.1 hx38.2
 refine Qa (Ld na22 (hB.cell0 hu41) rfl) <| Qa (Ai rfl) <| Qa (Av u39 rfl) <| fun p2p p3y=>anz <| wq <| Wq rfl p3y <| ?_
 obtain ⟨g46,hm47,ho⟩:=bs ho
 refine QL.meet (fun r=>∃ F,r=updL F [(3,.pointer (some ((p_x0.add 0)))),(4,.int .i64 (s0_31)),(5,u24),(29,ze),(30,.int .i64 ((x0.Covers.length:Int))),(31,.int .i64 (s0_31)),(36,u24),(37,.int .i64 ((e22.length:Int))),(38,.int .i64 (s1_38)),(61,.bool (g46))]) ?_ ?_
 skip
 refine Qa (Mp rfl) <| Qa (Mi rfl) <| Qa (Mv u39 rfl) <| ?_
 obtain ⟨y48,p3z,hm47⟩:=bs hm47
 refine Qc Tryz.func82 rfl rfl (fun _ hC=>impl_Category_isSieve_calls (kp _ zu (hB.trans hC)) (kp _ zv (hB.trans hC)) (kp _ zw (hB.trans hC)) (kp _ zx (hB.trans hC)) (At.keep0 at3 (hB.trans hC)) (kp _ j6 (hB.trans hC)) p3z) <| Qa (Nt rfl) <| Qa (Mb rfl) <| ?_
 rcases Bool.eq_false_or_eq_true (!(y48)) with ps | ps
 rw [ps] at hm47
 refine Sk rfl ps rfl <| Sk rfl ps rfl <| Sk rfl ps rfl <| QL.skipN rfl rfl <| QL.skipN rfl rfl <| QL.skipN rfl rfl <| QL.skipN rfl rfl <| QL.skipN rfl rfl <| QL.skipN rfl rfl <| QL.skipN rfl rfl <| QL.skipN rfl rfl <| Sk rfl ps rfl <| Qa (PTb rfl ps rfl) <| ?_
 cases hm47
 exact fe rfl
 rw [ps] at hm47
 refine Qg rfl ps (Mi rfl) <| Qg rfl ps (Bg rfl rfl) <| Qg rfl ps (Mb rfl) <| ?_
 rcases Bool.eq_false_or_eq_true (decide (s1_38 > (0:Int))) with pk | pk
 rw [pk] at hm47
 refine Qg rfl pk (Mv u24 rfl) <| Qg rfl pk (Mi rfl) <| Qg rfl pk (Bs rfl rfl) <| ?_
 obtain ⟨e52,hx53e,hm47⟩:=bs hm47
 have hx53:=idx_some hx53e
 refine Qg rfl pk (Ix sl23 (kB kt hB) hx53 rfl rfl rfl) <| ?_
 obtain ⟨u54,fu55,hu56,p40,hs58⟩:=one_get rfl kt hx53.1 hx53.2
 refine Qg rfl pk (Ld na22 (hB.cell0 hu56) rfl) <| Qg rfl pk (Mv u39 rfl) <| ?_
 obtain ⟨y59,p41,hm47⟩:=bs hm47
 refine Qcg rfl pk Tryz.func145 rfl rfl (fun _ hC=>impl_compare_calls (kp _ p40 (hB.trans hC)) (kp _ j6 (hB.trans hC)) p41) <| Qg rfl pk (Bh rfl rfl) <| Qg rfl ps (PTb rfl pk rfl) <| Qa (PFb rfl ps rfl) <| ?_
 cases hm47
 exact fe rfl
 rw [pk] at hm47
 refine Sk rfl pk rfl <| Sk rfl pk rfl <| Sk rfl pk rfl <| Sk rfl pk rfl <| Sk rfl pk rfl <| Sk rfl pk rfl <| Sk rfl pk rfl <| Sk rfl pk rfl <| Qg rfl ps (PFb rfl pk rfl) <| Qa (PFb rfl ps rfl) <| ?_
 cases hm47
 exact fe rfl
 rintro _ ⟨F,rfl⟩
 refine fun p19 q4=>anz <| W_cond (b:=g46) rfl ?_ ?_
 intro p1i
 rw [p1i] at ho
 refine wq <| Wq rfl q4 <| Qa (Ab rfl) <| fun p2r k4=>anz <| ?_
 cases ho
 exact W_ret ⟨_,res_1 Tryz.results80,rfl,(hB.trans k4)⟩
 intro p1i
 rw [p1i] at ho
 refine W_skip <| inBlk_n <| anz <| Wq rfl q4 <| Qa (Ba rfl rfl) <| Qa (Mi rfl) <| fun k5 j7=>?_
 cases ho
 exact ⟨(hB.trans j7),fe rfl⟩
 intro p1h
 rw [p1h] at ho
 refine W_exit <| andThen_x <| ?_
 cases ho
 exact ⟨rfl,⟨(hB.trans g7),fe rfl⟩⟩
 rintro s1_38 _ p42 ⟨hB,F,rfl⟩ ho
 refine inBlk_n <| anz <| Wq rfl (cr [] p42) <| Qa (Ba rfl rfl) <| Qa (Mi rfl) <| fun p81 p43=>?_
 cases ho
 exact ⟨(hB.trans p43),fe rfl⟩
 intro p1f
 rw [p1f] at ho
 refine W_exit <| andThen_x <| ?_
 cases ho
 exact ⟨rfl,⟨(hB.trans p2t),fe rfl⟩⟩
 rintro s0_31 _ p44 ⟨hB,F,rfl⟩ ho
 refine anz <| wq <| Wq rfl (cr [] p44) <| Qa (Ab rfl) <| fun p2u p1j=>anz <| ?_
 cases ho
 exact W_ret ⟨_,res_1 Tryz.results80,rfl,(hB.trans p1j)⟩

abbrev impl_clone_post (w:World) (x:((List Int))) (e:Ending) (w':World):Prop:=∃ (v0:Value) (f0:List Nat),e = .returned (v0)∧Chg [] w w'∧OE [] w.heap.size w' (sOwn 2 (sInt .i64)) [v0] x f0
abbrev impl_clone_T (w:World):=Tm Tryz.prog Tryz.f159 6 (impl_clone_post w)
theorem impl_clone_calls {w:World} {x0:(List Int)} {v_x0:Value} {f_x0:List Nat} (h_x0:(sImm (sInt .i64)).rep w.heap [v_x0] x0 f_x0) {y:((List Int))} (hm:impl_clone x0=some y) :
  Calls Tryz.prog 159 #[v_x0] w (impl_clone_post w y):=by
 refine Cm (S:=Unit) Tryz.func159 rfl Tryz.ntmps159 rfl hm fun o ho hB=>?_
 clear hm
 refine wq <| Wq rfl (cr [] w) <| Qa (As rfl) <| fun wd1 hC2=>anz <| wq <| W_region rfl <| WL.lit0 (sInt .i64) u22z info2 fun v3 wd4 f5 hC6 o7=>?_
 replace o7:=OE.low (G:=[]) o7 (hB.trans hC2).size
 have hT8:=hC2.trans hC6
 replace hB:=(hB.trans hT8)
 refine Wb (Mv v_x0 rfl) <| ?_
 obtain ⟨n15,hn16,ho⟩:=bs ho
 have hn16a:=fits_some hn16
 refine WL.appendS (E:=(sInt .i64)) _ _ sInt_nofp u22z info2 zr2 sz2 rfl rfl rfl o7 rfl (kp _ h_x0 hB) (by rw [by2]; exact hn16a.1) hn16a.2 hB.size fun v9 k7 p8 pu p6 hs14=>?_
 replace hB:=hB.then pu o7.2.2
 refine Wb (Av v9 rfl) <| anz <| ?_
 cases ho
 exact W_ret ⟨_,res_1 Tryz.results159,_,_,rfl,hB,p6⟩

abbrev impl_clones_post (w:World) (x:((List (List Int)))) (e:Ending) (w':World):Prop:=∃ (v0:Value) (f0:List Nat),e = .returned (v0)∧Chg [] w w'∧OE [] w.heap.size w' (sOwn 22 (sOwn 2 (sInt .i64))) [v0] x f0
abbrev impl_clones_T (w:World):=Tm Tryz.prog Tryz.f178 22 (impl_clones_post w)
theorem impl_clones_calls {w:World} {x0:(List (List Int))} {v_x0:Value} {f_x0:List Nat} (h_x0:(sImm (sImm (sInt .i64))).rep w.heap [v_x0] x0 f_x0) {y:((List (List Int)))} (hm:impl_clones x0=some y) :
  Calls Tryz.prog 178 #[v_x0] w (impl_clones_post w y):=by
 refine Cm (S:=Unit) Tryz.func178 rfl Tryz.ntmps178 rfl hm fun o ho hB=>?_
 clear hm
 refine wq <| Wq rfl (cr [] w) <| Qa (As rfl) <| fun wd1 hC2=>anz <| wq <| W_region rfl <| Wb (Mv v_x0 rfl) <| Wa hC2 (Ln sl23 (kB h_x0 hB) rfl) <| ?_
 obtain ⟨n3,hn4,ho⟩:=bs ho
 obtain ⟨hn4a,hn4b,hn4c⟩:=mk_some hn4
 refine WL.make0 (sOwn 2 (sInt .i64)) u23z info22 zr22 sz22 rfl (congrArg (Value.int .i64) hn4a) (by rw [by22]; exact hn4b) hn4c fun v5 wd6 f7 hC8 o9=>?_
 replace o9:=OE.low (G:=[]) o9 (hB.trans hC2).size
 have p45:=hC2.trans hC8
 replace hB:=(hB.trans p45)
 refine Wb (Av v5 rfl) <| anz <| wq <| wq <| Wq rfl (cr [] wd6) <| Qa (Mv v_x0 rfl) <| Qa (Ln sl23 (kB h_x0 hB) rfl) <| Qa (Mi rfl) <| fun p12 pu=>anz <| Wf (S1:=(List (List Int))×Int) (fun s r w'=>match s with | (s0_3,s0_11)=>∃ (v13:Value) (pd:List Nat),Chg [] w w'∧OE [] w.heap.size w' (sOwn 22 (sOwn 2 (sInt .i64))) [v13] (s0_3) pd∧∃ F,r=updL F [(3,v13),(9,v_x0),(10,.int .i64 ((x0.length:Int))),(11,.int .i64 (s0_11))]) (impl_clones_T w) ho ⟨_,_,(hB.trans pu),(ko o9 pu),fe rfl⟩ ?_ ?_
 rintro ⟨s0_3,s0_11⟩ _ g1 ⟨v13,pd,hB,p0,F,rfl⟩ o ho
 replace ho:impl_clones_L0 x0 s0_3 s0_11=some o:=ho
 unfold impl_clones_L0 at ho
 refine wq <| Wq rfl (cr [] g1) <| Qa (Bl rfl rfl) <| fun g4 jp=>anz <| wq <| W_cond (b:=decide (s0_11 < (x0.length:Int))) rfl ?_ ?_
 intro p1k
 rw [p1k] at ho
 refine W_skip <| anz <| wq <| W_block <| wq <| Wq rfl jp <| ?_
 obtain ⟨e20,hx21e,ho⟩:=bs ho
 have hx21:=idx_some hx21e
 refine Qa (Ix sl23 (kB h_x0 hB) hx21 rfl rfl rfl) <| ?_
 obtain ⟨u22,fu23,hu24,p46,hs26⟩:=one_get rfl h_x0 hx21.1 hx21.2
 refine Qa (Ld na22 (hB.cell0 hu24) rfl) <| Qa (Av u22 rfl) <| fun k6 pw=>anz <| W_region rfl <| Wb (Mv v13 rfl) <| Wb (Mv u22 rfl) <| ?_
 obtain ⟨y29,p47,ho⟩:=bs ho
 refine WL.call rfl (op_callF Tryz.func159 rfl rfl) (impl_clone_calls (kp _ p46 (hB.trans pw)) p47) <| ?_
 rintro _ p3w ⟨v33,f34,rfl,p1g,qu⟩
 refine ⟨_,rfl,?_⟩
 have j8:=dl (ofr qu) (sl _ (kp _ p0.1 pw))
 replace qu:=OE.low (G:=[]) qu (hB.trans pw).size
 have p2v:=pw.trans p1g
 replace p0:=ko p0 p2v
 replace hB:=(hB.trans p2v)
 refine WL.lit1 u23z info22 zr22 sz22 (STy.one _ qu.1 _ (ms rfl)) fun b38 p49 p1l ku p4a=>?_
 replace ku:Row p49 b38 [v33] 22:=ku
 have d44:=dl (onw p4a) (sl _ p0.1)
 replace p0:=ko p0 p1l
 replace qu:=ko qu p1l
 replace hB:=(hB.trans p1l)
 obtain ⟨n53,hn54,ho⟩:=bs ho
 have hn54a:=fits_some hn54
 refine WL.append1 (E:=(sOwn 2 (sInt .i64))) _ _ u23z info22 zr22 sz22 rfl rfl rfl p0 rfl ku qu.1 qu.2.1 qu.2.2 j8 (by rw [by22]; exact hn54a.1) hn54a.2 hB.size fun v47 p11 f49 p2w o51 hs52=>?_
 replace ku:=Row.keep ku p2w (d44 _ (ms rfl))
 replace hB:=hB.then p2w p0.2.2
 refine Wb (Av v47 rfl) <| inBlk_n <| anz <| Wq rfl (cr [] p11) <| Qa (Ba rfl rfl) <| Qa (Mi rfl) <| fun p4d kv=>?_
 cases ho
 exact ⟨_,_,(hB.trans kv),(ko o51 kv),fe rfl⟩
 intro p1k
 rw [p1k] at ho
 refine W_exit <| andThen_x <| ?_
 cases ho
 exact ⟨rfl,⟨_,_,(hB.trans jp),(ko p0 jp),fe rfl⟩⟩
 rintro ⟨s0_3,s0_11⟩ _ p2x ⟨v13,pd,hB,p0,F,rfl⟩ ho
 dsimp only at ho
 refine anz <| wq <| Wq rfl (cr [] p2x) <| Qa (Mv v13 rfl) <| Qa (Av v13 rfl) <| fun p19 q4=>anz <| ?_
 cases ho
 exact W_ret ⟨_,res_1 Tryz.results178,_,_,rfl,(hB.trans q4),(ko p0 q4)⟩

abbrev impl_Category_copy_post (w:World) (x:(MCategory)) (e:Ending) (w':World):Prop:=∃ (v0:Value) (f0:List Nat) (v1:Value) (f1:List Nat) (v2:Value) (f2:List Nat) (v3:Value) (f3:List Nat),e = .returned (.agg #[.int .i64 x.Objects,v0,v1,v2,v3])∧Chg [] w w'∧OE [] w.heap.size w' (sOwn 2 (sInt .i64)) [v0] x.From f0∧OE [] w.heap.size w' (sOwn 2 (sInt .i64)) [v1] x.To f1∧OE [] w.heap.size w' (sOwn 2 (sInt .i64)) [v2] x.Identity f2∧OE [] w.heap.size w' (sOwn 22 (sOwn 2 (sInt .i64))) [v3] x.Composites f3∧Dis f0 f1∧Dis f0 f2∧Dis f0 f3∧Dis f1 f2∧Dis f1 f3∧Dis f2 f3
abbrev impl_Category_copy_T (w:World):=Tm Tryz.prog Tryz.f158 28 (impl_Category_copy_post w)
theorem impl_Category_copy_calls {w:World} {x0:MCategory} {p_x0:Addr} {z2:Value} {zf:List Nat} {z1:Value} {zg:List Nat} {z7:Value} {zh:List Nat} {z6:Value} {zi:List Nat} (za:(sImm (sInt .i64)).rep w.heap [z2] x0.From zf) (zb:(sImm (sInt .i64)).rep w.heap [z1] x0.To zg) (zd:(sImm (sInt .i64)).rep w.heap [z7] x0.Identity zh) (zc:(sImm (sImm (sInt .i64))).rep w.heap [z6] x0.Composites zi) (a_x0:At w p_x0 [.int .i64 (x0.Objects),z2,z1,z7,z6]) {y:(MCategory)} (hm:impl_Category_copy x0=some y) :
  Calls Tryz.prog 158 #[.pointer (some (p_x0))] w (impl_Category_copy_post w y):=by
 refine Cm (S:=Unit) Tryz.func158 rfl Tryz.ntmps158 rfl hm fun o ho hB=>?_
 clear hm
 refine wq <| W_region rfl <| WL.alloc info32 zr32 fun b1 wd2 hC3 hr4 hl5=>?_
 replace hr4:Row wd2 b1 [.int .i64 ((0:Int)),.slice none 0 0,.slice none 0 0,.slice none 0 0,.slice none 0 0] 32:=hr4
 have lo6:w.heap.size≤b1:=Nat.le_trans hB.size hl5
 replace hB:=(hB.trans hC3)
 refine anz <| wq <| ?_
 obtain ⟨y8,hy9,ho⟩:=bs ho
 obtain ⟨y13,p4e,ho⟩:=bs ho
 obtain ⟨y18,p1m,ho⟩:=bs ho
 obtain ⟨y23,p4f,ho⟩:=bs ho
 refine W_any (m:=24) (U:=.replicate 24 []) (S:=[sV (.pointer (some (p_x0))),sV (.pointer (some (p_x0))),sV (.pointer (some (p_x0))),sV (.int .i64 (x0.Objects)),sV (.pointer (some (p_x0))),sV (.pointer (some (p_x0))),sV (.pointer (some (p_x0.add 1))),sV (z2),sO (sOwn 2 (sInt .i64)) (y8),sV (.pointer (some (p_x0))),sV (.pointer (some (p_x0))),sV (.pointer (some (p_x0.add 2))),sV (z1),sO (sOwn 2 (sInt .i64)) (y13),sV (.pointer (some (p_x0))),sV (.pointer (some (p_x0))),sV (.pointer (some (p_x0.add 3))),sV (z7),sO (sOwn 2 (sInt .i64)) (y18),sV (.pointer (some (p_x0))),sV (.pointer (some (p_x0))),sV (.pointer (some (p_x0.add 4))),sV (z6),sO (sOwn 22 (sOwn 2 (sInt .i64))) (y23)]) (Z:=[]) hmix rfl (by decide) (by decide +kernel) (fun _ _ _ h=>np_out h) (by decide) rfl (by decide +kernel) (stable_all (by repeat first | exact stable_nil | refine stable_cons stable_val ?_ | refine stable_cons stable_own ?_)) ?_ ?_
 refine owes_cons ?_ <| owes_cons ?_ <| owes_cons ?_ <| owes_cons ?_ <| owes_cons ?_ <| owes_cons ?_ <| owes_cons ?_ <| owes_cons ?_ <| owes_cons ?_ <| owes_cons ?_ <| owes_cons ?_ <| owes_cons ?_ <| owes_cons ?_ <| owes_cons ?_ <| owes_cons ?_ <| owes_cons ?_ <| owes_cons ?_ <| owes_cons ?_ <| owes_cons ?_ <| owes_cons ?_ <| owes_cons ?_ <| owes_cons ?_ <| owes_cons ?_ <| owes_cons ?_ <| owes_nil
 exact Oh rfl rfl rfl [(0,.pointer (some (p_x0)))] (cr [] wd2) rfl rfl fun _=>Mp rfl
 exact Ov rfl rfl rfl [] [(3,.pointer (some (p_x0)))] [0] (cr [] wd2) rfl rfl (by decide +kernel) rfl fun _=>Nk rfl
 exact Ov rfl rfl rfl [] [(4,.pointer (some (p_x0)))] [1] (cr [] wd2) rfl rfl (by decide +kernel) rfl fun _=>F0 fa32_0 rfl
 exact Ov rfl rfl rfl [] [(5,.pointer (some (p_x0)))] [2] (cr [] wd2) rfl rfl (by decide +kernel) rfl fun _=>Lb na2 (At.keep0 a_x0 hB) rfl rfl
 exact Oh rfl rfl rfl [(0,.pointer (some (p_x0)))] (cr [] wd2) rfl rfl fun _=>Mp rfl
 exact Ov rfl rfl rfl [] [(7,.pointer (some (p_x0)))] [4] (cr [] wd2) rfl rfl (by decide +kernel) rfl fun _=>Nk rfl
 exact Ov rfl rfl rfl [] [(8,.pointer (some (p_x0)))] [5] (cr [] wd2) rfl rfl (by decide +kernel) rfl fun _=>Fp fa32_1 rfl
 exact Ov rfl rfl rfl [] [(9,.pointer (some (p_x0.add 1)))] [6] (cr [] wd2) rfl rfl (by decide +kernel) rfl fun _=>La na22 (At.keep0 a_x0 hB) rfl rfl
 refine Owes.mem rfl rfl rfl <| fun g r wr hCr H hot=>?_
 have hC:=hCr
 obtain ⟨F,rfl⟩:=fr (r:=r) (l:=[(10,z2)]) ⟨(H 7 (by decide +kernel) 10 rfl),trivial⟩
 exact OpW.own (op_callF Tryz.func159 rfl rfl) (impl_clone_calls (kp _ za (hB.trans hC)) hy9)
 exact Oh rfl rfl rfl [(0,.pointer (some (p_x0)))] (cr [] wd2) rfl rfl fun _=>Mp rfl
 exact Ov rfl rfl rfl [] [(12,.pointer (some (p_x0)))] [9] (cr [] wd2) rfl rfl (by decide +kernel) rfl fun _=>Nk rfl
 exact Ov rfl rfl rfl [] [(13,.pointer (some (p_x0)))] [10] (cr [] wd2) rfl rfl (by decide +kernel) rfl fun _=>Fp fa32_2 rfl
 exact Ov rfl rfl rfl [] [(14,.pointer (some (p_x0.add 2)))] [11] (cr [] wd2) rfl rfl (by decide +kernel) rfl fun _=>La na22 (At.keep0 a_x0 hB) rfl rfl
 refine Owes.mem rfl rfl rfl <| fun g r wr hCr H hot=>?_
 have hC:=hCr
 obtain ⟨F,rfl⟩:=fr (r:=r) (l:=[(15,z1)]) ⟨(H 12 (by decide +kernel) 15 rfl),trivial⟩
 exact OpW.own (op_callF Tryz.func159 rfl rfl) (impl_clone_calls (kp _ zb (hB.trans hC)) p4e)
 exact Oh rfl rfl rfl [(0,.pointer (some (p_x0)))] (cr [] wd2) rfl rfl fun _=>Mp rfl
 exact Ov rfl rfl rfl [] [(17,.pointer (some (p_x0)))] [14] (cr [] wd2) rfl rfl (by decide +kernel) rfl fun _=>Nk rfl
 exact Ov rfl rfl rfl [] [(18,.pointer (some (p_x0)))] [15] (cr [] wd2) rfl rfl (by decide +kernel) rfl fun _=>Fp fa32_3 rfl
 exact Ov rfl rfl rfl [] [(19,.pointer (some (p_x0.add 3)))] [16] (cr [] wd2) rfl rfl (by decide +kernel) rfl fun _=>La na22 (At.keep0 a_x0 hB) rfl rfl
 refine Owes.mem rfl rfl rfl <| fun g r wr hCr H hot=>?_
 have hC:=hCr
 obtain ⟨F,rfl⟩:=fr (r:=r) (l:=[(20,z7)]) ⟨(H 17 (by decide +kernel) 20 rfl),trivial⟩
 exact OpW.own (op_callF Tryz.func159 rfl rfl) (impl_clone_calls (kp _ zd (hB.trans hC)) p1m)
 exact Oh rfl rfl rfl [(0,.pointer (some (p_x0)))] (cr [] wd2) rfl rfl fun _=>Mp rfl
 exact Ov rfl rfl rfl [] [(22,.pointer (some (p_x0)))] [19] (cr [] wd2) rfl rfl (by decide +kernel) rfl fun _=>Nk rfl
 exact Ov rfl rfl rfl [] [(23,.pointer (some (p_x0)))] [20] (cr [] wd2) rfl rfl (by decide +kernel) rfl fun _=>Fp fa32_4 rfl
 exact Ov rfl rfl rfl [] [(24,.pointer (some (p_x0.add 4)))] [21] (cr [] wd2) rfl rfl (by decide +kernel) rfl fun _=>La na23 (At.keep0 a_x0 hB) rfl rfl
 refine Owes.mem rfl rfl rfl <| fun g r wr hCr H hot=>?_
 have hC:=hCr
 obtain ⟨F,rfl⟩:=fr (r:=r) (l:=[(25,z6)]) ⟨(H 22 (by decide +kernel) 25 rfl),trivial⟩
 exact OpW.own (op_callF Tryz.func178 rfl rfl) (impl_clones_calls (kp _ zc (hB.trans hC)) p4f)
 rintro g r kw ⟨g9,hdone,hot,hfresh,hdis⟩
 have p1:OwnV (sOwn 2 (sInt .i64)) (y8) _ _ _:=hdone 8 (by decide) (by decide) 11 rfl
 generalize hvv10:r 11=v10 at p1
 have hfo12:=hfresh 8 (by decide)
 have pb:OwnV (sOwn 2 (sInt .i64)) (y13) _ _ _:=hdone 13 (by decide) (by decide) 16 rfl
 generalize hvv15:r 16=v15 at pb
 have hfo17:=hfresh 13 (by decide)
 have pa:OwnV (sOwn 2 (sInt .i64)) (y18) _ _ _:=hdone 18 (by decide) (by decide) 21 rfl
 generalize hvv20:r 21=v20 at pa
 have hfo22:=hfresh 18 (by decide)
 have qh:OwnV (sOwn 22 (sOwn 2 (sInt .i64))) (y23) _ _ _:=hdone 23 (by decide) (by decide) 26 rfl
 generalize hvv25:r 26=v25 at qh
 have hfo27:=hfresh 23 (by decide)
 have hdd:=hdis
 obtain ⟨F,rfl⟩:=fw hdone hot [(2,.pointer (some (⟨b1,0,none⟩)))] [(6,.int .i64 (x0.Objects))] [3] rfl rfl rfl rfl (z:=[(11,v10),(16,v15),(21,v20),(26,v25)]) ⟨hvv10,hvv15,hvv20,hvv25,trivial⟩
 obtain ⟨p8,hgf11⟩ : ∃ k,k=g 8:=⟨_,rfl⟩
 rw [← hgf11] at p1 hfo12
 replace p1:OE [] w.heap.size kw (sOwn 2 (sInt .i64)) [v10] (y8) p8:=⟨p1.1,p1.2,fun b hb=>.inr (Nat.le_trans hB.size (hfo12 b hb).1)⟩
 have d30:=dl (fun b hb=>(hfo12 b hb).1) (one_lt (Row.lt hr4))
 obtain ⟨qi,hgf16⟩ : ∃ k,k=g 13:=⟨_,rfl⟩
 rw [← hgf16] at pb hfo17
 replace pb:OE [] w.heap.size kw (sOwn 2 (sInt .i64)) [v15] (y13) qi:=⟨pb.1,pb.2,fun b hb=>.inr (Nat.le_trans hB.size (hfo17 b hb).1)⟩
 have kj:=dl (fun b hb=>(hfo17 b hb).1) (one_lt (Row.lt hr4))
 have d32:Dis qi p8:=fun b hb hm=>hdd 13 8 (by decide) (by decide) (by decide) b ((show ∀ b∈qi,b∈g 13 from (fun b hb=>(by rw [← hgf16]; exact hb))) b hb) ((show ∀ b∈p8,b∈g 8 from (fun b hb=>(by rw [← hgf11]; exact hb))) b hm)
 obtain ⟨pq,hgf21⟩ : ∃ k,k=g 18:=⟨_,rfl⟩
 rw [← hgf21] at pa hfo22
 replace pa:OE [] w.heap.size kw (sOwn 2 (sInt .i64)) [v20] (y18) pq:=⟨pa.1,pa.2,fun b hb=>.inr (Nat.le_trans hB.size (hfo22 b hb).1)⟩
 have d33:=dl (fun b hb=>(hfo22 b hb).1) (one_lt (Row.lt hr4))
 have jr:Dis pq p8:=fun b hb hm=>hdd 18 8 (by decide) (by decide) (by decide) b ((show ∀ b∈pq,b∈g 18 from (fun b hb=>(by rw [← hgf21]; exact hb))) b hb) ((show ∀ b∈p8,b∈g 8 from (fun b hb=>(by rw [← hgf11]; exact hb))) b hm)
 have d35:Dis pq qi:=fun b hb hm=>hdd 18 13 (by decide) (by decide) (by decide) b ((show ∀ b∈pq,b∈g 18 from (fun b hb=>(by rw [← hgf21]; exact hb))) b hb) ((show ∀ b∈qi,b∈g 13 from (fun b hb=>(by rw [← hgf16]; exact hb))) b hm)
 obtain ⟨js,hgf26⟩ : ∃ k,k=g 23:=⟨_,rfl⟩
 rw [← hgf26] at qh hfo27
 replace qh:OE [] w.heap.size kw (sOwn 22 (sOwn 2 (sInt .i64))) [v25] (y23) js:=⟨qh.1,qh.2,fun b hb=>.inr (Nat.le_trans hB.size (hfo27 b hb).1)⟩
 have j8:=dl (fun b hb=>(hfo27 b hb).1) (one_lt (Row.lt hr4))
 have d37:Dis js p8:=fun b hb hm=>hdd 23 8 (by decide) (by decide) (by decide) b ((show ∀ b∈js,b∈g 23 from (fun b hb=>(by rw [← hgf26]; exact hb))) b hb) ((show ∀ b∈p8,b∈g 8 from (fun b hb=>(by rw [← hgf11]; exact hb))) b hm)
 have d38:Dis js qi:=fun b hb hm=>hdd 23 13 (by decide) (by decide) (by decide) b ((show ∀ b∈js,b∈g 23 from (fun b hb=>(by rw [← hgf26]; exact hb))) b hb) ((show ∀ b∈qi,b∈g 13 from (fun b hb=>(by rw [← hgf16]; exact hb))) b hm)
 have jt:Dis js pq:=fun b hb hm=>hdd 23 18 (by decide) (by decide) (by decide) b ((show ∀ b∈js,b∈g 23 from (fun b hb=>(by rw [← hgf26]; exact hb))) b hb) ((show ∀ b∈pq,b∈g 18 from (fun b hb=>(by rw [← hgf21]; exact hb))) b hm)
 replace hr4:=kr hr4 g9
 replace hB:=(hB.trans g9)
 refine Wb (Bu (bld32_0_1_2_3_4 rfl (STy.one _ p1.1 _ (ms rfl)) (STy.one _ pb.1 _ (ms rfl)) (STy.one _ pa.1 _ (ms rfl)) (STy.one _ qh.1 _ (ms rfl)))) <| WL.storeAll (us:=[.int .i64 (x0.Objects),v10,v15,v20,v25]) info32 (by rw [sz32]; rfl) hr4 rfl rfl rfl (by intro u hu; simp only [List.mem_cons,List.mem_nil_iff,or_false] at hu; rcases hu with rfl | rfl | rfl | rfl | rfl <;> first | exact rfl | exact (STy.one _ p1.1 _ (ms rfl)) | exact (STy.one _ pb.1 _ (ms rfl)) | exact (STy.one _ pa.1 _ (ms rfl)) | exact (STy.one _ qh.1 _ (ms rfl))) fun p2y qj p1q=>?_
 replace p1q:Row p2y b1 [.int .i64 (x0.Objects),v10,v15,v20,v25] 32:=p1q
 replace p1:=okp p1 qj d30
 replace pb:=okp pb qj kj
 replace pa:=okp pa qj d33
 replace qh:=okp qh qj j8
 replace hB:=hB.then qj (one_then lo6)
 refine anz <| ?_
 cases ho
 exact W_ret ⟨_,res_c Tryz.results158 u32 rfl info32 (by rw [sz32]; rfl) rfl p1q.at,_,_,_,_,_,_,_,_,rfl,hB,p1,pb,pa,qh,((d32).symm),((jr).symm),((d37).symm),((d35).symm),((d38).symm),((jt).symm)⟩

abbrev impl_marked_post (w:World) (x:((List Int))) (e:Ending) (w':World):Prop:=∃ (v0:Value) (f0:List Nat),e = .returned (v0)∧Chg [] w w'∧OE [] w.heap.size w' (sOwn 2 (sInt .i64)) [v0] x f0
abbrev impl_marked_T (w:World):=Tm Tryz.prog Tryz.f248 21 (impl_marked_post w)
theorem impl_marked_calls {w:World} {x0:(List Bool)} {v_x0:Value} {f_x0:List Nat} (h_x0:(sImm sBool).rep w.heap [v_x0] x0 f_x0) {y:((List Int))} (hm:impl_marked x0=some y) :
  Calls Tryz.prog 248 #[v_x0] w (impl_marked_post w y):=by
 refine Cm (S:=Unit) Tryz.func248 rfl Tryz.ntmps248 rfl hm fun o ho hB=>?_
 clear hm
 refine wq <| Wq rfl (cr [] w) <| Qa (As rfl) <| fun wd1 hC2=>anz <| wq <| W_region rfl <| WL.lit0 (sInt .i64) u22z info2 fun v3 wd4 f5 hC6 o7=>?_
 replace o7:=OE.low (G:=[]) o7 (hB.trans hC2).size
 have hT8:=hC2.trans hC6
 replace hB:=(hB.trans hT8)
 refine Wb (Av v3 rfl) <| anz <| wq <| wq <| Wq rfl (cr [] wd4) <| Qa (Mv v_x0 rfl) <| Qa (Ln sl138 (kB h_x0 hB) rfl) <| Qa (Mi rfl) <| fun wd9 qr=>anz <| Wf (S1:=(List Int)×Int) (fun s r w'=>match s with | (s0_3,s0_9)=>∃ (v11:Value) (jl:List Nat),Chg [] w w'∧OE [] w.heap.size w' (sOwn 2 (sInt .i64)) [v11] (s0_3) jl∧∃ F,r=updL F [(3,v11),(7,v_x0),(8,.int .i64 ((x0.length:Int))),(9,.int .i64 (s0_9))]) (impl_marked_T w) ho ⟨_,_,(hB.trans qr),(ko o7 qr),fe rfl⟩ ?_ ?_
 rintro ⟨s0_3,s0_9⟩ _ k2 ⟨v11,jl,hB,p6,F,rfl⟩ o ho
 replace ho:impl_marked_L0 x0 s0_3 s0_9=some o:=ho
 unfold impl_marked_L0 at ho
 refine wq <| Wq rfl (cr [] k2) <| Qa (Bl rfl rfl) <| fun p0v q2=>anz <| wq <| W_cond (b:=decide (s0_9 < (x0.length:Int))) rfl ?_ ?_
 intro jm
 rw [jm] at ho
 refine W_skip <| anz <| wq <| W_block <| wq <| Wq rfl q2 <| Qa (Mi rfl) <| ?_
 obtain ⟨e18,hx19e,ho⟩:=bs ho
 have hx19:=idx_some hx19e
 refine Qa (Ix sl138 (kB h_x0 hB) hx19 rfl rfl rfl) <| Qa (Eb na4 (kB h_x0 hB) hx19 rfl) <| Qa (Ai rfl) <| Qa (Ab rfl) <| fun j4 q3=>anz <| wq <| Wq rfl q3 <| Qa (Mb rfl) <| fun p3j jn=>anz <| W_cond (b:=e18) rfl ?_ ?_
 intro jo
 rw [jo] at ho
 refine W_region rfl <| Wb (Mv v11 rfl) <| Wb (Mi rfl) <| WL.lit1 u22z info2 zr2 sz2 rfl fun b25 p0x p0y q8 p0z=>?_
 replace q8:Row p0x b25 [.int .i64 (s0_9)] 2:=q8
 have kj:=dl (onw p0z) (sl _ (kp _ p6.1 jn))
 have kk:=jn.trans p0y
 replace p6:=ko p6 kk
 replace hB:=(hB.trans kk)
 obtain ⟨n39,hn40,ho⟩:=bs ho
 have hn40a:=fits_some hn40
 refine WL.append1 (E:=(sInt .i64)) _ _ u22z info2 zr2 sz2 rfl rfl rfl p6 rfl q8 ⟨rfl,rfl⟩ List.nodup_nil (fun _ h=>nomatch h) (fun _ h=>nomatch h) (by rw [by2]; exact hn40a.1) hn40a.2 hB.size fun v33 kl f35 km o37 hs38=>?_
 replace q8:=Row.keep q8 km (kj _ (ms rfl))
 replace hB:=hB.then km p6.2.2
 refine Wb (Av v33 rfl) <| inBlk_n <| anz <| Wq rfl (cr [] kl) <| Qa (Ba rfl rfl) <| Qa (Mi rfl) <| fun p2l pt=>?_
 cases ho
 exact ⟨_,_,(hB.trans pt),(ko o37 pt),fe rfl⟩
 intro jo
 rw [jo] at ho
 refine W_skip <| inBlk_n <| anz <| Wq rfl jn <| Qa (Ba rfl rfl) <| Qa (Mi rfl) <| fun p2m qs=>?_
 cases ho
 exact ⟨_,_,(hB.trans qs),(ko p6 qs),fe rfl⟩
 intro jm
 rw [jm] at ho
 refine W_exit <| andThen_x <| ?_
 cases ho
 exact ⟨rfl,⟨_,_,(hB.trans q2),(ko p6 q2),fe rfl⟩⟩
 rintro ⟨s0_3,s0_9⟩ _ g2 ⟨v11,jl,hB,p6,F,rfl⟩ ho
 dsimp only at ho
 refine anz <| wq <| Wq rfl (cr [] g2) <| Qa (Mv v11 rfl) <| Qa (Av v11 rfl) <| fun p11 kn=>anz <| ?_
 cases ho
 exact W_ret ⟨_,res_1 Tryz.results248,_,_,rfl,(hB.trans kn),(ko p6 kn)⟩

abbrev impl_Category_sieveOf_post (w:World) (x:((List Int))) (e:Ending) (w':World):Prop:=∃ (v0:Value) (f0:List Nat),e = .returned (v0)∧Chg [] w w'∧OE [] w.heap.size w' (sOwn 2 (sInt .i64)) [v0] x f0
abbrev impl_Category_sieveOf_T (w:World):=Tm Tryz.prog Tryz.f227 43 (impl_Category_sieveOf_post w)
theorem impl_Category_sieveOf_calls {w:World} {x0:MCategory} {p_x0:Addr} {z2:Value} {zf:List Nat} {z1:Value} {zg:List Nat} {z7:Value} {zh:List Nat} {z6:Value} {zi:List Nat} {x1:(List Int)} {v_x1:Value} {f_x1:List Nat} (za:(sImm (sInt .i64)).rep w.heap [z2] x0.From zf) (zb:(sImm (sInt .i64)).rep w.heap [z1] x0.To zg) (zd:(sImm (sInt .i64)).rep w.heap [z7] x0.Identity zh) (zc:(sImm (sImm (sInt .i64))).rep w.heap [z6] x0.Composites zi) (a_x0:At w p_x0 [.int .i64 (x0.Objects),z2,z1,z7,z6]) (h_x1:(sImm (sInt .i64)).rep w.heap [v_x1] x1 f_x1) {y:((List Int))} (hm:impl_Category_sieveOf x0 x1=some y) :
  Calls Tryz.prog 227 #[.pointer (some (p_x0)),v_x1] w (impl_Category_sieveOf_post w y):=by
 refine Cm (S:=Unit) Tryz.func227 rfl Tryz.ntmps227 rfl hm fun o ho hB=>?_
 clear hm
 refine wq <| Wq rfl (cr [] w) <| Qa (As rfl) <| fun wd1 hC2=>anz <| wq <| W_region rfl <| Wb (Mp rfl) <| ?_
 obtain ⟨y3,hy4,ho⟩:=bs ho
 refine WL.call rfl (op_callF Tryz.func105 rfl rfl) (impl_Category_arrows_calls (kp _ za (hB.trans hC2)) (kp _ zb (hB.trans hC2)) (kp _ zd (hB.trans hC2)) (kp _ zc (hB.trans hC2)) (At.keep0 a_x0 (hB.trans hC2)) hy4) <| ?_
 rintro _ wd5 ⟨rfl,hC6⟩
 refine ⟨_,rfl,?_⟩
 obtain ⟨n7,hn8,ho⟩:=bs ho
 obtain ⟨hn8a,hn8b,hn8c⟩:=mk_some hn8
 refine WL.make (z0:=false) sBool Tryz.underlying138 info4 zr4 sz4 rfl rfl (fun _=>⟨rfl,rfl⟩) (congrArg (Value.int .i64) hn8a) (congrArg (Value.int .i64) hn8a) (by rw [by4]; exact hn8b) hn8c fun v9 k7 p8 pu p6=>?_
 replace p6:=OE.low (G:=[]) p6 (hB.trans (hC2.trans hC6)).size
 have p4j:=(hC2.trans hC6).trans pu
 replace hB:=(hB.trans p4j)
 refine Wb (Av v9 rfl) <| anz <| wq <| wq <| Wq rfl (cr [] k7) <| Qa (Mv v_x1 rfl) <| Qa (Ln sl22 (kB h_x1 hB) rfl) <| Qa (Mi rfl) <| fun p0v q2=>anz <| Wf (S1:=Int×(List Bool)) (fun s r w'=>match s with | (s0_15,s0_o13)=>Chg [] w w'∧OE [] w.heap.size w' (sOwn 4 sBool) [v9] (s0_o13) p8∧∃ F,r=updL F [(0,.pointer (some (p_x0))),(5,v9),(13,v_x1),(14,.int .i64 ((x1.length:Int))),(15,.int .i64 (s0_15))]) (impl_Category_sieveOf_T w) ho ⟨(hB.trans q2),(ko p6 q2),fe rfl⟩ ?_ ?_
 rintro ⟨s0_15,s0_o13⟩ _ g4 ⟨hB,p6,F,rfl⟩ o ho
 replace ho:impl_Category_sieveOf_L0 x0 x1 s0_15 s0_o13=some o:=ho
 unfold impl_Category_sieveOf_L0 at ho
 refine wq <| Wq rfl (cr [] g4) <| Qa (Bl rfl rfl) <| fun ki qf=>anz <| wq <| W_cond (b:=decide (s0_15 < (x1.length:Int))) rfl ?_ ?_
 intro p1r
 rw [p1r] at ho
 refine W_skip <| anz <| wq <| W_block <| wq <| Wq rfl qf <| ?_
 obtain ⟨e21,hx22e,ho⟩:=bs ho
 have hx22:=idx_some hx22e
 refine Qa (Ix sl22 (kB h_x1 hB) hx22 rfl rfl rfl) <| Qa (Ei na2 (kB h_x1 hB) hx22 rfl) <| Qa (Ai rfl) <| fun p1s px=>anz <| wq <| W_region rfl <| Wb (Mp rfl) <| Wb (Mp rfl) <| Wb (Nk rfl) <| Wb (Fp fa32_2 rfl) <| Wa px (La na22 (At.keep0 a_x0 hB) rfl rfl) <| Wb (Mi rfl) <| ?_
 obtain ⟨e25,hx26e,ho⟩:=bs ho
 have hx26:=idx_some hx26e
 refine Wa px (Ix sl22 (kB zb hB) hx26 rfl rfl rfl) <| Wa px (Ei na2 (kB zb hB) hx26 rfl) <| ?_
 obtain ⟨y27,p1t,ho⟩:=bs ho
 refine WL.call rfl (op_callF Tryz.func148 rfl rfl) (impl_Category_outOf_calls (kp _ za (hB.trans px)) (kp _ zb (hB.trans px)) (kp _ zd (hB.trans px)) (kp _ zc (hB.trans px)) (At.keep0 a_x0 (hB.trans px)) p1t) <| ?_
 rintro _ p14 ⟨v31,kx,rfl,po,p3⟩
 refine ⟨_,rfl,?_⟩
 have jr:=dl (ofr p3) (sl _ (kp _ p6.1 px))
 replace p3:=OE.low (G:=[]) p3 (hB.trans px).size
 have ky:=px.trans po
 replace p6:=ko p6 ky
 replace hB:=(hB.trans ky)
 refine Wb (Ln sl22 ((Le.own (Le.refl _) 2).le p3.1) rfl) <| Wb (Mi rfl) <| anz <| Wf (S1:=Int×(List Bool)) (fun s r w'=>match s with | (s1_29,s1_o13)=>Chg [] w w'∧OE [] w.heap.size w' (sOwn 4 sBool) [v9] (s1_o13) p8∧OE [] w.heap.size w' (sOwn 2 (sInt .i64)) [v31] (y27) kx∧Dis p8 kx∧∃ F,r=updL F [(0,.pointer (some (p_x0))),(5,v9),(7,.int .i64 (e21)),(13,v_x1),(14,.int .i64 ((x1.length:Int))),(15,.int .i64 (s0_15)),(27,v31),(28,.int .i64 ((y27.length:Int))),(29,.int .i64 (s1_29))]) (impl_Category_sieveOf_T w) ho ⟨hB,p6,p3,((jr).symm),fe rfl⟩ ?_ ?_
 rintro ⟨s1_29,s1_o13⟩ _ p1c ⟨hB,p6,p3,j8,F,rfl⟩ o ho
 replace ho:impl_Category_sieveOf_L1 x0 e21 y27 s1_29 s1_o13=some o:=ho
 unfold impl_Category_sieveOf_L1 at ho
 refine wq <| Wq rfl (cr [] p1c) <| Qa (Bl rfl rfl) <| fun p3n k3=>anz <| wq <| W_cond (b:=decide (s1_29 < (y27.length:Int))) rfl ?_ ?_
 intro p1u
 rw [p1u] at ho
 refine W_skip <| anz <| wq <| W_block <| wq <| Wq rfl k3 <| ?_
 obtain ⟨e41,hx42e,ho⟩:=bs ho
 have hx42:=idx_some hx42e
 refine Qa (Ix sl22 ((Le.own (Le.refl _) 2).le p3.1) hx42 rfl rfl rfl) <| Qa (Ei na2 ((Le.own (Le.refl _) 2).le p3.1) hx42 rfl) <| Qa (Ai rfl) <| fun p2l pt=>anz <| W_region rfl <| Wb (Mv v9 rfl) <| Wb (Mp rfl) <| Wb (Mi rfl) <| Wb (Mi rfl) <| ?_
 obtain ⟨y45,p4k,ho⟩:=bs ho
 refine WL.call rfl (op_callF Tryz.func150 rfl rfl) (impl_Category_then_calls (kp _ za (hB.trans pt)) (kp _ zb (hB.trans pt)) (kp _ zd (hB.trans pt)) (kp _ zc (hB.trans pt)) (At.keep0 a_x0 (hB.trans pt)) p4k) <| ?_
 rintro _ g2 ⟨rfl,p1v⟩
 refine ⟨_,rfl,?_⟩
 obtain ⟨e49,hx50e,ho⟩:=bs ho
 have hx50:=idx_some hx50e
 refine Wa (pt.trans p1v) (Ix sl138 ((Le.own (Le.refl _) 4).le p6.1) hx50 rfl rfl rfl) <| WL.storeEl (z':=true) _ _ sBool_nofp rfl info4 sz4 (ko p6 (pt.trans p1v)) hx50.2 rfl rfl ⟨rfl,rfl⟩ fun p4l p4m o53=>?_
 have p2z:=((pt.trans p1v).nil (G:=p8)).trans p4m
 replace p3:=okp p3 p2z (j8).symm
 replace hB:=hB.then p2z p6.2.2
 refine inBlk_n <| anz <| Wq rfl (cr [] p4l) <| Qa (Ba rfl rfl) <| Qa (Mi rfl) <| fun p84 p1w=>?_
 cases ho
 exact ⟨(hB.trans p1w),(ko o53 p1w),(ko p3 p1w),j8,fe rfl⟩
 intro p1u
 rw [p1u] at ho
 refine W_exit <| andThen_x <| ?_
 cases ho
 exact ⟨rfl,⟨(hB.trans k3),(ko p6 k3),(ko p3 k3),j8,fe rfl⟩⟩
 rintro ⟨s1_29,s1_o13⟩ _ p30 ⟨hB,p6,p3,j8,F,rfl⟩ ho
 dsimp only at ho
 refine inBlk_n <| anz <| Wq rfl (cr [] p30) <| Qa (Ba rfl rfl) <| Qa (Mi rfl) <| fun p4d kv=>?_
 cases ho
 exact ⟨(hB.trans kv),(ko p6 kv),fe rfl⟩
 intro p1r
 rw [p1r] at ho
 refine W_exit <| andThen_x <| ?_
 cases ho
 exact ⟨rfl,⟨(hB.trans qf),(ko p6 qf),fe rfl⟩⟩
 rintro ⟨s0_15,s0_o13⟩ _ p2x ⟨hB,p6,F,rfl⟩ ho
 dsimp only at ho
 refine anz <| wq <| W_region rfl <| Wb (Mv v9 rfl) <| ?_
 obtain ⟨y61,p4o,ho⟩:=bs ho
 refine WL.call rfl (op_callF Tryz.func248 rfl rfl) (impl_marked_calls ((Le.own (Le.refl _) 4).le p6.1) p4o) <| ?_
 rintro _ g5 ⟨v65,f66,rfl,p31,o67⟩
 refine ⟨_,rfl,?_⟩
 replace o67:=OE.low (G:=[]) o67 hB.size
 replace p6:=ko p6 p31
 replace hB:=(hB.trans p31)
 refine Wb (Av v65 rfl) <| anz <| ?_
 cases ho
 exact W_ret ⟨_,res_1 Tryz.results227,_,_,rfl,hB,o67⟩

abbrev impl_same_post (w:World) (x:(Bool)) (e:Ending) (w':World):Prop:=e = .returned (.bool x)∧Chg [] w w'
abbrev impl_same_T (w:World):=Tm Tryz.prog Tryz.f154 9 (impl_same_post w)
theorem impl_same_calls {w:World} {x0:(List Int)} {v_x0:Value} {f_x0:List Nat} {x1:(List Int)} {v_x1:Value} {f_x1:List Nat} (h_x0:(sImm (sInt .i64)).rep w.heap [v_x0] x0 f_x0) (h_x1:(sImm (sInt .i64)).rep w.heap [v_x1] x1 f_x1) {y:(Bool)} (hm:impl_same x0 x1=some y) :
  Calls Tryz.prog 154 #[v_x0,v_x1] w (impl_same_post w y):=by
 refine Cm (S:=Unit) Tryz.func154 rfl Tryz.ntmps154 rfl hm fun o ho hB=>?_
 clear hm
 refine wq <| Wq rfl (cr [] w) <| Qa (Ab rfl) <| fun wd1 hC2=>anz <| wq <| Wq rfl hC2 <| Qa (Mv v_x0 rfl) <| Qa (Mv v_x1 rfl) <| ?_
 obtain ⟨y3,hy4,ho⟩:=bs ho
 refine Qc Tryz.func145 rfl rfl (fun _ hC=>impl_compare_calls (kp _ h_x0 (hB.trans hC)) (kp _ h_x1 (hB.trans hC)) hy4) <| Qa (Be rfl rfl) <| Qa (Ab rfl) <| fun wd5 hC6=>anz <| ?_
 cases ho
 exact W_ret ⟨_,res_1 Tryz.results154,rfl,(hB.trans hC6)⟩

abbrev impl_Category_sieves_1_post (w:World) (x:(Bool)) (e:Ending) (w':World):Prop:=e = .returned (.bool x)∧Chg [] w w'
abbrev impl_Category_sieves_1_T (w:World):=Tm Tryz.prog Tryz.f229 7 (impl_Category_sieves_1_post w)
theorem impl_Category_sieves_1_calls {w:World} {x0:(List Int)} {v_x0:Value} {f_x0:List Nat} {x1:(List Int)} {p_x1:Addr} {v_x1:Value} {f_x1:List Nat} (h_x0:(sImm (sInt .i64)).rep w.heap [v_x0] x0 f_x0) (h_x1:(sImm (sInt .i64)).rep w.heap [v_x1] x1 f_x1) (a_x1:At w p_x1 [v_x1]) {y:(Bool)} (hm:impl_Category_sieves_1 x0 x1=some y) :
  Calls Tryz.prog 229 #[v_x0,.pointer (some (p_x1))] w (impl_Category_sieves_1_post w y):=by
 refine Cm (S:=Unit) Tryz.func229 rfl Tryz.ntmps229 rfl hm fun o ho hB=>?_
 clear hm
 refine wq <| Wq rfl (cr [] w) <| Qa (Ab rfl) <| fun wd1 hC2=>anz <| wq <| Wq rfl hC2 <| Qa (Lb na114 (At.keep0 a_x1 hB) rfl rfl) <| Qa (Mv v_x0 rfl) <| ?_
 obtain ⟨y3,hy4,ho⟩:=bs ho
 refine Qc Tryz.func154 rfl rfl (fun _ hC=>impl_same_calls (kp _ h_x1 (hB.trans hC)) (kp _ h_x0 (hB.trans hC)) hy4) <| Qa (Ab rfl) <| fun wd5 hC6=>anz <| ?_
 cases ho
 exact W_ret ⟨_,res_1 Tryz.results229,rfl,(hB.trans hC6)⟩

abbrev slices_IndexFunc___impl_sieve_impl_sieve__post (w:World) (x:(Int)) (e:Ending) (w':World):Prop:=e = .returned (.int .i64 x)∧Chg [] w w'
abbrev slices_IndexFunc___impl_sieve_impl_sieve__T (w:World):=Tm Tryz.prog Tryz.f175 19 (slices_IndexFunc___impl_sieve_impl_sieve__post w)
theorem slices_IndexFunc___impl_sieve_impl_sieve__calls {w:World} {x0:(List (List Int))} {v_x0:Value} {f_x0:List Nat} {g_x1:FuncId} {c_x1:List Value} {x1:((List Int)→Option (Bool))} (h_x0:(sImm (sImm (sInt .i64))).rep w.heap [v_x0] x0 f_x0) (h_x1:FnOk Tryz.prog g_x1∧∀ {W:World} (hW:Chg [] w W) {a0:(List Int)} {v0:Value} {f0:List Nat} (h0:(sImm (sInt .i64)).rep W.heap [v0] a0 f0) {y:Bool} (hm:x1 a0=some y),Calls Tryz.prog g_x1 (([v0]:List Value)++c_x1).toArray W (fun e W'=>e = .returned (.bool y)∧Chg [] W W')) {y:(Int)} (hm:slices_IndexFunc___impl_sieve_impl_sieve_ x0 x1=some y) :
  Calls Tryz.prog 175 #[v_x0,.func (.func g_x1) #[] c_x1.toArray] w (slices_IndexFunc___impl_sieve_impl_sieve__post w y):=by
 refine Cm (S:=Unit) Tryz.func175 rfl Tryz.ntmps175 rfl hm fun o ho hB=>?_
 clear hm
 refine wq <| Wq rfl (cr [] w) <| Qa (Ai rfl) <| fun wd1 hC2=>anz <| wq <| wq <| Wq rfl hC2 <| Qa (Mv v_x0 rfl) <| Qa (Ln sl118 (kB h_x0 hB) rfl) <| Qa (Mi rfl) <| fun wd3 hC4=>anz <| Wf (S1:=Int) (fun (s0_8:Int) r w'=>Chg [] w w'∧∃ F,r=updL F [(0,v_x0),(1,.func (.func g_x1) #[] c_x1.toArray),(7,.int .i64 ((x0.length:Int))),(8,.int .i64 (s0_8))]) (slices_IndexFunc___impl_sieve_impl_sieve__T w) ho ⟨(hB.trans hC4),fe rfl⟩ ?_ ?_
 rintro s0_8 _ wd5 ⟨hB,F,rfl⟩ o ho
 replace ho:slices_IndexFunc___impl_sieve_impl_sieve__L0 x0 x1 s0_8=some o:=ho
 unfold slices_IndexFunc___impl_sieve_impl_sieve__L0 at ho
 refine wq <| Wq rfl (cr [] wd5) <| Qa (Bl rfl rfl) <| fun wd6 hC7=>anz <| wq <| W_cond (b:=decide (s0_8 < (x0.length:Int))) rfl ?_ ?_
 intro hb8
 rw [hb8] at ho
 refine W_skip <| anz <| wq <| W_block <| wq <| Wq rfl hC7 <| Qa (Mi rfl) <| Qa (Ai rfl) <| fun wd9 qr=>anz <| wq <| Wq rfl qr <| Qa (Mv (.func (.func g_x1) #[] c_x1.toArray) rfl) <| Qa (Mv v_x0 rfl) <| Qa (Mi rfl) <| ?_
 obtain ⟨e11,hx12e,ho⟩:=bs ho
 have hx12:=idx_some hx12e
 refine Qa (Ix sl118 (kB h_x0 hB) hx12 rfl rfl rfl) <| ?_
 obtain ⟨u13,fu14,hu15,p4p,hs17⟩:=one_get rfl h_x0 hx12.1 hx12.2
 refine Qa (Ld na114 (hB.cell0 hu15) rfl) <| ?_
 obtain ⟨y18,p1m,ho⟩:=bs ho
 refine QL.call (v:=.bool (y18)) rfl (fun _ _=>op_callP rfl h_x1.1) (fun _ hC=>(h_x1.2 (hB.trans hC) (kp _ p4p (hB.trans hC)) p1m).mono fun _ _ h=>⟨h.1,hC.trans h.2⟩) <| fun j4 q3=>anz <| W_cond (b:=y18) rfl ?_ ?_
 intro q9
 rw [q9] at ho
 refine wq <| Wq rfl q3 <| Qa (Mi rfl) <| Qa (Ai rfl) <| fun p1s px=>anz <| ?_
 cases ho
 exact W_ret ⟨_,res_1 Tryz.results175,rfl,(hB.trans px)⟩
 intro q9
 rw [q9] at ho
 refine W_skip <| inBlk_n <| anz <| Wq rfl q3 <| Qa (Ba rfl rfl) <| Qa (Mi rfl) <| fun p2o j5=>?_
 cases ho
 exact ⟨(hB.trans j5),fe rfl⟩
 intro hb8
 rw [hb8] at ho
 refine W_exit <| andThen_x <| ?_
 cases ho
 exact ⟨rfl,⟨(hB.trans hC7),fe rfl⟩⟩
 rintro s0_8 _ k6 ⟨hB,F,rfl⟩ ho
 refine anz <| wq <| Wq rfl (cr [] k6) <| Qa (Ai rfl) <| fun kw g9=>anz <| ?_
 cases ho
 exact W_ret ⟨_,res_1 Tryz.results175,rfl,(hB.trans g9)⟩

abbrev slices_ContainsFunc___impl_sieve_impl_sieve__post (w:World) (x:(Bool)) (e:Ending) (w':World):Prop:=e = .returned (.bool x)∧Chg [] w w'
abbrev slices_ContainsFunc___impl_sieve_impl_sieve__T (w:World):=Tm Tryz.prog Tryz.f228 9 (slices_ContainsFunc___impl_sieve_impl_sieve__post w)
theorem slices_ContainsFunc___impl_sieve_impl_sieve__calls {w:World} {x0:(List (List Int))} {v_x0:Value} {f_x0:List Nat} {g_x1:FuncId} {c_x1:List Value} {x1:((List Int)→Option (Bool))} (h_x0:(sImm (sImm (sInt .i64))).rep w.heap [v_x0] x0 f_x0) (h_x1:FnOk Tryz.prog g_x1∧∀ {W:World} (hW:Chg [] w W) {a0:(List Int)} {v0:Value} {f0:List Nat} (h0:(sImm (sInt .i64)).rep W.heap [v0] a0 f0) {y:Bool} (hm:x1 a0=some y),Calls Tryz.prog g_x1 (([v0]:List Value)++c_x1).toArray W (fun e W'=>e = .returned (.bool y)∧Chg [] W W')) {y:(Bool)} (hm:slices_ContainsFunc___impl_sieve_impl_sieve_ x0 x1=some y) :
  Calls Tryz.prog 228 #[v_x0,.func (.func g_x1) #[] c_x1.toArray] w (slices_ContainsFunc___impl_sieve_impl_sieve__post w y):=by
 refine Cm (S:=Unit) Tryz.func228 rfl Tryz.ntmps228 rfl hm fun o ho hB=>?_
 clear hm
 refine wq <| Wq rfl (cr [] w) <| Qa (Ab rfl) <| fun wd1 hC2=>anz <| wq <| Wq rfl hC2 <| Qa (Mv v_x0 rfl) <| Qa (Mv (.func (.func g_x1) #[] c_x1.toArray) rfl) <| ?_
 obtain ⟨y3,hy4,ho⟩:=bs ho
 refine Qc Tryz.func175 rfl rfl (fun _ hC=>slices_IndexFunc___impl_sieve_impl_sieve__calls (kp _ h_x0 (hB.trans hC)) ⟨h_x1.1,fun hW=>h_x1.2 ((hB.trans hC).trans hW)⟩ hy4) <| Qa (Bh rfl rfl) <| Qa (Ab rfl) <| fun wd5 hC6=>anz <| ?_
 cases ho
 exact W_ret ⟨_,res_1 Tryz.results228,rfl,(hB.trans hC6)⟩

abbrev impl_Category_sieves_2_post (w:World) (x:(Int)) (e:Ending) (w':World):Prop:=e = .returned (.int .i64 x)∧Chg [] w w'
abbrev impl_Category_sieves_2_T (w:World):=Tm Tryz.prog Tryz.f231 8 (impl_Category_sieves_2_post w)
theorem impl_Category_sieves_2_calls {w:World} {x0:(List Int)} {v_x0:Value} {f_x0:List Nat} {x1:(List Int)} {v_x1:Value} {f_x1:List Nat} (h_x0:(sImm (sInt .i64)).rep w.heap [v_x0] x0 f_x0) (h_x1:(sImm (sInt .i64)).rep w.heap [v_x1] x1 f_x1) {y:(Int)} (hm:impl_Category_sieves_2 x0 x1=some y) :
  Calls Tryz.prog 231 #[v_x0,v_x1] w (impl_Category_sieves_2_post w y):=by
 refine Cm (S:=Unit) Tryz.func231 rfl Tryz.ntmps231 rfl hm fun o ho hB=>?_
 clear hm
 refine wq <| Wq rfl (cr [] w) <| Qa (Ai rfl) <| fun wd1 hC2=>anz <| wq <| Wq rfl hC2 <| Qa (Mv v_x0 rfl) <| Qa (Mv v_x1 rfl) <| ?_
 obtain ⟨y3,hy4,ho⟩:=bs ho
 refine Qc Tryz.func145 rfl rfl (fun _ hC=>impl_compare_calls (kp _ h_x0 (hB.trans hC)) (kp _ h_x1 (hB.trans hC)) hy4) <| Qa (Ai rfl) <| fun wd5 hC6=>anz <| ?_
 cases ho
 exact W_ret ⟨_,res_1 Tryz.results231,rfl,(hB.trans hC6)⟩

theorem sortM_impl_Category_sieves_2_calls {w:World} {x0:List (List Int)} {v_x0:Value} {f_x0:List Nat} (o_x0:OE f_x0 w.heap.size w (sOwn 114 (sOwn 2 (sInt .i64))) [v_x0] x0 f_x0) {y:List (List Int)} (hm:sortM_impl_Category_sieves_2 x0=some y) :
    Calls Tryz.prog 230 #[v_x0,.func (.func 231) #[] #[]] w (fun e w'=>∃ f0,e = .returned (.tuple #[])∧Chg f_x0 w w'∧OE f_x0 w.heap.size w' (sOwn 114 (sOwn 2 (sInt .i64))) [v_x0] y f0):=by
  unfold sortM_impl_Category_sieves_2 at hm
  split at hm
  · rename_i h
    cases hm
    have hcon:=sort_rows Tryz.sort230 (g:=231) (e1:=114) (T:=(sOwn 2 (sInt .i64))) rfl (fun args w=>enters_of Tryz.func231 (by kernel_rfl) rfl args w) (xs:=x0)
      (fun {W} {x} {y} {vx} {vy} {fx} {fy} hx hy mx my=>impl_Category_sieves_2_calls ((Le.own (Le.refl _) 2).le hx) ((Le.own (Le.refl _) 2).le hy) (h.2.2 x mx y my)) h.1 h.2.1 o_x0
    change Calls Tryz.prog 230 _ _ _ at hcon
    exact hcon
  · cases hm

abbrev impl_Category_sieves_post (w:World) (x:((List (List Int))×Bool)) (e:Ending) (w':World):Prop:=∃ (v0:Value) (f0:List Nat),e = .returned (.tuple #[v0,.bool x.2])∧Chg [] w w'∧OE [] w.heap.size w' (sOwn 114 (sOwn 2 (sInt .i64))) [v0] x.1 f0
abbrev impl_Category_sieves_T (w:World):=Tm Tryz.prog Tryz.f213 51 (impl_Category_sieves_post w)
theorem impl_Category_sieves_calls {w:World} {x0:MCategory} {p_x0:Addr} {z2:Value} {zf:List Nat} {z1:Value} {zg:List Nat} {z7:Value} {zh:List Nat} {z6:Value} {zi:List Nat} {x1:Int} (za:(sImm (sInt .i64)).rep w.heap [z2] x0.From zf) (zb:(sImm (sInt .i64)).rep w.heap [z1] x0.To zg) (zd:(sImm (sInt .i64)).rep w.heap [z7] x0.Identity zh) (zc:(sImm (sImm (sInt .i64))).rep w.heap [z6] x0.Composites zi) (a_x0:At w p_x0 [.int .i64 (x0.Objects),z2,z1,z7,z6]) {y:((List (List Int))×Bool)} (hm:impl_Category_sieves x0 x1=some y) :
  Calls Tryz.prog 213 #[.pointer (some (p_x0)),.int .i64 (x1)] w (impl_Category_sieves_post w y):=by
 refine Cm (S:=Unit) Tryz.func213 rfl Tryz.ntmps213 rfl hm fun o ho hB=>?_
 clear hm
 refine wq <| Wq rfl (cr [] w) <| Qa (As rfl) <| Qa (Ab rfl) <| fun wd1 hC2=>anz <| wq <| W_region rfl <| WL.lit0 (sInt .i64) Tryz.underlying114 info2 fun v3 wd4 f5 hC6 o7=>?_
 replace o7:=OE.low (G:=[]) o7 (hB.trans hC2).size
 have hT8:=hC2.trans hC6
 replace hB:=(hB.trans hT8)
 refine WL.lit1 Tryz.underlying118 info114 zr114 sz114 (STy.one _ o7.1 _ (ms rfl)) fun b9 k7 p32 p1y p33=>?_
 replace p1y:Row k7 b9 [v3] 114:=p1y
 have p4q:w.heap.size≤b9:=Nat.le_trans hB.size p33
 have d15:=dl (onw p33) (sl _ o7.1)
 replace o7:=ko o7 p32
 replace hB:=(hB.trans p32)
 have pb:OE [] w.heap.size k7 (sOwn 114 (sOwn 2 (sInt .i64))) [.slice (some ⟨b9,0,none⟩) 1 1] [([]:(List Int))] (b9 :: f5):=own_row1 rfl p1y o7.1 o7.2.1 (fun h=>d15 _ (ms rfl) h) p4q o7.2.2
 refine Wb (As rfl) <| anz <| wq <| wq <| Wq rfl (cr [] k7) <| Qa (Ai rfl) <| fun ki qf=>anz <| Wf (S1:=(List (List Int))×Int) (fun s r w'=>match s with | (s0_6,s0_7)=>∃ (v20:Value) (pq:List Nat),Chg [] w w'∧OE [] w.heap.size w' (sOwn 114 (sOwn 2 (sInt .i64))) [v20] (s0_6) pq∧∃ F,r=updL F [(0,.pointer (some (p_x0))),(1,.int .i64 (x1)),(6,v20),(7,.int .i64 (s0_7))]) (impl_Category_sieves_T w) ho ⟨_,_,(hB.trans qf),(ko pb qf),fe rfl⟩ ?_ ?_
 rintro ⟨s0_6,s0_7⟩ _ p1s ⟨v20,pq,hB,pa,F,rfl⟩ o ho
 replace ho:impl_Category_sieves_L0 x0 x1 s0_6 s0_7=some o:=ho
 unfold impl_Category_sieves_L0 at ho
 refine wq <| wq <| Wq rfl (cr [] p1s) <| Qa (Mi rfl) <| Qa (Mv v20 rfl) <| Qa (Ln sl118 ((Le.own (Le.own (Le.refl _) 2) 114).le pa.1) rfl) <| Qa (Bl rfl rfl) <| fun p34 qk=>anz <| W_cond (b:=decide (s0_7 < (s0_6.length:Int))) rfl ?_ ?_
 intro p1z
 rw [p1z] at ho
 refine W_skip <| anz <| wq <| W_block <| wq <| W_region rfl <| Wb (Mp rfl) <| Wb (Mi rfl) <| ?_
 obtain ⟨y27,p1t,ho⟩:=bs ho
 refine WL.call rfl (op_callF Tryz.func148 rfl rfl) (impl_Category_outOf_calls (kp _ za (hB.trans qk)) (kp _ zb (hB.trans qk)) (kp _ zd (hB.trans qk)) (kp _ zc (hB.trans qk)) (At.keep0 a_x0 (hB.trans qk)) p1t) <| ?_
 rintro _ p14 ⟨v31,kx,rfl,po,p3⟩
 refine ⟨_,rfl,?_⟩
 have jr:=dl (ofr p3) (sl _ (kp _ pa.1 qk))
 replace p3:=OE.low (G:=[]) p3 (hB.trans qk).size
 have ky:=qk.trans po
 replace pa:=ko pa ky
 replace hB:=(hB.trans ky)
 refine Wb (Ln sl22 ((Le.own (Le.refl _) 2).le p3.1) rfl) <| Wb (Mi rfl) <| anz <| Wf (S1:=(List (List Int))×Int) (fun s r w'=>match s with | (s1_6,s1_23)=>∃ (v36:Value) (ga:List Nat),Chg [] w w'∧OE [] w.heap.size w' (sOwn 2 (sInt .i64)) [v31] (y27) kx∧OE [] w.heap.size w' (sOwn 114 (sOwn 2 (sInt .i64))) [v36] (s1_6) ga∧Dis kx ga∧∃ F,r=updL F [(0,.pointer (some (p_x0))),(1,.int .i64 (x1)),(6,v36),(7,.int .i64 (s0_7)),(21,v31),(22,.int .i64 ((y27.length:Int))),(23,.int .i64 (s1_23))]) (impl_Category_sieves_T w) ho ⟨_,_,hB,p3,pa,(jr),fe rfl⟩ ?_ ?_
 rintro ⟨s1_6,s1_23⟩ _ g8 ⟨v36,ga,hB,p3,pc,jt,F,rfl⟩ o ho
 replace ho:impl_Category_sieves_L1 x0 s0_7 y27 s1_6 s1_23=some o:=ho
 unfold impl_Category_sieves_L1 at ho
 refine wq <| Wq rfl (cr [] g8) <| Qa (Bl rfl rfl) <| fun p2y qj=>anz <| wq <| W_cond (b:=decide (s1_23 < (y27.length:Int))) rfl ?_ ?_
 intro p20
 rw [p20] at ho
 refine W_skip <| anz <| wq <| W_block <| wq <| Wq rfl qj <| ?_
 obtain ⟨e44,hx45e,ho⟩:=bs ho
 have hx45:=idx_some hx45e
 refine Qa (Ix sl22 ((Le.own (Le.refl _) 2).le p3.1) hx45 rfl rfl rfl) <| Qa (Ei na2 ((Le.own (Le.refl _) 2).le p3.1) hx45 rfl) <| Qa (Ai rfl) <| fun p86 ju=>anz <| wq <| W_region rfl <| Wb (Mp rfl) <| Wb (Mv v36 rfl) <| Wb (Mi rfl) <| ?_
 obtain ⟨e48,hx49e,ho⟩:=bs ho
 have hx49:=idx_some hx49e
 refine Wa ju (Ix sl118 ((Le.own (Le.own (Le.refl _) 2) 114).le pc.1) hx49 rfl rfl rfl) <| ?_
 obtain ⟨u50,fu51,hu52,py,hs54⟩:=one_get rfl ((Le.own (Le.own (Le.refl _) 2) 114).le pc.1) hx49.1 hx49.2
 refine Wa ju (Ld na114 hu52 rfl) <| ?_
 obtain ⟨y55,p4s,ho⟩:=bs ho
 refine WL.call rfl (op_callF Tryz.func159 rfl rfl) (impl_clone_calls (kp _ py ju) p4s) <| ?_
 rintro _ p30 ⟨v59,f60,rfl,p4t,qw⟩
 refine ⟨_,rfl,?_⟩
 have jv:=dl (ofr qw) (sl _ (kp _ p3.1 ju))
 have ql:=dl (ofr qw) (sl _ (kp _ pc.1 ju))
 replace qw:=OE.low (G:=[]) qw (hB.trans ju).size
 have kz:=ju.trans p4t
 replace hu52:=kz.cell0 hu52
 replace py:=kp _ py kz
 replace p3:=ko p3 kz
 replace pc:=ko pc kz
 replace hB:=(hB.trans kz)
 refine Wb (Mi rfl) <| WL.lit1 u22z info2 zr2 sz2 rfl fun b65 k5 j7 q5 p4v=>?_
 replace q5:Row k5 b65 [.int .i64 (e44)] 2:=q5
 have d73:=dl (onw p4v) (sl _ qw.1)
 replace hu52:=j7.cell0 hu52
 replace py:=kp _ py j7
 replace p3:=ko p3 j7
 replace pc:=ko pc j7
 replace qw:=ko qw j7
 replace hB:=(hB.trans j7)
 obtain ⟨n81,hn82,ho⟩:=bs ho
 have hn82a:=fits_some hn82
 refine WL.append1 (E:=(sInt .i64)) _ _ u22z info2 zr2 sz2 rfl rfl rfl qw rfl q5 ⟨rfl,rfl⟩ List.nodup_nil (fun _ h=>nomatch h) (fun _ h=>nomatch h) (by rw [by2]; exact hn82a.1) hn82a.2 hB.size fun v75 p88 f77 k8 j9 hs80=>?_
 replace hu52:=k8.cell (fun hm=>(ql).symm _ (own_blk pc hx49.2) hm) hu52
 replace py:=STy.keep _ py k8 (fun b hb=>(ql).symm b (hs54 b hb))
 replace p3:=okp p3 k8 (jv).symm
 replace pc:=okp pc k8 (ql).symm
 replace q5:=Row.keep q5 k8 (d73 _ (ms rfl))
 replace hB:=hB.then k8 qw.2.2
 obtain ⟨y87,p4x,ho⟩:=bs ho
 refine WL.call rfl (op_callF Tryz.func227 rfl rfl) (impl_Category_sieveOf_calls (kp _ za hB) (kp _ zb hB) (kp _ zd hB) (kp _ zc hB) (At.keep0 a_x0 hB) ((Le.own (Le.refl _) 2).le j9.1) p4x) <| ?_
 rintro _ p8a ⟨v91,f92,rfl,jw,pp⟩
 refine ⟨_,rfl,?_⟩
 have d94:=dl (ofr pp) (sl _ p3.1)
 have d95:=dl (ofr pp) (sl _ pc.1)
 replace pp:=OE.low (G:=[]) pp hB.size
 replace hu52:=jw.cell0 hu52
 replace py:=kp _ py jw
 replace p3:=ko p3 jw
 replace pc:=ko pc jw
 replace q5:=kr q5 jw
 replace j9:=ko j9 jw
 replace hB:=(hB.trans jw)
 refine WL.alloc info114 zr114 fun gb p50 ja p21 k9=>?_
 replace p21:Row p50 gb [.slice none 0 0] 114:=p21
 have p51:w.heap.size≤gb:=Nat.le_trans hB.size k9
 have p52:=dl (onw k9) (sl _ p3.1)
 have gc:=dl (onw k9) (sl _ pc.1)
 have p53:=dl (onw k9) (one_lt (Row.lt q5))
 have p54:=dl (onw k9) (sl _ j9.1)
 have p55:=dl (onw k9) (sl _ pp.1)
 replace hu52:=ja.cell0 hu52
 replace py:=kp _ py ja
 replace p3:=ko p3 ja
 replace pc:=ko pc ja
 replace q5:=kr q5 ja
 replace j9:=ko j9 ja
 replace pp:=ko pp ja
 replace hB:=(hB.trans ja)
 refine WL.storeRow (j:=0) info114 sz114 p21 (Nat.le_of_ble_eq_true rfl) rfl rfl (STy.one _ pp.1 _ (ms rfl)) fun p35 jb jc=>?_
 replace jc:Row p35 gb [v91] 114:=jc
 replace hu52:=jb.cell (fun hm=>(gc).symm _ (own_blk pc hx49.2) hm) hu52
 replace py:=STy.keep _ py jb (fun b hb=>(gc).symm b (hs54 b hb))
 replace p3:=okp p3 jb (p52).symm
 replace pc:=okp pc jb (gc).symm
 replace q5:=Row.keep q5 jb ((p53).symm _ (ms rfl))
 replace j9:=okp j9 jb (p54).symm
 replace pp:=okp pp jb (p55).symm
 replace hB:=hB.then jb (one_then p51)
 refine anz <| wq <| wq <| Wq rfl (cr [] p35) <| Qa (Mv v36 rfl) <| qv (v:=.func (.func 229) #[] #[.pointer (some (⟨gb,0,none⟩))]) rfl (fun _ _=>op_makeFunc (fst:=[]) (cap:=[.tmp 10])) <| ?_
 obtain ⟨y115,p56,ho⟩:=bs ho
 refine Qc Tryz.func228 rfl rfl (fun _ hC=>slices_ContainsFunc___impl_sieve_impl_sieve__calls ((Le.own (Le.own (Le.refl _) 2) 114).le (kp _ pc.1 hC)) ⟨⟨_,_,Tryz.func229,rfl,rfl⟩,fun {W} hW {a0} {v0} {f0} h0 {y} hm=>impl_Category_sieves_1_calls h0 ((Le.own (Le.refl _) 2).le (kp _ pp.1 (hC.trans hW))) (kr jc (hC.trans hW)).at hm⟩ p56) <| fun p8c p36=>anz <| W_cond (b:=y115) rfl ?_ ?_
 intro p22
 rw [p22] at ho
 refine W_exit <| andThen_x <| inBlk_x <| anz <| Wq rfl p36 <| Qa (Ba rfl rfl) <| Qa (Mi rfl) <| fun p8d p23=>?_
 cases ho
 exact ⟨_,_,(hB.trans p23),(ko p3 p23),(ko pc p23),jt,fe rfl⟩
 intro p22
 rw [p22] at ho
 refine W_skip <| anz <| wq <| wq <| Wq rfl p36 <| Qa (Mv v36 rfl) <| Qa (Ln sl118 ((Le.own (Le.own (Le.refl _) 2) 114).le pc.1) rfl) <| Qa (Be rfl rfl) <| fun p37 pz=>anz <| W_cond (b:=((s1_6.length:Int)) == ((16:Int))) rfl ?_ ?_
 intro p24
 rw [p24] at ho
 refine wq <| Wq rfl pz <| Qa (As rfl) <| Qa (Ab rfl) <| fun p8e p57=>anz <| ?_
 cases ho
 exact W_ret ⟨_,res_2 Tryz.results213,_,_,rfl,(hB.trans p57),nil_OE⟩
 intro p24
 rw [p24] at ho
 refine W_skip <| anz <| W_region rfl <| Wb (Mv v36 rfl) <| Wa pz (Lr na114 jc rfl rfl) <| WL.lit1 Tryz.underlying118 info114 zr114 sz114 (STy.one _ pp.1 _ (ms rfl)) fun p58 p59 p5a n0 p5b=>?_
 replace n0:Row p59 p58 [v91] 114:=n0
 have p5c:=dl (onw p5b) (sl _ (kp _ pc.1 pz))
 have n1:=pz.trans p5a
 replace p3:=ko p3 n1
 replace pc:=ko pc n1
 replace pp:=ko pp n1
 replace jc:=kr jc n1
 replace hB:=(hB.trans n1)
 obtain ⟨n144,hn145,ho⟩:=bs ho
 have hn145a:=fits_some hn145
 refine WL.append1 (E:=(sOwn 2 (sInt .i64))) _ _ Tryz.underlying118 info114 zr114 sz114 rfl rfl rfl pc rfl n0 pp.1 pp.2.1 pp.2.2 d95 (by rw [by114]; exact hn145a.1) hn145a.2 hB.size fun v138 p5d p8f gd p5e hs143=>?_
 have p5f:=dis_upd hs143 (jt).symm d94 (sl _ p3.1)
 replace p3:=okp p3 gd jt
 replace jc:=Row.keep jc gd (gc _ (ms rfl))
 replace n0:=Row.keep n0 gd (p5c _ (ms rfl))
 replace hB:=hB.then gd pc.2.2
 refine Wb (Av v138 rfl) <| inBlk_n <| anz <| Wq rfl (cr [] p5d) <| Qa (Ba rfl rfl) <| Qa (Mi rfl) <| fun p8g p25=>?_
 cases ho
 exact ⟨_,_,(hB.trans p25),(ko p3 p25),(ko p5e p25),((p5f).symm),fe rfl⟩
 intro p20
 rw [p20] at ho
 refine W_exit <| andThen_x <| ?_
 cases ho
 exact ⟨rfl,⟨_,_,(hB.trans qj),(ko p3 qj),(ko pc qj),jt,fe rfl⟩⟩
 rintro ⟨s1_6,s1_23⟩ _ p5g ⟨v36,ga,hB,p3,pc,jt,F,rfl⟩ ho
 dsimp only at ho
 refine inBlk_n <| anz <| Wq rfl (cr [] p5g) <| Qa (Mi rfl) <| Qa (Ba rfl rfl) <| Qa (Ai rfl) <| fun p8h p38=>?_
 cases ho
 exact ⟨_,_,(hB.trans p38),(ko pc p38),fe rfl⟩
 intro p1z
 rw [p1z] at ho
 refine W_exit <| andThen_x <| ?_
 cases ho
 exact ⟨rfl,⟨_,_,(hB.trans qk),(ko pa qk),fe rfl⟩⟩
 rintro ⟨s0_6,s0_7⟩ _ ge ⟨v20,pq,hB,pa,F,rfl⟩ ho
 dsimp only at ho
 refine anz <| wq <| W_region rfl <| Wb (Mv v20 rfl) <| ?_
 obtain ⟨y157,p5h,ho⟩:=bs ho
 refine WL.call rfl (op_callF Tryz.func230 rfl rfl) (sortM_impl_Category_sieves_2_calls (OE.give (B':=ge.heap.size) pa fun _ h=>h) p5h) <| ?_
 rintro _ p5i ⟨p8i,rfl,p5j,p26⟩
 refine ⟨_,rfl,?_⟩
 replace p26:=OE.back p26 pa.2.2 hB.size
 replace hB:=hB.then p5j pa.2.2
 refine anz <| wq <| Wq rfl (cr [] p5i) <| Qa (Mv v20 rfl) <| Qa (Av v20 rfl) <| Qa (Ab rfl) <| fun p8j p39=>anz <| ?_
 cases ho
 exact W_ret ⟨_,res_2 Tryz.results213,_,_,rfl,(hB.trans p39),(ko p26 p39)⟩

abbrev impl_Category_pull_post (w:World) (x:((List Int))) (e:Ending) (w':World):Prop:=∃ (v0:Value) (f0:List Nat),e = .returned (v0)∧Chg [] w w'∧OE [] w.heap.size w' (sOwn 2 (sInt .i64)) [v0] x f0
abbrev impl_Category_pull_T (w:World):=Tm Tryz.prog Tryz.f153 37 (impl_Category_pull_post w)
theorem impl_Category_pull_calls {w:World} {x0:MCategory} {p_x0:Addr} {z2:Value} {zf:List Nat} {z1:Value} {zg:List Nat} {z7:Value} {zh:List Nat} {z6:Value} {zi:List Nat} {x1:Int} {x2:(List Int)} {v_x2:Value} {f_x2:List Nat} (za:(sImm (sInt .i64)).rep w.heap [z2] x0.From zf) (zb:(sImm (sInt .i64)).rep w.heap [z1] x0.To zg) (zd:(sImm (sInt .i64)).rep w.heap [z7] x0.Identity zh) (zc:(sImm (sImm (sInt .i64))).rep w.heap [z6] x0.Composites zi) (a_x0:At w p_x0 [.int .i64 (x0.Objects),z2,z1,z7,z6]) (h_x2:(sImm (sInt .i64)).rep w.heap [v_x2] x2 f_x2) {y:((List Int))} (hm:impl_Category_pull x0 x1 x2=some y) :
  Calls Tryz.prog 153 #[.pointer (some (p_x0)),.int .i64 (x1),v_x2] w (impl_Category_pull_post w y):=by
 refine Cm (S:=Unit) Tryz.func153 rfl Tryz.ntmps153 rfl hm fun o ho hB=>?_
 clear hm
 refine wq <| Wq rfl (cr [] w) <| Qa (As rfl) <| fun wd1 hC2=>anz <| wq <| W_region rfl <| WL.lit0 (sInt .i64) Tryz.underlying114 info2 fun v3 wd4 f5 hC6 o7=>?_
 replace o7:=OE.low (G:=[]) o7 (hB.trans hC2).size
 have hT8:=hC2.trans hC6
 replace hB:=(hB.trans hT8)
 refine Wb (Av v3 rfl) <| anz <| wq <| wq <| W_region rfl <| Wb (Mp rfl) <| Wb (Mp rfl) <| Wb (Nk rfl) <| Wb (Fp fa32_2 rfl) <| Wb (La na22 (At.keep0 a_x0 hB) rfl rfl) <| Wb (Mi rfl) <| ?_
 obtain ⟨e9,hx10e,ho⟩:=bs ho
 have hx10:=idx_some hx10e
 refine Wb (Ix sl22 (kB zb hB) hx10 rfl rfl rfl) <| Wb (Ei na2 (kB zb hB) hx10 rfl) <| ?_
 obtain ⟨y11,p5k,ho⟩:=bs ho
 refine WL.call rfl (op_callF Tryz.func148 rfl rfl) (impl_Category_outOf_calls (kp _ za hB) (kp _ zb hB) (kp _ zd hB) (kp _ zc hB) (At.keep0 a_x0 hB) p5k) <| ?_
 rintro _ p2k ⟨v15,qi,rfl,j3,pb⟩
 refine ⟨_,rfl,?_⟩
 have d18:=dl (ofr pb) (sl _ o7.1)
 replace pb:=OE.low (G:=[]) pb hB.size
 replace o7:=ko o7 j3
 replace hB:=(hB.trans j3)
 refine Wb (Ln sl22 ((Le.own (Le.refl _) 2).le pb.1) rfl) <| Wb (Mi rfl) <| anz <| Wf (S1:=(List Int)×Int) (fun s r w'=>match s with | (s0_7,s0_21)=>∃ (v20:Value) (pq:List Nat),Chg [] w w'∧OE [] w.heap.size w' (sOwn 2 (sInt .i64)) [v15] (y11) qi∧OE [] w.heap.size w' (sOwn 2 (sInt .i64)) [v20] (s0_7) pq∧Dis qi pq∧∃ F,r=updL F [(0,.pointer (some (p_x0))),(1,.int .i64 (x1)),(2,v_x2),(7,v20),(19,v15),(20,.int .i64 ((y11.length:Int))),(21,.int .i64 (s0_21))]) (impl_Category_pull_T w) ho ⟨_,_,hB,pb,o7,(d18),fe rfl⟩ ?_ ?_
 rintro ⟨s0_7,s0_21⟩ _ p34 ⟨v20,pq,hB,pb,pa,jx,F,rfl⟩ o ho
 replace ho:impl_Category_pull_L0 x0 x1 x2 y11 s0_7 s0_21=some o:=ho
 unfold impl_Category_pull_L0 at ho
 refine wq <| Wq rfl (cr [] p34) <| Qa (Bl rfl rfl) <| fun p2o j5=>anz <| wq <| W_cond (b:=decide (s0_21 < (y11.length:Int))) rfl ?_ ?_
 intro p27
 rw [p27] at ho
 refine W_skip <| anz <| wq <| W_block <| wq <| Wq rfl j5 <| ?_
 obtain ⟨e28,hx29e,ho⟩:=bs ho
 have hx29:=idx_some hx29e
 refine Qa (Ix sl22 ((Le.own (Le.refl _) 2).le pb.1) hx29 rfl rfl rfl) <| Qa (Ei na2 ((Le.own (Le.refl _) 2).le pb.1) hx29 rfl) <| Qa (Ai rfl) <| fun p3u p1b=>anz <| wq <| Wq rfl p1b <| Qa (Mv v_x2 rfl) <| Qa (Mp rfl) <| Qa (Mi rfl) <| Qa (Mi rfl) <| ?_
 obtain ⟨y32,p5m,ho⟩:=bs ho
 refine Qc Tryz.func150 rfl rfl (fun _ hC=>impl_Category_then_calls (kp _ za (hB.trans hC)) (kp _ zb (hB.trans hC)) (kp _ zd (hB.trans hC)) (kp _ zc (hB.trans hC)) (At.keep0 a_x0 (hB.trans hC)) p5m) <| ?_
 obtain ⟨y34,p5n,ho⟩:=bs ho
 refine Qc Tryz.func149 rfl rfl (fun _ hC=>impl_has_calls (kp _ h_x2 (hB.trans hC)) p5n) <| fun p2s p28=>anz <| W_cond (b:=y34) rfl ?_ ?_
 intro p29
 rw [p29] at ho
 refine W_region rfl <| Wb (Mv v20 rfl) <| Wb (Mi rfl) <| WL.lit1 Tryz.underlying114 info2 zr2 sz2 rfl fun b39 g8 p1e j6 p5p=>?_
 replace j6:Row g8 b39 [.int .i64 (e28)] 2:=j6
 have ka:=dl (onw p5p) (sl _ (kp _ pa.1 p28))
 have p2a:=p28.trans p1e
 replace pb:=ko pb p2a
 replace pa:=ko pa p2a
 replace hB:=(hB.trans p2a)
 obtain ⟨n54,hn55,ho⟩:=bs ho
 have hn55a:=fits_some hn55
 refine WL.append1 (E:=(sInt .i64)) _ _ Tryz.underlying114 info2 zr2 sz2 rfl rfl rfl pa rfl j6 ⟨rfl,rfl⟩ List.nodup_nil (fun _ h=>nomatch h) (fun _ h=>nomatch h) (by rw [by2]; exact hn55a.1) hn55a.2 hB.size fun v48 p5q f50 kq o52 hs53=>?_
 have kb:=dis_upd hs53 (jx).symm (fun _ h=>nomatch h) (sl _ pb.1)
 replace pb:=okp pb kq jx
 replace j6:=Row.keep j6 kq (ka _ (ms rfl))
 replace hB:=hB.then kq pa.2.2
 refine Wb (Av v48 rfl) <| inBlk_n <| anz <| Wq rfl (cr [] p5q) <| Qa (Ba rfl rfl) <| Qa (Mi rfl) <| fun p3s ks=>?_
 cases ho
 exact ⟨_,_,(hB.trans ks),(ko pb ks),(ko o52 ks),((kb).symm),fe rfl⟩
 intro p29
 rw [p29] at ho
 refine W_skip <| inBlk_n <| anz <| Wq rfl p28 <| Qa (Ba rfl rfl) <| Qa (Mi rfl) <| fun p19 q4=>?_
 cases ho
 exact ⟨_,_,(hB.trans q4),(ko pb q4),(ko pa q4),jx,fe rfl⟩
 intro p27
 rw [p27] at ho
 refine W_exit <| andThen_x <| ?_
 cases ho
 exact ⟨rfl,⟨_,_,(hB.trans j5),(ko pb j5),(ko pa j5),jx,fe rfl⟩⟩
 rintro ⟨s0_7,s0_21⟩ _ g5 ⟨v20,pq,hB,pb,pa,jx,F,rfl⟩ ho
 dsimp only at ho
 refine anz <| wq <| Wq rfl (cr [] g5) <| Qa (Mv v20 rfl) <| Qa (Av v20 rfl) <| fun p2r k4=>anz <| ?_
 cases ho
 exact W_ret ⟨_,res_1 Tryz.results153,_,_,rfl,(hB.trans k4),(ko pa k4)⟩

abbrev impl_classifier_number_1_post (w:World) (x:(Bool)) (e:Ending) (w':World):Prop:=e = .returned (.bool x)∧Chg [] w w'
abbrev impl_classifier_number_1_T (w:World):=Tm Tryz.prog Tryz.f176 7 (impl_classifier_number_1_post w)
theorem impl_classifier_number_1_calls {w:World} {x0:(List Int)} {v_x0:Value} {f_x0:List Nat} {x1:(List Int)} {p_x1:Addr} {v_x1:Value} {f_x1:List Nat} (h_x0:(sImm (sInt .i64)).rep w.heap [v_x0] x0 f_x0) (h_x1:(sImm (sInt .i64)).rep w.heap [v_x1] x1 f_x1) (a_x1:At w p_x1 [v_x1]) {y:(Bool)} (hm:impl_classifier_number_1 x0 x1=some y) :
  Calls Tryz.prog 176 #[v_x0,.pointer (some (p_x1))] w (impl_classifier_number_1_post w y):=by
 refine Cm (S:=Unit) Tryz.func176 rfl Tryz.ntmps176 rfl hm fun o ho hB=>?_
 clear hm
 refine wq <| Wq rfl (cr [] w) <| Qa (Ab rfl) <| fun wd1 hC2=>anz <| wq <| Wq rfl hC2 <| Qa (Lb na114 (At.keep0 a_x1 hB) rfl rfl) <| Qa (Mv v_x0 rfl) <| ?_
 obtain ⟨y3,hy4,ho⟩:=bs ho
 refine Qc Tryz.func154 rfl rfl (fun _ hC=>impl_same_calls (kp _ h_x1 (hB.trans hC)) (kp _ h_x0 (hB.trans hC)) hy4) <| Qa (Ab rfl) <| fun wd5 hC6=>anz <| ?_
 cases ho
 exact W_ret ⟨_,res_1 Tryz.results176,rfl,(hB.trans hC6)⟩

abbrev impl_classifier_number_post (w:World) (x:(Int)) (e:Ending) (w':World):Prop:=e = .returned (.int .i64 x)∧Chg [] w w'
abbrev impl_classifier_number_T (w:World):=Tm Tryz.prog Tryz.f113 16 (impl_classifier_number_post w)
theorem impl_classifier_number_calls {w:World} {x0:MClassifier} {p_x0:Addr} {z28:Value} {z2p:List Nat} {z29:Value} {z2q:List Nat} {z2a:Value} {z2r:List Nat} {z2b:Value} {z2s:List Nat} {z2d:Value} {z2t:List Nat} {z2e:Value} {z2u:List Nat} {z2c:Value} {z2v:List Nat} {x1:Int} {x2:(List Int)} {v_x2:Value} {f_x2:List Nat} (z32:(sImm (sInt .i64)).rep w.heap [z28] x0.Sets.Shape.From z2p) (z33:(sImm (sInt .i64)).rep w.heap [z29] x0.Sets.Shape.To z2q) (z34:(sImm (sInt .i64)).rep w.heap [z2a] x0.Sets.Shape.Identity z2r) (z35:(sImm (sImm (sInt .i64))).rep w.heap [z2b] x0.Sets.Shape.Composites z2s) (z3a:(sImm (sInt .i64)).rep w.heap [z2d] x0.Sets.Sizes z2t) (z3b:(sImm (sImm (sInt .i64))).rep w.heap [z2e] x0.Sets.Actions z2u) (z2f:(sImm (sImm (sImm (sInt .i64)))).rep w.heap [z2c] x0.Sieves z2v) (a_x0:At w p_x0 [.int .i64 (x0.Sets.Shape.Objects),z28,z29,z2a,z2b,z2d,z2e,z2c]) (h_x2:(sImm (sInt .i64)).rep w.heap [v_x2] x2 f_x2) {y:(Int)} (hm:impl_classifier_number x0 x1 x2=some y) :
  Calls Tryz.prog 113 #[.pointer (some (p_x0)),.int .i64 (x1),v_x2] w (impl_classifier_number_post w y):=by
 refine Cm (S:=Unit) Tryz.func113 rfl Tryz.ntmps113 rfl hm fun o ho hB=>?_
 clear hm
 refine wq <| W_region rfl <| WL.box fun b1 wd2 hC3 hr4 hl5=>?_
 replace hr4:Row wd2 b1 [v_x2] 114:=(congrArg (fun c:Array Value=>Row wd2 b1 c.toList 114) (cells_one (v:=v_x2) (STy.one _ h_x2 _ (ms rfl)))).mp hr4
 replace hB:=(hB.trans hC3)
 refine Wb (Ai rfl) <| anz <| wq <| Wq rfl (cr [] wd2) <| Qa (Mp rfl) <| Qa (Nk rfl) <| Qa (Fp fa151_1 rfl) <| Qa (La na149 (At.keep0 a_x0 hB) rfl rfl) <| Qa (Mi rfl) <| ?_
 obtain ⟨e8,hx9e,ho⟩:=bs ho
 have hx9:=idx_some hx9e
 refine Qa (Ix sl149 (kB z2f hB) hx9 rfl rfl rfl) <| ?_
 obtain ⟨u10,fu11,hu12,p5s,hs14⟩:=one_get rfl z2f hx9.1 hx9.2
 refine Qa (Ld na118 (hB.cell0 hu12) rfl) <| qv (v:=.func (.func 176) #[] #[.pointer (some (⟨b1,0,none⟩))]) rfl (fun _ _=>op_makeFunc (fst:=[]) (cap:=[.tmp 5])) <| ?_
 obtain ⟨y15,p5t,ho⟩:=bs ho
 refine Qc Tryz.func175 rfl rfl (fun _ hC=>slices_IndexFunc___impl_sieve_impl_sieve__calls (kp _ p5s (hB.trans hC)) ⟨⟨_,_,Tryz.func176,rfl,rfl⟩,fun {W} hW {a0} {v0} {f0} h0 {y} hm=>impl_classifier_number_1_calls h0 (kp _ h_x2 (hB.trans (hC.trans hW))) (kr hr4 (hC.trans hW)).at hm⟩ p5t) <| Qa (Ai rfl) <| fun g4 jp=>anz <| ?_
 cases ho
 exact W_ret ⟨_,res_1 Tryz.results113,rfl,(hB.trans jp)⟩

abbrev impl_Category_classifier_post (w:World) (x:((Option MClassifier)×Bool)) (e:Ending) (w':World):Prop:=∃ (v0:Value),e = .returned (.tuple #[v0,.bool x.2])∧Chg [] w w'∧(match x.1 with | none=>(v0 = .pointer none) | some m0=>∃ (b101:Nat) (v101:Value) (f101:List Nat) (v102:Value) (f102:List Nat) (v103:Value) (f103:List Nat) (v104:Value) (f104:List Nat) (v105:Value) (f105:List Nat) (v106:Value) (f106:List Nat) (v107:Value) (f107:List Nat),v0 = .pointer (some (⟨b101,0,none⟩))∧OE [] w.heap.size w' (sOwn 2 (sInt .i64)) [v101] m0.Sets.Shape.From f101∧OE [] w.heap.size w' (sOwn 2 (sInt .i64)) [v102] m0.Sets.Shape.To f102∧OE [] w.heap.size w' (sOwn 2 (sInt .i64)) [v103] m0.Sets.Shape.Identity f103∧OE [] w.heap.size w' (sOwn 22 (sOwn 2 (sInt .i64))) [v104] m0.Sets.Shape.Composites f104∧OE [] w.heap.size w' (sOwn 2 (sInt .i64)) [v105] m0.Sets.Sizes f105∧OE [] w.heap.size w' (sOwn 22 (sOwn 2 (sInt .i64))) [v106] m0.Sets.Actions f106∧OE [] w.heap.size w' (sOwn 118 (sOwn 114 (sOwn 2 (sInt .i64)))) [v107] m0.Sieves f107∧Row w' b101 [.int .i64 (m0.Sets.Shape.Objects),v101,v102,v103,v104,v105,v106,v107] 151∧w.heap.size≤b101∧Dis f101 f102∧Dis f101 f103∧Dis f101 f104∧Dis f101 f105∧Dis f101 f106∧Dis f101 f107∧Dis f101 [b101]∧Dis f102 f103∧Dis f102 f104∧Dis f102 f105∧Dis f102 f106∧Dis f102 f107∧Dis f102 [b101]∧Dis f103 f104∧Dis f103 f105∧Dis f103 f106∧Dis f103 f107∧Dis f103 [b101]∧Dis f104 f105∧Dis f104 f106∧Dis f104 f107∧Dis f104 [b101]∧Dis f105 f106∧Dis f105 f107∧Dis f105 [b101]∧Dis f106 f107∧Dis f106 [b101]∧Dis f107 [b101])
abbrev impl_Category_classifier_T (w:World):=Tm Tryz.prog Tryz.f164 114 (impl_Category_classifier_post w)
theorem impl_Category_classifier_calls {w:World} {x0:MCategory} {p_x0:Addr} {z2:Value} {zf:List Nat} {z1:Value} {zg:List Nat} {z7:Value} {zh:List Nat} {z6:Value} {zi:List Nat} (za:(sImm (sInt .i64)).rep w.heap [z2] x0.From zf) (zb:(sImm (sInt .i64)).rep w.heap [z1] x0.To zg) (zd:(sImm (sInt .i64)).rep w.heap [z7] x0.Identity zh) (zc:(sImm (sImm (sInt .i64))).rep w.heap [z6] x0.Composites zi) (a_x0:At w p_x0 [.int .i64 (x0.Objects),z2,z1,z7,z6]) {y:((Option MClassifier)×Bool)} (hm:impl_Category_classifier x0=some y) :
  Calls Tryz.prog 164 #[.pointer (some (p_x0))] w (impl_Category_classifier_post w y):=by
 refine Cm (S:=Unit) Tryz.func164 rfl Tryz.ntmps164 rfl hm fun o ho hB=>?_
 clear hm
 refine wq <| Wq rfl (cr [] w) <| Qa (Av (.pointer none) rfl) <| Qa (Ab rfl) <| fun wd1 hC2=>anz <| wq <| W_region rfl <| Wb (Mp rfl) <| ?_
 obtain ⟨y3,hy4,ho⟩:=bs ho
 refine WL.call rfl (op_callF Tryz.func158 rfl rfl) (impl_Category_copy_calls (kp _ za (hB.trans hC2)) (kp _ zb (hB.trans hC2)) (kp _ zd (hB.trans hC2)) (kp _ zc (hB.trans hC2)) (At.keep0 a_x0 (hB.trans hC2)) hy4) <| ?_
 rintro _ wd5 ⟨v7,f8,v10,p8,v13,pd,v16,pi,rfl,hC6,o9,p1,p0,p2,d19,d20,d21,d22,jx,d24⟩
 refine ⟨_,rfl,?_⟩
 replace o9:=OE.low (G:=[]) o9 (hB.trans hC2).size
 replace p1:=OE.low (G:=[]) p1 (hB.trans hC2).size
 replace p0:=OE.low (G:=[]) p0 (hB.trans hC2).size
 replace p2:=OE.low (G:=[]) p2 (hB.trans hC2).size
 have p5z:=hC2.trans hC6
 replace hB:=(hB.trans p5z)
 refine Wb (Bu (bld66_0 rfl (STy.one _ o9.1 _ (ms rfl)) (STy.one _ p1.1 _ (ms rfl)) (STy.one _ p0.1 _ (ms rfl)) (STy.one _ p2.1 _ (ms rfl)))) <| Wb (Bu (bld151_0 rfl (STy.one _ o9.1 _ (ms rfl)) (STy.one _ p1.1 _ (ms rfl)) (STy.one _ p0.1 _ (ms rfl)) (STy.one _ p2.1 _ (ms rfl)) rfl rfl)) <| WL.box fun p9 k6 pw p4 n2=>?_
 replace p4:Row k6 p9 [.int .i64 (y3.Objects),v7,v10,v13,v16,.slice none 0 0,.slice none 0 0,.slice none 0 0] 151:=p4
 have gf:w.heap.size≤p9:=Nat.le_trans hB.size n2
 have d32:=dl (onw n2) (sl _ o9.1)
 have d33:=dl (onw n2) (sl _ p1.1)
 have jr:=dl (onw n2) (sl _ p0.1)
 have d35:=dl (onw n2) (sl _ p2.1)
 replace o9:=ko o9 pw
 replace p1:=ko p1 pw
 replace p0:=ko p0 pw
 replace p2:=ko p2 pw
 replace hB:=(hB.trans pw)
 refine Wb (Ap rfl) <| anz <| wq <| wq <| Wq rfl (cr [] k6) <| Qa (Ai rfl) <| fun p1c qt=>anz <| Wf (S1:=Int×(List Int)×(List (List (List Int)))) (fun s r w'=>match s with | (s0_5,s0_b26_5,s0_b26_7)=>∃ (v39:Value) (pe:List Nat) (v42:Value) (pf:List Nat),Chg [] w w'∧OE [] w.heap.size w' (sOwn 2 (sInt .i64)) [v7] (y3.From) f8∧OE [] w.heap.size w' (sOwn 2 (sInt .i64)) [v10] (y3.To) p8∧OE [] w.heap.size w' (sOwn 2 (sInt .i64)) [v13] (y3.Identity) pd∧OE [] w.heap.size w' (sOwn 22 (sOwn 2 (sInt .i64))) [v16] (y3.Composites) pi∧Row w' p9 [.int .i64 (y3.Objects),v7,v10,v13,v16,v39,.slice none 0 0,v42] 151∧OE [] w.heap.size w' (sOwn 2 (sInt .i64)) [v39] (s0_b26_5) pe∧OE [] w.heap.size w' (sOwn 118 (sOwn 114 (sOwn 2 (sInt .i64)))) [v42] (s0_b26_7) pf∧Dis f8 p8∧Dis f8 pd∧Dis f8 pi∧Dis f8 [p9]∧Dis f8 pe∧Dis f8 pf∧Dis p8 pd∧Dis p8 pi∧Dis p8 [p9]∧Dis p8 pe∧Dis p8 pf∧Dis pd pi∧Dis pd [p9]∧Dis pd pe∧Dis pd pf∧Dis pi [p9]∧Dis pi pe∧Dis pi pf∧Dis [p9] pe∧Dis [p9] pf∧Dis pe pf∧∃ F,r=updL F [(0,.pointer (some (p_x0))),(4,.pointer (some (⟨p9,0,none⟩))),(5,.int .i64 (s0_5))]) (impl_Category_classifier_T w) ho ⟨_,_,_,_,(hB.trans qt),(ko o9 qt),(ko p1 qt),(ko p0 qt),(ko p2 qt),(kr p4 qt),nil_OE,nil_OE,(d19),(d20),(d21),((d32).symm),(fun _ _ h=>nomatch h),(fun _ _ h=>nomatch h),(d22),(jx),((d33).symm),(fun _ _ h=>nomatch h),(fun _ _ h=>nomatch h),(d24),((jr).symm),(fun _ _ h=>nomatch h),(fun _ _ h=>nomatch h),((d35).symm),(fun _ _ h=>nomatch h),(fun _ _ h=>nomatch h),(fun _ _ h=>nomatch h),(fun _ _ h=>nomatch h),(fun _ h=>nomatch h),fe rfl⟩ ?_ ?_
 rintro ⟨s0_5,s0_b26_5,s0_b26_7⟩ _ k5 ⟨v39,pe,v42,pf,hB,o9,p1,p0,p2,p4,p5,p7,gg,ka,gh,kc,n4,n5,gi,gj,kd,n6,n8,kb,ke,n9,na,kf,nb,jv,ql,nc,nd,F,rfl⟩ o ho
 replace ho:impl_Category_classifier_L0 x0 s0_5 s0_b26_5 s0_b26_7=some o:=ho
 unfold impl_Category_classifier_L0 at ho
 refine wq <| wq <| Wq rfl (cr [] k5) <| Qa (Mi rfl) <| Qa (Mp rfl) <| Qa (Nk rfl) <| Qa (F0 fa32_0 rfl) <| Qa (Lb na2 (At.keep0 a_x0 hB) rfl rfl) <| Qa (Bl rfl rfl) <| fun p3t ph=>anz <| W_cond (b:=decide (s0_5 < x0.Objects)) rfl ?_ ?_
 intro p2b
 rw [p2b] at ho
 refine W_skip <| anz <| wq <| W_block <| wq <| W_region rfl <| Wb (Mp rfl) <| Wb (Mi rfl) <| ?_
 obtain ⟨y70,p60,ho⟩:=bs ho
 refine WL.call rfl (op_callF Tryz.func213 rfl rfl) (impl_Category_sieves_calls (kp _ za (hB.trans ph)) (kp _ zb (hB.trans ph)) (kp _ zd (hB.trans ph)) (kp _ zc (hB.trans ph)) (At.keep0 a_x0 (hB.trans ph)) p60) <| ?_
 rintro _ p2u ⟨v74,f75,rfl,p1j,pr⟩
 refine ⟨_,rfl,?_⟩
 have d77:=dl (ofr pr) (sl _ (kp _ o9.1 ph))
 have d78:=dl (ofr pr) (sl _ (kp _ p1.1 ph))
 have d79:=dl (ofr pr) (sl _ (kp _ p0.1 ph))
 have d80:=dl (ofr pr) (sl _ (kp _ p2.1 ph))
 have d81:=dl (ofr pr) (one_lt (Row.lt (kr p4 ph)))
 have d82:=dl (ofr pr) (sl _ (kp _ p5.1 ph))
 have d83:=dl (ofr pr) (sl _ (kp _ p7.1 ph))
 replace pr:=OE.low (G:=[]) pr (hB.trans ph).size
 have jd:=ph.trans p1j
 replace o9:=ko o9 jd
 replace p1:=ko p1 jd
 replace p0:=ko p0 jd
 replace p2:=ko p2 jd
 replace p4:=kr p4 jd
 replace p5:=ko p5 jd
 replace p7:=ko p7 jd
 replace hB:=(hB.trans jd)
 refine Wb (Mt rfl) <| Wb (Ex v74 rfl rfl) <| Wb (Exb rfl rfl) <| Wb (Av v74 rfl) <| Wb (Ab rfl) <| anz <| wq <| wq <| Wq rfl (cr [] p2u) <| Qa (Mb rfl) <| Qa (Nt rfl) <| fun p8m ne=>anz <| W_cond (b:=!(y70.2)) rfl ?_ ?_
 intro p2c
 rw [p2c] at ho
 refine wq <| Wq rfl ne <| Qa (Av (.pointer none) rfl) <| Qa (Ab rfl) <| fun p8n p68=>anz <| ?_
 cases ho
 exact W_ret ⟨_,res_2 Tryz.results164,_,rfl,(hB.trans p68),rfl⟩
 intro p2c
 rw [p2c] at ho
 refine W_skip <| anz <| wq <| W_region rfl <| Wb (Mp rfl) <| Wb (Mp rfl) <| Wb (Nk rfl) <| Wb (Fr fa151_1 rfl) <| Wa ne (Lr na149 p4 rfl rfl) <| Wb (Mv v74 rfl) <| WL.lit1 Tryz.underlying149 info118 zr118 sz118 (STy.one _ pr.1 _ (ms rfl)) fun b90 p6a p6b jy p3a=>?_
 replace jy:Row p6a b90 [v74] 118:=jy
 have p6c:=dl (onw p3a) (one_lt (Row.lt (kr p4 ne)))
 have p6d:=dl (onw p3a) (sl _ (kp _ p7.1 ne))
 have qx:=ne.trans p6b
 replace o9:=ko o9 qx
 replace p1:=ko p1 qx
 replace p0:=ko p0 qx
 replace p2:=ko p2 qx
 replace p4:=kr p4 qx
 replace p5:=ko p5 qx
 replace p7:=ko p7 qx
 replace pr:=ko pr qx
 replace hB:=(hB.trans qx)
 obtain ⟨n111,hn112,ho⟩:=bs ho
 have hn112a:=fits_some hn112
 refine WL.append1 (E:=(sOwn 114 (sOwn 2 (sInt .i64)))) _ _ Tryz.underlying149 info118 zr118 sz118 rfl rfl rfl p7 rfl jy pr.1 pr.2.1 pr.2.2 d83 (by rw [by118]; exact hn112a.1) hn112a.2 hB.size fun v105 p8o p8p je qa hs110=>?_
 have p6e:=dis_upd hs110 (n5).symm d77 (sl _ o9.1)
 have p6f:=dis_upd hs110 (n8).symm d78 (sl _ p1.1)
 have p6g:=dis_upd hs110 (na).symm d79 (sl _ p0.1)
 have p6h:=dis_upd hs110 (jv).symm d80 (sl _ p2.1)
 have p2d:=dis_upd hs110 (nc).symm d81 (one_lt (Row.lt p4))
 have p3b:=dis_upd hs110 (nd).symm d82 (sl _ p5.1)
 have p6i:=imm_len ((Le.own (Le.own (Le.refl _) 2) 114).le pr.1)
 replace o9:=okp o9 je n5
 replace p1:=okp p1 je n8
 replace p0:=okp p0 je na
 replace p2:=okp p2 je jv
 replace p4:=Row.keep p4 je (nc _ (ms rfl))
 replace p5:=okp p5 je nd
 replace jy:=Row.keep jy je (p6d _ (ms rfl))
 replace hB:=hB.then je p7.2.2
 refine Wb (Nk rfl) <| Wb (Fr fa151_1 rfl) <| WL.storeRow (j:=7) info149 sz149 p4 (Nat.le_of_ble_eq_true rfl) rfl rfl (STy.one _ qa.1 _ (ms rfl)) fun p37 pz qm=>?_
 replace qm:Row p37 p9 [.int .i64 (y3.Objects),v7,v10,v13,v16,v39,.slice none 0 0,v105] 151:=qm
 replace o9:=okp o9 pz kc
 replace p1:=okp p1 pz kd
 replace p0:=okp p0 pz ke
 replace p2:=okp p2 pz kf
 replace p5:=okp p5 pz (ql).symm
 replace jy:=Row.keep jy pz (p6c _ (ms rfl))
 replace qa:=okp qa pz p2d
 replace hB:=hB.then pz (one_then gf)
 refine anz <| W_region rfl <| Wb (Mp rfl) <| Wb (Mp rfl) <| Wb (Nk rfl) <| Wb (Fr fa151_0 rfl) <| Wb (Fr fa66_1 rfl) <| Wb (Lr na22 qm rfl rfl) <| Wb (Mv v74 rfl) <| WL.val (v:=.int .i64 ((y70.1.length:Int))) rfl (op_lenV Tryz.underlying118 p6i) <| WL.lit1 u22z info2 zr2 sz2 rfl fun p6j p6k jf jz p3c=>?_
 replace jz:Row p6k p6j [.int .i64 ((y70.1.length:Int))] 2:=jz
 have p6l:=dl (onw p3c) (sl _ p5.1)
 have p6m:=dl (onw p3c) (one_lt (Row.lt qm))
 replace o9:=ko o9 jf
 replace p1:=ko p1 jf
 replace p0:=ko p0 jf
 replace p2:=ko p2 jf
 replace p5:=ko p5 jf
 replace qa:=ko qa jf
 replace qm:=kr qm jf
 replace hB:=(hB.trans jf)
 obtain ⟨n146,hn147,ho⟩:=bs ho
 have hn147a:=fits_some hn147
 refine WL.append1 (E:=(sInt .i64)) _ _ u22z info2 zr2 sz2 rfl rfl rfl p5 rfl jz ⟨rfl,rfl⟩ List.nodup_nil (fun _ h=>nomatch h) (fun _ h=>nomatch h) (by rw [by2]; exact hn147a.1) hn147a.2 hB.size fun v140 p8q p8r jg gk hs145=>?_
 have p6n:=dis_upd hs145 (n4).symm (fun _ h=>nomatch h) (sl _ o9.1)
 have p6o:=dis_upd hs145 (n6).symm (fun _ h=>nomatch h) (sl _ p1.1)
 have p6p:=dis_upd hs145 (n9).symm (fun _ h=>nomatch h) (sl _ p0.1)
 have p6q:=dis_upd hs145 (nb).symm (fun _ h=>nomatch h) (sl _ p2.1)
 have p6r:=dis_upd hs145 (p3b).symm (fun _ h=>nomatch h) (sl _ qa.1)
 have p3d:=dis_upd hs145 (ql).symm (fun _ h=>nomatch h) (one_lt (Row.lt qm))
 replace o9:=okp o9 jg n4
 replace p1:=okp p1 jg n6
 replace p0:=okp p0 jg n9
 replace p2:=okp p2 jg nb
 replace qa:=okp qa jg p3b
 replace qm:=Row.keep qm jg (ql _ (ms rfl))
 replace jz:=Row.keep jz jg (p6l _ (ms rfl))
 replace hB:=hB.then jg p5.2.2
 refine Wb (Nk rfl) <| Wb (Fr fa151_0 rfl) <| Wb (Fr fa66_1 rfl) <| WL.storeRow (j:=5) info22 sz22 qm (Nat.le_of_ble_eq_true rfl) rfl rfl (STy.one _ gk.1 _ (ms rfl)) fun ge jh p2e=>?_
 replace p2e:Row ge p9 [.int .i64 (y3.Objects),v7,v10,v13,v16,v140,.slice none 0 0,v105] 151:=p2e
 replace o9:=okp o9 jh kc
 replace p1:=okp p1 jh kd
 replace p0:=okp p0 jh ke
 replace p2:=okp p2 jh kf
 replace qa:=okp qa jh p2d
 replace jz:=Row.keep jz jh (p6m _ (ms rfl))
 replace gk:=okp gk jh p3d
 replace hB:=hB.then jh (one_then gf)
 refine inBlk_n <| anz <| Wq rfl (cr [] ge) <| Qa (Mi rfl) <| Qa (Ba rfl rfl) <| Qa (Ai rfl) <| fun p8s ji=>?_
 cases ho
 exact ⟨_,_,_,_,(hB.trans ji),(ko o9 ji),(ko p1 ji),(ko p0 ji),(ko p2 ji),(kr p2e ji),(ko gk ji),(ko qa ji),gg,ka,gh,kc,((p6n).symm),((p6e).symm),gi,gj,kd,((p6o).symm),((p6f).symm),kb,ke,((p6p).symm),((p6g).symm),kf,((p6q).symm),((p6h).symm),((p3d).symm),((p2d).symm),p6r,fe rfl⟩
 intro p2b
 rw [p2b] at ho
 refine W_exit <| andThen_x <| ?_
 cases ho
 exact ⟨rfl,⟨_,_,_,_,(hB.trans ph),(ko o9 ph),(ko p1 ph),(ko p0 ph),(ko p2 ph),(kr p4 ph),(ko p5 ph),(ko p7 ph),gg,ka,gh,kc,n4,n5,gi,gj,kd,n6,n8,kb,ke,n9,na,kf,nb,jv,ql,nc,nd,fe rfl⟩⟩
 rintro ⟨s0_5,s0_b26_5,s0_b26_7⟩ _ p6s ⟨v39,pe,v42,pf,hB,o9,p1,p0,p2,p4,p5,p7,gg,ka,gh,kc,n4,n5,gi,gj,kd,n6,n8,kb,ke,n9,na,kf,nb,jv,ql,nc,nd,F,rfl⟩ ho
 dsimp only at ho
 refine anz <| wq <| wq <| Wq rfl (cr [] p6s) <| Qa (Mp rfl) <| Qa (Nk rfl) <| Qa (Fp fa32_1 rfl) <| Qa (La na22 (At.keep0 a_x0 hB) rfl rfl) <| Qa (Ln sl22 (kB za hB) rfl) <| Qa (Mi rfl) <| fun p8t jj=>anz <| Wf (S1:=Int×(List (List Int))) (fun s r w'=>match s with | (s1_61,s1_b26_6)=>∃ (v165:Value) (pm:List Nat),Chg [] w w'∧OE [] w.heap.size w' (sOwn 2 (sInt .i64)) [v7] (y3.From) f8∧OE [] w.heap.size w' (sOwn 2 (sInt .i64)) [v10] (y3.To) p8∧OE [] w.heap.size w' (sOwn 2 (sInt .i64)) [v13] (y3.Identity) pd∧OE [] w.heap.size w' (sOwn 22 (sOwn 2 (sInt .i64))) [v16] (y3.Composites) pi∧Row w' p9 [.int .i64 (y3.Objects),v7,v10,v13,v16,v39,v165,v42] 151∧OE [] w.heap.size w' (sOwn 2 (sInt .i64)) [v39] (s0_b26_5) pe∧OE [] w.heap.size w' (sOwn 118 (sOwn 114 (sOwn 2 (sInt .i64)))) [v42] (s0_b26_7) pf∧OE [] w.heap.size w' (sOwn 22 (sOwn 2 (sInt .i64))) [v165] (s1_b26_6) pm∧Dis f8 p8∧Dis f8 pd∧Dis f8 pi∧Dis f8 [p9]∧Dis f8 pe∧Dis f8 pf∧Dis f8 pm∧Dis p8 pd∧Dis p8 pi∧Dis p8 [p9]∧Dis p8 pe∧Dis p8 pf∧Dis p8 pm∧Dis pd pi∧Dis pd [p9]∧Dis pd pe∧Dis pd pf∧Dis pd pm∧Dis pi [p9]∧Dis pi pe∧Dis pi pf∧Dis pi pm∧Dis [p9] pe∧Dis [p9] pf∧Dis [p9] pm∧Dis pe pf∧Dis pe pm∧Dis pf pm∧∃ F,r=updL F [(0,.pointer (some (p_x0))),(4,.pointer (some (⟨p9,0,none⟩))),(60,.int .i64 ((x0.From.length:Int))),(61,.int .i64 (s1_61))]) (impl_Category_classifier_T w) ho ⟨_,_,(hB.trans jj),(ko o9 jj),(ko p1 jj),(ko p0 jj),(ko p2 jj),(kr p4 jj),(ko p5 jj),(ko p7 jj),nil_OE,(gg),(ka),(gh),(kc),(n4),(n5),(fun _ _ h=>nomatch h),(gi),(gj),(kd),(n6),(n8),(fun _ _ h=>nomatch h),(kb),(ke),(n9),(na),(fun _ _ h=>nomatch h),(kf),(nb),(jv),(fun _ _ h=>nomatch h),(ql),(nc),(fun _ _ h=>nomatch h),(nd),(fun _ _ h=>nomatch h),(fun _ _ h=>nomatch h),fe rfl⟩ ?_ ?_
 rintro ⟨s1_61,s1_b26_6⟩ _ p6t ⟨v165,pm,hB,o9,p1,p0,p2,p4,p5,p7,pj,gl,gm,gn,go,gp,gq,gr,gs,gt,gu,gv,gw,gx,gy,gz,p00,p01,p02,p03,p04,p05,p06,p07,p08,p09,p0a,p0b,p0c,F,rfl⟩ o ho
 replace ho:impl_Category_classifier_L1 x0 y3 s0_b26_5 s0_b26_7 s1_61 s1_b26_6=some o:=ho
 unfold impl_Category_classifier_L1 at ho
 refine wq <| Wq rfl (cr [] p6t) <| Qa (Bl rfl rfl) <| fun p8u qn=>anz <| wq <| W_cond (b:=decide (s1_61 < (x0.From.length:Int))) rfl ?_ ?_
 intro p2f
 rw [p2f] at ho
 refine W_skip <| anz <| wq <| W_block <| wq <| Wq rfl qn <| Qa (Mi rfl) <| Qa (Ai rfl) <| fun p8v qo=>anz <| wq <| W_region rfl <| WL.lit0 (sInt .i64) u22z info2 fun v202 p6u p8w p6v qb=>?_
 have p6w:=dl (ofr qb) (sl _ (kp _ o9.1 qo))
 have p6x:=dl (ofr qb) (sl _ (kp _ p1.1 qo))
 have p6y:=dl (ofr qb) (sl _ (kp _ p0.1 qo))
 have p6z:=dl (ofr qb) (sl _ (kp _ p2.1 qo))
 have p70:=dl (ofr qb) (one_lt (Row.lt (kr p4 qo)))
 have p71:=dl (ofr qb) (sl _ (kp _ p5.1 qo))
 have p72:=dl (ofr qb) (sl _ (kp _ p7.1 qo))
 have p73:=dl (ofr qb) (sl _ (kp _ pj.1 qo))
 replace qb:=OE.low (G:=[]) qb (hB.trans qo).size
 have qy:=qo.trans p6v
 replace o9:=ko o9 qy
 replace p1:=ko p1 qy
 replace p0:=ko p0 qy
 replace p2:=ko p2 qy
 replace p4:=kr p4 qy
 replace p5:=ko p5 qy
 replace p7:=ko p7 qy
 replace pj:=ko pj qy
 replace hB:=(hB.trans qy)
 refine Wb (Av v202 rfl) <| anz <| wq <| wq <| Wqd rfl (by kernel_rfl) (cr [] p6u) <| Qa (Mp rfl) <| Qa (Nk rfl) <| Qa (Fr fa151_1 rfl) <| Qa (Lr na149 p4 rfl rfl) <| Qa (Mp rfl) <| Qa (Nk rfl) <| Qa (Fp fa32_1 rfl) <| Qa (La na22 (At.keep0 a_x0 hB) rfl rfl) <| Qa (Mi rfl) <| ?_
 obtain ⟨e216,hx217e,ho⟩:=bs ho
 have hx217:=idx_some hx217e
 refine Qa (Ix sl22 (kB za hB) hx217 rfl rfl rfl) <| Qa (Ei na2 (kB za hB) hx217 rfl) <| ?_
 obtain ⟨e218,hx219e,ho⟩:=bs ho
 have hx219:=idx_some hx219e
 refine Qa (Ix sl149 ((Le.own (Le.own (Le.own (Le.refl _) 2) 114) 118).le p7.1) hx219 rfl rfl rfl) <| ?_
 obtain ⟨u220,fu221,hu222,q6,hs224⟩:=one_get rfl ((Le.own (Le.own (Le.own (Le.refl _) 2) 114) 118).le p7.1) hx219.1 hx219.2
 refine Qa (Ld na118 hu222 rfl) <| Qa (Ln sl118 q6 rfl) <| Qa (Mi rfl) <| fun p8x qc=>anz <| Wf (S1:=(List Int)×Int) (fun s r w'=>match s with | (s2_9,s2_79)=>∃ (v227:Value) (qd:List Nat),Chg [] w w'∧OE [] w.heap.size w' (sOwn 2 (sInt .i64)) [v7] (y3.From) f8∧OE [] w.heap.size w' (sOwn 2 (sInt .i64)) [v10] (y3.To) p8∧OE [] w.heap.size w' (sOwn 2 (sInt .i64)) [v13] (y3.Identity) pd∧OE [] w.heap.size w' (sOwn 22 (sOwn 2 (sInt .i64))) [v16] (y3.Composites) pi∧Row w' p9 [.int .i64 (y3.Objects),v7,v10,v13,v16,v39,v165,v42] 151∧OE [] w.heap.size w' (sOwn 2 (sInt .i64)) [v39] (s0_b26_5) pe∧OE [] w.heap.size w' (sOwn 118 (sOwn 114 (sOwn 2 (sInt .i64)))) [v42] (s0_b26_7) pf∧OE [] w.heap.size w' (sOwn 22 (sOwn 2 (sInt .i64))) [v165] (s1_b26_6) pm∧(sImm (sImm (sInt .i64))).rep w'.heap [u220] (e218) fu221∧OE [] w.heap.size w' (sOwn 2 (sInt .i64)) [v227] (s2_9) qd∧Dis f8 p8∧Dis f8 pd∧Dis f8 pi∧Dis f8 [p9]∧Dis f8 pe∧Dis f8 pf∧Dis f8 pm∧Dis f8 qd∧Dis p8 pd∧Dis p8 pi∧Dis p8 [p9]∧Dis p8 pe∧Dis p8 pf∧Dis p8 pm∧Dis p8 qd∧Dis pd pi∧Dis pd [p9]∧Dis pd pe∧Dis pd pf∧Dis pd pm∧Dis pd qd∧Dis pi [p9]∧Dis pi pe∧Dis pi pf∧Dis pi pm∧Dis pi qd∧Dis [p9] pe∧Dis [p9] pf∧Dis [p9] pm∧Dis [p9] qd∧Dis pe pf∧Dis pe pm∧Dis pe qd∧Dis pf pm∧Dis pf qd∧Dis pm qd∧∃ F,r=updL F [(0,.pointer (some (p_x0))),(4,.pointer (some (⟨p9,0,none⟩))),(8,.int .i64 (s1_61)),(9,v227),(60,.int .i64 ((x0.From.length:Int))),(61,.int .i64 (s1_61)),(77,u220),(78,.int .i64 ((e218.length:Int))),(79,.int .i64 (s2_79))]) (impl_Category_classifier_T w) ho ⟨_,_,(hB.trans qc),(ko o9 qc),(ko p1 qc),(ko p0 qc),(ko p2 qc),(kr p4 qc),(ko p5 qc),(ko p7 qc),(ko pj qc),(kp _ q6 qc),(ko qb qc),(gl),(gm),(gn),(go),(gp),(gq),(gr),((p6w).symm),(gs),(gt),(gu),(gv),(gw),(gx),((p6x).symm),(gy),(gz),(p00),(p01),(p02),((p6y).symm),(p03),(p04),(p05),(p06),((p6z).symm),(p07),(p08),(p09),((p70).symm),(p0a),(p0b),((p71).symm),(p0c),((p72).symm),((p73).symm),fe rfl⟩ ?_ ?_
 rintro ⟨s2_9,s2_79⟩ _ p74 ⟨v227,qd,hB,o9,p1,p0,p2,p4,p5,p7,pj,q6,pv,p0d,p0e,p0f,nf,p0g,p0h,ng,nh,p0i,p0j,ni,p0k,p0l,nj,nk,p0m,nl,p0n,p0o,nm,nn,no,p0p,p0q,np,nq,nr,ns,nt,nu,p0r,nv,nw,nx,k0,ny,F,rfl⟩ o ho
 replace ho:impl_Category_classifier_L2 x0 y3 s0_b26_5 s0_b26_7 s1_61 s1_b26_6 e218 s2_9 s2_79=some o:=ho
 unfold impl_Category_classifier_L2 at ho
 refine wq <| Wq rfl (cr [] p74) <| Qa (Bl rfl rfl) <| fun p8y q7=>anz <| wq <| W_cond (b:=decide (s2_79 < (e218.length:Int))) rfl ?_ ?_
 intro p2g
 rw [p2g] at ho
 refine W_skip <| anz <| wq <| W_block <| wq <| Wq rfl q7 <| ?_
 obtain ⟨e270,hx271e,ho⟩:=bs ho
 have hx271:=idx_some hx271e
 refine Qa (Ix sl118 q6 hx271 rfl rfl rfl) <| ?_
 obtain ⟨u272,fu273,hu274,nz,hs276⟩:=one_get rfl q6 hx271.1 hx271.2
 refine Qa (Ld na114 hu274 rfl) <| Qa (Av u272 rfl) <| fun p75 pn=>anz <| ?_
 obtain ⟨e279,hx280e,ho⟩:=bs ho
 have hx280:=idx_some hx280e
 obtain ⟨y281,p76,ho⟩:=bs ho
 obtain ⟨y286,p77,ho⟩:=bs ho
 refine W_any (m:=15) (U:=.replicate 15 []) (S:=[sV (v227),sV (.pointer (some (⟨p9,0,none⟩))),sV (.pointer (some (p_x0))),sV (.pointer (some (p_x0))),sV (.pointer (some (p_x0.add 2))),sV (z1),sV (.int .i64 (s1_61)),sV (.pointer (some (elA (z1) 1 (s1_61)))),sV (.int .i64 (e279)),sV (.pointer (some (p_x0))),sV (.int .i64 (s1_61)),sV (u272),sO (sOwn 2 (sInt .i64)) (y281),sV (.int .i64 (y286)),⟨true,pl <| LitV [.int .i64 (y286)] 2 1⟩]) (Z:=[]) hmix rfl (by decide) (by decide +kernel) (fun _ _ _ h=>np_out h) (by decide) rfl (by decide +kernel) (stable_all <| stable_cons stable_val (stable_cons stable_val (stable_cons stable_val (stable_cons stable_val (stable_cons stable_val (stable_cons stable_val (stable_cons stable_val (stable_cons stable_val (stable_cons stable_val (stable_cons stable_val (stable_cons stable_val (stable_cons stable_val (stable_cons stable_own (stable_cons stable_val (stable_cons stable_lit ( stable_nil)))))))))))))))) ?_ ?_
 refine owes_cons ?_ <| owes_cons ?_ <| owes_cons ?_ <| owes_cons ?_ <| owes_cons ?_ <| owes_cons ?_ <| owes_cons ?_ <| owes_cons ?_ <| owes_cons ?_ <| owes_cons ?_ <| owes_cons ?_ <| owes_cons ?_ <| owes_cons ?_ <| owes_cons ?_ <| owes_cons ?_ <| owes_nil
 exact Oh rfl rfl rfl [(9,v227)] pn rfl rfl fun _=>Mv v227 rfl
 exact Oh rfl rfl rfl [(4,.pointer (some (⟨p9,0,none⟩)))] pn rfl rfl fun _=>Mp rfl
 exact Oh rfl rfl rfl [(0,.pointer (some (p_x0)))] pn rfl rfl fun _=>Mp rfl
 exact Ov rfl rfl rfl [] [(85,.pointer (some (p_x0)))] [2] pn rfl rfl (by decide +kernel) rfl fun _=>Nk rfl
 exact Ov rfl rfl rfl [] [(86,.pointer (some (p_x0)))] [3] pn rfl rfl (by decide +kernel) rfl fun _=>Fp fa32_2 rfl
 exact Ov rfl rfl rfl [] [(87,.pointer (some (p_x0.add 2)))] [4] pn rfl rfl (by decide +kernel) rfl fun _=>La na22 (At.keep0 a_x0 hB) rfl rfl
 exact Oh rfl rfl rfl [(8,.int .i64 (s1_61))] pn rfl rfl fun _=>Mi rfl
 exact Ov rfl rfl rfl [] [(88,z1),(89,.int .i64 (s1_61))] [5,6] pn rfl rfl (by decide +kernel) rfl fun _=>Ix sl22 (kB zb hB) hx280 rfl rfl rfl
 exact Ov rfl rfl rfl [] [(90,.pointer (some (elA (z1) 1 (s1_61))))] [7] pn rfl rfl (by decide +kernel) rfl fun _=>Ei na2 (kB zb hB) hx280 rfl
 exact Oh rfl rfl rfl [(0,.pointer (some (p_x0)))] pn rfl rfl fun _=>Mp rfl
 exact Oh rfl rfl rfl [(8,.int .i64 (s1_61))] pn rfl rfl fun _=>Mi rfl
 exact Oh rfl rfl rfl [(11,u272)] pn rfl rfl fun _=>Mv u272 rfl
 refine Owes.mem rfl rfl rfl <| fun g r wr hCr H hot=>?_
 have hC:=pn.trans hCr
 obtain ⟨F,rfl⟩:=fr (r:=r) (l:=[(92,.pointer (some (p_x0))),(93,.int .i64 (s1_61)),(94,u272)]) ⟨(H 9 (by decide +kernel) 92 rfl),(H 10 (by decide +kernel) 93 rfl),(H 11 (by decide +kernel) 94 rfl),trivial⟩
 exact OpW.own (op_callF Tryz.func153 rfl rfl) (impl_Category_pull_calls (kp _ za (hB.trans hC)) (kp _ zb (hB.trans hC)) (kp _ zd (hB.trans hC)) (kp _ zc (hB.trans hC)) (At.keep0 a_x0 (hB.trans hC)) (kp _ nz hC) p76)
 refine Owes.call (f:=113) rfl rfl rfl <| fun g r wr hCr H hot=>?_
 have hC:=pn.trans hCr
 have qp:OwnV (sOwn 2 (sInt .i64)) (y281) _ _ _:=H 12 (by decide +kernel) 95 rfl
 generalize hvv283:r 95=v283 at qp
 obtain ⟨F,rfl⟩:=fr (r:=r) (l:=[(84,.pointer (some (⟨p9,0,none⟩))),(91,.int .i64 (e279)),(95,v283)]) ⟨(H 1 (by decide +kernel) 84 rfl),(H 8 (by decide +kernel) 91 rfl),hvv283,trivial⟩
 exact ⟨_,op_callF Tryz.func113 rfl rfl,impl_classifier_number_calls (x0:=(MClassifier.mk (MSetFunctor.mk y3 s0_b26_5 s1_b26_6) s0_b26_7)) ((Le.own (Le.refl _) 2).le (kp _ o9.1 hC)) ((Le.own (Le.refl _) 2).le (kp _ p1.1 hC)) ((Le.own (Le.refl _) 2).le (kp _ p0.1 hC)) ((Le.own (Le.own (Le.refl _) 2) 22).le (kp _ p2.1 hC)) ((Le.own (Le.refl _) 2).le (kp _ p5.1 hC)) ((Le.own (Le.own (Le.refl _) 2) 22).le (kp _ pj.1 hC)) ((Le.own (Le.own (Le.own (Le.refl _) 2) 114) 118).le (kp _ p7.1 hC)) (kr p4 hC).at ((Le.own (Le.refl _) 2).le qp.1) p77⟩
 refine Owes.mem rfl rfl rfl <| fun g r wr hCr H hot=>?_
 have hC:=pn.trans hCr
 obtain ⟨F,rfl⟩:=fr (r:=r) (l:=[(96,.int .i64 (y286))]) ⟨(H 13 (by decide +kernel) 96 rfl),trivial⟩
 exact OpW.lit1 u22z info2 zr2 sz2 rfl rfl
 rintro g r p78 ⟨p79,hdone,hot,hfresh,hdis⟩
 have qp:OwnV (sOwn 2 (sInt .i64)) (y281) _ _ _:=hdone 12 (by decide) (by decide) 95 rfl
 generalize hvv283:r 95=v283 at qp
 have hfo285:=hfresh 12 (by decide)
 obtain ⟨p2h,hbb288,hvb288,p2i⟩ : LitV [.int .i64 (y286)] 2 1 _ _ _:=hdone 14 (by decide) (by decide) 97 rfl
 have hlb288:p75.heap.size≤p2h:=(hfresh 14 (by decide) p2h (by rw [hbb288]; exact ms rfl)).1
 have hdd:=hdis
 obtain ⟨F,rfl⟩:=fw hdone hot [(0,.pointer (some (p_x0))),(4,.pointer (some (⟨p9,0,none⟩))),(8,.int .i64 (s1_61)),(60,.int .i64 ((x0.From.length:Int))),(61,.int .i64 (s1_61)),(77,u220),(78,.int .i64 ((e218.length:Int))),(79,.int .i64 (s2_79))] [(83,v227)] [0] rfl rfl rfl rfl (z:=[(95,v283),(97,.slice (some ⟨p2h,0,none⟩) 1 1)]) ⟨hvv283,hvb288,trivial⟩
 obtain ⟨p7a,hgf284⟩ : ∃ k,k=g 12:=⟨_,rfl⟩
 rw [← hgf284] at qp hfo285
 replace qp:OE [] w.heap.size p78 (sOwn 2 (sInt .i64)) [v283] (y281) p7a:=⟨qp.1,qp.2,fun b hb=>.inr (Nat.le_trans (hB.trans pn).size (hfo285 b hb).1)⟩
 have p7b:=dl (fun b hb=>(hfo285 b hb).1) (sl _ (kp _ pv.1 pn))
 have p7c:=dl (onw hlb288) (sl _ (kp _ pv.1 pn))
 have q0:=(pn.trans p79)
 replace o9:=ko o9 q0
 replace p1:=ko p1 q0
 replace p0:=ko p0 q0
 replace p2:=ko p2 q0
 replace p4:=kr p4 q0
 replace p5:=ko p5 q0
 replace p7:=ko p7 q0
 replace pj:=ko pj q0
 replace q6:=kp _ q6 q0
 replace pv:=ko pv q0
 replace hu274:=q0.cell0 hu274
 replace nz:=kp _ nz q0
 replace hB:=(hB.trans q0)
 obtain ⟨n320,hn321,ho⟩:=bs ho
 have hn321a:=fits_some hn321
 refine WL.append1 (E:=(sInt .i64)) _ _ u22z info2 zr2 sz2 rfl rfl rfl pv rfl p2i ⟨rfl,rfl⟩ List.nodup_nil (fun _ h=>nomatch h) (fun _ h=>nomatch h) (by rw [by2]; exact hn321a.1) hn321a.2 hB.size fun v314 p7d p8z q1 p7e hs319=>?_
 have p7f:=dis_upd hs319 (nh).symm (fun _ h=>nomatch h) (sl _ o9.1)
 have p7g:=dis_upd hs319 (nk).symm (fun _ h=>nomatch h) (sl _ p1.1)
 have p7h:=dis_upd hs319 (nn).symm (fun _ h=>nomatch h) (sl _ p0.1)
 have p7i:=dis_upd hs319 (nq).symm (fun _ h=>nomatch h) (sl _ p2.1)
 have p7j:=dis_upd hs319 (nu).symm (fun _ h=>nomatch h) (one_lt (Row.lt p4))
 have p7k:=dis_upd hs319 (nw).symm (fun _ h=>nomatch h) (sl _ p5.1)
 have p7l:=dis_upd hs319 (k0).symm (fun _ h=>nomatch h) (sl _ p7.1)
 have p7m:=dis_upd hs319 (ny).symm (fun _ h=>nomatch h) (sl _ pj.1)
 replace q6:=STy.keep _ q6 q1 (fun b hb=>k0 b (hs224 b hb))
 replace nz:=STy.keep _ nz q1 (fun b hb=>(fun b hb=>k0 b (hs224 b hb)) b (hs276 b hb))
 replace o9:=okp o9 q1 nh
 replace p1:=okp p1 q1 nk
 replace p0:=okp p0 q1 nn
 replace p2:=okp p2 q1 nq
 replace p4:=Row.keep p4 q1 (nu _ (ms rfl))
 replace p5:=okp p5 q1 nw
 replace p7:=okp p7 q1 k0
 replace pj:=okp pj q1 ny
 replace qp:=okp qp q1 p7b
 replace p2i:=Row.keep p2i q1 (p7c _ (ms rfl))
 replace hB:=hB.then q1 pv.2.2
 refine Wb (Av v314 rfl) <| inBlk_n <| anz <| Wq rfl (cr [] p7d) <| Qa (Ba rfl rfl) <| Qa (Mi rfl) <| fun p90 qe=>?_
 cases ho
 exact ⟨_,_,(hB.trans qe),(ko o9 qe),(ko p1 qe),(ko p0 qe),(ko p2 qe),(kr p4 qe),(ko p5 qe),(ko p7 qe),(ko pj qe),(kp _ q6 qe),(ko p7e qe),p0d,p0e,p0f,nf,p0g,p0h,ng,((p7f).symm),p0i,p0j,ni,p0k,p0l,nj,((p7g).symm),p0m,nl,p0n,p0o,nm,((p7h).symm),no,p0p,p0q,np,((p7i).symm),nr,ns,nt,((p7j).symm),p0r,nv,((p7k).symm),nx,((p7l).symm),((p7m).symm),fe rfl⟩
 intro p2g
 rw [p2g] at ho
 refine W_exit <| andThen_x <| ?_
 cases ho
 exact ⟨rfl,⟨_,_,(hB.trans q7),(ko o9 q7),(ko p1 q7),(ko p0 q7),(ko p2 q7),(kr p4 q7),(ko p5 q7),(ko p7 q7),(ko pj q7),(kp _ q6 q7),(ko pv q7),p0d,p0e,p0f,nf,p0g,p0h,ng,nh,p0i,p0j,ni,p0k,p0l,nj,nk,p0m,nl,p0n,p0o,nm,nn,no,p0p,p0q,np,nq,nr,ns,nt,nu,p0r,nv,nw,nx,k0,ny,fe rfl⟩⟩
 rintro ⟨s2_9,s2_79⟩ _ p91 ⟨v227,qd,hB,o9,p1,p0,p2,p4,p5,p7,pj,q6,pv,p0d,p0e,p0f,nf,p0g,p0h,ng,nh,p0i,p0j,ni,p0k,p0l,nj,nk,p0m,nl,p0n,p0o,nm,nn,no,p0p,p0q,np,nq,nr,ns,nt,nu,p0r,nv,nw,nx,k0,ny,F,rfl⟩ ho
 dsimp only at ho
 refine anz <| W_region rfl <| Wb (Mp rfl) <| Wb (Mp rfl) <| Wb (Nk rfl) <| Wb (Fr fa151_0 rfl) <| Wb (Fr fa66_2 rfl) <| Wb (Lr na23 p4 rfl rfl) <| Wb (Mv v227 rfl) <| WL.lit1 u23z info22 zr22 sz22 (STy.one _ pv.1 _ (ms rfl)) fun p7n p7o qq k1 p3e=>?_
 replace k1:Row p7o p7n [v227] 22:=k1
 have p7p:=dl (onw p3e) (one_lt (Row.lt p4))
 have p7q:=dl (onw p3e) (sl _ pj.1)
 replace o9:=ko o9 qq
 replace p1:=ko p1 qq
 replace p0:=ko p0 qq
 replace p2:=ko p2 qq
 replace p4:=kr p4 qq
 replace p5:=ko p5 qq
 replace p7:=ko p7 qq
 replace pj:=ko pj qq
 replace pv:=ko pv qq
 replace hB:=(hB.trans qq)
 obtain ⟨n358,hn359,ho⟩:=bs ho
 have hn359a:=fits_some hn359
 refine WL.append1 (E:=(sOwn 2 (sInt .i64))) _ _ u23z info22 zr22 sz22 rfl rfl rfl pj rfl k1 pv.1 pv.2.1 pv.2.2 (ny).symm (by rw [by22]; exact hn359a.1) hn359a.2 hB.size fun v352 p92 p93 qz p0s hs357=>?_
 have p7r:=dis_upd hs357 (ng).symm (nh).symm (sl _ o9.1)
 have p7s:=dis_upd hs357 (nj).symm (nk).symm (sl _ p1.1)
 have p7t:=dis_upd hs357 (nm).symm (nn).symm (sl _ p0.1)
 have p7u:=dis_upd hs357 (np).symm (nq).symm (sl _ p2.1)
 have p3f:=dis_upd hs357 (nt).symm (nu).symm (one_lt (Row.lt p4))
 have p7v:=dis_upd hs357 (nv).symm (nw).symm (sl _ p5.1)
 have p7w:=dis_upd hs357 (nx).symm (k0).symm (sl _ p7.1)
 replace o9:=okp o9 qz ng
 replace p1:=okp p1 qz nj
 replace p0:=okp p0 qz nm
 replace p2:=okp p2 qz np
 replace p4:=Row.keep p4 qz (nt _ (ms rfl))
 replace p5:=okp p5 qz nv
 replace p7:=okp p7 qz nx
 replace k1:=Row.keep k1 qz (p7q _ (ms rfl))
 replace hB:=hB.then qz pj.2.2
 refine Wb (Nk rfl) <| Wb (Fr fa151_0 rfl) <| Wb (Fr fa66_2 rfl) <| WL.storeRow (j:=6) info23 sz23 p4 (Nat.le_of_ble_eq_true rfl) rfl rfl (STy.one _ p0s.1 _ (ms rfl)) fun p3g j0 p2j=>?_
 replace p2j:Row p3g p9 [.int .i64 (y3.Objects),v7,v10,v13,v16,v39,v352,v42] 151:=p2j
 replace o9:=okp o9 j0 nf
 replace p1:=okp p1 j0 ni
 replace p0:=okp p0 j0 nl
 replace p2:=okp p2 j0 no
 replace p5:=okp p5 j0 (nr).symm
 replace p7:=okp p7 j0 (ns).symm
 replace k1:=Row.keep k1 j0 (p7p _ (ms rfl))
 replace p0s:=okp p0s j0 p3f
 replace hB:=hB.then j0 (one_then gf)
 refine inBlk_n <| anz <| Wq rfl (cr [] p3g) <| Qa (Ba rfl rfl) <| Qa (Mi rfl) <| fun p94 j1=>?_
 cases ho
 exact ⟨_,_,(hB.trans j1),(ko o9 j1),(ko p1 j1),(ko p0 j1),(ko p2 j1),(kr p2j j1),(ko p5 j1),(ko p7 j1),(ko p0s j1),p0d,p0e,p0f,nf,p0g,p0h,((p7r).symm),p0i,p0j,ni,p0k,p0l,((p7s).symm),p0m,nl,p0n,p0o,((p7t).symm),no,p0p,p0q,((p7u).symm),nr,ns,((p3f).symm),p0r,((p7v).symm),((p7w).symm),fe rfl⟩
 intro p2f
 rw [p2f] at ho
 refine W_exit <| andThen_x <| ?_
 cases ho
 exact ⟨rfl,⟨_,_,(hB.trans qn),(ko o9 qn),(ko p1 qn),(ko p0 qn),(ko p2 qn),(kr p4 qn),(ko p5 qn),(ko p7 qn),(ko pj qn),gl,gm,gn,go,gp,gq,gr,gs,gt,gu,gv,gw,gx,gy,gz,p00,p01,p02,p03,p04,p05,p06,p07,p08,p09,p0a,p0b,p0c,fe rfl⟩⟩
 rintro ⟨s1_61,s1_b26_6⟩ _ p7x ⟨v165,pm,hB,o9,p1,p0,p2,p4,p5,p7,pj,gl,gm,gn,go,gp,gq,gr,gs,gt,gu,gv,gw,gx,gy,gz,p00,p01,p02,p03,p04,p05,p06,p07,p08,p09,p0a,p0b,p0c,F,rfl⟩ ho
 dsimp only at ho
 refine anz <| wq <| Wq rfl (cr [] p7x) <| Qa (Mp rfl) <| Qa (Ap rfl) <| Qa (Ab rfl) <| fun p95 j2=>anz <| ?_
 cases ho
 exact W_ret ⟨_,res_2 Tryz.results164,_,rfl,(hB.trans j2),_,_,_,_,_,_,_,_,_,_,_,_,_,_,_,rfl,(ko o9 j2),(ko p1 j2),(ko p0 j2),(ko p2 j2),(ko p5 j2),(ko pj j2),(ko p7 j2),(kr p4 j2),gf,gl,gm,gn,gp,gr,gq,go,gs,gt,gv,gx,gw,gu,gy,p00,p02,p01,gz,p04,p06,p05,p03,p0b,p0a,(p07).symm,(p0c).symm,(p09).symm,(p08).symm⟩
end Go.Proofs.YtcmckiiafgcmjaaGreat
