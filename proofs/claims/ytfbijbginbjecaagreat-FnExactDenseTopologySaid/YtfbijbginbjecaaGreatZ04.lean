/- Walks, printed by a program: what each function computes (a model on plain data), and that a call computes it. No condition beside those that each theorem names. -/
import Derived.Test.YtfbijbginbjecaaGreatTy
import Derived.Test.YtfbijbginbjecaaGreatZ03
namespace Go.Proofs.YtfbijbginbjecaaGreat
open Go Go.Li
set_option linter.unusedVariables false
set_option maxHeartbeats 4000000
set_option maxRecDepth 100000
noncomputable def impl_Category_isShape_L0 (x0:MCategory) (s0_88:Int):Option (Out (Int) (Bool)):=
 (bif decide (s0_88 < (x0.Identity.length:Int)) then ((idx x0.Identity (s0_88))>>=fun e41=>((impl_Category_ends x0 (e41))>>=fun y45=>(bif !((y45.From) == (s0_88) && (y45.To) == (s0_88)) then (some (Out.ret (false))) else (some (Out.norm (w64 (s0_88 + (1:Int)))))))) else (some (Out.exit 0 (s0_88))))
noncomputable def impl_Category_isShape_L2 (x0:MCategory) (y3:Int) (s1_106:Int) (e61:(List Int)) (s2_117:Int):Option (Out (Int) (Bool)):=
 (bif decide (s2_117 < (e61.length:Int)) then ((idx e61 (s2_117))>>=fun e81=>((idx x0.To (s1_106))>>=fun e85=>((idx x0.From (s2_117))>>=fun e87=>(bif (e85) != (e87) then (bif (e81) != ((-1:Int)) then (some (Out.ret (false))) else (some (Out.norm (w64 (s2_117 + (1:Int)))))) else ((((impl_inRange (e81) ((0:Int)) (w64 (y3 - (1:Int))))>>=fun y101=>(bif !(y101) then (some (true)) else ((impl_Category_ends x0 (e81))>>=fun y104=>((idx x0.From (s1_106))>>=fun e106=>((idx x0.To (s2_117))>>=fun e108=>(some (!((y104.From) == (e106) && (y104.To) == (e108))))))))))>>=fun g99=>(bif g99 then (some (Out.ret (false))) else (some (Out.norm (w64 (s2_117 + (1:Int))))))))))) else (some (Out.exit 4 (s2_117))))
noncomputable def impl_Category_isShape_L1 (x0:MCategory) (y3:Int) (s1_106:Int):Option (Out (Int) (Bool)):=
 (bif decide (s1_106 < (x0.Composites.length:Int)) then ((idx x0.Composites (s1_106))>>=fun e61=>(bif ((e61.length:Int)) != (y3) then (some (Out.ret (false))) else (lbind (blockM 4 (loopM (impl_Category_isShape_L2 x0 y3 s1_106 e61) ((0:Int)))) (fun s2_117=>(some (Out.norm (w64 (s1_106 + (1:Int))))))))) else (some (Out.exit 2 (s1_106))))
noncomputable def impl_Category_isShape (x0:MCategory):Option (Bool):=
 retM (S:=Unit) ((impl_Category_arrows x0)>>=fun y3=>((((impl_inRange (x0.Objects) ((0:Int)) ((8:Int)))>>=fun y9=>(bif !(y9) then (some (true)) else (bif decide (y3 > (40:Int)) then (some (true)) else (bif ((x0.To.length:Int)) != (y3) then (some (true)) else ((impl_within x0.From (x0.Objects))>>=fun y14=>(bif !(y14) then (some (true)) else ((impl_within x0.To (x0.Objects))>>=fun y17=>(some (!(y17)))))))))))>>=fun g7=>(bif g7 then (some (Out.ret (false))) else (((bif ((x0.Identity.length:Int)) != (x0.Objects) then (some (true)) else ((impl_within x0.Identity (y3))>>=fun y27=>(bif !(y27) then (some (true)) else (some (((x0.Composites.length:Int)) != (y3)))))))>>=fun g24=>(bif g24 then (some (Out.ret (false))) else (lbind (blockM 0 (loopM (impl_Category_isShape_L0 x0) ((0:Int)))) (fun s0_88=>(lbind (blockM 2 (loopM (impl_Category_isShape_L1 x0 y3) ((0:Int)))) (fun s1_106=>(some (Out.ret (true))))))))))))
abbrev impl_Category_isShape_post (w:World) (x:(Bool)) (e:Ending) (w':World):Prop:=e = .returned (.bool x)∧Chg [] w w'
abbrev impl_Category_isShape_T (w:World) (x:(Bool)) (r:Nat→Value) (w':World):Prop:=∃ v,(∀ a:Act,a.tmps.size=167→rho a=r→(results Tryz.f164 a.tmps).run Tryz.prog w' = .ok v w')∧impl_Category_isShape_post w x (.returned v) w'
theorem impl_Category_isShape_calls {w:World} {x0:MCategory} {p_x0:Addr} {z6:Value} {zh:List Nat} {z7:Value} {zg:List Nat} {z9:Value} {zf:List Nat} {z8:Value} {ze:List Nat} (za:(sImm (sInt .i64)).rep w.heap [z6] x0.From zh) (zb:(sImm (sInt .i64)).rep w.heap [z7] x0.To zg) (zd:(sImm (sInt .i64)).rep w.heap [z9] x0.Identity zf) (zc:(sImm (sImm (sInt .i64))).rep w.heap [z8] x0.Composites ze) (a_x0:At w p_x0 [.int .i64 (x0.Objects),z6,z7,z9,z8]) {y:(Bool)} (hm:impl_Category_isShape x0=some y) :
  Calls Tryz.prog 164 #[.pointer (some (p_x0))] w (impl_Category_isShape_post w y):=by
 refine calls_of_M (S:=Unit) (args:=[.pointer (some (p_x0))]) Tryz.func164 rfl Tryz.ntmps164 (Nat.le_of_ble_eq_true rfl) (retM_some hm) ?_
 clear hm
 intro o ho
 have hB:Chg [] w w:=cr _ _
 refine wq ?_
 refine Wq rfl (cr [] w) ?_
 refine qv (v:=.bool (false)) rfl (fun _ _=>oa _) ?_
 intro wd1 hC2
 refine anz ?_
 refine wq ?_
 refine Wq rfl hC2 ?_
 refine qv (v:=.pointer (some (p_x0))) rfl (fun _ _=>om _) ?_
 obtain ⟨y3,hy4,ho⟩:=bs ho
 refine QL.call (v:=.int .i64 (y3)) rfl (fun _ _=>op_callF Tryz.func140 rfl rfl) (fun _ hC=>(impl_Category_arrows_calls (kp _ za (hB.trans hC)) (kp _ zb (hB.trans hC)) (kp _ zd (hB.trans hC)) (kp _ zc (hB.trans hC)) (At.keep0 a_x0 (hB.trans hC)) hy4).mono fun _ _ h=>⟨h.1,hC.trans h.2⟩) ?_
 refine qv (v:=.int .i64 (y3)) rfl (fun _ _=>oa _) ?_
 intro wd5 hC6
 refine anz ?_
 refine wq ?_
 refine wq ?_
 refine Wqd rfl (by kernel_rfl) hC6 ?_
 obtain ⟨g7,hm8,ho⟩:=bs ho
 refine QL.meet (fun r=>∃ F,r=updL F [(0,.pointer (some (p_x0))),(3,.int .i64 (y3)),(54,.bool (g7))]) ?_ ?_
 skip
 refine qv (v:=.pointer (some (p_x0))) rfl (fun _ _=>om _) ?_
 refine qv (v:=.pointer (some (p_x0))) rfl (fun _ _=>op_nilCheck rfl) ?_
 refine qv (v:=.pointer (some (p_x0))) rfl (fun _ _=>op_fieldAddr0 u27z rfl info2 ne2 rfl rfl) ?_
 refine qv (v:=.int .i64 (x0.Objects)) rfl (fun _ hC=>oldz u2z rfl rfl ((At.keep0 a_x0 (hB.trans hC)).cell0 rfl)) ?_
 obtain ⟨y9,hy10,hm8⟩:=bs hm8
 refine QL.call (v:=.bool (y9)) rfl (fun _ _=>op_callF Tryz.func88 rfl rfl) (fun _ hC=>(impl_inRange_calls  hy10).mono fun _ _ h=>⟨h.1,hC.trans h.2⟩) ?_
 refine qv (v:=.bool (!(y9))) rfl (fun _ _=>op_not rfl) ?_
 refine qv (v:=.bool (!(y9))) rfl (fun _ _=>om _) ?_
 rcases Bool.eq_false_or_eq_true (!(y9)) with hb11 | hb11
 rw [hb11] at hm8
 refine qs rfl (congrArg some hb11) rfl ?_
 refine qs rfl (congrArg some hb11) rfl ?_
 refine qv (v:=.bool (true)) rfl (fun _ _=>op_pickT rfl hb11) ?_
 refine qv (v:=.bool (true)) rfl (fun _ _=>om _) ?_
 refine qs rfl (congrArg some rfl) rfl ?_
 refine qs rfl (congrArg some rfl) rfl ?_
 refine qs rfl (congrArg some rfl) rfl ?_
 refine qs rfl (congrArg some rfl) rfl ?_
 refine qs rfl (congrArg some rfl) rfl ?_
 refine qs rfl (congrArg some rfl) rfl ?_
 refine qs rfl (congrArg some rfl) rfl ?_
 refine qv (v:=.bool (true)) rfl (fun _ _=>op_pickT rfl rfl) ?_
 refine qv (v:=.bool (true)) rfl (fun _ _=>om _) ?_
 refine qs rfl (congrArg some rfl) rfl ?_
 refine qs rfl (congrArg some rfl) rfl ?_
 refine qs rfl (congrArg some rfl) rfl ?_
 refine qs rfl (congrArg some rfl) rfl ?_
 refine qs rfl (congrArg some rfl) rfl ?_
 refine qs rfl (congrArg some rfl) rfl ?_
 refine qs rfl (congrArg some rfl) rfl ?_
 refine qs rfl (congrArg some rfl) rfl ?_
 refine qs rfl (congrArg some rfl) rfl ?_
 refine qs rfl (congrArg some rfl) rfl ?_
 refine qv (v:=.bool (true)) rfl (fun _ _=>op_pickT rfl rfl) ?_
 refine qv (v:=.bool (true)) rfl (fun _ _=>om _) ?_
 refine qs rfl (congrArg some rfl) rfl ?_
 refine qs rfl (congrArg some rfl) rfl ?_
 refine qs rfl (congrArg some rfl) rfl ?_
 refine qs rfl (congrArg some rfl) rfl ?_
 refine qs rfl (congrArg some rfl) rfl ?_
 refine qs rfl (congrArg some rfl) rfl ?_
 refine qs rfl (congrArg some rfl) rfl ?_
 refine qs rfl (congrArg some rfl) rfl ?_
 refine qs rfl (congrArg some rfl) rfl ?_
 refine qs rfl (congrArg some rfl) rfl ?_
 refine qv (v:=.bool (true)) rfl (fun _ _=>op_pickT rfl rfl) ?_
 cases hm8
 exact fr ⟨rfl,rfl,rfl,trivial⟩
 rw [hb11] at hm8
 refine qg (v:=.int .i64 (y3)) rfl (congrArg some hb11) (fun _ _=>om _) ?_
 refine qg (v:=.bool (decide (y3 > (40:Int)))) rfl (congrArg some hb11) (fun _ _=>op_bin rfl rfl bin_gtr) ?_
 refine qv (v:=.bool (decide (y3 > (40:Int)))) rfl (fun _ _=>op_pickF rfl hb11) ?_
 refine qv (v:=.bool (decide (y3 > (40:Int)))) rfl (fun _ _=>om _) ?_
 rcases Bool.eq_false_or_eq_true (decide (y3 > (40:Int))) with hb12 | hb12
 rw [hb12] at hm8
 refine qs rfl (congrArg some hb12) rfl ?_
 refine qs rfl (congrArg some hb12) rfl ?_
 refine qs rfl (congrArg some hb12) rfl ?_
 refine qs rfl (congrArg some hb12) rfl ?_
 refine qs rfl (congrArg some hb12) rfl ?_
 refine qs rfl (congrArg some hb12) rfl ?_
 refine qs rfl (congrArg some hb12) rfl ?_
 refine qv (v:=.bool (true)) rfl (fun _ _=>op_pickT rfl hb12) ?_
 refine qv (v:=.bool (true)) rfl (fun _ _=>om _) ?_
 refine qs rfl (congrArg some rfl) rfl ?_
 refine qs rfl (congrArg some rfl) rfl ?_
 refine qs rfl (congrArg some rfl) rfl ?_
 refine qs rfl (congrArg some rfl) rfl ?_
 refine qs rfl (congrArg some rfl) rfl ?_
 refine qs rfl (congrArg some rfl) rfl ?_
 refine qs rfl (congrArg some rfl) rfl ?_
 refine qs rfl (congrArg some rfl) rfl ?_
 refine qs rfl (congrArg some rfl) rfl ?_
 refine qs rfl (congrArg some rfl) rfl ?_
 refine qv (v:=.bool (true)) rfl (fun _ _=>op_pickT rfl rfl) ?_
 refine qv (v:=.bool (true)) rfl (fun _ _=>om _) ?_
 refine qs rfl (congrArg some rfl) rfl ?_
 refine qs rfl (congrArg some rfl) rfl ?_
 refine qs rfl (congrArg some rfl) rfl ?_
 refine qs rfl (congrArg some rfl) rfl ?_
 refine qs rfl (congrArg some rfl) rfl ?_
 refine qs rfl (congrArg some rfl) rfl ?_
 refine qs rfl (congrArg some rfl) rfl ?_
 refine qs rfl (congrArg some rfl) rfl ?_
 refine qs rfl (congrArg some rfl) rfl ?_
 refine qs rfl (congrArg some rfl) rfl ?_
 refine qv (v:=.bool (true)) rfl (fun _ _=>op_pickT rfl rfl) ?_
 cases hm8
 exact fr ⟨rfl,rfl,rfl,trivial⟩
 rw [hb12] at hm8
 refine qg (v:=.pointer (some (p_x0))) rfl (congrArg some hb12) (fun _ _=>om _) ?_
 refine qg (v:=.pointer (some (p_x0))) rfl (congrArg some hb12) (fun _ _=>op_nilCheck rfl) ?_
 refine qg (v:=.pointer (some (p_x0.add 2))) rfl (congrArg some hb12) (fun _ _=>op_fieldAddrP u27z rfl info22 ne22 rfl rfl) ?_
 refine qg (v:=z7) rfl (congrArg some hb12) (fun _ hC=>oldz u22z rfl rfl ((At.keep0 a_x0 (hB.trans hC)).cell (j:=2) rfl)) ?_
 refine qg (v:=.int .i64 ((x0.To.length:Int))) rfl (congrArg some hb12) (fun _ hC=>op_lenI u22z (kp _ zb (hB.trans hC))) ?_
 refine qg (v:=.int .i64 (y3)) rfl (congrArg some hb12) (fun _ _=>om _) ?_
 refine qg (v:=.bool (((x0.To.length:Int)) != (y3))) rfl (congrArg some hb12) (fun _ _=>op_bin rfl rfl bin_neq) ?_
 refine qv (v:=.bool (((x0.To.length:Int)) != (y3))) rfl (fun _ _=>op_pickF rfl hb12) ?_
 refine qv (v:=.bool (((x0.To.length:Int)) != (y3))) rfl (fun _ _=>om _) ?_
 rcases Bool.eq_false_or_eq_true (((x0.To.length:Int)) != (y3)) with hb13 | hb13
 rw [hb13] at hm8
 refine qs rfl (congrArg some hb13) rfl ?_
 refine qs rfl (congrArg some hb13) rfl ?_
 refine qs rfl (congrArg some hb13) rfl ?_
 refine qs rfl (congrArg some hb13) rfl ?_
 refine qs rfl (congrArg some hb13) rfl ?_
 refine qs rfl (congrArg some hb13) rfl ?_
 refine qs rfl (congrArg some hb13) rfl ?_
 refine qs rfl (congrArg some hb13) rfl ?_
 refine qs rfl (congrArg some hb13) rfl ?_
 refine qs rfl (congrArg some hb13) rfl ?_
 refine qv (v:=.bool (true)) rfl (fun _ _=>op_pickT rfl hb13) ?_
 refine qv (v:=.bool (true)) rfl (fun _ _=>om _) ?_
 refine qs rfl (congrArg some rfl) rfl ?_
 refine qs rfl (congrArg some rfl) rfl ?_
 refine qs rfl (congrArg some rfl) rfl ?_
 refine qs rfl (congrArg some rfl) rfl ?_
 refine qs rfl (congrArg some rfl) rfl ?_
 refine qs rfl (congrArg some rfl) rfl ?_
 refine qs rfl (congrArg some rfl) rfl ?_
 refine qs rfl (congrArg some rfl) rfl ?_
 refine qs rfl (congrArg some rfl) rfl ?_
 refine qs rfl (congrArg some rfl) rfl ?_
 refine qv (v:=.bool (true)) rfl (fun _ _=>op_pickT rfl rfl) ?_
 cases hm8
 exact fr ⟨rfl,rfl,rfl,trivial⟩
 rw [hb13] at hm8
 refine qg (v:=.pointer (some (p_x0))) rfl (congrArg some hb13) (fun _ _=>om _) ?_
 refine qg (v:=.pointer (some (p_x0))) rfl (congrArg some hb13) (fun _ _=>op_nilCheck rfl) ?_
 refine qg (v:=.pointer (some (p_x0.add 1))) rfl (congrArg some hb13) (fun _ _=>op_fieldAddrP u27z rfl info22 ne22 rfl rfl) ?_
 refine qg (v:=z6) rfl (congrArg some hb13) (fun _ hC=>oldz u22z rfl rfl ((At.keep0 a_x0 (hB.trans hC)).cell (j:=1) rfl)) ?_
 refine qg (v:=.pointer (some (p_x0))) rfl (congrArg some hb13) (fun _ _=>om _) ?_
 refine qg (v:=.pointer (some (p_x0))) rfl (congrArg some hb13) (fun _ _=>op_nilCheck rfl) ?_
 refine qg (v:=.pointer (some (p_x0))) rfl (congrArg some hb13) (fun _ _=>op_fieldAddr0 u27z rfl info2 ne2 rfl rfl) ?_
 refine qg (v:=.int .i64 (x0.Objects)) rfl (congrArg some hb13) (fun _ hC=>oldz u2z rfl rfl ((At.keep0 a_x0 (hB.trans hC)).cell0 rfl)) ?_
 obtain ⟨y14,hy15,hm8⟩:=bs hm8
 refine QL.callG (v:=.bool (y14)) rfl (congrArg some hb13) (fun _ _=>op_callF Tryz.func139 rfl rfl) (fun _ hC=>(impl_within_calls (kp _ za (hB.trans hC)) hy15).mono fun _ _ h=>⟨h.1,hC.trans h.2⟩) ?_
 refine qg (v:=.bool (!(y14))) rfl (congrArg some hb13) (fun _ _=>op_not rfl) ?_
 refine qv (v:=.bool (!(y14))) rfl (fun _ _=>op_pickF rfl hb13) ?_
 refine qv (v:=.bool (!(y14))) rfl (fun _ _=>om _) ?_
 rcases Bool.eq_false_or_eq_true (!(y14)) with hb16 | hb16
 rw [hb16] at hm8
 refine qs rfl (congrArg some hb16) rfl ?_
 refine qs rfl (congrArg some hb16) rfl ?_
 refine qs rfl (congrArg some hb16) rfl ?_
 refine qs rfl (congrArg some hb16) rfl ?_
 refine qs rfl (congrArg some hb16) rfl ?_
 refine qs rfl (congrArg some hb16) rfl ?_
 refine qs rfl (congrArg some hb16) rfl ?_
 refine qs rfl (congrArg some hb16) rfl ?_
 refine qs rfl (congrArg some hb16) rfl ?_
 refine qs rfl (congrArg some hb16) rfl ?_
 refine qv (v:=.bool (true)) rfl (fun _ _=>op_pickT rfl hb16) ?_
 cases hm8
 exact fr ⟨rfl,rfl,rfl,trivial⟩
 rw [hb16] at hm8
 refine qg (v:=.pointer (some (p_x0))) rfl (congrArg some hb16) (fun _ _=>om _) ?_
 refine qg (v:=.pointer (some (p_x0))) rfl (congrArg some hb16) (fun _ _=>op_nilCheck rfl) ?_
 refine qg (v:=.pointer (some (p_x0.add 2))) rfl (congrArg some hb16) (fun _ _=>op_fieldAddrP u27z rfl info22 ne22 rfl rfl) ?_
 refine qg (v:=z7) rfl (congrArg some hb16) (fun _ hC=>oldz u22z rfl rfl ((At.keep0 a_x0 (hB.trans hC)).cell (j:=2) rfl)) ?_
 refine qg (v:=.pointer (some (p_x0))) rfl (congrArg some hb16) (fun _ _=>om _) ?_
 refine qg (v:=.pointer (some (p_x0))) rfl (congrArg some hb16) (fun _ _=>op_nilCheck rfl) ?_
 refine qg (v:=.pointer (some (p_x0))) rfl (congrArg some hb16) (fun _ _=>op_fieldAddr0 u27z rfl info2 ne2 rfl rfl) ?_
 refine qg (v:=.int .i64 (x0.Objects)) rfl (congrArg some hb16) (fun _ hC=>oldz u2z rfl rfl ((At.keep0 a_x0 (hB.trans hC)).cell0 rfl)) ?_
 obtain ⟨y17,hy18,hm8⟩:=bs hm8
 refine QL.callG (v:=.bool (y17)) rfl (congrArg some hb16) (fun _ _=>op_callF Tryz.func139 rfl rfl) (fun _ hC=>(impl_within_calls (kp _ zb (hB.trans hC)) hy18).mono fun _ _ h=>⟨h.1,hC.trans h.2⟩) ?_
 refine qg (v:=.bool (!(y17))) rfl (congrArg some hb16) (fun _ _=>op_not rfl) ?_
 refine qv (v:=.bool (!(y17))) rfl (fun _ _=>op_pickF rfl hb16) ?_
 cases hm8
 exact fr ⟨rfl,rfl,rfl,trivial⟩
 rintro _ ⟨F,rfl⟩
 intro wd19 hC20
 refine anz ?_
 refine W_cond (b:=g7) rfl ?_ ?_
 intro hb21
 rw [hb21] at ho
 refine wq ?_
 refine Wq rfl hC20 ?_
 refine qv (v:=.bool (false)) rfl (fun _ _=>oa _) ?_
 intro wd22 hC23
 refine anz ?_
 cases ho
 exact W_ret ⟨_,res_1 Tryz.results164,rfl,(hB.trans hC23)⟩
 intro hb21
 rw [hb21] at ho
 refine W_skip ?_
 refine anz ?_
 refine wq ?_
 refine wq ?_
 refine Wqd rfl (by kernel_rfl) hC20 ?_
 obtain ⟨g24,hm25,ho⟩:=bs ho
 refine QL.meet (fun r=>∃ F,r=updL F [(0,.pointer (some (p_x0))),(3,.int .i64 (y3)),(82,.bool (g24))]) ?_ ?_
 skip
 refine qv (v:=.pointer (some (p_x0))) rfl (fun _ _=>om _) ?_
 refine qv (v:=.pointer (some (p_x0))) rfl (fun _ _=>op_nilCheck rfl) ?_
 refine qv (v:=.pointer (some (p_x0.add 3))) rfl (fun _ _=>op_fieldAddrP u27z rfl info22 ne22 rfl rfl) ?_
 refine qv (v:=z9) rfl (fun _ hC=>oldz u22z rfl rfl ((At.keep0 a_x0 (hB.trans hC)).cell (j:=3) rfl)) ?_
 refine qv (v:=.int .i64 ((x0.Identity.length:Int))) rfl (fun _ hC=>op_lenI u22z (kp _ zd (hB.trans hC))) ?_
 refine qv (v:=.pointer (some (p_x0))) rfl (fun _ _=>om _) ?_
 refine qv (v:=.pointer (some (p_x0))) rfl (fun _ _=>op_nilCheck rfl) ?_
 refine qv (v:=.pointer (some (p_x0))) rfl (fun _ _=>op_fieldAddr0 u27z rfl info2 ne2 rfl rfl) ?_
 refine qv (v:=.int .i64 (x0.Objects)) rfl (fun _ hC=>oldz u2z rfl rfl ((At.keep0 a_x0 (hB.trans hC)).cell0 rfl)) ?_
 refine qv (v:=.bool (((x0.Identity.length:Int)) != (x0.Objects))) rfl (fun _ _=>op_bin rfl rfl bin_neq) ?_
 refine qv (v:=.bool (((x0.Identity.length:Int)) != (x0.Objects))) rfl (fun _ _=>om _) ?_
 rcases Bool.eq_false_or_eq_true (((x0.Identity.length:Int)) != (x0.Objects)) with hb26 | hb26
 rw [hb26] at hm25
 refine qs rfl (congrArg some hb26) rfl ?_
 refine qs rfl (congrArg some hb26) rfl ?_
 refine qs rfl (congrArg some hb26) rfl ?_
 refine qs rfl (congrArg some hb26) rfl ?_
 refine qs rfl (congrArg some hb26) rfl ?_
 refine qs rfl (congrArg some hb26) rfl ?_
 refine qs rfl (congrArg some hb26) rfl ?_
 refine qv (v:=.bool (true)) rfl (fun _ _=>op_pickT rfl hb26) ?_
 refine qv (v:=.bool (true)) rfl (fun _ _=>om _) ?_
 refine qs rfl (congrArg some rfl) rfl ?_
 refine qs rfl (congrArg some rfl) rfl ?_
 refine qs rfl (congrArg some rfl) rfl ?_
 refine qs rfl (congrArg some rfl) rfl ?_
 refine qs rfl (congrArg some rfl) rfl ?_
 refine qs rfl (congrArg some rfl) rfl ?_
 refine qs rfl (congrArg some rfl) rfl ?_
 refine qv (v:=.bool (true)) rfl (fun _ _=>op_pickT rfl rfl) ?_
 cases hm25
 exact fr ⟨rfl,rfl,rfl,trivial⟩
 rw [hb26] at hm25
 refine qg (v:=.pointer (some (p_x0))) rfl (congrArg some hb26) (fun _ _=>om _) ?_
 refine qg (v:=.pointer (some (p_x0))) rfl (congrArg some hb26) (fun _ _=>op_nilCheck rfl) ?_
 refine qg (v:=.pointer (some (p_x0.add 3))) rfl (congrArg some hb26) (fun _ _=>op_fieldAddrP u27z rfl info22 ne22 rfl rfl) ?_
 refine qg (v:=z9) rfl (congrArg some hb26) (fun _ hC=>oldz u22z rfl rfl ((At.keep0 a_x0 (hB.trans hC)).cell (j:=3) rfl)) ?_
 refine qg (v:=.int .i64 (y3)) rfl (congrArg some hb26) (fun _ _=>om _) ?_
 obtain ⟨y27,hy28,hm25⟩:=bs hm25
 refine QL.callG (v:=.bool (y27)) rfl (congrArg some hb26) (fun _ _=>op_callF Tryz.func139 rfl rfl) (fun _ hC=>(impl_within_calls (kp _ zd (hB.trans hC)) hy28).mono fun _ _ h=>⟨h.1,hC.trans h.2⟩) ?_
 refine qg (v:=.bool (!(y27))) rfl (congrArg some hb26) (fun _ _=>op_not rfl) ?_
 refine qv (v:=.bool (!(y27))) rfl (fun _ _=>op_pickF rfl hb26) ?_
 refine qv (v:=.bool (!(y27))) rfl (fun _ _=>om _) ?_
 rcases Bool.eq_false_or_eq_true (!(y27)) with hb29 | hb29
 rw [hb29] at hm25
 refine qs rfl (congrArg some hb29) rfl ?_
 refine qs rfl (congrArg some hb29) rfl ?_
 refine qs rfl (congrArg some hb29) rfl ?_
 refine qs rfl (congrArg some hb29) rfl ?_
 refine qs rfl (congrArg some hb29) rfl ?_
 refine qs rfl (congrArg some hb29) rfl ?_
 refine qs rfl (congrArg some hb29) rfl ?_
 refine qv (v:=.bool (true)) rfl (fun _ _=>op_pickT rfl hb29) ?_
 cases hm25
 exact fr ⟨rfl,rfl,rfl,trivial⟩
 rw [hb29] at hm25
 refine qg (v:=.pointer (some (p_x0))) rfl (congrArg some hb29) (fun _ _=>om _) ?_
 refine qg (v:=.pointer (some (p_x0))) rfl (congrArg some hb29) (fun _ _=>op_nilCheck rfl) ?_
 refine qg (v:=.pointer (some (p_x0.add 4))) rfl (congrArg some hb29) (fun _ _=>op_fieldAddrP u27z rfl info23 ne23 rfl rfl) ?_
 refine qg (v:=z8) rfl (congrArg some hb29) (fun _ hC=>oldz u23z rfl rfl ((At.keep0 a_x0 (hB.trans hC)).cell (j:=4) rfl)) ?_
 refine qg (v:=.int .i64 ((x0.Composites.length:Int))) rfl (congrArg some hb29) (fun _ hC=>op_lenI u23z (kp _ zc (hB.trans hC))) ?_
 refine qg (v:=.int .i64 (y3)) rfl (congrArg some hb29) (fun _ _=>om _) ?_
 refine qg (v:=.bool (((x0.Composites.length:Int)) != (y3))) rfl (congrArg some hb29) (fun _ _=>op_bin rfl rfl bin_neq) ?_
 refine qv (v:=.bool (((x0.Composites.length:Int)) != (y3))) rfl (fun _ _=>op_pickF rfl hb29) ?_
 cases hm25
 exact fr ⟨rfl,rfl,rfl,trivial⟩
 rintro _ ⟨F,rfl⟩
 intro wd30 hC31
 refine anz ?_
 refine W_cond (b:=g24) rfl ?_ ?_
 intro hb32
 rw [hb32] at ho
 refine wq ?_
 refine Wq rfl hC31 ?_
 refine qv (v:=.bool (false)) rfl (fun _ _=>oa _) ?_
 intro wd33 hC34
 refine anz ?_
 cases ho
 exact W_ret ⟨_,res_1 Tryz.results164,rfl,(hB.trans hC34)⟩
 intro hb32
 rw [hb32] at ho
 refine W_skip ?_
 refine anz ?_
 refine wq ?_
 refine wq ?_
 refine Wq rfl hC31 ?_
 refine qv (v:=.pointer (some (p_x0))) rfl (fun _ _=>om _) ?_
 refine qv (v:=.pointer (some (p_x0))) rfl (fun _ _=>op_nilCheck rfl) ?_
 refine qv (v:=.pointer (some (p_x0.add 3))) rfl (fun _ _=>op_fieldAddrP u27z rfl info22 ne22 rfl rfl) ?_
 refine qv (v:=z9) rfl (fun _ hC=>oldz u22z rfl rfl ((At.keep0 a_x0 (hB.trans hC)).cell (j:=3) rfl)) ?_
 refine qv (v:=.int .i64 ((x0.Identity.length:Int))) rfl (fun _ hC=>op_lenI u22z (kp _ zd (hB.trans hC))) ?_
 refine qv (v:=.int .i64 ((0:Int))) rfl (fun _ _=>om _) ?_
 intro wd35 hC36
 refine anz ?_
 refine W_for (S1:=Int) (fun (s0_88:Int) r w'=>Chg [] w w'∧∃ F,r=updL F [(0,.pointer (some (p_x0))),(3,.int .i64 (y3)),(86,z9),(87,.int .i64 ((x0.Identity.length:Int))),(88,.int .i64 (s0_88))]) (T:=impl_Category_isShape_T w) ho ⟨(hB.trans hC36),fr ⟨rfl,rfl,rfl,rfl,rfl,trivial⟩⟩ ?_ ?_ ?_
 intro x r w' ho hx; subst ho; exact hx
 rintro s0_88 _ wd37 ⟨hB,F,rfl⟩ o ho
 replace ho:impl_Category_isShape_L0 x0 s0_88=some o:=ho
 unfold impl_Category_isShape_L0 at ho
 refine wq ?_
 refine Wq rfl (cr [] wd37) ?_
 refine qv (v:=.bool (decide (s0_88 < (x0.Identity.length:Int)))) rfl (fun _ _=>op_bin rfl rfl bin_lss) ?_
 intro wd38 hC39
 refine anz ?_
 refine wq ?_
 refine W_cond (b:=decide (s0_88 < (x0.Identity.length:Int))) rfl ?_ ?_
 intro hb40
 rw [hb40] at ho
 refine W_skip ?_
 refine anz ?_
 refine wq ?_
 refine W_block ?_
 refine wq ?_
 refine Wq rfl hC39 ?_
 refine qv (v:=.int .i64 (s0_88)) rfl (fun _ _=>om _) ?_
 obtain ⟨e41,hx42e,ho⟩:=bs ho
 have hx42:=idx_some hx42e
 refine qv (v:=.pointer (some (elA (z9) 1 (s0_88)))) rfl (fun _ hC=>op_indexI u22z info2 sz2 rfl (kp _ zd (hB.trans hC)) rfl hx42.1 hx42.2) ?_
 refine qv (v:=.int .i64 (e41)) rfl (fun _ hC=>oldz u2z rfl rfl (int_get (kp _ zd (hB.trans hC)) hx42.1 hx42.2)) ?_
 refine qv (v:=.int .i64 (s0_88)) rfl (fun _ _=>oa _) ?_
 refine qv (v:=.int .i64 (e41)) rfl (fun _ _=>oa _) ?_
 intro wd43 hC44
 refine anz ?_
 refine wq ?_
 refine Wq rfl hC44 ?_
 refine qv (v:=.pointer (some (p_x0))) rfl (fun _ _=>om _) ?_
 refine qv (v:=.int .i64 (e41)) rfl (fun _ _=>om _) ?_
 obtain ⟨y45,hy46,ho⟩:=bs ho
 refine QL.call (v:=.agg #[.int .i64 (y45.From),.int .i64 (y45.To)]) rfl (fun _ _=>op_callF Tryz.func184 rfl rfl) (fun _ hC=>(impl_Category_ends_calls (kp _ za (hB.trans hC)) (kp _ zb (hB.trans hC)) (kp _ zd (hB.trans hC)) (kp _ zc (hB.trans hC)) (At.keep0 a_x0 (hB.trans hC)) hy46).mono fun _ _ h=>⟨h.1,hC.trans h.2⟩) ?_
 refine qv (v:=.int .i64 (s0_88)) rfl (fun _ _=>om _) ?_
 refine qv (v:=.int .i64 (s0_88)) rfl (fun _ _=>om _) ?_
 refine qv (v:=.agg #[.int .i64 (s0_88),.int .i64 (s0_88)]) rfl (fun _ _=>op_build (bld196_0_1 rfl rfl)) ?_
 refine qv (v:=.bool (!((y45.From) == (s0_88) && (y45.To) == (s0_88)))) rfl (fun _ _=>op_neqS2 eqs196.1 eqs196.2.1 eqs196.2.2.1 (by kernel_rfl) (by kernel_rfl) rfl rfl eqs196.2.2.2.1 eqs196.2.2.2.2 rfl rfl) ?_
 intro wd47 hC48
 refine anz ?_
 refine W_cond (b:=!((y45.From) == (s0_88) && (y45.To) == (s0_88))) rfl ?_ ?_
 intro hb49
 rw [hb49] at ho
 refine wq ?_
 refine Wq rfl hC48 ?_
 refine qv (v:=.bool (false)) rfl (fun _ _=>oa _) ?_
 intro wd50 hC51
 refine anz ?_
 cases ho
 exact W_ret ⟨_,res_1 Tryz.results164,rfl,(hB.trans hC51)⟩
 intro hb49
 rw [hb49] at ho
 refine W_skip ?_
 refine inBlk_n ?_
 refine anz ?_
 refine Wq rfl hC48 ?_
 refine qv (v:=.int .i64 (w64 (s0_88 + (1:Int)))) rfl (fun _ _=>op_bin rfl rfl bin_add) ?_
 refine qv (v:=.int .i64 (w64 (s0_88 + (1:Int)))) rfl (fun _ _=>om _) ?_
 intro wd52 hC53
 cases ho
 exact ⟨(hB.trans hC53),fr ⟨rfl,rfl,rfl,rfl,rfl,trivial⟩⟩
 intro hb40
 rw [hb40] at ho
 refine W_exit ?_
 refine andThen_x ?_
 cases ho
 exact ⟨rfl,⟨(hB.trans hC39),fr ⟨rfl,rfl,rfl,rfl,rfl,trivial⟩⟩⟩
 rintro s0_88 _ wd54 ⟨hB,F,rfl⟩ ho
 replace ho:=ho
 refine anz ?_
 refine wq ?_
 refine wq ?_
 refine Wq rfl (cr [] wd54) ?_
 refine qv (v:=.pointer (some (p_x0))) rfl (fun _ _=>om _) ?_
 refine qv (v:=.pointer (some (p_x0))) rfl (fun _ _=>op_nilCheck rfl) ?_
 refine qv (v:=.pointer (some (p_x0.add 4))) rfl (fun _ _=>op_fieldAddrP u27z rfl info23 ne23 rfl rfl) ?_
 refine qv (v:=z8) rfl (fun _ hC=>oldz u23z rfl rfl ((At.keep0 a_x0 (hB.trans hC)).cell (j:=4) rfl)) ?_
 refine qv (v:=.int .i64 ((x0.Composites.length:Int))) rfl (fun _ hC=>op_lenI u23z (kp _ zc (hB.trans hC))) ?_
 refine qv (v:=.int .i64 ((0:Int))) rfl (fun _ _=>om _) ?_
 intro wd55 hC56
 refine anz ?_
 refine W_for (S1:=Int) (fun (s1_106:Int) r w'=>Chg [] w w'∧∃ F,r=updL F [(0,.pointer (some (p_x0))),(3,.int .i64 (y3)),(104,z8),(105,.int .i64 ((x0.Composites.length:Int))),(106,.int .i64 (s1_106))]) (T:=impl_Category_isShape_T w) ho ⟨(hB.trans hC56),fr ⟨rfl,rfl,rfl,rfl,rfl,trivial⟩⟩ ?_ ?_ ?_
 intro x r w' ho hx; subst ho; exact hx
 rintro s1_106 _ wd57 ⟨hB,F,rfl⟩ o ho
 replace ho:impl_Category_isShape_L1 x0 y3 s1_106=some o:=ho
 unfold impl_Category_isShape_L1 at ho
 refine wq ?_
 refine Wq rfl (cr [] wd57) ?_
 refine qv (v:=.bool (decide (s1_106 < (x0.Composites.length:Int)))) rfl (fun _ _=>op_bin rfl rfl bin_lss) ?_
 intro wd58 hC59
 refine anz ?_
 refine wq ?_
 refine W_cond (b:=decide (s1_106 < (x0.Composites.length:Int))) rfl ?_ ?_
 intro hb60
 rw [hb60] at ho
 refine W_skip ?_
 refine anz ?_
 refine wq ?_
 refine W_block ?_
 refine wq ?_
 refine Wq rfl hC59 ?_
 refine qv (v:=.int .i64 (s1_106)) rfl (fun _ _=>om _) ?_
 obtain ⟨e61,hx62e,ho⟩:=bs ho
 have hx62:=idx_some hx62e
 refine qv (v:=.pointer (some (elA (z8) 1 (s1_106)))) rfl (fun _ hC=>op_indexI u23z info22 sz22 rfl (kp _ zc (hB.trans hC)) rfl hx62.1 hx62.2) ?_
 obtain ⟨u63,fu64,hu65,hr66,hs67⟩:=one_get rfl zc hx62.1 hx62.2
 refine qv (v:=u63) rfl (fun _ hC=>oldz u22z rfl rfl ((hB.trans hC).cell0 hu65)) ?_
 refine qv (v:=.int .i64 (s1_106)) rfl (fun _ _=>oa _) ?_
 refine qv (v:=u63) rfl (fun _ _=>oa _) ?_
 intro wd68 hC69
 refine anz ?_
 refine wq ?_
 refine wq ?_
 refine Wq rfl hC69 ?_
 refine qv (v:=u63) rfl (fun _ _=>om _) ?_
 refine qv (v:=.int .i64 ((e61.length:Int))) rfl (fun _ hC=>op_lenI u22z (kp _ hr66 (hB.trans hC))) ?_
 refine qv (v:=.int .i64 (y3)) rfl (fun _ _=>om _) ?_
 refine qv (v:=.bool (((e61.length:Int)) != (y3))) rfl (fun _ _=>op_bin rfl rfl bin_neq) ?_
 intro wd70 hC71
 refine anz ?_
 refine W_cond (b:=((e61.length:Int)) != (y3)) rfl ?_ ?_
 intro hb72
 rw [hb72] at ho
 refine wq ?_
 refine Wq rfl hC71 ?_
 refine qv (v:=.bool (false)) rfl (fun _ _=>oa _) ?_
 intro wd73 hC74
 refine anz ?_
 cases ho
 exact W_ret ⟨_,res_1 Tryz.results164,rfl,(hB.trans hC74)⟩
 intro hb72
 rw [hb72] at ho
 refine W_skip ?_
 refine anz ?_
 refine wq ?_
 refine Wq rfl hC71 ?_
 refine qv (v:=u63) rfl (fun _ _=>om _) ?_
 refine qv (v:=.int .i64 ((e61.length:Int))) rfl (fun _ hC=>op_lenI u22z (kp _ hr66 (hB.trans hC))) ?_
 refine qv (v:=.int .i64 ((0:Int))) rfl (fun _ _=>om _) ?_
 intro wd75 hC76
 refine anz ?_
 refine W_for (S1:=Int) (fun (s2_117:Int) r w'=>Chg [] w w'∧∃ F,r=updL F [(0,.pointer (some (p_x0))),(3,.int .i64 (y3)),(6,.int .i64 (s1_106)),(104,z8),(105,.int .i64 ((x0.Composites.length:Int))),(106,.int .i64 (s1_106)),(115,u63),(116,.int .i64 ((e61.length:Int))),(117,.int .i64 (s2_117))]) (T:=impl_Category_isShape_T w) ho ⟨(hB.trans hC76),fr ⟨rfl,rfl,rfl,rfl,rfl,rfl,rfl,rfl,rfl,trivial⟩⟩ ?_ ?_ ?_
 intro x r w' ho hx; subst ho; exact hx
 rintro s2_117 _ wd77 ⟨hB,F,rfl⟩ o ho
 replace ho:impl_Category_isShape_L2 x0 y3 s1_106 e61 s2_117=some o:=ho
 unfold impl_Category_isShape_L2 at ho
 refine wq ?_
 refine Wq rfl (cr [] wd77) ?_
 refine qv (v:=.bool (decide (s2_117 < (e61.length:Int)))) rfl (fun _ _=>op_bin rfl rfl bin_lss) ?_
 intro wd78 hC79
 refine anz ?_
 refine wq ?_
 refine W_cond (b:=decide (s2_117 < (e61.length:Int))) rfl ?_ ?_
 intro hb80
 rw [hb80] at ho
 refine W_skip ?_
 refine anz ?_
 refine wq ?_
 refine W_block ?_
 refine wq ?_
 refine Wq rfl hC79 ?_
 refine qv (v:=.int .i64 (s2_117)) rfl (fun _ _=>om _) ?_
 obtain ⟨e81,hx82e,ho⟩:=bs ho
 have hx82:=idx_some hx82e
 refine qv (v:=.pointer (some (elA (u63) 1 (s2_117)))) rfl (fun _ hC=>op_indexI u22z info2 sz2 rfl (kp _ hr66 (hB.trans hC)) rfl hx82.1 hx82.2) ?_
 refine qv (v:=.int .i64 (e81)) rfl (fun _ hC=>oldz u2z rfl rfl (int_get (kp _ hr66 (hB.trans hC)) hx82.1 hx82.2)) ?_
 refine qv (v:=.int .i64 (s2_117)) rfl (fun _ _=>oa _) ?_
 refine qv (v:=.int .i64 (e81)) rfl (fun _ _=>oa _) ?_
 intro wd83 hC84
 refine anz ?_
 refine wq ?_
 refine wq ?_
 refine Wqd rfl (by kernel_rfl) hC84 ?_
 refine qv (v:=.pointer (some (p_x0))) rfl (fun _ _=>om _) ?_
 refine qv (v:=.pointer (some (p_x0))) rfl (fun _ _=>op_nilCheck rfl) ?_
 refine qv (v:=.pointer (some (p_x0.add 2))) rfl (fun _ _=>op_fieldAddrP u27z rfl info22 ne22 rfl rfl) ?_
 refine qv (v:=z7) rfl (fun _ hC=>oldz u22z rfl rfl ((At.keep0 a_x0 (hB.trans hC)).cell (j:=2) rfl)) ?_
 refine qv (v:=.int .i64 (s1_106)) rfl (fun _ _=>om _) ?_
 obtain ⟨e85,hx86e,ho⟩:=bs ho
 have hx86:=idx_some hx86e
 refine qv (v:=.pointer (some (elA (z7) 1 (s1_106)))) rfl (fun _ hC=>op_indexI u22z info2 sz2 rfl (kp _ zb (hB.trans hC)) rfl hx86.1 hx86.2) ?_
 refine qv (v:=.int .i64 (e85)) rfl (fun _ hC=>oldz u2z rfl rfl (int_get (kp _ zb (hB.trans hC)) hx86.1 hx86.2)) ?_
 refine qv (v:=.pointer (some (p_x0))) rfl (fun _ _=>om _) ?_
 refine qv (v:=.pointer (some (p_x0))) rfl (fun _ _=>op_nilCheck rfl) ?_
 refine qv (v:=.pointer (some (p_x0.add 1))) rfl (fun _ _=>op_fieldAddrP u27z rfl info22 ne22 rfl rfl) ?_
 refine qv (v:=z6) rfl (fun _ hC=>oldz u22z rfl rfl ((At.keep0 a_x0 (hB.trans hC)).cell (j:=1) rfl)) ?_
 refine qv (v:=.int .i64 (s2_117)) rfl (fun _ _=>om _) ?_
 obtain ⟨e87,hx88e,ho⟩:=bs ho
 have hx88:=idx_some hx88e
 refine qv (v:=.pointer (some (elA (z6) 1 (s2_117)))) rfl (fun _ hC=>op_indexI u22z info2 sz2 rfl (kp _ za (hB.trans hC)) rfl hx88.1 hx88.2) ?_
 refine qv (v:=.int .i64 (e87)) rfl (fun _ hC=>oldz u2z rfl rfl (int_get (kp _ za (hB.trans hC)) hx88.1 hx88.2)) ?_
 refine qv (v:=.bool ((e85) != (e87))) rfl (fun _ _=>op_bin rfl rfl bin_neq) ?_
 intro wd89 hC90
 refine anz ?_
 refine W_cond (b:=(e85) != (e87)) rfl ?_ ?_
 intro hb91
 rw [hb91] at ho
 refine wq ?_
 refine wq ?_
 refine Wq rfl hC90 ?_
 refine qv (v:=.int .i64 (e81)) rfl (fun _ _=>om _) ?_
 refine qv (v:=.bool ((e81) != ((-1:Int)))) rfl (fun _ _=>op_bin rfl rfl bin_neq) ?_
 intro wd92 hC93
 refine anz ?_
 refine W_cond (b:=(e81) != ((-1:Int))) rfl ?_ ?_
 intro hb94
 rw [hb94] at ho
 refine wq ?_
 refine Wq rfl hC93 ?_
 refine qv (v:=.bool (false)) rfl (fun _ _=>oa _) ?_
 intro wd95 hC96
 refine anz ?_
 cases ho
 exact W_ret ⟨_,res_1 Tryz.results164,rfl,(hB.trans hC96)⟩
 intro hb94
 rw [hb94] at ho
 refine W_skip ?_
 refine anz ?_
 refine W_exit ?_
 refine andThen_x ?_
 refine inBlk_x ?_
 refine anz ?_
 refine Wq rfl hC93 ?_
 refine qv (v:=.int .i64 (w64 (s2_117 + (1:Int)))) rfl (fun _ _=>op_bin rfl rfl bin_add) ?_
 refine qv (v:=.int .i64 (w64 (s2_117 + (1:Int)))) rfl (fun _ _=>om _) ?_
 intro wd97 hC98
 cases ho
 exact ⟨(hB.trans hC98),fr ⟨rfl,rfl,rfl,rfl,rfl,rfl,rfl,rfl,rfl,trivial⟩⟩
 intro hb91
 rw [hb91] at ho
 refine W_skip ?_
 refine anz ?_
 refine wq ?_
 refine Wqd rfl (by kernel_rfl) hC90 ?_
 obtain ⟨g99,hm100,ho⟩:=bs ho
 refine QL.meet (fun r=>∃ F,r=updL F [(0,.pointer (some (p_x0))),(3,.int .i64 (y3)),(6,.int .i64 (s1_106)),(104,z8),(105,.int .i64 ((x0.Composites.length:Int))),(106,.int .i64 (s1_106)),(115,u63),(116,.int .i64 ((e61.length:Int))),(117,.int .i64 (s2_117)),(164,.bool (g99))]) ?_ ?_
 skip
 refine qv (v:=.int .i64 (e81)) rfl (fun _ _=>om _) ?_
 refine qv (v:=.int .i64 (y3)) rfl (fun _ _=>om _) ?_
 refine qv (v:=.int .i64 (w64 (y3 - (1:Int)))) rfl (fun _ _=>op_bin rfl rfl bin_sub) ?_
 obtain ⟨y101,hy102,hm100⟩:=bs hm100
 refine QL.call (v:=.bool (y101)) rfl (fun _ _=>op_callF Tryz.func88 rfl rfl) (fun _ hC=>(impl_inRange_calls  hy102).mono fun _ _ h=>⟨h.1,hC.trans h.2⟩) ?_
 refine qv (v:=.bool (!(y101))) rfl (fun _ _=>op_not rfl) ?_
 refine qv (v:=.bool (!(y101))) rfl (fun _ _=>om _) ?_
 rcases Bool.eq_false_or_eq_true (!(y101)) with hb103 | hb103
 rw [hb103] at hm100
 refine qs rfl (congrArg some hb103) rfl ?_
 refine qs rfl (congrArg some hb103) rfl ?_
 refine qs rfl (congrArg some hb103) rfl ?_
 refine qs rfl (congrArg some hb103) rfl ?_
 refine qs rfl (congrArg some hb103) rfl ?_
 refine qs rfl (congrArg some hb103) rfl ?_
 refine qs rfl (congrArg some hb103) rfl ?_
 refine qs rfl (congrArg some hb103) rfl ?_
 refine qs rfl (congrArg some hb103) rfl ?_
 refine qs rfl (congrArg some hb103) rfl ?_
 refine qs rfl (congrArg some hb103) rfl ?_
 refine qs rfl (congrArg some hb103) rfl ?_
 refine qs rfl (congrArg some hb103) rfl ?_
 refine qs rfl (congrArg some hb103) rfl ?_
 refine qs rfl (congrArg some hb103) rfl ?_
 refine qs rfl (congrArg some hb103) rfl ?_
 refine qs rfl (congrArg some hb103) rfl ?_
 refine qs rfl (congrArg some hb103) rfl ?_
 refine qs rfl (congrArg some hb103) rfl ?_
 refine qv (v:=.bool (true)) rfl (fun _ _=>op_pickT rfl hb103) ?_
 cases hm100
 exact fr ⟨rfl,rfl,rfl,rfl,rfl,rfl,rfl,rfl,rfl,rfl,trivial⟩
 rw [hb103] at hm100
 refine qg (v:=.pointer (some (p_x0))) rfl (congrArg some hb103) (fun _ _=>om _) ?_
 refine qg (v:=.int .i64 (e81)) rfl (congrArg some hb103) (fun _ _=>om _) ?_
 obtain ⟨y104,hy105,hm100⟩:=bs hm100
 refine QL.callG (v:=.agg #[.int .i64 (y104.From),.int .i64 (y104.To)]) rfl (congrArg some hb103) (fun _ _=>op_callF Tryz.func184 rfl rfl) (fun _ hC=>(impl_Category_ends_calls (kp _ za (hB.trans hC)) (kp _ zb (hB.trans hC)) (kp _ zd (hB.trans hC)) (kp _ zc (hB.trans hC)) (At.keep0 a_x0 (hB.trans hC)) hy105).mono fun _ _ h=>⟨h.1,hC.trans h.2⟩) ?_
 refine qg (v:=.pointer (some (p_x0))) rfl (congrArg some hb103) (fun _ _=>om _) ?_
 refine qg (v:=.pointer (some (p_x0))) rfl (congrArg some hb103) (fun _ _=>op_nilCheck rfl) ?_
 refine qg (v:=.pointer (some (p_x0.add 1))) rfl (congrArg some hb103) (fun _ _=>op_fieldAddrP u27z rfl info22 ne22 rfl rfl) ?_
 refine qg (v:=z6) rfl (congrArg some hb103) (fun _ hC=>oldz u22z rfl rfl ((At.keep0 a_x0 (hB.trans hC)).cell (j:=1) rfl)) ?_
 refine qg (v:=.int .i64 (s1_106)) rfl (congrArg some hb103) (fun _ _=>om _) ?_
 obtain ⟨e106,hx107e,hm100⟩:=bs hm100
 have hx107:=idx_some hx107e
 refine qg (v:=.pointer (some (elA (z6) 1 (s1_106)))) rfl (congrArg some hb103) (fun _ hC=>op_indexI u22z info2 sz2 rfl (kp _ za (hB.trans hC)) rfl hx107.1 hx107.2) ?_
 refine qg (v:=.int .i64 (e106)) rfl (congrArg some hb103) (fun _ hC=>oldz u2z rfl rfl (int_get (kp _ za (hB.trans hC)) hx107.1 hx107.2)) ?_
 refine qg (v:=.pointer (some (p_x0))) rfl (congrArg some hb103) (fun _ _=>om _) ?_
 refine qg (v:=.pointer (some (p_x0))) rfl (congrArg some hb103) (fun _ _=>op_nilCheck rfl) ?_
 refine qg (v:=.pointer (some (p_x0.add 2))) rfl (congrArg some hb103) (fun _ _=>op_fieldAddrP u27z rfl info22 ne22 rfl rfl) ?_
 refine qg (v:=z7) rfl (congrArg some hb103) (fun _ hC=>oldz u22z rfl rfl ((At.keep0 a_x0 (hB.trans hC)).cell (j:=2) rfl)) ?_
 refine qg (v:=.int .i64 (s2_117)) rfl (congrArg some hb103) (fun _ _=>om _) ?_
 obtain ⟨e108,hx109e,hm100⟩:=bs hm100
 have hx109:=idx_some hx109e
 refine qg (v:=.pointer (some (elA (z7) 1 (s2_117)))) rfl (congrArg some hb103) (fun _ hC=>op_indexI u22z info2 sz2 rfl (kp _ zb (hB.trans hC)) rfl hx109.1 hx109.2) ?_
 refine qg (v:=.int .i64 (e108)) rfl (congrArg some hb103) (fun _ hC=>oldz u2z rfl rfl (int_get (kp _ zb (hB.trans hC)) hx109.1 hx109.2)) ?_
 refine qg (v:=.agg #[.int .i64 (e106),.int .i64 (e108)]) rfl (congrArg some hb103) (fun _ _=>op_build (bld196_0_1 rfl rfl)) ?_
 refine qg (v:=.bool (!((y104.From) == (e106) && (y104.To) == (e108)))) rfl (congrArg some hb103) (fun _ _=>op_neqS2 eqs196.1 eqs196.2.1 eqs196.2.2.1 (by kernel_rfl) (by kernel_rfl) rfl rfl eqs196.2.2.2.1 eqs196.2.2.2.2 rfl rfl) ?_
 refine qv (v:=.bool (!((y104.From) == (e106) && (y104.To) == (e108)))) rfl (fun _ _=>op_pickF rfl hb103) ?_
 cases hm100
 exact fr ⟨rfl,rfl,rfl,rfl,rfl,rfl,rfl,rfl,rfl,rfl,trivial⟩
 rintro _ ⟨F,rfl⟩
 intro wd110 hC111
 refine anz ?_
 refine W_cond (b:=g99) rfl ?_ ?_
 intro hb112
 rw [hb112] at ho
 refine wq ?_
 refine Wq rfl hC111 ?_
 refine qv (v:=.bool (false)) rfl (fun _ _=>oa _) ?_
 intro wd113 hC114
 refine anz ?_
 cases ho
 exact W_ret ⟨_,res_1 Tryz.results164,rfl,(hB.trans hC114)⟩
 intro hb112
 rw [hb112] at ho
 refine W_skip ?_
 refine inBlk_n ?_
 refine anz ?_
 refine Wq rfl hC111 ?_
 refine qv (v:=.int .i64 (w64 (s2_117 + (1:Int)))) rfl (fun _ _=>op_bin rfl rfl bin_add) ?_
 refine qv (v:=.int .i64 (w64 (s2_117 + (1:Int)))) rfl (fun _ _=>om _) ?_
 intro wd115 hC116
 cases ho
 exact ⟨(hB.trans hC116),fr ⟨rfl,rfl,rfl,rfl,rfl,rfl,rfl,rfl,rfl,trivial⟩⟩
 intro hb80
 rw [hb80] at ho
 refine W_exit ?_
 refine andThen_x ?_
 cases ho
 exact ⟨rfl,⟨(hB.trans hC79),fr ⟨rfl,rfl,rfl,rfl,rfl,rfl,rfl,rfl,rfl,trivial⟩⟩⟩
 rintro s2_117 _ wd117 ⟨hB,F,rfl⟩ ho
 replace ho:=ho
 refine inBlk_n ?_
 refine anz ?_
 refine Wq rfl (cr [] wd117) ?_
 refine qv (v:=.int .i64 (w64 (s1_106 + (1:Int)))) rfl (fun _ _=>op_bin rfl rfl bin_add) ?_
 refine qv (v:=.int .i64 (w64 (s1_106 + (1:Int)))) rfl (fun _ _=>om _) ?_
 intro wd118 hC119
 cases ho
 exact ⟨(hB.trans hC119),fr ⟨rfl,rfl,rfl,rfl,rfl,trivial⟩⟩
 intro hb60
 rw [hb60] at ho
 refine W_exit ?_
 refine andThen_x ?_
 cases ho
 exact ⟨rfl,⟨(hB.trans hC59),fr ⟨rfl,rfl,rfl,rfl,rfl,trivial⟩⟩⟩
 rintro s1_106 _ wd120 ⟨hB,F,rfl⟩ ho
 replace ho:=ho
 refine anz ?_
 refine wq ?_
 refine Wq rfl (cr [] wd120) ?_
 refine qv (v:=.bool (true)) rfl (fun _ _=>oa _) ?_
 intro wd121 hC122
 refine anz ?_
 cases ho
 exact W_ret ⟨_,res_1 Tryz.results164,rfl,(hB.trans hC122)⟩

noncomputable def impl_Category_then (x0:MCategory) (x1:Int) (x2:Int):Option (Int):=
 retM (S:=Unit) ((idx x0.Composites (x1))>>=fun e3=>((idx e3 (x2))>>=fun e10=>(some (Out.ret (e10)))))
abbrev impl_Category_then_post (w:World) (x:(Int)) (e:Ending) (w':World):Prop:=e = .returned (.int .i64 x)∧Chg [] w w'
abbrev impl_Category_then_T (w:World) (x:(Int)) (r:Nat→Value) (w':World):Prop:=∃ v,(∀ a:Act,a.tmps.size=17→rho a=r→(results Tryz.f129 a.tmps).run Tryz.prog w' = .ok v w')∧impl_Category_then_post w x (.returned v) w'
theorem impl_Category_then_calls {w:World} {x0:MCategory} {p_x0:Addr} {z6:Value} {zh:List Nat} {z7:Value} {zg:List Nat} {z9:Value} {zf:List Nat} {z8:Value} {ze:List Nat} {x1:Int} {x2:Int} (za:(sImm (sInt .i64)).rep w.heap [z6] x0.From zh) (zb:(sImm (sInt .i64)).rep w.heap [z7] x0.To zg) (zd:(sImm (sInt .i64)).rep w.heap [z9] x0.Identity zf) (zc:(sImm (sImm (sInt .i64))).rep w.heap [z8] x0.Composites ze) (a_x0:At w p_x0 [.int .i64 (x0.Objects),z6,z7,z9,z8]) {y:(Int)} (hm:impl_Category_then x0 x1 x2=some y) :
  Calls Tryz.prog 129 #[.pointer (some (p_x0)),.int .i64 (x1),.int .i64 (x2)] w (impl_Category_then_post w y):=by
 refine calls_of_M (S:=Unit) (args:=[.pointer (some (p_x0)),.int .i64 (x1),.int .i64 (x2)]) Tryz.func129 rfl Tryz.ntmps129 (Nat.le_of_ble_eq_true rfl) (retM_some hm) ?_
 clear hm
 intro o ho
 have hB:Chg [] w w:=cr _ _
 refine wq ?_
 refine Wq rfl (cr [] w) ?_
 refine qv (v:=.int .i64 ((0:Int))) rfl (fun _ _=>oa _) ?_
 intro wd1 hC2
 refine anz ?_
 refine wq ?_
 refine Wq rfl hC2 ?_
 refine qv (v:=.pointer (some (p_x0))) rfl (fun _ _=>om _) ?_
 refine qv (v:=.pointer (some (p_x0))) rfl (fun _ _=>op_nilCheck rfl) ?_
 refine qv (v:=.pointer (some (p_x0.add 4))) rfl (fun _ _=>op_fieldAddrP u27z rfl info23 ne23 rfl rfl) ?_
 refine qv (v:=z8) rfl (fun _ hC=>oldz u23z rfl rfl ((At.keep0 a_x0 (hB.trans hC)).cell (j:=4) rfl)) ?_
 refine qv (v:=.int .i64 (x1)) rfl (fun _ _=>om _) ?_
 obtain ⟨e3,hx4e,ho⟩:=bs ho
 have hx4:=idx_some hx4e
 refine qv (v:=.pointer (some (elA (z8) 1 (x1)))) rfl (fun _ hC=>op_indexI u23z info22 sz22 rfl (kp _ zc (hB.trans hC)) rfl hx4.1 hx4.2) ?_
 obtain ⟨u5,fu6,hu7,hr8,hs9⟩:=one_get rfl zc hx4.1 hx4.2
 refine qv (v:=u5) rfl (fun _ hC=>oldz u22z rfl rfl ((hB.trans hC).cell0 hu7)) ?_
 refine qv (v:=.int .i64 (x2)) rfl (fun _ _=>om _) ?_
 obtain ⟨e10,hx11e,ho⟩:=bs ho
 have hx11:=idx_some hx11e
 refine qv (v:=.pointer (some (elA (u5) 1 (x2)))) rfl (fun _ hC=>op_indexI u22z info2 sz2 rfl (kp _ hr8 (hB.trans hC)) rfl hx11.1 hx11.2) ?_
 refine qv (v:=.int .i64 (e10)) rfl (fun _ hC=>oldz u2z rfl rfl (int_get (kp _ hr8 (hB.trans hC)) hx11.1 hx11.2)) ?_
 refine qv (v:=.int .i64 (e10)) rfl (fun _ _=>oa _) ?_
 intro wd12 hC13
 refine anz ?_
 cases ho
 exact W_ret ⟨_,res_1 Tryz.results129,rfl,(hB.trans hC13)⟩

noncomputable def impl_Category_fault_L0 (x0:MCategory) (y3:Int) (s0_7:Int):Option (Out (Int) (Int×Int×Int×Int)):=
 (bif decide (s0_7 < y3) then ((((idx x0.From (s0_7))>>=fun e15=>((idx x0.Identity (e15))>>=fun e17=>((impl_Category_then x0 (e17) (s0_7))>>=fun y19=>(bif (y19) != (s0_7) then (some (true)) else ((idx x0.To (s0_7))>>=fun e22=>((idx x0.Identity (e22))>>=fun e24=>((impl_Category_then x0 (s0_7) (e24))>>=fun y26=>(some ((y26) != (s0_7)))))))))))>>=fun g13=>(bif g13 then (some (Out.ret ((((1:Int)),s0_7,((0:Int)),((0:Int)))))) else (some (Out.norm (w64 (s0_7 + (1:Int))))))) else (some (Out.exit 0 (s0_7))))
noncomputable def impl_Category_fault_L3 (x0:MCategory) (y3:Int) (s1_8:Int) (s2_9:Int) (s3_10:Int):Option (Out (Int) (Int×Int×Int×Int)):=
 (bif decide (s3_10 < y3) then ((((impl_Category_then x0 (s2_9) (s3_10))>>=fun y63=>(bif decide (y63 ≥ (0:Int)) then ((impl_Category_then x0 (s1_8) (s2_9))>>=fun y66=>((impl_Category_then x0 (y66) (s3_10))>>=fun y68=>((impl_Category_then x0 (s2_9) (s3_10))>>=fun y70=>((impl_Category_then x0 (s1_8) (y70))>>=fun y72=>(some ((y68) != (y72))))))) else (some (false)))))>>=fun g61=>(bif g61 then (some (Out.ret ((((2:Int)),s1_8,s2_9,s3_10)))) else (some (Out.norm (w64 (s3_10 + (1:Int))))))) else (some (Out.exit 6 (s3_10))))
noncomputable def impl_Category_fault_L2 (x0:MCategory) (y3:Int) (s1_8:Int) (s2_9:Int):Option (Out (Int) (Int×Int×Int×Int)):=
 (bif decide (s2_9 < y3) then ((impl_Category_then x0 (s1_8) (s2_9))>>=fun y48=>(bif decide (y48 < (0:Int)) then (some (Out.norm (w64 (s2_9 + (1:Int))))) else (lbind (blockM 6 (loopM (impl_Category_fault_L3 x0 y3 s1_8 s2_9) ((0:Int)))) (fun s3_10=>(some (Out.norm (w64 (s2_9 + (1:Int))))))))) else (some (Out.exit 4 (s2_9))))
noncomputable def impl_Category_fault_L1 (x0:MCategory) (y3:Int) (s1_8:Int):Option (Out (Int) (Int×Int×Int×Int)):=
 (bif decide (s1_8 < y3) then (lbind (blockM 4 (loopM (impl_Category_fault_L2 x0 y3 s1_8) ((0:Int)))) (fun s2_9=>(some (Out.norm (w64 (s1_8 + (1:Int))))))) else (some (Out.exit 2 (s1_8))))
noncomputable def impl_Category_fault (x0:MCategory):Option (Int×Int×Int×Int):=
 retM (S:=Unit) ((impl_Category_arrows x0)>>=fun y3=>(lbind (blockM 0 (loopM (impl_Category_fault_L0 x0 y3) ((0:Int)))) (fun s0_7=>(lbind (blockM 2 (loopM (impl_Category_fault_L1 x0 y3) ((0:Int)))) (fun s1_8=>(some (Out.ret ((((0:Int)),((0:Int)),((0:Int)),((0:Int)))))))))))
abbrev impl_Category_fault_post (w:World) (x:(Int×Int×Int×Int)) (e:Ending) (w':World):Prop:=e = .returned (.tuple #[.int .i64 x.1,.int .i64 x.2.1,.int .i64 x.2.2.1,.int .i64 x.2.2.2])∧Chg [] w w'
abbrev impl_Category_fault_T (w:World) (x:(Int×Int×Int×Int)) (r:Nat→Value) (w':World):Prop:=∃ v,(∀ a:Act,a.tmps.size=102→rho a=r→(results Tryz.f165 a.tmps).run Tryz.prog w' = .ok v w')∧impl_Category_fault_post w x (.returned v) w'
theorem impl_Category_fault_calls {w:World} {x0:MCategory} {p_x0:Addr} {z6:Value} {zh:List Nat} {z7:Value} {zg:List Nat} {z9:Value} {zf:List Nat} {z8:Value} {ze:List Nat} (za:(sImm (sInt .i64)).rep w.heap [z6] x0.From zh) (zb:(sImm (sInt .i64)).rep w.heap [z7] x0.To zg) (zd:(sImm (sInt .i64)).rep w.heap [z9] x0.Identity zf) (zc:(sImm (sImm (sInt .i64))).rep w.heap [z8] x0.Composites ze) (a_x0:At w p_x0 [.int .i64 (x0.Objects),z6,z7,z9,z8]) {y:(Int×Int×Int×Int)} (hm:impl_Category_fault x0=some y) :
  Calls Tryz.prog 165 #[.pointer (some (p_x0))] w (impl_Category_fault_post w y):=by
 refine calls_of_M (S:=Unit) (args:=[.pointer (some (p_x0))]) Tryz.func165 rfl Tryz.ntmps165 (Nat.le_of_ble_eq_true rfl) (retM_some hm) ?_
 clear hm
 intro o ho
 have hB:Chg [] w w:=cr _ _
 refine wq ?_
 refine Wq rfl (cr [] w) ?_
 refine qv (v:=.int .i64 ((0:Int))) rfl (fun _ _=>oa _) ?_
 refine qv (v:=.int .i64 ((0:Int))) rfl (fun _ _=>oa _) ?_
 refine qv (v:=.int .i64 ((0:Int))) rfl (fun _ _=>oa _) ?_
 refine qv (v:=.int .i64 ((0:Int))) rfl (fun _ _=>oa _) ?_
 intro wd1 hC2
 refine anz ?_
 refine wq ?_
 refine Wq rfl hC2 ?_
 refine qv (v:=.pointer (some (p_x0))) rfl (fun _ _=>om _) ?_
 obtain ⟨y3,hy4,ho⟩:=bs ho
 refine QL.call (v:=.int .i64 (y3)) rfl (fun _ _=>op_callF Tryz.func140 rfl rfl) (fun _ hC=>(impl_Category_arrows_calls (kp _ za (hB.trans hC)) (kp _ zb (hB.trans hC)) (kp _ zd (hB.trans hC)) (kp _ zc (hB.trans hC)) (At.keep0 a_x0 (hB.trans hC)) hy4).mono fun _ _ h=>⟨h.1,hC.trans h.2⟩) ?_
 refine qv (v:=.int .i64 (y3)) rfl (fun _ _=>oa _) ?_
 intro wd5 hC6
 refine anz ?_
 refine wq ?_
 refine wq ?_
 refine Wq rfl hC6 ?_
 refine qv (v:=.int .i64 ((0:Int))) rfl (fun _ _=>oa _) ?_
 intro wd7 hC8
 refine anz ?_
 refine W_for (S1:=Int) (fun (s0_7:Int) r w'=>Chg [] w w'∧∃ F,r=updL F [(0,.pointer (some (p_x0))),(6,.int .i64 (y3)),(7,.int .i64 (s0_7))]) (T:=impl_Category_fault_T w) ho ⟨(hB.trans hC8),fr ⟨rfl,rfl,rfl,trivial⟩⟩ ?_ ?_ ?_
 intro x r w' ho hx; subst ho; exact hx
 rintro s0_7 _ wd9 ⟨hB,F,rfl⟩ o ho
 replace ho:impl_Category_fault_L0 x0 y3 s0_7=some o:=ho
 unfold impl_Category_fault_L0 at ho
 refine wq ?_
 refine wq ?_
 refine Wq rfl (cr [] wd9) ?_
 refine qv (v:=.int .i64 (s0_7)) rfl (fun _ _=>om _) ?_
 refine qv (v:=.int .i64 (y3)) rfl (fun _ _=>om _) ?_
 refine qv (v:=.bool (decide (s0_7 < y3))) rfl (fun _ _=>op_bin rfl rfl bin_lss) ?_
 intro wd10 hC11
 refine anz ?_
 refine W_cond (b:=decide (s0_7 < y3)) rfl ?_ ?_
 intro hb12
 rw [hb12] at ho
 refine W_skip ?_
 refine anz ?_
 refine wq ?_
 refine W_block ?_
 refine wq ?_
 refine Wqd rfl (by kernel_rfl) hC11 ?_
 obtain ⟨g13,hm14,ho⟩:=bs ho
 refine QL.meet (fun r=>∃ F,r=updL F [(0,.pointer (some (p_x0))),(6,.int .i64 (y3)),(7,.int .i64 (s0_7)),(55,.bool (g13))]) ?_ ?_
 skip
 refine qv (v:=.pointer (some (p_x0))) rfl (fun _ _=>om _) ?_
 refine qv (v:=.pointer (some (p_x0))) rfl (fun _ _=>om _) ?_
 refine qv (v:=.pointer (some (p_x0))) rfl (fun _ _=>op_nilCheck rfl) ?_
 refine qv (v:=.pointer (some (p_x0.add 3))) rfl (fun _ _=>op_fieldAddrP u27z rfl info22 ne22 rfl rfl) ?_
 refine qv (v:=z9) rfl (fun _ hC=>oldz u22z rfl rfl ((At.keep0 a_x0 (hB.trans hC)).cell (j:=3) rfl)) ?_
 refine qv (v:=.pointer (some (p_x0))) rfl (fun _ _=>om _) ?_
 refine qv (v:=.pointer (some (p_x0))) rfl (fun _ _=>op_nilCheck rfl) ?_
 refine qv (v:=.pointer (some (p_x0.add 1))) rfl (fun _ _=>op_fieldAddrP u27z rfl info22 ne22 rfl rfl) ?_
 refine qv (v:=z6) rfl (fun _ hC=>oldz u22z rfl rfl ((At.keep0 a_x0 (hB.trans hC)).cell (j:=1) rfl)) ?_
 refine qv (v:=.int .i64 (s0_7)) rfl (fun _ _=>om _) ?_
 obtain ⟨e15,hx16e,hm14⟩:=bs hm14
 have hx16:=idx_some hx16e
 refine qv (v:=.pointer (some (elA (z6) 1 (s0_7)))) rfl (fun _ hC=>op_indexI u22z info2 sz2 rfl (kp _ za (hB.trans hC)) rfl hx16.1 hx16.2) ?_
 refine qv (v:=.int .i64 (e15)) rfl (fun _ hC=>oldz u2z rfl rfl (int_get (kp _ za (hB.trans hC)) hx16.1 hx16.2)) ?_
 obtain ⟨e17,hx18e,hm14⟩:=bs hm14
 have hx18:=idx_some hx18e
 refine qv (v:=.pointer (some (elA (z9) 1 (e15)))) rfl (fun _ hC=>op_indexI u22z info2 sz2 rfl (kp _ zd (hB.trans hC)) rfl hx18.1 hx18.2) ?_
 refine qv (v:=.int .i64 (e17)) rfl (fun _ hC=>oldz u2z rfl rfl (int_get (kp _ zd (hB.trans hC)) hx18.1 hx18.2)) ?_
 refine qv (v:=.int .i64 (s0_7)) rfl (fun _ _=>om _) ?_
 obtain ⟨y19,hy20,hm14⟩:=bs hm14
 refine QL.call (v:=.int .i64 (y19)) rfl (fun _ _=>op_callF Tryz.func129 rfl rfl) (fun _ hC=>(impl_Category_then_calls (kp _ za (hB.trans hC)) (kp _ zb (hB.trans hC)) (kp _ zd (hB.trans hC)) (kp _ zc (hB.trans hC)) (At.keep0 a_x0 (hB.trans hC)) hy20).mono fun _ _ h=>⟨h.1,hC.trans h.2⟩) ?_
 refine qv (v:=.int .i64 (s0_7)) rfl (fun _ _=>om _) ?_
 refine qv (v:=.bool ((y19) != (s0_7))) rfl (fun _ _=>op_bin rfl rfl bin_neq) ?_
 refine qv (v:=.bool ((y19) != (s0_7))) rfl (fun _ _=>om _) ?_
 rcases Bool.eq_false_or_eq_true ((y19) != (s0_7)) with hb21 | hb21
 rw [hb21] at hm14
 refine qs rfl (congrArg some hb21) rfl ?_
 refine qs rfl (congrArg some hb21) rfl ?_
 refine qs rfl (congrArg some hb21) rfl ?_
 refine qs rfl (congrArg some hb21) rfl ?_
 refine qs rfl (congrArg some hb21) rfl ?_
 refine qs rfl (congrArg some hb21) rfl ?_
 refine qs rfl (congrArg some hb21) rfl ?_
 refine qs rfl (congrArg some hb21) rfl ?_
 refine qs rfl (congrArg some hb21) rfl ?_
 refine qs rfl (congrArg some hb21) rfl ?_
 refine qs rfl (congrArg some hb21) rfl ?_
 refine qs rfl (congrArg some hb21) rfl ?_
 refine qs rfl (congrArg some hb21) rfl ?_
 refine qs rfl (congrArg some hb21) rfl ?_
 refine qs rfl (congrArg some hb21) rfl ?_
 refine qs rfl (congrArg some hb21) rfl ?_
 refine qs rfl (congrArg some hb21) rfl ?_
 refine qs rfl (congrArg some hb21) rfl ?_
 refine qv (v:=.bool (true)) rfl (fun _ _=>op_pickT rfl hb21) ?_
 cases hm14
 exact fr ⟨rfl,rfl,rfl,rfl,trivial⟩
 rw [hb21] at hm14
 refine qg (v:=.pointer (some (p_x0))) rfl (congrArg some hb21) (fun _ _=>om _) ?_
 refine qg (v:=.int .i64 (s0_7)) rfl (congrArg some hb21) (fun _ _=>om _) ?_
 refine qg (v:=.pointer (some (p_x0))) rfl (congrArg some hb21) (fun _ _=>om _) ?_
 refine qg (v:=.pointer (some (p_x0))) rfl (congrArg some hb21) (fun _ _=>op_nilCheck rfl) ?_
 refine qg (v:=.pointer (some (p_x0.add 3))) rfl (congrArg some hb21) (fun _ _=>op_fieldAddrP u27z rfl info22 ne22 rfl rfl) ?_
 refine qg (v:=z9) rfl (congrArg some hb21) (fun _ hC=>oldz u22z rfl rfl ((At.keep0 a_x0 (hB.trans hC)).cell (j:=3) rfl)) ?_
 refine qg (v:=.pointer (some (p_x0))) rfl (congrArg some hb21) (fun _ _=>om _) ?_
 refine qg (v:=.pointer (some (p_x0))) rfl (congrArg some hb21) (fun _ _=>op_nilCheck rfl) ?_
 refine qg (v:=.pointer (some (p_x0.add 2))) rfl (congrArg some hb21) (fun _ _=>op_fieldAddrP u27z rfl info22 ne22 rfl rfl) ?_
 refine qg (v:=z7) rfl (congrArg some hb21) (fun _ hC=>oldz u22z rfl rfl ((At.keep0 a_x0 (hB.trans hC)).cell (j:=2) rfl)) ?_
 refine qg (v:=.int .i64 (s0_7)) rfl (congrArg some hb21) (fun _ _=>om _) ?_
 obtain ⟨e22,hx23e,hm14⟩:=bs hm14
 have hx23:=idx_some hx23e
 refine qg (v:=.pointer (some (elA (z7) 1 (s0_7)))) rfl (congrArg some hb21) (fun _ hC=>op_indexI u22z info2 sz2 rfl (kp _ zb (hB.trans hC)) rfl hx23.1 hx23.2) ?_
 refine qg (v:=.int .i64 (e22)) rfl (congrArg some hb21) (fun _ hC=>oldz u2z rfl rfl (int_get (kp _ zb (hB.trans hC)) hx23.1 hx23.2)) ?_
 obtain ⟨e24,hx25e,hm14⟩:=bs hm14
 have hx25:=idx_some hx25e
 refine qg (v:=.pointer (some (elA (z9) 1 (e22)))) rfl (congrArg some hb21) (fun _ hC=>op_indexI u22z info2 sz2 rfl (kp _ zd (hB.trans hC)) rfl hx25.1 hx25.2) ?_
 refine qg (v:=.int .i64 (e24)) rfl (congrArg some hb21) (fun _ hC=>oldz u2z rfl rfl (int_get (kp _ zd (hB.trans hC)) hx25.1 hx25.2)) ?_
 obtain ⟨y26,hy27,hm14⟩:=bs hm14
 refine QL.callG (v:=.int .i64 (y26)) rfl (congrArg some hb21) (fun _ _=>op_callF Tryz.func129 rfl rfl) (fun _ hC=>(impl_Category_then_calls (kp _ za (hB.trans hC)) (kp _ zb (hB.trans hC)) (kp _ zd (hB.trans hC)) (kp _ zc (hB.trans hC)) (At.keep0 a_x0 (hB.trans hC)) hy27).mono fun _ _ h=>⟨h.1,hC.trans h.2⟩) ?_
 refine qg (v:=.int .i64 (s0_7)) rfl (congrArg some hb21) (fun _ _=>om _) ?_
 refine qg (v:=.bool ((y26) != (s0_7))) rfl (congrArg some hb21) (fun _ _=>op_bin rfl rfl bin_neq) ?_
 refine qv (v:=.bool ((y26) != (s0_7))) rfl (fun _ _=>op_pickF rfl hb21) ?_
 cases hm14
 exact fr ⟨rfl,rfl,rfl,rfl,trivial⟩
 rintro _ ⟨F,rfl⟩
 intro wd28 hC29
 refine anz ?_
 refine W_cond (b:=g13) rfl ?_ ?_
 intro hb30
 rw [hb30] at ho
 refine wq ?_
 refine Wq rfl hC29 ?_
 refine qv (v:=.int .i64 (s0_7)) rfl (fun _ _=>om _) ?_
 refine qv (v:=.int .i64 ((1:Int))) rfl (fun _ _=>oa _) ?_
 refine qv (v:=.int .i64 (s0_7)) rfl (fun _ _=>oa _) ?_
 refine qv (v:=.int .i64 ((0:Int))) rfl (fun _ _=>oa _) ?_
 refine qv (v:=.int .i64 ((0:Int))) rfl (fun _ _=>oa _) ?_
 intro wd31 hC32
 refine anz ?_
 cases ho
 exact W_ret ⟨_,res_4 Tryz.results165,rfl,(hB.trans hC32)⟩
 intro hb30
 rw [hb30] at ho
 refine W_skip ?_
 refine inBlk_n ?_
 refine anz ?_
 refine Wq rfl hC29 ?_
 refine qv (v:=.int .i64 (s0_7)) rfl (fun _ _=>om _) ?_
 refine qv (v:=.int .i64 (w64 (s0_7 + (1:Int)))) rfl (fun _ _=>op_bin rfl rfl bin_add) ?_
 refine qv (v:=.int .i64 (w64 (s0_7 + (1:Int)))) rfl (fun _ _=>oa _) ?_
 intro wd33 hC34
 cases ho
 exact ⟨(hB.trans hC34),fr ⟨rfl,rfl,rfl,trivial⟩⟩
 intro hb12
 rw [hb12] at ho
 refine W_exit ?_
 refine andThen_x ?_
 cases ho
 exact ⟨rfl,⟨(hB.trans hC11),fr ⟨rfl,rfl,rfl,trivial⟩⟩⟩
 rintro s0_7 _ wd35 ⟨hB,F,rfl⟩ ho
 replace ho:=ho
 refine anz ?_
 refine wq ?_
 refine wq ?_
 refine Wq rfl (cr [] wd35) ?_
 refine qv (v:=.int .i64 ((0:Int))) rfl (fun _ _=>oa _) ?_
 intro wd36 hC37
 refine anz ?_
 refine W_for (S1:=Int) (fun (s1_8:Int) r w'=>Chg [] w w'∧∃ F,r=updL F [(0,.pointer (some (p_x0))),(6,.int .i64 (y3)),(8,.int .i64 (s1_8))]) (T:=impl_Category_fault_T w) ho ⟨(hB.trans hC37),fr ⟨rfl,rfl,rfl,trivial⟩⟩ ?_ ?_ ?_
 intro x r w' ho hx; subst ho; exact hx
 rintro s1_8 _ wd38 ⟨hB,F,rfl⟩ o ho
 replace ho:impl_Category_fault_L1 x0 y3 s1_8=some o:=ho
 unfold impl_Category_fault_L1 at ho
 refine wq ?_
 refine wq ?_
 refine Wq rfl (cr [] wd38) ?_
 refine qv (v:=.int .i64 (s1_8)) rfl (fun _ _=>om _) ?_
 refine qv (v:=.int .i64 (y3)) rfl (fun _ _=>om _) ?_
 refine qv (v:=.bool (decide (s1_8 < y3))) rfl (fun _ _=>op_bin rfl rfl bin_lss) ?_
 intro wd39 hC40
 refine anz ?_
 refine W_cond (b:=decide (s1_8 < y3)) rfl ?_ ?_
 intro hb41
 rw [hb41] at ho
 refine W_skip ?_
 refine anz ?_
 refine wq ?_
 refine W_block ?_
 refine wq ?_
 refine Wq rfl hC40 ?_
 refine qv (v:=.int .i64 ((0:Int))) rfl (fun _ _=>oa _) ?_
 intro wd42 hC43
 refine anz ?_
 refine W_for (S1:=Int) (fun (s2_9:Int) r w'=>Chg [] w w'∧∃ F,r=updL F [(0,.pointer (some (p_x0))),(6,.int .i64 (y3)),(8,.int .i64 (s1_8)),(9,.int .i64 (s2_9))]) (T:=impl_Category_fault_T w) ho ⟨(hB.trans hC43),fr ⟨rfl,rfl,rfl,rfl,trivial⟩⟩ ?_ ?_ ?_
 intro x r w' ho hx; subst ho; exact hx
 rintro s2_9 _ wd44 ⟨hB,F,rfl⟩ o ho
 replace ho:impl_Category_fault_L2 x0 y3 s1_8 s2_9=some o:=ho
 unfold impl_Category_fault_L2 at ho
 refine wq ?_
 refine wq ?_
 refine Wq rfl (cr [] wd44) ?_
 refine qv (v:=.int .i64 (s2_9)) rfl (fun _ _=>om _) ?_
 refine qv (v:=.int .i64 (y3)) rfl (fun _ _=>om _) ?_
 refine qv (v:=.bool (decide (s2_9 < y3))) rfl (fun _ _=>op_bin rfl rfl bin_lss) ?_
 intro wd45 hC46
 refine anz ?_
 refine W_cond (b:=decide (s2_9 < y3)) rfl ?_ ?_
 intro hb47
 rw [hb47] at ho
 refine W_skip ?_
 refine anz ?_
 refine wq ?_
 refine W_block ?_
 refine wq ?_
 refine wq ?_
 refine Wq rfl hC46 ?_
 refine qv (v:=.pointer (some (p_x0))) rfl (fun _ _=>om _) ?_
 refine qv (v:=.int .i64 (s1_8)) rfl (fun _ _=>om _) ?_
 refine qv (v:=.int .i64 (s2_9)) rfl (fun _ _=>om _) ?_
 obtain ⟨y48,hy49,ho⟩:=bs ho
 refine QL.call (v:=.int .i64 (y48)) rfl (fun _ _=>op_callF Tryz.func129 rfl rfl) (fun _ hC=>(impl_Category_then_calls (kp _ za (hB.trans hC)) (kp _ zb (hB.trans hC)) (kp _ zd (hB.trans hC)) (kp _ zc (hB.trans hC)) (At.keep0 a_x0 (hB.trans hC)) hy49).mono fun _ _ h=>⟨h.1,hC.trans h.2⟩) ?_
 refine qv (v:=.bool (decide (y48 < (0:Int)))) rfl (fun _ _=>op_bin rfl rfl bin_lss) ?_
 intro wd50 hC51
 refine anz ?_
 refine W_cond (b:=decide (y48 < (0:Int))) rfl ?_ ?_
 intro hb52
 rw [hb52] at ho
 refine W_exit ?_
 refine andThen_x ?_
 refine inBlk_x ?_
 refine anz ?_
 refine Wq rfl hC51 ?_
 refine qv (v:=.int .i64 (s2_9)) rfl (fun _ _=>om _) ?_
 refine qv (v:=.int .i64 (w64 (s2_9 + (1:Int)))) rfl (fun _ _=>op_bin rfl rfl bin_add) ?_
 refine qv (v:=.int .i64 (w64 (s2_9 + (1:Int)))) rfl (fun _ _=>oa _) ?_
 intro wd53 hC54
 cases ho
 exact ⟨(hB.trans hC54),fr ⟨rfl,rfl,rfl,rfl,trivial⟩⟩
 intro hb52
 rw [hb52] at ho
 refine W_skip ?_
 refine anz ?_
 refine wq ?_
 refine Wq rfl hC51 ?_
 refine qv (v:=.int .i64 ((0:Int))) rfl (fun _ _=>oa _) ?_
 intro wd55 hC56
 refine anz ?_
 refine W_for (S1:=Int) (fun (s3_10:Int) r w'=>Chg [] w w'∧∃ F,r=updL F [(0,.pointer (some (p_x0))),(6,.int .i64 (y3)),(8,.int .i64 (s1_8)),(9,.int .i64 (s2_9)),(10,.int .i64 (s3_10))]) (T:=impl_Category_fault_T w) ho ⟨(hB.trans hC56),fr ⟨rfl,rfl,rfl,rfl,rfl,trivial⟩⟩ ?_ ?_ ?_
 intro x r w' ho hx; subst ho; exact hx
 rintro s3_10 _ wd57 ⟨hB,F,rfl⟩ o ho
 replace ho:impl_Category_fault_L3 x0 y3 s1_8 s2_9 s3_10=some o:=ho
 unfold impl_Category_fault_L3 at ho
 refine wq ?_
 refine wq ?_
 refine Wq rfl (cr [] wd57) ?_
 refine qv (v:=.int .i64 (s3_10)) rfl (fun _ _=>om _) ?_
 refine qv (v:=.int .i64 (y3)) rfl (fun _ _=>om _) ?_
 refine qv (v:=.bool (decide (s3_10 < y3))) rfl (fun _ _=>op_bin rfl rfl bin_lss) ?_
 intro wd58 hC59
 refine anz ?_
 refine W_cond (b:=decide (s3_10 < y3)) rfl ?_ ?_
 intro hb60
 rw [hb60] at ho
 refine W_skip ?_
 refine anz ?_
 refine wq ?_
 refine W_block ?_
 refine wq ?_
 refine Wq rfl hC59 ?_
 obtain ⟨g61,hm62,ho⟩:=bs ho
 refine QL.meet (fun r=>∃ F,r=updL F [(0,.pointer (some (p_x0))),(6,.int .i64 (y3)),(8,.int .i64 (s1_8)),(9,.int .i64 (s2_9)),(10,.int .i64 (s3_10)),(98,.bool (g61))]) ?_ ?_
 skip
 refine qv (v:=.pointer (some (p_x0))) rfl (fun _ _=>om _) ?_
 refine qv (v:=.int .i64 (s2_9)) rfl (fun _ _=>om _) ?_
 refine qv (v:=.int .i64 (s3_10)) rfl (fun _ _=>om _) ?_
 obtain ⟨y63,hy64,hm62⟩:=bs hm62
 refine QL.call (v:=.int .i64 (y63)) rfl (fun _ _=>op_callF Tryz.func129 rfl rfl) (fun _ hC=>(impl_Category_then_calls (kp _ za (hB.trans hC)) (kp _ zb (hB.trans hC)) (kp _ zd (hB.trans hC)) (kp _ zc (hB.trans hC)) (At.keep0 a_x0 (hB.trans hC)) hy64).mono fun _ _ h=>⟨h.1,hC.trans h.2⟩) ?_
 refine qv (v:=.bool (decide (y63 ≥ (0:Int)))) rfl (fun _ _=>op_bin rfl rfl bin_geq) ?_
 refine qv (v:=.bool (decide (y63 ≥ (0:Int)))) rfl (fun _ _=>om _) ?_
 rcases Bool.eq_false_or_eq_true (decide (y63 ≥ (0:Int))) with hb65 | hb65
 rw [hb65] at hm62
 refine qg (v:=.pointer (some (p_x0))) rfl (congrArg some hb65) (fun _ _=>om _) ?_
 refine qg (v:=.pointer (some (p_x0))) rfl (congrArg some hb65) (fun _ _=>om _) ?_
 refine qg (v:=.int .i64 (s1_8)) rfl (congrArg some hb65) (fun _ _=>om _) ?_
 refine qg (v:=.int .i64 (s2_9)) rfl (congrArg some hb65) (fun _ _=>om _) ?_
 obtain ⟨y66,hy67,hm62⟩:=bs hm62
 refine QL.callG (v:=.int .i64 (y66)) rfl (congrArg some hb65) (fun _ _=>op_callF Tryz.func129 rfl rfl) (fun _ hC=>(impl_Category_then_calls (kp _ za (hB.trans hC)) (kp _ zb (hB.trans hC)) (kp _ zd (hB.trans hC)) (kp _ zc (hB.trans hC)) (At.keep0 a_x0 (hB.trans hC)) hy67).mono fun _ _ h=>⟨h.1,hC.trans h.2⟩) ?_
 refine qg (v:=.int .i64 (s3_10)) rfl (congrArg some hb65) (fun _ _=>om _) ?_
 obtain ⟨y68,hy69,hm62⟩:=bs hm62
 refine QL.callG (v:=.int .i64 (y68)) rfl (congrArg some hb65) (fun _ _=>op_callF Tryz.func129 rfl rfl) (fun _ hC=>(impl_Category_then_calls (kp _ za (hB.trans hC)) (kp _ zb (hB.trans hC)) (kp _ zd (hB.trans hC)) (kp _ zc (hB.trans hC)) (At.keep0 a_x0 (hB.trans hC)) hy69).mono fun _ _ h=>⟨h.1,hC.trans h.2⟩) ?_
 refine qg (v:=.pointer (some (p_x0))) rfl (congrArg some hb65) (fun _ _=>om _) ?_
 refine qg (v:=.int .i64 (s1_8)) rfl (congrArg some hb65) (fun _ _=>om _) ?_
 refine qg (v:=.pointer (some (p_x0))) rfl (congrArg some hb65) (fun _ _=>om _) ?_
 refine qg (v:=.int .i64 (s2_9)) rfl (congrArg some hb65) (fun _ _=>om _) ?_
 refine qg (v:=.int .i64 (s3_10)) rfl (congrArg some hb65) (fun _ _=>om _) ?_
 obtain ⟨y70,hy71,hm62⟩:=bs hm62
 refine QL.callG (v:=.int .i64 (y70)) rfl (congrArg some hb65) (fun _ _=>op_callF Tryz.func129 rfl rfl) (fun _ hC=>(impl_Category_then_calls (kp _ za (hB.trans hC)) (kp _ zb (hB.trans hC)) (kp _ zd (hB.trans hC)) (kp _ zc (hB.trans hC)) (At.keep0 a_x0 (hB.trans hC)) hy71).mono fun _ _ h=>⟨h.1,hC.trans h.2⟩) ?_
 obtain ⟨y72,hy73,hm62⟩:=bs hm62
 refine QL.callG (v:=.int .i64 (y72)) rfl (congrArg some hb65) (fun _ _=>op_callF Tryz.func129 rfl rfl) (fun _ hC=>(impl_Category_then_calls (kp _ za (hB.trans hC)) (kp _ zb (hB.trans hC)) (kp _ zd (hB.trans hC)) (kp _ zc (hB.trans hC)) (At.keep0 a_x0 (hB.trans hC)) hy73).mono fun _ _ h=>⟨h.1,hC.trans h.2⟩) ?_
 refine qg (v:=.bool ((y68) != (y72))) rfl (congrArg some hb65) (fun _ _=>op_bin rfl rfl bin_neq) ?_
 refine qv (v:=.bool ((y68) != (y72))) rfl (fun _ _=>op_pickT rfl hb65) ?_
 cases hm62
 exact fr ⟨rfl,rfl,rfl,rfl,rfl,rfl,trivial⟩
 rw [hb65] at hm62
 refine qs rfl (congrArg some hb65) rfl ?_
 refine qs rfl (congrArg some hb65) rfl ?_
 refine qs rfl (congrArg some hb65) rfl ?_
 refine qs rfl (congrArg some hb65) rfl ?_
 refine qs rfl (congrArg some hb65) rfl ?_
 refine qs rfl (congrArg some hb65) rfl ?_
 refine qs rfl (congrArg some hb65) rfl ?_
 refine qs rfl (congrArg some hb65) rfl ?_
 refine qs rfl (congrArg some hb65) rfl ?_
 refine qs rfl (congrArg some hb65) rfl ?_
 refine qs rfl (congrArg some hb65) rfl ?_
 refine qs rfl (congrArg some hb65) rfl ?_
 refine qs rfl (congrArg some hb65) rfl ?_
 refine qs rfl (congrArg some hb65) rfl ?_
 refine qs rfl (congrArg some hb65) rfl ?_
 refine qv (v:=.bool (false)) rfl (fun _ _=>op_pickF rfl hb65) ?_
 cases hm62
 exact fr ⟨rfl,rfl,rfl,rfl,rfl,rfl,trivial⟩
 rintro _ ⟨F,rfl⟩
 intro wd74 hC75
 refine anz ?_
 refine W_cond (b:=g61) rfl ?_ ?_
 intro hb76
 rw [hb76] at ho
 refine wq ?_
 refine Wq rfl hC75 ?_
 refine qv (v:=.int .i64 (s1_8)) rfl (fun _ _=>om _) ?_
 refine qv (v:=.int .i64 (s2_9)) rfl (fun _ _=>om _) ?_
 refine qv (v:=.int .i64 (s3_10)) rfl (fun _ _=>om _) ?_
 refine qv (v:=.int .i64 ((2:Int))) rfl (fun _ _=>oa _) ?_
 refine qv (v:=.int .i64 (s1_8)) rfl (fun _ _=>oa _) ?_
 refine qv (v:=.int .i64 (s2_9)) rfl (fun _ _=>oa _) ?_
 refine qv (v:=.int .i64 (s3_10)) rfl (fun _ _=>oa _) ?_
 intro wd77 hC78
 refine anz ?_
 cases ho
 exact W_ret ⟨_,res_4 Tryz.results165,rfl,(hB.trans hC78)⟩
 intro hb76
 rw [hb76] at ho
 refine W_skip ?_
 refine inBlk_n ?_
 refine anz ?_
 refine Wq rfl hC75 ?_
 refine qv (v:=.int .i64 (s3_10)) rfl (fun _ _=>om _) ?_
 refine qv (v:=.int .i64 (w64 (s3_10 + (1:Int)))) rfl (fun _ _=>op_bin rfl rfl bin_add) ?_
 refine qv (v:=.int .i64 (w64 (s3_10 + (1:Int)))) rfl (fun _ _=>oa _) ?_
 intro wd79 hC80
 cases ho
 exact ⟨(hB.trans hC80),fr ⟨rfl,rfl,rfl,rfl,rfl,trivial⟩⟩
 intro hb60
 rw [hb60] at ho
 refine W_exit ?_
 refine andThen_x ?_
 cases ho
 exact ⟨rfl,⟨(hB.trans hC59),fr ⟨rfl,rfl,rfl,rfl,rfl,trivial⟩⟩⟩
 rintro s3_10 _ wd81 ⟨hB,F,rfl⟩ ho
 replace ho:=ho
 refine inBlk_n ?_
 refine anz ?_
 refine Wq rfl (cr [] wd81) ?_
 refine qv (v:=.int .i64 (s2_9)) rfl (fun _ _=>om _) ?_
 refine qv (v:=.int .i64 (w64 (s2_9 + (1:Int)))) rfl (fun _ _=>op_bin rfl rfl bin_add) ?_
 refine qv (v:=.int .i64 (w64 (s2_9 + (1:Int)))) rfl (fun _ _=>oa _) ?_
 intro wd82 hC83
 cases ho
 exact ⟨(hB.trans hC83),fr ⟨rfl,rfl,rfl,rfl,trivial⟩⟩
 intro hb47
 rw [hb47] at ho
 refine W_exit ?_
 refine andThen_x ?_
 cases ho
 exact ⟨rfl,⟨(hB.trans hC46),fr ⟨rfl,rfl,rfl,rfl,trivial⟩⟩⟩
 rintro s2_9 _ wd84 ⟨hB,F,rfl⟩ ho
 replace ho:=ho
 refine inBlk_n ?_
 refine anz ?_
 refine Wq rfl (cr [] wd84) ?_
 refine qv (v:=.int .i64 (s1_8)) rfl (fun _ _=>om _) ?_
 refine qv (v:=.int .i64 (w64 (s1_8 + (1:Int)))) rfl (fun _ _=>op_bin rfl rfl bin_add) ?_
 refine qv (v:=.int .i64 (w64 (s1_8 + (1:Int)))) rfl (fun _ _=>oa _) ?_
 intro wd85 hC86
 cases ho
 exact ⟨(hB.trans hC86),fr ⟨rfl,rfl,rfl,trivial⟩⟩
 intro hb41
 rw [hb41] at ho
 refine W_exit ?_
 refine andThen_x ?_
 cases ho
 exact ⟨rfl,⟨(hB.trans hC40),fr ⟨rfl,rfl,rfl,trivial⟩⟩⟩
 rintro s1_8 _ wd87 ⟨hB,F,rfl⟩ ho
 replace ho:=ho
 refine anz ?_
 refine wq ?_
 refine Wq rfl (cr [] wd87) ?_
 refine qv (v:=.int .i64 ((0:Int))) rfl (fun _ _=>oa _) ?_
 refine qv (v:=.int .i64 ((0:Int))) rfl (fun _ _=>oa _) ?_
 refine qv (v:=.int .i64 ((0:Int))) rfl (fun _ _=>oa _) ?_
 refine qv (v:=.int .i64 ((0:Int))) rfl (fun _ _=>oa _) ?_
 intro wd88 hC89
 refine anz ?_
 cases ho
 exact W_ret ⟨_,res_4 Tryz.results165,rfl,(hB.trans hC89)⟩

noncomputable def impl_Category_isCategory (x0:MCategory):Option (Bool):=
 retM (S:=Unit) ((impl_Category_isShape x0)>>=fun y3=>(bif !(y3) then (some (Out.ret (false))) else ((impl_Category_fault x0)>>=fun y10=>(some (Out.ret (((y10.1) == ((0:Int)))))))))
abbrev impl_Category_isCategory_post (w:World) (x:(Bool)) (e:Ending) (w':World):Prop:=e = .returned (.bool x)∧Chg [] w w'
abbrev impl_Category_isCategory_T (w:World) (x:(Bool)) (r:Nat→Value) (w':World):Prop:=∃ v,(∀ a:Act,a.tmps.size=19→rho a=r→(results Tryz.f118 a.tmps).run Tryz.prog w' = .ok v w')∧impl_Category_isCategory_post w x (.returned v) w'
theorem impl_Category_isCategory_calls {w:World} {x0:MCategory} {p_x0:Addr} {z6:Value} {zh:List Nat} {z7:Value} {zg:List Nat} {z9:Value} {zf:List Nat} {z8:Value} {ze:List Nat} (za:(sImm (sInt .i64)).rep w.heap [z6] x0.From zh) (zb:(sImm (sInt .i64)).rep w.heap [z7] x0.To zg) (zd:(sImm (sInt .i64)).rep w.heap [z9] x0.Identity zf) (zc:(sImm (sImm (sInt .i64))).rep w.heap [z8] x0.Composites ze) (a_x0:At w p_x0 [.int .i64 (x0.Objects),z6,z7,z9,z8]) {y:(Bool)} (hm:impl_Category_isCategory x0=some y) :
  Calls Tryz.prog 118 #[.pointer (some (p_x0))] w (impl_Category_isCategory_post w y):=by
 refine calls_of_M (S:=Unit) (args:=[.pointer (some (p_x0))]) Tryz.func118 rfl Tryz.ntmps118 (Nat.le_of_ble_eq_true rfl) (retM_some hm) ?_
 clear hm
 intro o ho
 have hB:Chg [] w w:=cr _ _
 refine wq ?_
 refine Wq rfl (cr [] w) ?_
 refine qv (v:=.bool (false)) rfl (fun _ _=>oa _) ?_
 intro wd1 hC2
 refine anz ?_
 refine wq ?_
 refine wq ?_
 refine Wq rfl hC2 ?_
 refine qv (v:=.pointer (some (p_x0))) rfl (fun _ _=>om _) ?_
 obtain ⟨y3,hy4,ho⟩:=bs ho
 refine QL.call (v:=.bool (y3)) rfl (fun _ _=>op_callF Tryz.func164 rfl rfl) (fun _ hC=>(impl_Category_isShape_calls (kp _ za (hB.trans hC)) (kp _ zb (hB.trans hC)) (kp _ zd (hB.trans hC)) (kp _ zc (hB.trans hC)) (At.keep0 a_x0 (hB.trans hC)) hy4).mono fun _ _ h=>⟨h.1,hC.trans h.2⟩) ?_
 refine qv (v:=.bool (!(y3))) rfl (fun _ _=>op_not rfl) ?_
 intro wd5 hC6
 refine anz ?_
 refine W_cond (b:=!(y3)) rfl ?_ ?_
 intro hb7
 rw [hb7] at ho
 refine wq ?_
 refine Wq rfl hC6 ?_
 refine qv (v:=.bool (false)) rfl (fun _ _=>oa _) ?_
 intro wd8 hC9
 refine anz ?_
 cases ho
 exact W_ret ⟨_,res_1 Tryz.results118,rfl,(hB.trans hC9)⟩
 intro hb7
 rw [hb7] at ho
 refine W_skip ?_
 refine anz ?_
 refine wq ?_
 refine Wq rfl hC6 ?_
 refine qv (v:=.pointer (some (p_x0))) rfl (fun _ _=>om _) ?_
 obtain ⟨y10,hy11,ho⟩:=bs ho
 refine QL.call (v:=.tuple #[.int .i64 (y10.1),.int .i64 (y10.2.1),.int .i64 (y10.2.2.1),.int .i64 (y10.2.2.2)]) rfl (fun _ _=>op_callF Tryz.func165 rfl rfl) (fun _ hC=>(impl_Category_fault_calls (kp _ za (hB.trans hC)) (kp _ zb (hB.trans hC)) (kp _ zd (hB.trans hC)) (kp _ zc (hB.trans hC)) (At.keep0 a_x0 (hB.trans hC)) hy11).mono fun _ _ h=>⟨h.1,hC.trans h.2⟩) ?_
 refine qv (v:=.tuple #[.int .i64 (y10.1),.int .i64 (y10.2.1),.int .i64 (y10.2.2.1),.int .i64 (y10.2.2.2)]) rfl (fun _ _=>om _) ?_
 refine qv (v:=.int .i64 (y10.1)) rfl (fun _ _=>op_extract rfl rfl) ?_
 refine qv (v:=.int .i64 (y10.2.1)) rfl (fun _ _=>op_extract rfl rfl) ?_
 refine qv (v:=.int .i64 (y10.2.2.1)) rfl (fun _ _=>op_extract rfl rfl) ?_
 refine qv (v:=.int .i64 (y10.2.2.2)) rfl (fun _ _=>op_extract rfl rfl) ?_
 refine qv (v:=.int .i64 (y10.1)) rfl (fun _ _=>oa _) ?_
 refine qv (v:=.int .i64 (y10.2.1)) rfl (fun _ _=>oa _) ?_
 refine qv (v:=.int .i64 (y10.2.2.1)) rfl (fun _ _=>oa _) ?_
 refine qv (v:=.int .i64 (y10.2.2.2)) rfl (fun _ _=>oa _) ?_
 intro wd12 hC13
 refine anz ?_
 refine wq ?_
 refine Wq rfl hC13 ?_
 refine qv (v:=.int .i64 (y10.1)) rfl (fun _ _=>om _) ?_
 refine qv (v:=.bool ((y10.1) == ((0:Int)))) rfl (fun _ _=>op_bin rfl rfl bin_eql) ?_
 refine qv (v:=.bool ((y10.1) == ((0:Int)))) rfl (fun _ _=>oa _) ?_
 intro wd14 hC15
 refine anz ?_
 cases ho
 exact W_ret ⟨_,res_1 Tryz.results118,rfl,(hB.trans hC15)⟩

noncomputable def impl_clone (x0:(List Int)):Option ((List Int)):=
 retM (S:=Unit) ((fits 8 ((([]:(List Int))).length + x0.length))>>=fun n15=>(some (Out.ret ((([]:(List Int))++x0)))))
abbrev impl_clone_post (w:World) (x:((List Int))) (e:Ending) (w':World):Prop:=∃ (v0:Value) (f0:List Nat),e = .returned (v0)∧Chg [] w w'∧OE [] w.heap.size w' (sOwn 2 (sInt .i64)) [v0] x f0
abbrev impl_clone_T (w:World) (x:((List Int))) (r:Nat→Value) (w':World):Prop:=∃ v,(∀ a:Act,a.tmps.size=6→rho a=r→(results Tryz.f147 a.tmps).run Tryz.prog w' = .ok v w')∧impl_clone_post w x (.returned v) w'
theorem impl_clone_calls {w:World} {x0:(List Int)} {v_x0:Value} {f_x0:List Nat} (h_x0:(sImm (sInt .i64)).rep w.heap [v_x0] x0 f_x0) {y:((List Int))} (hm:impl_clone x0=some y) :
  Calls Tryz.prog 147 #[v_x0] w (impl_clone_post w y):=by
 refine calls_of_M (S:=Unit) (args:=[v_x0]) Tryz.func147 rfl Tryz.ntmps147 (Nat.le_of_ble_eq_true rfl) (retM_some hm) ?_
 clear hm
 intro o ho
 have hB:Chg [] w w:=cr _ _
 refine wq ?_
 refine Wq rfl (cr [] w) ?_
 refine qv (v:=.slice none 0 0) rfl (fun _ _=>oa _) ?_
 intro wd1 hC2
 refine anz ?_
 refine wq ?_
 refine W_region rfl ?_
 refine WL.lit0 (sInt .i64) u22z info2 fun v3 wd4 f5 hC6 o7=>?_
 replace o7:=OE.low (G:=[]) o7 (hB.trans hC2).size
 have hT8:=hC2.trans hC6
 replace hB:=(hB.trans hT8)
 refine wv (v:=v_x0) rfl (om _) ?_
 obtain ⟨n15,hn16,ho⟩:=bs ho
 have hn16a:=fits_some hn16
 refine WL.appendS (E:=(sInt .i64)) _ _ sInt_nofp u22z info2 zr2 sz2 rfl rfl rfl (ko o7 (cr [] wd4)) rfl (kp _ h_x0 (hB.trans (cr [] wd4))) (by rw [by2]; exact hn16a.1) hn16a.2 (hB.trans (cr [] wd4)).size fun v9 wd10 f11 hC12 o13 hs14=>?_
 have hT17:=((cr [] wd4).nil (G:=f5)).trans hC12
 replace hB:=hB.then hT17 o7.2.2
 refine wv (v:=v9) rfl (oa _) ?_
 refine anz ?_
 cases ho
 exact W_ret ⟨_,res_1 Tryz.results147,_,_,rfl,(hB.trans (cr [] wd10)),(ko o13 (cr [] wd10))⟩

noncomputable def impl_clones_L0 (x0:(List (List Int))) (s0_3:(List (List Int))) (s0_11:Int):Option (Out ((List (List Int))×Int) ((List (List Int)))):=
 (bif decide (s0_11 < (x0.length:Int)) then ((idx x0 (s0_11))>>=fun e20=>((impl_clone e20)>>=fun y29=>((fits 24 (s0_3.length + 1))>>=fun n53=>(some (Out.norm (s0_3++[y29],w64 (s0_11 + (1:Int)))))))) else (some (Out.exit 0 (s0_3,s0_11))))
noncomputable def impl_clones (x0:(List (List Int))):Option ((List (List Int))):=
 retM (S:=Unit) ((mk 24 ((x0.length:Int)))>>=fun n3=>(lbind (blockM 0 (loopM (fun s=>impl_clones_L0 x0 s.1 s.2) (([]:(List (List Int))),(0:Int)))) (fun (s0_3,s0_11)=>(some (Out.ret (s0_3))))))
abbrev impl_clones_post (w:World) (x:((List (List Int)))) (e:Ending) (w':World):Prop:=∃ (v0:Value) (f0:List Nat),e = .returned (v0)∧Chg [] w w'∧OE [] w.heap.size w' (sOwn 22 (sOwn 2 (sInt .i64))) [v0] x f0
abbrev impl_clones_T (w:World) (x:((List (List Int)))) (r:Nat→Value) (w':World):Prop:=∃ v,(∀ a:Act,a.tmps.size=22→rho a=r→(results Tryz.f156 a.tmps).run Tryz.prog w' = .ok v w')∧impl_clones_post w x (.returned v) w'
theorem impl_clones_calls {w:World} {x0:(List (List Int))} {v_x0:Value} {f_x0:List Nat} (h_x0:(sImm (sImm (sInt .i64))).rep w.heap [v_x0] x0 f_x0) {y:((List (List Int)))} (hm:impl_clones x0=some y) :
  Calls Tryz.prog 156 #[v_x0] w (impl_clones_post w y):=by
 refine calls_of_M (S:=Unit) (args:=[v_x0]) Tryz.func156 rfl Tryz.ntmps156 (Nat.le_of_ble_eq_true rfl) (retM_some hm) ?_
 clear hm
 intro o ho
 have hB:Chg [] w w:=cr _ _
 refine wq ?_
 refine Wq rfl (cr [] w) ?_
 refine qv (v:=.slice none 0 0) rfl (fun _ _=>oa _) ?_
 intro wd1 hC2
 refine anz ?_
 refine wq ?_
 refine W_region rfl ?_
 refine wv (v:=v_x0) rfl (om _) ?_
 refine wv (v:=.int .i64 ((x0.length:Int))) rfl (op_lenI u23z (kp _ h_x0 (hB.trans hC2))) ?_
 obtain ⟨n3,hn4,ho⟩:=bs ho
 obtain ⟨hn4a,hn4b,hn4c⟩:=mk_some hn4
 refine WL.make0 (sOwn 2 (sInt .i64)) u23z info22 zr22 sz22 rfl (congrArg (Value.int .i64) hn4a) (by rw [by22]; exact hn4b) hn4c fun v5 wd6 f7 hC8 o9=>?_
 replace o9:=OE.low (G:=[]) o9 (hB.trans hC2).size
 have hT10:=hC2.trans hC8
 replace hB:=(hB.trans hT10)
 refine wv (v:=v5) rfl (oa _) ?_
 refine anz ?_
 refine wq ?_
 refine wq ?_
 refine Wq rfl (cr [] wd6) ?_
 refine qv (v:=v_x0) rfl (fun _ _=>om _) ?_
 refine qv (v:=.int .i64 ((x0.length:Int))) rfl (fun _ hC=>op_lenI u23z (kp _ h_x0 (hB.trans hC))) ?_
 refine qv (v:=.int .i64 ((0:Int))) rfl (fun _ _=>om _) ?_
 intro wd11 hC12
 refine anz ?_
 refine W_for (S1:=(List (List Int))×Int) (fun s r w'=>match s with | (s0_3,s0_11)=>∃ (v13:Value) (f14:List Nat),Chg [] w w'∧OE [] w.heap.size w' (sOwn 22 (sOwn 2 (sInt .i64))) [v13] (s0_3) f14∧∃ F,r=updL F [(3,v13),(9,v_x0),(10,.int .i64 ((x0.length:Int))),(11,.int .i64 (s0_11))]) (T:=impl_clones_T w) ho ⟨_,_,(hB.trans hC12),(ko o9 hC12),fr ⟨rfl,rfl,rfl,rfl,trivial⟩⟩ ?_ ?_ ?_
 intro x r w' ho hx; subst ho; exact hx
 rintro ⟨s0_3,s0_11⟩ _ wd16 ⟨v13,f14,hB,o15,F,rfl⟩ o ho
 replace ho:impl_clones_L0 x0 s0_3 s0_11=some o:=ho
 unfold impl_clones_L0 at ho
 refine wq ?_
 refine Wq rfl (cr [] wd16) ?_
 refine qv (v:=.bool (decide (s0_11 < (x0.length:Int)))) rfl (fun _ _=>op_bin rfl rfl bin_lss) ?_
 intro wd17 hC18
 refine anz ?_
 refine wq ?_
 refine W_cond (b:=decide (s0_11 < (x0.length:Int))) rfl ?_ ?_
 intro hb19
 rw [hb19] at ho
 refine W_skip ?_
 refine anz ?_
 refine wq ?_
 refine W_block ?_
 refine wq ?_
 refine Wq rfl hC18 ?_
 obtain ⟨e20,hx21e,ho⟩:=bs ho
 have hx21:=idx_some hx21e
 refine qv (v:=.pointer (some (elA (v_x0) 1 (s0_11)))) rfl (fun _ hC=>op_indexI u23z info22 sz22 rfl (kp _ h_x0 (hB.trans hC)) rfl hx21.1 hx21.2) ?_
 obtain ⟨u22,fu23,hu24,hr25,hs26⟩:=one_get rfl h_x0 hx21.1 hx21.2
 refine qv (v:=u22) rfl (fun _ hC=>oldz u22z rfl rfl ((hB.trans hC).cell0 hu24)) ?_
 refine qv (v:=u22) rfl (fun _ _=>oa _) ?_
 intro wd27 hC28
 refine anz ?_
 refine W_region rfl ?_
 refine wv (v:=v13) rfl (om _) ?_
 refine wv (v:=u22) rfl (om _) ?_
 obtain ⟨y29,hy30,ho⟩:=bs ho
 refine WL.call rfl (op_callF Tryz.func147 rfl rfl) (impl_clone_calls (kp _ hr25 (hB.trans hC28)) hy30) ?_
 rintro _ wd31 ⟨v33,f34,rfl,hC32,o35⟩
 refine ⟨_,rfl,?_⟩
 have d36:Dis f34 f14:=dl (ofr o35) (sl _ (kp _ o15.1 hC28))
 replace o35:=OE.low (G:=[]) o35 (hB.trans hC28).size
 have hT37:=hC28.trans hC32
 replace o15:=ko o15 hT37
 replace hB:=(hB.trans hT37)
 refine WL.lit1 u23z info22 zr22 sz22 (STy.one _ o35.1 _ (ms rfl)) fun b38 wd39 hC40 hr41 hl42=>?_
 replace hr41:Row wd39 b38 [v33] 22:=hr41
 have d44:Dis [b38] f14:=dl (onw hl42) (sl _ (kp _ o15.1 (cr [] wd31)))
 have hT46:=(cr [] wd31).trans hC40
 replace o15:=ko o15 hT46
 replace o35:=ko o35 hT46
 replace hB:=(hB.trans hT46)
 obtain ⟨n53,hn54,ho⟩:=bs ho
 have hn54a:=fits_some hn54
 refine WL.append1 (E:=(sOwn 2 (sInt .i64))) _ _ u23z info22 zr22 sz22 rfl rfl rfl (ko o15 (cr [] wd39)) rfl (kr hr41 (cr [] wd39)) (kp _ o35.1 (cr [] wd39)) o35.2.1 o35.2.2 d36 (by rw [by22]; exact hn54a.1) hn54a.2 (hB.trans (cr [] wd39)).size fun v47 wd48 f49 hC50 o51 hs52=>?_
 have hT57:=((cr [] wd39).nil (G:=f14)).trans hC50
 replace hr41:=Row.keep hr41 hT57 (d44 _ (ms rfl))
 replace hB:=hB.then hT57 o15.2.2
 refine wv (v:=v47) rfl (oa _) ?_
 refine inBlk_n ?_
 refine anz ?_
 refine Wq rfl (cr [] wd48) ?_
 refine qv (v:=.int .i64 (w64 (s0_11 + (1:Int)))) rfl (fun _ _=>op_bin rfl rfl bin_add) ?_
 refine qv (v:=.int .i64 (w64 (s0_11 + (1:Int)))) rfl (fun _ _=>om _) ?_
 intro wd58 hC59
 cases ho
 exact ⟨_,_,(hB.trans hC59),(ko o51 hC59),fr ⟨rfl,rfl,rfl,rfl,trivial⟩⟩
 intro hb19
 rw [hb19] at ho
 refine W_exit ?_
 refine andThen_x ?_
 cases ho
 exact ⟨rfl,⟨_,_,(hB.trans hC18),(ko o15 hC18),fr ⟨rfl,rfl,rfl,rfl,trivial⟩⟩⟩
 rintro ⟨s0_3,s0_11⟩ _ wd60 ⟨v13,f14,hB,o15,F,rfl⟩ ho
 dsimp only at ho
 refine anz ?_
 refine wq ?_
 refine Wq rfl (cr [] wd60) ?_
 refine qv (v:=v13) rfl (fun _ _=>om _) ?_
 refine qv (v:=v13) rfl (fun _ _=>oa _) ?_
 intro wd61 hC62
 refine anz ?_
 cases ho
 exact W_ret ⟨_,res_1 Tryz.results156,_,_,rfl,(hB.trans hC62),(ko o15 hC62)⟩

noncomputable def impl_Category_copy (x0:MCategory):Option (MCategory):=
 retM (S:=Unit) ((impl_clone x0.From)>>=fun y8=>((impl_clone x0.To)>>=fun y13=>((impl_clone x0.Identity)>>=fun y18=>((impl_clones x0.Composites)>>=fun y23=>(some (Out.ret ((MCategory.mk x0.Objects y8 y13 y18 y23))))))))
abbrev impl_Category_copy_post (w:World) (x:(MCategory)) (e:Ending) (w':World):Prop:=∃ (v0:Value) (f0:List Nat) (v1:Value) (f1:List Nat) (v2:Value) (f2:List Nat) (v3:Value) (f3:List Nat),e = .returned (.agg #[.int .i64 x.Objects,v0,v1,v2,v3])∧Chg [] w w'∧OE [] w.heap.size w' (sOwn 2 (sInt .i64)) [v0] x.From f0∧OE [] w.heap.size w' (sOwn 2 (sInt .i64)) [v1] x.To f1∧OE [] w.heap.size w' (sOwn 2 (sInt .i64)) [v2] x.Identity f2∧OE [] w.heap.size w' (sOwn 22 (sOwn 2 (sInt .i64))) [v3] x.Composites f3∧Dis f0 f1∧Dis f0 f2∧Dis f0 f3∧Dis f1 f2∧Dis f1 f3∧Dis f2 f3
abbrev impl_Category_copy_T (w:World) (x:(MCategory)) (r:Nat→Value) (w':World):Prop:=∃ v,(∀ a:Act,a.tmps.size=28→rho a=r→(results Tryz.f146 a.tmps).run Tryz.prog w' = .ok v w')∧impl_Category_copy_post w x (.returned v) w'
theorem impl_Category_copy_calls {w:World} {x0:MCategory} {p_x0:Addr} {z6:Value} {zh:List Nat} {z7:Value} {zg:List Nat} {z9:Value} {zf:List Nat} {z8:Value} {ze:List Nat} (za:(sImm (sInt .i64)).rep w.heap [z6] x0.From zh) (zb:(sImm (sInt .i64)).rep w.heap [z7] x0.To zg) (zd:(sImm (sInt .i64)).rep w.heap [z9] x0.Identity zf) (zc:(sImm (sImm (sInt .i64))).rep w.heap [z8] x0.Composites ze) (a_x0:At w p_x0 [.int .i64 (x0.Objects),z6,z7,z9,z8]) {y:(MCategory)} (hm:impl_Category_copy x0=some y) :
  Calls Tryz.prog 146 #[.pointer (some (p_x0))] w (impl_Category_copy_post w y):=by
 refine calls_of_M (S:=Unit) (args:=[.pointer (some (p_x0))]) Tryz.func146 rfl Tryz.ntmps146 (Nat.le_of_ble_eq_true rfl) (retM_some hm) ?_
 clear hm
 intro o ho
 have hB:Chg [] w w:=cr _ _
 refine wq ?_
 refine W_region rfl ?_
 refine WL.alloc info27 zr27 fun b1 wd2 hC3 hr4 hl5=>?_
 replace hr4:Row wd2 b1 [.int .i64 ((0:Int)),.slice none 0 0,.slice none 0 0,.slice none 0 0,.slice none 0 0] 27:=hr4
 have lo6:w.heap.size≤b1:=Nat.le_trans (hB.trans (cr [] w)).size hl5
 have hT7:=(cr [] w).trans hC3
 replace hB:=(hB.trans hT7)
 refine anz ?_
 refine wq ?_
 obtain ⟨y8,hy9,ho⟩:=bs ho
 obtain ⟨y13,hy14,ho⟩:=bs ho
 obtain ⟨y18,hy19,ho⟩:=bs ho
 obtain ⟨y23,hy24,ho⟩:=bs ho
 refine W_any (m:=24) (U:=[[],[],[],[],[],[],[],[],[],[],[],[],[],[],[],[],[],[],[],[],[],[],[],[]]) (S:=[⟨true,pl fun _ _ u=>u=(.pointer (some (p_x0)):Value)⟩,⟨true,pl fun _ _ u=>u=(.pointer (some (p_x0)):Value)⟩,⟨true,pl fun _ _ u=>u=(.pointer (some (p_x0)):Value)⟩,⟨true,pl fun _ _ u=>u=(.int .i64 (x0.Objects):Value)⟩,⟨true,pl fun _ _ u=>u=(.pointer (some (p_x0)):Value)⟩,⟨true,pl fun _ _ u=>u=(.pointer (some (p_x0)):Value)⟩,⟨true,pl fun _ _ u=>u=(.pointer (some (p_x0.add 1)):Value)⟩,⟨true,pl fun _ _ u=>u=(z6:Value)⟩,⟨true,pl (OwnV (sOwn 2 (sInt .i64)) (y8))⟩,⟨true,pl fun _ _ u=>u=(.pointer (some (p_x0)):Value)⟩,⟨true,pl fun _ _ u=>u=(.pointer (some (p_x0)):Value)⟩,⟨true,pl fun _ _ u=>u=(.pointer (some (p_x0.add 2)):Value)⟩,⟨true,pl fun _ _ u=>u=(z7:Value)⟩,⟨true,pl (OwnV (sOwn 2 (sInt .i64)) (y13))⟩,⟨true,pl fun _ _ u=>u=(.pointer (some (p_x0)):Value)⟩,⟨true,pl fun _ _ u=>u=(.pointer (some (p_x0)):Value)⟩,⟨true,pl fun _ _ u=>u=(.pointer (some (p_x0.add 3)):Value)⟩,⟨true,pl fun _ _ u=>u=(z9:Value)⟩,⟨true,pl (OwnV (sOwn 2 (sInt .i64)) (y18))⟩,⟨true,pl fun _ _ u=>u=(.pointer (some (p_x0)):Value)⟩,⟨true,pl fun _ _ u=>u=(.pointer (some (p_x0)):Value)⟩,⟨true,pl fun _ _ u=>u=(.pointer (some (p_x0.add 4)):Value)⟩,⟨true,pl fun _ _ u=>u=(z8:Value)⟩,⟨true,pl (OwnV (sOwn 22 (sOwn 2 (sInt .i64))) (y23))⟩]) (Z:=[]) hmix rfl (by decide) (by decide +kernel) (fun _ _ _ h=>np_out h) (by decide) rfl (by decide +kernel) (stable_all <| stable_cons stable_val (stable_cons stable_val (stable_cons stable_val (stable_cons stable_val (stable_cons stable_val (stable_cons stable_val (stable_cons stable_val (stable_cons stable_val (stable_cons stable_own (stable_cons stable_val (stable_cons stable_val (stable_cons stable_val (stable_cons stable_val (stable_cons stable_own (stable_cons stable_val (stable_cons stable_val (stable_cons stable_val (stable_cons stable_val (stable_cons stable_own (stable_cons stable_val (stable_cons stable_val (stable_cons stable_val (stable_cons stable_val (stable_cons stable_own ( stable_nil))))))))))))))))))))))))) ?_ ?_
 refine owes_cons ?_ ( owes_cons ?_ ( owes_cons ?_ ( owes_cons ?_ ( owes_cons ?_ ( owes_cons ?_ ( owes_cons ?_ ( owes_cons ?_ ( owes_cons ?_ ( owes_cons ?_ ( owes_cons ?_ ( owes_cons ?_ ( owes_cons ?_ ( owes_cons ?_ ( owes_cons ?_ ( owes_cons ?_ ( owes_cons ?_ ( owes_cons ?_ ( owes_cons ?_ ( owes_cons ?_ ( owes_cons ?_ ( owes_cons ?_ ( owes_cons ?_ ( owes_cons ?_ ( owes_nil))))))))))))))))))))))))
 refine Owes.val rfl rfl rfl ?_
 intro g r wr hCr H hot
 have hC:=(cr [] wd2).trans hCr
 obtain ⟨F,rfl⟩:=fr (r:=r) (l:=[(0,.pointer (some (p_x0)))]) ⟨(hot 0 (by decide)),trivial⟩
 exact om _
 refine Owes.val rfl rfl rfl ?_
 intro g r wr hCr H hot
 have hC:=(cr [] wd2).trans hCr
 obtain ⟨F,rfl⟩:=fr (r:=r) (l:=[(3,.pointer (some (p_x0)))]) ⟨(H 0 (by decide +kernel) 3 rfl),trivial⟩
 exact op_nilCheck rfl
 refine Owes.val rfl rfl rfl ?_
 intro g r wr hCr H hot
 have hC:=(cr [] wd2).trans hCr
 obtain ⟨F,rfl⟩:=fr (r:=r) (l:=[(4,.pointer (some (p_x0)))]) ⟨(H 1 (by decide +kernel) 4 rfl),trivial⟩
 exact op_fieldAddr0 u27z rfl info2 ne2 rfl rfl
 refine Owes.val rfl rfl rfl ?_
 intro g r wr hCr H hot
 have hC:=(cr [] wd2).trans hCr
 obtain ⟨F,rfl⟩:=fr (r:=r) (l:=[(5,.pointer (some (p_x0)))]) ⟨(H 2 (by decide +kernel) 5 rfl),trivial⟩
 exact oldz u2z rfl rfl ((At.keep0 a_x0 (hB.trans hC)).cell0 rfl)
 refine Owes.val rfl rfl rfl ?_
 intro g r wr hCr H hot
 have hC:=(cr [] wd2).trans hCr
 obtain ⟨F,rfl⟩:=fr (r:=r) (l:=[(0,.pointer (some (p_x0)))]) ⟨(hot 0 (by decide)),trivial⟩
 exact om _
 refine Owes.val rfl rfl rfl ?_
 intro g r wr hCr H hot
 have hC:=(cr [] wd2).trans hCr
 obtain ⟨F,rfl⟩:=fr (r:=r) (l:=[(7,.pointer (some (p_x0)))]) ⟨(H 4 (by decide +kernel) 7 rfl),trivial⟩
 exact op_nilCheck rfl
 refine Owes.val rfl rfl rfl ?_
 intro g r wr hCr H hot
 have hC:=(cr [] wd2).trans hCr
 obtain ⟨F,rfl⟩:=fr (r:=r) (l:=[(8,.pointer (some (p_x0)))]) ⟨(H 5 (by decide +kernel) 8 rfl),trivial⟩
 exact op_fieldAddrP u27z rfl info22 ne22 rfl rfl
 refine Owes.val rfl rfl rfl ?_
 intro g r wr hCr H hot
 have hC:=(cr [] wd2).trans hCr
 obtain ⟨F,rfl⟩:=fr (r:=r) (l:=[(9,.pointer (some (p_x0.add 1)))]) ⟨(H 6 (by decide +kernel) 9 rfl),trivial⟩
 exact oldz u22z rfl rfl ((At.keep0 a_x0 (hB.trans hC)).cell (j:=1) rfl)
 refine Owes.mem rfl rfl rfl ?_
 intro g r wr hCr H hot
 have hC:=(cr [] wd2).trans hCr
 obtain ⟨F,rfl⟩:=fr (r:=r) (l:=[(10,z6)]) ⟨(H 7 (by decide +kernel) 10 rfl),trivial⟩
 exact OpW.own (op_callF Tryz.func147 rfl rfl) (impl_clone_calls (kp _ za (hB.trans hC)) hy9)
 refine Owes.val rfl rfl rfl ?_
 intro g r wr hCr H hot
 have hC:=(cr [] wd2).trans hCr
 obtain ⟨F,rfl⟩:=fr (r:=r) (l:=[(0,.pointer (some (p_x0)))]) ⟨(hot 0 (by decide)),trivial⟩
 exact om _
 refine Owes.val rfl rfl rfl ?_
 intro g r wr hCr H hot
 have hC:=(cr [] wd2).trans hCr
 obtain ⟨F,rfl⟩:=fr (r:=r) (l:=[(12,.pointer (some (p_x0)))]) ⟨(H 9 (by decide +kernel) 12 rfl),trivial⟩
 exact op_nilCheck rfl
 refine Owes.val rfl rfl rfl ?_
 intro g r wr hCr H hot
 have hC:=(cr [] wd2).trans hCr
 obtain ⟨F,rfl⟩:=fr (r:=r) (l:=[(13,.pointer (some (p_x0)))]) ⟨(H 10 (by decide +kernel) 13 rfl),trivial⟩
 exact op_fieldAddrP u27z rfl info22 ne22 rfl rfl
 refine Owes.val rfl rfl rfl ?_
 intro g r wr hCr H hot
 have hC:=(cr [] wd2).trans hCr
 obtain ⟨F,rfl⟩:=fr (r:=r) (l:=[(14,.pointer (some (p_x0.add 2)))]) ⟨(H 11 (by decide +kernel) 14 rfl),trivial⟩
 exact oldz u22z rfl rfl ((At.keep0 a_x0 (hB.trans hC)).cell (j:=2) rfl)
 refine Owes.mem rfl rfl rfl ?_
 intro g r wr hCr H hot
 have hC:=(cr [] wd2).trans hCr
 obtain ⟨F,rfl⟩:=fr (r:=r) (l:=[(15,z7)]) ⟨(H 12 (by decide +kernel) 15 rfl),trivial⟩
 exact OpW.own (op_callF Tryz.func147 rfl rfl) (impl_clone_calls (kp _ zb (hB.trans hC)) hy14)
 refine Owes.val rfl rfl rfl ?_
 intro g r wr hCr H hot
 have hC:=(cr [] wd2).trans hCr
 obtain ⟨F,rfl⟩:=fr (r:=r) (l:=[(0,.pointer (some (p_x0)))]) ⟨(hot 0 (by decide)),trivial⟩
 exact om _
 refine Owes.val rfl rfl rfl ?_
 intro g r wr hCr H hot
 have hC:=(cr [] wd2).trans hCr
 obtain ⟨F,rfl⟩:=fr (r:=r) (l:=[(17,.pointer (some (p_x0)))]) ⟨(H 14 (by decide +kernel) 17 rfl),trivial⟩
 exact op_nilCheck rfl
 refine Owes.val rfl rfl rfl ?_
 intro g r wr hCr H hot
 have hC:=(cr [] wd2).trans hCr
 obtain ⟨F,rfl⟩:=fr (r:=r) (l:=[(18,.pointer (some (p_x0)))]) ⟨(H 15 (by decide +kernel) 18 rfl),trivial⟩
 exact op_fieldAddrP u27z rfl info22 ne22 rfl rfl
 refine Owes.val rfl rfl rfl ?_
 intro g r wr hCr H hot
 have hC:=(cr [] wd2).trans hCr
 obtain ⟨F,rfl⟩:=fr (r:=r) (l:=[(19,.pointer (some (p_x0.add 3)))]) ⟨(H 16 (by decide +kernel) 19 rfl),trivial⟩
 exact oldz u22z rfl rfl ((At.keep0 a_x0 (hB.trans hC)).cell (j:=3) rfl)
 refine Owes.mem rfl rfl rfl ?_
 intro g r wr hCr H hot
 have hC:=(cr [] wd2).trans hCr
 obtain ⟨F,rfl⟩:=fr (r:=r) (l:=[(20,z9)]) ⟨(H 17 (by decide +kernel) 20 rfl),trivial⟩
 exact OpW.own (op_callF Tryz.func147 rfl rfl) (impl_clone_calls (kp _ zd (hB.trans hC)) hy19)
 refine Owes.val rfl rfl rfl ?_
 intro g r wr hCr H hot
 have hC:=(cr [] wd2).trans hCr
 obtain ⟨F,rfl⟩:=fr (r:=r) (l:=[(0,.pointer (some (p_x0)))]) ⟨(hot 0 (by decide)),trivial⟩
 exact om _
 refine Owes.val rfl rfl rfl ?_
 intro g r wr hCr H hot
 have hC:=(cr [] wd2).trans hCr
 obtain ⟨F,rfl⟩:=fr (r:=r) (l:=[(22,.pointer (some (p_x0)))]) ⟨(H 19 (by decide +kernel) 22 rfl),trivial⟩
 exact op_nilCheck rfl
 refine Owes.val rfl rfl rfl ?_
 intro g r wr hCr H hot
 have hC:=(cr [] wd2).trans hCr
 obtain ⟨F,rfl⟩:=fr (r:=r) (l:=[(23,.pointer (some (p_x0)))]) ⟨(H 20 (by decide +kernel) 23 rfl),trivial⟩
 exact op_fieldAddrP u27z rfl info23 ne23 rfl rfl
 refine Owes.val rfl rfl rfl ?_
 intro g r wr hCr H hot
 have hC:=(cr [] wd2).trans hCr
 obtain ⟨F,rfl⟩:=fr (r:=r) (l:=[(24,.pointer (some (p_x0.add 4)))]) ⟨(H 21 (by decide +kernel) 24 rfl),trivial⟩
 exact oldz u23z rfl rfl ((At.keep0 a_x0 (hB.trans hC)).cell (j:=4) rfl)
 refine Owes.mem rfl rfl rfl ?_
 intro g r wr hCr H hot
 have hC:=(cr [] wd2).trans hCr
 obtain ⟨F,rfl⟩:=fr (r:=r) (l:=[(25,z8)]) ⟨(H 22 (by decide +kernel) 25 rfl),trivial⟩
 exact OpW.own (op_callF Tryz.func156 rfl rfl) (impl_clones_calls (kp _ zc (hB.trans hC)) hy24)
 rintro g r wd28 ⟨hC29,hdone,hot,hfresh,hdis⟩
 have o12:OwnV (sOwn 2 (sInt .i64)) (y8) _ _ _:=hdone 8 (by decide) (by decide) 11 rfl
 generalize hvv10:r 11=v10 at o12
 have hfo12:=hfresh 8 (by decide)
 have o17:OwnV (sOwn 2 (sInt .i64)) (y13) _ _ _:=hdone 13 (by decide) (by decide) 16 rfl
 generalize hvv15:r 16=v15 at o17
 have hfo17:=hfresh 13 (by decide)
 have o22:OwnV (sOwn 2 (sInt .i64)) (y18) _ _ _:=hdone 18 (by decide) (by decide) 21 rfl
 generalize hvv20:r 21=v20 at o22
 have hfo22:=hfresh 18 (by decide)
 have o27:OwnV (sOwn 22 (sOwn 2 (sInt .i64))) (y23) _ _ _:=hdone 23 (by decide) (by decide) 26 rfl
 generalize hvv25:r 26=v25 at o27
 have hfo27:=hfresh 23 (by decide)
 have hdd:=hdis
 obtain ⟨F,rfl⟩:=fr (r:=r) (l:=[(2,.pointer (some (⟨b1,0,none⟩))),(6,.int .i64 (x0.Objects)),(11,v10),(16,v15),(21,v20),(26,v25)]) ⟨(hot 2 (by decide)),(hdone 3 (by decide) (by decide) 6 rfl),hvv10,hvv15,hvv20,hvv25,trivial⟩
 obtain ⟨f11,hgf11⟩ : ∃ k,k=g 8:=⟨_,rfl⟩
 rw [← hgf11] at o12 hfo12
 replace o12:OE [] w.heap.size wd28 (sOwn 2 (sInt .i64)) [v10] (y8) f11:=⟨o12.1,o12.2,fun b hb=>.inr (Nat.le_trans (hB.trans (cr [] wd2)).size (hfo12 b hb).1)⟩
 have d30:Dis f11 [b1]:=dl (fun b hb=>(hfo12 b hb).1) (one_lt (Row.lt (kr hr4 (cr [] wd2))))
 obtain ⟨f16,hgf16⟩ : ∃ k,k=g 13:=⟨_,rfl⟩
 rw [← hgf16] at o17 hfo17
 replace o17:OE [] w.heap.size wd28 (sOwn 2 (sInt .i64)) [v15] (y13) f16:=⟨o17.1,o17.2,fun b hb=>.inr (Nat.le_trans (hB.trans (cr [] wd2)).size (hfo17 b hb).1)⟩
 have d31:Dis f16 [b1]:=dl (fun b hb=>(hfo17 b hb).1) (one_lt (Row.lt (kr hr4 (cr [] wd2))))
 have d32:Dis f16 f11:=fun b hb hm=>hdd 13 8 (by decide) (by decide) (by decide) b ((show ∀ b∈f16,b∈g 13 from (fun b hb=>(by rw [← hgf16]; exact hb))) b hb) ((show ∀ b∈f11,b∈g 8 from (fun b hb=>(by rw [← hgf11]; exact hb))) b hm)
 obtain ⟨f21,hgf21⟩ : ∃ k,k=g 18:=⟨_,rfl⟩
 rw [← hgf21] at o22 hfo22
 replace o22:OE [] w.heap.size wd28 (sOwn 2 (sInt .i64)) [v20] (y18) f21:=⟨o22.1,o22.2,fun b hb=>.inr (Nat.le_trans (hB.trans (cr [] wd2)).size (hfo22 b hb).1)⟩
 have d33:Dis f21 [b1]:=dl (fun b hb=>(hfo22 b hb).1) (one_lt (Row.lt (kr hr4 (cr [] wd2))))
 have d34:Dis f21 f11:=fun b hb hm=>hdd 18 8 (by decide) (by decide) (by decide) b ((show ∀ b∈f21,b∈g 18 from (fun b hb=>(by rw [← hgf21]; exact hb))) b hb) ((show ∀ b∈f11,b∈g 8 from (fun b hb=>(by rw [← hgf11]; exact hb))) b hm)
 have d35:Dis f21 f16:=fun b hb hm=>hdd 18 13 (by decide) (by decide) (by decide) b ((show ∀ b∈f21,b∈g 18 from (fun b hb=>(by rw [← hgf21]; exact hb))) b hb) ((show ∀ b∈f16,b∈g 13 from (fun b hb=>(by rw [← hgf16]; exact hb))) b hm)
 obtain ⟨f26,hgf26⟩ : ∃ k,k=g 23:=⟨_,rfl⟩
 rw [← hgf26] at o27 hfo27
 replace o27:OE [] w.heap.size wd28 (sOwn 22 (sOwn 2 (sInt .i64))) [v25] (y23) f26:=⟨o27.1,o27.2,fun b hb=>.inr (Nat.le_trans (hB.trans (cr [] wd2)).size (hfo27 b hb).1)⟩
 have d36:Dis f26 [b1]:=dl (fun b hb=>(hfo27 b hb).1) (one_lt (Row.lt (kr hr4 (cr [] wd2))))
 have d37:Dis f26 f11:=fun b hb hm=>hdd 23 8 (by decide) (by decide) (by decide) b ((show ∀ b∈f26,b∈g 23 from (fun b hb=>(by rw [← hgf26]; exact hb))) b hb) ((show ∀ b∈f11,b∈g 8 from (fun b hb=>(by rw [← hgf11]; exact hb))) b hm)
 have d38:Dis f26 f16:=fun b hb hm=>hdd 23 13 (by decide) (by decide) (by decide) b ((show ∀ b∈f26,b∈g 23 from (fun b hb=>(by rw [← hgf26]; exact hb))) b hb) ((show ∀ b∈f16,b∈g 13 from (fun b hb=>(by rw [← hgf16]; exact hb))) b hm)
 have d39:Dis f26 f21:=fun b hb hm=>hdd 23 18 (by decide) (by decide) (by decide) b ((show ∀ b∈f26,b∈g 23 from (fun b hb=>(by rw [← hgf26]; exact hb))) b hb) ((show ∀ b∈f21,b∈g 18 from (fun b hb=>(by rw [← hgf21]; exact hb))) b hm)
 have hT40:=((cr [] wd2).trans hC29)
 replace hr4:=kr hr4 hT40
 replace hB:=(hB.trans hT40)
 refine wv (v:=.agg #[.int .i64 (x0.Objects),v10,v15,v20,v25]) rfl (op_build (bld27_0_1_2_3_4 rfl (STy.one _ o12.1 _ (ms rfl)) (STy.one _ o17.1 _ (ms rfl)) (STy.one _ o22.1 _ (ms rfl)) (STy.one _ o27.1 _ (ms rfl)))) ?_
 refine WL.storeAll (us:=[.int .i64 (x0.Objects),v10,v15,v20,v25]) info27 (by rw [sz27]; rfl) (kr hr4 (cr [] wd28)) rfl rfl rfl (by intro u hu; simp only [List.mem_cons,List.mem_nil_iff,or_false] at hu; rcases hu with rfl | rfl | rfl | rfl | rfl <;> first | exact rfl | exact (STy.one _ o12.1 _ (ms rfl)) | exact (STy.one _ o17.1 _ (ms rfl)) | exact (STy.one _ o22.1 _ (ms rfl)) | exact (STy.one _ o27.1 _ (ms rfl))) fun wd41 hC42 hr43=>?_
 replace hr43:Row wd41 b1 [.int .i64 (x0.Objects),v10,v15,v20,v25] 27:=hr43
 have hT44:=((cr [] wd28).nil (G:=[b1])).trans hC42
 replace o12:=okp o12 hT44 d30
 replace o17:=okp o17 hT44 d31
 replace o22:=okp o22 hT44 d33
 replace o27:=okp o27 hT44 d36
 replace hB:=hB.then hT44 (one_then lo6)
 refine anz ?_
 cases ho
 exact W_ret ⟨_,res_c Tryz.results146 u27z rfl info27 (by rw [sz27]; rfl) rfl (kr hr43 (cr [] wd41)).at,_,_,_,_,_,_,_,_,rfl,(hB.trans (cr [] wd41)),(ko o12 (cr [] wd41)),(ko o17 (cr [] wd41)),(ko o22 (cr [] wd41)),(ko o27 (cr [] wd41)),((d32).symm),((d34).symm),((d37).symm),((d35).symm),((d38).symm),((d39).symm)⟩

noncomputable def impl_Category_outOf_L0 (x0:MCategory) (x1:Int) (s0_5:(List Int)) (s0_14:Int):Option (Out ((List Int)×Int) ((List Int))):=
 (bif decide (s0_14 < (x0.From.length:Int)) then ((idx x0.From (s0_14))>>=fun e18=>(bif (e18) == (x1) then ((fits 8 (s0_5.length + 1))>>=fun n39=>(some (Out.norm (s0_5++[s0_14],w64 (s0_14 + (1:Int)))))) else (some (Out.norm (s0_5,w64 (s0_14 + (1:Int))))))) else (some (Out.exit 0 (s0_5,s0_14))))
noncomputable def impl_Category_outOf (x0:MCategory) (x1:Int):Option ((List Int)):=
 retM (S:=Unit) (lbind (blockM 0 (loopM (fun s=>impl_Category_outOf_L0 x0 x1 s.1 s.2) (([]:(List Int)),(0:Int)))) (fun (s0_5,s0_14)=>(some (Out.ret (s0_5)))))
abbrev impl_Category_outOf_post (w:World) (x:((List Int))) (e:Ending) (w':World):Prop:=∃ (v0:Value) (f0:List Nat),e = .returned (v0)∧Chg [] w w'∧OE [] w.heap.size w' (sOwn 2 (sInt .i64)) [v0] x f0
abbrev impl_Category_outOf_T (w:World) (x:((List Int))) (r:Nat→Value) (w':World):Prop:=∃ v,(∀ a:Act,a.tmps.size=28→rho a=r→(results Tryz.f75 a.tmps).run Tryz.prog w' = .ok v w')∧impl_Category_outOf_post w x (.returned v) w'
theorem impl_Category_outOf_calls {w:World} {x0:MCategory} {p_x0:Addr} {z6:Value} {zh:List Nat} {z7:Value} {zg:List Nat} {z9:Value} {zf:List Nat} {z8:Value} {ze:List Nat} {x1:Int} (za:(sImm (sInt .i64)).rep w.heap [z6] x0.From zh) (zb:(sImm (sInt .i64)).rep w.heap [z7] x0.To zg) (zd:(sImm (sInt .i64)).rep w.heap [z9] x0.Identity zf) (zc:(sImm (sImm (sInt .i64))).rep w.heap [z8] x0.Composites ze) (a_x0:At w p_x0 [.int .i64 (x0.Objects),z6,z7,z9,z8]) {y:((List Int))} (hm:impl_Category_outOf x0 x1=some y) :
  Calls Tryz.prog 75 #[.pointer (some (p_x0)),.int .i64 (x1)] w (impl_Category_outOf_post w y):=by
 refine calls_of_M (S:=Unit) (args:=[.pointer (some (p_x0)),.int .i64 (x1)]) Tryz.func75 rfl Tryz.ntmps75 (Nat.le_of_ble_eq_true rfl) (retM_some hm) ?_
 clear hm
 intro o ho
 have hB:Chg [] w w:=cr _ _
 refine wq ?_
 refine Wq rfl (cr [] w) ?_
 refine qv (v:=.slice none 0 0) rfl (fun _ _=>oa _) ?_
 intro wd1 hC2
 refine anz ?_
 refine wq ?_
 refine W_region rfl ?_
 refine WL.lit0 (sInt .i64) u22z info2 fun v3 wd4 f5 hC6 o7=>?_
 replace o7:=OE.low (G:=[]) o7 (hB.trans hC2).size
 have hT8:=hC2.trans hC6
 replace hB:=(hB.trans hT8)
 refine wv (v:=v3) rfl (oa _) ?_
 refine anz ?_
 refine wq ?_
 refine wq ?_
 refine Wq rfl (cr [] wd4) ?_
 refine qv (v:=.pointer (some (p_x0))) rfl (fun _ _=>om _) ?_
 refine qv (v:=.pointer (some (p_x0))) rfl (fun _ _=>op_nilCheck rfl) ?_
 refine qv (v:=.pointer (some (p_x0.add 1))) rfl (fun _ _=>op_fieldAddrP u27z rfl info22 ne22 rfl rfl) ?_
 refine qv (v:=z6) rfl (fun _ hC=>oldz u22z rfl rfl ((At.keep0 a_x0 (hB.trans hC)).cell (j:=1) rfl)) ?_
 refine qv (v:=.int .i64 ((x0.From.length:Int))) rfl (fun _ hC=>op_lenI u22z (kp _ za (hB.trans hC))) ?_
 refine qv (v:=.int .i64 ((0:Int))) rfl (fun _ _=>om _) ?_
 intro wd9 hC10
 refine anz ?_
 refine W_for (S1:=(List Int)×Int) (fun s r w'=>match s with | (s0_5,s0_14)=>∃ (v11:Value) (f12:List Nat),Chg [] w w'∧OE [] w.heap.size w' (sOwn 2 (sInt .i64)) [v11] (s0_5) f12∧∃ F,r=updL F [(1,.int .i64 (x1)),(5,v11),(12,z6),(13,.int .i64 ((x0.From.length:Int))),(14,.int .i64 (s0_14))]) (T:=impl_Category_outOf_T w) ho ⟨_,_,(hB.trans hC10),(ko o7 hC10),fr ⟨rfl,rfl,rfl,rfl,rfl,trivial⟩⟩ ?_ ?_ ?_
 intro x r w' ho hx; subst ho; exact hx
 rintro ⟨s0_5,s0_14⟩ _ wd14 ⟨v11,f12,hB,o13,F,rfl⟩ o ho
 replace ho:impl_Category_outOf_L0 x0 x1 s0_5 s0_14=some o:=ho
 unfold impl_Category_outOf_L0 at ho
 refine wq ?_
 refine Wq rfl (cr [] wd14) ?_
 refine qv (v:=.bool (decide (s0_14 < (x0.From.length:Int)))) rfl (fun _ _=>op_bin rfl rfl bin_lss) ?_
 intro wd15 hC16
 refine anz ?_
 refine wq ?_
 refine W_cond (b:=decide (s0_14 < (x0.From.length:Int))) rfl ?_ ?_
 intro hb17
 rw [hb17] at ho
 refine W_skip ?_
 refine anz ?_
 refine wq ?_
 refine W_block ?_
 refine wq ?_
 refine Wq rfl hC16 ?_
 refine qv (v:=.int .i64 (s0_14)) rfl (fun _ _=>om _) ?_
 obtain ⟨e18,hx19e,ho⟩:=bs ho
 have hx19:=idx_some hx19e
 refine qv (v:=.pointer (some (elA (z6) 1 (s0_14)))) rfl (fun _ hC=>op_indexI u22z info2 sz2 rfl (kp _ za (hB.trans hC)) rfl hx19.1 hx19.2) ?_
 refine qv (v:=.int .i64 (e18)) rfl (fun _ hC=>oldz u2z rfl rfl (int_get (kp _ za (hB.trans hC)) hx19.1 hx19.2)) ?_
 refine qv (v:=.int .i64 (s0_14)) rfl (fun _ _=>oa _) ?_
 refine qv (v:=.int .i64 (e18)) rfl (fun _ _=>oa _) ?_
 intro wd20 hC21
 refine anz ?_
 refine wq ?_
 refine Wq rfl hC21 ?_
 refine qv (v:=.int .i64 (e18)) rfl (fun _ _=>om _) ?_
 refine qv (v:=.int .i64 (x1)) rfl (fun _ _=>om _) ?_
 refine qv (v:=.bool ((e18) == (x1))) rfl (fun _ _=>op_bin rfl rfl bin_eql) ?_
 intro wd22 hC23
 refine anz ?_
 refine W_cond (b:=(e18) == (x1)) rfl ?_ ?_
 intro hb24
 rw [hb24] at ho
 refine W_region rfl ?_
 refine wv (v:=v11) rfl (om _) ?_
 refine wv (v:=.int .i64 (s0_14)) rfl (om _) ?_
 refine WL.lit1 u22z info2 zr2 sz2 rfl fun b25 wd26 hC27 hr28 hl29=>?_
 replace hr28:Row wd26 b25 [.int .i64 (s0_14)] 2:=hr28
 have d31:Dis [b25] f12:=dl (onw hl29) (sl _ (kp _ o13.1 hC23))
 have hT32:=hC23.trans hC27
 replace o13:=ko o13 hT32
 replace hB:=(hB.trans hT32)
 obtain ⟨n39,hn40,ho⟩:=bs ho
 have hn40a:=fits_some hn40
 refine WL.append1 (E:=(sInt .i64)) _ _ u22z info2 zr2 sz2 rfl rfl rfl (ko o13 (cr [] wd26)) rfl (kr hr28 (cr [] wd26)) ⟨rfl,rfl⟩ List.nodup_nil (fun _ h=>nomatch h) (fun _ h=>nomatch h) (by rw [by2]; exact hn40a.1) hn40a.2 (hB.trans (cr [] wd26)).size fun v33 wd34 f35 hC36 o37 hs38=>?_
 have hT42:=((cr [] wd26).nil (G:=f12)).trans hC36
 replace hr28:=Row.keep hr28 hT42 (d31 _ (ms rfl))
 replace hB:=hB.then hT42 o13.2.2
 refine wv (v:=v33) rfl (oa _) ?_
 refine inBlk_n ?_
 refine anz ?_
 refine Wq rfl (cr [] wd34) ?_
 refine qv (v:=.int .i64 (w64 (s0_14 + (1:Int)))) rfl (fun _ _=>op_bin rfl rfl bin_add) ?_
 refine qv (v:=.int .i64 (w64 (s0_14 + (1:Int)))) rfl (fun _ _=>om _) ?_
 intro wd43 hC44
 cases ho
 exact ⟨_,_,(hB.trans hC44),(ko o37 hC44),fr ⟨rfl,rfl,rfl,rfl,rfl,trivial⟩⟩
 intro hb24
 rw [hb24] at ho
 refine W_skip ?_
 refine inBlk_n ?_
 refine anz ?_
 refine Wq rfl hC23 ?_
 refine qv (v:=.int .i64 (w64 (s0_14 + (1:Int)))) rfl (fun _ _=>op_bin rfl rfl bin_add) ?_
 refine qv (v:=.int .i64 (w64 (s0_14 + (1:Int)))) rfl (fun _ _=>om _) ?_
 intro wd45 hC46
 cases ho
 exact ⟨_,_,(hB.trans hC46),(ko o13 hC46),fr ⟨rfl,rfl,rfl,rfl,rfl,trivial⟩⟩
 intro hb17
 rw [hb17] at ho
 refine W_exit ?_
 refine andThen_x ?_
 cases ho
 exact ⟨rfl,⟨_,_,(hB.trans hC16),(ko o13 hC16),fr ⟨rfl,rfl,rfl,rfl,rfl,trivial⟩⟩⟩
 rintro ⟨s0_5,s0_14⟩ _ wd47 ⟨v11,f12,hB,o13,F,rfl⟩ ho
 dsimp only at ho
 refine anz ?_
 refine wq ?_
 refine Wq rfl (cr [] wd47) ?_
 refine qv (v:=v11) rfl (fun _ _=>om _) ?_
 refine qv (v:=v11) rfl (fun _ _=>oa _) ?_
 intro wd48 hC49
 refine anz ?_
 cases ho
 exact W_ret ⟨_,res_1 Tryz.results75,_,_,rfl,(hB.trans hC49),(ko o13 hC49)⟩

noncomputable def impl_marked_L0 (x0:(List Bool)) (s0_3:(List Int)) (s0_9:Int):Option (Out ((List Int)×Int) ((List Int))):=
 (bif decide (s0_9 < (x0.length:Int)) then ((idx x0 (s0_9))>>=fun e18=>(bif e18 then ((fits 8 (s0_3.length + 1))>>=fun n39=>(some (Out.norm (s0_3++[s0_9],w64 (s0_9 + (1:Int)))))) else (some (Out.norm (s0_3,w64 (s0_9 + (1:Int))))))) else (some (Out.exit 0 (s0_3,s0_9))))
noncomputable def impl_marked (x0:(List Bool)):Option ((List Int)):=
 retM (S:=Unit) (lbind (blockM 0 (loopM (fun s=>impl_marked_L0 x0 s.1 s.2) (([]:(List Int)),(0:Int)))) (fun (s0_3,s0_9)=>(some (Out.ret (s0_3)))))
abbrev impl_marked_post (w:World) (x:((List Int))) (e:Ending) (w':World):Prop:=∃ (v0:Value) (f0:List Nat),e = .returned (v0)∧Chg [] w w'∧OE [] w.heap.size w' (sOwn 2 (sInt .i64)) [v0] x f0
abbrev impl_marked_T (w:World) (x:((List Int))) (r:Nat→Value) (w':World):Prop:=∃ v,(∀ a:Act,a.tmps.size=21→rho a=r→(results Tryz.f203 a.tmps).run Tryz.prog w' = .ok v w')∧impl_marked_post w x (.returned v) w'
theorem impl_marked_calls {w:World} {x0:(List Bool)} {v_x0:Value} {f_x0:List Nat} (h_x0:(sImm sBool).rep w.heap [v_x0] x0 f_x0) {y:((List Int))} (hm:impl_marked x0=some y) :
  Calls Tryz.prog 203 #[v_x0] w (impl_marked_post w y):=by
 refine calls_of_M (S:=Unit) (args:=[v_x0]) Tryz.func203 rfl Tryz.ntmps203 (Nat.le_of_ble_eq_true rfl) (retM_some hm) ?_
 clear hm
 intro o ho
 have hB:Chg [] w w:=cr _ _
 refine wq ?_
 refine Wq rfl (cr [] w) ?_
 refine qv (v:=.slice none 0 0) rfl (fun _ _=>oa _) ?_
 intro wd1 hC2
 refine anz ?_
 refine wq ?_
 refine W_region rfl ?_
 refine WL.lit0 (sInt .i64) u22z info2 fun v3 wd4 f5 hC6 o7=>?_
 replace o7:=OE.low (G:=[]) o7 (hB.trans hC2).size
 have hT8:=hC2.trans hC6
 replace hB:=(hB.trans hT8)
 refine wv (v:=v3) rfl (oa _) ?_
 refine anz ?_
 refine wq ?_
 refine wq ?_
 refine Wq rfl (cr [] wd4) ?_
 refine qv (v:=v_x0) rfl (fun _ _=>om _) ?_
 refine qv (v:=.int .i64 ((x0.length:Int))) rfl (fun _ hC=>op_lenI u82 (kp _ h_x0 (hB.trans hC))) ?_
 refine qv (v:=.int .i64 ((0:Int))) rfl (fun _ _=>om _) ?_
 intro wd9 hC10
 refine anz ?_
 refine W_for (S1:=(List Int)×Int) (fun s r w'=>match s with | (s0_3,s0_9)=>∃ (v11:Value) (f12:List Nat),Chg [] w w'∧OE [] w.heap.size w' (sOwn 2 (sInt .i64)) [v11] (s0_3) f12∧∃ F,r=updL F [(3,v11),(7,v_x0),(8,.int .i64 ((x0.length:Int))),(9,.int .i64 (s0_9))]) (T:=impl_marked_T w) ho ⟨_,_,(hB.trans hC10),(ko o7 hC10),fr ⟨rfl,rfl,rfl,rfl,trivial⟩⟩ ?_ ?_ ?_
 intro x r w' ho hx; subst ho; exact hx
 rintro ⟨s0_3,s0_9⟩ _ wd14 ⟨v11,f12,hB,o13,F,rfl⟩ o ho
 replace ho:impl_marked_L0 x0 s0_3 s0_9=some o:=ho
 unfold impl_marked_L0 at ho
 refine wq ?_
 refine Wq rfl (cr [] wd14) ?_
 refine qv (v:=.bool (decide (s0_9 < (x0.length:Int)))) rfl (fun _ _=>op_bin rfl rfl bin_lss) ?_
 intro wd15 hC16
 refine anz ?_
 refine wq ?_
 refine W_cond (b:=decide (s0_9 < (x0.length:Int))) rfl ?_ ?_
 intro hb17
 rw [hb17] at ho
 refine W_skip ?_
 refine anz ?_
 refine wq ?_
 refine W_block ?_
 refine wq ?_
 refine Wq rfl hC16 ?_
 refine qv (v:=.int .i64 (s0_9)) rfl (fun _ _=>om _) ?_
 obtain ⟨e18,hx19e,ho⟩:=bs ho
 have hx19:=idx_some hx19e
 refine qv (v:=.pointer (some (elA (v_x0) 1 (s0_9)))) rfl (fun _ hC=>op_indexI u82 info4 sz4 rfl (kp _ h_x0 (hB.trans hC)) rfl hx19.1 hx19.2) ?_
 refine qv (v:=.bool (e18)) rfl (fun _ hC=>oldz Tryz.underlying4 rfl rfl (bool_get (kp _ h_x0 (hB.trans hC)) hx19.1 hx19.2)) ?_
 refine qv (v:=.int .i64 (s0_9)) rfl (fun _ _=>oa _) ?_
 refine qv (v:=.bool (e18)) rfl (fun _ _=>oa _) ?_
 intro wd20 hC21
 refine anz ?_
 refine wq ?_
 refine Wq rfl hC21 ?_
 refine qv (v:=.bool (e18)) rfl (fun _ _=>om _) ?_
 intro wd22 hC23
 refine anz ?_
 refine W_cond (b:=e18) rfl ?_ ?_
 intro hb24
 rw [hb24] at ho
 refine W_region rfl ?_
 refine wv (v:=v11) rfl (om _) ?_
 refine wv (v:=.int .i64 (s0_9)) rfl (om _) ?_
 refine WL.lit1 u22z info2 zr2 sz2 rfl fun b25 wd26 hC27 hr28 hl29=>?_
 replace hr28:Row wd26 b25 [.int .i64 (s0_9)] 2:=hr28
 have d31:Dis [b25] f12:=dl (onw hl29) (sl _ (kp _ o13.1 hC23))
 have hT32:=hC23.trans hC27
 replace o13:=ko o13 hT32
 replace hB:=(hB.trans hT32)
 obtain ⟨n39,hn40,ho⟩:=bs ho
 have hn40a:=fits_some hn40
 refine WL.append1 (E:=(sInt .i64)) _ _ u22z info2 zr2 sz2 rfl rfl rfl (ko o13 (cr [] wd26)) rfl (kr hr28 (cr [] wd26)) ⟨rfl,rfl⟩ List.nodup_nil (fun _ h=>nomatch h) (fun _ h=>nomatch h) (by rw [by2]; exact hn40a.1) hn40a.2 (hB.trans (cr [] wd26)).size fun v33 wd34 f35 hC36 o37 hs38=>?_
 have hT42:=((cr [] wd26).nil (G:=f12)).trans hC36
 replace hr28:=Row.keep hr28 hT42 (d31 _ (ms rfl))
 replace hB:=hB.then hT42 o13.2.2
 refine wv (v:=v33) rfl (oa _) ?_
 refine inBlk_n ?_
 refine anz ?_
 refine Wq rfl (cr [] wd34) ?_
 refine qv (v:=.int .i64 (w64 (s0_9 + (1:Int)))) rfl (fun _ _=>op_bin rfl rfl bin_add) ?_
 refine qv (v:=.int .i64 (w64 (s0_9 + (1:Int)))) rfl (fun _ _=>om _) ?_
 intro wd43 hC44
 cases ho
 exact ⟨_,_,(hB.trans hC44),(ko o37 hC44),fr ⟨rfl,rfl,rfl,rfl,trivial⟩⟩
 intro hb24
 rw [hb24] at ho
 refine W_skip ?_
 refine inBlk_n ?_
 refine anz ?_
 refine Wq rfl hC23 ?_
 refine qv (v:=.int .i64 (w64 (s0_9 + (1:Int)))) rfl (fun _ _=>op_bin rfl rfl bin_add) ?_
 refine qv (v:=.int .i64 (w64 (s0_9 + (1:Int)))) rfl (fun _ _=>om _) ?_
 intro wd45 hC46
 cases ho
 exact ⟨_,_,(hB.trans hC46),(ko o13 hC46),fr ⟨rfl,rfl,rfl,rfl,trivial⟩⟩
 intro hb17
 rw [hb17] at ho
 refine W_exit ?_
 refine andThen_x ?_
 cases ho
 exact ⟨rfl,⟨_,_,(hB.trans hC16),(ko o13 hC16),fr ⟨rfl,rfl,rfl,rfl,trivial⟩⟩⟩
 rintro ⟨s0_3,s0_9⟩ _ wd47 ⟨v11,f12,hB,o13,F,rfl⟩ ho
 dsimp only at ho
 refine anz ?_
 refine wq ?_
 refine Wq rfl (cr [] wd47) ?_
 refine qv (v:=v11) rfl (fun _ _=>om _) ?_
 refine qv (v:=v11) rfl (fun _ _=>oa _) ?_
 intro wd48 hC49
 refine anz ?_
 cases ho
 exact W_ret ⟨_,res_1 Tryz.results203,_,_,rfl,(hB.trans hC49),(ko o13 hC49)⟩

noncomputable def impl_Category_sieveOf_L1 (x0:MCategory) (e21:Int) (y27:(List Int)) (s1_29:Int) (s1_o13:(List Bool)):Option (Out (Int×(List Bool)) ((List Int))):=
 (bif decide (s1_29 < (y27.length:Int)) then ((idx y27 (s1_29))>>=fun e41=>((impl_Category_then x0 (e21) (e41))>>=fun y45=>((idx s1_o13 (y45))>>=fun e49=>(some (Out.norm (w64 (s1_29 + (1:Int)),s1_o13.set (y45).toNat (true))))))) else (some (Out.exit 2 (s1_29,s1_o13))))
noncomputable def impl_Category_sieveOf_L0 (x0:MCategory) (x1:(List Int)) (s0_15:Int) (s0_o13:(List Bool)):Option (Out (Int×(List Bool)) ((List Int))):=
 (bif decide (s0_15 < (x1.length:Int)) then ((idx x1 (s0_15))>>=fun e21=>((idx x0.To (e21))>>=fun e25=>((impl_Category_outOf x0 (e25))>>=fun y27=>(lbind (blockM 2 (loopM (fun s=>impl_Category_sieveOf_L1 x0 e21 y27 s.1 s.2) ((0:Int),s0_o13))) (fun (s1_29,s1_o13)=>(some (Out.norm (w64 (s0_15 + (1:Int)),s1_o13)))))))) else (some (Out.exit 0 (s0_15,s0_o13))))
noncomputable def impl_Category_sieveOf (x0:MCategory) (x1:(List Int)):Option ((List Int)):=
 retM (S:=Unit) ((impl_Category_arrows x0)>>=fun y3=>((mk 1 (y3))>>=fun n7=>(lbind (blockM 0 (loopM (fun s=>impl_Category_sieveOf_L0 x0 x1 s.1 s.2) ((0:Int),List.replicate n7 false))) (fun (s0_15,s0_o13)=>((impl_marked s0_o13)>>=fun y61=>(some (Out.ret (y61))))))))
abbrev impl_Category_sieveOf_post (w:World) (x:((List Int))) (e:Ending) (w':World):Prop:=∃ (v0:Value) (f0:List Nat),e = .returned (v0)∧Chg [] w w'∧OE [] w.heap.size w' (sOwn 2 (sInt .i64)) [v0] x f0
abbrev impl_Category_sieveOf_T (w:World) (x:((List Int))) (r:Nat→Value) (w':World):Prop:=∃ v,(∀ a:Act,a.tmps.size=43→rho a=r→(results Tryz.f194 a.tmps).run Tryz.prog w' = .ok v w')∧impl_Category_sieveOf_post w x (.returned v) w'
theorem impl_Category_sieveOf_calls {w:World} {x0:MCategory} {p_x0:Addr} {z6:Value} {zh:List Nat} {z7:Value} {zg:List Nat} {z9:Value} {zf:List Nat} {z8:Value} {ze:List Nat} {x1:(List Int)} {v_x1:Value} {f_x1:List Nat} (za:(sImm (sInt .i64)).rep w.heap [z6] x0.From zh) (zb:(sImm (sInt .i64)).rep w.heap [z7] x0.To zg) (zd:(sImm (sInt .i64)).rep w.heap [z9] x0.Identity zf) (zc:(sImm (sImm (sInt .i64))).rep w.heap [z8] x0.Composites ze) (a_x0:At w p_x0 [.int .i64 (x0.Objects),z6,z7,z9,z8]) (h_x1:(sImm (sInt .i64)).rep w.heap [v_x1] x1 f_x1) {y:((List Int))} (hm:impl_Category_sieveOf x0 x1=some y) :
  Calls Tryz.prog 194 #[.pointer (some (p_x0)),v_x1] w (impl_Category_sieveOf_post w y):=by
 refine calls_of_M (S:=Unit) (args:=[.pointer (some (p_x0)),v_x1]) Tryz.func194 rfl Tryz.ntmps194 (Nat.le_of_ble_eq_true rfl) (retM_some hm) ?_
 clear hm
 intro o ho
 have hB:Chg [] w w:=cr _ _
 refine wq ?_
 refine Wq rfl (cr [] w) ?_
 refine qv (v:=.slice none 0 0) rfl (fun _ _=>oa _) ?_
 intro wd1 hC2
 refine anz ?_
 refine wq ?_
 refine W_region rfl ?_
 refine wv (v:=.pointer (some (p_x0))) rfl (om _) ?_
 obtain ⟨y3,hy4,ho⟩:=bs ho
 refine WL.call rfl (op_callF Tryz.func140 rfl rfl) (impl_Category_arrows_calls (kp _ za (hB.trans hC2)) (kp _ zb (hB.trans hC2)) (kp _ zd (hB.trans hC2)) (kp _ zc (hB.trans hC2)) (At.keep0 a_x0 (hB.trans hC2)) hy4) ?_
 rintro _ wd5 ⟨rfl,hC6⟩
 refine ⟨_,rfl,?_⟩
 obtain ⟨n7,hn8,ho⟩:=bs ho
 obtain ⟨hn8a,hn8b,hn8c⟩:=mk_some hn8
 refine WL.make (z0:=false) sBool u82 info4 zr4 sz4 rfl rfl (fun _=>⟨rfl,rfl⟩) (congrArg (Value.int .i64) hn8a) (congrArg (Value.int .i64) hn8a) (by rw [by4]; exact hn8b) hn8c fun v9 wd10 f11 hC12 o13=>?_
 replace o13:=OE.low (G:=[]) o13 (hB.trans (hC2.trans hC6)).size
 have hT14:=(hC2.trans hC6).trans hC12
 replace hB:=(hB.trans hT14)
 refine wv (v:=v9) rfl (oa _) ?_
 refine anz ?_
 refine wq ?_
 refine wq ?_
 refine Wq rfl (cr [] wd10) ?_
 refine qv (v:=v_x1) rfl (fun _ _=>om _) ?_
 refine qv (v:=.int .i64 ((x1.length:Int))) rfl (fun _ hC=>op_lenI u22z (kp _ h_x1 (hB.trans hC))) ?_
 refine qv (v:=.int .i64 ((0:Int))) rfl (fun _ _=>om _) ?_
 intro wd15 hC16
 refine anz ?_
 refine W_for (S1:=Int×(List Bool)) (fun s r w'=>match s with | (s0_15,s0_o13)=>Chg [] w w'∧OE [] w.heap.size w' (sOwn 4 sBool) [v9] (s0_o13) f11∧∃ F,r=updL F [(0,.pointer (some (p_x0))),(5,v9),(13,v_x1),(14,.int .i64 ((x1.length:Int))),(15,.int .i64 (s0_15))]) (T:=impl_Category_sieveOf_T w) ho ⟨(hB.trans hC16),(ko o13 hC16),fr ⟨rfl,rfl,rfl,rfl,rfl,trivial⟩⟩ ?_ ?_ ?_
 intro x r w' ho hx; subst ho; exact hx
 rintro ⟨s0_15,s0_o13⟩ _ wd17 ⟨hB,o13,F,rfl⟩ o ho
 replace ho:impl_Category_sieveOf_L0 x0 x1 s0_15 s0_o13=some o:=ho
 unfold impl_Category_sieveOf_L0 at ho
 refine wq ?_
 refine Wq rfl (cr [] wd17) ?_
 refine qv (v:=.bool (decide (s0_15 < (x1.length:Int)))) rfl (fun _ _=>op_bin rfl rfl bin_lss) ?_
 intro wd18 hC19
 refine anz ?_
 refine wq ?_
 refine W_cond (b:=decide (s0_15 < (x1.length:Int))) rfl ?_ ?_
 intro hb20
 rw [hb20] at ho
 refine W_skip ?_
 refine anz ?_
 refine wq ?_
 refine W_block ?_
 refine wq ?_
 refine Wq rfl hC19 ?_
 obtain ⟨e21,hx22e,ho⟩:=bs ho
 have hx22:=idx_some hx22e
 refine qv (v:=.pointer (some (elA (v_x1) 1 (s0_15)))) rfl (fun _ hC=>op_indexI u22z info2 sz2 rfl (kp _ h_x1 (hB.trans hC)) rfl hx22.1 hx22.2) ?_
 refine qv (v:=.int .i64 (e21)) rfl (fun _ hC=>oldz u2z rfl rfl (int_get (kp _ h_x1 (hB.trans hC)) hx22.1 hx22.2)) ?_
 refine qv (v:=.int .i64 (e21)) rfl (fun _ _=>oa _) ?_
 intro wd23 hC24
 refine anz ?_
 refine wq ?_
 refine W_region rfl ?_
 refine wv (v:=.pointer (some (p_x0))) rfl (om _) ?_
 refine wv (v:=.pointer (some (p_x0))) rfl (om _) ?_
 refine wv (v:=.pointer (some (p_x0))) rfl (op_nilCheck rfl) ?_
 refine wv (v:=.pointer (some (p_x0.add 2))) rfl (op_fieldAddrP u27z rfl info22 ne22 rfl rfl) ?_
 refine wv (v:=z7) rfl (oldz u22z rfl rfl ((At.keep0 a_x0 (hB.trans hC24)).cell (j:=2) rfl)) ?_
 refine wv (v:=.int .i64 (e21)) rfl (om _) ?_
 obtain ⟨e25,hx26e,ho⟩:=bs ho
 have hx26:=idx_some hx26e
 refine wv (v:=.pointer (some (elA (z7) 1 (e21)))) rfl (op_indexI u22z info2 sz2 rfl (kp _ zb (hB.trans hC24)) rfl hx26.1 hx26.2) ?_
 refine wv (v:=.int .i64 (e25)) rfl (oldz u2z rfl rfl (int_get (kp _ zb (hB.trans hC24)) hx26.1 hx26.2)) ?_
 obtain ⟨y27,hy28,ho⟩:=bs ho
 refine WL.call rfl (op_callF Tryz.func75 rfl rfl) (impl_Category_outOf_calls (kp _ za (hB.trans hC24)) (kp _ zb (hB.trans hC24)) (kp _ zd (hB.trans hC24)) (kp _ zc (hB.trans hC24)) (At.keep0 a_x0 (hB.trans hC24)) hy28) ?_
 rintro _ wd29 ⟨v31,f32,rfl,hC30,o33⟩
 refine ⟨_,rfl,?_⟩
 have d34:Dis f32 f11:=dl (ofr o33) (sl _ (kp _ o13.1 hC24))
 replace o33:=OE.low (G:=[]) o33 (hB.trans hC24).size
 have hT35:=hC24.trans hC30
 replace o13:=ko o13 hT35
 replace hB:=(hB.trans hT35)
 refine wv (v:=.int .i64 ((y27.length:Int))) rfl (op_lenI u22z ((Le.own (Le.refl _) 2).le (kp _ o33.1 (cr [] wd29)))) ?_
 refine wv (v:=.int .i64 ((0:Int))) rfl (om _) ?_
 refine anz ?_
 refine W_for (S1:=Int×(List Bool)) (fun s r w'=>match s with | (s1_29,s1_o13)=>Chg [] w w'∧OE [] w.heap.size w' (sOwn 4 sBool) [v9] (s1_o13) f11∧OE [] w.heap.size w' (sOwn 2 (sInt .i64)) [v31] (y27) f32∧Dis f11 f32∧∃ F,r=updL F [(0,.pointer (some (p_x0))),(5,v9),(7,.int .i64 (e21)),(13,v_x1),(14,.int .i64 ((x1.length:Int))),(15,.int .i64 (s0_15)),(27,v31),(28,.int .i64 ((y27.length:Int))),(29,.int .i64 (s1_29))]) (T:=impl_Category_sieveOf_T w) ho ⟨(hB.trans (cr [] wd29)),(ko o13 (cr [] wd29)),(ko o33 (cr [] wd29)),((d34).symm),fr ⟨rfl,rfl,rfl,rfl,rfl,rfl,rfl,rfl,rfl,trivial⟩⟩ ?_ ?_ ?_
 intro x r w' ho hx; subst ho; exact hx
 rintro ⟨s1_29,s1_o13⟩ _ wd37 ⟨hB,o13,o33,d36,F,rfl⟩ o ho
 replace ho:impl_Category_sieveOf_L1 x0 e21 y27 s1_29 s1_o13=some o:=ho
 unfold impl_Category_sieveOf_L1 at ho
 refine wq ?_
 refine Wq rfl (cr [] wd37) ?_
 refine qv (v:=.bool (decide (s1_29 < (y27.length:Int)))) rfl (fun _ _=>op_bin rfl rfl bin_lss) ?_
 intro wd38 hC39
 refine anz ?_
 refine wq ?_
 refine W_cond (b:=decide (s1_29 < (y27.length:Int))) rfl ?_ ?_
 intro hb40
 rw [hb40] at ho
 refine W_skip ?_
 refine anz ?_
 refine wq ?_
 refine W_block ?_
 refine wq ?_
 refine Wq rfl hC39 ?_
 obtain ⟨e41,hx42e,ho⟩:=bs ho
 have hx42:=idx_some hx42e
 refine qv (v:=.pointer (some (elA (v31) 1 (s1_29)))) rfl (fun _ hC=>op_indexI u22z info2 sz2 rfl ((Le.own (Le.refl _) 2).le (kp _ o33.1 hC)) rfl hx42.1 hx42.2) ?_
 refine qv (v:=.int .i64 (e41)) rfl (fun _ hC=>oldz u2z rfl rfl (int_get ((Le.own (Le.refl _) 2).le (kp _ o33.1 hC)) hx42.1 hx42.2)) ?_
 refine qv (v:=.int .i64 (e41)) rfl (fun _ _=>oa _) ?_
 intro wd43 hC44
 refine anz ?_
 refine W_region rfl ?_
 refine wv (v:=v9) rfl (om _) ?_
 refine wv (v:=.pointer (some (p_x0))) rfl (om _) ?_
 refine wv (v:=.int .i64 (e21)) rfl (om _) ?_
 refine wv (v:=.int .i64 (e41)) rfl (om _) ?_
 obtain ⟨y45,hy46,ho⟩:=bs ho
 refine WL.call rfl (op_callF Tryz.func129 rfl rfl) (impl_Category_then_calls (kp _ za (hB.trans hC44)) (kp _ zb (hB.trans hC44)) (kp _ zd (hB.trans hC44)) (kp _ zc (hB.trans hC44)) (At.keep0 a_x0 (hB.trans hC44)) hy46) ?_
 rintro _ wd47 ⟨rfl,hC48⟩
 refine ⟨_,rfl,?_⟩
 obtain ⟨e49,hx50e,ho⟩:=bs ho
 have hx50:=idx_some hx50e
 refine wv (v:=.pointer (some (elA (v9) 1 (y45)))) rfl (op_indexI u82 info4 sz4 rfl ((Le.own (Le.refl _) 4).le (kp _ o13.1 (hC44.trans hC48))) rfl hx50.1 hx50.2) ?_
 refine WL.storeEl (z':=true) _ _ sBool_nofp rfl info4 sz4 (ko o13 (hC44.trans hC48)) hx50.2 rfl rfl ⟨rfl,rfl⟩ fun wd51 hC52 o53=>?_
 have hT54:=((hC44.trans hC48).nil (G:=f11)).trans hC52
 replace o33:=okp o33 hT54 (d36).symm
 replace hB:=hB.then hT54 o13.2.2
 refine inBlk_n ?_
 refine anz ?_
 refine Wq rfl (cr [] wd51) ?_
 refine qv (v:=.int .i64 (w64 (s1_29 + (1:Int)))) rfl (fun _ _=>op_bin rfl rfl bin_add) ?_
 refine qv (v:=.int .i64 (w64 (s1_29 + (1:Int)))) rfl (fun _ _=>om _) ?_
 intro wd55 hC56
 cases ho
 exact ⟨(hB.trans hC56),(ko o53 hC56),(ko o33 hC56),(d36),fr ⟨rfl,rfl,rfl,rfl,rfl,rfl,rfl,rfl,rfl,trivial⟩⟩
 intro hb40
 rw [hb40] at ho
 refine W_exit ?_
 refine andThen_x ?_
 cases ho
 exact ⟨rfl,⟨(hB.trans hC39),(ko o13 hC39),(ko o33 hC39),(d36),fr ⟨rfl,rfl,rfl,rfl,rfl,rfl,rfl,rfl,rfl,trivial⟩⟩⟩
 rintro ⟨s1_29,s1_o13⟩ _ wd57 ⟨hB,o13,o33,d36,F,rfl⟩ ho
 dsimp only at ho
 refine inBlk_n ?_
 refine anz ?_
 refine Wq rfl (cr [] wd57) ?_
 refine qv (v:=.int .i64 (w64 (s0_15 + (1:Int)))) rfl (fun _ _=>op_bin rfl rfl bin_add) ?_
 refine qv (v:=.int .i64 (w64 (s0_15 + (1:Int)))) rfl (fun _ _=>om _) ?_
 intro wd58 hC59
 cases ho
 exact ⟨(hB.trans hC59),(ko o13 hC59),fr ⟨rfl,rfl,rfl,rfl,rfl,trivial⟩⟩
 intro hb20
 rw [hb20] at ho
 refine W_exit ?_
 refine andThen_x ?_
 cases ho
 exact ⟨rfl,⟨(hB.trans hC19),(ko o13 hC19),fr ⟨rfl,rfl,rfl,rfl,rfl,trivial⟩⟩⟩
 rintro ⟨s0_15,s0_o13⟩ _ wd60 ⟨hB,o13,F,rfl⟩ ho
 dsimp only at ho
 refine anz ?_
 refine wq ?_
 refine W_region rfl ?_
 refine wv (v:=v9) rfl (om _) ?_
 obtain ⟨y61,hy62,ho⟩:=bs ho
 refine WL.call rfl (op_callF Tryz.func203 rfl rfl) (impl_marked_calls ((Le.own (Le.refl _) 4).le (kp _ o13.1 (cr [] wd60))) hy62) ?_
 rintro _ wd63 ⟨v65,f66,rfl,hC64,o67⟩
 refine ⟨_,rfl,?_⟩
 replace o67:=OE.low (G:=[]) o67 (hB.trans (cr [] wd60)).size
 have hT69:=(cr [] wd60).trans hC64
 replace o13:=ko o13 hT69
 replace hB:=(hB.trans hT69)
 refine wv (v:=v65) rfl (oa _) ?_
 refine anz ?_
 cases ho
 exact W_ret ⟨_,res_1 Tryz.results194,_,_,rfl,(hB.trans (cr [] wd63)),(ko o67 (cr [] wd63))⟩

noncomputable def impl_compare_L0 (x0:(List Int)) (x1:(List Int)) (s0_8:Int):Option (Out (Int) (Int)):=
 (bif decide (s0_8 < (x0.length:Int)) then (bif (s0_8) == ((x1.length:Int)) then (some (Out.ret (((1:Int))))) else ((idx x0 (s0_8))>>=fun e16=>((idx x1 (s0_8))>>=fun e18=>(bif (e16) != (e18) then ((idx x0 (s0_8))>>=fun e23=>((idx x1 (s0_8))>>=fun e25=>(bif decide (e23 < e25) then (some (Out.ret (((-1:Int))))) else (some (Out.ret (((1:Int)))))))) else (some (Out.norm (w64 (s0_8 + (1:Int))))))))) else (some (Out.exit 0 (s0_8))))
noncomputable def impl_compare (x0:(List Int)) (x1:(List Int)):Option (Int):=
 retM (S:=Unit) (lbind (blockM 0 (loopM (impl_compare_L0 x0 x1) ((0:Int)))) (fun s0_8=>(bif decide ((x0.length:Int) < (x1.length:Int)) then (some (Out.ret (((-1:Int))))) else (some (Out.ret (((0:Int))))))))
abbrev impl_compare_post (w:World) (x:(Int)) (e:Ending) (w':World):Prop:=e = .returned (.int .i64 x)∧Chg [] w w'
abbrev impl_compare_T (w:World) (x:(Int)) (r:Nat→Value) (w':World):Prop:=∃ v,(∀ a:Act,a.tmps.size=39→rho a=r→(results Tryz.f137 a.tmps).run Tryz.prog w' = .ok v w')∧impl_compare_post w x (.returned v) w'
theorem impl_compare_calls {w:World} {x0:(List Int)} {v_x0:Value} {f_x0:List Nat} {x1:(List Int)} {v_x1:Value} {f_x1:List Nat} (h_x0:(sImm (sInt .i64)).rep w.heap [v_x0] x0 f_x0) (h_x1:(sImm (sInt .i64)).rep w.heap [v_x1] x1 f_x1) {y:(Int)} (hm:impl_compare x0 x1=some y) :
  Calls Tryz.prog 137 #[v_x0,v_x1] w (impl_compare_post w y):=by
 refine calls_of_M (S:=Unit) (args:=[v_x0,v_x1]) Tryz.func137 rfl Tryz.ntmps137 (Nat.le_of_ble_eq_true rfl) (retM_some hm) ?_
 clear hm
 intro o ho
 have hB:Chg [] w w:=cr _ _
 refine wq ?_
 refine Wq rfl (cr [] w) ?_
 refine qv (v:=.int .i64 ((0:Int))) rfl (fun _ _=>oa _) ?_
 intro wd1 hC2
 refine anz ?_
 refine wq ?_
 refine wq ?_
 refine Wq rfl hC2 ?_
 refine qv (v:=v_x0) rfl (fun _ _=>om _) ?_
 refine qv (v:=.int .i64 ((x0.length:Int))) rfl (fun _ hC=>op_lenI u22z (kp _ h_x0 (hB.trans hC))) ?_
 refine qv (v:=.int .i64 ((0:Int))) rfl (fun _ _=>om _) ?_
 intro wd3 hC4
 refine anz ?_
 refine W_for (S1:=Int) (fun (s0_8:Int) r w'=>Chg [] w w'∧∃ F,r=updL F [(0,v_x0),(1,v_x1),(7,.int .i64 ((x0.length:Int))),(8,.int .i64 (s0_8))]) (T:=impl_compare_T w) ho ⟨(hB.trans hC4),fr ⟨rfl,rfl,rfl,rfl,trivial⟩⟩ ?_ ?_ ?_
 intro x r w' ho hx; subst ho; exact hx
 rintro s0_8 _ wd5 ⟨hB,F,rfl⟩ o ho
 replace ho:impl_compare_L0 x0 x1 s0_8=some o:=ho
 unfold impl_compare_L0 at ho
 refine wq ?_
 refine Wq rfl (cr [] wd5) ?_
 refine qv (v:=.bool (decide (s0_8 < (x0.length:Int)))) rfl (fun _ _=>op_bin rfl rfl bin_lss) ?_
 intro wd6 hC7
 refine anz ?_
 refine wq ?_
 refine W_cond (b:=decide (s0_8 < (x0.length:Int))) rfl ?_ ?_
 intro hb8
 rw [hb8] at ho
 refine W_skip ?_
 refine anz ?_
 refine wq ?_
 refine W_block ?_
 refine wq ?_
 refine Wq rfl hC7 ?_
 refine qv (v:=.int .i64 (s0_8)) rfl (fun _ _=>om _) ?_
 refine qv (v:=.int .i64 (s0_8)) rfl (fun _ _=>oa _) ?_
 intro wd9 hC10
 refine anz ?_
 refine wq ?_
 refine wq ?_
 refine Wq rfl hC10 ?_
 refine qv (v:=.int .i64 (s0_8)) rfl (fun _ _=>om _) ?_
 refine qv (v:=v_x1) rfl (fun _ _=>om _) ?_
 refine qv (v:=.int .i64 ((x1.length:Int))) rfl (fun _ hC=>op_lenI u22z (kp _ h_x1 (hB.trans hC))) ?_
 refine qv (v:=.bool ((s0_8) == ((x1.length:Int)))) rfl (fun _ _=>op_bin rfl rfl bin_eql) ?_
 intro wd11 hC12
 refine anz ?_
 refine W_cond (b:=(s0_8) == ((x1.length:Int))) rfl ?_ ?_
 intro hb13
 rw [hb13] at ho
 refine wq ?_
 refine Wq rfl hC12 ?_
 refine qv (v:=.int .i64 ((1:Int))) rfl (fun _ _=>oa _) ?_
 intro wd14 hC15
 refine anz ?_
 cases ho
 exact W_ret ⟨_,res_1 Tryz.results137,rfl,(hB.trans hC15)⟩
 intro hb13
 rw [hb13] at ho
 refine W_skip ?_
 refine anz ?_
 refine wq ?_
 refine Wqd rfl (by kernel_rfl) hC12 ?_
 refine qv (v:=v_x0) rfl (fun _ _=>om _) ?_
 refine qv (v:=.int .i64 (s0_8)) rfl (fun _ _=>om _) ?_
 obtain ⟨e16,hx17e,ho⟩:=bs ho
 have hx17:=idx_some hx17e
 refine qv (v:=.pointer (some (elA (v_x0) 1 (s0_8)))) rfl (fun _ hC=>op_indexI u22z info2 sz2 rfl (kp _ h_x0 (hB.trans hC)) rfl hx17.1 hx17.2) ?_
 refine qv (v:=.int .i64 (e16)) rfl (fun _ hC=>oldz u2z rfl rfl (int_get (kp _ h_x0 (hB.trans hC)) hx17.1 hx17.2)) ?_
 refine qv (v:=v_x1) rfl (fun _ _=>om _) ?_
 refine qv (v:=.int .i64 (s0_8)) rfl (fun _ _=>om _) ?_
 obtain ⟨e18,hx19e,ho⟩:=bs ho
 have hx19:=idx_some hx19e
 refine qv (v:=.pointer (some (elA (v_x1) 1 (s0_8)))) rfl (fun _ hC=>op_indexI u22z info2 sz2 rfl (kp _ h_x1 (hB.trans hC)) rfl hx19.1 hx19.2) ?_
 refine qv (v:=.int .i64 (e18)) rfl (fun _ hC=>oldz u2z rfl rfl (int_get (kp _ h_x1 (hB.trans hC)) hx19.1 hx19.2)) ?_
 refine qv (v:=.bool ((e16) != (e18))) rfl (fun _ _=>op_bin rfl rfl bin_neq) ?_
 intro wd20 hC21
 refine anz ?_
 refine W_cond (b:=(e16) != (e18)) rfl ?_ ?_
 intro hb22
 rw [hb22] at ho
 refine wq ?_
 refine wq ?_
 refine Wqd rfl (by kernel_rfl) hC21 ?_
 refine qv (v:=v_x0) rfl (fun _ _=>om _) ?_
 refine qv (v:=.int .i64 (s0_8)) rfl (fun _ _=>om _) ?_
 obtain ⟨e23,hx24e,ho⟩:=bs ho
 have hx24:=idx_some hx24e
 refine qv (v:=.pointer (some (elA (v_x0) 1 (s0_8)))) rfl (fun _ hC=>op_indexI u22z info2 sz2 rfl (kp _ h_x0 (hB.trans hC)) rfl hx24.1 hx24.2) ?_
 refine qv (v:=.int .i64 (e23)) rfl (fun _ hC=>oldz u2z rfl rfl (int_get (kp _ h_x0 (hB.trans hC)) hx24.1 hx24.2)) ?_
 refine qv (v:=v_x1) rfl (fun _ _=>om _) ?_
 refine qv (v:=.int .i64 (s0_8)) rfl (fun _ _=>om _) ?_
 obtain ⟨e25,hx26e,ho⟩:=bs ho
 have hx26:=idx_some hx26e
 refine qv (v:=.pointer (some (elA (v_x1) 1 (s0_8)))) rfl (fun _ hC=>op_indexI u22z info2 sz2 rfl (kp _ h_x1 (hB.trans hC)) rfl hx26.1 hx26.2) ?_
 refine qv (v:=.int .i64 (e25)) rfl (fun _ hC=>oldz u2z rfl rfl (int_get (kp _ h_x1 (hB.trans hC)) hx26.1 hx26.2)) ?_
 refine qv (v:=.bool (decide (e23 < e25))) rfl (fun _ _=>op_bin rfl rfl bin_lss) ?_
 intro wd27 hC28
 refine anz ?_
 refine W_cond (b:=decide (e23 < e25)) rfl ?_ ?_
 intro hb29
 rw [hb29] at ho
 refine wq ?_
 refine Wq rfl hC28 ?_
 refine qv (v:=.int .i64 ((-1:Int))) rfl (fun _ _=>oa _) ?_
 intro wd30 hC31
 refine anz ?_
 cases ho
 exact W_ret ⟨_,res_1 Tryz.results137,rfl,(hB.trans hC31)⟩
 intro hb29
 rw [hb29] at ho
 refine W_skip ?_
 refine anz ?_
 refine wq ?_
 refine Wq rfl hC28 ?_
 refine qv (v:=.int .i64 ((1:Int))) rfl (fun _ _=>oa _) ?_
 intro wd32 hC33
 refine anz ?_
 cases ho
 exact W_ret ⟨_,res_1 Tryz.results137,rfl,(hB.trans hC33)⟩
 intro hb22
 rw [hb22] at ho
 refine W_skip ?_
 refine inBlk_n ?_
 refine anz ?_
 refine Wq rfl hC21 ?_
 refine qv (v:=.int .i64 (w64 (s0_8 + (1:Int)))) rfl (fun _ _=>op_bin rfl rfl bin_add) ?_
 refine qv (v:=.int .i64 (w64 (s0_8 + (1:Int)))) rfl (fun _ _=>om _) ?_
 intro wd34 hC35
 cases ho
 exact ⟨(hB.trans hC35),fr ⟨rfl,rfl,rfl,rfl,trivial⟩⟩
 intro hb8
 rw [hb8] at ho
 refine W_exit ?_
 refine andThen_x ?_
 cases ho
 exact ⟨rfl,⟨(hB.trans hC7),fr ⟨rfl,rfl,rfl,rfl,trivial⟩⟩⟩
 rintro s0_8 _ wd36 ⟨hB,F,rfl⟩ ho
 replace ho:=ho
 refine anz ?_
 refine wq ?_
 refine wq ?_
 refine Wq rfl (cr [] wd36) ?_
 refine qv (v:=v_x0) rfl (fun _ _=>om _) ?_
 refine qv (v:=.int .i64 ((x0.length:Int))) rfl (fun _ hC=>op_lenI u22z (kp _ h_x0 (hB.trans hC))) ?_
 refine qv (v:=v_x1) rfl (fun _ _=>om _) ?_
 refine qv (v:=.int .i64 ((x1.length:Int))) rfl (fun _ hC=>op_lenI u22z (kp _ h_x1 (hB.trans hC))) ?_
 refine qv (v:=.bool (decide ((x0.length:Int) < (x1.length:Int)))) rfl (fun _ _=>op_bin rfl rfl bin_lss) ?_
 intro wd37 hC38
 refine anz ?_
 refine W_cond (b:=decide ((x0.length:Int) < (x1.length:Int))) rfl ?_ ?_
 intro hb39
 rw [hb39] at ho
 refine wq ?_
 refine Wq rfl hC38 ?_
 refine qv (v:=.int .i64 ((-1:Int))) rfl (fun _ _=>oa _) ?_
 intro wd40 hC41
 refine anz ?_
 cases ho
 exact W_ret ⟨_,res_1 Tryz.results137,rfl,(hB.trans hC41)⟩
 intro hb39
 rw [hb39] at ho
 refine W_skip ?_
 refine anz ?_
 refine wq ?_
 refine Wq rfl hC38 ?_
 refine qv (v:=.int .i64 ((0:Int))) rfl (fun _ _=>oa _) ?_
 intro wd42 hC43
 refine anz ?_
 cases ho
 exact W_ret ⟨_,res_1 Tryz.results137,rfl,(hB.trans hC43)⟩

noncomputable def impl_same (x0:(List Int)) (x1:(List Int)):Option (Bool):=
 retM (S:=Unit) ((impl_compare x0 x1)>>=fun y3=>(some (Out.ret (((y3) == ((0:Int)))))))
abbrev impl_same_post (w:World) (x:(Bool)) (e:Ending) (w':World):Prop:=e = .returned (.bool x)∧Chg [] w w'
abbrev impl_same_T (w:World) (x:(Bool)) (r:Nat→Value) (w':World):Prop:=∃ v,(∀ a:Act,a.tmps.size=9→rho a=r→(results Tryz.f143 a.tmps).run Tryz.prog w' = .ok v w')∧impl_same_post w x (.returned v) w'
theorem impl_same_calls {w:World} {x0:(List Int)} {v_x0:Value} {f_x0:List Nat} {x1:(List Int)} {v_x1:Value} {f_x1:List Nat} (h_x0:(sImm (sInt .i64)).rep w.heap [v_x0] x0 f_x0) (h_x1:(sImm (sInt .i64)).rep w.heap [v_x1] x1 f_x1) {y:(Bool)} (hm:impl_same x0 x1=some y) :
  Calls Tryz.prog 143 #[v_x0,v_x1] w (impl_same_post w y):=by
 refine calls_of_M (S:=Unit) (args:=[v_x0,v_x1]) Tryz.func143 rfl Tryz.ntmps143 (Nat.le_of_ble_eq_true rfl) (retM_some hm) ?_
 clear hm
 intro o ho
 have hB:Chg [] w w:=cr _ _
 refine wq ?_
 refine Wq rfl (cr [] w) ?_
 refine qv (v:=.bool (false)) rfl (fun _ _=>oa _) ?_
 intro wd1 hC2
 refine anz ?_
 refine wq ?_
 refine Wq rfl hC2 ?_
 refine qv (v:=v_x0) rfl (fun _ _=>om _) ?_
 refine qv (v:=v_x1) rfl (fun _ _=>om _) ?_
 obtain ⟨y3,hy4,ho⟩:=bs ho
 refine QL.call (v:=.int .i64 (y3)) rfl (fun _ _=>op_callF Tryz.func137 rfl rfl) (fun _ hC=>(impl_compare_calls (kp _ h_x0 (hB.trans hC)) (kp _ h_x1 (hB.trans hC)) hy4).mono fun _ _ h=>⟨h.1,hC.trans h.2⟩) ?_
 refine qv (v:=.bool ((y3) == ((0:Int)))) rfl (fun _ _=>op_bin rfl rfl bin_eql) ?_
 refine qv (v:=.bool ((y3) == ((0:Int)))) rfl (fun _ _=>oa _) ?_
 intro wd5 hC6
 refine anz ?_
 cases ho
 exact W_ret ⟨_,res_1 Tryz.results143,rfl,(hB.trans hC6)⟩

noncomputable def impl_Category_sieves_1 (x0:(List Int)) (x1:(List Int)):Option (Bool):=
 retM (S:=Unit) ((impl_same x1 x0)>>=fun y3=>(some (Out.ret (y3))))
abbrev impl_Category_sieves_1_post (w:World) (x:(Bool)) (e:Ending) (w':World):Prop:=e = .returned (.bool x)∧Chg [] w w'
abbrev impl_Category_sieves_1_T (w:World) (x:(Bool)) (r:Nat→Value) (w':World):Prop:=∃ v,(∀ a:Act,a.tmps.size=7→rho a=r→(results Tryz.f196 a.tmps).run Tryz.prog w' = .ok v w')∧impl_Category_sieves_1_post w x (.returned v) w'
theorem impl_Category_sieves_1_calls {w:World} {x0:(List Int)} {v_x0:Value} {f_x0:List Nat} {x1:(List Int)} {p_x1:Addr} {v_x1:Value} {f_x1:List Nat} (h_x0:(sImm (sInt .i64)).rep w.heap [v_x0] x0 f_x0) (h_x1:(sImm (sInt .i64)).rep w.heap [v_x1] x1 f_x1) (a_x1:At w p_x1 [v_x1]) {y:(Bool)} (hm:impl_Category_sieves_1 x0 x1=some y) :
  Calls Tryz.prog 196 #[v_x0,.pointer (some (p_x1))] w (impl_Category_sieves_1_post w y):=by
 refine calls_of_M (S:=Unit) (args:=[v_x0,.pointer (some (p_x1))]) Tryz.func196 rfl Tryz.ntmps196 (Nat.le_of_ble_eq_true rfl) (retM_some hm) ?_
 clear hm
 intro o ho
 have hB:Chg [] w w:=cr _ _
 refine wq ?_
 refine Wq rfl (cr [] w) ?_
 refine qv (v:=.bool (false)) rfl (fun _ _=>oa _) ?_
 intro wd1 hC2
 refine anz ?_
 refine wq ?_
 refine Wq rfl hC2 ?_
 refine qv (v:=v_x1) rfl (fun _ hC=>oldz u87 rfl rfl ((At.keep0 a_x1 (hB.trans hC)).cell0 rfl)) ?_
 refine qv (v:=v_x0) rfl (fun _ _=>om _) ?_
 obtain ⟨y3,hy4,ho⟩:=bs ho
 refine QL.call (v:=.bool (y3)) rfl (fun _ _=>op_callF Tryz.func143 rfl rfl) (fun _ hC=>(impl_same_calls (kp _ h_x1 (hB.trans hC)) (kp _ h_x0 (hB.trans hC)) hy4).mono fun _ _ h=>⟨h.1,hC.trans h.2⟩) ?_
 refine qv (v:=.bool (y3)) rfl (fun _ _=>oa _) ?_
 intro wd5 hC6
 refine anz ?_
 cases ho
 exact W_ret ⟨_,res_1 Tryz.results196,rfl,(hB.trans hC6)⟩
end Go.Proofs.YtfbijbginbjecaaGreat
