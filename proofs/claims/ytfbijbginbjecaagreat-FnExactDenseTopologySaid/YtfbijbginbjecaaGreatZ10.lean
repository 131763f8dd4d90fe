/- Walks, printed by a program: what each function computes (a model on plain data), and that a call computes it. No condition beside those that each theorem names. -/
import Derived.Test.YtfbijbginbjecaaGreatTy
import Derived.Test.YtfbijbginbjecaaGreatZ01
import Derived.Test.YtfbijbginbjecaaGreatZ03
import Derived.Test.YtfbijbginbjecaaGreatZ04
import Derived.Test.YtfbijbginbjecaaGreatZ05
import Derived.Test.YtfbijbginbjecaaGreatZ06
namespace Go.Proofs.YtfbijbginbjecaaGreat
open Go Go.Li
set_option linter.unusedVariables false
set_option maxHeartbeats 4000000
set_option maxRecDepth 100000
abbrev Ka := @Le.own
abbrev Kb := @Le.refl
abbrev Kc := @one_lt
abbrev Kd := @Row.lt
abbrev Ke := @one_then
abbrev Kf := @low_app
abbrev Kg := @STy.keep
abbrev Kh := @STy.one
abbrev Ki := @OE.low
abbrev Kj := @Dis.symm
abbrev Kk := @op_loadAgg
abbrev Kl := @Row.keep
abbrev Km := @dis_par
abbrev Kn := @op_extract
abbrev Ko := @W_region
abbrev Kp := @op_fieldAddrR
abbrev Kr := @WL.call
abbrev Ks := @op_callF
abbrev Ku := @Nat.le_trans
abbrev Kv := @op_bin
abbrev Kx := @stable_cons
abbrev Ky := @owes_cons
abbrev Kz := @WL.alloc
noncomputable def spec_l27Dense_L1 (x0:MCategory) (x2:(List Int)) (s0_7:Int) (s1_8:Bool) (s1_9:Int):Option (Out (Bool×Int) (Bool)):=
 (((bif decide (s1_9 < (x0.From.length:Int)) then (some (!(s1_8))) else (some (false))))>>=fun g26=>(bif g26 then ((((idx x0.From (s1_9))>>=fun e34=>((idx x0.To (s0_7))>>=fun e36=>(bif (e34) == (e36) then ((spec_l02Then x0 (s0_7) (s1_9))>>=fun y39=>((spec_l01Has x2 (y39))>>=fun y41=>(some (y41)))) else (some (false))))))>>=fun g32=>(some (Out.norm (g32,w64 (s1_9 + (1:Int)))))) else (some (Out.exit 2 (s1_8,s1_9)))))
noncomputable def spec_l27Dense_L0 (x0:MCategory) (x1:Int) (x2:(List Int)) (s0_7:Int):Option (Out (Int) (Bool)):=
 (bif decide (s0_7 < (x0.From.length:Int)) then ((idx x0.From (s0_7))>>=fun e14=>(bif (e14) != (x1) then (some (Out.norm (w64 (s0_7 + (1:Int))))) else (lbind (blockM 2 (loopM (fun s=>spec_l27Dense_L1 x0 x2 s0_7 s.1 s.2) (false,(0:Int)))) (fun (s1_8,s1_9)=>(bif !(s1_8) then (some (Out.ret (false))) else (some (Out.norm (w64 (s0_7 + (1:Int)))))))))) else (some (Out.exit 0 (s0_7))))
noncomputable def spec_l27Dense (x0:MCategory) (x1:Int) (x2:(List Int)):Option (Bool):=
 retM (S:=Unit) (lbind (blockM 0 (loopM (spec_l27Dense_L0 x0 x1 x2) ((0:Int)))) (fun s0_7=>(some (Out.ret (true)))))
abbrev spec_l27Dense_post (w:World) (x:(Bool)) (e:Ending) (w':World):Prop:=e = .returned (.bool x)∧Chg [] w w'
abbrev spec_l27Dense_T (w:World) (x:(Bool)) (r:Nat→Value) (w':World):Prop:=∃ v,(∀ a:Act,a.tmps.size=56→rho a=r→(results Tryz.f73 a.tmps).run Tryz.prog w' = .ok v w')∧spec_l27Dense_post w x (.returned v) w'
theorem spec_l27Dense_calls {w:World} {x0:MCategory} {z6:Value} {zh:List Nat} {z7:Value} {zg:List Nat} {z9:Value} {zf:List Nat} {z8:Value} {ze:List Nat} {x1:Int} {x2:(List Int)} {v_x2:Value} {f_x2:List Nat} (za:(sImm (sInt .i64)).rep w.heap [z6] x0.From zh) (zb:(sImm (sInt .i64)).rep w.heap [z7] x0.To zg) (zd:(sImm (sInt .i64)).rep w.heap [z9] x0.Identity zf) (zc:(sImm (sImm (sInt .i64))).rep w.heap [z8] x0.Composites ze) (h_x2:(sImm (sInt .i64)).rep w.heap [v_x2] x2 f_x2) {y:(Bool)} (hm:spec_l27Dense x0 x1 x2=some y) :
  Calls Tryz.prog 73 #[.agg #[.int .i64 (x0.Objects),z6,z7,z9,z8],.int .i64 (x1),v_x2] w (spec_l27Dense_post w y):=by
 refine calls_of_M (S:=Unit) (args:=[.agg #[.int .i64 (x0.Objects),z6,z7,z9,z8],.int .i64 (x1),v_x2]) Tryz.func73 rfl Tryz.ntmps73 (Nat.le_of_ble_eq_true rfl) (retM_some hm) ?_
 clear hm
 intro o ho
 have hB:Chg [] w w:=cr _ _
 refine wq ?_
 refine Ko rfl ?_
 refine WL.box fun b1 wd2 hC3 hr4 hl5=>?_
 replace hr4:Row wd2 b1 [.int .i64 (x0.Objects),z6,z7,z9,z8] 27:=hr4
 have hT7:=(cr [] w).trans hC3
 replace hB:=(hB.trans hT7)
 refine wv (v:=.bool (false)) rfl (oa _) ?_
 refine anz ?_
 refine wq ?_
 refine wq ?_
 refine Wq rfl (cr [] wd2) ?_
 refine qv (v:=.int .i64 ((0:Int))) rfl (fun _ _=>oa _) ?_
 intro wd8 hC9
 refine anz ?_
 refine W_for (S1:=Int) (fun (s0_7:Int) r w'=>Chg [] w w'∧Row w' b1 [.int .i64 (x0.Objects),z6,z7,z9,z8] 27∧∃ F,r=updL F [(1,.int .i64 (x1)),(2,v_x2),(3,.pointer (some (⟨b1,0,none⟩))),(7,.int .i64 (s0_7))]) (T:=spec_l27Dense_T w) ho ⟨(hB.trans hC9),(kr hr4 hC9),fr ⟨rfl,rfl,rfl,rfl,trivial⟩⟩ ?_ ?_ ?_
 intro x r w' ho hx; subst ho; exact hx
 rintro s0_7 _ gi ⟨hB,hr4,F,rfl⟩ o ho
 replace ho:spec_l27Dense_L0 x0 x1 x2 s0_7=some o:=ho
 unfold spec_l27Dense_L0 at ho
 refine wq ?_
 refine wq ?_
 refine Wq rfl (cr [] gi) ?_
 refine qv (v:=.int .i64 (s0_7)) rfl (fun _ _=>om _) ?_
 refine qv (v:=.pointer (some (⟨b1,1,none⟩))) rfl (fun _ _=>Kp u27z rfl info22 ne22 rfl rfl) ?_
 refine qv (v:=z6) rfl (fun _ hC=>oldz u22z rfl rfl ((kr hr4 hC).at.cell (j:=1) rfl)) ?_
 refine qv (v:=.int .i64 ((x0.From.length:Int))) rfl (fun _ hC=>op_lenI u22z (kp _ za (hB.trans hC))) ?_
 refine qv (v:=.bool (decide (s0_7 < (x0.From.length:Int)))) rfl (fun _ _=>Kv rfl rfl bin_lss) ?_
 intro ni jx
 refine anz ?_
 refine W_cond (b:=decide (s0_7 < (x0.From.length:Int))) rfl ?_ ?_
 intro jy
 rw [jy] at ho
 refine W_skip ?_
 refine anz ?_
 refine wq ?_
 refine W_block ?_
 refine wq ?_
 refine wq ?_
 refine Wq rfl jx ?_
 refine qv (v:=.pointer (some (⟨b1,1,none⟩))) rfl (fun _ _=>Kp u27z rfl info22 ne22 rfl rfl) ?_
 refine qv (v:=z6) rfl (fun _ hC=>oldz u22z rfl rfl ((kr hr4 hC).at.cell (j:=1) rfl)) ?_
 refine qv (v:=.int .i64 (s0_7)) rfl (fun _ _=>om _) ?_
 obtain ⟨e14,hx15e,ho⟩:=bs ho
 have hx15:=idx_some hx15e
 refine qv (v:=.pointer (some (elA (z6) 1 (s0_7)))) rfl (fun _ hC=>op_indexI u22z info2 sz2 rfl (kp _ za (hB.trans hC)) rfl hx15.1 hx15.2) ?_
 refine qv (v:=.int .i64 (e14)) rfl (fun _ hC=>oldz u2z rfl rfl (int_get (kp _ za (hB.trans hC)) hx15.1 hx15.2)) ?_
 refine qv (v:=.int .i64 (x1)) rfl (fun _ _=>om _) ?_
 refine qv (v:=.bool ((e14) != (x1))) rfl (fun _ _=>Kv rfl rfl bin_neq) ?_
 intro p26 nj
 refine anz ?_
 refine W_cond (b:=(e14) != (x1)) rfl ?_ ?_
 intro jz
 rw [jz] at ho
 refine W_exit ?_
 refine andThen_x ?_
 refine inBlk_x ?_
 refine anz ?_
 refine Wq rfl nj ?_
 refine qv (v:=.int .i64 (s0_7)) rfl (fun _ _=>om _) ?_
 refine qv (v:=.int .i64 (w64 (s0_7 + (1:Int)))) rfl (fun _ _=>Kv rfl rfl bin_add) ?_
 refine qv (v:=.int .i64 (w64 (s0_7 + (1:Int)))) rfl (fun _ _=>oa _) ?_
 intro p27 nk
 cases ho
 exact ⟨(hB.trans nk),(kr hr4 nk),fr ⟨rfl,rfl,rfl,rfl,trivial⟩⟩
 intro jz
 rw [jz] at ho
 refine W_skip ?_
 refine anz ?_
 refine wq ?_
 refine Wq rfl nj ?_
 refine qv (v:=.bool (false)) rfl (fun _ _=>oa _) ?_
 intro qx k0
 refine anz ?_
 refine wq ?_
 refine wq ?_
 refine Wq rfl k0 ?_
 refine qv (v:=.int .i64 ((0:Int))) rfl (fun _ _=>oa _) ?_
 intro p28 nl
 refine anz ?_
 refine W_for (S1:=Bool×Int) (fun s r w'=>match s with | (s1_8,s1_9)=>Chg [] w w'∧Row w' b1 [.int .i64 (x0.Objects),z6,z7,z9,z8] 27∧∃ F,r=updL F [(1,.int .i64 (x1)),(2,v_x2),(3,.pointer (some (⟨b1,0,none⟩))),(7,.int .i64 (s0_7)),(8,.bool (s1_8)),(9,.int .i64 (s1_9))]) (T:=spec_l27Dense_T w) ho ⟨(hB.trans nl),(kr hr4 nl),fr ⟨rfl,rfl,rfl,rfl,rfl,rfl,trivial⟩⟩ ?_ ?_ ?_
 intro x r w' ho hx; subst ho; exact hx
 rintro ⟨s1_8,s1_9⟩ _ gj ⟨hB,hr4,F,rfl⟩ o ho
 replace ho:spec_l27Dense_L1 x0 x2 s0_7 s1_8 s1_9=some o:=ho
 unfold spec_l27Dense_L1 at ho
 refine wq ?_
 refine wq ?_
 refine Wq rfl (cr [] gj) ?_
 obtain ⟨g26,hm27,ho⟩:=bs ho
 refine QL.meet (fun r=>∃ F,r=updL F [(1,.int .i64 (x1)),(2,v_x2),(3,.pointer (some (⟨b1,0,none⟩))),(7,.int .i64 (s0_7)),(8,.bool (s1_8)),(9,.int .i64 (s1_9)),(32,.bool (g26))]) ?_ ?_
 skip
 refine qv (v:=.int .i64 (s1_9)) rfl (fun _ _=>om _) ?_
 refine qv (v:=.pointer (some (⟨b1,1,none⟩))) rfl (fun _ _=>Kp u27z rfl info22 ne22 rfl rfl) ?_
 refine qv (v:=z6) rfl (fun _ hC=>oldz u22z rfl rfl ((kr hr4 hC).at.cell (j:=1) rfl)) ?_
 refine qv (v:=.int .i64 ((x0.From.length:Int))) rfl (fun _ hC=>op_lenI u22z (kp _ za (hB.trans hC))) ?_
 refine qv (v:=.bool (decide (s1_9 < (x0.From.length:Int)))) rfl (fun _ _=>Kv rfl rfl bin_lss) ?_
 refine qv (v:=.bool (decide (s1_9 < (x0.From.length:Int)))) rfl (fun _ _=>om _) ?_
 rcases Bool.eq_false_or_eq_true (decide (s1_9 < (x0.From.length:Int))) with pq | pq
 rw [pq] at hm27
 refine qg (v:=.bool (s1_8)) rfl (congrArg some pq) (fun _ _=>om _) ?_
 refine qg (v:=.bool (!(s1_8))) rfl (congrArg some pq) (fun _ _=>op_not rfl) ?_
 refine qv (v:=.bool (!(s1_8))) rfl (fun _ _=>op_pickT rfl pq) ?_
 cases hm27
 exact fr ⟨rfl,rfl,rfl,rfl,rfl,rfl,rfl,trivial⟩
 rw [pq] at hm27
 refine qs rfl (congrArg some pq) rfl ?_
 refine qs rfl (congrArg some pq) rfl ?_
 refine qv (v:=.bool (false)) rfl (fun _ _=>op_pickF rfl pq) ?_
 cases hm27
 exact fr ⟨rfl,rfl,rfl,rfl,rfl,rfl,rfl,trivial⟩
 rintro _ ⟨F,rfl⟩
 intro gk qh
 refine anz ?_
 refine W_cond (b:=g26) rfl ?_ ?_
 intro k1
 rw [k1] at ho
 refine W_skip ?_
 refine anz ?_
 refine wq ?_
 refine W_block ?_
 refine Wqd rfl (by kernel_rfl) qh ?_
 obtain ⟨g32,hm33,ho⟩:=bs ho
 refine QL.meet (fun r=>∃ F,r=updL F [(1,.int .i64 (x1)),(2,v_x2),(3,.pointer (some (⟨b1,0,none⟩))),(7,.int .i64 (s0_7)),(8,.bool (g32)),(9,.int .i64 (s1_9))]) ?_ ?_
 skip
 refine qv (v:=.pointer (some (⟨b1,1,none⟩))) rfl (fun _ _=>Kp u27z rfl info22 ne22 rfl rfl) ?_
 refine qv (v:=z6) rfl (fun _ hC=>oldz u22z rfl rfl ((kr hr4 hC).at.cell (j:=1) rfl)) ?_
 refine qv (v:=.int .i64 (s1_9)) rfl (fun _ _=>om _) ?_
 obtain ⟨e34,hx35e,hm33⟩:=bs hm33
 have hx35:=idx_some hx35e
 refine qv (v:=.pointer (some (elA (z6) 1 (s1_9)))) rfl (fun _ hC=>op_indexI u22z info2 sz2 rfl (kp _ za (hB.trans hC)) rfl hx35.1 hx35.2) ?_
 refine qv (v:=.int .i64 (e34)) rfl (fun _ hC=>oldz u2z rfl rfl (int_get (kp _ za (hB.trans hC)) hx35.1 hx35.2)) ?_
 refine qv (v:=.pointer (some (⟨b1,2,none⟩))) rfl (fun _ _=>Kp u27z rfl info22 ne22 rfl rfl) ?_
 refine qv (v:=z7) rfl (fun _ hC=>oldz u22z rfl rfl ((kr hr4 hC).at.cell (j:=2) rfl)) ?_
 refine qv (v:=.int .i64 (s0_7)) rfl (fun _ _=>om _) ?_
 obtain ⟨e36,hx37e,hm33⟩:=bs hm33
 have hx37:=idx_some hx37e
 refine qv (v:=.pointer (some (elA (z7) 1 (s0_7)))) rfl (fun _ hC=>op_indexI u22z info2 sz2 rfl (kp _ zb (hB.trans hC)) rfl hx37.1 hx37.2) ?_
 refine qv (v:=.int .i64 (e36)) rfl (fun _ hC=>oldz u2z rfl rfl (int_get (kp _ zb (hB.trans hC)) hx37.1 hx37.2)) ?_
 refine qv (v:=.bool ((e34) == (e36))) rfl (fun _ _=>Kv rfl rfl bin_eql) ?_
 refine qv (v:=.bool ((e34) == (e36))) rfl (fun _ _=>om _) ?_
 rcases Bool.eq_false_or_eq_true ((e34) == (e36)) with pg | pg
 rw [pg] at hm33
 refine qg (v:=v_x2) rfl (congrArg some pg) (fun _ _=>om _) ?_
 refine qg (v:=.agg #[.int .i64 (x0.Objects),z6,z7,z9,z8]) rfl (congrArg some pg) (fun _ hC=>Kk u27z rfl info27 (by rw [sz27]; rfl) rfl (kr hr4 hC).at) ?_
 refine qg (v:=.int .i64 (s0_7)) rfl (congrArg some pg) (fun _ _=>om _) ?_
 refine qg (v:=.int .i64 (s1_9)) rfl (congrArg some pg) (fun _ _=>om _) ?_
 obtain ⟨y39,gl,hm33⟩:=bs hm33
 refine QL.callG (v:=.int .i64 (y39)) rfl (congrArg some pg) (fun _ _=>Ks Tryz.func128 rfl rfl) (fun _ hC=>(spec_l02Then_calls (kp _ za (hB.trans hC)) (kp _ zb (hB.trans hC)) (kp _ zd (hB.trans hC)) (kp _ zc (hB.trans hC)) gl).mono fun _ _ h=>⟨h.1,hC.trans h.2⟩) ?_
 obtain ⟨y41,gm,hm33⟩:=bs hm33
 refine QL.callG (v:=.bool (y41)) rfl (congrArg some pg) (fun _ _=>Ks Tryz.func127 rfl rfl) (fun _ hC=>(spec_l01Has_calls (kp _ h_x2 (hB.trans hC)) gm).mono fun _ _ h=>⟨h.1,hC.trans h.2⟩) ?_
 refine qv (v:=.bool (y41)) rfl (fun _ _=>op_pickT rfl pg) ?_
 refine qv (v:=.bool (y41)) rfl (fun _ _=>oa _) ?_
 cases hm33
 exact fr ⟨rfl,rfl,rfl,rfl,rfl,rfl,trivial⟩
 rw [pg] at hm33
 refine qs rfl (congrArg some pg) rfl ?_
 refine qs rfl (congrArg some pg) rfl ?_
 refine qs rfl (congrArg some pg) rfl ?_
 refine qs rfl (congrArg some pg) rfl ?_
 refine qs rfl (congrArg some pg) rfl ?_
 refine qs rfl (congrArg some pg) rfl ?_
 refine qv (v:=.bool (false)) rfl (fun _ _=>op_pickF rfl pg) ?_
 refine qv (v:=.bool (false)) rfl (fun _ _=>oa _) ?_
 cases hm33
 exact fr ⟨rfl,rfl,rfl,rfl,rfl,rfl,trivial⟩
 rintro _ ⟨F,rfl⟩
 intro p29 gn
 refine inBlk_n ?_
 refine anz ?_
 refine Wq rfl gn ?_
 refine qv (v:=.int .i64 (s1_9)) rfl (fun _ _=>om _) ?_
 refine qv (v:=.int .i64 (w64 (s1_9 + (1:Int)))) rfl (fun _ _=>Kv rfl rfl bin_add) ?_
 refine qv (v:=.int .i64 (w64 (s1_9 + (1:Int)))) rfl (fun _ _=>oa _) ?_
 intro p2a nm
 cases ho
 exact ⟨(hB.trans nm),(kr hr4 nm),fr ⟨rfl,rfl,rfl,rfl,rfl,rfl,trivial⟩⟩
 intro k1
 rw [k1] at ho
 refine W_exit ?_
 refine andThen_x ?_
 cases ho
 exact ⟨rfl,⟨(hB.trans qh),(kr hr4 qh),fr ⟨rfl,rfl,rfl,rfl,rfl,rfl,trivial⟩⟩⟩
 rintro ⟨s1_8,s1_9⟩ _ go ⟨hB,hr4,F,rfl⟩ ho
 dsimp only at ho
 refine anz ?_
 refine wq ?_
 refine Wq rfl (cr [] go) ?_
 refine qv (v:=.bool (s1_8)) rfl (fun _ _=>om _) ?_
 refine qv (v:=.bool (!(s1_8))) rfl (fun _ _=>op_not rfl) ?_
 intro p2b nn
 refine anz ?_
 refine W_cond (b:=!(s1_8)) rfl ?_ ?_
 intro k2
 rw [k2] at ho
 refine wq ?_
 refine Wq rfl nn ?_
 refine qv (v:=.bool (false)) rfl (fun _ _=>oa _) ?_
 intro p2c gp
 refine anz ?_
 cases ho
 exact W_ret ⟨_,res_1 Tryz.results73,rfl,(hB.trans gp)⟩
 intro k2
 rw [k2] at ho
 refine W_skip ?_
 refine inBlk_n ?_
 refine anz ?_
 refine Wq rfl nn ?_
 refine qv (v:=.int .i64 (s0_7)) rfl (fun _ _=>om _) ?_
 refine qv (v:=.int .i64 (w64 (s0_7 + (1:Int)))) rfl (fun _ _=>Kv rfl rfl bin_add) ?_
 refine qv (v:=.int .i64 (w64 (s0_7 + (1:Int)))) rfl (fun _ _=>oa _) ?_
 intro p2d no
 cases ho
 exact ⟨(hB.trans no),(kr hr4 no),fr ⟨rfl,rfl,rfl,rfl,trivial⟩⟩
 intro jy
 rw [jy] at ho
 refine W_exit ?_
 refine andThen_x ?_
 cases ho
 exact ⟨rfl,⟨(hB.trans jx),(kr hr4 jx),fr ⟨rfl,rfl,rfl,rfl,trivial⟩⟩⟩
 rintro s0_7 _ gq ⟨hB,hr4,F,rfl⟩ ho
 replace ho:=ho
 refine anz ?_
 refine wq ?_
 refine Wq rfl (cr [] gq) ?_
 refine qv (v:=.bool (true)) rfl (fun _ _=>oa _) ?_
 intro q6 k3
 refine anz ?_
 cases ho
 exact W_ret ⟨_,res_1 Tryz.results73,rfl,(hB.trans k3)⟩

noncomputable def spec_DenseTopology_L1 (x0:MCategory) (y16:ML27Table×(List (List Bool))×Int) (s0_7:Int) (s1_8:Int) (s1_o43:(List (List Bool))):Option (Out (Int×(List (List Bool))) (MTopology×Int)):=
 ((idx s1_o43 (s0_7))>>=fun e211=>(bif decide (s1_8 < (e211.length:Int)) then ((idx s1_o43 (s0_7))>>=fun e221=>((idx y16.1.Lists (s0_7))>>=fun e228=>((idx e228 (s1_8))>>=fun e235=>((spec_l27Dense x0 (s0_7) e235)>>=fun y242=>((idx e221 (s1_8))>>=fun e247=>(some (Out.norm (w64 (s1_8 + (1:Int)),s1_o43.set (s0_7).toNat (e221.set (s1_8).toNat (y242)))))))))) else (some (Out.exit 2 (s1_8,s1_o43)))))
noncomputable def spec_DenseTopology_L0 (x0:MCategory) (y16:ML27Table×(List (List Bool))×Int) (s0_7:Int) (s0_o43:(List (List Bool))):Option (Out (Int×(List (List Bool))) (MTopology×Int)):=
 (bif decide (s0_7 < (s0_o43.length:Int)) then (lbind (blockM 2 (loopM (fun s=>spec_DenseTopology_L1 x0 y16 s0_7 s.1 s.2) ((0:Int),s0_o43))) (fun (s1_8,s1_o43)=>(some (Out.norm (w64 (s0_7 + (1:Int)),s1_o43))))) else (some (Out.exit 0 (s0_7,s0_o43))))
noncomputable def spec_DenseTopology (x0:MCategory):Option (MTopology×Int):=
 retM (S:=Unit) ((spec_l27Category x0)>>=fun y16=>(bif (y16.2.2) != ((0:Int)) then (some (Out.ret (((MTopology.mk (MCategory.mk ((0:Int)) ([]) ([]) ([]) ([])) ([])),y16.2.2)))) else (lbind (blockM 0 (loopM (fun s=>spec_DenseTopology_L0 x0 y16 s.1 s.2) ((0:Int),y16.2.1))) (fun (s0_7,s0_o43)=>((spec_l27Covers y16.1 s0_o43)>>=fun y286=>(some (Out.ret ((y286,((0:Int)))))))))))
abbrev spec_DenseTopology_post (w:World) (x:(MTopology×Int)) (e:Ending) (w':World):Prop:=∃ (v0:Value) (f0:List Nat) (v1:Value) (f1:List Nat) (v2:Value) (f2:List Nat) (v3:Value) (f3:List Nat) (v4:Value) (f4:List Nat),e = .returned (.tuple #[.agg #[.int .i64 x.1.Shape.Objects,v0,v1,v2,v3,v4],.int .i64 x.2])∧Chg [] w w'∧OE [] w.heap.size w' (sOwn 2 (sInt .i64)) [v0] x.1.Shape.From f0∧OE [] w.heap.size w' (sOwn 2 (sInt .i64)) [v1] x.1.Shape.To f1∧OE [] w.heap.size w' (sOwn 2 (sInt .i64)) [v2] x.1.Shape.Identity f2∧OE [] w.heap.size w' (sOwn 22 (sOwn 2 (sInt .i64))) [v3] x.1.Shape.Composites f3∧OE [] w.heap.size w' (sOwn 23 (sOwn 22 (sOwn 2 (sInt .i64)))) [v4] x.1.Covers f4∧Dis f0 f1∧Dis f0 f2∧Dis f0 f3∧Dis f0 f4∧Dis f1 f2∧Dis f1 f3∧Dis f1 f4∧Dis f2 f3∧Dis f2 f4∧Dis f3 f4
abbrev spec_DenseTopology_T (w:World) (x:(MTopology×Int)) (r:Nat→Value) (w':World):Prop:=∃ v,(∀ a:Act,a.tmps.size=54→rho a=r→(results Tryz.f26 a.tmps).run Tryz.prog w' = .ok v w')∧spec_DenseTopology_post w x (.returned v) w'
theorem spec_DenseTopology_calls {w:World} {x0:MCategory} {z6:Value} {zh:List Nat} {z7:Value} {zg:List Nat} {z9:Value} {zf:List Nat} {z8:Value} {ze:List Nat} (za:(sImm (sInt .i64)).rep w.heap [z6] x0.From zh) (zb:(sImm (sInt .i64)).rep w.heap [z7] x0.To zg) (zd:(sImm (sInt .i64)).rep w.heap [z9] x0.Identity zf) (zc:(sImm (sImm (sInt .i64))).rep w.heap [z8] x0.Composites ze) {y:(MTopology×Int)} (hm:spec_DenseTopology x0=some y) :
  Calls Tryz.prog 26 #[.agg #[.int .i64 (x0.Objects),z6,z7,z9,z8]] w (spec_DenseTopology_post w y):=by
 refine calls_of_M (S:=Unit) (args:=[.agg #[.int .i64 (x0.Objects),z6,z7,z9,z8]]) Tryz.func26 rfl Tryz.ntmps26 (Nat.le_of_ble_eq_true rfl) (retM_some hm) ?_
 clear hm
 intro o ho
 have hB:Chg [] w w:=cr _ _
 refine wq ?_
 refine Ko rfl ?_
 refine WL.box fun b1 wd2 hC3 hr4 hl5=>?_
 replace hr4:Row wd2 b1 [.int .i64 (x0.Objects),z6,z7,z9,z8] 27:=hr4
 have lo6:w.heap.size≤b1:=Ku (hB.trans (cr [] w)).size hl5
 have hT7:=(cr [] w).trans hC3
 replace hB:=(hB.trans hT7)
 refine Kz info30 zr30 fun b8 wd9 k4 p0 qi=>?_
 replace p0:Row wd9 b8 [.int .i64 ((0:Int)),.slice none 0 0,.slice none 0 0,.slice none 0 0,.slice none 0 0,.slice none 0 0] 30:=p0
 have p8:w.heap.size≤b8:=Ku (hB.trans (cr [] wd2)).size qi
 have qy:Dis [b8] [b1]:=dl (onw qi) (Kc (Kd (kr hr4 (cr [] wd2))))
 have qj:=(cr [] wd2).trans k4
 replace hr4:=kr hr4 qj
 replace hB:=(hB.trans qj)
 refine wv (v:=.int .i64 ((0:Int))) rfl (oa _) ?_
 refine anz ?_
 refine wq ?_
 refine Ko rfl ?_
 refine wv (v:=.agg #[.int .i64 (x0.Objects),z6,z7,z9,z8]) rfl (Kk u27z rfl info27 (by rw [sz27]; rfl) rfl (kr hr4 (cr [] wd9)).at) ?_
 obtain ⟨y16,k5,ho⟩:=bs ho
 refine Kr rfl (Ks Tryz.func62 rfl rfl) (spec_l27Category_calls (kp _ za (hB.trans (cr [] wd9))) (kp _ zb (hB.trans (cr [] wd9))) (kp _ zd (hB.trans (cr [] wd9))) (kp _ zc (hB.trans (cr [] wd9))) k5) ?_
 rintro _ pn ⟨v20,ph,v23,pf,v26,pi,v29,pj,v32,pk,v35,po,v38,pp,v41,k6,rfl,k7,p4,np,p2,nq,p5,nr,p6,ns,p3,nt,pa,nu,pb,nv,p7,k8,gr,gs,gt,gu,gv,gw⟩
 refine ⟨_,rfl,?_⟩
 have gx:Dis ph [b1]:=dis_out np (da (Km (sl _ za) (Ke lo6)) (da (Km (sl _ zb) (Ke lo6)) (da (Km (sl _ zd) (Ke lo6)) (Km (sl _ zc) (Ke lo6))))) (Kc (Kd (kr hr4 (cr [] wd9))))
 have nw:Dis ph [b8]:=dis_out np (da (Km (sl _ za) (Ke p8)) (da (Km (sl _ zb) (Ke p8)) (da (Km (sl _ zd) (Ke p8)) (Km (sl _ zc) (Ke p8))))) (Kc (Kd (kr p0 (cr [] wd9))))
 have gy:Dis pf [b1]:=dis_out nq (da (Km (sl _ za) (Ke lo6)) (da (Km (sl _ zb) (Ke lo6)) (da (Km (sl _ zd) (Ke lo6)) (Km (sl _ zc) (Ke lo6))))) (Kc (Kd (kr hr4 (cr [] wd9))))
 have nx:Dis pf [b8]:=dis_out nq (da (Km (sl _ za) (Ke p8)) (da (Km (sl _ zb) (Ke p8)) (da (Km (sl _ zd) (Ke p8)) (Km (sl _ zc) (Ke p8))))) (Kc (Kd (kr p0 (cr [] wd9))))
 have gz:Dis pi [b1]:=dis_out nr (da (Km (sl _ za) (Ke lo6)) (da (Km (sl _ zb) (Ke lo6)) (da (Km (sl _ zd) (Ke lo6)) (Km (sl _ zc) (Ke lo6))))) (Kc (Kd (kr hr4 (cr [] wd9))))
 have ny:Dis pi [b8]:=dis_out nr (da (Km (sl _ za) (Ke p8)) (da (Km (sl _ zb) (Ke p8)) (da (Km (sl _ zd) (Ke p8)) (Km (sl _ zc) (Ke p8))))) (Kc (Kd (kr p0 (cr [] wd9))))
 have d89:Dis pj [b1]:=dis_out ns (da (Km (sl _ za) (Ke lo6)) (da (Km (sl _ zb) (Ke lo6)) (da (Km (sl _ zd) (Ke lo6)) (Km (sl _ zc) (Ke lo6))))) (Kc (Kd (kr hr4 (cr [] wd9))))
 have nz:Dis pj [b8]:=dis_out ns (da (Km (sl _ za) (Ke p8)) (da (Km (sl _ zb) (Ke p8)) (da (Km (sl _ zd) (Ke p8)) (Km (sl _ zc) (Ke p8))))) (Kc (Kd (kr p0 (cr [] wd9))))
 have d92:Dis pk [b1]:=dis_out nt (da (Km (sl _ za) (Ke lo6)) (da (Km (sl _ zb) (Ke lo6)) (da (Km (sl _ zd) (Ke lo6)) (Km (sl _ zc) (Ke lo6))))) (Kc (Kd (kr hr4 (cr [] wd9))))
 have g0:Dis pk [b8]:=dis_out nt (da (Km (sl _ za) (Ke p8)) (da (Km (sl _ zb) (Ke p8)) (da (Km (sl _ zd) (Ke p8)) (Km (sl _ zc) (Ke p8))))) (Kc (Kd (kr p0 (cr [] wd9))))
 have d95:Dis po [b1]:=dis_out nu (da (Km (sl _ za) (Ke lo6)) (da (Km (sl _ zb) (Ke lo6)) (da (Km (sl _ zd) (Ke lo6)) (Km (sl _ zc) (Ke lo6))))) (Kc (Kd (kr hr4 (cr [] wd9))))
 have g1:Dis po [b8]:=dis_out nu (da (Km (sl _ za) (Ke p8)) (da (Km (sl _ zb) (Ke p8)) (da (Km (sl _ zd) (Ke p8)) (Km (sl _ zc) (Ke p8))))) (Kc (Kd (kr p0 (cr [] wd9))))
 have d98:Dis pp [b1]:=dis_out nv (da (Km (sl _ za) (Ke lo6)) (da (Km (sl _ zb) (Ke lo6)) (da (Km (sl _ zd) (Ke lo6)) (Km (sl _ zc) (Ke lo6))))) (Kc (Kd (kr hr4 (cr [] wd9))))
 have g2:Dis pp [b8]:=dis_out nv (da (Km (sl _ za) (Ke p8)) (da (Km (sl _ zb) (Ke p8)) (da (Km (sl _ zd) (Ke p8)) (Km (sl _ zc) (Ke p8))))) (Kc (Kd (kr p0 (cr [] wd9))))
 have p04:Dis k6 [b1]:=dl (ofr p7) (Kc (Kd (kr hr4 (cr [] wd9))))
 have g3:Dis k6 [b8]:=dl (ofr p7) (Kc (Kd (kr p0 (cr [] wd9))))
 replace p7:=Ki (G:=[]) p7 (hB.trans (cr [] wd9)).size
 have k9:=(cr [] wd9).trans k7
 replace hr4:=kr hr4 k9
 replace p0:=kr p0 k9
 replace hB:=(hB.trans k9)
 refine wv (v:=.tuple #[.agg #[.int .i64 (y16.1.C.Objects),v20,v23,v26,v29,v32,v35,v38],v41,.int .i64 (y16.2.2)]) rfl (om _) ?_
 refine wv (v:=.agg #[.int .i64 (y16.1.C.Objects),v20,v23,v26,v29,v32,v35,v38]) rfl (Kn rfl rfl) ?_
 refine wv (v:=v41) rfl (Kn rfl rfl) ?_
 refine wv (v:=.int .i64 (y16.2.2)) rfl (Kn rfl rfl) ?_
 refine Kz info78 zr78 fun p1 ka p05 kb q1=>?_
 replace kb:Row ka p1 [.int .i64 ((0:Int)),.slice none 0 0,.slice none 0 0,.slice none 0 0,.slice none 0 0,.slice none 0 0,.slice none 0 0,.slice none 0 0] 78:=kb
 have p06:w.heap.size≤p1:=Ku (hB.trans (cr [] pn)).size q1
 have g4:Dis [p1] [b1]:=dl (onw q1) (Kc (Kd (kr hr4 (cr [] pn))))
 have kc:Dis [p1] [b8]:=dl (onw q1) (Kc (Kd (kr p0 (cr [] pn))))
 have g5:Dis [p1] ph:=dl (onw q1) (sl _ (kp _ p4 (cr [] pn)))
 have g6:Dis [p1] pf:=dl (onw q1) (sl _ (kp _ p2 (cr [] pn)))
 have g7:Dis [p1] pi:=dl (onw q1) (sl _ (kp _ p5 (cr [] pn)))
 have g8:Dis [p1] pj:=dl (onw q1) (sl _ (kp _ p6 (cr [] pn)))
 have g9:Dis [p1] pk:=dl (onw q1) (sl _ (kp _ p3 (cr [] pn)))
 have ga:Dis [p1] po:=dl (onw q1) (sl _ (kp _ pa (cr [] pn)))
 have gb:Dis [p1] pp:=dl (onw q1) (sl _ (kp _ pb (cr [] pn)))
 have gc:Dis [p1] k6:=dl (onw q1) (sl _ (kp _ p7.1 (cr [] pn)))
 have q2:=(cr [] pn).trans p05
 replace p4:=kp _ p4 q2
 replace p2:=kp _ p2 q2
 replace p5:=kp _ p5 q2
 replace p6:=kp _ p6 q2
 replace p3:=kp _ p3 q2
 replace pa:=kp _ pa q2
 replace pb:=kp _ pb q2
 replace hr4:=kr hr4 q2
 replace p0:=kr p0 q2
 replace p7:=ko p7 q2
 replace hB:=(hB.trans q2)
 refine WL.storeAll (us:=[.int .i64 (y16.1.C.Objects),v20,v23,v26,v29,v32,v35,v38]) info78 (by rw [sz78]; rfl) (kr kb (cr [] ka)) rfl rfl rfl (by intro u hu; simp only [List.mem_cons,List.mem_nil_iff,or_false] at hu; rcases hu with rfl | rfl | rfl | rfl | rfl | rfl | rfl | rfl <;> first | exact rfl | exact (Kh _ p4 _ (ms rfl)) | exact (Kh _ p2 _ (ms rfl)) | exact (Kh _ p5 _ (ms rfl)) | exact (Kh _ p6 _ (ms rfl)) | exact (Kh _ p3 _ (ms rfl)) | exact (Kh _ pa _ (ms rfl)) | exact (Kh _ pb _ (ms rfl))) fun gd p07 pc=>?_
 replace pc:Row gd p1 [.int .i64 (y16.1.C.Objects),v20,v23,v26,v29,v32,v35,v38] 78:=pc
 have q3:=((cr [] ka).nil (G:=[p1])).trans p07
 replace p4:=Kg _ p4 q3 (g5).symm
 replace p2:=Kg _ p2 q3 (g6).symm
 replace p5:=Kg _ p5 q3 (g7).symm
 replace p6:=Kg _ p6 q3 (g8).symm
 replace p3:=Kg _ p3 q3 (g9).symm
 replace pa:=Kg _ pa q3 (ga).symm
 replace pb:=Kg _ pb q3 (gb).symm
 replace hr4:=Kl hr4 q3 ((g4).symm _ (ms rfl))
 replace p0:=Kl p0 q3 ((kc).symm _ (ms rfl))
 replace p7:=okp p7 q3 (gc).symm
 replace hB:=hB.then q3 (Ke p06)
 refine wv (v:=v41) rfl (oa _) ?_
 refine wv (v:=.int .i64 (y16.2.2)) rfl (oa _) ?_
 refine anz ?_
 refine wq ?_
 refine wq ?_
 refine Wq rfl (cr [] gd) ?_
 refine qv (v:=.int .i64 (y16.2.2)) rfl (fun _ _=>om _) ?_
 refine qv (v:=.bool ((y16.2.2) != ((0:Int)))) rfl (fun _ _=>Kv rfl rfl bin_neq) ?_
 intro p2e kd
 refine anz ?_
 refine W_cond (b:=(y16.2.2) != ((0:Int))) rfl ?_ ?_
 intro ke
 rw [ke] at ho
 refine wq ?_
 refine Ko rfl ?_
 refine wv (v:=.agg #[.int .i64 ((0:Int)),.slice none 0 0,.slice none 0 0,.slice none 0 0,.slice none 0 0,.slice none 0 0]) rfl (op_build (bld30_)) ?_
 refine wv (v:=.int .i64 (y16.2.2)) rfl (om _) ?_
 refine WL.storeAll (us:=[.int .i64 ((0:Int)),.slice none 0 0,.slice none 0 0,.slice none 0 0,.slice none 0 0,.slice none 0 0]) info30 (by rw [sz30]; rfl) (kr p0 kd) rfl rfl rfl (by intro u hu; simp only [List.mem_cons,List.mem_nil_iff,or_false] at hu; rcases hu with rfl | rfl | rfl | rfl | rfl | rfl <;> first | exact rfl) fun kf p08 kg=>?_
 replace kg:Row kf b8 [.int .i64 ((0:Int)),.slice none 0 0,.slice none 0 0,.slice none 0 0,.slice none 0 0,.slice none 0 0] 30:=kg
 have q4:=(kd.nil (G:=[b8])).trans p08
 replace p4:=Kg _ p4 q4 nw
 replace p2:=Kg _ p2 q4 nx
 replace p5:=Kg _ p5 q4 ny
 replace p6:=Kg _ p6 q4 nz
 replace p3:=Kg _ p3 q4 g0
 replace pa:=Kg _ pa q4 g1
 replace pb:=Kg _ pb q4 g2
 replace hr4:=Kl hr4 q4 ((qy).symm _ (ms rfl))
 replace p7:=okp p7 q4 g3
 replace pc:=Kl pc q4 (kc _ (ms rfl))
 replace hB:=hB.then q4 (Ke p8)
 refine wv (v:=.int .i64 (y16.2.2)) rfl (oa _) ?_
 refine anz ?_
 cases ho
 exact W_ret ⟨_,res_c1 Tryz.results26 u30 rfl info30 (by rw [sz30]; rfl) rfl (kr kg (cr [] kf)).at,_,_,_,_,_,_,_,_,_,_,rfl,(hB.trans (cr [] kf)),nil_OE,nil_OE,nil_OE,nil_OE,nil_OE,(fun _ h=>nomatch h),(fun _ h=>nomatch h),(fun _ h=>nomatch h),(fun _ h=>nomatch h),(fun _ h=>nomatch h),(fun _ h=>nomatch h),(fun _ h=>nomatch h),(fun _ h=>nomatch h),(fun _ h=>nomatch h),(fun _ h=>nomatch h)⟩
 intro ke
 rw [ke] at ho
 refine W_skip ?_
 refine anz ?_
 refine wq ?_
 refine wq ?_
 refine Wq rfl kd ?_
 refine qv (v:=.int .i64 ((0:Int))) rfl (fun _ _=>oa _) ?_
 intro p2f pv
 refine anz ?_
 refine W_for (S1:=Int×(List (List Bool))) (fun s r w'=>match s with | (s0_7,s0_o43)=>∃ (pr:List Nat),Chg [] w w'∧Row w' b1 [.int .i64 (x0.Objects),z6,z7,z9,z8] 27∧Row w' b8 [.int .i64 ((0:Int)),.slice none 0 0,.slice none 0 0,.slice none 0 0,.slice none 0 0,.slice none 0 0] 30∧(sImm (sInt .i64)).rep w'.heap [v20] (y16.1.C.From) ph∧(sImm (sInt .i64)).rep w'.heap [v23] (y16.1.C.To) pf∧(sImm (sInt .i64)).rep w'.heap [v26] (y16.1.C.Identity) pi∧(sImm (sImm (sInt .i64))).rep w'.heap [v29] (y16.1.C.Composites) pj∧(sImm (sImm (sImm (sInt .i64)))).rep w'.heap [v32] (y16.1.Lists) pk∧(sImm (sImm (sInt .i64))).rep w'.heap [v35] (y16.1.Pulls) po∧(sImm (sInt .i64)).rep w'.heap [v38] (y16.1.Tops) pp∧OE [] w.heap.size w' (sOwn 82 (sOwn 4 sBool)) [v41] (s0_o43) pr∧Row w' p1 [.int .i64 (y16.1.C.Objects),v20,v23,v26,v29,v32,v35,v38] 78∧Dis [b1] [b8]∧Dis [b1] ph∧Dis [b1] pf∧Dis [b1] pi∧Dis [b1] pj∧Dis [b1] pk∧Dis [b1] po∧Dis [b1] pp∧Dis [b1] pr∧Dis [b1] [p1]∧Dis [b8] ph∧Dis [b8] pf∧Dis [b8] pi∧Dis [b8] pj∧Dis [b8] pk∧Dis [b8] po∧Dis [b8] pp∧Dis [b8] pr∧Dis [b8] [p1]∧Dis ph pr∧Dis ph [p1]∧Dis pf pr∧Dis pf [p1]∧Dis pi pr∧Dis pi [p1]∧Dis pj pr∧Dis pj [p1]∧Dis pk pr∧Dis pk [p1]∧Dis po pr∧Dis po [p1]∧Dis pp pr∧Dis pp [p1]∧Dis pr [p1]∧∃ F,r=updL F [(1,.pointer (some (⟨b1,0,none⟩))),(2,.pointer (some (⟨b8,0,none⟩))),(4,.pointer (some (⟨p1,0,none⟩))),(5,v41),(7,.int .i64 (s0_7))]) (T:=spec_DenseTopology_T w) ho ⟨_,(hB.trans pv),(kr hr4 pv),(kr p0 pv),(kp _ p4 pv),(kp _ p2 pv),(kp _ p5 pv),(kp _ p6 pv),(kp _ p3 pv),(kp _ pa pv),(kp _ pb pv),(ko p7 pv),(kr pc pv),((qy).symm),((gx).symm),((gy).symm),((gz).symm),((d89).symm),((d92).symm),((d95).symm),((d98).symm),((p04).symm),((g4).symm),((nw).symm),((nx).symm),((ny).symm),((nz).symm),((g0).symm),((g1).symm),((g2).symm),((g3).symm),((kc).symm),(k8),((g5).symm),(gr),((g6).symm),(gs),((g7).symm),(gt),((g8).symm),(gu),((g9).symm),(gv),((ga).symm),(gw),((gb).symm),((gc).symm),fr ⟨rfl,rfl,rfl,rfl,rfl,trivial⟩⟩ ?_ ?_ ?_
 intro x r w' ho hx; subst ho; exact hx
 rintro ⟨s0_7,s0_o43⟩ _ p09 ⟨pr,hB,hr4,p0,p4,p2,p5,p6,p3,pa,pb,p7,pc,qz,kh,ki,kj,kk,kl,km,kn,kq,ks,j0,j1,j2,j3,j4,j5,j6,j7,j8,kt,ku,kv,kw,kx,ky,kz,n0,n1,n2,n3,n4,n5,n6,n7,F,rfl⟩ o ho
 replace ho:spec_DenseTopology_L0 x0 y16 s0_7 s0_o43=some o:=ho
 unfold spec_DenseTopology_L0 at ho
 refine wq ?_
 refine wq ?_
 refine Wq rfl (cr [] p09) ?_
 refine qv (v:=.int .i64 (s0_7)) rfl (fun _ _=>om _) ?_
 refine qv (v:=v41) rfl (fun _ _=>om _) ?_
 refine qv (v:=.int .i64 ((s0_o43.length:Int))) rfl (fun _ hC=>op_lenI u79 ((Ka (Ka (Kb _) 4) 82).le (kp _ p7.1 hC))) ?_
 refine qv (v:=.bool (decide (s0_7 < (s0_o43.length:Int)))) rfl (fun _ _=>Kv rfl rfl bin_lss) ?_
 intro p2g ps
 refine anz ?_
 refine W_cond (b:=decide (s0_7 < (s0_o43.length:Int))) rfl ?_ ?_
 intro n8
 rw [n8] at ho
 refine W_skip ?_
 refine anz ?_
 refine wq ?_
 refine W_block ?_
 refine wq ?_
 refine Wq rfl ps ?_
 refine qv (v:=.int .i64 ((0:Int))) rfl (fun _ _=>oa _) ?_
 intro p2h pw
 refine anz ?_
 refine W_for (S1:=Int×(List (List Bool))) (fun s r w'=>match s with | (s1_8,s1_o43)=>∃ (pt:List Nat),Chg [] w w'∧Row w' b1 [.int .i64 (x0.Objects),z6,z7,z9,z8] 27∧Row w' b8 [.int .i64 ((0:Int)),.slice none 0 0,.slice none 0 0,.slice none 0 0,.slice none 0 0,.slice none 0 0] 30∧(sImm (sInt .i64)).rep w'.heap [v20] (y16.1.C.From) ph∧(sImm (sInt .i64)).rep w'.heap [v23] (y16.1.C.To) pf∧(sImm (sInt .i64)).rep w'.heap [v26] (y16.1.C.Identity) pi∧(sImm (sImm (sInt .i64))).rep w'.heap [v29] (y16.1.C.Composites) pj∧(sImm (sImm (sImm (sInt .i64)))).rep w'.heap [v32] (y16.1.Lists) pk∧(sImm (sImm (sInt .i64))).rep w'.heap [v35] (y16.1.Pulls) po∧(sImm (sInt .i64)).rep w'.heap [v38] (y16.1.Tops) pp∧OE [] w.heap.size w' (sOwn 82 (sOwn 4 sBool)) [v41] (s1_o43) pt∧Row w' p1 [.int .i64 (y16.1.C.Objects),v20,v23,v26,v29,v32,v35,v38] 78∧Dis [b1] [b8]∧Dis [b1] ph∧Dis [b1] pf∧Dis [b1] pi∧Dis [b1] pj∧Dis [b1] pk∧Dis [b1] po∧Dis [b1] pp∧Dis [b1] pt∧Dis [b1] [p1]∧Dis [b8] ph∧Dis [b8] pf∧Dis [b8] pi∧Dis [b8] pj∧Dis [b8] pk∧Dis [b8] po∧Dis [b8] pp∧Dis [b8] pt∧Dis [b8] [p1]∧Dis ph pt∧Dis ph [p1]∧Dis pf pt∧Dis pf [p1]∧Dis pi pt∧Dis pi [p1]∧Dis pj pt∧Dis pj [p1]∧Dis pk pt∧Dis pk [p1]∧Dis po pt∧Dis po [p1]∧Dis pp pt∧Dis pp [p1]∧Dis pt [p1]∧∃ F,r=updL F [(1,.pointer (some (⟨b1,0,none⟩))),(2,.pointer (some (⟨b8,0,none⟩))),(4,.pointer (some (⟨p1,0,none⟩))),(5,v41),(7,.int .i64 (s0_7)),(8,.int .i64 (s1_8))]) (T:=spec_DenseTopology_T w) ho ⟨_,(hB.trans pw),(kr hr4 pw),(kr p0 pw),(kp _ p4 pw),(kp _ p2 pw),(kp _ p5 pw),(kp _ p6 pw),(kp _ p3 pw),(kp _ pa pw),(kp _ pb pw),(ko p7 pw),(kr pc pw),(qz),(kh),(ki),(kj),(kk),(kl),(km),(kn),(kq),(ks),(j0),(j1),(j2),(j3),(j4),(j5),(j6),(j7),(j8),(kt),(ku),(kv),(kw),(kx),(ky),(kz),(n0),(n1),(n2),(n3),(n4),(n5),(n6),(n7),fr ⟨rfl,rfl,rfl,rfl,rfl,rfl,trivial⟩⟩ ?_ ?_ ?_
 intro x r w' ho hx; subst ho; exact hx
 rintro ⟨s1_8,s1_o43⟩ _ p0a ⟨pt,hB,hr4,p0,p4,p2,p5,p6,p3,pa,pb,p7,pc,j9,ja,jb,jc,jd,je,jf,jg,qk,jh,ji,jj,jk,jl,jm,jn,jo,ql,jp,qm,jq,qn,jr,qo,js,qp,jt,qq,ju,qr,jv,qt,jw,qu,F,rfl⟩ o ho
 replace ho:spec_DenseTopology_L1 x0 y16 s0_7 s1_8 s1_o43=some o:=ho
 unfold spec_DenseTopology_L1 at ho
 refine wq ?_
 refine wq ?_
 refine Wq rfl (cr [] p0a) ?_
 refine qv (v:=.int .i64 (s1_8)) rfl (fun _ _=>om _) ?_
 refine qv (v:=v41) rfl (fun _ _=>om _) ?_
 refine qv (v:=.int .i64 (s0_7)) rfl (fun _ _=>om _) ?_
 obtain ⟨e211,hx212e,ho⟩:=bs ho
 have hx212:=idx_some hx212e
 refine qv (v:=.pointer (some (elA (v41) 1 (s0_7)))) rfl (fun _ hC=>op_indexI u79 info82 sz82 rfl ((Ka (Ka (Kb _) 4) 82).le (kp _ p7.1 hC)) rfl hx212.1 hx212.2) ?_
 obtain ⟨u213,fu214,hu215,n9,hs217⟩:=one_get rfl ((Ka (Ka (Kb _) 4) 82).le p7.1) hx212.1 hx212.2
 refine qv (v:=u213) rfl (fun _ hC=>oldz u82 rfl rfl (hC.cell0 hu215)) ?_
 refine qv (v:=.int .i64 ((e211.length:Int))) rfl (fun _ hC=>op_lenI u82 (kp _ n9 hC)) ?_
 refine qv (v:=.bool (decide (s1_8 < (e211.length:Int)))) rfl (fun _ _=>Kv rfl rfl bin_lss) ?_
 intro p2i p9
 refine anz ?_
 refine W_cond (b:=decide (s1_8 < (e211.length:Int))) rfl ?_ ?_
 intro na
 rw [na] at ho
 refine W_skip ?_
 refine anz ?_
 refine wq ?_
 refine W_block ?_
 obtain ⟨e221,hx222e,ho⟩:=bs ho
 have hx222:=idx_some hx222e
 obtain ⟨u223,fu224,hu225,nb,hs227⟩:=one_get rfl ((Ka (Ka (Kb _) 4) 82).le p7.1) hx222.1 hx222.2
 obtain ⟨e228,hx229e,ho⟩:=bs ho
 have hx229:=idx_some hx229e
 obtain ⟨u230,fu231,hu232,qf,hs234⟩:=one_get rfl p3 hx229.1 hx229.2
 obtain ⟨e235,hx236e,ho⟩:=bs ho
 have hx236:=idx_some hx236e
 obtain ⟨u237,fu238,hu239,qw,hs241⟩:=one_get rfl qf hx236.1 hx236.2
 obtain ⟨y242,p0b,ho⟩:=bs ho
 refine W_any (m:=16) (U:=[[],[],[],[],[],[],[],[],[],[],[],[],[],[],[],[]]) (S:=[⟨true,pl fun _ _ u=>u=(v41:Value)⟩,⟨true,pl fun _ _ u=>u=(.int .i64 (s0_7):Value)⟩,⟨true,pl fun _ _ u=>u=(.pointer (some (elA (v41) 1 (s0_7))):Value)⟩,⟨true,pl fun _ _ u=>u=(u223:Value)⟩,⟨true,pl fun _ _ u=>u=(.int .i64 (s1_8):Value)⟩,⟨true,pl fun _ _ u=>u=(.agg #[.int .i64 (x0.Objects),z6,z7,z9,z8]:Value)⟩,⟨true,pl fun _ _ u=>u=(.int .i64 (s0_7):Value)⟩,⟨true,pl fun _ _ u=>u=(.pointer (some (⟨p1,5,none⟩)):Value)⟩,⟨true,pl fun _ _ u=>u=(v32:Value)⟩,⟨true,pl fun _ _ u=>u=(.int .i64 (s0_7):Value)⟩,⟨true,pl fun _ _ u=>u=(.pointer (some (elA (v32) 1 (s0_7))):Value)⟩,⟨true,pl fun _ _ u=>u=(u230:Value)⟩,⟨true,pl fun _ _ u=>u=(.int .i64 (s1_8):Value)⟩,⟨true,pl fun _ _ u=>u=(.pointer (some (elA (u230) 1 (s1_8))):Value)⟩,⟨true,pl fun _ _ u=>u=(u237:Value)⟩,⟨true,pl fun _ _ u=>u=(.bool (y242):Value)⟩]) (Z:=[]) hmix rfl (by decide) (by decide +kernel) (fun _ _ _ h=>np_out h) (by decide) rfl (by decide +kernel) (stable_all <| Kx stable_val (Kx stable_val (Kx stable_val (Kx stable_val (Kx stable_val (Kx stable_val (Kx stable_val (Kx stable_val (Kx stable_val (Kx stable_val (Kx stable_val (Kx stable_val (Kx stable_val (Kx stable_val (Kx stable_val (Kx stable_val ( stable_nil))))))))))))))))) ?_ ?_
 refine Ky ?_ ( Ky ?_ ( Ky ?_ ( Ky ?_ ( Ky ?_ ( Ky ?_ ( Ky ?_ ( Ky ?_ ( Ky ?_ ( Ky ?_ ( Ky ?_ ( Ky ?_ ( Ky ?_ ( Ky ?_ ( Ky ?_ ( Ky ?_ ( owes_nil))))))))))))))))
 refine Owes.val rfl rfl rfl ?_
 intro g r wr hCr H hot
 have hC:=p9.trans hCr
 obtain ⟨F,rfl⟩:=fr (r:=r) (l:=[(5,v41)]) ⟨(hot 5 (by decide)),trivial⟩
 exact om _
 refine Owes.val rfl rfl rfl ?_
 intro g r wr hCr H hot
 have hC:=p9.trans hCr
 obtain ⟨F,rfl⟩:=fr (r:=r) (l:=[(7,.int .i64 (s0_7))]) ⟨(hot 7 (by decide)),trivial⟩
 exact om _
 refine Owes.val rfl rfl rfl ?_
 intro g r wr hCr H hot
 have hC:=p9.trans hCr
 obtain ⟨F,rfl⟩:=fr (r:=r) (l:=[(34,v41),(35,.int .i64 (s0_7))]) ⟨(H 0 (by decide +kernel) 34 rfl),(H 1 (by decide +kernel) 35 rfl),trivial⟩
 exact op_indexI u79 info82 sz82 rfl ((Ka (Ka (Kb _) 4) 82).le (kp _ p7.1 hC)) rfl hx222.1 hx222.2
 refine Owes.val rfl rfl rfl ?_
 intro g r wr hCr H hot
 have hC:=p9.trans hCr
 obtain ⟨F,rfl⟩:=fr (r:=r) (l:=[(36,.pointer (some (elA (v41) 1 (s0_7))))]) ⟨(H 2 (by decide +kernel) 36 rfl),trivial⟩
 exact oldz u82 rfl rfl (hC.cell0 hu225)
 refine Owes.val rfl rfl rfl ?_
 intro g r wr hCr H hot
 have hC:=p9.trans hCr
 obtain ⟨F,rfl⟩:=fr (r:=r) (l:=[(8,.int .i64 (s1_8))]) ⟨(hot 8 (by decide)),trivial⟩
 exact om _
 refine Owes.val rfl rfl rfl ?_
 intro g r wr hCr H hot
 have hC:=p9.trans hCr
 obtain ⟨F,rfl⟩:=fr (r:=r) (l:=[(1,.pointer (some (⟨b1,0,none⟩)))]) ⟨(hot 1 (by decide)),trivial⟩
 exact Kk u27z rfl info27 (by rw [sz27]; rfl) rfl (kr hr4 hC).at
 refine Owes.val rfl rfl rfl ?_
 intro g r wr hCr H hot
 have hC:=p9.trans hCr
 obtain ⟨F,rfl⟩:=fr (r:=r) (l:=[(7,.int .i64 (s0_7))]) ⟨(hot 7 (by decide)),trivial⟩
 exact om _
 refine Owes.val rfl rfl rfl ?_
 intro g r wr hCr H hot
 have hC:=p9.trans hCr
 obtain ⟨F,rfl⟩:=fr (r:=r) (l:=[(4,.pointer (some (⟨p1,0,none⟩)))]) ⟨(hot 4 (by decide)),trivial⟩
 exact Kp u78 rfl info28 ne28 rfl rfl
 refine Owes.val rfl rfl rfl ?_
 intro g r wr hCr H hot
 have hC:=p9.trans hCr
 obtain ⟨F,rfl⟩:=fr (r:=r) (l:=[(41,.pointer (some (⟨p1,5,none⟩)))]) ⟨(H 7 (by decide +kernel) 41 rfl),trivial⟩
 exact oldz u28 rfl rfl ((kr pc hC).at.cell (j:=5) rfl)
 refine Owes.val rfl rfl rfl ?_
 intro g r wr hCr H hot
 have hC:=p9.trans hCr
 obtain ⟨F,rfl⟩:=fr (r:=r) (l:=[(7,.int .i64 (s0_7))]) ⟨(hot 7 (by decide)),trivial⟩
 exact om _
 refine Owes.val rfl rfl rfl ?_
 intro g r wr hCr H hot
 have hC:=p9.trans hCr
 obtain ⟨F,rfl⟩:=fr (r:=r) (l:=[(42,v32),(43,.int .i64 (s0_7))]) ⟨(H 8 (by decide +kernel) 42 rfl),(H 9 (by decide +kernel) 43 rfl),trivial⟩
 exact op_indexI u28 info23 sz23 rfl (kp _ p3 hC) rfl hx229.1 hx229.2
 refine Owes.val rfl rfl rfl ?_
 intro g r wr hCr H hot
 have hC:=p9.trans hCr
 obtain ⟨F,rfl⟩:=fr (r:=r) (l:=[(44,.pointer (some (elA (v32) 1 (s0_7))))]) ⟨(H 10 (by decide +kernel) 44 rfl),trivial⟩
 exact oldz u23z rfl rfl (hC.cell0 hu232)
 refine Owes.val rfl rfl rfl ?_
 intro g r wr hCr H hot
 have hC:=p9.trans hCr
 obtain ⟨F,rfl⟩:=fr (r:=r) (l:=[(8,.int .i64 (s1_8))]) ⟨(hot 8 (by decide)),trivial⟩
 exact om _
 refine Owes.val rfl rfl rfl ?_
 intro g r wr hCr H hot
 have hC:=p9.trans hCr
 obtain ⟨F,rfl⟩:=fr (r:=r) (l:=[(45,u230),(46,.int .i64 (s1_8))]) ⟨(H 11 (by decide +kernel) 45 rfl),(H 12 (by decide +kernel) 46 rfl),trivial⟩
 exact op_indexI u23z info22 sz22 rfl (kp _ qf hC) rfl hx236.1 hx236.2
 refine Owes.val rfl rfl rfl ?_
 intro g r wr hCr H hot
 have hC:=p9.trans hCr
 obtain ⟨F,rfl⟩:=fr (r:=r) (l:=[(47,.pointer (some (elA (u230) 1 (s1_8))))]) ⟨(H 13 (by decide +kernel) 47 rfl),trivial⟩
 exact oldz u22z rfl rfl (hC.cell0 hu239)
 refine Owes.call (f:=73) rfl rfl rfl ?_
 intro g r wr hCr H hot
 have hC:=p9.trans hCr
 obtain ⟨F,rfl⟩:=fr (r:=r) (l:=[(39,.agg #[.int .i64 (x0.Objects),z6,z7,z9,z8]),(40,.int .i64 (s0_7)),(48,u237)]) ⟨(H 5 (by decide +kernel) 39 rfl),(H 6 (by decide +kernel) 40 rfl),(H 14 (by decide +kernel) 48 rfl),trivial⟩
 exact ⟨_,Ks Tryz.func73 rfl rfl,spec_l27Dense_calls (kp _ za (hB.trans hC)) (kp _ zb (hB.trans hC)) (kp _ zd (hB.trans hC)) (kp _ zc (hB.trans hC)) (kp _ qw hC) p0b⟩
 rintro g r px ⟨p0c,hdone,hot,hfresh,hdis⟩
 have hdd:=hdis
 obtain ⟨F,rfl⟩:=fr (r:=r) (l:=[(1,.pointer (some (⟨b1,0,none⟩))),(2,.pointer (some (⟨b8,0,none⟩))),(4,.pointer (some (⟨p1,0,none⟩))),(5,v41),(7,.int .i64 (s0_7)),(8,.int .i64 (s1_8)),(37,u223),(38,.int .i64 (s1_8)),(49,.bool (y242))]) ⟨(hot 1 (by decide)),(hot 2 (by decide)),(hot 4 (by decide)),(hot 5 (by decide)),(hot 7 (by decide)),(hot 8 (by decide)),(hdone 3 (by decide) (by decide) 37 rfl),(hdone 4 (by decide) (by decide) 38 rfl),(hdone 15 (by decide) (by decide) 49 rfl),trivial⟩
 have pd:=(p9.trans p0c)
 replace hr4:=kr hr4 pd
 replace p0:=kr p0 pd
 replace p4:=kp _ p4 pd
 replace p2:=kp _ p2 pd
 replace p5:=kp _ p5 pd
 replace p6:=kp _ p6 pd
 replace p3:=kp _ p3 pd
 replace pa:=kp _ pa pd
 replace pb:=kp _ pb pd
 replace p7:=ko p7 pd
 replace pc:=kr pc pd
 replace hu215:=pd.cell0 hu215
 replace n9:=kp _ n9 pd
 replace hu225:=pd.cell0 hu225
 replace nb:=kp _ nb pd
 replace hu232:=pd.cell0 hu232
 replace qf:=kp _ qf pd
 replace hu239:=pd.cell0 hu239
 replace qw:=kp _ qw pd
 replace hB:=(hB.trans pd)
 obtain ⟨e247,hx248e,ho⟩:=bs ho
 have hx248:=idx_some hx248e
 refine wv (v:=.pointer (some (elA (u223) 1 (s1_8)))) rfl (op_indexI u82 info4 sz4 rfl (kp _ nb (cr [] px)) rfl hx248.1 hx248.2) ?_
 obtain ⟨k249,p0d,hk251,hf252⟩:=own_focus rfl hB.size p7 hx222.2 hu225
 have p0e:Dis k249 [b1]:=fun b hb=>(qk).symm b (hk251 b hb)
 have p0f:Dis k249 [b8]:=fun b hb=>(ql).symm b (hk251 b hb)
 have p0g:Dis k249 ph:=fun b hb=>(qm).symm b (hk251 b hb)
 have p0h:Dis k249 pf:=fun b hb=>(qn).symm b (hk251 b hb)
 have p0i:Dis k249 pi:=fun b hb=>(qo).symm b (hk251 b hb)
 have p0j:Dis k249 pj:=fun b hb=>(qp).symm b (hk251 b hb)
 have nc:Dis k249 pk:=fun b hb=>(qq).symm b (hk251 b hb)
 have p0k:Dis k249 po:=fun b hb=>(qr).symm b (hk251 b hb)
 have p0l:Dis k249 pp:=fun b hb=>(qt).symm b (hk251 b hb)
 have p0m:Dis k249 [p1]:=fun b hb=>qu b (hk251 b hb)
 refine WL.storeEl (z':=y242) _ _ sBool_nofp rfl info4 sz4 p0d hx248.2 rfl rfl ⟨rfl,rfl⟩ fun p0n ge p0o=>?_
 obtain ⟨q5,p0p,hs268⟩:=hf252 _ _ _ ge p0o
 have p0q:Dis q5 [b1]:=dis_upd (k:=[]) (fun b hb=>(hs268 b hb).elim .inl fun h=>.inr (.inr h)) (qk).symm (fun _ h=>nomatch h) (Kc (Kd (kr hr4 (cr [] px))))
 have p0r:Dis q5 [b8]:=dis_upd (k:=[]) (fun b hb=>(hs268 b hb).elim .inl fun h=>.inr (.inr h)) (ql).symm (fun _ h=>nomatch h) (Kc (Kd (kr p0 (cr [] px))))
 have p0s:Dis q5 ph:=dis_upd (k:=[]) (fun b hb=>(hs268 b hb).elim .inl fun h=>.inr (.inr h)) (qm).symm (fun _ h=>nomatch h) (sl _ (kp _ p4 (cr [] px)))
 have p0t:Dis q5 pf:=dis_upd (k:=[]) (fun b hb=>(hs268 b hb).elim .inl fun h=>.inr (.inr h)) (qn).symm (fun _ h=>nomatch h) (sl _ (kp _ p2 (cr [] px)))
 have p0u:Dis q5 pi:=dis_upd (k:=[]) (fun b hb=>(hs268 b hb).elim .inl fun h=>.inr (.inr h)) (qo).symm (fun _ h=>nomatch h) (sl _ (kp _ p5 (cr [] px)))
 have p0v:Dis q5 pj:=dis_upd (k:=[]) (fun b hb=>(hs268 b hb).elim .inl fun h=>.inr (.inr h)) (qp).symm (fun _ h=>nomatch h) (sl _ (kp _ p6 (cr [] px)))
 have p0w:Dis q5 pk:=dis_upd (k:=[]) (fun b hb=>(hs268 b hb).elim .inl fun h=>.inr (.inr h)) (qq).symm (fun _ h=>nomatch h) (sl _ (kp _ p3 (cr [] px)))
 have p0x:Dis q5 po:=dis_upd (k:=[]) (fun b hb=>(hs268 b hb).elim .inl fun h=>.inr (.inr h)) (qr).symm (fun _ h=>nomatch h) (sl _ (kp _ pa (cr [] px)))
 have p0y:Dis q5 pp:=dis_upd (k:=[]) (fun b hb=>(hs268 b hb).elim .inl fun h=>.inr (.inr h)) (qt).symm (fun _ h=>nomatch h) (sl _ (kp _ pb (cr [] px)))
 have p0z:Dis q5 [p1]:=dis_upd (k:=[]) (fun b hb=>(hs268 b hb).elim .inl fun h=>.inr (.inr h)) qu (fun _ h=>nomatch h) (Kc (Kd (kr pc (cr [] px))))
 have pu:=((cr [] px).nil (G:=k249)).trans ge
 replace p4:=Kg _ p4 pu (p0g).symm
 replace p2:=Kg _ p2 pu (p0h).symm
 replace p5:=Kg _ p5 pu (p0i).symm
 replace p6:=Kg _ p6 pu (p0j).symm
 replace p3:=Kg _ p3 pu (nc).symm
 replace pa:=Kg _ pa pu (p0k).symm
 replace pb:=Kg _ pb pu (p0l).symm
 replace qf:=Kg _ qf pu (fun b hb=>(nc).symm b (hs234 b hb))
 replace qw:=Kg _ qw pu (fun b hb=>(fun b hb=>(nc).symm b (hs234 b hb)) b (hs241 b hb))
 replace hr4:=Kl hr4 pu ((p0e).symm _ (ms rfl))
 replace p0:=Kl p0 pu ((p0f).symm _ (ms rfl))
 replace pc:=Kl pc pu ((p0m).symm _ (ms rfl))
 replace hB:=hB.then pu (fun b hb=>p7.2.2 b (hk251 b hb))
 refine inBlk_n ?_
 refine anz ?_
 refine Wq rfl (cr [] p0n) ?_
 refine qv (v:=.int .i64 (s1_8)) rfl (fun _ _=>om _) ?_
 refine qv (v:=.int .i64 (w64 (s1_8 + (1:Int)))) rfl (fun _ _=>Kv rfl rfl bin_add) ?_
 refine qv (v:=.int .i64 (w64 (s1_8 + (1:Int)))) rfl (fun _ _=>oa _) ?_
 intro p2j py
 cases ho
 exact ⟨_,(hB.trans py),(kr hr4 py),(kr p0 py),(kp _ p4 py),(kp _ p2 py),(kp _ p5 py),(kp _ p6 py),(kp _ p3 py),(kp _ pa py),(kp _ pb py),(ko p0p py),(kr pc py),(j9),(ja),(jb),(jc),(jd),(je),(jf),(jg),((p0q).symm),(jh),(ji),(jj),(jk),(jl),(jm),(jn),(jo),((p0r).symm),(jp),((p0s).symm),(jq),((p0t).symm),(jr),((p0u).symm),(js),((p0v).symm),(jt),((p0w).symm),(ju),((p0x).symm),(jv),((p0y).symm),(jw),(p0z),fr ⟨rfl,rfl,rfl,rfl,rfl,rfl,trivial⟩⟩
 intro na
 rw [na] at ho
 refine W_exit ?_
 refine andThen_x ?_
 cases ho
 exact ⟨rfl,⟨_,(hB.trans p9),(kr hr4 p9),(kr p0 p9),(kp _ p4 p9),(kp _ p2 p9),(kp _ p5 p9),(kp _ p6 p9),(kp _ p3 p9),(kp _ pa p9),(kp _ pb p9),(ko p7 p9),(kr pc p9),(j9),(ja),(jb),(jc),(jd),(je),(jf),(jg),(qk),(jh),(ji),(jj),(jk),(jl),(jm),(jn),(jo),(ql),(jp),(qm),(jq),(qn),(jr),(qo),(js),(qp),(jt),(qq),(ju),(qr),(jv),(qt),(jw),(qu),fr ⟨rfl,rfl,rfl,rfl,rfl,rfl,trivial⟩⟩⟩
 rintro ⟨s1_8,s1_o43⟩ _ p10 ⟨pt,hB,hr4,p0,p4,p2,p5,p6,p3,pa,pb,p7,pc,j9,ja,jb,jc,jd,je,jf,jg,qk,jh,ji,jj,jk,jl,jm,jn,jo,ql,jp,qm,jq,qn,jr,qo,js,qp,jt,qq,ju,qr,jv,qt,jw,qu,F,rfl⟩ ho
 dsimp only at ho
 refine inBlk_n ?_
 refine anz ?_
 refine Wq rfl (cr [] p10) ?_
 refine qv (v:=.int .i64 (s0_7)) rfl (fun _ _=>om _) ?_
 refine qv (v:=.int .i64 (w64 (s0_7 + (1:Int)))) rfl (fun _ _=>Kv rfl rfl bin_add) ?_
 refine qv (v:=.int .i64 (w64 (s0_7 + (1:Int)))) rfl (fun _ _=>oa _) ?_
 intro p2k pz
 cases ho
 exact ⟨_,(hB.trans pz),(kr hr4 pz),(kr p0 pz),(kp _ p4 pz),(kp _ p2 pz),(kp _ p5 pz),(kp _ p6 pz),(kp _ p3 pz),(kp _ pa pz),(kp _ pb pz),(ko p7 pz),(kr pc pz),(j9),(ja),(jb),(jc),(jd),(je),(jf),(jg),(qk),(jh),(ji),(jj),(jk),(jl),(jm),(jn),(jo),(ql),(jp),(qm),(jq),(qn),(jr),(qo),(js),(qp),(jt),(qq),(ju),(qr),(jv),(qt),(jw),(qu),fr ⟨rfl,rfl,rfl,rfl,rfl,trivial⟩⟩
 intro n8
 rw [n8] at ho
 refine W_exit ?_
 refine andThen_x ?_
 cases ho
 exact ⟨rfl,⟨_,(hB.trans ps),(kr hr4 ps),(kr p0 ps),(kp _ p4 ps),(kp _ p2 ps),(kp _ p5 ps),(kp _ p6 ps),(kp _ p3 ps),(kp _ pa ps),(kp _ pb ps),(ko p7 ps),(kr pc ps),(qz),(kh),(ki),(kj),(kk),(kl),(km),(kn),(kq),(ks),(j0),(j1),(j2),(j3),(j4),(j5),(j6),(j7),(j8),(kt),(ku),(kv),(kw),(kx),(ky),(kz),(n0),(n1),(n2),(n3),(n4),(n5),(n6),(n7),fr ⟨rfl,rfl,rfl,rfl,rfl,trivial⟩⟩⟩
 rintro ⟨s0_7,s0_o43⟩ _ pe ⟨pr,hB,hr4,p0,p4,p2,p5,p6,p3,pa,pb,p7,pc,qz,kh,ki,kj,kk,kl,km,kn,kq,ks,j0,j1,j2,j3,j4,j5,j6,j7,j8,kt,ku,kv,kw,kx,ky,kz,n0,n1,n2,n3,n4,n5,n6,n7,F,rfl⟩ ho
 dsimp only at ho
 refine anz ?_
 refine wq ?_
 refine Ko rfl ?_
 refine wv (v:=.agg #[.int .i64 (y16.1.C.Objects),v20,v23,v26,v29,v32,v35,v38]) rfl (Kk u78 rfl info78 (by rw [sz78]; rfl) rfl (kr pc (cr [] pe)).at) ?_
 refine wv (v:=v41) rfl (om _) ?_
 obtain ⟨y286,p11,ho⟩:=bs ho
 refine Kr rfl (Ks Tryz.func63 rfl rfl) (spec_l27Covers_calls (kp _ p4 (cr [] pe)) (kp _ p2 (cr [] pe)) (kp _ p5 (cr [] pe)) (kp _ p6 (cr [] pe)) (kp _ p3 (cr [] pe)) (kp _ pa (cr [] pe)) (kp _ pb (cr [] pe)) ((Ka (Ka (Kb _) 4) 82).le (kp _ p7.1 (cr [] pe))) p11) ?_
 rintro _ gf ⟨v290,p12,v293,p13,v296,p14,v299,p15,v302,p16,rfl,p17,q9,qa,qb,qc,qd,p18,p19,p1a,p1b,p1c,p1d,p1e,p1f,p1g,p1h⟩
 refine ⟨_,rfl,?_⟩
 have p1i:Dis p12 [b8]:=dl (ofr q9) (Kc (Kd (kr p0 (cr [] pe))))
 replace q9:=Ki (G:=[]) q9 (hB.trans (cr [] pe)).size
 have p1j:Dis p13 [b8]:=dl (ofr qa) (Kc (Kd (kr p0 (cr [] pe))))
 replace qa:=Ki (G:=[]) qa (hB.trans (cr [] pe)).size
 have p1k:Dis p14 [b8]:=dl (ofr qb) (Kc (Kd (kr p0 (cr [] pe))))
 replace qb:=Ki (G:=[]) qb (hB.trans (cr [] pe)).size
 have p1l:Dis p15 [b8]:=dl (ofr qc) (Kc (Kd (kr p0 (cr [] pe))))
 replace qc:=Ki (G:=[]) qc (hB.trans (cr [] pe)).size
 have p1m:Dis p16 [b8]:=dl (ofr qd) (Kc (Kd (kr p0 (cr [] pe))))
 replace qd:=Ki (G:=[]) qd (hB.trans (cr [] pe)).size
 have q0:=(cr [] pe).trans p17
 replace p4:=kp _ p4 q0
 replace p2:=kp _ p2 q0
 replace p5:=kp _ p5 q0
 replace p6:=kp _ p6 q0
 replace p3:=kp _ p3 q0
 replace pa:=kp _ pa q0
 replace pb:=kp _ pb q0
 replace hr4:=kr hr4 q0
 replace p0:=kr p0 q0
 replace p7:=ko p7 q0
 replace pc:=kr pc q0
 replace hB:=(hB.trans q0)
 refine WL.storeAll (us:=[.int .i64 (y286.Shape.Objects),v290,v293,v296,v299,v302]) info30 (by rw [sz30]; rfl) (kr p0 (cr [] gf)) rfl rfl rfl (by intro u hu; simp only [List.mem_cons,List.mem_nil_iff,or_false] at hu; rcases hu with rfl | rfl | rfl | rfl | rfl | rfl <;> first | exact rfl | exact (Kh _ q9.1 _ (ms rfl)) | exact (Kh _ qa.1 _ (ms rfl)) | exact (Kh _ qb.1 _ (ms rfl)) | exact (Kh _ qc.1 _ (ms rfl)) | exact (Kh _ qd.1 _ (ms rfl))) fun q7 p1n nd=>?_
 replace nd:Row q7 b8 [.int .i64 (y286.Shape.Objects),v290,v293,v296,v299,v302] 30:=nd
 have pm:=((cr [] gf).nil (G:=[b8])).trans p1n
 replace p4:=Kg _ p4 pm (j0).symm
 replace p2:=Kg _ p2 pm (j1).symm
 replace p5:=Kg _ p5 pm (j2).symm
 replace p6:=Kg _ p6 pm (j3).symm
 replace p3:=Kg _ p3 pm (j4).symm
 replace pa:=Kg _ pa pm (j5).symm
 replace pb:=Kg _ pb pm (j6).symm
 replace hr4:=Kl hr4 pm (qz _ (ms rfl))
 replace p7:=okp p7 pm (j7).symm
 replace pc:=Kl pc pm ((j8).symm _ (ms rfl))
 replace q9:=okp q9 pm p1i
 replace qa:=okp qa pm p1j
 replace qb:=okp qb pm p1k
 replace qc:=okp qc pm p1l
 replace qd:=okp qd pm p1m
 replace hB:=hB.then pm (Ke p8)
 refine wv (v:=.int .i64 ((0:Int))) rfl (oa _) ?_
 refine anz ?_
 cases ho
 exact W_ret ⟨_,res_c1 Tryz.results26 u30 rfl info30 (by rw [sz30]; rfl) rfl (kr nd (cr [] q7)).at,_,_,_,_,_,_,_,_,_,_,rfl,(hB.trans (cr [] q7)),(ko q9 (cr [] q7)),(ko qa (cr [] q7)),(ko qb (cr [] q7)),(ko qc (cr [] q7)),(ko qd (cr [] q7)),(p18),(p19),(p1a),(p1b),(p1c),(p1d),(p1e),(p1f),(p1g),(p1h)⟩

noncomputable def impl_DenseTopology_1_L0 (x1:(List Int)) (x2:MCategory) (y3:(List Int)) (s0_11:Int):Option (Out (Int) (Bool)):=
 (bif decide (s0_11 < (y3.length:Int)) then ((idx y3 (s0_11))>>=fun e15=>((impl_Category_pull x2 (e15) x1)>>=fun y19=>(bif ((y19.length:Int)) == ((0:Int)) then (some (Out.ret (false))) else (some (Out.norm (w64 (s0_11 + (1:Int)))))))) else (some (Out.exit 0 (s0_11))))
noncomputable def impl_DenseTopology_1 (x0:Int) (x1:(List Int)) (x2:MCategory):Option (Bool):=
 retM (S:=Unit) ((impl_Category_outOf x2 (x0))>>=fun y3=>(lbind (blockM 0 (loopM (impl_DenseTopology_1_L0 x1 x2 y3) ((0:Int)))) (fun s0_11=>(some (Out.ret (true))))))
abbrev impl_DenseTopology_1_post (w:World) (x:(Bool)) (e:Ending) (w':World):Prop:=e = .returned (.bool x)∧Chg [] w w'
abbrev impl_DenseTopology_1_T (w:World) (x:(Bool)) (r:Nat→Value) (w':World):Prop:=∃ v,(∀ a:Act,a.tmps.size=21→rho a=r→(results Tryz.f74 a.tmps).run Tryz.prog w' = .ok v w')∧impl_DenseTopology_1_post w x (.returned v) w'
theorem impl_DenseTopology_1_calls {w:World} {x0:Int} {x1:(List Int)} {v_x1:Value} {f_x1:List Nat} {x2:MCategory} {p_x2:Addr} {z2j:Value} {z2x:List Nat} {z2k:Value} {z2y:List Nat} {z2l:Value} {z30:List Nat} {z2m:Value} {z31:List Nat} (h_x1:(sImm (sInt .i64)).rep w.heap [v_x1] x1 f_x1) (z32:(sImm (sInt .i64)).rep w.heap [z2j] x2.From z2x) (z33:(sImm (sInt .i64)).rep w.heap [z2k] x2.To z2y) (z34:(sImm (sInt .i64)).rep w.heap [z2l] x2.Identity z30) (z35:(sImm (sImm (sInt .i64))).rep w.heap [z2m] x2.Composites z31) (a_x2:At w p_x2 [.int .i64 (x2.Objects),z2j,z2k,z2l,z2m]) {y:(Bool)} (hm:impl_DenseTopology_1 x0 x1 x2=some y) :
  Calls Tryz.prog 74 #[.int .i64 (x0),v_x1,.pointer (some (p_x2))] w (impl_DenseTopology_1_post w y):=by
 refine calls_of_M (S:=Unit) (args:=[.int .i64 (x0),v_x1,.pointer (some (p_x2))]) Tryz.func74 rfl Tryz.ntmps74 (Nat.le_of_ble_eq_true rfl) (retM_some hm) ?_
 clear hm
 intro o ho
 have hB:Chg [] w w:=cr _ _
 refine wq ?_
 refine Wq rfl (cr [] w) ?_
 refine qv (v:=.bool (false)) rfl (fun _ _=>oa _) ?_
 intro wd1 hC2
 refine anz ?_
 refine wq ?_
 refine wq ?_
 refine Ko rfl ?_
 refine wv (v:=.int .i64 (x0)) rfl (om _) ?_
 obtain ⟨y3,hy4,ho⟩:=bs ho
 refine Kr rfl (Ks Tryz.func75 rfl rfl) (impl_Category_outOf_calls (kp _ z32 (hB.trans hC2)) (kp _ z33 (hB.trans hC2)) (kp _ z34 (hB.trans hC2)) (kp _ z35 (hB.trans hC2)) (At.keep0 a_x2 (hB.trans hC2)) hy4) ?_
 rintro _ wd5 ⟨v7,f8,rfl,hC6,o9⟩
 refine ⟨_,rfl,?_⟩
 replace o9:=Ki (G:=[]) o9 (hB.trans hC2).size
 have p1o:=hC2.trans hC6
 replace hB:=(hB.trans p1o)
 refine wv (v:=.int .i64 ((y3.length:Int))) rfl (op_lenI u22z ((Ka (Kb _) 2).le (kp _ o9.1 (cr [] wd5)))) ?_
 refine wv (v:=.int .i64 ((0:Int))) rfl (om _) ?_
 refine anz ?_
 refine W_for (S1:=Int) (fun (s0_11:Int) r w'=>Chg [] w w'∧OE [] w.heap.size w' (sOwn 2 (sInt .i64)) [v7] (y3) f8∧∃ F,r=updL F [(1,v_x1),(2,.pointer (some (p_x2))),(9,v7),(10,.int .i64 ((y3.length:Int))),(11,.int .i64 (s0_11))]) (T:=impl_DenseTopology_1_T w) ho ⟨(hB.trans (cr [] wd5)),(ko o9 (cr [] wd5)),fr ⟨rfl,rfl,rfl,rfl,rfl,trivial⟩⟩ ?_ ?_ ?_
 intro x r w' ho hx; subst ho; exact hx
 rintro s0_11 _ ni ⟨hB,o9,F,rfl⟩ o ho
 replace ho:impl_DenseTopology_1_L0 x1 x2 y3 s0_11=some o:=ho
 unfold impl_DenseTopology_1_L0 at ho
 refine wq ?_
 refine Wq rfl (cr [] ni) ?_
 refine qv (v:=.bool (decide (s0_11 < (y3.length:Int)))) rfl (fun _ _=>Kv rfl rfl bin_lss) ?_
 intro p2l ne
 refine anz ?_
 refine wq ?_
 refine W_cond (b:=decide (s0_11 < (y3.length:Int))) rfl ?_ ?_
 intro nf
 rw [nf] at ho
 refine W_skip ?_
 refine anz ?_
 refine wq ?_
 refine W_block ?_
 refine wq ?_
 refine Wq rfl ne ?_
 obtain ⟨e15,hx16e,ho⟩:=bs ho
 have hx16:=idx_some hx16e
 refine qv (v:=.pointer (some (elA (v7) 1 (s0_11)))) rfl (fun _ hC=>op_indexI u22z info2 sz2 rfl ((Ka (Kb _) 2).le (kp _ o9.1 hC)) rfl hx16.1 hx16.2) ?_
 refine qv (v:=.int .i64 (e15)) rfl (fun _ hC=>oldz u2z rfl rfl (int_get ((Ka (Kb _) 2).le (kp _ o9.1 hC)) hx16.1 hx16.2)) ?_
 refine qv (v:=.int .i64 (e15)) rfl (fun _ _=>oa _) ?_
 intro p2m q8
 refine anz ?_
 refine wq ?_
 refine Ko rfl ?_
 refine wv (v:=.int .i64 (e15)) rfl (om _) ?_
 refine wv (v:=v_x1) rfl (om _) ?_
 obtain ⟨y19,p1p,ho⟩:=bs ho
 refine Kr rfl (Ks Tryz.func76 rfl rfl) (impl_Category_pull_calls (kp _ z32 (hB.trans q8)) (kp _ z33 (hB.trans q8)) (kp _ z34 (hB.trans q8)) (kp _ z35 (hB.trans q8)) (At.keep0 a_x2 (hB.trans q8)) (kp _ h_x1 (hB.trans q8)) p1p) ?_
 rintro _ qx ⟨v23,pf,rfl,k0,p2⟩
 refine ⟨_,rfl,?_⟩
 replace p2:=Ki (G:=[]) p2 (hB.trans q8).size
 have gg:=q8.trans k0
 replace o9:=ko o9 gg
 replace hB:=(hB.trans gg)
 refine wv (v:=.int .i64 ((y19.length:Int))) rfl (op_lenI u87 ((Ka (Kb _) 2).le (kp _ p2.1 (cr [] qx)))) ?_
 refine wv (v:=.bool (((y19.length:Int)) == ((0:Int)))) rfl (Kv rfl rfl bin_eql) ?_
 refine anz ?_
 refine W_cond (b:=((y19.length:Int)) == ((0:Int))) rfl ?_ ?_
 intro pq
 rw [pq] at ho
 refine wq ?_
 refine Wq rfl (cr [] qx) ?_
 refine qv (v:=.bool (false)) rfl (fun _ _=>oa _) ?_
 intro gk qh
 refine anz ?_
 cases ho
 exact W_ret ⟨_,res_1 Tryz.results74,rfl,(hB.trans qh)⟩
 intro pq
 rw [pq] at ho
 refine W_skip ?_
 refine inBlk_n ?_
 refine anz ?_
 refine Wq rfl (cr [] qx) ?_
 refine qv (v:=.int .i64 (w64 (s0_11 + (1:Int)))) rfl (fun _ _=>Kv rfl rfl bin_add) ?_
 refine qv (v:=.int .i64 (w64 (s0_11 + (1:Int)))) rfl (fun _ _=>om _) ?_
 intro p2n gh
 cases ho
 exact ⟨(hB.trans gh),(ko o9 gh),fr ⟨rfl,rfl,rfl,rfl,rfl,trivial⟩⟩
 intro nf
 rw [nf] at ho
 refine W_exit ?_
 refine andThen_x ?_
 cases ho
 exact ⟨rfl,⟨(hB.trans ne),(ko o9 ne),fr ⟨rfl,rfl,rfl,rfl,rfl,trivial⟩⟩⟩
 rintro s0_11 _ p1q ⟨hB,o9,F,rfl⟩ ho
 replace ho:=ho
 refine anz ?_
 refine wq ?_
 refine Wq rfl (cr [] p1q) ?_
 refine qv (v:=.bool (true)) rfl (fun _ _=>oa _) ?_
 intro p2o p1r
 refine anz ?_
 cases ho
 exact W_ret ⟨_,res_1 Tryz.results74,rfl,(hB.trans p1r)⟩

noncomputable def impl_DenseTopology (x0:MCategory):Option (MTopology×Int):=
 retM (S:=Unit) ((impl_chosenTopology x0 (fun a0 a1=>impl_DenseTopology_1 (a0) a1 x0))>>=fun y16=>(some (Out.ret ((y16.1,y16.2)))))
abbrev impl_DenseTopology_post (w:World) (x:(MTopology×Int)) (e:Ending) (w':World):Prop:=∃ (v0:Value) (f0:List Nat) (v1:Value) (f1:List Nat) (v2:Value) (f2:List Nat) (v3:Value) (f3:List Nat) (v4:Value) (f4:List Nat),e = .returned (.tuple #[.agg #[.int .i64 x.1.Shape.Objects,v0,v1,v2,v3,v4],.int .i64 x.2])∧Chg [] w w'∧OE [] w.heap.size w' (sOwn 2 (sInt .i64)) [v0] x.1.Shape.From f0∧OE [] w.heap.size w' (sOwn 2 (sInt .i64)) [v1] x.1.Shape.To f1∧OE [] w.heap.size w' (sOwn 2 (sInt .i64)) [v2] x.1.Shape.Identity f2∧OE [] w.heap.size w' (sOwn 22 (sOwn 2 (sInt .i64))) [v3] x.1.Shape.Composites f3∧OE [] w.heap.size w' (sOwn 23 (sOwn 22 (sOwn 2 (sInt .i64)))) [v4] x.1.Covers f4∧Dis f0 f1∧Dis f0 f2∧Dis f0 f3∧Dis f0 f4∧Dis f1 f2∧Dis f1 f3∧Dis f1 f4∧Dis f2 f3∧Dis f2 f4∧Dis f3 f4
abbrev impl_DenseTopology_T (w:World) (x:(MTopology×Int)) (r:Nat→Value) (w':World):Prop:=∃ v,(∀ a:Act,a.tmps.size=8→rho a=r→(results Tryz.f27 a.tmps).run Tryz.prog w' = .ok v w')∧impl_DenseTopology_post w x (.returned v) w'
theorem impl_DenseTopology_calls {w:World} {x0:MCategory} {z6:Value} {zh:List Nat} {z7:Value} {zg:List Nat} {z9:Value} {zf:List Nat} {z8:Value} {ze:List Nat} (za:(sImm (sInt .i64)).rep w.heap [z6] x0.From zh) (zb:(sImm (sInt .i64)).rep w.heap [z7] x0.To zg) (zd:(sImm (sInt .i64)).rep w.heap [z9] x0.Identity zf) (zc:(sImm (sImm (sInt .i64))).rep w.heap [z8] x0.Composites ze) {y:(MTopology×Int)} (hm:impl_DenseTopology x0=some y) :
  Calls Tryz.prog 27 #[.agg #[.int .i64 (x0.Objects),z6,z7,z9,z8]] w (impl_DenseTopology_post w y):=by
 refine calls_of_M (S:=Unit) (args:=[.agg #[.int .i64 (x0.Objects),z6,z7,z9,z8]]) Tryz.func27 rfl Tryz.ntmps27 (Nat.le_of_ble_eq_true rfl) (retM_some hm) ?_
 clear hm
 intro o ho
 have hB:Chg [] w w:=cr _ _
 refine wq ?_
 refine Ko rfl ?_
 refine WL.box fun b1 wd2 hC3 hr4 hl5=>?_
 replace hr4:Row wd2 b1 [.int .i64 (x0.Objects),z6,z7,z9,z8] 27:=hr4
 have hT7:=(cr [] w).trans hC3
 replace hB:=(hB.trans hT7)
 refine Kz info30 zr30 fun b8 wd9 k4 p0 qi=>?_
 replace p0:Row wd9 b8 [.int .i64 ((0:Int)),.slice none 0 0,.slice none 0 0,.slice none 0 0,.slice none 0 0,.slice none 0 0] 30:=p0
 have p8:w.heap.size≤b8:=Ku (hB.trans (cr [] wd2)).size qi
 have qy:Dis [b8] [b1]:=dl (onw qi) (Kc (Kd (kr hr4 (cr [] wd2))))
 have qj:=(cr [] wd2).trans k4
 replace hr4:=kr hr4 qj
 replace hB:=(hB.trans qj)
 refine wv (v:=.int .i64 ((0:Int))) rfl (oa _) ?_
 refine anz ?_
 refine wq ?_
 refine Ko rfl ?_
 refine wv (v:=.func (.func 74) #[] #[.pointer (some (⟨b1,0,none⟩))]) rfl (op_makeFunc (fst:=[]) (cap:=[.tmp 1])) ?_
 obtain ⟨y16,k5,ho⟩:=bs ho
 refine Kr rfl (Ks Tryz.func65 rfl rfl) (impl_chosenTopology_calls (kp _ za (hB.trans (cr [] wd9))) (kp _ zb (hB.trans (cr [] wd9))) (kp _ zd (hB.trans (cr [] wd9))) (kp _ zc (hB.trans (cr [] wd9))) (kr hr4 (cr [] wd9)).at ⟨⟨_,_,Tryz.func74,rfl,rfl⟩,fun {W} hW {a0} {a1} {v1} {f1} h1 {y} hm=>impl_DenseTopology_1_calls h1 (kp _ za (hB.trans ((cr [] wd9).trans hW))) (kp _ zb (hB.trans ((cr [] wd9).trans hW))) (kp _ zd (hB.trans ((cr [] wd9).trans hW))) (kp _ zc (hB.trans ((cr [] wd9).trans hW))) (kr hr4 ((cr [] wd9).trans hW)).at hm⟩ k5) ?_
 rintro _ pn ⟨v20,ph,v23,pf,v26,pi,v29,pj,v32,pk,rfl,k7,p4,p2,p5,p6,p3,d35,d36,d37,d38,d39,d40,d41,d42,d43,d44⟩
 refine ⟨_,rfl,?_⟩
 have d46:Dis ph [b8]:=dl (ofr p4) (Kc (Kd (kr p0 (cr [] wd9))))
 replace p4:=Ki (G:=[]) p4 (hB.trans (cr [] wd9)).size
 have d48:Dis pf [b8]:=dl (ofr p2) (Kc (Kd (kr p0 (cr [] wd9))))
 replace p2:=Ki (G:=[]) p2 (hB.trans (cr [] wd9)).size
 have k8:Dis pi [b8]:=dl (ofr p5) (Kc (Kd (kr p0 (cr [] wd9))))
 replace p5:=Ki (G:=[]) p5 (hB.trans (cr [] wd9)).size
 have d52:Dis pj [b8]:=dl (ofr p6) (Kc (Kd (kr p0 (cr [] wd9))))
 replace p6:=Ki (G:=[]) p6 (hB.trans (cr [] wd9)).size
 have d54:Dis pk [b8]:=dl (ofr p3) (Kc (Kd (kr p0 (cr [] wd9))))
 replace p3:=Ki (G:=[]) p3 (hB.trans (cr [] wd9)).size
 have ng:=(cr [] wd9).trans k7
 replace hr4:=kr hr4 ng
 replace p0:=kr p0 ng
 replace hB:=(hB.trans ng)
 refine wv (v:=.agg #[.int .i64 (y16.1.Shape.Objects),v20,v23,v26,v29,v32]) rfl (Kn rfl rfl) ?_
 refine wv (v:=.int .i64 (y16.2)) rfl (Kn rfl rfl) ?_
 refine WL.storeAll (us:=[.int .i64 (y16.1.Shape.Objects),v20,v23,v26,v29,v32]) info30 (by rw [sz30]; rfl) (kr p0 (cr [] pn)) rfl rfl rfl (by intro u hu; simp only [List.mem_cons,List.mem_nil_iff,or_false] at hu; rcases hu with rfl | rfl | rfl | rfl | rfl | rfl <;> first | exact rfl | exact (Kh _ p4.1 _ (ms rfl)) | exact (Kh _ p2.1 _ (ms rfl)) | exact (Kh _ p5.1 _ (ms rfl)) | exact (Kh _ p6.1 _ (ms rfl)) | exact (Kh _ p3.1 _ (ms rfl))) fun q6 k3 nh=>?_
 replace nh:Row q6 b8 [.int .i64 (y16.1.Shape.Objects),v20,v23,v26,v29,v32] 30:=nh
 have qe:=((cr [] pn).nil (G:=[b8])).trans k3
 replace hr4:=Kl hr4 qe ((qy).symm _ (ms rfl))
 replace p4:=okp p4 qe d46
 replace p2:=okp p2 qe d48
 replace p5:=okp p5 qe k8
 replace p6:=okp p6 qe d52
 replace p3:=okp p3 qe d54
 replace hB:=hB.then qe (Ke p8)
 refine wv (v:=.int .i64 (y16.2)) rfl (oa _) ?_
 refine anz ?_
 cases ho
 exact W_ret ⟨_,res_c1 Tryz.results27 u30 rfl info30 (by rw [sz30]; rfl) rfl (kr nh (cr [] q6)).at,_,_,_,_,_,_,_,_,_,_,rfl,(hB.trans (cr [] q6)),(ko p4 (cr [] q6)),(ko p2 (cr [] q6)),(ko p5 (cr [] q6)),(ko p6 (cr [] q6)),(ko p3 (cr [] q6)),(d35),(d36),(d37),(d38),(d39),(d40),(d41),(d42),(d43),(d44)⟩
end Go.Proofs.YtfbijbginbjecaaGreat
