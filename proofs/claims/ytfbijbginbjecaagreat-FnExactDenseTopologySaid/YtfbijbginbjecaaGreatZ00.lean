/- Walks, printed by a program: what each function computes (a model on plain data), and that a call computes it. No condition beside those that each theorem names. -/
import Derived.Test.YtfbijbginbjecaaGreatTy
namespace Go.Proofs.YtfbijbginbjecaaGreat
open Go Go.Li
set_option linter.unusedVariables false
set_option maxHeartbeats 4000000
set_option maxRecDepth 100000
noncomputable def laws_szInt64S (x0:(List Int)) (x1:Int):Option (Int):=
 retM (S:=Unit) (bif decide (w64 (x1 - (x0.length:Int)) < (0:Int)) then (some (Out.ret (((-1:Int))))) else (some (Out.ret ((w64 (x1 - (x0.length:Int)))))))
abbrev laws_szInt64S_post (w:World) (x:(Int)) (e:Ending) (w':World):Prop:=e = .returned (.int .i64 x)∧Chg [] w w'
abbrev laws_szInt64S_T (w:World) (x:(Int)) (r:Nat→Value) (w':World):Prop:=∃ v,(∀ a:Act,a.tmps.size=12→rho a=r→(results Tryz.f60 a.tmps).run Tryz.prog w' = .ok v w')∧laws_szInt64S_post w x (.returned v) w'
theorem laws_szInt64S_calls {w:World} {x0:(List Int)} {v_x0:Value} {f_x0:List Nat} {x1:Int} (h_x0:(sImm (sInt .i64)).rep w.heap [v_x0] x0 f_x0) {y:(Int)} (hm:laws_szInt64S x0 x1=some y) :
  Calls Tryz.prog 60 #[v_x0,.int .i64 (x1)] w (laws_szInt64S_post w y):=by
 refine calls_of_M (S:=Unit) (args:=[v_x0,.int .i64 (x1)]) Tryz.func60 rfl Tryz.ntmps60 (Nat.le_of_ble_eq_true rfl) (retM_some hm) ?_
 clear hm
 intro o ho
 have hB:Chg [] w w:=cr _ _
 refine wq ?_
 refine Wq rfl (cr [] w) ?_
 refine qv (v:=.int .i64 ((0:Int))) rfl (fun _ _=>oa _) ?_
 intro wd1 hC2
 refine anz ?_
 refine wq ?_
 refine Wq rfl hC2 ?_
 refine qv (v:=.int .i64 (x1)) rfl (fun _ _=>om _) ?_
 refine qv (v:=v_x0) rfl (fun _ _=>om _) ?_
 refine qv (v:=.int .i64 ((x0.length:Int))) rfl (fun _ hC=>op_lenI u22z (kp _ h_x0 (hB.trans hC))) ?_
 refine qv (v:=.int .i64 (w64 (x1 - (x0.length:Int)))) rfl (fun _ _=>op_bin rfl rfl bin_sub) ?_
 refine qv (v:=.int .i64 (w64 (x1 - (x0.length:Int)))) rfl (fun _ _=>oa _) ?_
 intro wd3 hC4
 refine anz ?_
 refine wq ?_
 refine wq ?_
 refine Wq rfl hC4 ?_
 refine qv (v:=.int .i64 (w64 (x1 - (x0.length:Int)))) rfl (fun _ _=>om _) ?_
 refine qv (v:=.bool (decide (w64 (x1 - (x0.length:Int)) < (0:Int)))) rfl (fun _ _=>op_bin rfl rfl bin_lss) ?_
 intro wd5 hC6
 refine anz ?_
 refine W_cond (b:=decide (w64 (x1 - (x0.length:Int)) < (0:Int))) rfl ?_ ?_
 intro hb7
 rw [hb7] at ho
 refine wq ?_
 refine Wq rfl hC6 ?_
 refine qv (v:=.int .i64 ((-1:Int))) rfl (fun _ _=>oa _) ?_
 intro wd8 hC9
 refine anz ?_
 cases ho
 exact W_ret ⟨_,res_1 Tryz.results60,rfl,(hB.trans hC9)⟩
 intro hb7
 rw [hb7] at ho
 refine W_skip ?_
 refine anz ?_
 refine wq ?_
 refine Wq rfl hC6 ?_
 refine qv (v:=.int .i64 (w64 (x1 - (x0.length:Int)))) rfl (fun _ _=>om _) ?_
 refine qv (v:=.int .i64 (w64 (x1 - (x0.length:Int)))) rfl (fun _ _=>oa _) ?_
 intro wd10 hC11
 refine anz ?_
 cases ho
 exact W_ret ⟨_,res_1 Tryz.results60,rfl,(hB.trans hC11)⟩

noncomputable def laws_szInt64SS_L0 (x0:(List (List Int))) (s0_1:Int) (s0_5:Int):Option (Out (Int×Int) (Int)):=
 (bif decide (s0_5 < (x0.length:Int)) then ((idx x0 (s0_5))>>=fun e16=>((laws_szInt64S e16 (s0_1))>>=fun y23=>(bif decide (y23 < (0:Int)) then (some (Out.ret (((-1:Int))))) else (some (Out.norm (y23,w64 (s0_5 + (1:Int)))))))) else (some (Out.exit 0 (s0_1,s0_5))))
noncomputable def laws_szInt64SS (x0:(List (List Int))) (x1:Int):Option (Int):=
 retM (S:=Unit) (bif decide (w64 (x1 - (x0.length:Int)) < (0:Int)) then (some (Out.ret (((-1:Int))))) else (lbind (blockM 0 (loopM (fun s=>laws_szInt64SS_L0 x0 s.1 s.2) (w64 (x1 - (x0.length:Int)),(0:Int)))) (fun (s0_1,s0_5)=>(some (Out.ret (s0_1))))))
abbrev laws_szInt64SS_post (w:World) (x:(Int)) (e:Ending) (w':World):Prop:=e = .returned (.int .i64 x)∧Chg [] w w'
abbrev laws_szInt64SS_T (w:World) (x:(Int)) (r:Nat→Value) (w':World):Prop:=∃ v,(∀ a:Act,a.tmps.size=27→rho a=r→(results Tryz.f61 a.tmps).run Tryz.prog w' = .ok v w')∧laws_szInt64SS_post w x (.returned v) w'
theorem laws_szInt64SS_calls {w:World} {x0:(List (List Int))} {v_x0:Value} {f_x0:List Nat} {x1:Int} (h_x0:(sImm (sImm (sInt .i64))).rep w.heap [v_x0] x0 f_x0) {y:(Int)} (hm:laws_szInt64SS x0 x1=some y) :
  Calls Tryz.prog 61 #[v_x0,.int .i64 (x1)] w (laws_szInt64SS_post w y):=by
 refine calls_of_M (S:=Unit) (args:=[v_x0,.int .i64 (x1)]) Tryz.func61 rfl Tryz.ntmps61 (Nat.le_of_ble_eq_true rfl) (retM_some hm) ?_
 clear hm
 intro o ho
 have hB:Chg [] w w:=cr _ _
 refine wq ?_
 refine Wq rfl (cr [] w) ?_
 refine qv (v:=.int .i64 ((0:Int))) rfl (fun _ _=>oa _) ?_
 intro wd1 hC2
 refine anz ?_
 refine wq ?_
 refine Wq rfl hC2 ?_
 refine qv (v:=.int .i64 (x1)) rfl (fun _ _=>om _) ?_
 refine qv (v:=v_x0) rfl (fun _ _=>om _) ?_
 refine qv (v:=.int .i64 ((x0.length:Int))) rfl (fun _ hC=>op_lenI u23z (kp _ h_x0 (hB.trans hC))) ?_
 refine qv (v:=.int .i64 (w64 (x1 - (x0.length:Int)))) rfl (fun _ _=>op_bin rfl rfl bin_sub) ?_
 refine qv (v:=.int .i64 (w64 (x1 - (x0.length:Int)))) rfl (fun _ _=>oa _) ?_
 intro wd3 hC4
 refine anz ?_
 refine wq ?_
 refine wq ?_
 refine Wq rfl hC4 ?_
 refine qv (v:=.int .i64 (w64 (x1 - (x0.length:Int)))) rfl (fun _ _=>om _) ?_
 refine qv (v:=.bool (decide (w64 (x1 - (x0.length:Int)) < (0:Int)))) rfl (fun _ _=>op_bin rfl rfl bin_lss) ?_
 intro wd5 hC6
 refine anz ?_
 refine W_cond (b:=decide (w64 (x1 - (x0.length:Int)) < (0:Int))) rfl ?_ ?_
 intro hb7
 rw [hb7] at ho
 refine wq ?_
 refine Wq rfl hC6 ?_
 refine qv (v:=.int .i64 ((-1:Int))) rfl (fun _ _=>oa _) ?_
 intro wd8 hC9
 refine anz ?_
 cases ho
 exact W_ret ⟨_,res_1 Tryz.results61,rfl,(hB.trans hC9)⟩
 intro hb7
 rw [hb7] at ho
 refine W_skip ?_
 refine anz ?_
 refine wq ?_
 refine wq ?_
 refine Wq rfl hC6 ?_
 refine qv (v:=.int .i64 ((0:Int))) rfl (fun _ _=>oa _) ?_
 intro wd10 hC11
 refine anz ?_
 refine W_for (S1:=Int×Int) (fun s r w'=>match s with | (s0_1,s0_5)=>Chg [] w w'∧∃ F,r=updL F [(0,v_x0),(1,.int .i64 (s0_1)),(5,.int .i64 (s0_5))]) (T:=laws_szInt64SS_T w) ho ⟨(hB.trans hC11),fr ⟨rfl,rfl,rfl,trivial⟩⟩ ?_ ?_ ?_
 intro x r w' ho hx; subst ho; exact hx
 rintro ⟨s0_1,s0_5⟩ _ wd12 ⟨hB,F,rfl⟩ o ho
 replace ho:laws_szInt64SS_L0 x0 s0_1 s0_5=some o:=ho
 unfold laws_szInt64SS_L0 at ho
 refine wq ?_
 refine wq ?_
 refine Wq rfl (cr [] wd12) ?_
 refine qv (v:=.int .i64 (s0_5)) rfl (fun _ _=>om _) ?_
 refine qv (v:=v_x0) rfl (fun _ _=>om _) ?_
 refine qv (v:=.int .i64 ((x0.length:Int))) rfl (fun _ hC=>op_lenI u23z (kp _ h_x0 (hB.trans hC))) ?_
 refine qv (v:=.bool (decide (s0_5 < (x0.length:Int)))) rfl (fun _ _=>op_bin rfl rfl bin_lss) ?_
 intro wd13 hC14
 refine anz ?_
 refine W_cond (b:=decide (s0_5 < (x0.length:Int))) rfl ?_ ?_
 intro hb15
 rw [hb15] at ho
 refine W_skip ?_
 refine anz ?_
 refine wq ?_
 refine W_block ?_
 refine wq ?_
 refine Wq rfl hC14 ?_
 refine qv (v:=v_x0) rfl (fun _ _=>om _) ?_
 refine qv (v:=.int .i64 (s0_5)) rfl (fun _ _=>om _) ?_
 obtain ⟨e16,hx17e,ho⟩:=bs ho
 have hx17:=idx_some hx17e
 refine qv (v:=.pointer (some (elA (v_x0) 1 (s0_5)))) rfl (fun _ hC=>op_indexI u23z info22 sz22 rfl (kp _ h_x0 (hB.trans hC)) rfl hx17.1 hx17.2) ?_
 obtain ⟨u18,fu19,hu20,hr21,hs22⟩:=one_get rfl h_x0 hx17.1 hx17.2
 refine qv (v:=u18) rfl (fun _ hC=>oldz u22z rfl rfl ((hB.trans hC).cell0 hu20)) ?_
 refine qv (v:=.int .i64 (s0_1)) rfl (fun _ _=>om _) ?_
 obtain ⟨y23,hy24,ho⟩:=bs ho
 refine QL.call (v:=.int .i64 (y23)) rfl (fun _ _=>op_callF Tryz.func60 rfl rfl) (fun _ hC=>(laws_szInt64S_calls (kp _ hr21 (hB.trans hC)) hy24).mono fun _ _ h=>⟨h.1,hC.trans h.2⟩) ?_
 refine qv (v:=.int .i64 (y23)) rfl (fun _ _=>oa _) ?_
 intro wd25 hC26
 refine anz ?_
 refine wq ?_
 refine Wq rfl hC26 ?_
 refine qv (v:=.int .i64 (y23)) rfl (fun _ _=>om _) ?_
 refine qv (v:=.bool (decide (y23 < (0:Int)))) rfl (fun _ _=>op_bin rfl rfl bin_lss) ?_
 intro wd27 hC28
 refine anz ?_
 refine W_cond (b:=decide (y23 < (0:Int))) rfl ?_ ?_
 intro hb29
 rw [hb29] at ho
 refine wq ?_
 refine Wq rfl hC28 ?_
 refine qv (v:=.int .i64 ((-1:Int))) rfl (fun _ _=>oa _) ?_
 intro wd30 hC31
 refine anz ?_
 cases ho
 exact W_ret ⟨_,res_1 Tryz.results61,rfl,(hB.trans hC31)⟩
 intro hb29
 rw [hb29] at ho
 refine W_skip ?_
 refine inBlk_n ?_
 refine anz ?_
 refine Wq rfl hC28 ?_
 refine qv (v:=.int .i64 (s0_5)) rfl (fun _ _=>om _) ?_
 refine qv (v:=.int .i64 (w64 (s0_5 + (1:Int)))) rfl (fun _ _=>op_bin rfl rfl bin_add) ?_
 refine qv (v:=.int .i64 (w64 (s0_5 + (1:Int)))) rfl (fun _ _=>oa _) ?_
 intro wd32 hC33
 cases ho
 exact ⟨(hB.trans hC33),fr ⟨rfl,rfl,rfl,trivial⟩⟩
 intro hb15
 rw [hb15] at ho
 refine W_exit ?_
 refine andThen_x ?_
 cases ho
 exact ⟨rfl,⟨(hB.trans hC14),fr ⟨rfl,rfl,rfl,trivial⟩⟩⟩
 rintro ⟨s0_1,s0_5⟩ _ wd34 ⟨hB,F,rfl⟩ ho
 dsimp only at ho
 refine anz ?_
 refine wq ?_
 refine Wq rfl (cr [] wd34) ?_
 refine qv (v:=.int .i64 (s0_1)) rfl (fun _ _=>om _) ?_
 refine qv (v:=.int .i64 (s0_1)) rfl (fun _ _=>oa _) ?_
 intro wd35 hC36
 refine anz ?_
 cases ho
 exact W_ret ⟨_,res_1 Tryz.results61,rfl,(hB.trans hC36)⟩

noncomputable def laws_szCategory (x0:MCategory) (x1:Int):Option (Int):=
 retM (S:=Unit) ((laws_szInt64S x0.From (x1))>>=fun y8=>(bif decide (y8 < (0:Int)) then (some (Out.ret (((-1:Int))))) else ((laws_szInt64S x0.To (y8))>>=fun y17=>(bif decide (y17 < (0:Int)) then (some (Out.ret (((-1:Int))))) else ((laws_szInt64S x0.Identity (y17))>>=fun y26=>(bif decide (y26 < (0:Int)) then (some (Out.ret (((-1:Int))))) else ((laws_szInt64SS x0.Composites (y26))>>=fun y35=>(bif decide (y35 < (0:Int)) then (some (Out.ret (((-1:Int))))) else (some (Out.ret (y35)))))))))))
abbrev laws_szCategory_post (w:World) (x:(Int)) (e:Ending) (w':World):Prop:=e = .returned (.int .i64 x)∧Chg [] w w'
abbrev laws_szCategory_T (w:World) (x:(Int)) (r:Nat→Value) (w':World):Prop:=∃ v,(∀ a:Act,a.tmps.size=30→rho a=r→(results Tryz.f15 a.tmps).run Tryz.prog w' = .ok v w')∧laws_szCategory_post w x (.returned v) w'
theorem laws_szCategory_calls {w:World} {x0:MCategory} {z6:Value} {zh:List Nat} {z7:Value} {zg:List Nat} {z9:Value} {zf:List Nat} {z8:Value} {ze:List Nat} {x1:Int} (za:(sImm (sInt .i64)).rep w.heap [z6] x0.From zh) (zb:(sImm (sInt .i64)).rep w.heap [z7] x0.To zg) (zd:(sImm (sInt .i64)).rep w.heap [z9] x0.Identity zf) (zc:(sImm (sImm (sInt .i64))).rep w.heap [z8] x0.Composites ze) {y:(Int)} (hm:laws_szCategory x0 x1=some y) :
  Calls Tryz.prog 15 #[.agg #[.int .i64 (x0.Objects),z6,z7,z9,z8],.int .i64 (x1)] w (laws_szCategory_post w y):=by
 refine calls_of_M (S:=Unit) (args:=[.agg #[.int .i64 (x0.Objects),z6,z7,z9,z8],.int .i64 (x1)]) Tryz.func15 rfl Tryz.ntmps15 (Nat.le_of_ble_eq_true rfl) (retM_some hm) ?_
 clear hm
 intro o ho
 have hB:Chg [] w w:=cr _ _
 refine wq ?_
 refine W_region rfl ?_
 refine WL.box fun b1 wd2 hC3 hr4 hl5=>?_
 replace hr4:Row wd2 b1 [.int .i64 (x0.Objects),z6,z7,z9,z8] 25:=hr4
 have hT7:=(cr [] w).trans hC3
 replace hB:=(hB.trans hT7)
 refine wv (v:=.int .i64 ((0:Int))) rfl (oa _) ?_
 refine anz ?_
 refine wq ?_
 refine Wq rfl (cr [] wd2) ?_
 refine qv (v:=.pointer (some (⟨b1,1,none⟩))) rfl (fun _ _=>op_fieldAddrR u25z rfl info22 ne22 rfl rfl) ?_
 refine qv (v:=z6) rfl (fun _ hC=>oldz u22z rfl rfl ((kr hr4 hC).at.cell (j:=1) rfl)) ?_
 refine qv (v:=.int .i64 (x1)) rfl (fun _ _=>om _) ?_
 obtain ⟨y8,hy9,ho⟩:=bs ho
 refine QL.call (v:=.int .i64 (y8)) rfl (fun _ _=>op_callF Tryz.func60 rfl rfl) (fun _ hC=>(laws_szInt64S_calls (kp _ za (hB.trans hC)) hy9).mono fun _ _ h=>⟨h.1,hC.trans h.2⟩) ?_
 refine qv (v:=.int .i64 (y8)) rfl (fun _ _=>oa _) ?_
 intro wd10 hC11
 refine anz ?_
 refine wq ?_
 refine wq ?_
 refine Wq rfl hC11 ?_
 refine qv (v:=.int .i64 (y8)) rfl (fun _ _=>om _) ?_
 refine qv (v:=.bool (decide (y8 < (0:Int)))) rfl (fun _ _=>op_bin rfl rfl bin_lss) ?_
 intro wd12 hC13
 refine anz ?_
 refine W_cond (b:=decide (y8 < (0:Int))) rfl ?_ ?_
 intro hb14
 rw [hb14] at ho
 refine wq ?_
 refine Wq rfl hC13 ?_
 refine qv (v:=.int .i64 ((-1:Int))) rfl (fun _ _=>oa _) ?_
 intro wd15 hC16
 refine anz ?_
 cases ho
 exact W_ret ⟨_,res_1 Tryz.results15,rfl,(hB.trans hC16)⟩
 intro hb14
 rw [hb14] at ho
 refine W_skip ?_
 refine anz ?_
 refine wq ?_
 refine Wq rfl hC13 ?_
 refine qv (v:=.pointer (some (⟨b1,2,none⟩))) rfl (fun _ _=>op_fieldAddrR u25z rfl info22 ne22 rfl rfl) ?_
 refine qv (v:=z7) rfl (fun _ hC=>oldz u22z rfl rfl ((kr hr4 hC).at.cell (j:=2) rfl)) ?_
 refine qv (v:=.int .i64 (y8)) rfl (fun _ _=>om _) ?_
 obtain ⟨y17,hy18,ho⟩:=bs ho
 refine QL.call (v:=.int .i64 (y17)) rfl (fun _ _=>op_callF Tryz.func60 rfl rfl) (fun _ hC=>(laws_szInt64S_calls (kp _ zb (hB.trans hC)) hy18).mono fun _ _ h=>⟨h.1,hC.trans h.2⟩) ?_
 refine qv (v:=.int .i64 (y17)) rfl (fun _ _=>oa _) ?_
 intro wd19 hC20
 refine anz ?_
 refine wq ?_
 refine wq ?_
 refine Wq rfl hC20 ?_
 refine qv (v:=.int .i64 (y17)) rfl (fun _ _=>om _) ?_
 refine qv (v:=.bool (decide (y17 < (0:Int)))) rfl (fun _ _=>op_bin rfl rfl bin_lss) ?_
 intro wd21 hC22
 refine anz ?_
 refine W_cond (b:=decide (y17 < (0:Int))) rfl ?_ ?_
 intro hb23
 rw [hb23] at ho
 refine wq ?_
 refine Wq rfl hC22 ?_
 refine qv (v:=.int .i64 ((-1:Int))) rfl (fun _ _=>oa _) ?_
 intro wd24 hC25
 refine anz ?_
 cases ho
 exact W_ret ⟨_,res_1 Tryz.results15,rfl,(hB.trans hC25)⟩
 intro hb23
 rw [hb23] at ho
 refine W_skip ?_
 refine anz ?_
 refine wq ?_
 refine Wq rfl hC22 ?_
 refine qv (v:=.pointer (some (⟨b1,3,none⟩))) rfl (fun _ _=>op_fieldAddrR u25z rfl info22 ne22 rfl rfl) ?_
 refine qv (v:=z9) rfl (fun _ hC=>oldz u22z rfl rfl ((kr hr4 hC).at.cell (j:=3) rfl)) ?_
 refine qv (v:=.int .i64 (y17)) rfl (fun _ _=>om _) ?_
 obtain ⟨y26,hy27,ho⟩:=bs ho
 refine QL.call (v:=.int .i64 (y26)) rfl (fun _ _=>op_callF Tryz.func60 rfl rfl) (fun _ hC=>(laws_szInt64S_calls (kp _ zd (hB.trans hC)) hy27).mono fun _ _ h=>⟨h.1,hC.trans h.2⟩) ?_
 refine qv (v:=.int .i64 (y26)) rfl (fun _ _=>oa _) ?_
 intro wd28 hC29
 refine anz ?_
 refine wq ?_
 refine wq ?_
 refine Wq rfl hC29 ?_
 refine qv (v:=.int .i64 (y26)) rfl (fun _ _=>om _) ?_
 refine qv (v:=.bool (decide (y26 < (0:Int)))) rfl (fun _ _=>op_bin rfl rfl bin_lss) ?_
 intro wd30 hC31
 refine anz ?_
 refine W_cond (b:=decide (y26 < (0:Int))) rfl ?_ ?_
 intro hb32
 rw [hb32] at ho
 refine wq ?_
 refine Wq rfl hC31 ?_
 refine qv (v:=.int .i64 ((-1:Int))) rfl (fun _ _=>oa _) ?_
 intro wd33 hC34
 refine anz ?_
 cases ho
 exact W_ret ⟨_,res_1 Tryz.results15,rfl,(hB.trans hC34)⟩
 intro hb32
 rw [hb32] at ho
 refine W_skip ?_
 refine anz ?_
 refine wq ?_
 refine Wq rfl hC31 ?_
 refine qv (v:=.pointer (some (⟨b1,4,none⟩))) rfl (fun _ _=>op_fieldAddrR u25z rfl info23 ne23 rfl rfl) ?_
 refine qv (v:=z8) rfl (fun _ hC=>oldz u23z rfl rfl ((kr hr4 hC).at.cell (j:=4) rfl)) ?_
 refine qv (v:=.int .i64 (y26)) rfl (fun _ _=>om _) ?_
 obtain ⟨y35,hy36,ho⟩:=bs ho
 refine QL.call (v:=.int .i64 (y35)) rfl (fun _ _=>op_callF Tryz.func61 rfl rfl) (fun _ hC=>(laws_szInt64SS_calls (kp _ zc (hB.trans hC)) hy36).mono fun _ _ h=>⟨h.1,hC.trans h.2⟩) ?_
 refine qv (v:=.int .i64 (y35)) rfl (fun _ _=>oa _) ?_
 intro wd37 hC38
 refine anz ?_
 refine wq ?_
 refine wq ?_
 refine Wq rfl hC38 ?_
 refine qv (v:=.int .i64 (y35)) rfl (fun _ _=>om _) ?_
 refine qv (v:=.bool (decide (y35 < (0:Int)))) rfl (fun _ _=>op_bin rfl rfl bin_lss) ?_
 intro wd39 hC40
 refine anz ?_
 refine W_cond (b:=decide (y35 < (0:Int))) rfl ?_ ?_
 intro hb41
 rw [hb41] at ho
 refine wq ?_
 refine Wq rfl hC40 ?_
 refine qv (v:=.int .i64 ((-1:Int))) rfl (fun _ _=>oa _) ?_
 intro wd42 hC43
 refine anz ?_
 cases ho
 exact W_ret ⟨_,res_1 Tryz.results15,rfl,(hB.trans hC43)⟩
 intro hb41
 rw [hb41] at ho
 refine W_skip ?_
 refine anz ?_
 refine wq ?_
 refine Wq rfl hC40 ?_
 refine qv (v:=.int .i64 (y35)) rfl (fun _ _=>om _) ?_
 refine qv (v:=.int .i64 (y35)) rfl (fun _ _=>oa _) ?_
 intro wd44 hC45
 refine anz ?_
 cases ho
 exact W_ret ⟨_,res_1 Tryz.results15,rfl,(hB.trans hC45)⟩

noncomputable def laws_toInt64S_L0 (x0:(List Int)) (s0_4:Int) (s0_o9:(List Int)):Option (Out (Int×(List Int)) ((List Int))):=
 (bif decide (s0_4 < (x0.length:Int)) then ((idx x0 (s0_4))>>=fun e17=>((idx s0_o9 (s0_4))>>=fun e19=>(some (Out.norm (w64 (s0_4 + (1:Int)),s0_o9.set (s0_4).toNat (e17)))))) else (some (Out.exit 0 (s0_4,s0_o9))))
noncomputable def laws_toInt64S (x0:(List Int)):Option ((List Int)):=
 retM (S:=Unit) ((mk 8 ((x0.length:Int)))>>=fun n3=>(lbind (blockM 0 (loopM (fun s=>laws_toInt64S_L0 x0 s.1 s.2) ((0:Int),List.replicate n3 (0:Int)))) (fun (s0_4,s0_o9)=>(some (Out.ret (s0_o9))))))
abbrev laws_toInt64S_post (w:World) (x:((List Int))) (e:Ending) (w':World):Prop:=∃ (v0:Value) (f0:List Nat),e = .returned (v0)∧Chg [] w w'∧OE [] w.heap.size w' (sOwn 2 (sInt .i64)) [v0] x f0
abbrev laws_toInt64S_T (w:World) (x:((List Int))) (r:Nat→Value) (w':World):Prop:=∃ v,(∀ a:Act,a.tmps.size=22→rho a=r→(results Tryz.f33 a.tmps).run Tryz.prog w' = .ok v w')∧laws_toInt64S_post w x (.returned v) w'
theorem laws_toInt64S_calls {w:World} {x0:(List Int)} {v_x0:Value} {f_x0:List Nat} (h_x0:(sImm (sInt .i64)).rep w.heap [v_x0] x0 f_x0) {y:((List Int))} (hm:laws_toInt64S x0=some y) :
  Calls Tryz.prog 33 #[v_x0] w (laws_toInt64S_post w y):=by
 refine calls_of_M (S:=Unit) (args:=[v_x0]) Tryz.func33 rfl Tryz.ntmps33 (Nat.le_of_ble_eq_true rfl) (retM_some hm) ?_
 clear hm
 intro o ho
 have hB:Chg [] w w:=cr _ _
 refine wq ?_
 refine Wq rfl (cr [] w) ?_
 refine qv (v:=.slice none 0 0) rfl (fun _ _=>oa _) ?_
 intro wd1 hC2
 refine anz ?_
 refine wq ?_
 refine W_region rfl ?_
 refine wv (v:=v_x0) rfl (om _) ?_
 refine wv (v:=.int .i64 ((x0.length:Int))) rfl (op_lenI u22z (kp _ h_x0 (hB.trans hC2))) ?_
 obtain ⟨n3,hn4,ho⟩:=bs ho
 obtain ⟨hn4a,hn4b,hn4c⟩:=mk_some hn4
 refine WL.make (z0:=(0:Int)) (sInt .i64) u22z info2 zr2 sz2 rfl rfl (fun _=>⟨rfl,rfl⟩) (congrArg (Value.int .i64) hn4a) (congrArg (Value.int .i64) hn4a) (by rw [by2]; exact hn4b) hn4c fun v5 wd6 f7 hC8 o9=>?_
 replace o9:=OE.low (G:=[]) o9 (hB.trans hC2).size
 have hT10:=hC2.trans hC8
 replace hB:=(hB.trans hT10)
 refine wv (v:=v5) rfl (oa _) ?_
 refine anz ?_
 refine wq ?_
 refine wq ?_
 refine Wq rfl (cr [] wd6) ?_
 refine qv (v:=.int .i64 ((0:Int))) rfl (fun _ _=>oa _) ?_
 intro wd11 hC12
 refine anz ?_
 refine W_for (S1:=Int×(List Int)) (fun s r w'=>match s with | (s0_4,s0_o9)=>Chg [] w w'∧OE [] w.heap.size w' (sOwn 2 (sInt .i64)) [v5] (s0_o9) f7∧∃ F,r=updL F [(0,v_x0),(3,v5),(4,.int .i64 (s0_4))]) (T:=laws_toInt64S_T w) ho ⟨(hB.trans hC12),(ko o9 hC12),fr ⟨rfl,rfl,rfl,trivial⟩⟩ ?_ ?_ ?_
 intro x r w' ho hx; subst ho; exact hx
 rintro ⟨s0_4,s0_o9⟩ _ wd13 ⟨hB,o9,F,rfl⟩ o ho
 replace ho:laws_toInt64S_L0 x0 s0_4 s0_o9=some o:=ho
 unfold laws_toInt64S_L0 at ho
 refine wq ?_
 refine wq ?_
 refine Wq rfl (cr [] wd13) ?_
 refine qv (v:=.int .i64 (s0_4)) rfl (fun _ _=>om _) ?_
 refine qv (v:=v_x0) rfl (fun _ _=>om _) ?_
 refine qv (v:=.int .i64 ((x0.length:Int))) rfl (fun _ hC=>op_lenI u22z (kp _ h_x0 (hB.trans hC))) ?_
 refine qv (v:=.bool (decide (s0_4 < (x0.length:Int)))) rfl (fun _ _=>op_bin rfl rfl bin_lss) ?_
 intro wd14 hC15
 refine anz ?_
 refine W_cond (b:=decide (s0_4 < (x0.length:Int))) rfl ?_ ?_
 intro hb16
 rw [hb16] at ho
 refine W_skip ?_
 refine anz ?_
 refine wq ?_
 refine W_block ?_
 refine W_region rfl ?_
 refine wv (v:=v5) rfl (om _) ?_
 refine wv (v:=.int .i64 (s0_4)) rfl (om _) ?_
 refine wv (v:=v_x0) rfl (om _) ?_
 refine wv (v:=.int .i64 (s0_4)) rfl (om _) ?_
 obtain ⟨e17,hx18e,ho⟩:=bs ho
 have hx18:=idx_some hx18e
 refine wv (v:=.pointer (some (elA (v_x0) 1 (s0_4)))) rfl (op_indexI u22z info2 sz2 rfl (kp _ h_x0 (hB.trans hC15)) rfl hx18.1 hx18.2) ?_
 refine wv (v:=.int .i64 (e17)) rfl (oldz u2z rfl rfl (int_get (kp _ h_x0 (hB.trans hC15)) hx18.1 hx18.2)) ?_
 obtain ⟨e19,hx20e,ho⟩:=bs ho
 have hx20:=idx_some hx20e
 refine wv (v:=.pointer (some (elA (v5) 1 (s0_4)))) rfl (op_indexI u22z info2 sz2 rfl ((Le.own (Le.refl _) 2).le (kp _ o9.1 hC15)) rfl hx20.1 hx20.2) ?_
 refine WL.storeEl (z':=e17) _ _ sInt_nofp rfl info2 sz2 (ko o9 hC15) hx20.2 rfl rfl ⟨rfl,rfl⟩ fun wd21 hC22 o23=>?_
 have hT24:=(hC15.nil (G:=f7)).trans hC22
 replace hB:=hB.then hT24 o9.2.2
 refine inBlk_n ?_
 refine anz ?_
 refine Wq rfl (cr [] wd21) ?_
 refine qv (v:=.int .i64 (s0_4)) rfl (fun _ _=>om _) ?_
 refine qv (v:=.int .i64 (w64 (s0_4 + (1:Int)))) rfl (fun _ _=>op_bin rfl rfl bin_add) ?_
 refine qv (v:=.int .i64 (w64 (s0_4 + (1:Int)))) rfl (fun _ _=>oa _) ?_
 intro wd25 hC26
 cases ho
 exact ⟨(hB.trans hC26),(ko o23 hC26),fr ⟨rfl,rfl,rfl,trivial⟩⟩
 intro hb16
 rw [hb16] at ho
 refine W_exit ?_
 refine andThen_x ?_
 cases ho
 exact ⟨rfl,⟨(hB.trans hC15),(ko o9 hC15),fr ⟨rfl,rfl,rfl,trivial⟩⟩⟩
 rintro ⟨s0_4,s0_o9⟩ _ wd27 ⟨hB,o9,F,rfl⟩ ho
 dsimp only at ho
 refine anz ?_
 refine wq ?_
 refine Wq rfl (cr [] wd27) ?_
 refine qv (v:=v5) rfl (fun _ _=>om _) ?_
 refine qv (v:=v5) rfl (fun _ _=>oa _) ?_
 intro wd28 hC29
 refine anz ?_
 cases ho
 exact W_ret ⟨_,res_1 Tryz.results33,_,_,rfl,(hB.trans hC29),(ko o9 hC29)⟩

noncomputable def laws_toInt64SS_L0 (x0:(List (List Int))) (s0_4:Int) (s0_o9:(List (List Int))):Option (Out (Int×(List (List Int))) ((List (List Int)))):=
 (bif decide (s0_4 < (x0.length:Int)) then ((idx x0 (s0_4))>>=fun e18=>((laws_toInt64S e18)>>=fun y25=>((idx s0_o9 (s0_4))>>=fun e34=>(some (Out.norm (w64 (s0_4 + (1:Int)),s0_o9.set (s0_4).toNat y25)))))) else (some (Out.exit 0 (s0_4,s0_o9))))
noncomputable def laws_toInt64SS (x0:(List (List Int))):Option ((List (List Int))):=
 retM (S:=Unit) ((mk 24 ((x0.length:Int)))>>=fun n3=>(lbind (blockM 0 (loopM (fun s=>laws_toInt64SS_L0 x0 s.1 s.2) ((0:Int),List.replicate n3 []))) (fun (s0_4,s0_o9)=>(some (Out.ret (s0_o9))))))
abbrev laws_toInt64SS_post (w:World) (x:((List (List Int)))) (e:Ending) (w':World):Prop:=∃ (v0:Value) (f0:List Nat),e = .returned (v0)∧Chg [] w w'∧OE [] w.heap.size w' (sOwn 22 (sOwn 2 (sInt .i64))) [v0] x f0
abbrev laws_toInt64SS_T (w:World) (x:((List (List Int)))) (r:Nat→Value) (w':World):Prop:=∃ v,(∀ a:Act,a.tmps.size=23→rho a=r→(results Tryz.f64 a.tmps).run Tryz.prog w' = .ok v w')∧laws_toInt64SS_post w x (.returned v) w'
theorem laws_toInt64SS_calls {w:World} {x0:(List (List Int))} {v_x0:Value} {f_x0:List Nat} (h_x0:(sImm (sImm (sInt .i64))).rep w.heap [v_x0] x0 f_x0) {y:((List (List Int)))} (hm:laws_toInt64SS x0=some y) :
  Calls Tryz.prog 64 #[v_x0] w (laws_toInt64SS_post w y):=by
 refine calls_of_M (S:=Unit) (args:=[v_x0]) Tryz.func64 rfl Tryz.ntmps64 (Nat.le_of_ble_eq_true rfl) (retM_some hm) ?_
 clear hm
 intro o ho
 have hB:Chg [] w w:=cr _ _
 refine wq ?_
 refine Wq rfl (cr [] w) ?_
 refine qv (v:=.slice none 0 0) rfl (fun _ _=>oa _) ?_
 intro wd1 hC2
 refine anz ?_
 refine wq ?_
 refine W_region rfl ?_
 refine wv (v:=v_x0) rfl (om _) ?_
 refine wv (v:=.int .i64 ((x0.length:Int))) rfl (op_lenI u23z (kp _ h_x0 (hB.trans hC2))) ?_
 obtain ⟨n3,hn4,ho⟩:=bs ho
 obtain ⟨hn4a,hn4b,hn4c⟩:=mk_some hn4
 refine WL.make (z0:=[]) (sOwn 2 (sInt .i64)) u23z info22 zr22 sz22 rfl rfl (fun _=>nil_own) (congrArg (Value.int .i64) hn4a) (congrArg (Value.int .i64) hn4a) (by rw [by22]; exact hn4b) hn4c fun v5 wd6 f7 hC8 o9=>?_
 replace o9:=OE.low (G:=[]) o9 (hB.trans hC2).size
 have hT10:=hC2.trans hC8
 replace hB:=(hB.trans hT10)
 refine wv (v:=v5) rfl (oa _) ?_
 refine anz ?_
 refine wq ?_
 refine wq ?_
 refine Wq rfl (cr [] wd6) ?_
 refine qv (v:=.int .i64 ((0:Int))) rfl (fun _ _=>oa _) ?_
 intro wd11 hC12
 refine anz ?_
 refine W_for (S1:=Int×(List (List Int))) (fun s r w'=>match s with | (s0_4,s0_o9)=>∃ (f13:List Nat),Chg [] w w'∧OE [] w.heap.size w' (sOwn 22 (sOwn 2 (sInt .i64))) [v5] (s0_o9) f13∧∃ F,r=updL F [(0,v_x0),(3,v5),(4,.int .i64 (s0_4))]) (T:=laws_toInt64SS_T w) ho ⟨_,(hB.trans hC12),(ko o9 hC12),fr ⟨rfl,rfl,rfl,trivial⟩⟩ ?_ ?_ ?_
 intro x r w' ho hx; subst ho; exact hx
 rintro ⟨s0_4,s0_o9⟩ _ wd14 ⟨f13,hB,o9,F,rfl⟩ o ho
 replace ho:laws_toInt64SS_L0 x0 s0_4 s0_o9=some o:=ho
 unfold laws_toInt64SS_L0 at ho
 refine wq ?_
 refine wq ?_
 refine Wq rfl (cr [] wd14) ?_
 refine qv (v:=.int .i64 (s0_4)) rfl (fun _ _=>om _) ?_
 refine qv (v:=v_x0) rfl (fun _ _=>om _) ?_
 refine qv (v:=.int .i64 ((x0.length:Int))) rfl (fun _ hC=>op_lenI u23z (kp _ h_x0 (hB.trans hC))) ?_
 refine qv (v:=.bool (decide (s0_4 < (x0.length:Int)))) rfl (fun _ _=>op_bin rfl rfl bin_lss) ?_
 intro wd15 hC16
 refine anz ?_
 refine W_cond (b:=decide (s0_4 < (x0.length:Int))) rfl ?_ ?_
 intro hb17
 rw [hb17] at ho
 refine W_skip ?_
 refine anz ?_
 refine wq ?_
 refine W_block ?_
 refine W_region rfl ?_
 refine wv (v:=v5) rfl (om _) ?_
 refine wv (v:=.int .i64 (s0_4)) rfl (om _) ?_
 refine wv (v:=v_x0) rfl (om _) ?_
 refine wv (v:=.int .i64 (s0_4)) rfl (om _) ?_
 obtain ⟨e18,hx19e,ho⟩:=bs ho
 have hx19:=idx_some hx19e
 refine wv (v:=.pointer (some (elA (v_x0) 1 (s0_4)))) rfl (op_indexI u23z info22 sz22 rfl (kp _ h_x0 (hB.trans hC16)) rfl hx19.1 hx19.2) ?_
 obtain ⟨u20,fu21,hu22,hr23,hs24⟩:=one_get rfl h_x0 hx19.1 hx19.2
 refine wv (v:=u20) rfl (oldz u22z rfl rfl ((hB.trans hC16).cell0 hu22)) ?_
 obtain ⟨y25,hy26,ho⟩:=bs ho
 refine WL.call rfl (op_callF Tryz.func33 rfl rfl) (laws_toInt64S_calls (kp _ hr23 (hB.trans hC16)) hy26) ?_
 rintro _ wd27 ⟨v29,f30,rfl,hC28,o31⟩
 refine ⟨_,rfl,?_⟩
 have d32:Dis f30 f13:=dl (ofr o31) (sl _ (kp _ o9.1 hC16))
 replace o31:=OE.low (G:=[]) o31 (hB.trans hC16).size
 have hT33:=hC16.trans hC28
 replace o9:=ko o9 hT33
 replace hB:=(hB.trans hT33)
 obtain ⟨e34,hx35e,ho⟩:=bs ho
 have hx35:=idx_some hx35e
 refine wv (v:=.pointer (some (elA (v5) 1 (s0_4)))) rfl (op_indexI u23z info22 sz22 rfl ((Le.own (Le.own (Le.refl _) 2) 22).le (kp _ o9.1 (cr [] wd27))) rfl hx35.1 hx35.2) ?_
 refine WL.storeOwn (z':=y25) _ _ rfl info22 sz22 (ko o9 (cr [] wd27)) hx35.2 rfl rfl (kp _ o31.1 (cr [] wd27)) o31.2.1 o31.2.2 d32 fun wd36 f39 hC37 o38 hs40=>?_
 have hT42:=((cr [] wd27).nil (G:=f13)).trans hC37
 replace hB:=hB.then hT42 o9.2.2
 refine inBlk_n ?_
 refine anz ?_
 refine Wq rfl (cr [] wd36) ?_
 refine qv (v:=.int .i64 (s0_4)) rfl (fun _ _=>om _) ?_
 refine qv (v:=.int .i64 (w64 (s0_4 + (1:Int)))) rfl (fun _ _=>op_bin rfl rfl bin_add) ?_
 refine qv (v:=.int .i64 (w64 (s0_4 + (1:Int)))) rfl (fun _ _=>oa _) ?_
 intro wd43 hC44
 cases ho
 exact ⟨_,(hB.trans hC44),(ko o38 hC44),fr ⟨rfl,rfl,rfl,trivial⟩⟩
 intro hb17
 rw [hb17] at ho
 refine W_exit ?_
 refine andThen_x ?_
 cases ho
 exact ⟨rfl,⟨_,(hB.trans hC16),(ko o9 hC16),fr ⟨rfl,rfl,rfl,trivial⟩⟩⟩
 rintro ⟨s0_4,s0_o9⟩ _ wd45 ⟨f13,hB,o9,F,rfl⟩ ho
 dsimp only at ho
 refine anz ?_
 refine wq ?_
 refine Wq rfl (cr [] wd45) ?_
 refine qv (v:=v5) rfl (fun _ _=>om _) ?_
 refine qv (v:=v5) rfl (fun _ _=>oa _) ?_
 intro wd46 hC47
 refine anz ?_
 cases ho
 exact W_ret ⟨_,res_1 Tryz.results64,_,_,rfl,(hB.trans hC47),(ko o9 hC47)⟩

noncomputable def laws_toCategory (x0:MCategory):Option (MCategory):=
 retM (S:=Unit) ((laws_toInt64S x0.From)>>=fun y29=>((laws_toInt64S x0.To)>>=fun y44=>((laws_toInt64S x0.Identity)>>=fun y60=>((laws_toInt64SS x0.Composites)>>=fun y77=>(some (Out.ret ((MCategory.mk x0.Objects y29 y44 y60 y77))))))))
abbrev laws_toCategory_post (w:World) (x:(MCategory)) (e:Ending) (w':World):Prop:=∃ (v0:Value) (f0:List Nat) (v1:Value) (f1:List Nat) (v2:Value) (f2:List Nat) (v3:Value) (f3:List Nat),e = .returned (.agg #[.int .i64 x.Objects,v0,v1,v2,v3])∧Chg [] w w'∧OE [] w.heap.size w' (sOwn 2 (sInt .i64)) [v0] x.From f0∧OE [] w.heap.size w' (sOwn 2 (sInt .i64)) [v1] x.To f1∧OE [] w.heap.size w' (sOwn 2 (sInt .i64)) [v2] x.Identity f2∧OE [] w.heap.size w' (sOwn 22 (sOwn 2 (sInt .i64))) [v3] x.Composites f3∧Dis f0 f1∧Dis f0 f2∧Dis f0 f3∧Dis f1 f2∧Dis f1 f3∧Dis f2 f3
abbrev laws_toCategory_T (w:World) (x:(MCategory)) (r:Nat→Value) (w':World):Prop:=∃ v,(∀ a:Act,a.tmps.size=24→rho a=r→(results Tryz.f17 a.tmps).run Tryz.prog w' = .ok v w')∧laws_toCategory_post w x (.returned v) w'
theorem laws_toCategory_calls {w:World} {x0:MCategory} {z6:Value} {zh:List Nat} {z7:Value} {zg:List Nat} {z9:Value} {zf:List Nat} {z8:Value} {ze:List Nat} (za:(sImm (sInt .i64)).rep w.heap [z6] x0.From zh) (zb:(sImm (sInt .i64)).rep w.heap [z7] x0.To zg) (zd:(sImm (sInt .i64)).rep w.heap [z9] x0.Identity zf) (zc:(sImm (sImm (sInt .i64))).rep w.heap [z8] x0.Composites ze) {y:(MCategory)} (hm:laws_toCategory x0=some y) :
  Calls Tryz.prog 17 #[.agg #[.int .i64 (x0.Objects),z6,z7,z9,z8]] w (laws_toCategory_post w y):=by
 refine calls_of_M (S:=Unit) (args:=[.agg #[.int .i64 (x0.Objects),z6,z7,z9,z8]]) Tryz.func17 rfl Tryz.ntmps17 (Nat.le_of_ble_eq_true rfl) (retM_some hm) ?_
 clear hm
 intro o ho
 have hB:Chg [] w w:=cr _ _
 refine wq ?_
 refine W_region rfl ?_
 refine WL.box fun b1 wd2 hC3 hr4 hl5=>?_
 replace hr4:Row wd2 b1 [.int .i64 (x0.Objects),z6,z7,z9,z8] 25:=hr4
 have hT7:=(cr [] w).trans hC3
 replace hB:=(hB.trans hT7)
 refine WL.alloc info27 zr27 fun b8 wd9 hC10 hr11 hl12=>?_
 replace hr11:Row wd9 b8 [.int .i64 ((0:Int)),.slice none 0 0,.slice none 0 0,.slice none 0 0,.slice none 0 0] 27:=hr11
 have lo13:w.heap.size≤b8:=Nat.le_trans (hB.trans (cr [] wd2)).size hl12
 have d14:Dis [b8] [b1]:=dl (onw hl12) (one_lt (Row.lt (kr hr4 (cr [] wd2))))
 have hT15:=(cr [] wd2).trans hC10
 replace hr4:=kr hr4 hT15
 replace hB:=(hB.trans hT15)
 refine anz ?_
 refine wq ?_
 refine W_region rfl ?_
 refine WL.alloc info27 zr27 fun b16 wd17 hC18 hr19 hl20=>?_
 replace hr19:Row wd17 b16 [.int .i64 ((0:Int)),.slice none 0 0,.slice none 0 0,.slice none 0 0,.slice none 0 0] 27:=hr19
 have lo21:w.heap.size≤b16:=Nat.le_trans (hB.trans (cr [] wd9)).size hl20
 have d22:Dis [b16] [b1]:=dl (onw hl20) (one_lt (Row.lt (kr hr4 (cr [] wd9))))
 have d23:Dis [b16] [b8]:=dl (onw hl20) (one_lt (Row.lt (kr hr11 (cr [] wd9))))
 have hT24:=(cr [] wd9).trans hC18
 replace hr4:=kr hr4 hT24
 replace hr11:=kr hr11 hT24
 replace hB:=(hB.trans hT24)
 refine anz ?_
 refine wq ?_
 refine W_region rfl ?_
 refine wv (v:=.pointer (some (⟨b1,0,none⟩))) rfl (op_fieldAddrR u25z rfl info2 ne2 rfl rfl) ?_
 refine wv (v:=.int .i64 (x0.Objects)) rfl (oldz u2z rfl rfl ((kr hr4 (cr [] wd17)).at.cell (j:=0) rfl)) ?_
 refine wv (v:=.pointer (some (⟨b16,0,none⟩))) rfl (op_fieldAddrR u27z rfl info2 ne2 rfl rfl) ?_
 refine WL.storeRow (j:=0) info2 sz2 (kr hr19 (cr [] wd17)) (Nat.le_of_ble_eq_true rfl) rfl rfl rfl fun wd25 hC26 hr27=>?_
 replace hr27:Row wd25 b16 [.int .i64 (x0.Objects),.slice none 0 0,.slice none 0 0,.slice none 0 0,.slice none 0 0] 27:=hr27
 have hT28:=((cr [] wd17).nil (G:=[b16])).trans hC26
 replace hr4:=Row.keep hr4 hT28 ((d22).symm _ (ms rfl))
 replace hr11:=Row.keep hr11 hT28 ((d23).symm _ (ms rfl))
 replace hB:=hB.then hT28 (one_then lo21)
 refine anz ?_
 refine wq ?_
 refine W_region rfl ?_
 refine wv (v:=.pointer (some (⟨b1,1,none⟩))) rfl (op_fieldAddrR u25z rfl info22 ne22 rfl rfl) ?_
 refine wv (v:=z6) rfl (oldz u22z rfl rfl ((kr hr4 (cr [] wd25)).at.cell (j:=1) rfl)) ?_
 obtain ⟨y29,hy30,ho⟩:=bs ho
 refine WL.call rfl (op_callF Tryz.func33 rfl rfl) (laws_toInt64S_calls (kp _ za (hB.trans (cr [] wd25))) hy30) ?_
 rintro _ wd31 ⟨v33,f34,rfl,hC32,o35⟩
 refine ⟨_,rfl,?_⟩
 have d37:Dis f34 [b8]:=dl (ofr o35) (one_lt (Row.lt (kr hr11 (cr [] wd25))))
 have d38:Dis f34 [b16]:=dl (ofr o35) (one_lt (Row.lt (kr hr27 (cr [] wd25))))
 replace o35:=OE.low (G:=[]) o35 (hB.trans (cr [] wd25)).size
 have hT39:=(cr [] wd25).trans hC32
 replace hr4:=kr hr4 hT39
 replace hr11:=kr hr11 hT39
 replace hr27:=kr hr27 hT39
 replace hB:=(hB.trans hT39)
 refine wv (v:=.pointer (some (⟨b16,1,none⟩))) rfl (op_fieldAddrR u27z rfl info22 ne22 rfl rfl) ?_
 refine WL.storeRow (j:=1) info22 sz22 (kr hr27 (cr [] wd31)) (Nat.le_of_ble_eq_true rfl) rfl rfl (STy.one _ o35.1 _ (ms rfl)) fun wd40 hC41 hr42=>?_
 replace hr42:Row wd40 b16 [.int .i64 (x0.Objects),v33,.slice none 0 0,.slice none 0 0,.slice none 0 0] 27:=hr42
 have hT43:=((cr [] wd31).nil (G:=[b16])).trans hC41
 replace hr4:=Row.keep hr4 hT43 ((d22).symm _ (ms rfl))
 replace hr11:=Row.keep hr11 hT43 ((d23).symm _ (ms rfl))
 replace o35:=okp o35 hT43 d38
 replace hB:=hB.then hT43 (one_then lo21)
 refine anz ?_
 refine wq ?_
 refine W_region rfl ?_
 refine wv (v:=.pointer (some (⟨b1,2,none⟩))) rfl (op_fieldAddrR u25z rfl info22 ne22 rfl rfl) ?_
 refine wv (v:=z7) rfl (oldz u22z rfl rfl ((kr hr4 (cr [] wd40)).at.cell (j:=2) rfl)) ?_
 obtain ⟨y44,hy45,ho⟩:=bs ho
 refine WL.call rfl (op_callF Tryz.func33 rfl rfl) (laws_toInt64S_calls (kp _ zb (hB.trans (cr [] wd40))) hy45) ?_
 rintro _ wd46 ⟨v48,f49,rfl,hC47,o50⟩
 refine ⟨_,rfl,?_⟩
 have d52:Dis f49 [b8]:=dl (ofr o50) (one_lt (Row.lt (kr hr11 (cr [] wd40))))
 have d53:Dis f49 f34:=dl (ofr o50) (sl _ (kp _ o35.1 (cr [] wd40)))
 have d54:Dis f49 [b16]:=dl (ofr o50) (one_lt (Row.lt (kr hr42 (cr [] wd40))))
 replace o50:=OE.low (G:=[]) o50 (hB.trans (cr [] wd40)).size
 have hT55:=(cr [] wd40).trans hC47
 replace hr4:=kr hr4 hT55
 replace hr11:=kr hr11 hT55
 replace o35:=ko o35 hT55
 replace hr42:=kr hr42 hT55
 replace hB:=(hB.trans hT55)
 refine wv (v:=.pointer (some (⟨b16,2,none⟩))) rfl (op_fieldAddrR u27z rfl info22 ne22 rfl rfl) ?_
 refine WL.storeRow (j:=2) info22 sz22 (kr hr42 (cr [] wd46)) (Nat.le_of_ble_eq_true rfl) rfl rfl (STy.one _ o50.1 _ (ms rfl)) fun wd56 hC57 hr58=>?_
 replace hr58:Row wd56 b16 [.int .i64 (x0.Objects),v33,v48,.slice none 0 0,.slice none 0 0] 27:=hr58
 have hT59:=((cr [] wd46).nil (G:=[b16])).trans hC57
 replace hr4:=Row.keep hr4 hT59 ((d22).symm _ (ms rfl))
 replace hr11:=Row.keep hr11 hT59 ((d23).symm _ (ms rfl))
 replace o35:=okp o35 hT59 d38
 replace o50:=okp o50 hT59 d54
 replace hB:=hB.then hT59 (one_then lo21)
 refine anz ?_
 refine wq ?_
 refine W_region rfl ?_
 refine wv (v:=.pointer (some (⟨b1,3,none⟩))) rfl (op_fieldAddrR u25z rfl info22 ne22 rfl rfl) ?_
 refine wv (v:=z9) rfl (oldz u22z rfl rfl ((kr hr4 (cr [] wd56)).at.cell (j:=3) rfl)) ?_
 obtain ⟨y60,hy61,ho⟩:=bs ho
 refine WL.call rfl (op_callF Tryz.func33 rfl rfl) (laws_toInt64S_calls (kp _ zd (hB.trans (cr [] wd56))) hy61) ?_
 rintro _ wd62 ⟨v64,f65,rfl,hC63,o66⟩
 refine ⟨_,rfl,?_⟩
 have d68:Dis f65 [b8]:=dl (ofr o66) (one_lt (Row.lt (kr hr11 (cr [] wd56))))
 have d69:Dis f65 f34:=dl (ofr o66) (sl _ (kp _ o35.1 (cr [] wd56)))
 have d70:Dis f65 f49:=dl (ofr o66) (sl _ (kp _ o50.1 (cr [] wd56)))
 have d71:Dis f65 [b16]:=dl (ofr o66) (one_lt (Row.lt (kr hr58 (cr [] wd56))))
 replace o66:=OE.low (G:=[]) o66 (hB.trans (cr [] wd56)).size
 have hT72:=(cr [] wd56).trans hC63
 replace hr4:=kr hr4 hT72
 replace hr11:=kr hr11 hT72
 replace o35:=ko o35 hT72
 replace o50:=ko o50 hT72
 replace hr58:=kr hr58 hT72
 replace hB:=(hB.trans hT72)
 refine wv (v:=.pointer (some (⟨b16,3,none⟩))) rfl (op_fieldAddrR u27z rfl info22 ne22 rfl rfl) ?_
 refine WL.storeRow (j:=3) info22 sz22 (kr hr58 (cr [] wd62)) (Nat.le_of_ble_eq_true rfl) rfl rfl (STy.one _ o66.1 _ (ms rfl)) fun wd73 hC74 hr75=>?_
 replace hr75:Row wd73 b16 [.int .i64 (x0.Objects),v33,v48,v64,.slice none 0 0] 27:=hr75
 have hT76:=((cr [] wd62).nil (G:=[b16])).trans hC74
 replace hr4:=Row.keep hr4 hT76 ((d22).symm _ (ms rfl))
 replace hr11:=Row.keep hr11 hT76 ((d23).symm _ (ms rfl))
 replace o35:=okp o35 hT76 d38
 replace o50:=okp o50 hT76 d54
 replace o66:=okp o66 hT76 d71
 replace hB:=hB.then hT76 (one_then lo21)
 refine anz ?_
 refine wq ?_
 refine W_region rfl ?_
 refine wv (v:=.pointer (some (⟨b1,4,none⟩))) rfl (op_fieldAddrR u25z rfl info23 ne23 rfl rfl) ?_
 refine wv (v:=z8) rfl (oldz u23z rfl rfl ((kr hr4 (cr [] wd73)).at.cell (j:=4) rfl)) ?_
 obtain ⟨y77,hy78,ho⟩:=bs ho
 refine WL.call rfl (op_callF Tryz.func64 rfl rfl) (laws_toInt64SS_calls (kp _ zc (hB.trans (cr [] wd73))) hy78) ?_
 rintro _ wd79 ⟨v81,f82,rfl,hC80,o83⟩
 refine ⟨_,rfl,?_⟩
 have d85:Dis f82 [b8]:=dl (ofr o83) (one_lt (Row.lt (kr hr11 (cr [] wd73))))
 have d86:Dis f82 f34:=dl (ofr o83) (sl _ (kp _ o35.1 (cr [] wd73)))
 have d87:Dis f82 f49:=dl (ofr o83) (sl _ (kp _ o50.1 (cr [] wd73)))
 have d88:Dis f82 f65:=dl (ofr o83) (sl _ (kp _ o66.1 (cr [] wd73)))
 have d89:Dis f82 [b16]:=dl (ofr o83) (one_lt (Row.lt (kr hr75 (cr [] wd73))))
 replace o83:=OE.low (G:=[]) o83 (hB.trans (cr [] wd73)).size
 have hT90:=(cr [] wd73).trans hC80
 replace hr4:=kr hr4 hT90
 replace hr11:=kr hr11 hT90
 replace o35:=ko o35 hT90
 replace o50:=ko o50 hT90
 replace o66:=ko o66 hT90
 replace hr75:=kr hr75 hT90
 replace hB:=(hB.trans hT90)
 refine wv (v:=.pointer (some (⟨b16,4,none⟩))) rfl (op_fieldAddrR u27z rfl info23 ne23 rfl rfl) ?_
 refine WL.storeRow (j:=4) info23 sz23 (kr hr75 (cr [] wd79)) (Nat.le_of_ble_eq_true rfl) rfl rfl (STy.one _ o83.1 _ (ms rfl)) fun wd91 hC92 hr93=>?_
 replace hr93:Row wd91 b16 [.int .i64 (x0.Objects),v33,v48,v64,v81] 27:=hr93
 have hT94:=((cr [] wd79).nil (G:=[b16])).trans hC92
 replace hr4:=Row.keep hr4 hT94 ((d22).symm _ (ms rfl))
 replace hr11:=Row.keep hr11 hT94 ((d23).symm _ (ms rfl))
 replace o35:=okp o35 hT94 d38
 replace o50:=okp o50 hT94 d54
 replace o66:=okp o66 hT94 d71
 replace o83:=okp o83 hT94 d89
 replace hB:=hB.then hT94 (one_then lo21)
 refine anz ?_
 refine wq ?_
 refine W_region rfl ?_
 refine wv (v:=.agg #[.int .i64 (x0.Objects),v33,v48,v64,v81]) rfl (op_loadAgg u27z rfl info27 (by rw [sz27]; rfl) rfl (kr hr93 (cr [] wd91)).at) ?_
 refine WL.storeAll (us:=[.int .i64 (x0.Objects),v33,v48,v64,v81]) info27 (by rw [sz27]; rfl) (kr hr11 (cr [] wd91)) rfl rfl rfl (by intro u hu; simp only [List.mem_cons,List.mem_nil_iff,or_false] at hu; rcases hu with rfl | rfl | rfl | rfl | rfl <;> first | exact rfl | exact (STy.one _ o35.1 _ (ms rfl)) | exact (STy.one _ o50.1 _ (ms rfl)) | exact (STy.one _ o66.1 _ (ms rfl)) | exact (STy.one _ o83.1 _ (ms rfl))) fun wd95 hC96 hr97=>?_
 replace hr97:Row wd95 b8 [.int .i64 (x0.Objects),v33,v48,v64,v81] 27:=hr97
 have hT98:=((cr [] wd91).nil (G:=[b8])).trans hC96
 replace hr4:=Row.keep hr4 hT98 ((d14).symm _ (ms rfl))
 replace o35:=okp o35 hT98 d37
 replace o50:=okp o50 hT98 d52
 replace o66:=okp o66 hT98 d68
 replace o83:=okp o83 hT98 d85
 replace hr93:=Row.keep hr93 hT98 (d23 _ (ms rfl))
 replace hB:=hB.then hT98 (one_then lo13)
 refine anz ?_
 cases ho
 exact W_ret ⟨_,res_c Tryz.results17 u27z rfl info27 (by rw [sz27]; rfl) rfl (kr hr97 (cr [] wd95)).at,_,_,_,_,_,_,_,_,rfl,(hB.trans (cr [] wd95)),(ko o35 (cr [] wd95)),(ko o50 (cr [] wd95)),(ko o66 (cr [] wd95)),(ko o83 (cr [] wd95)),((d53).symm),((d69).symm),((d86).symm),((d70).symm),((d87).symm),((d88).symm)⟩

noncomputable def spec_l01In (x0:Int) (x1:Int) (x2:Int):Option (Bool):=
 retM (S:=Unit) (((bif decide (x0 ≥ x1) then (some (decide (x0≤x2))) else (some (false))))>>=fun g3=>(some (Out.ret (g3))))
abbrev spec_l01In_post (w:World) (x:(Bool)) (e:Ending) (w':World):Prop:=e = .returned (.bool x)∧Chg [] w w'
abbrev spec_l01In_T (w:World) (x:(Bool)) (r:Nat→Value) (w':World):Prop:=∃ v,(∀ a:Act,a.tmps.size=15→rho a=r→(results Tryz.f181 a.tmps).run Tryz.prog w' = .ok v w')∧spec_l01In_post w x (.returned v) w'
theorem spec_l01In_calls {w:World} {x0:Int} {x1:Int} {x2:Int}  {y:(Bool)} (hm:spec_l01In x0 x1 x2=some y) :
  Calls Tryz.prog 181 #[.int .i64 (x0),.int .i64 (x1),.int .i64 (x2)] w (spec_l01In_post w y):=by
 refine calls_of_M (S:=Unit) (args:=[.int .i64 (x0),.int .i64 (x1),.int .i64 (x2)]) Tryz.func181 rfl Tryz.ntmps181 (Nat.le_of_ble_eq_true rfl) (retM_some hm) ?_
 clear hm
 intro o ho
 have hB:Chg [] w w:=cr _ _
 refine wq ?_
 refine Wq rfl (cr [] w) ?_
 refine qv (v:=.bool (false)) rfl (fun _ _=>oa _) ?_
 intro wd1 hC2
 refine anz ?_
 refine wq ?_
 refine Wq rfl hC2 ?_
 obtain ⟨g3,hm4,ho⟩:=bs ho
 refine QL.meet (fun r=>∃ F,r=updL F [(6,.bool (g3))]) ?_ ?_
 skip
 refine qv (v:=.int .i64 (x0)) rfl (fun _ _=>om _) ?_
 refine qv (v:=.int .i64 (x1)) rfl (fun _ _=>om _) ?_
 refine qv (v:=.bool (decide (x0 ≥ x1))) rfl (fun _ _=>op_bin rfl rfl bin_geq) ?_
 refine qv (v:=.bool (decide (x0 ≥ x1))) rfl (fun _ _=>om _) ?_
 rcases Bool.eq_false_or_eq_true (decide (x0 ≥ x1)) with hb5 | hb5
 rw [hb5] at hm4
 refine qg (v:=.int .i64 (x0)) rfl (congrArg some hb5) (fun _ _=>om _) ?_
 refine qg (v:=.int .i64 (x2)) rfl (congrArg some hb5) (fun _ _=>om _) ?_
 refine qg (v:=.bool (decide (x0≤x2))) rfl (congrArg some hb5) (fun _ _=>op_bin rfl rfl bin_leq) ?_
 refine qv (v:=.bool (decide (x0≤x2))) rfl (fun _ _=>op_pickT rfl hb5) ?_
 refine qv (v:=.bool (decide (x0≤x2))) rfl (fun _ _=>oa _) ?_
 cases hm4
 exact fr ⟨rfl,trivial⟩
 rw [hb5] at hm4
 refine qs rfl (congrArg some hb5) rfl ?_
 refine qs rfl (congrArg some hb5) rfl ?_
 refine qs rfl (congrArg some hb5) rfl ?_
 refine qv (v:=.bool (false)) rfl (fun _ _=>op_pickF rfl hb5) ?_
 refine qv (v:=.bool (false)) rfl (fun _ _=>oa _) ?_
 cases hm4
 exact fr ⟨rfl,trivial⟩
 rintro _ ⟨F,rfl⟩
 intro wd6 hC7
 refine anz ?_
 cases ho
 exact W_ret ⟨_,res_1 Tryz.results181,rfl,(hB.trans hC7)⟩

noncomputable def spec_l01Map_L0 (x0:Int) (x1:(List Int)) (s0_5:Int):Option (Out (Int) (Bool)):=
 (bif decide (s0_5 < (x1.length:Int)) then ((((idx x1 (s0_5))>>=fun e11=>(bif decide (e11 < (0:Int)) then (some (true)) else ((idx x1 (s0_5))>>=fun e14=>(some (decide (e14 ≥ x0)))))))>>=fun g9=>(bif g9 then (some (Out.ret (false))) else (some (Out.norm (w64 (s0_5 + (1:Int))))))) else (some (Out.exit 0 (s0_5))))
noncomputable def spec_l01Map (x0:Int) (x1:(List Int)):Option (Bool):=
 retM (S:=Unit) (lbind (blockM 0 (loopM (spec_l01Map_L0 x0 x1) ((0:Int)))) (fun s0_5=>(some (Out.ret (true)))))
abbrev spec_l01Map_post (w:World) (x:(Bool)) (e:Ending) (w':World):Prop:=e = .returned (.bool x)∧Chg [] w w'
abbrev spec_l01Map_T (w:World) (x:(Bool)) (r:Nat→Value) (w':World):Prop:=∃ v,(∀ a:Act,a.tmps.size=25→rho a=r→(results Tryz.f134 a.tmps).run Tryz.prog w' = .ok v w')∧spec_l01Map_post w x (.returned v) w'
theorem spec_l01Map_calls {w:World} {x0:Int} {x1:(List Int)} {v_x1:Value} {f_x1:List Nat} (h_x1:(sImm (sInt .i64)).rep w.heap [v_x1] x1 f_x1) {y:(Bool)} (hm:spec_l01Map x0 x1=some y) :
  Calls Tryz.prog 134 #[.int .i64 (x0),v_x1] w (spec_l01Map_post w y):=by
 refine calls_of_M (S:=Unit) (args:=[.int .i64 (x0),v_x1]) Tryz.func134 rfl Tryz.ntmps134 (Nat.le_of_ble_eq_true rfl) (retM_some hm) ?_
 clear hm
 intro o ho
 have hB:Chg [] w w:=cr _ _
 refine wq ?_
 refine Wq rfl (cr [] w) ?_
 refine qv (v:=.bool (false)) rfl (fun _ _=>oa _) ?_
 intro wd1 hC2
 refine anz ?_
 refine wq ?_
 refine wq ?_
 refine Wq rfl hC2 ?_
 refine qv (v:=.int .i64 ((0:Int))) rfl (fun _ _=>oa _) ?_
 intro wd3 hC4
 refine anz ?_
 refine W_for (S1:=Int) (fun (s0_5:Int) r w'=>Chg [] w w'∧∃ F,r=updL F [(0,.int .i64 (x0)),(1,v_x1),(5,.int .i64 (s0_5))]) (T:=spec_l01Map_T w) ho ⟨(hB.trans hC4),fr ⟨rfl,rfl,rfl,trivial⟩⟩ ?_ ?_ ?_
 intro x r w' ho hx; subst ho; exact hx
 rintro s0_5 _ wd5 ⟨hB,F,rfl⟩ o ho
 replace ho:spec_l01Map_L0 x0 x1 s0_5=some o:=ho
 unfold spec_l01Map_L0 at ho
 refine wq ?_
 refine wq ?_
 refine Wq rfl (cr [] wd5) ?_
 refine qv (v:=.int .i64 (s0_5)) rfl (fun _ _=>om _) ?_
 refine qv (v:=v_x1) rfl (fun _ _=>om _) ?_
 refine qv (v:=.int .i64 ((x1.length:Int))) rfl (fun _ hC=>op_lenI u22z (kp _ h_x1 (hB.trans hC))) ?_
 refine qv (v:=.bool (decide (s0_5 < (x1.length:Int)))) rfl (fun _ _=>op_bin rfl rfl bin_lss) ?_
 intro wd6 hC7
 refine anz ?_
 refine W_cond (b:=decide (s0_5 < (x1.length:Int))) rfl ?_ ?_
 intro hb8
 rw [hb8] at ho
 refine W_skip ?_
 refine anz ?_
 refine wq ?_
 refine W_block ?_
 refine wq ?_
 refine Wq rfl hC7 ?_
 obtain ⟨g9,hm10,ho⟩:=bs ho
 refine QL.meet (fun r=>∃ F,r=updL F [(0,.int .i64 (x0)),(1,v_x1),(5,.int .i64 (s0_5)),(24,.bool (g9))]) ?_ ?_
 skip
 refine qv (v:=v_x1) rfl (fun _ _=>om _) ?_
 refine qv (v:=.int .i64 (s0_5)) rfl (fun _ _=>om _) ?_
 obtain ⟨e11,hx12e,hm10⟩:=bs hm10
 have hx12:=idx_some hx12e
 refine qv (v:=.pointer (some (elA (v_x1) 1 (s0_5)))) rfl (fun _ hC=>op_indexI u22z info2 sz2 rfl (kp _ h_x1 (hB.trans hC)) rfl hx12.1 hx12.2) ?_
 refine qv (v:=.int .i64 (e11)) rfl (fun _ hC=>oldz u2z rfl rfl (int_get (kp _ h_x1 (hB.trans hC)) hx12.1 hx12.2)) ?_
 refine qv (v:=.bool (decide (e11 < (0:Int)))) rfl (fun _ _=>op_bin rfl rfl bin_lss) ?_
 refine qv (v:=.bool (decide (e11 < (0:Int)))) rfl (fun _ _=>om _) ?_
 rcases Bool.eq_false_or_eq_true (decide (e11 < (0:Int))) with hb13 | hb13
 rw [hb13] at hm10
 refine qs rfl (congrArg some hb13) rfl ?_
 refine qs rfl (congrArg some hb13) rfl ?_
 refine qs rfl (congrArg some hb13) rfl ?_
 refine qs rfl (congrArg some hb13) rfl ?_
 refine qs rfl (congrArg some hb13) rfl ?_
 refine qs rfl (congrArg some hb13) rfl ?_
 refine qv (v:=.bool (true)) rfl (fun _ _=>op_pickT rfl hb13) ?_
 cases hm10
 exact fr ⟨rfl,rfl,rfl,rfl,trivial⟩
 rw [hb13] at hm10
 refine qg (v:=v_x1) rfl (congrArg some hb13) (fun _ _=>om _) ?_
 refine qg (v:=.int .i64 (s0_5)) rfl (congrArg some hb13) (fun _ _=>om _) ?_
 obtain ⟨e14,hx15e,hm10⟩:=bs hm10
 have hx15:=idx_some hx15e
 refine qg (v:=.pointer (some (elA (v_x1) 1 (s0_5)))) rfl (congrArg some hb13) (fun _ hC=>op_indexI u22z info2 sz2 rfl (kp _ h_x1 (hB.trans hC)) rfl hx15.1 hx15.2) ?_
 refine qg (v:=.int .i64 (e14)) rfl (congrArg some hb13) (fun _ hC=>oldz u2z rfl rfl (int_get (kp _ h_x1 (hB.trans hC)) hx15.1 hx15.2)) ?_
 refine qg (v:=.int .i64 (x0)) rfl (congrArg some hb13) (fun _ _=>om _) ?_
 refine qg (v:=.bool (decide (e14 ≥ x0))) rfl (congrArg some hb13) (fun _ _=>op_bin rfl rfl bin_geq) ?_
 refine qv (v:=.bool (decide (e14 ≥ x0))) rfl (fun _ _=>op_pickF rfl hb13) ?_
 cases hm10
 exact fr ⟨rfl,rfl,rfl,rfl,trivial⟩
 rintro _ ⟨F,rfl⟩
 intro wd16 hC17
 refine anz ?_
 refine W_cond (b:=g9) rfl ?_ ?_
 intro hb18
 rw [hb18] at ho
 refine wq ?_
 refine Wq rfl hC17 ?_
 refine qv (v:=.bool (false)) rfl (fun _ _=>oa _) ?_
 intro wd19 hC20
 refine anz ?_
 cases ho
 exact W_ret ⟨_,res_1 Tryz.results134,rfl,(hB.trans hC20)⟩
 intro hb18
 rw [hb18] at ho
 refine W_skip ?_
 refine inBlk_n ?_
 refine anz ?_
 refine Wq rfl hC17 ?_
 refine qv (v:=.int .i64 (s0_5)) rfl (fun _ _=>om _) ?_
 refine qv (v:=.int .i64 (w64 (s0_5 + (1:Int)))) rfl (fun _ _=>op_bin rfl rfl bin_add) ?_
 refine qv (v:=.int .i64 (w64 (s0_5 + (1:Int)))) rfl (fun _ _=>oa _) ?_
 intro wd21 hC22
 cases ho
 exact ⟨(hB.trans hC22),fr ⟨rfl,rfl,rfl,trivial⟩⟩
 intro hb8
 rw [hb8] at ho
 refine W_exit ?_
 refine andThen_x ?_
 cases ho
 exact ⟨rfl,⟨(hB.trans hC7),fr ⟨rfl,rfl,rfl,trivial⟩⟩⟩
 rintro s0_5 _ wd23 ⟨hB,F,rfl⟩ ho
 replace ho:=ho
 refine anz ?_
 refine wq ?_
 refine Wq rfl (cr [] wd23) ?_
 refine qv (v:=.bool (true)) rfl (fun _ _=>oa _) ?_
 intro wd24 hC25
 refine anz ?_
 cases ho
 exact W_ret ⟨_,res_1 Tryz.results134,rfl,(hB.trans hC25)⟩

noncomputable def spec_l02Ends (x0:(List Int)) (x1:Int) (x2:Int):Option (Bool):=
 retM (S:=Unit) (((bif ((x0.length:Int)) == (x1) then ((spec_l01Map (x2) x0)>>=fun y6=>(some (y6))) else (some (false))))>>=fun g3=>(some (Out.ret (g3))))
abbrev spec_l02Ends_post (w:World) (x:(Bool)) (e:Ending) (w':World):Prop:=e = .returned (.bool x)∧Chg [] w w'
abbrev spec_l02Ends_T (w:World) (x:(Bool)) (r:Nat→Value) (w':World):Prop:=∃ v,(∀ a:Act,a.tmps.size=16→rho a=r→(results Tryz.f182 a.tmps).run Tryz.prog w' = .ok v w')∧spec_l02Ends_post w x (.returned v) w'
theorem spec_l02Ends_calls {w:World} {x0:(List Int)} {v_x0:Value} {f_x0:List Nat} {x1:Int} {x2:Int} (h_x0:(sImm (sInt .i64)).rep w.heap [v_x0] x0 f_x0) {y:(Bool)} (hm:spec_l02Ends x0 x1 x2=some y) :
  Calls Tryz.prog 182 #[v_x0,.int .i64 (x1),.int .i64 (x2)] w (spec_l02Ends_post w y):=by
 refine calls_of_M (S:=Unit) (args:=[v_x0,.int .i64 (x1),.int .i64 (x2)]) Tryz.func182 rfl Tryz.ntmps182 (Nat.le_of_ble_eq_true rfl) (retM_some hm) ?_
 clear hm
 intro o ho
 have hB:Chg [] w w:=cr _ _
 refine wq ?_
 refine Wq rfl (cr [] w) ?_
 refine qv (v:=.bool (false)) rfl (fun _ _=>oa _) ?_
 intro wd1 hC2
 refine anz ?_
 refine wq ?_
 refine Wq rfl hC2 ?_
 obtain ⟨g3,hm4,ho⟩:=bs ho
 refine QL.meet (fun r=>∃ F,r=updL F [(6,.bool (g3))]) ?_ ?_
 skip
 refine qv (v:=v_x0) rfl (fun _ _=>om _) ?_
 refine qv (v:=.int .i64 ((x0.length:Int))) rfl (fun _ hC=>op_lenI u22z (kp _ h_x0 (hB.trans hC))) ?_
 refine qv (v:=.int .i64 (x1)) rfl (fun _ _=>om _) ?_
 refine qv (v:=.bool (((x0.length:Int)) == (x1))) rfl (fun _ _=>op_bin rfl rfl bin_eql) ?_
 refine qv (v:=.bool (((x0.length:Int)) == (x1))) rfl (fun _ _=>om _) ?_
 rcases Bool.eq_false_or_eq_true (((x0.length:Int)) == (x1)) with hb5 | hb5
 rw [hb5] at hm4
 refine qg (v:=.int .i64 (x2)) rfl (congrArg some hb5) (fun _ _=>om _) ?_
 refine qg (v:=v_x0) rfl (congrArg some hb5) (fun _ _=>om _) ?_
 obtain ⟨y6,hy7,hm4⟩:=bs hm4
 refine QL.callG (v:=.bool (y6)) rfl (congrArg some hb5) (fun _ _=>op_callF Tryz.func134 rfl rfl) (fun _ hC=>(spec_l01Map_calls (kp _ h_x0 (hB.trans hC)) hy7).mono fun _ _ h=>⟨h.1,hC.trans h.2⟩) ?_
 refine qv (v:=.bool (y6)) rfl (fun _ _=>op_pickT rfl hb5) ?_
 refine qv (v:=.bool (y6)) rfl (fun _ _=>oa _) ?_
 cases hm4
 exact fr ⟨rfl,trivial⟩
 rw [hb5] at hm4
 refine qs rfl (congrArg some hb5) rfl ?_
 refine qs rfl (congrArg some hb5) rfl ?_
 refine qs rfl (congrArg some hb5) rfl ?_
 refine qv (v:=.bool (false)) rfl (fun _ _=>op_pickF rfl hb5) ?_
 refine qv (v:=.bool (false)) rfl (fun _ _=>oa _) ?_
 cases hm4
 exact fr ⟨rfl,trivial⟩
 rintro _ ⟨F,rfl⟩
 intro wd8 hC9
 refine anz ?_
 cases ho
 exact W_ret ⟨_,res_1 Tryz.results182,rfl,(hB.trans hC9)⟩

noncomputable def spec_IsShape_L0 (x0:MCategory) (s0_4:Int):Option (Out (Int) (Bool)):=
 (bif decide (s0_4 < x0.Objects) then ((((idx x0.Identity (s0_4))>>=fun e45=>((idx x0.From (e45))>>=fun e47=>(bif (e47) != (s0_4) then (some (true)) else ((idx x0.Identity (s0_4))>>=fun e50=>((idx x0.To (e50))>>=fun e52=>(some ((e52) != (s0_4)))))))))>>=fun g43=>(bif g43 then (some (Out.ret (false))) else (some (Out.norm (w64 (s0_4 + (1:Int))))))) else (some (Out.exit 0 (s0_4))))
noncomputable def spec_IsShape_L2 (x0:MCategory) (s1_5:Int) (s2_6:Int):Option (Out (Int) (Bool)):=
 (bif decide (s2_6 < (x0.From.length:Int)) then ((idx x0.Composites (s1_5))>>=fun e86=>((idx e86 (s2_6))>>=fun e93=>((idx x0.To (s1_5))>>=fun e97=>((idx x0.From (s2_6))>>=fun e99=>(bif (e97) != (e99) then (bif (e93) != ((-1:Int)) then (some (Out.ret (false))) else (some (Out.norm (w64 (s2_6 + (1:Int)))))) else (((bif decide (e93 < (0:Int)) then (some (true)) else (bif decide (e93 ≥ (x0.From.length:Int)) then (some (true)) else ((idx x0.From (e93))>>=fun e115=>((idx x0.From (s1_5))>>=fun e117=>(bif (e115) != (e117) then (some (true)) else ((idx x0.To (e93))>>=fun e120=>((idx x0.To (s2_6))>>=fun e122=>(some ((e120) != (e122)))))))))))>>=fun g111=>(bif g111 then (some (Out.ret (false))) else (some (Out.norm (w64 (s2_6 + (1:Int)))))))))))) else (some (Out.exit 4 (s2_6))))
noncomputable def spec_IsShape_L1 (x0:MCategory) (s1_5:Int):Option (Out (Int) (Bool)):=
 (bif decide (s1_5 < (x0.From.length:Int)) then ((idx x0.Composites (s1_5))>>=fun e68=>(bif ((e68.length:Int)) != ((x0.From.length:Int)) then (some (Out.ret (false))) else (lbind (blockM 4 (loopM (spec_IsShape_L2 x0 s1_5) ((0:Int)))) (fun s2_6=>(some (Out.norm (w64 (s1_5 + (1:Int))))))))) else (some (Out.exit 2 (s1_5))))
noncomputable def spec_IsShape (x0:MCategory):Option (Bool):=
 retM (S:=Unit) ((((spec_l01In (x0.Objects) ((0:Int)) ((8:Int)))>>=fun y12=>(bif !(y12) then (some (true)) else (bif decide ((x0.From.length:Int) > (40:Int)) then (some (true)) else ((spec_l02Ends x0.From ((x0.From.length:Int)) (x0.Objects))>>=fun y16=>(bif !(y16) then (some (true)) else ((spec_l02Ends x0.To ((x0.From.length:Int)) (x0.Objects))>>=fun y19=>(bif !(y19) then (some (true)) else (some (((x0.Composites.length:Int)) != ((x0.From.length:Int))))))))))))>>=fun g10=>(bif g10 then (some (Out.ret (false))) else (((bif ((x0.Identity.length:Int)) != (x0.Objects) then (some (true)) else ((spec_l01Map ((x0.From.length:Int)) x0.Identity)>>=fun y30=>(some (!(y30))))))>>=fun g27=>(bif g27 then (some (Out.ret (false))) else (lbind (blockM 0 (loopM (spec_IsShape_L0 x0) ((0:Int)))) (fun s0_4=>(lbind (blockM 2 (loopM (spec_IsShape_L1 x0) ((0:Int)))) (fun s1_5=>(some (Out.ret (true)))))))))))
abbrev spec_IsShape_post (w:World) (x:(Bool)) (e:Ending) (w':World):Prop:=e = .returned (.bool x)∧Chg [] w w'
abbrev spec_IsShape_T (w:World) (x:(Bool)) (r:Nat→Value) (w':World):Prop:=∃ v,(∀ a:Act,a.tmps.size=159→rho a=r→(results Tryz.f157 a.tmps).run Tryz.prog w' = .ok v w')∧spec_IsShape_post w x (.returned v) w'
theorem spec_IsShape_calls {w:World} {x0:MCategory} {z6:Value} {zh:List Nat} {z7:Value} {zg:List Nat} {z9:Value} {zf:List Nat} {z8:Value} {ze:List Nat} (za:(sImm (sInt .i64)).rep w.heap [z6] x0.From zh) (zb:(sImm (sInt .i64)).rep w.heap [z7] x0.To zg) (zd:(sImm (sInt .i64)).rep w.heap [z9] x0.Identity zf) (zc:(sImm (sImm (sInt .i64))).rep w.heap [z8] x0.Composites ze) {y:(Bool)} (hm:spec_IsShape x0=some y) :
  Calls Tryz.prog 157 #[.agg #[.int .i64 (x0.Objects),z6,z7,z9,z8]] w (spec_IsShape_post w y):=by
 refine calls_of_M (S:=Unit) (args:=[.agg #[.int .i64 (x0.Objects),z6,z7,z9,z8]]) Tryz.func157 rfl Tryz.ntmps157 (Nat.le_of_ble_eq_true rfl) (retM_some hm) ?_
 clear hm
 intro o ho
 have hB:Chg [] w w:=cr _ _
 refine wq ?_
 refine W_region rfl ?_
 refine WL.box fun b1 wd2 hC3 hr4 hl5=>?_
 replace hr4:Row wd2 b1 [.int .i64 (x0.Objects),z6,z7,z9,z8] 27:=hr4
 have hT7:=(cr [] w).trans hC3
 replace hB:=(hB.trans hT7)
 refine wv (v:=.bool (false)) rfl (oa _) ?_
 refine anz ?_
 refine wq ?_
 refine Wq rfl (cr [] wd2) ?_
 refine qv (v:=.pointer (some (⟨b1,1,none⟩))) rfl (fun _ _=>op_fieldAddrR u27z rfl info22 ne22 rfl rfl) ?_
 refine qv (v:=z6) rfl (fun _ hC=>oldz u22z rfl rfl ((kr hr4 hC).at.cell (j:=1) rfl)) ?_
 refine qv (v:=.int .i64 ((x0.From.length:Int))) rfl (fun _ hC=>op_lenI u22z (kp _ za (hB.trans hC))) ?_
 refine qv (v:=.int .i64 ((x0.From.length:Int))) rfl (fun _ _=>oa _) ?_
 intro wd8 hC9
 refine anz ?_
 refine wq ?_
 refine wq ?_
 refine Wq rfl hC9 ?_
 obtain ⟨g10,hm11,ho⟩:=bs ho
 refine QL.meet (fun r=>∃ F,r=updL F [(1,.pointer (some (⟨b1,0,none⟩))),(3,.int .i64 ((x0.From.length:Int))),(43,.bool (g10))]) ?_ ?_
 skip
 refine qv (v:=.pointer (some (⟨b1,0,none⟩))) rfl (fun _ _=>op_fieldAddrR u27z rfl info2 ne2 rfl rfl) ?_
 refine qv (v:=.int .i64 (x0.Objects)) rfl (fun _ hC=>oldz u2z rfl rfl ((kr hr4 hC).at.cell (j:=0) rfl)) ?_
 obtain ⟨y12,hy13,hm11⟩:=bs hm11
 refine QL.call (v:=.bool (y12)) rfl (fun _ _=>op_callF Tryz.func181 rfl rfl) (fun _ hC=>(spec_l01In_calls  hy13).mono fun _ _ h=>⟨h.1,hC.trans h.2⟩) ?_
 refine qv (v:=.bool (!(y12))) rfl (fun _ _=>op_not rfl) ?_
 refine qv (v:=.bool (!(y12))) rfl (fun _ _=>om _) ?_
 rcases Bool.eq_false_or_eq_true (!(y12)) with hb14 | hb14
 rw [hb14] at hm11
 refine qs rfl (congrArg some hb14) rfl ?_
 refine qs rfl (congrArg some hb14) rfl ?_
 refine qv (v:=.bool (true)) rfl (fun _ _=>op_pickT rfl hb14) ?_
 refine qv (v:=.bool (true)) rfl (fun _ _=>om _) ?_
 refine qs rfl (congrArg some rfl) rfl ?_
 refine qs rfl (congrArg some rfl) rfl ?_
 refine qs rfl (congrArg some rfl) rfl ?_
 refine qs rfl (congrArg some rfl) rfl ?_
 refine qs rfl (congrArg some rfl) rfl ?_
 refine qs rfl (congrArg some rfl) rfl ?_
 refine qs rfl (congrArg some rfl) rfl ?_
 refine qv (v:=.bool (true)) rfl (fun _ _=>op_pickT rfl rfl) ?_
 refine qv (v:=.bool (true)) rfl (fun _ _=>om _) ?_
 refine qs rfl (congrArg some rfl) rfl ?_
 refine qs rfl (congrArg some rfl) rfl ?_
 refine qs rfl (congrArg some rfl) rfl ?_
 refine qs rfl (congrArg some rfl) rfl ?_
 refine qs rfl (congrArg some rfl) rfl ?_
 refine qs rfl (congrArg some rfl) rfl ?_
 refine qs rfl (congrArg some rfl) rfl ?_
 refine qv (v:=.bool (true)) rfl (fun _ _=>op_pickT rfl rfl) ?_
 refine qv (v:=.bool (true)) rfl (fun _ _=>om _) ?_
 refine qs rfl (congrArg some rfl) rfl ?_
 refine qs rfl (congrArg some rfl) rfl ?_
 refine qs rfl (congrArg some rfl) rfl ?_
 refine qs rfl (congrArg some rfl) rfl ?_
 refine qs rfl (congrArg some rfl) rfl ?_
 refine qv (v:=.bool (true)) rfl (fun _ _=>op_pickT rfl rfl) ?_
 cases hm11
 exact fr ⟨rfl,rfl,rfl,trivial⟩
 rw [hb14] at hm11
 refine qg (v:=.int .i64 ((x0.From.length:Int))) rfl (congrArg some hb14) (fun _ _=>om _) ?_
 refine qg (v:=.bool (decide ((x0.From.length:Int) > (40:Int)))) rfl (congrArg some hb14) (fun _ _=>op_bin rfl rfl bin_gtr) ?_
 refine qv (v:=.bool (decide ((x0.From.length:Int) > (40:Int)))) rfl (fun _ _=>op_pickF rfl hb14) ?_
 refine qv (v:=.bool (decide ((x0.From.length:Int) > (40:Int)))) rfl (fun _ _=>om _) ?_
 rcases Bool.eq_false_or_eq_true (decide ((x0.From.length:Int) > (40:Int))) with hb15 | hb15
 rw [hb15] at hm11
 refine qs rfl (congrArg some hb15) rfl ?_
 refine qs rfl (congrArg some hb15) rfl ?_
 refine qs rfl (congrArg some hb15) rfl ?_
 refine qs rfl (congrArg some hb15) rfl ?_
 refine qs rfl (congrArg some hb15) rfl ?_
 refine qs rfl (congrArg some hb15) rfl ?_
 refine qs rfl (congrArg some hb15) rfl ?_
 refine qv (v:=.bool (true)) rfl (fun _ _=>op_pickT rfl hb15) ?_
 refine qv (v:=.bool (true)) rfl (fun _ _=>om _) ?_
 refine qs rfl (congrArg some rfl) rfl ?_
 refine qs rfl (congrArg some rfl) rfl ?_
 refine qs rfl (congrArg some rfl) rfl ?_
 refine qs rfl (congrArg some rfl) rfl ?_
 refine qs rfl (congrArg some rfl) rfl ?_
 refine qs rfl (congrArg some rfl) rfl ?_
 refine qs rfl (congrArg some rfl) rfl ?_
 refine qv (v:=.bool (true)) rfl (fun _ _=>op_pickT rfl rfl) ?_
 refine qv (v:=.bool (true)) rfl (fun _ _=>om _) ?_
 refine qs rfl (congrArg some rfl) rfl ?_
 refine qs rfl (congrArg some rfl) rfl ?_
 refine qs rfl (congrArg some rfl) rfl ?_
 refine qs rfl (congrArg some rfl) rfl ?_
 refine qs rfl (congrArg some rfl) rfl ?_
 refine qv (v:=.bool (true)) rfl (fun _ _=>op_pickT rfl rfl) ?_
 cases hm11
 exact fr ⟨rfl,rfl,rfl,trivial⟩
 rw [hb15] at hm11
 refine qg (v:=.pointer (some (⟨b1,1,none⟩))) rfl (congrArg some hb15) (fun _ _=>op_fieldAddrR u27z rfl info22 ne22 rfl rfl) ?_
 refine qg (v:=z6) rfl (congrArg some hb15) (fun _ hC=>oldz u22z rfl rfl ((kr hr4 hC).at.cell (j:=1) rfl)) ?_
 refine qg (v:=.int .i64 ((x0.From.length:Int))) rfl (congrArg some hb15) (fun _ _=>om _) ?_
 refine qg (v:=.pointer (some (⟨b1,0,none⟩))) rfl (congrArg some hb15) (fun _ _=>op_fieldAddrR u27z rfl info2 ne2 rfl rfl) ?_
 refine qg (v:=.int .i64 (x0.Objects)) rfl (congrArg some hb15) (fun _ hC=>oldz u2z rfl rfl ((kr hr4 hC).at.cell (j:=0) rfl)) ?_
 obtain ⟨y16,hy17,hm11⟩:=bs hm11
 refine QL.callG (v:=.bool (y16)) rfl (congrArg some hb15) (fun _ _=>op_callF Tryz.func182 rfl rfl) (fun _ hC=>(spec_l02Ends_calls (kp _ za (hB.trans hC)) hy17).mono fun _ _ h=>⟨h.1,hC.trans h.2⟩) ?_
 refine qg (v:=.bool (!(y16))) rfl (congrArg some hb15) (fun _ _=>op_not rfl) ?_
 refine qv (v:=.bool (!(y16))) rfl (fun _ _=>op_pickF rfl hb15) ?_
 refine qv (v:=.bool (!(y16))) rfl (fun _ _=>om _) ?_
 rcases Bool.eq_false_or_eq_true (!(y16)) with hb18 | hb18
 rw [hb18] at hm11
 refine qs rfl (congrArg some hb18) rfl ?_
 refine qs rfl (congrArg some hb18) rfl ?_
 refine qs rfl (congrArg some hb18) rfl ?_
 refine qs rfl (congrArg some hb18) rfl ?_
 refine qs rfl (congrArg some hb18) rfl ?_
 refine qs rfl (congrArg some hb18) rfl ?_
 refine qs rfl (congrArg some hb18) rfl ?_
 refine qv (v:=.bool (true)) rfl (fun _ _=>op_pickT rfl hb18) ?_
 refine qv (v:=.bool (true)) rfl (fun _ _=>om _) ?_
 refine qs rfl (congrArg some rfl) rfl ?_
 refine qs rfl (congrArg some rfl) rfl ?_
 refine qs rfl (congrArg some rfl) rfl ?_
 refine qs rfl (congrArg some rfl) rfl ?_
 refine qs rfl (congrArg some rfl) rfl ?_
 refine qv (v:=.bool (true)) rfl (fun _ _=>op_pickT rfl rfl) ?_
 cases hm11
 exact fr ⟨rfl,rfl,rfl,trivial⟩
 rw [hb18] at hm11
 refine qg (v:=.pointer (some (⟨b1,2,none⟩))) rfl (congrArg some hb18) (fun _ _=>op_fieldAddrR u27z rfl info22 ne22 rfl rfl) ?_
 refine qg (v:=z7) rfl (congrArg some hb18) (fun _ hC=>oldz u22z rfl rfl ((kr hr4 hC).at.cell (j:=2) rfl)) ?_
 refine qg (v:=.int .i64 ((x0.From.length:Int))) rfl (congrArg some hb18) (fun _ _=>om _) ?_
 refine qg (v:=.pointer (some (⟨b1,0,none⟩))) rfl (congrArg some hb18) (fun _ _=>op_fieldAddrR u27z rfl info2 ne2 rfl rfl) ?_
 refine qg (v:=.int .i64 (x0.Objects)) rfl (congrArg some hb18) (fun _ hC=>oldz u2z rfl rfl ((kr hr4 hC).at.cell (j:=0) rfl)) ?_
 obtain ⟨y19,hy20,hm11⟩:=bs hm11
 refine QL.callG (v:=.bool (y19)) rfl (congrArg some hb18) (fun _ _=>op_callF Tryz.func182 rfl rfl) (fun _ hC=>(spec_l02Ends_calls (kp _ zb (hB.trans hC)) hy20).mono fun _ _ h=>⟨h.1,hC.trans h.2⟩) ?_
 refine qg (v:=.bool (!(y19))) rfl (congrArg some hb18) (fun _ _=>op_not rfl) ?_
 refine qv (v:=.bool (!(y19))) rfl (fun _ _=>op_pickF rfl hb18) ?_
 refine qv (v:=.bool (!(y19))) rfl (fun _ _=>om _) ?_
 rcases Bool.eq_false_or_eq_true (!(y19)) with hb21 | hb21
 rw [hb21] at hm11
 refine qs rfl (congrArg some hb21) rfl ?_
 refine qs rfl (congrArg some hb21) rfl ?_
 refine qs rfl (congrArg some hb21) rfl ?_
 refine qs rfl (congrArg some hb21) rfl ?_
 refine qs rfl (congrArg some hb21) rfl ?_
 refine qv (v:=.bool (true)) rfl (fun _ _=>op_pickT rfl hb21) ?_
 cases hm11
 exact fr ⟨rfl,rfl,rfl,trivial⟩
 rw [hb21] at hm11
 refine qg (v:=.pointer (some (⟨b1,4,none⟩))) rfl (congrArg some hb21) (fun _ _=>op_fieldAddrR u27z rfl info23 ne23 rfl rfl) ?_
 refine qg (v:=z8) rfl (congrArg some hb21) (fun _ hC=>oldz u23z rfl rfl ((kr hr4 hC).at.cell (j:=4) rfl)) ?_
 refine qg (v:=.int .i64 ((x0.Composites.length:Int))) rfl (congrArg some hb21) (fun _ hC=>op_lenI u23z (kp _ zc (hB.trans hC))) ?_
 refine qg (v:=.int .i64 ((x0.From.length:Int))) rfl (congrArg some hb21) (fun _ _=>om _) ?_
 refine qg (v:=.bool (((x0.Composites.length:Int)) != ((x0.From.length:Int)))) rfl (congrArg some hb21) (fun _ _=>op_bin rfl rfl bin_neq) ?_
 refine qv (v:=.bool (((x0.Composites.length:Int)) != ((x0.From.length:Int)))) rfl (fun _ _=>op_pickF rfl hb21) ?_
 cases hm11
 exact fr ⟨rfl,rfl,rfl,trivial⟩
 rintro _ ⟨F,rfl⟩
 intro wd22 hC23
 refine anz ?_
 refine W_cond (b:=g10) rfl ?_ ?_
 intro hb24
 rw [hb24] at ho
 refine wq ?_
 refine Wq rfl hC23 ?_
 refine qv (v:=.bool (false)) rfl (fun _ _=>oa _) ?_
 intro wd25 hC26
 refine anz ?_
 cases ho
 exact W_ret ⟨_,res_1 Tryz.results157,rfl,(hB.trans hC26)⟩
 intro hb24
 rw [hb24] at ho
 refine W_skip ?_
 refine anz ?_
 refine wq ?_
 refine wq ?_
 refine Wq rfl hC23 ?_
 obtain ⟨g27,hm28,ho⟩:=bs ho
 refine QL.meet (fun r=>∃ F,r=updL F [(1,.pointer (some (⟨b1,0,none⟩))),(3,.int .i64 ((x0.From.length:Int))),(56,.bool (g27))]) ?_ ?_
 skip
 refine qv (v:=.pointer (some (⟨b1,3,none⟩))) rfl (fun _ _=>op_fieldAddrR u27z rfl info22 ne22 rfl rfl) ?_
 refine qv (v:=z9) rfl (fun _ hC=>oldz u22z rfl rfl ((kr hr4 hC).at.cell (j:=3) rfl)) ?_
 refine qv (v:=.int .i64 ((x0.Identity.length:Int))) rfl (fun _ hC=>op_lenI u22z (kp _ zd (hB.trans hC))) ?_
 refine qv (v:=.pointer (some (⟨b1,0,none⟩))) rfl (fun _ _=>op_fieldAddrR u27z rfl info2 ne2 rfl rfl) ?_
 refine qv (v:=.int .i64 (x0.Objects)) rfl (fun _ hC=>oldz u2z rfl rfl ((kr hr4 hC).at.cell (j:=0) rfl)) ?_
 refine qv (v:=.bool (((x0.Identity.length:Int)) != (x0.Objects))) rfl (fun _ _=>op_bin rfl rfl bin_neq) ?_
 refine qv (v:=.bool (((x0.Identity.length:Int)) != (x0.Objects))) rfl (fun _ _=>om _) ?_
 rcases Bool.eq_false_or_eq_true (((x0.Identity.length:Int)) != (x0.Objects)) with hb29 | hb29
 rw [hb29] at hm28
 refine qs rfl (congrArg some hb29) rfl ?_
 refine qs rfl (congrArg some hb29) rfl ?_
 refine qs rfl (congrArg some hb29) rfl ?_
 refine qs rfl (congrArg some hb29) rfl ?_
 refine qs rfl (congrArg some hb29) rfl ?_
 refine qv (v:=.bool (true)) rfl (fun _ _=>op_pickT rfl hb29) ?_
 cases hm28
 exact fr ⟨rfl,rfl,rfl,trivial⟩
 rw [hb29] at hm28
 refine qg (v:=.int .i64 ((x0.From.length:Int))) rfl (congrArg some hb29) (fun _ _=>om _) ?_
 refine qg (v:=.pointer (some (⟨b1,3,none⟩))) rfl (congrArg some hb29) (fun _ _=>op_fieldAddrR u27z rfl info22 ne22 rfl rfl) ?_
 refine qg (v:=z9) rfl (congrArg some hb29) (fun _ hC=>oldz u22z rfl rfl ((kr hr4 hC).at.cell (j:=3) rfl)) ?_
 obtain ⟨y30,hy31,hm28⟩:=bs hm28
 refine QL.callG (v:=.bool (y30)) rfl (congrArg some hb29) (fun _ _=>op_callF Tryz.func134 rfl rfl) (fun _ hC=>(spec_l01Map_calls (kp _ zd (hB.trans hC)) hy31).mono fun _ _ h=>⟨h.1,hC.trans h.2⟩) ?_
 refine qg (v:=.bool (!(y30))) rfl (congrArg some hb29) (fun _ _=>op_not rfl) ?_
 refine qv (v:=.bool (!(y30))) rfl (fun _ _=>op_pickF rfl hb29) ?_
 cases hm28
 exact fr ⟨rfl,rfl,rfl,trivial⟩
 rintro _ ⟨F,rfl⟩
 intro wd32 hC33
 refine anz ?_
 refine W_cond (b:=g27) rfl ?_ ?_
 intro hb34
 rw [hb34] at ho
 refine wq ?_
 refine Wq rfl hC33 ?_
 refine qv (v:=.bool (false)) rfl (fun _ _=>oa _) ?_
 intro wd35 hC36
 refine anz ?_
 cases ho
 exact W_ret ⟨_,res_1 Tryz.results157,rfl,(hB.trans hC36)⟩
 intro hb34
 rw [hb34] at ho
 refine W_skip ?_
 refine anz ?_
 refine wq ?_
 refine wq ?_
 refine Wq rfl hC33 ?_
 refine qv (v:=.int .i64 ((0:Int))) rfl (fun _ _=>oa _) ?_
 intro wd37 hC38
 refine anz ?_
 refine W_for (S1:=Int) (fun (s0_4:Int) r w'=>Chg [] w w'∧Row w' b1 [.int .i64 (x0.Objects),z6,z7,z9,z8] 27∧∃ F,r=updL F [(1,.pointer (some (⟨b1,0,none⟩))),(3,.int .i64 ((x0.From.length:Int))),(4,.int .i64 (s0_4))]) (T:=spec_IsShape_T w) ho ⟨(hB.trans hC38),(kr hr4 hC38),fr ⟨rfl,rfl,rfl,trivial⟩⟩ ?_ ?_ ?_
 intro x r w' ho hx; subst ho; exact hx
 rintro s0_4 _ wd39 ⟨hB,hr4,F,rfl⟩ o ho
 replace ho:spec_IsShape_L0 x0 s0_4=some o:=ho
 unfold spec_IsShape_L0 at ho
 refine wq ?_
 refine wq ?_
 refine Wq rfl (cr [] wd39) ?_
 refine qv (v:=.int .i64 (s0_4)) rfl (fun _ _=>om _) ?_
 refine qv (v:=.pointer (some (⟨b1,0,none⟩))) rfl (fun _ _=>op_fieldAddrR u27z rfl info2 ne2 rfl rfl) ?_
 refine qv (v:=.int .i64 (x0.Objects)) rfl (fun _ hC=>oldz u2z rfl rfl ((kr hr4 hC).at.cell (j:=0) rfl)) ?_
 refine qv (v:=.bool (decide (s0_4 < x0.Objects))) rfl (fun _ _=>op_bin rfl rfl bin_lss) ?_
 intro wd40 hC41
 refine anz ?_
 refine W_cond (b:=decide (s0_4 < x0.Objects)) rfl ?_ ?_
 intro hb42
 rw [hb42] at ho
 refine W_skip ?_
 refine anz ?_
 refine wq ?_
 refine W_block ?_
 refine wq ?_
 refine Wqd rfl (by kernel_rfl) hC41 ?_
 obtain ⟨g43,hm44,ho⟩:=bs ho
 refine QL.meet (fun r=>∃ F,r=updL F [(1,.pointer (some (⟨b1,0,none⟩))),(3,.int .i64 ((x0.From.length:Int))),(4,.int .i64 (s0_4)),(86,.bool (g43))]) ?_ ?_
 skip
 refine qv (v:=.pointer (some (⟨b1,1,none⟩))) rfl (fun _ _=>op_fieldAddrR u27z rfl info22 ne22 rfl rfl) ?_
 refine qv (v:=z6) rfl (fun _ hC=>oldz u22z rfl rfl ((kr hr4 hC).at.cell (j:=1) rfl)) ?_
 refine qv (v:=.pointer (some (⟨b1,3,none⟩))) rfl (fun _ _=>op_fieldAddrR u27z rfl info22 ne22 rfl rfl) ?_
 refine qv (v:=z9) rfl (fun _ hC=>oldz u22z rfl rfl ((kr hr4 hC).at.cell (j:=3) rfl)) ?_
 refine qv (v:=.int .i64 (s0_4)) rfl (fun _ _=>om _) ?_
 obtain ⟨e45,hx46e,hm44⟩:=bs hm44
 have hx46:=idx_some hx46e
 refine qv (v:=.pointer (some (elA (z9) 1 (s0_4)))) rfl (fun _ hC=>op_indexI u22z info2 sz2 rfl (kp _ zd (hB.trans hC)) rfl hx46.1 hx46.2) ?_
 refine qv (v:=.int .i64 (e45)) rfl (fun _ hC=>oldz u2z rfl rfl (int_get (kp _ zd (hB.trans hC)) hx46.1 hx46.2)) ?_
 obtain ⟨e47,hx48e,hm44⟩:=bs hm44
 have hx48:=idx_some hx48e
 refine qv (v:=.pointer (some (elA (z6) 1 (e45)))) rfl (fun _ hC=>op_indexI u22z info2 sz2 rfl (kp _ za (hB.trans hC)) rfl hx48.1 hx48.2) ?_
 refine qv (v:=.int .i64 (e47)) rfl (fun _ hC=>oldz u2z rfl rfl (int_get (kp _ za (hB.trans hC)) hx48.1 hx48.2)) ?_
 refine qv (v:=.int .i64 (s0_4)) rfl (fun _ _=>om _) ?_
 refine qv (v:=.bool ((e47) != (s0_4))) rfl (fun _ _=>op_bin rfl rfl bin_neq) ?_
 refine qv (v:=.bool ((e47) != (s0_4))) rfl (fun _ _=>om _) ?_
 rcases Bool.eq_false_or_eq_true ((e47) != (s0_4)) with hb49 | hb49
 rw [hb49] at hm44
 refine qs rfl (congrArg some hb49) rfl ?_
 refine qs rfl (congrArg some hb49) rfl ?_
 refine qs rfl (congrArg some hb49) rfl ?_
 refine qs rfl (congrArg some hb49) rfl ?_
 refine qs rfl (congrArg some hb49) rfl ?_
 refine qs rfl (congrArg some hb49) rfl ?_
 refine qs rfl (congrArg some hb49) rfl ?_
 refine qs rfl (congrArg some hb49) rfl ?_
 refine qs rfl (congrArg some hb49) rfl ?_
 refine qs rfl (congrArg some hb49) rfl ?_
 refine qs rfl (congrArg some hb49) rfl ?_
 refine qv (v:=.bool (true)) rfl (fun _ _=>op_pickT rfl hb49) ?_
 cases hm44
 exact fr ⟨rfl,rfl,rfl,rfl,trivial⟩
 rw [hb49] at hm44
 refine qg (v:=.pointer (some (⟨b1,2,none⟩))) rfl (congrArg some hb49) (fun _ _=>op_fieldAddrR u27z rfl info22 ne22 rfl rfl) ?_
 refine qg (v:=z7) rfl (congrArg some hb49) (fun _ hC=>oldz u22z rfl rfl ((kr hr4 hC).at.cell (j:=2) rfl)) ?_
 refine qg (v:=.pointer (some (⟨b1,3,none⟩))) rfl (congrArg some hb49) (fun _ _=>op_fieldAddrR u27z rfl info22 ne22 rfl rfl) ?_
 refine qg (v:=z9) rfl (congrArg some hb49) (fun _ hC=>oldz u22z rfl rfl ((kr hr4 hC).at.cell (j:=3) rfl)) ?_
 refine qg (v:=.int .i64 (s0_4)) rfl (congrArg some hb49) (fun _ _=>om _) ?_
 obtain ⟨e50,hx51e,hm44⟩:=bs hm44
 have hx51:=idx_some hx51e
 refine qg (v:=.pointer (some (elA (z9) 1 (s0_4)))) rfl (congrArg some hb49) (fun _ hC=>op_indexI u22z info2 sz2 rfl (kp _ zd (hB.trans hC)) rfl hx51.1 hx51.2) ?_
 refine qg (v:=.int .i64 (e50)) rfl (congrArg some hb49) (fun _ hC=>oldz u2z rfl rfl (int_get (kp _ zd (hB.trans hC)) hx51.1 hx51.2)) ?_
 obtain ⟨e52,hx53e,hm44⟩:=bs hm44
 have hx53:=idx_some hx53e
 refine qg (v:=.pointer (some (elA (z7) 1 (e50)))) rfl (congrArg some hb49) (fun _ hC=>op_indexI u22z info2 sz2 rfl (kp _ zb (hB.trans hC)) rfl hx53.1 hx53.2) ?_
 refine qg (v:=.int .i64 (e52)) rfl (congrArg some hb49) (fun _ hC=>oldz u2z rfl rfl (int_get (kp _ zb (hB.trans hC)) hx53.1 hx53.2)) ?_
 refine qg (v:=.int .i64 (s0_4)) rfl (congrArg some hb49) (fun _ _=>om _) ?_
 refine qg (v:=.bool ((e52) != (s0_4))) rfl (congrArg some hb49) (fun _ _=>op_bin rfl rfl bin_neq) ?_
 refine qv (v:=.bool ((e52) != (s0_4))) rfl (fun _ _=>op_pickF rfl hb49) ?_
 cases hm44
 exact fr ⟨rfl,rfl,rfl,rfl,trivial⟩
 rintro _ ⟨F,rfl⟩
 intro wd54 hC55
 refine anz ?_
 refine W_cond (b:=g43) rfl ?_ ?_
 intro hb56
 rw [hb56] at ho
 refine wq ?_
 refine Wq rfl hC55 ?_
 refine qv (v:=.bool (false)) rfl (fun _ _=>oa _) ?_
 intro wd57 hC58
 refine anz ?_
 cases ho
 exact W_ret ⟨_,res_1 Tryz.results157,rfl,(hB.trans hC58)⟩
 intro hb56
 rw [hb56] at ho
 refine W_skip ?_
 refine inBlk_n ?_
 refine anz ?_
 refine Wq rfl hC55 ?_
 refine qv (v:=.int .i64 (s0_4)) rfl (fun _ _=>om _) ?_
 refine qv (v:=.int .i64 (w64 (s0_4 + (1:Int)))) rfl (fun _ _=>op_bin rfl rfl bin_add) ?_
 refine qv (v:=.int .i64 (w64 (s0_4 + (1:Int)))) rfl (fun _ _=>oa _) ?_
 intro wd59 hC60
 cases ho
 exact ⟨(hB.trans hC60),(kr hr4 hC60),fr ⟨rfl,rfl,rfl,trivial⟩⟩
 intro hb42
 rw [hb42] at ho
 refine W_exit ?_
 refine andThen_x ?_
 cases ho
 exact ⟨rfl,⟨(hB.trans hC41),(kr hr4 hC41),fr ⟨rfl,rfl,rfl,trivial⟩⟩⟩
 rintro s0_4 _ wd61 ⟨hB,hr4,F,rfl⟩ ho
 replace ho:=ho
 refine anz ?_
 refine wq ?_
 refine wq ?_
 refine Wq rfl (cr [] wd61) ?_
 refine qv (v:=.int .i64 ((0:Int))) rfl (fun _ _=>oa _) ?_
 intro wd62 hC63
 refine anz ?_
 refine W_for (S1:=Int) (fun (s1_5:Int) r w'=>Chg [] w w'∧Row w' b1 [.int .i64 (x0.Objects),z6,z7,z9,z8] 27∧∃ F,r=updL F [(1,.pointer (some (⟨b1,0,none⟩))),(3,.int .i64 ((x0.From.length:Int))),(5,.int .i64 (s1_5))]) (T:=spec_IsShape_T w) ho ⟨(hB.trans hC63),(kr hr4 hC63),fr ⟨rfl,rfl,rfl,trivial⟩⟩ ?_ ?_ ?_
 intro x r w' ho hx; subst ho; exact hx
 rintro s1_5 _ wd64 ⟨hB,hr4,F,rfl⟩ o ho
 replace ho:spec_IsShape_L1 x0 s1_5=some o:=ho
 unfold spec_IsShape_L1 at ho
 refine wq ?_
 refine wq ?_
 refine Wq rfl (cr [] wd64) ?_
 refine qv (v:=.int .i64 (s1_5)) rfl (fun _ _=>om _) ?_
 refine qv (v:=.int .i64 ((x0.From.length:Int))) rfl (fun _ _=>om _) ?_
 refine qv (v:=.bool (decide (s1_5 < (x0.From.length:Int)))) rfl (fun _ _=>op_bin rfl rfl bin_lss) ?_
 intro wd65 hC66
 refine anz ?_
 refine W_cond (b:=decide (s1_5 < (x0.From.length:Int))) rfl ?_ ?_
 intro hb67
 rw [hb67] at ho
 refine W_skip ?_
 refine anz ?_
 refine wq ?_
 refine W_block ?_
 refine wq ?_
 refine wq ?_
 refine Wq rfl hC66 ?_
 refine qv (v:=.pointer (some (⟨b1,4,none⟩))) rfl (fun _ _=>op_fieldAddrR u27z rfl info23 ne23 rfl rfl) ?_
 refine qv (v:=z8) rfl (fun _ hC=>oldz u23z rfl rfl ((kr hr4 hC).at.cell (j:=4) rfl)) ?_
 refine qv (v:=.int .i64 (s1_5)) rfl (fun _ _=>om _) ?_
 obtain ⟨e68,hx69e,ho⟩:=bs ho
 have hx69:=idx_some hx69e
 refine qv (v:=.pointer (some (elA (z8) 1 (s1_5)))) rfl (fun _ hC=>op_indexI u23z info22 sz22 rfl (kp _ zc (hB.trans hC)) rfl hx69.1 hx69.2) ?_
 obtain ⟨u70,fu71,hu72,hr73,hs74⟩:=one_get rfl zc hx69.1 hx69.2
 refine qv (v:=u70) rfl (fun _ hC=>oldz u22z rfl rfl ((hB.trans hC).cell0 hu72)) ?_
 refine qv (v:=.int .i64 ((e68.length:Int))) rfl (fun _ hC=>op_lenI u22z (kp _ hr73 (hB.trans hC))) ?_
 refine qv (v:=.int .i64 ((x0.From.length:Int))) rfl (fun _ _=>om _) ?_
 refine qv (v:=.bool (((e68.length:Int)) != ((x0.From.length:Int)))) rfl (fun _ _=>op_bin rfl rfl bin_neq) ?_
 intro wd75 hC76
 refine anz ?_
 refine W_cond (b:=((e68.length:Int)) != ((x0.From.length:Int))) rfl ?_ ?_
 intro hb77
 rw [hb77] at ho
 refine wq ?_
 refine Wq rfl hC76 ?_
 refine qv (v:=.bool (false)) rfl (fun _ _=>oa _) ?_
 intro wd78 hC79
 refine anz ?_
 cases ho
 exact W_ret ⟨_,res_1 Tryz.results157,rfl,(hB.trans hC79)⟩
 intro hb77
 rw [hb77] at ho
 refine W_skip ?_
 refine anz ?_
 refine wq ?_
 refine Wq rfl hC76 ?_
 refine qv (v:=.int .i64 ((0:Int))) rfl (fun _ _=>oa _) ?_
 intro wd80 hC81
 refine anz ?_
 refine W_for (S1:=Int) (fun (s2_6:Int) r w'=>Chg [] w w'∧Row w' b1 [.int .i64 (x0.Objects),z6,z7,z9,z8] 27∧∃ F,r=updL F [(1,.pointer (some (⟨b1,0,none⟩))),(3,.int .i64 ((x0.From.length:Int))),(5,.int .i64 (s1_5)),(6,.int .i64 (s2_6))]) (T:=spec_IsShape_T w) ho ⟨(hB.trans hC81),(kr hr4 hC81),fr ⟨rfl,rfl,rfl,rfl,trivial⟩⟩ ?_ ?_ ?_
 intro x r w' ho hx; subst ho; exact hx
 rintro s2_6 _ wd82 ⟨hB,hr4,F,rfl⟩ o ho
 replace ho:spec_IsShape_L2 x0 s1_5 s2_6=some o:=ho
 unfold spec_IsShape_L2 at ho
 refine wq ?_
 refine wq ?_
 refine Wq rfl (cr [] wd82) ?_
 refine qv (v:=.int .i64 (s2_6)) rfl (fun _ _=>om _) ?_
 refine qv (v:=.int .i64 ((x0.From.length:Int))) rfl (fun _ _=>om _) ?_
 refine qv (v:=.bool (decide (s2_6 < (x0.From.length:Int)))) rfl (fun _ _=>op_bin rfl rfl bin_lss) ?_
 intro wd83 hC84
 refine anz ?_
 refine W_cond (b:=decide (s2_6 < (x0.From.length:Int))) rfl ?_ ?_
 intro hb85
 rw [hb85] at ho
 refine W_skip ?_
 refine anz ?_
 refine wq ?_
 refine W_block ?_
 refine wq ?_
 refine Wq rfl hC84 ?_
 refine qv (v:=.pointer (some (⟨b1,4,none⟩))) rfl (fun _ _=>op_fieldAddrR u27z rfl info23 ne23 rfl rfl) ?_
 refine qv (v:=z8) rfl (fun _ hC=>oldz u23z rfl rfl ((kr hr4 hC).at.cell (j:=4) rfl)) ?_
 refine qv (v:=.int .i64 (s1_5)) rfl (fun _ _=>om _) ?_
 obtain ⟨e86,hx87e,ho⟩:=bs ho
 have hx87:=idx_some hx87e
 refine qv (v:=.pointer (some (elA (z8) 1 (s1_5)))) rfl (fun _ hC=>op_indexI u23z info22 sz22 rfl (kp _ zc (hB.trans hC)) rfl hx87.1 hx87.2) ?_
 obtain ⟨u88,fu89,hu90,hr91,hs92⟩:=one_get rfl zc hx87.1 hx87.2
 refine qv (v:=u88) rfl (fun _ hC=>oldz u22z rfl rfl ((hB.trans hC).cell0 hu90)) ?_
 refine qv (v:=.int .i64 (s2_6)) rfl (fun _ _=>om _) ?_
 obtain ⟨e93,hx94e,ho⟩:=bs ho
 have hx94:=idx_some hx94e
 refine qv (v:=.pointer (some (elA (u88) 1 (s2_6)))) rfl (fun _ hC=>op_indexI u22z info2 sz2 rfl (kp _ hr91 (hB.trans hC)) rfl hx94.1 hx94.2) ?_
 refine qv (v:=.int .i64 (e93)) rfl (fun _ hC=>oldz u2z rfl rfl (int_get (kp _ hr91 (hB.trans hC)) hx94.1 hx94.2)) ?_
 refine qv (v:=.int .i64 (e93)) rfl (fun _ _=>oa _) ?_
 intro wd95 hC96
 refine anz ?_
 refine wq ?_
 refine wq ?_
 refine Wqd rfl (by kernel_rfl) hC96 ?_
 refine qv (v:=.pointer (some (⟨b1,2,none⟩))) rfl (fun _ _=>op_fieldAddrR u27z rfl info22 ne22 rfl rfl) ?_
 refine qv (v:=z7) rfl (fun _ hC=>oldz u22z rfl rfl ((kr hr4 hC).at.cell (j:=2) rfl)) ?_
 refine qv (v:=.int .i64 (s1_5)) rfl (fun _ _=>om _) ?_
 obtain ⟨e97,hx98e,ho⟩:=bs ho
 have hx98:=idx_some hx98e
 refine qv (v:=.pointer (some (elA (z7) 1 (s1_5)))) rfl (fun _ hC=>op_indexI u22z info2 sz2 rfl (kp _ zb (hB.trans hC)) rfl hx98.1 hx98.2) ?_
 refine qv (v:=.int .i64 (e97)) rfl (fun _ hC=>oldz u2z rfl rfl (int_get (kp _ zb (hB.trans hC)) hx98.1 hx98.2)) ?_
 refine qv (v:=.pointer (some (⟨b1,1,none⟩))) rfl (fun _ _=>op_fieldAddrR u27z rfl info22 ne22 rfl rfl) ?_
 refine qv (v:=z6) rfl (fun _ hC=>oldz u22z rfl rfl ((kr hr4 hC).at.cell (j:=1) rfl)) ?_
 refine qv (v:=.int .i64 (s2_6)) rfl (fun _ _=>om _) ?_
 obtain ⟨e99,hx100e,ho⟩:=bs ho
 have hx100:=idx_some hx100e
 refine qv (v:=.pointer (some (elA (z6) 1 (s2_6)))) rfl (fun _ hC=>op_indexI u22z info2 sz2 rfl (kp _ za (hB.trans hC)) rfl hx100.1 hx100.2) ?_
 refine qv (v:=.int .i64 (e99)) rfl (fun _ hC=>oldz u2z rfl rfl (int_get (kp _ za (hB.trans hC)) hx100.1 hx100.2)) ?_
 refine qv (v:=.bool ((e97) != (e99))) rfl (fun _ _=>op_bin rfl rfl bin_neq) ?_
 intro wd101 hC102
 refine anz ?_
 refine W_cond (b:=(e97) != (e99)) rfl ?_ ?_
 intro hb103
 rw [hb103] at ho
 refine wq ?_
 refine wq ?_
 refine Wq rfl hC102 ?_
 refine qv (v:=.int .i64 (e93)) rfl (fun _ _=>om _) ?_
 refine qv (v:=.bool ((e93) != ((-1:Int)))) rfl (fun _ _=>op_bin rfl rfl bin_neq) ?_
 intro wd104 hC105
 refine anz ?_
 refine W_cond (b:=(e93) != ((-1:Int))) rfl ?_ ?_
 intro hb106
 rw [hb106] at ho
 refine wq ?_
 refine Wq rfl hC105 ?_
 refine qv (v:=.bool (false)) rfl (fun _ _=>oa _) ?_
 intro wd107 hC108
 refine anz ?_
 cases ho
 exact W_ret ⟨_,res_1 Tryz.results157,rfl,(hB.trans hC108)⟩
 intro hb106
 rw [hb106] at ho
 refine W_skip ?_
 refine anz ?_
 refine W_exit ?_
 refine andThen_x ?_
 refine inBlk_x ?_
 refine anz ?_
 refine Wq rfl hC105 ?_
 refine qv (v:=.int .i64 (s2_6)) rfl (fun _ _=>om _) ?_
 refine qv (v:=.int .i64 (w64 (s2_6 + (1:Int)))) rfl (fun _ _=>op_bin rfl rfl bin_add) ?_
 refine qv (v:=.int .i64 (w64 (s2_6 + (1:Int)))) rfl (fun _ _=>oa _) ?_
 intro wd109 hC110
 cases ho
 exact ⟨(hB.trans hC110),(kr hr4 hC110),fr ⟨rfl,rfl,rfl,rfl,trivial⟩⟩
 intro hb103
 rw [hb103] at ho
 refine W_skip ?_
 refine anz ?_
 refine wq ?_
 refine Wqd rfl (by kernel_rfl) hC102 ?_
 obtain ⟨g111,hm112,ho⟩:=bs ho
 refine QL.meet (fun r=>∃ F,r=updL F [(1,.pointer (some (⟨b1,0,none⟩))),(3,.int .i64 ((x0.From.length:Int))),(5,.int .i64 (s1_5)),(6,.int .i64 (s2_6)),(158,.bool (g111))]) ?_ ?_
 skip
 refine qv (v:=.int .i64 (e93)) rfl (fun _ _=>om _) ?_
 refine qv (v:=.bool (decide (e93 < (0:Int)))) rfl (fun _ _=>op_bin rfl rfl bin_lss) ?_
 refine qv (v:=.bool (decide (e93 < (0:Int)))) rfl (fun _ _=>om _) ?_
 rcases Bool.eq_false_or_eq_true (decide (e93 < (0:Int))) with hb113 | hb113
 rw [hb113] at hm112
 refine qs rfl (congrArg some hb113) rfl ?_
 refine qs rfl (congrArg some hb113) rfl ?_
 refine qs rfl (congrArg some hb113) rfl ?_
 refine qv (v:=.bool (true)) rfl (fun _ _=>op_pickT rfl hb113) ?_
 refine qv (v:=.bool (true)) rfl (fun _ _=>om _) ?_
 refine qs rfl (congrArg some rfl) rfl ?_
 refine qs rfl (congrArg some rfl) rfl ?_
 refine qs rfl (congrArg some rfl) rfl ?_
 refine qs rfl (congrArg some rfl) rfl ?_
 refine qs rfl (congrArg some rfl) rfl ?_
 refine qs rfl (congrArg some rfl) rfl ?_
 refine qs rfl (congrArg some rfl) rfl ?_
 refine qs rfl (congrArg some rfl) rfl ?_
 refine qs rfl (congrArg some rfl) rfl ?_
 refine qs rfl (congrArg some rfl) rfl ?_
 refine qs rfl (congrArg some rfl) rfl ?_
 refine qv (v:=.bool (true)) rfl (fun _ _=>op_pickT rfl rfl) ?_
 refine qv (v:=.bool (true)) rfl (fun _ _=>om _) ?_
 refine qs rfl (congrArg some rfl) rfl ?_
 refine qs rfl (congrArg some rfl) rfl ?_
 refine qs rfl (congrArg some rfl) rfl ?_
 refine qs rfl (congrArg some rfl) rfl ?_
 refine qs rfl (congrArg some rfl) rfl ?_
 refine qs rfl (congrArg some rfl) rfl ?_
 refine qs rfl (congrArg some rfl) rfl ?_
 refine qs rfl (congrArg some rfl) rfl ?_
 refine qs rfl (congrArg some rfl) rfl ?_
 refine qs rfl (congrArg some rfl) rfl ?_
 refine qs rfl (congrArg some rfl) rfl ?_
 refine qv (v:=.bool (true)) rfl (fun _ _=>op_pickT rfl rfl) ?_
 cases hm112
 exact fr ⟨rfl,rfl,rfl,rfl,rfl,trivial⟩
 rw [hb113] at hm112
 refine qg (v:=.int .i64 (e93)) rfl (congrArg some hb113) (fun _ _=>om _) ?_
 refine qg (v:=.int .i64 ((x0.From.length:Int))) rfl (congrArg some hb113) (fun _ _=>om _) ?_
 refine qg (v:=.bool (decide (e93 ≥ (x0.From.length:Int)))) rfl (congrArg some hb113) (fun _ _=>op_bin rfl rfl bin_geq) ?_
 refine qv (v:=.bool (decide (e93 ≥ (x0.From.length:Int)))) rfl (fun _ _=>op_pickF rfl hb113) ?_
 refine qv (v:=.bool (decide (e93 ≥ (x0.From.length:Int)))) rfl (fun _ _=>om _) ?_
 rcases Bool.eq_false_or_eq_true (decide (e93 ≥ (x0.From.length:Int))) with hb114 | hb114
 rw [hb114] at hm112
 refine qs rfl (congrArg some hb114) rfl ?_
 refine qs rfl (congrArg some hb114) rfl ?_
 refine qs rfl (congrArg some hb114) rfl ?_
 refine qs rfl (congrArg some hb114) rfl ?_
 refine qs rfl (congrArg some hb114) rfl ?_
 refine qs rfl (congrArg some hb114) rfl ?_
 refine qs rfl (congrArg some hb114) rfl ?_
 refine qs rfl (congrArg some hb114) rfl ?_
 refine qs rfl (congrArg some hb114) rfl ?_
 refine qs rfl (congrArg some hb114) rfl ?_
 refine qs rfl (congrArg some hb114) rfl ?_
 refine qv (v:=.bool (true)) rfl (fun _ _=>op_pickT rfl hb114) ?_
 refine qv (v:=.bool (true)) rfl (fun _ _=>om _) ?_
 refine qs rfl (congrArg some rfl) rfl ?_
 refine qs rfl (congrArg some rfl) rfl ?_
 refine qs rfl (congrArg some rfl) rfl ?_
 refine qs rfl (congrArg some rfl) rfl ?_
 refine qs rfl (congrArg some rfl) rfl ?_
 refine qs rfl (congrArg some rfl) rfl ?_
 refine qs rfl (congrArg some rfl) rfl ?_
 refine qs rfl (congrArg some rfl) rfl ?_
 refine qs rfl (congrArg some rfl) rfl ?_
 refine qs rfl (congrArg some rfl) rfl ?_
 refine qs rfl (congrArg some rfl) rfl ?_
 refine qv (v:=.bool (true)) rfl (fun _ _=>op_pickT rfl rfl) ?_
 cases hm112
 exact fr ⟨rfl,rfl,rfl,rfl,rfl,trivial⟩
 rw [hb114] at hm112
 refine qg (v:=.pointer (some (⟨b1,1,none⟩))) rfl (congrArg some hb114) (fun _ _=>op_fieldAddrR u27z rfl info22 ne22 rfl rfl) ?_
 refine qg (v:=z6) rfl (congrArg some hb114) (fun _ hC=>oldz u22z rfl rfl ((kr hr4 hC).at.cell (j:=1) rfl)) ?_
 refine qg (v:=.int .i64 (e93)) rfl (congrArg some hb114) (fun _ _=>om _) ?_
 obtain ⟨e115,hx116e,hm112⟩:=bs hm112
 have hx116:=idx_some hx116e
 refine qg (v:=.pointer (some (elA (z6) 1 (e93)))) rfl (congrArg some hb114) (fun _ hC=>op_indexI u22z info2 sz2 rfl (kp _ za (hB.trans hC)) rfl hx116.1 hx116.2) ?_
 refine qg (v:=.int .i64 (e115)) rfl (congrArg some hb114) (fun _ hC=>oldz u2z rfl rfl (int_get (kp _ za (hB.trans hC)) hx116.1 hx116.2)) ?_
 refine qg (v:=.pointer (some (⟨b1,1,none⟩))) rfl (congrArg some hb114) (fun _ _=>op_fieldAddrR u27z rfl info22 ne22 rfl rfl) ?_
 refine qg (v:=z6) rfl (congrArg some hb114) (fun _ hC=>oldz u22z rfl rfl ((kr hr4 hC).at.cell (j:=1) rfl)) ?_
 refine qg (v:=.int .i64 (s1_5)) rfl (congrArg some hb114) (fun _ _=>om _) ?_
 obtain ⟨e117,hx118e,hm112⟩:=bs hm112
 have hx118:=idx_some hx118e
 refine qg (v:=.pointer (some (elA (z6) 1 (s1_5)))) rfl (congrArg some hb114) (fun _ hC=>op_indexI u22z info2 sz2 rfl (kp _ za (hB.trans hC)) rfl hx118.1 hx118.2) ?_
 refine qg (v:=.int .i64 (e117)) rfl (congrArg some hb114) (fun _ hC=>oldz u2z rfl rfl (int_get (kp _ za (hB.trans hC)) hx118.1 hx118.2)) ?_
 refine qg (v:=.bool ((e115) != (e117))) rfl (congrArg some hb114) (fun _ _=>op_bin rfl rfl bin_neq) ?_
 refine qv (v:=.bool ((e115) != (e117))) rfl (fun _ _=>op_pickF rfl hb114) ?_
 refine qv (v:=.bool ((e115) != (e117))) rfl (fun _ _=>om _) ?_
 rcases Bool.eq_false_or_eq_true ((e115) != (e117)) with hb119 | hb119
 rw [hb119] at hm112
 refine qs rfl (congrArg some hb119) rfl ?_
 refine qs rfl (congrArg some hb119) rfl ?_
 refine qs rfl (congrArg some hb119) rfl ?_
 refine qs rfl (congrArg some hb119) rfl ?_
 refine qs rfl (congrArg some hb119) rfl ?_
 refine qs rfl (congrArg some hb119) rfl ?_
 refine qs rfl (congrArg some hb119) rfl ?_
 refine qs rfl (congrArg some hb119) rfl ?_
 refine qs rfl (congrArg some hb119) rfl ?_
 refine qs rfl (congrArg some hb119) rfl ?_
 refine qs rfl (congrArg some hb119) rfl ?_
 refine qv (v:=.bool (true)) rfl (fun _ _=>op_pickT rfl hb119) ?_
 cases hm112
 exact fr ⟨rfl,rfl,rfl,rfl,rfl,trivial⟩
 rw [hb119] at hm112
 refine qg (v:=.pointer (some (⟨b1,2,none⟩))) rfl (congrArg some hb119) (fun _ _=>op_fieldAddrR u27z rfl info22 ne22 rfl rfl) ?_
 refine qg (v:=z7) rfl (congrArg some hb119) (fun _ hC=>oldz u22z rfl rfl ((kr hr4 hC).at.cell (j:=2) rfl)) ?_
 refine qg (v:=.int .i64 (e93)) rfl (congrArg some hb119) (fun _ _=>om _) ?_
 obtain ⟨e120,hx121e,hm112⟩:=bs hm112
 have hx121:=idx_some hx121e
 refine qg (v:=.pointer (some (elA (z7) 1 (e93)))) rfl (congrArg some hb119) (fun _ hC=>op_indexI u22z info2 sz2 rfl (kp _ zb (hB.trans hC)) rfl hx121.1 hx121.2) ?_
 refine qg (v:=.int .i64 (e120)) rfl (congrArg some hb119) (fun _ hC=>oldz u2z rfl rfl (int_get (kp _ zb (hB.trans hC)) hx121.1 hx121.2)) ?_
 refine qg (v:=.pointer (some (⟨b1,2,none⟩))) rfl (congrArg some hb119) (fun _ _=>op_fieldAddrR u27z rfl info22 ne22 rfl rfl) ?_
 refine qg (v:=z7) rfl (congrArg some hb119) (fun _ hC=>oldz u22z rfl rfl ((kr hr4 hC).at.cell (j:=2) rfl)) ?_
 refine qg (v:=.int .i64 (s2_6)) rfl (congrArg some hb119) (fun _ _=>om _) ?_
 obtain ⟨e122,hx123e,hm112⟩:=bs hm112
 have hx123:=idx_some hx123e
 refine qg (v:=.pointer (some (elA (z7) 1 (s2_6)))) rfl (congrArg some hb119) (fun _ hC=>op_indexI u22z info2 sz2 rfl (kp _ zb (hB.trans hC)) rfl hx123.1 hx123.2) ?_
 refine qg (v:=.int .i64 (e122)) rfl (congrArg some hb119) (fun _ hC=>oldz u2z rfl rfl (int_get (kp _ zb (hB.trans hC)) hx123.1 hx123.2)) ?_
 refine qg (v:=.bool ((e120) != (e122))) rfl (congrArg some hb119) (fun _ _=>op_bin rfl rfl bin_neq) ?_
 refine qv (v:=.bool ((e120) != (e122))) rfl (fun _ _=>op_pickF rfl hb119) ?_
 cases hm112
 exact fr ⟨rfl,rfl,rfl,rfl,rfl,trivial⟩
 rintro _ ⟨F,rfl⟩
 intro wd124 hC125
 refine anz ?_
 refine W_cond (b:=g111) rfl ?_ ?_
 intro hb126
 rw [hb126] at ho
 refine wq ?_
 refine Wq rfl hC125 ?_
 refine qv (v:=.bool (false)) rfl (fun _ _=>oa _) ?_
 intro wd127 hC128
 refine anz ?_
 cases ho
 exact W_ret ⟨_,res_1 Tryz.results157,rfl,(hB.trans hC128)⟩
 intro hb126
 rw [hb126] at ho
 refine W_skip ?_
 refine inBlk_n ?_
 refine anz ?_
 refine Wq rfl hC125 ?_
 refine qv (v:=.int .i64 (s2_6)) rfl (fun _ _=>om _) ?_
 refine qv (v:=.int .i64 (w64 (s2_6 + (1:Int)))) rfl (fun _ _=>op_bin rfl rfl bin_add) ?_
 refine qv (v:=.int .i64 (w64 (s2_6 + (1:Int)))) rfl (fun _ _=>oa _) ?_
 intro wd129 hC130
 cases ho
 exact ⟨(hB.trans hC130),(kr hr4 hC130),fr ⟨rfl,rfl,rfl,rfl,trivial⟩⟩
 intro hb85
 rw [hb85] at ho
 refine W_exit ?_
 refine andThen_x ?_
 cases ho
 exact ⟨rfl,⟨(hB.trans hC84),(kr hr4 hC84),fr ⟨rfl,rfl,rfl,rfl,trivial⟩⟩⟩
 rintro s2_6 _ wd131 ⟨hB,hr4,F,rfl⟩ ho
 replace ho:=ho
 refine inBlk_n ?_
 refine anz ?_
 refine Wq rfl (cr [] wd131) ?_
 refine qv (v:=.int .i64 (s1_5)) rfl (fun _ _=>om _) ?_
 refine qv (v:=.int .i64 (w64 (s1_5 + (1:Int)))) rfl (fun _ _=>op_bin rfl rfl bin_add) ?_
 refine qv (v:=.int .i64 (w64 (s1_5 + (1:Int)))) rfl (fun _ _=>oa _) ?_
 intro wd132 hC133
 cases ho
 exact ⟨(hB.trans hC133),(kr hr4 hC133),fr ⟨rfl,rfl,rfl,trivial⟩⟩
 intro hb67
 rw [hb67] at ho
 refine W_exit ?_
 refine andThen_x ?_
 cases ho
 exact ⟨rfl,⟨(hB.trans hC66),(kr hr4 hC66),fr ⟨rfl,rfl,rfl,trivial⟩⟩⟩
 rintro s1_5 _ wd134 ⟨hB,hr4,F,rfl⟩ ho
 replace ho:=ho
 refine anz ?_
 refine wq ?_
 refine Wq rfl (cr [] wd134) ?_
 refine qv (v:=.bool (true)) rfl (fun _ _=>oa _) ?_
 intro wd135 hC136
 refine anz ?_
 cases ho
 exact W_ret ⟨_,res_1 Tryz.results157,rfl,(hB.trans hC136)⟩

noncomputable def spec_l02Fault_L0 (x0:MCategory) (s0_7:Int):Option (Out (Int) (Int×Int×Int×Int)):=
 (bif decide (s0_7 < (x0.From.length:Int)) then ((((idx x0.From (s0_7))>>=fun e18=>((idx x0.Identity (e18))>>=fun e20=>((idx x0.Composites (e20))>>=fun e22=>((idx e22 (s0_7))>>=fun e29=>(bif (e29) != (s0_7) then (some (true)) else ((idx x0.Composites (s0_7))>>=fun e32=>((idx x0.To (s0_7))>>=fun e39=>((idx x0.Identity (e39))>>=fun e41=>((idx e32 (e41))>>=fun e43=>(some ((e43) != (s0_7)))))))))))))>>=fun g16=>(bif g16 then (some (Out.ret ((((1:Int)),s0_7,((0:Int)),((0:Int)))))) else (some (Out.norm (w64 (s0_7 + (1:Int))))))) else (some (Out.exit 0 (s0_7))))
noncomputable def spec_l02Fault_L3 (x0:MCategory) (s1_8:Int) (s2_9:Int) (s3_10:Int):Option (Out (Int) (Int×Int×Int×Int)):=
 (bif decide (s3_10 < (x0.From.length:Int)) then ((((idx x0.To (s2_9))>>=fun e82=>((idx x0.From (s3_10))>>=fun e84=>(bif (e82) == (e84) then ((idx x0.Composites (s1_8))>>=fun e87=>((idx e87 (s2_9))>>=fun e94=>((idx x0.Composites (e94))>>=fun e96=>((idx e96 (s3_10))>>=fun e103=>((idx x0.Composites (s1_8))>>=fun e105=>((idx x0.Composites (s2_9))>>=fun e112=>((idx e112 (s3_10))>>=fun e119=>((idx e105 (e119))>>=fun e121=>(some ((e103) != (e121))))))))))) else (some (false))))))>>=fun g80=>(bif g80 then (some (Out.ret ((((2:Int)),s1_8,s2_9,s3_10)))) else (some (Out.norm (w64 (s3_10 + (1:Int))))))) else (some (Out.exit 6 (s3_10))))
noncomputable def spec_l02Fault_L2 (x0:MCategory) (s1_8:Int) (s2_9:Int):Option (Out (Int) (Int×Int×Int×Int)):=
 (bif decide (s2_9 < (x0.From.length:Int)) then ((idx x0.To (s1_8))>>=fun e65=>((idx x0.From (s2_9))>>=fun e67=>(bif (e65) != (e67) then (some (Out.norm (w64 (s2_9 + (1:Int))))) else (lbind (blockM 6 (loopM (spec_l02Fault_L3 x0 s1_8 s2_9) ((0:Int)))) (fun s3_10=>(some (Out.norm (w64 (s2_9 + (1:Int)))))))))) else (some (Out.exit 4 (s2_9))))
noncomputable def spec_l02Fault_L1 (x0:MCategory) (s1_8:Int):Option (Out (Int) (Int×Int×Int×Int)):=
 (bif decide (s1_8 < (x0.From.length:Int)) then (lbind (blockM 4 (loopM (spec_l02Fault_L2 x0 s1_8) ((0:Int)))) (fun s2_9=>(some (Out.norm (w64 (s1_8 + (1:Int))))))) else (some (Out.exit 2 (s1_8))))
noncomputable def spec_l02Fault (x0:MCategory):Option (Int×Int×Int×Int):=
 retM (S:=Unit) (lbind (blockM 0 (loopM (spec_l02Fault_L0 x0) ((0:Int)))) (fun s0_7=>(lbind (blockM 2 (loopM (spec_l02Fault_L1 x0) ((0:Int)))) (fun s1_8=>(some (Out.ret ((((0:Int)),((0:Int)),((0:Int)),((0:Int))))))))))
abbrev spec_l02Fault_post (w:World) (x:(Int×Int×Int×Int)) (e:Ending) (w':World):Prop:=e = .returned (.tuple #[.int .i64 x.1,.int .i64 x.2.1,.int .i64 x.2.2.1,.int .i64 x.2.2.2])∧Chg [] w w'
abbrev spec_l02Fault_T (w:World) (x:(Int×Int×Int×Int)) (r:Nat→Value) (w':World):Prop:=∃ v,(∀ a:Act,a.tmps.size=131→rho a=r→(results Tryz.f158 a.tmps).run Tryz.prog w' = .ok v w')∧spec_l02Fault_post w x (.returned v) w'
theorem spec_l02Fault_calls {w:World} {x0:MCategory} {z6:Value} {zh:List Nat} {z7:Value} {zg:List Nat} {z9:Value} {zf:List Nat} {z8:Value} {ze:List Nat} (za:(sImm (sInt .i64)).rep w.heap [z6] x0.From zh) (zb:(sImm (sInt .i64)).rep w.heap [z7] x0.To zg) (zd:(sImm (sInt .i64)).rep w.heap [z9] x0.Identity zf) (zc:(sImm (sImm (sInt .i64))).rep w.heap [z8] x0.Composites ze) {y:(Int×Int×Int×Int)} (hm:spec_l02Fault x0=some y) :
  Calls Tryz.prog 158 #[.agg #[.int .i64 (x0.Objects),z6,z7,z9,z8]] w (spec_l02Fault_post w y):=by
 refine calls_of_M (S:=Unit) (args:=[.agg #[.int .i64 (x0.Objects),z6,z7,z9,z8]]) Tryz.func158 rfl Tryz.ntmps158 (Nat.le_of_ble_eq_true rfl) (retM_some hm) ?_
 clear hm
 intro o ho
 have hB:Chg [] w w:=cr _ _
 refine wq ?_
 refine W_region rfl ?_
 refine WL.box fun b1 wd2 hC3 hr4 hl5=>?_
 replace hr4:Row wd2 b1 [.int .i64 (x0.Objects),z6,z7,z9,z8] 27:=hr4
 have hT7:=(cr [] w).trans hC3
 replace hB:=(hB.trans hT7)
 refine wv (v:=.int .i64 ((0:Int))) rfl (oa _) ?_
 refine wv (v:=.int .i64 ((0:Int))) rfl (oa _) ?_
 refine wv (v:=.int .i64 ((0:Int))) rfl (oa _) ?_
 refine wv (v:=.int .i64 ((0:Int))) rfl (oa _) ?_
 refine anz ?_
 refine wq ?_
 refine Wq rfl (cr [] wd2) ?_
 refine qv (v:=.pointer (some (⟨b1,1,none⟩))) rfl (fun _ _=>op_fieldAddrR u27z rfl info22 ne22 rfl rfl) ?_
 refine qv (v:=z6) rfl (fun _ hC=>oldz u22z rfl rfl ((kr hr4 hC).at.cell (j:=1) rfl)) ?_
 refine qv (v:=.int .i64 ((x0.From.length:Int))) rfl (fun _ hC=>op_lenI u22z (kp _ za (hB.trans hC))) ?_
 refine qv (v:=.int .i64 ((x0.From.length:Int))) rfl (fun _ _=>oa _) ?_
 intro wd8 hC9
 refine anz ?_
 refine wq ?_
 refine wq ?_
 refine Wq rfl hC9 ?_
 refine qv (v:=.int .i64 ((0:Int))) rfl (fun _ _=>oa _) ?_
 intro wd10 hC11
 refine anz ?_
 refine W_for (S1:=Int) (fun (s0_7:Int) r w'=>Chg [] w w'∧Row w' b1 [.int .i64 (x0.Objects),z6,z7,z9,z8] 27∧∃ F,r=updL F [(1,.pointer (some (⟨b1,0,none⟩))),(6,.int .i64 ((x0.From.length:Int))),(7,.int .i64 (s0_7))]) (T:=spec_l02Fault_T w) ho ⟨(hB.trans hC11),(kr hr4 hC11),fr ⟨rfl,rfl,rfl,trivial⟩⟩ ?_ ?_ ?_
 intro x r w' ho hx; subst ho; exact hx
 rintro s0_7 _ wd12 ⟨hB,hr4,F,rfl⟩ o ho
 replace ho:spec_l02Fault_L0 x0 s0_7=some o:=ho
 unfold spec_l02Fault_L0 at ho
 refine wq ?_
 refine wq ?_
 refine Wq rfl (cr [] wd12) ?_
 refine qv (v:=.int .i64 (s0_7)) rfl (fun _ _=>om _) ?_
 refine qv (v:=.int .i64 ((x0.From.length:Int))) rfl (fun _ _=>om _) ?_
 refine qv (v:=.bool (decide (s0_7 < (x0.From.length:Int)))) rfl (fun _ _=>op_bin rfl rfl bin_lss) ?_
 intro wd13 hC14
 refine anz ?_
 refine W_cond (b:=decide (s0_7 < (x0.From.length:Int))) rfl ?_ ?_
 intro hb15
 rw [hb15] at ho
 refine W_skip ?_
 refine anz ?_
 refine wq ?_
 refine W_block ?_
 refine wq ?_
 refine Wqd rfl (by kernel_rfl) hC14 ?_
 obtain ⟨g16,hm17,ho⟩:=bs ho
 refine QL.meet (fun r=>∃ F,r=updL F [(1,.pointer (some (⟨b1,0,none⟩))),(6,.int .i64 ((x0.From.length:Int))),(7,.int .i64 (s0_7)),(56,.bool (g16))]) ?_ ?_
 skip
 refine qv (v:=.pointer (some (⟨b1,4,none⟩))) rfl (fun _ _=>op_fieldAddrR u27z rfl info23 ne23 rfl rfl) ?_
 refine qv (v:=z8) rfl (fun _ hC=>oldz u23z rfl rfl ((kr hr4 hC).at.cell (j:=4) rfl)) ?_
 refine qv (v:=.pointer (some (⟨b1,3,none⟩))) rfl (fun _ _=>op_fieldAddrR u27z rfl info22 ne22 rfl rfl) ?_
 refine qv (v:=z9) rfl (fun _ hC=>oldz u22z rfl rfl ((kr hr4 hC).at.cell (j:=3) rfl)) ?_
 refine qv (v:=.pointer (some (⟨b1,1,none⟩))) rfl (fun _ _=>op_fieldAddrR u27z rfl info22 ne22 rfl rfl) ?_
 refine qv (v:=z6) rfl (fun _ hC=>oldz u22z rfl rfl ((kr hr4 hC).at.cell (j:=1) rfl)) ?_
 refine qv (v:=.int .i64 (s0_7)) rfl (fun _ _=>om _) ?_
 obtain ⟨e18,hx19e,hm17⟩:=bs hm17
 have hx19:=idx_some hx19e
 refine qv (v:=.pointer (some (elA (z6) 1 (s0_7)))) rfl (fun _ hC=>op_indexI u22z info2 sz2 rfl (kp _ za (hB.trans hC)) rfl hx19.1 hx19.2) ?_
 refine qv (v:=.int .i64 (e18)) rfl (fun _ hC=>oldz u2z rfl rfl (int_get (kp _ za (hB.trans hC)) hx19.1 hx19.2)) ?_
 obtain ⟨e20,hx21e,hm17⟩:=bs hm17
 have hx21:=idx_some hx21e
 refine qv (v:=.pointer (some (elA (z9) 1 (e18)))) rfl (fun _ hC=>op_indexI u22z info2 sz2 rfl (kp _ zd (hB.trans hC)) rfl hx21.1 hx21.2) ?_
 refine qv (v:=.int .i64 (e20)) rfl (fun _ hC=>oldz u2z rfl rfl (int_get (kp _ zd (hB.trans hC)) hx21.1 hx21.2)) ?_
 obtain ⟨e22,hx23e,hm17⟩:=bs hm17
 have hx23:=idx_some hx23e
 refine qv (v:=.pointer (some (elA (z8) 1 (e20)))) rfl (fun _ hC=>op_indexI u23z info22 sz22 rfl (kp _ zc (hB.trans hC)) rfl hx23.1 hx23.2) ?_
 obtain ⟨u24,fu25,hu26,hr27,hs28⟩:=one_get rfl zc hx23.1 hx23.2
 refine qv (v:=u24) rfl (fun _ hC=>oldz u22z rfl rfl ((hB.trans hC).cell0 hu26)) ?_
 refine qv (v:=.int .i64 (s0_7)) rfl (fun _ _=>om _) ?_
 obtain ⟨e29,hx30e,hm17⟩:=bs hm17
 have hx30:=idx_some hx30e
 refine qv (v:=.pointer (some (elA (u24) 1 (s0_7)))) rfl (fun _ hC=>op_indexI u22z info2 sz2 rfl (kp _ hr27 (hB.trans hC)) rfl hx30.1 hx30.2) ?_
 refine qv (v:=.int .i64 (e29)) rfl (fun _ hC=>oldz u2z rfl rfl (int_get (kp _ hr27 (hB.trans hC)) hx30.1 hx30.2)) ?_
 refine qv (v:=.int .i64 (s0_7)) rfl (fun _ _=>om _) ?_
 refine qv (v:=.bool ((e29) != (s0_7))) rfl (fun _ _=>op_bin rfl rfl bin_neq) ?_
 refine qv (v:=.bool ((e29) != (s0_7))) rfl (fun _ _=>om _) ?_
 rcases Bool.eq_false_or_eq_true ((e29) != (s0_7)) with hb31 | hb31
 rw [hb31] at hm17
 refine qs rfl (congrArg some hb31) rfl ?_
 refine qs rfl (congrArg some hb31) rfl ?_
 refine qs rfl (congrArg some hb31) rfl ?_
 refine qs rfl (congrArg some hb31) rfl ?_
 refine qs rfl (congrArg some hb31) rfl ?_
 refine qs rfl (congrArg some hb31) rfl ?_
 refine qs rfl (congrArg some hb31) rfl ?_
 refine qs rfl (congrArg some hb31) rfl ?_
 refine qs rfl (congrArg some hb31) rfl ?_
 refine qs rfl (congrArg some hb31) rfl ?_
 refine qs rfl (congrArg some hb31) rfl ?_
 refine qs rfl (congrArg some hb31) rfl ?_
 refine qs rfl (congrArg some hb31) rfl ?_
 refine qs rfl (congrArg some hb31) rfl ?_
 refine qs rfl (congrArg some hb31) rfl ?_
 refine qs rfl (congrArg some hb31) rfl ?_
 refine qs rfl (congrArg some hb31) rfl ?_
 refine qs rfl (congrArg some hb31) rfl ?_
 refine qv (v:=.bool (true)) rfl (fun _ _=>op_pickT rfl hb31) ?_
 cases hm17
 exact fr ⟨rfl,rfl,rfl,rfl,trivial⟩
 rw [hb31] at hm17
 refine qg (v:=.pointer (some (⟨b1,4,none⟩))) rfl (congrArg some hb31) (fun _ _=>op_fieldAddrR u27z rfl info23 ne23 rfl rfl) ?_
 refine qg (v:=z8) rfl (congrArg some hb31) (fun _ hC=>oldz u23z rfl rfl ((kr hr4 hC).at.cell (j:=4) rfl)) ?_
 refine qg (v:=.int .i64 (s0_7)) rfl (congrArg some hb31) (fun _ _=>om _) ?_
 obtain ⟨e32,hx33e,hm17⟩:=bs hm17
 have hx33:=idx_some hx33e
 refine qg (v:=.pointer (some (elA (z8) 1 (s0_7)))) rfl (congrArg some hb31) (fun _ hC=>op_indexI u23z info22 sz22 rfl (kp _ zc (hB.trans hC)) rfl hx33.1 hx33.2) ?_
 obtain ⟨u34,fu35,hu36,hr37,hs38⟩:=one_get rfl zc hx33.1 hx33.2
 refine qg (v:=u34) rfl (congrArg some hb31) (fun _ hC=>oldz u22z rfl rfl ((hB.trans hC).cell0 hu36)) ?_
 refine qg (v:=.pointer (some (⟨b1,3,none⟩))) rfl (congrArg some hb31) (fun _ _=>op_fieldAddrR u27z rfl info22 ne22 rfl rfl) ?_
 refine qg (v:=z9) rfl (congrArg some hb31) (fun _ hC=>oldz u22z rfl rfl ((kr hr4 hC).at.cell (j:=3) rfl)) ?_
 refine qg (v:=.pointer (some (⟨b1,2,none⟩))) rfl (congrArg some hb31) (fun _ _=>op_fieldAddrR u27z rfl info22 ne22 rfl rfl) ?_
 refine qg (v:=z7) rfl (congrArg some hb31) (fun _ hC=>oldz u22z rfl rfl ((kr hr4 hC).at.cell (j:=2) rfl)) ?_
 refine qg (v:=.int .i64 (s0_7)) rfl (congrArg some hb31) (fun _ _=>om _) ?_
 obtain ⟨e39,hx40e,hm17⟩:=bs hm17
 have hx40:=idx_some hx40e
 refine qg (v:=.pointer (some (elA (z7) 1 (s0_7)))) rfl (congrArg some hb31) (fun _ hC=>op_indexI u22z info2 sz2 rfl (kp _ zb (hB.trans hC)) rfl hx40.1 hx40.2) ?_
 refine qg (v:=.int .i64 (e39)) rfl (congrArg some hb31) (fun _ hC=>oldz u2z rfl rfl (int_get (kp _ zb (hB.trans hC)) hx40.1 hx40.2)) ?_
 obtain ⟨e41,hx42e,hm17⟩:=bs hm17
 have hx42:=idx_some hx42e
 refine qg (v:=.pointer (some (elA (z9) 1 (e39)))) rfl (congrArg some hb31) (fun _ hC=>op_indexI u22z info2 sz2 rfl (kp _ zd (hB.trans hC)) rfl hx42.1 hx42.2) ?_
 refine qg (v:=.int .i64 (e41)) rfl (congrArg some hb31) (fun _ hC=>oldz u2z rfl rfl (int_get (kp _ zd (hB.trans hC)) hx42.1 hx42.2)) ?_
 obtain ⟨e43,hx44e,hm17⟩:=bs hm17
 have hx44:=idx_some hx44e
 refine qg (v:=.pointer (some (elA (u34) 1 (e41)))) rfl (congrArg some hb31) (fun _ hC=>op_indexI u22z info2 sz2 rfl (kp _ hr37 (hB.trans hC)) rfl hx44.1 hx44.2) ?_
 refine qg (v:=.int .i64 (e43)) rfl (congrArg some hb31) (fun _ hC=>oldz u2z rfl rfl (int_get (kp _ hr37 (hB.trans hC)) hx44.1 hx44.2)) ?_
 refine qg (v:=.int .i64 (s0_7)) rfl (congrArg some hb31) (fun _ _=>om _) ?_
 refine qg (v:=.bool ((e43) != (s0_7))) rfl (congrArg some hb31) (fun _ _=>op_bin rfl rfl bin_neq) ?_
 refine qv (v:=.bool ((e43) != (s0_7))) rfl (fun _ _=>op_pickF rfl hb31) ?_
 cases hm17
 exact fr ⟨rfl,rfl,rfl,rfl,trivial⟩
 rintro _ ⟨F,rfl⟩
 intro wd45 hC46
 refine anz ?_
 refine W_cond (b:=g16) rfl ?_ ?_
 intro hb47
 rw [hb47] at ho
 refine wq ?_
 refine Wq rfl hC46 ?_
 refine qv (v:=.int .i64 (s0_7)) rfl (fun _ _=>om _) ?_
 refine qv (v:=.int .i64 ((1:Int))) rfl (fun _ _=>oa _) ?_
 refine qv (v:=.int .i64 (s0_7)) rfl (fun _ _=>oa _) ?_
 refine qv (v:=.int .i64 ((0:Int))) rfl (fun _ _=>oa _) ?_
 refine qv (v:=.int .i64 ((0:Int))) rfl (fun _ _=>oa _) ?_
 intro wd48 hC49
 refine anz ?_
 cases ho
 exact W_ret ⟨_,res_4 Tryz.results158,rfl,(hB.trans hC49)⟩
 intro hb47
 rw [hb47] at ho
 refine W_skip ?_
 refine inBlk_n ?_
 refine anz ?_
 refine Wq rfl hC46 ?_
 refine qv (v:=.int .i64 (s0_7)) rfl (fun _ _=>om _) ?_
 refine qv (v:=.int .i64 (w64 (s0_7 + (1:Int)))) rfl (fun _ _=>op_bin rfl rfl bin_add) ?_
 refine qv (v:=.int .i64 (w64 (s0_7 + (1:Int)))) rfl (fun _ _=>oa _) ?_
 intro wd50 hC51
 cases ho
 exact ⟨(hB.trans hC51),(kr hr4 hC51),fr ⟨rfl,rfl,rfl,trivial⟩⟩
 intro hb15
 rw [hb15] at ho
 refine W_exit ?_
 refine andThen_x ?_
 cases ho
 exact ⟨rfl,⟨(hB.trans hC14),(kr hr4 hC14),fr ⟨rfl,rfl,rfl,trivial⟩⟩⟩
 rintro s0_7 _ wd52 ⟨hB,hr4,F,rfl⟩ ho
 replace ho:=ho
 refine anz ?_
 refine wq ?_
 refine wq ?_
 refine Wq rfl (cr [] wd52) ?_
 refine qv (v:=.int .i64 ((0:Int))) rfl (fun _ _=>oa _) ?_
 intro wd53 hC54
 refine anz ?_
 refine W_for (S1:=Int) (fun (s1_8:Int) r w'=>Chg [] w w'∧Row w' b1 [.int .i64 (x0.Objects),z6,z7,z9,z8] 27∧∃ F,r=updL F [(1,.pointer (some (⟨b1,0,none⟩))),(6,.int .i64 ((x0.From.length:Int))),(8,.int .i64 (s1_8))]) (T:=spec_l02Fault_T w) ho ⟨(hB.trans hC54),(kr hr4 hC54),fr ⟨rfl,rfl,rfl,trivial⟩⟩ ?_ ?_ ?_
 intro x r w' ho hx; subst ho; exact hx
 rintro s1_8 _ wd55 ⟨hB,hr4,F,rfl⟩ o ho
 replace ho:spec_l02Fault_L1 x0 s1_8=some o:=ho
 unfold spec_l02Fault_L1 at ho
 refine wq ?_
 refine wq ?_
 refine Wq rfl (cr [] wd55) ?_
 refine qv (v:=.int .i64 (s1_8)) rfl (fun _ _=>om _) ?_
 refine qv (v:=.int .i64 ((x0.From.length:Int))) rfl (fun _ _=>om _) ?_
 refine qv (v:=.bool (decide (s1_8 < (x0.From.length:Int)))) rfl (fun _ _=>op_bin rfl rfl bin_lss) ?_
 intro wd56 hC57
 refine anz ?_
 refine W_cond (b:=decide (s1_8 < (x0.From.length:Int))) rfl ?_ ?_
 intro hb58
 rw [hb58] at ho
 refine W_skip ?_
 refine anz ?_
 refine wq ?_
 refine W_block ?_
 refine wq ?_
 refine Wq rfl hC57 ?_
 refine qv (v:=.int .i64 ((0:Int))) rfl (fun _ _=>oa _) ?_
 intro wd59 hC60
 refine anz ?_
 refine W_for (S1:=Int) (fun (s2_9:Int) r w'=>Chg [] w w'∧Row w' b1 [.int .i64 (x0.Objects),z6,z7,z9,z8] 27∧∃ F,r=updL F [(1,.pointer (some (⟨b1,0,none⟩))),(6,.int .i64 ((x0.From.length:Int))),(8,.int .i64 (s1_8)),(9,.int .i64 (s2_9))]) (T:=spec_l02Fault_T w) ho ⟨(hB.trans hC60),(kr hr4 hC60),fr ⟨rfl,rfl,rfl,rfl,trivial⟩⟩ ?_ ?_ ?_
 intro x r w' ho hx; subst ho; exact hx
 rintro s2_9 _ wd61 ⟨hB,hr4,F,rfl⟩ o ho
 replace ho:spec_l02Fault_L2 x0 s1_8 s2_9=some o:=ho
 unfold spec_l02Fault_L2 at ho
 refine wq ?_
 refine wq ?_
 refine Wq rfl (cr [] wd61) ?_
 refine qv (v:=.int .i64 (s2_9)) rfl (fun _ _=>om _) ?_
 refine qv (v:=.int .i64 ((x0.From.length:Int))) rfl (fun _ _=>om _) ?_
 refine qv (v:=.bool (decide (s2_9 < (x0.From.length:Int)))) rfl (fun _ _=>op_bin rfl rfl bin_lss) ?_
 intro wd62 hC63
 refine anz ?_
 refine W_cond (b:=decide (s2_9 < (x0.From.length:Int))) rfl ?_ ?_
 intro hb64
 rw [hb64] at ho
 refine W_skip ?_
 refine anz ?_
 refine wq ?_
 refine W_block ?_
 refine wq ?_
 refine wq ?_
 refine Wqd rfl (by kernel_rfl) hC63 ?_
 refine qv (v:=.pointer (some (⟨b1,2,none⟩))) rfl (fun _ _=>op_fieldAddrR u27z rfl info22 ne22 rfl rfl) ?_
 refine qv (v:=z7) rfl (fun _ hC=>oldz u22z rfl rfl ((kr hr4 hC).at.cell (j:=2) rfl)) ?_
 refine qv (v:=.int .i64 (s1_8)) rfl (fun _ _=>om _) ?_
 obtain ⟨e65,hx66e,ho⟩:=bs ho
 have hx66:=idx_some hx66e
 refine qv (v:=.pointer (some (elA (z7) 1 (s1_8)))) rfl (fun _ hC=>op_indexI u22z info2 sz2 rfl (kp _ zb (hB.trans hC)) rfl hx66.1 hx66.2) ?_
 refine qv (v:=.int .i64 (e65)) rfl (fun _ hC=>oldz u2z rfl rfl (int_get (kp _ zb (hB.trans hC)) hx66.1 hx66.2)) ?_
 refine qv (v:=.pointer (some (⟨b1,1,none⟩))) rfl (fun _ _=>op_fieldAddrR u27z rfl info22 ne22 rfl rfl) ?_
 refine qv (v:=z6) rfl (fun _ hC=>oldz u22z rfl rfl ((kr hr4 hC).at.cell (j:=1) rfl)) ?_
 refine qv (v:=.int .i64 (s2_9)) rfl (fun _ _=>om _) ?_
 obtain ⟨e67,hx68e,ho⟩:=bs ho
 have hx68:=idx_some hx68e
 refine qv (v:=.pointer (some (elA (z6) 1 (s2_9)))) rfl (fun _ hC=>op_indexI u22z info2 sz2 rfl (kp _ za (hB.trans hC)) rfl hx68.1 hx68.2) ?_
 refine qv (v:=.int .i64 (e67)) rfl (fun _ hC=>oldz u2z rfl rfl (int_get (kp _ za (hB.trans hC)) hx68.1 hx68.2)) ?_
 refine qv (v:=.bool ((e65) != (e67))) rfl (fun _ _=>op_bin rfl rfl bin_neq) ?_
 intro wd69 hC70
 refine anz ?_
 refine W_cond (b:=(e65) != (e67)) rfl ?_ ?_
 intro hb71
 rw [hb71] at ho
 refine W_exit ?_
 refine andThen_x ?_
 refine inBlk_x ?_
 refine anz ?_
 refine Wq rfl hC70 ?_
 refine qv (v:=.int .i64 (s2_9)) rfl (fun _ _=>om _) ?_
 refine qv (v:=.int .i64 (w64 (s2_9 + (1:Int)))) rfl (fun _ _=>op_bin rfl rfl bin_add) ?_
 refine qv (v:=.int .i64 (w64 (s2_9 + (1:Int)))) rfl (fun _ _=>oa _) ?_
 intro wd72 hC73
 cases ho
 exact ⟨(hB.trans hC73),(kr hr4 hC73),fr ⟨rfl,rfl,rfl,rfl,trivial⟩⟩
 intro hb71
 rw [hb71] at ho
 refine W_skip ?_
 refine anz ?_
 refine wq ?_
 refine Wq rfl hC70 ?_
 refine qv (v:=.int .i64 ((0:Int))) rfl (fun _ _=>oa _) ?_
 intro wd74 hC75
 refine anz ?_
 refine W_for (S1:=Int) (fun (s3_10:Int) r w'=>Chg [] w w'∧Row w' b1 [.int .i64 (x0.Objects),z6,z7,z9,z8] 27∧∃ F,r=updL F [(1,.pointer (some (⟨b1,0,none⟩))),(6,.int .i64 ((x0.From.length:Int))),(8,.int .i64 (s1_8)),(9,.int .i64 (s2_9)),(10,.int .i64 (s3_10))]) (T:=spec_l02Fault_T w) ho ⟨(hB.trans hC75),(kr hr4 hC75),fr ⟨rfl,rfl,rfl,rfl,rfl,trivial⟩⟩ ?_ ?_ ?_
 intro x r w' ho hx; subst ho; exact hx
 rintro s3_10 _ wd76 ⟨hB,hr4,F,rfl⟩ o ho
 replace ho:spec_l02Fault_L3 x0 s1_8 s2_9 s3_10=some o:=ho
 unfold spec_l02Fault_L3 at ho
 refine wq ?_
 refine wq ?_
 refine Wq rfl (cr [] wd76) ?_
 refine qv (v:=.int .i64 (s3_10)) rfl (fun _ _=>om _) ?_
 refine qv (v:=.int .i64 ((x0.From.length:Int))) rfl (fun _ _=>om _) ?_
 refine qv (v:=.bool (decide (s3_10 < (x0.From.length:Int)))) rfl (fun _ _=>op_bin rfl rfl bin_lss) ?_
 intro wd77 hC78
 refine anz ?_
 refine W_cond (b:=decide (s3_10 < (x0.From.length:Int))) rfl ?_ ?_
 intro hb79
 rw [hb79] at ho
 refine W_skip ?_
 refine anz ?_
 refine wq ?_
 refine W_block ?_
 refine wq ?_
 refine Wqd rfl (by kernel_rfl) hC78 ?_
 obtain ⟨g80,hm81,ho⟩:=bs ho
 refine QL.meet (fun r=>∃ F,r=updL F [(1,.pointer (some (⟨b1,0,none⟩))),(6,.int .i64 ((x0.From.length:Int))),(8,.int .i64 (s1_8)),(9,.int .i64 (s2_9)),(10,.int .i64 (s3_10)),(127,.bool (g80))]) ?_ ?_
 skip
 refine qv (v:=.pointer (some (⟨b1,2,none⟩))) rfl (fun _ _=>op_fieldAddrR u27z rfl info22 ne22 rfl rfl) ?_
 refine qv (v:=z7) rfl (fun _ hC=>oldz u22z rfl rfl ((kr hr4 hC).at.cell (j:=2) rfl)) ?_
 refine qv (v:=.int .i64 (s2_9)) rfl (fun _ _=>om _) ?_
 obtain ⟨e82,hx83e,hm81⟩:=bs hm81
 have hx83:=idx_some hx83e
 refine qv (v:=.pointer (some (elA (z7) 1 (s2_9)))) rfl (fun _ hC=>op_indexI u22z info2 sz2 rfl (kp _ zb (hB.trans hC)) rfl hx83.1 hx83.2) ?_
 refine qv (v:=.int .i64 (e82)) rfl (fun _ hC=>oldz u2z rfl rfl (int_get (kp _ zb (hB.trans hC)) hx83.1 hx83.2)) ?_
 refine qv (v:=.pointer (some (⟨b1,1,none⟩))) rfl (fun _ _=>op_fieldAddrR u27z rfl info22 ne22 rfl rfl) ?_
 refine qv (v:=z6) rfl (fun _ hC=>oldz u22z rfl rfl ((kr hr4 hC).at.cell (j:=1) rfl)) ?_
 refine qv (v:=.int .i64 (s3_10)) rfl (fun _ _=>om _) ?_
 obtain ⟨e84,hx85e,hm81⟩:=bs hm81
 have hx85:=idx_some hx85e
 refine qv (v:=.pointer (some (elA (z6) 1 (s3_10)))) rfl (fun _ hC=>op_indexI u22z info2 sz2 rfl (kp _ za (hB.trans hC)) rfl hx85.1 hx85.2) ?_
 refine qv (v:=.int .i64 (e84)) rfl (fun _ hC=>oldz u2z rfl rfl (int_get (kp _ za (hB.trans hC)) hx85.1 hx85.2)) ?_
 refine qv (v:=.bool ((e82) == (e84))) rfl (fun _ _=>op_bin rfl rfl bin_eql) ?_
 refine qv (v:=.bool ((e82) == (e84))) rfl (fun _ _=>om _) ?_
 rcases Bool.eq_false_or_eq_true ((e82) == (e84)) with hb86 | hb86
 rw [hb86] at hm81
 refine qg (v:=.pointer (some (⟨b1,4,none⟩))) rfl (congrArg some hb86) (fun _ _=>op_fieldAddrR u27z rfl info23 ne23 rfl rfl) ?_
 refine qg (v:=z8) rfl (congrArg some hb86) (fun _ hC=>oldz u23z rfl rfl ((kr hr4 hC).at.cell (j:=4) rfl)) ?_
 refine qg (v:=.pointer (some (⟨b1,4,none⟩))) rfl (congrArg some hb86) (fun _ _=>op_fieldAddrR u27z rfl info23 ne23 rfl rfl) ?_
 refine qg (v:=z8) rfl (congrArg some hb86) (fun _ hC=>oldz u23z rfl rfl ((kr hr4 hC).at.cell (j:=4) rfl)) ?_
 refine qg (v:=.int .i64 (s1_8)) rfl (congrArg some hb86) (fun _ _=>om _) ?_
 obtain ⟨e87,hx88e,hm81⟩:=bs hm81
 have hx88:=idx_some hx88e
 refine qg (v:=.pointer (some (elA (z8) 1 (s1_8)))) rfl (congrArg some hb86) (fun _ hC=>op_indexI u23z info22 sz22 rfl (kp _ zc (hB.trans hC)) rfl hx88.1 hx88.2) ?_
 obtain ⟨u89,fu90,hu91,hr92,hs93⟩:=one_get rfl zc hx88.1 hx88.2
 refine qg (v:=u89) rfl (congrArg some hb86) (fun _ hC=>oldz u22z rfl rfl ((hB.trans hC).cell0 hu91)) ?_
 refine qg (v:=.int .i64 (s2_9)) rfl (congrArg some hb86) (fun _ _=>om _) ?_
 obtain ⟨e94,hx95e,hm81⟩:=bs hm81
 have hx95:=idx_some hx95e
 refine qg (v:=.pointer (some (elA (u89) 1 (s2_9)))) rfl (congrArg some hb86) (fun _ hC=>op_indexI u22z info2 sz2 rfl (kp _ hr92 (hB.trans hC)) rfl hx95.1 hx95.2) ?_
 refine qg (v:=.int .i64 (e94)) rfl (congrArg some hb86) (fun _ hC=>oldz u2z rfl rfl (int_get (kp _ hr92 (hB.trans hC)) hx95.1 hx95.2)) ?_
 obtain ⟨e96,hx97e,hm81⟩:=bs hm81
 have hx97:=idx_some hx97e
 refine qg (v:=.pointer (some (elA (z8) 1 (e94)))) rfl (congrArg some hb86) (fun _ hC=>op_indexI u23z info22 sz22 rfl (kp _ zc (hB.trans hC)) rfl hx97.1 hx97.2) ?_
 obtain ⟨u98,fu99,hu100,hr101,hs102⟩:=one_get rfl zc hx97.1 hx97.2
 refine qg (v:=u98) rfl (congrArg some hb86) (fun _ hC=>oldz u22z rfl rfl ((hB.trans hC).cell0 hu100)) ?_
 refine qg (v:=.int .i64 (s3_10)) rfl (congrArg some hb86) (fun _ _=>om _) ?_
 obtain ⟨e103,hx104e,hm81⟩:=bs hm81
 have hx104:=idx_some hx104e
 refine qg (v:=.pointer (some (elA (u98) 1 (s3_10)))) rfl (congrArg some hb86) (fun _ hC=>op_indexI u22z info2 sz2 rfl (kp _ hr101 (hB.trans hC)) rfl hx104.1 hx104.2) ?_
 refine qg (v:=.int .i64 (e103)) rfl (congrArg some hb86) (fun _ hC=>oldz u2z rfl rfl (int_get (kp _ hr101 (hB.trans hC)) hx104.1 hx104.2)) ?_
 refine qg (v:=.pointer (some (⟨b1,4,none⟩))) rfl (congrArg some hb86) (fun _ _=>op_fieldAddrR u27z rfl info23 ne23 rfl rfl) ?_
 refine qg (v:=z8) rfl (congrArg some hb86) (fun _ hC=>oldz u23z rfl rfl ((kr hr4 hC).at.cell (j:=4) rfl)) ?_
 refine qg (v:=.int .i64 (s1_8)) rfl (congrArg some hb86) (fun _ _=>om _) ?_
 obtain ⟨e105,hx106e,hm81⟩:=bs hm81
 have hx106:=idx_some hx106e
 refine qg (v:=.pointer (some (elA (z8) 1 (s1_8)))) rfl (congrArg some hb86) (fun _ hC=>op_indexI u23z info22 sz22 rfl (kp _ zc (hB.trans hC)) rfl hx106.1 hx106.2) ?_
 obtain ⟨u107,fu108,hu109,hr110,hs111⟩:=one_get rfl zc hx106.1 hx106.2
 refine qg (v:=u107) rfl (congrArg some hb86) (fun _ hC=>oldz u22z rfl rfl ((hB.trans hC).cell0 hu109)) ?_
 refine qg (v:=.pointer (some (⟨b1,4,none⟩))) rfl (congrArg some hb86) (fun _ _=>op_fieldAddrR u27z rfl info23 ne23 rfl rfl) ?_
 refine qg (v:=z8) rfl (congrArg some hb86) (fun _ hC=>oldz u23z rfl rfl ((kr hr4 hC).at.cell (j:=4) rfl)) ?_
 refine qg (v:=.int .i64 (s2_9)) rfl (congrArg some hb86) (fun _ _=>om _) ?_
 obtain ⟨e112,hx113e,hm81⟩:=bs hm81
 have hx113:=idx_some hx113e
 refine qg (v:=.pointer (some (elA (z8) 1 (s2_9)))) rfl (congrArg some hb86) (fun _ hC=>op_indexI u23z info22 sz22 rfl (kp _ zc (hB.trans hC)) rfl hx113.1 hx113.2) ?_
 obtain ⟨u114,fu115,hu116,hr117,hs118⟩:=one_get rfl zc hx113.1 hx113.2
 refine qg (v:=u114) rfl (congrArg some hb86) (fun _ hC=>oldz u22z rfl rfl ((hB.trans hC).cell0 hu116)) ?_
 refine qg (v:=.int .i64 (s3_10)) rfl (congrArg some hb86) (fun _ _=>om _) ?_
 obtain ⟨e119,hx120e,hm81⟩:=bs hm81
 have hx120:=idx_some hx120e
 refine qg (v:=.pointer (some (elA (u114) 1 (s3_10)))) rfl (congrArg some hb86) (fun _ hC=>op_indexI u22z info2 sz2 rfl (kp _ hr117 (hB.trans hC)) rfl hx120.1 hx120.2) ?_
 refine qg (v:=.int .i64 (e119)) rfl (congrArg some hb86) (fun _ hC=>oldz u2z rfl rfl (int_get (kp _ hr117 (hB.trans hC)) hx120.1 hx120.2)) ?_
 obtain ⟨e121,hx122e,hm81⟩:=bs hm81
 have hx122:=idx_some hx122e
 refine qg (v:=.pointer (some (elA (u107) 1 (e119)))) rfl (congrArg some hb86) (fun _ hC=>op_indexI u22z info2 sz2 rfl (kp _ hr110 (hB.trans hC)) rfl hx122.1 hx122.2) ?_
 refine qg (v:=.int .i64 (e121)) rfl (congrArg some hb86) (fun _ hC=>oldz u2z rfl rfl (int_get (kp _ hr110 (hB.trans hC)) hx122.1 hx122.2)) ?_
 refine qg (v:=.bool ((e103) != (e121))) rfl (congrArg some hb86) (fun _ _=>op_bin rfl rfl bin_neq) ?_
 refine qv (v:=.bool ((e103) != (e121))) rfl (fun _ _=>op_pickT rfl hb86) ?_
 cases hm81
 exact fr ⟨rfl,rfl,rfl,rfl,rfl,rfl,trivial⟩
 rw [hb86] at hm81
 refine qs rfl (congrArg some hb86) rfl ?_
 refine qs rfl (congrArg some hb86) rfl ?_
 refine qs rfl (congrArg some hb86) rfl ?_
 refine qs rfl (congrArg some hb86) rfl ?_
 refine qs rfl (congrArg some hb86) rfl ?_
 refine qs rfl (congrArg some hb86) rfl ?_
 refine qs rfl (congrArg some hb86) rfl ?_
 refine qs rfl (congrArg some hb86) rfl ?_
 refine qs rfl (congrArg some hb86) rfl ?_
 refine qs rfl (congrArg some hb86) rfl ?_
 refine qs rfl (congrArg some hb86) rfl ?_
 refine qs rfl (congrArg some hb86) rfl ?_
 refine qs rfl (congrArg some hb86) rfl ?_
 refine qs rfl (congrArg some hb86) rfl ?_
 refine qs rfl (congrArg some hb86) rfl ?_
 refine qs rfl (congrArg some hb86) rfl ?_
 refine qs rfl (congrArg some hb86) rfl ?_
 refine qs rfl (congrArg some hb86) rfl ?_
 refine qs rfl (congrArg some hb86) rfl ?_
 refine qs rfl (congrArg some hb86) rfl ?_
 refine qs rfl (congrArg some hb86) rfl ?_
 refine qs rfl (congrArg some hb86) rfl ?_
 refine qs rfl (congrArg some hb86) rfl ?_
 refine qs rfl (congrArg some hb86) rfl ?_
 refine qs rfl (congrArg some hb86) rfl ?_
 refine qs rfl (congrArg some hb86) rfl ?_
 refine qs rfl (congrArg some hb86) rfl ?_
 refine qs rfl (congrArg some hb86) rfl ?_
 refine qs rfl (congrArg some hb86) rfl ?_
 refine qs rfl (congrArg some hb86) rfl ?_
 refine qs rfl (congrArg some hb86) rfl ?_
 refine qv (v:=.bool (false)) rfl (fun _ _=>op_pickF rfl hb86) ?_
 cases hm81
 exact fr ⟨rfl,rfl,rfl,rfl,rfl,rfl,trivial⟩
 rintro _ ⟨F,rfl⟩
 intro wd123 hC124
 refine anz ?_
 refine W_cond (b:=g80) rfl ?_ ?_
 intro hb125
 rw [hb125] at ho
 refine wq ?_
 refine Wq rfl hC124 ?_
 refine qv (v:=.int .i64 (s1_8)) rfl (fun _ _=>om _) ?_
 refine qv (v:=.int .i64 (s2_9)) rfl (fun _ _=>om _) ?_
 refine qv (v:=.int .i64 (s3_10)) rfl (fun _ _=>om _) ?_
 refine qv (v:=.int .i64 ((2:Int))) rfl (fun _ _=>oa _) ?_
 refine qv (v:=.int .i64 (s1_8)) rfl (fun _ _=>oa _) ?_
 refine qv (v:=.int .i64 (s2_9)) rfl (fun _ _=>oa _) ?_
 refine qv (v:=.int .i64 (s3_10)) rfl (fun _ _=>oa _) ?_
 intro wd126 hC127
 refine anz ?_
 cases ho
 exact W_ret ⟨_,res_4 Tryz.results158,rfl,(hB.trans hC127)⟩
 intro hb125
 rw [hb125] at ho
 refine W_skip ?_
 refine inBlk_n ?_
 refine anz ?_
 refine Wq rfl hC124 ?_
 refine qv (v:=.int .i64 (s3_10)) rfl (fun _ _=>om _) ?_
 refine qv (v:=.int .i64 (w64 (s3_10 + (1:Int)))) rfl (fun _ _=>op_bin rfl rfl bin_add) ?_
 refine qv (v:=.int .i64 (w64 (s3_10 + (1:Int)))) rfl (fun _ _=>oa _) ?_
 intro wd128 hC129
 cases ho
 exact ⟨(hB.trans hC129),(kr hr4 hC129),fr ⟨rfl,rfl,rfl,rfl,rfl,trivial⟩⟩
 intro hb79
 rw [hb79] at ho
 refine W_exit ?_
 refine andThen_x ?_
 cases ho
 exact ⟨rfl,⟨(hB.trans hC78),(kr hr4 hC78),fr ⟨rfl,rfl,rfl,rfl,rfl,trivial⟩⟩⟩
 rintro s3_10 _ wd130 ⟨hB,hr4,F,rfl⟩ ho
 replace ho:=ho
 refine inBlk_n ?_
 refine anz ?_
 refine Wq rfl (cr [] wd130) ?_
 refine qv (v:=.int .i64 (s2_9)) rfl (fun _ _=>om _) ?_
 refine qv (v:=.int .i64 (w64 (s2_9 + (1:Int)))) rfl (fun _ _=>op_bin rfl rfl bin_add) ?_
 refine qv (v:=.int .i64 (w64 (s2_9 + (1:Int)))) rfl (fun _ _=>oa _) ?_
 intro wd131 hC132
 cases ho
 exact ⟨(hB.trans hC132),(kr hr4 hC132),fr ⟨rfl,rfl,rfl,rfl,trivial⟩⟩
 intro hb64
 rw [hb64] at ho
 refine W_exit ?_
 refine andThen_x ?_
 cases ho
 exact ⟨rfl,⟨(hB.trans hC63),(kr hr4 hC63),fr ⟨rfl,rfl,rfl,rfl,trivial⟩⟩⟩
 rintro s2_9 _ wd133 ⟨hB,hr4,F,rfl⟩ ho
 replace ho:=ho
 refine inBlk_n ?_
 refine anz ?_
 refine Wq rfl (cr [] wd133) ?_
 refine qv (v:=.int .i64 (s1_8)) rfl (fun _ _=>om _) ?_
 refine qv (v:=.int .i64 (w64 (s1_8 + (1:Int)))) rfl (fun _ _=>op_bin rfl rfl bin_add) ?_
 refine qv (v:=.int .i64 (w64 (s1_8 + (1:Int)))) rfl (fun _ _=>oa _) ?_
 intro wd134 hC135
 cases ho
 exact ⟨(hB.trans hC135),(kr hr4 hC135),fr ⟨rfl,rfl,rfl,trivial⟩⟩
 intro hb58
 rw [hb58] at ho
 refine W_exit ?_
 refine andThen_x ?_
 cases ho
 exact ⟨rfl,⟨(hB.trans hC57),(kr hr4 hC57),fr ⟨rfl,rfl,rfl,trivial⟩⟩⟩
 rintro s1_8 _ wd136 ⟨hB,hr4,F,rfl⟩ ho
 replace ho:=ho
 refine anz ?_
 refine wq ?_
 refine Wq rfl (cr [] wd136) ?_
 refine qv (v:=.int .i64 ((0:Int))) rfl (fun _ _=>oa _) ?_
 refine qv (v:=.int .i64 ((0:Int))) rfl (fun _ _=>oa _) ?_
 refine qv (v:=.int .i64 ((0:Int))) rfl (fun _ _=>oa _) ?_
 refine qv (v:=.int .i64 ((0:Int))) rfl (fun _ _=>oa _) ?_
 intro wd137 hC138
 refine anz ?_
 cases ho
 exact W_ret ⟨_,res_4 Tryz.results158,rfl,(hB.trans hC138)⟩

noncomputable def spec_l02Is (x0:MCategory):Option (Bool):=
 retM (S:=Unit) ((spec_IsShape x0)>>=fun y8=>(bif !(y8) then (some (Out.ret (false))) else ((spec_l02Fault x0)>>=fun y15=>(some (Out.ret (((y15.1) == ((0:Int)))))))))
abbrev spec_l02Is_post (w:World) (x:(Bool)) (e:Ending) (w':World):Prop:=e = .returned (.bool x)∧Chg [] w w'
abbrev spec_l02Is_T (w:World) (x:(Bool)) (r:Nat→Value) (w':World):Prop:=∃ v,(∀ a:Act,a.tmps.size=19→rho a=r→(results Tryz.f113 a.tmps).run Tryz.prog w' = .ok v w')∧spec_l02Is_post w x (.returned v) w'
theorem spec_l02Is_calls {w:World} {x0:MCategory} {z6:Value} {zh:List Nat} {z7:Value} {zg:List Nat} {z9:Value} {zf:List Nat} {z8:Value} {ze:List Nat} (za:(sImm (sInt .i64)).rep w.heap [z6] x0.From zh) (zb:(sImm (sInt .i64)).rep w.heap [z7] x0.To zg) (zd:(sImm (sInt .i64)).rep w.heap [z9] x0.Identity zf) (zc:(sImm (sImm (sInt .i64))).rep w.heap [z8] x0.Composites ze) {y:(Bool)} (hm:spec_l02Is x0=some y) :
  Calls Tryz.prog 113 #[.agg #[.int .i64 (x0.Objects),z6,z7,z9,z8]] w (spec_l02Is_post w y):=by
 refine calls_of_M (S:=Unit) (args:=[.agg #[.int .i64 (x0.Objects),z6,z7,z9,z8]]) Tryz.func113 rfl Tryz.ntmps113 (Nat.le_of_ble_eq_true rfl) (retM_some hm) ?_
 clear hm
 intro o ho
 have hB:Chg [] w w:=cr _ _
 refine wq ?_
 refine W_region rfl ?_
 refine WL.box fun b1 wd2 hC3 hr4 hl5=>?_
 replace hr4:Row wd2 b1 [.int .i64 (x0.Objects),z6,z7,z9,z8] 27:=hr4
 have hT7:=(cr [] w).trans hC3
 replace hB:=(hB.trans hT7)
 refine wv (v:=.bool (false)) rfl (oa _) ?_
 refine anz ?_
 refine wq ?_
 refine wq ?_
 refine Wq rfl (cr [] wd2) ?_
 refine qv (v:=.agg #[.int .i64 (x0.Objects),z6,z7,z9,z8]) rfl (fun _ hC=>op_loadAgg u27z rfl info27 (by rw [sz27]; rfl) rfl (kr hr4 hC).at) ?_
 obtain ⟨y8,hy9,ho⟩:=bs ho
 refine QL.call (v:=.bool (y8)) rfl (fun _ _=>op_callF Tryz.func157 rfl rfl) (fun _ hC=>(spec_IsShape_calls (kp _ za (hB.trans hC)) (kp _ zb (hB.trans hC)) (kp _ zd (hB.trans hC)) (kp _ zc (hB.trans hC)) hy9).mono fun _ _ h=>⟨h.1,hC.trans h.2⟩) ?_
 refine qv (v:=.bool (!(y8))) rfl (fun _ _=>op_not rfl) ?_
 intro wd10 hC11
 refine anz ?_
 refine W_cond (b:=!(y8)) rfl ?_ ?_
 intro hb12
 rw [hb12] at ho
 refine wq ?_
 refine Wq rfl hC11 ?_
 refine qv (v:=.bool (false)) rfl (fun _ _=>oa _) ?_
 intro wd13 hC14
 refine anz ?_
 cases ho
 exact W_ret ⟨_,res_1 Tryz.results113,rfl,(hB.trans hC14)⟩
 intro hb12
 rw [hb12] at ho
 refine W_skip ?_
 refine anz ?_
 refine wq ?_
 refine Wq rfl hC11 ?_
 refine qv (v:=.agg #[.int .i64 (x0.Objects),z6,z7,z9,z8]) rfl (fun _ hC=>op_loadAgg u27z rfl info27 (by rw [sz27]; rfl) rfl (kr hr4 hC).at) ?_
 obtain ⟨y15,hy16,ho⟩:=bs ho
 refine QL.call (v:=.tuple #[.int .i64 (y15.1),.int .i64 (y15.2.1),.int .i64 (y15.2.2.1),.int .i64 (y15.2.2.2)]) rfl (fun _ _=>op_callF Tryz.func158 rfl rfl) (fun _ hC=>(spec_l02Fault_calls (kp _ za (hB.trans hC)) (kp _ zb (hB.trans hC)) (kp _ zd (hB.trans hC)) (kp _ zc (hB.trans hC)) hy16).mono fun _ _ h=>⟨h.1,hC.trans h.2⟩) ?_
 refine qv (v:=.tuple #[.int .i64 (y15.1),.int .i64 (y15.2.1),.int .i64 (y15.2.2.1),.int .i64 (y15.2.2.2)]) rfl (fun _ _=>om _) ?_
 refine qv (v:=.int .i64 (y15.1)) rfl (fun _ _=>op_extract rfl rfl) ?_
 refine qv (v:=.int .i64 (y15.2.1)) rfl (fun _ _=>op_extract rfl rfl) ?_
 refine qv (v:=.int .i64 (y15.2.2.1)) rfl (fun _ _=>op_extract rfl rfl) ?_
 refine qv (v:=.int .i64 (y15.2.2.2)) rfl (fun _ _=>op_extract rfl rfl) ?_
 refine qv (v:=.int .i64 (y15.1)) rfl (fun _ _=>oa _) ?_
 refine qv (v:=.int .i64 (y15.2.1)) rfl (fun _ _=>oa _) ?_
 refine qv (v:=.int .i64 (y15.2.2.1)) rfl (fun _ _=>oa _) ?_
 refine qv (v:=.int .i64 (y15.2.2.2)) rfl (fun _ _=>oa _) ?_
 intro wd17 hC18
 refine anz ?_
 refine wq ?_
 refine Wq rfl hC18 ?_
 refine qv (v:=.int .i64 (y15.1)) rfl (fun _ _=>om _) ?_
 refine qv (v:=.bool ((y15.1) == ((0:Int)))) rfl (fun _ _=>op_bin rfl rfl bin_eql) ?_
 refine qv (v:=.bool ((y15.1) == ((0:Int)))) rfl (fun _ _=>oa _) ?_
 intro wd19 hC20
 refine anz ?_
 cases ho
 exact W_ret ⟨_,res_1 Tryz.results113,rfl,(hB.trans hC20)⟩
end Go.Proofs.YtfbijbginbjecaaGreat
