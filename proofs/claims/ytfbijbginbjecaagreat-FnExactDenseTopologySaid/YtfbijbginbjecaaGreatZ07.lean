/- Walks, printed by a program: what each function computes (a model on plain data), and that a call computes it. No condition beside those that each theorem names. -/
import Derived.Test.YtfbijbginbjecaaGreatTy
namespace Go.Proofs.YtfbijbginbjecaaGreat
open Go Go.Li
set_option linter.unusedVariables false
set_option maxHeartbeats 4000000
set_option maxRecDepth 100000
noncomputable def laws_markInt64S_L0 (s0_1:Int) (s0_5:Int) (s0_o_x0:(List Int)):Option (Out (Int×Int×(List Int)) (Int×(List Int))):=
 (bif decide (s0_5 < (s0_o_x0.length:Int)) then ((idx s0_o_x0 (s0_5))>>=fun e9=>(some (Out.norm (w64 (s0_1 + (1:Int)),w64 (s0_5 + (1:Int)),s0_o_x0.set (s0_5).toNat (s0_1))))) else (some (Out.exit 0 (s0_1,s0_5,s0_o_x0))))
noncomputable def laws_markInt64S (x0:(List Int)) (x1:Int):Option (Int×(List Int)):=
 retM (S:=Unit) (lbind (blockM 0 (loopM (fun s=>laws_markInt64S_L0 s.1 s.2.1 s.2.2) (x1,(0:Int),x0))) (fun (s0_1,s0_5,s0_o_x0)=>(some (Out.ret ((s0_1,s0_o_x0))))))
abbrev laws_markInt64S_post (v_x0:Value) (f_x0:List Nat) (w:World) (x:(Int×(List Int))) (e:Ending) (w':World):Prop:=∃ (f0:List Nat),e = .returned (.int .i64 x.1)∧Chg f_x0 w w'∧OE f_x0 w.heap.size w' (sOwn 2 (sInt .i64)) [v_x0] x.2 f0
abbrev laws_markInt64S_T (v_x0:Value) (f_x0:List Nat) (w:World) (x:(Int×(List Int))) (r:Nat→Value) (w':World):Prop:=∃ v,(∀ a:Act,a.tmps.size=19→rho a=r→(results Tryz.f36 a.tmps).run Tryz.prog w' = .ok v w')∧laws_markInt64S_post v_x0 f_x0 w x (.returned v) w'
theorem laws_markInt64S_calls {w:World} {x0:(List Int)} {v_x0:Value} {f_x0:List Nat} {x1:Int} (o_x0:OE f_x0 w.heap.size w (sOwn 2 (sInt .i64)) [v_x0] x0 f_x0) {y:(Int×(List Int))} (hm:laws_markInt64S x0 x1=some y) :
  Calls Tryz.prog 36 #[v_x0,.int .i64 (x1)] w (laws_markInt64S_post v_x0 f_x0 w y):=by
 refine calls_of_M (S:=Unit) (args:=[v_x0,.int .i64 (x1)]) Tryz.func36 rfl Tryz.ntmps36 (Nat.le_of_ble_eq_true rfl) (retM_some hm) ?_
 clear hm
 intro o ho
 have hB:Chg f_x0 w w:=cr _ _
 replace o_x0:OE f_x0 w.heap.size w (sOwn 2 (sInt .i64)) [v_x0] x0 f_x0:=OE.give o_x0 fun b hb=>by simp [hb]
 refine wq ?_
 refine Wq rfl (cr [] w) ?_
 refine qv (v:=.int .i64 ((0:Int))) rfl (fun _ _=>oa _) ?_
 intro wd1 hC2
 refine anz ?_
 refine wq ?_
 refine wq ?_
 refine Wq rfl hC2 ?_
 refine qv (v:=.int .i64 ((0:Int))) rfl (fun _ _=>oa _) ?_
 intro wd3 hC4
 refine anz ?_
 refine W_for (S1:=Int×Int×(List Int)) (fun s r w'=>match s with | (s0_1,s0_5,s0_o_x0)=>Chg f_x0 w w'∧OE f_x0 w.heap.size w' (sOwn 2 (sInt .i64)) [v_x0] (s0_o_x0) f_x0∧∃ F,r=updL F [(0,v_x0),(1,.int .i64 (s0_1)),(5,.int .i64 (s0_5))]) (T:=laws_markInt64S_T v_x0 f_x0 w) ho ⟨(hB.trans (Chg.nil hC4)),(ko o_x0 hC4),fr ⟨rfl,rfl,rfl,trivial⟩⟩ ?_ ?_ ?_
 intro x r w' ho hx; subst ho; exact hx
 rintro ⟨s0_1,s0_5,s0_o_x0⟩ _ wd5 ⟨hB,o_x0,F,rfl⟩ o ho
 replace ho:laws_markInt64S_L0 s0_1 s0_5 s0_o_x0=some o:=ho
 unfold laws_markInt64S_L0 at ho
 refine wq ?_
 refine wq ?_
 refine Wq rfl (cr [] wd5) ?_
 refine qv (v:=.int .i64 (s0_5)) rfl (fun _ _=>om _) ?_
 refine qv (v:=v_x0) rfl (fun _ _=>om _) ?_
 refine qv (v:=.int .i64 ((s0_o_x0.length:Int))) rfl (fun _ hC=>op_lenI u22z ((Le.own (Le.refl _) 2).le (kp _ o_x0.1 hC))) ?_
 refine qv (v:=.bool (decide (s0_5 < (s0_o_x0.length:Int)))) rfl (fun _ _=>op_bin rfl rfl bin_lss) ?_
 intro wd6 hC7
 refine anz ?_
 refine W_cond (b:=decide (s0_5 < (s0_o_x0.length:Int))) rfl ?_ ?_
 intro hb8
 rw [hb8] at ho
 refine W_skip ?_
 refine anz ?_
 refine wq ?_
 refine W_block ?_
 refine wq ?_
 refine W_region rfl ?_
 refine wv (v:=v_x0) rfl (om _) ?_
 refine wv (v:=.int .i64 (s0_5)) rfl (om _) ?_
 refine wv (v:=.int .i64 (s0_1)) rfl (om _) ?_
 obtain ⟨e9,hx10e,ho⟩:=bs ho
 have hx10:=idx_some hx10e
 refine wv (v:=.pointer (some (elA (v_x0) 1 (s0_5)))) rfl (op_indexI u22z info2 sz2 rfl ((Le.own (Le.refl _) 2).le (kp _ o_x0.1 hC7)) rfl hx10.1 hx10.2) ?_
 refine WL.storeEl (z':=s0_1) _ _ sInt_nofp rfl info2 sz2 (ko o_x0 hC7) hx10.2 rfl rfl ⟨rfl,rfl⟩ fun qx q4 jh=>?_
 have ji:=(hC7.nil (G:=f_x0)).trans q4
 replace hB:=hB.then ji o_x0.2.2
 refine anz ?_
 refine Wq rfl (cr [] qx) ?_
 refine qv (v:=.int .i64 (s0_1)) rfl (fun _ _=>om _) ?_
 refine qv (v:=.int .i64 (w64 (s0_1 + (1:Int)))) rfl (fun _ _=>op_bin rfl rfl bin_add) ?_
 refine qv (v:=.int .i64 (w64 (s0_1 + (1:Int)))) rfl (fun _ _=>oa _) ?_
 intro p2 p8
 refine inBlk_n ?_
 refine anz ?_
 refine Wq rfl p8 ?_
 refine qv (v:=.int .i64 (s0_5)) rfl (fun _ _=>om _) ?_
 refine qv (v:=.int .i64 (w64 (s0_5 + (1:Int)))) rfl (fun _ _=>op_bin rfl rfl bin_add) ?_
 refine qv (v:=.int .i64 (w64 (s0_5 + (1:Int)))) rfl (fun _ _=>oa _) ?_
 intro kl qy
 cases ho
 exact ⟨(hB.trans (Chg.nil qy)),(ko jh qy),fr ⟨rfl,rfl,rfl,trivial⟩⟩
 intro hb8
 rw [hb8] at ho
 refine W_exit ?_
 refine andThen_x ?_
 cases ho
 exact ⟨rfl,⟨(hB.trans (Chg.nil hC7)),(ko o_x0 hC7),fr ⟨rfl,rfl,rfl,trivial⟩⟩⟩
 rintro ⟨s0_1,s0_5,s0_o_x0⟩ _ qa ⟨hB,o_x0,F,rfl⟩ ho
 dsimp only at ho
 refine anz ?_
 refine wq ?_
 refine Wq rfl (cr [] qa) ?_
 refine qv (v:=.int .i64 (s0_1)) rfl (fun _ _=>om _) ?_
 refine qv (v:=.int .i64 (s0_1)) rfl (fun _ _=>oa _) ?_
 intro q5 p6
 refine anz ?_
 cases ho
 exact W_ret ⟨_,res_1 Tryz.results36,_,rfl,(hB.trans (Chg.nil p6)),(ko o_x0 p6)⟩

noncomputable def laws_markInt64SS_L0 (s0_1:Int) (s0_5:Int) (s0_o_x0:(List (List Int))):Option (Out (Int×Int×(List (List Int))) (Int×(List (List Int)))):=
 (bif decide (s0_5 < (s0_o_x0.length:Int)) then ((idx s0_o_x0 (s0_5))>>=fun e10=>((laws_markInt64S e10 (s0_1))>>=fun y22=>(some (Out.norm (y22.1,w64 (s0_5 + (1:Int)),s0_o_x0.set (s0_5).toNat y22.2))))) else (some (Out.exit 0 (s0_1,s0_5,s0_o_x0))))
noncomputable def laws_markInt64SS (x0:(List (List Int))) (x1:Int):Option (Int×(List (List Int))):=
 retM (S:=Unit) (lbind (blockM 0 (loopM (fun s=>laws_markInt64SS_L0 s.1 s.2.1 s.2.2) (x1,(0:Int),x0))) (fun (s0_1,s0_5,s0_o_x0)=>(some (Out.ret ((s0_1,s0_o_x0))))))
abbrev laws_markInt64SS_post (v_x0:Value) (f_x0:List Nat) (w:World) (x:(Int×(List (List Int)))) (e:Ending) (w':World):Prop:=∃ (f0:List Nat),e = .returned (.int .i64 x.1)∧Chg f_x0 w w'∧OE f_x0 w.heap.size w' (sOwn 22 (sOwn 2 (sInt .i64))) [v_x0] x.2 f0
abbrev laws_markInt64SS_T (v_x0:Value) (f_x0:List Nat) (w:World) (x:(Int×(List (List Int)))) (r:Nat→Value) (w':World):Prop:=∃ v,(∀ a:Act,a.tmps.size=19→rho a=r→(results Tryz.f41 a.tmps).run Tryz.prog w' = .ok v w')∧laws_markInt64SS_post v_x0 f_x0 w x (.returned v) w'
theorem laws_markInt64SS_calls {w:World} {x0:(List (List Int))} {v_x0:Value} {f_x0:List Nat} {x1:Int} (o_x0:OE f_x0 w.heap.size w (sOwn 22 (sOwn 2 (sInt .i64))) [v_x0] x0 f_x0) {y:(Int×(List (List Int)))} (hm:laws_markInt64SS x0 x1=some y) :
  Calls Tryz.prog 41 #[v_x0,.int .i64 (x1)] w (laws_markInt64SS_post v_x0 f_x0 w y):=by
 refine calls_of_M (S:=Unit) (args:=[v_x0,.int .i64 (x1)]) Tryz.func41 rfl Tryz.ntmps41 (Nat.le_of_ble_eq_true rfl) (retM_some hm) ?_
 clear hm
 intro o ho
 have hB:Chg f_x0 w w:=cr _ _
 replace o_x0:OE f_x0 w.heap.size w (sOwn 22 (sOwn 2 (sInt .i64))) [v_x0] x0 f_x0:=OE.give o_x0 fun b hb=>by simp [hb]
 refine wq ?_
 refine Wq rfl (cr [] w) ?_
 refine qv (v:=.int .i64 ((0:Int))) rfl (fun _ _=>oa _) ?_
 intro wd1 hC2
 refine anz ?_
 refine wq ?_
 refine wq ?_
 refine Wq rfl hC2 ?_
 refine qv (v:=.int .i64 ((0:Int))) rfl (fun _ _=>oa _) ?_
 intro wd3 hC4
 refine anz ?_
 refine W_for (S1:=Int×Int×(List (List Int))) (fun s r w'=>match s with | (s0_1,s0_5,s0_o_x0)=>∃ (f5:List Nat),Chg f_x0 w w'∧OE f_x0 w.heap.size w' (sOwn 22 (sOwn 2 (sInt .i64))) [v_x0] (s0_o_x0) f5∧∃ F,r=updL F [(0,v_x0),(1,.int .i64 (s0_1)),(5,.int .i64 (s0_5))]) (T:=laws_markInt64SS_T v_x0 f_x0 w) ho ⟨_,(hB.trans (Chg.nil hC4)),(ko o_x0 hC4),fr ⟨rfl,rfl,rfl,trivial⟩⟩ ?_ ?_ ?_
 intro x r w' ho hx; subst ho; exact hx
 rintro ⟨s0_1,s0_5,s0_o_x0⟩ _ wd6 ⟨f5,hB,o_x0,F,rfl⟩ o ho
 replace ho:laws_markInt64SS_L0 s0_1 s0_5 s0_o_x0=some o:=ho
 unfold laws_markInt64SS_L0 at ho
 refine wq ?_
 refine wq ?_
 refine Wq rfl (cr [] wd6) ?_
 refine qv (v:=.int .i64 (s0_5)) rfl (fun _ _=>om _) ?_
 refine qv (v:=v_x0) rfl (fun _ _=>om _) ?_
 refine qv (v:=.int .i64 ((s0_o_x0.length:Int))) rfl (fun _ hC=>op_lenI u23z ((Le.own (Le.own (Le.refl _) 2) 22).le (kp _ o_x0.1 hC))) ?_
 refine qv (v:=.bool (decide (s0_5 < (s0_o_x0.length:Int)))) rfl (fun _ _=>op_bin rfl rfl bin_lss) ?_
 intro wd7 hC8
 refine anz ?_
 refine W_cond (b:=decide (s0_5 < (s0_o_x0.length:Int))) rfl ?_ ?_
 intro hb9
 rw [hb9] at ho
 refine W_skip ?_
 refine anz ?_
 refine wq ?_
 refine W_block ?_
 refine W_region rfl ?_
 refine wv (v:=v_x0) rfl (om _) ?_
 refine wv (v:=.int .i64 (s0_5)) rfl (om _) ?_
 obtain ⟨e10,hx11e,ho⟩:=bs ho
 have hx11:=idx_some hx11e
 refine wv (v:=.pointer (some (elA (v_x0) 1 (s0_5)))) rfl (op_indexI u23z info22 sz22 rfl ((Le.own (Le.own (Le.refl _) 2) 22).le (kp _ o_x0.1 hC8)) rfl hx11.1 hx11.2) ?_
 obtain ⟨u12,fu13,hu14,pp,hs16⟩:=one_get rfl ((Le.own (Le.own (Le.refl _) 2) 22).le o_x0.1) hx11.1 hx11.2
 refine wv (v:=u12) rfl (oldz u22z rfl rfl (hC8.cell0 hu14)) ?_
 refine wv (v:=.int .i64 (s0_1)) rfl (om _) ?_
 have p3:=hC8.trans (cr [] wd7)
 replace hu14:=p3.cell0 hu14
 replace pp:=kp _ pp p3
 replace o_x0:=ko o_x0 p3
 replace hB:=(hB.trans (Chg.nil p3))
 obtain ⟨k18,qb,hk20,hf21⟩:=own_focus rfl hB.size o_x0 hx11.2 hu14
 obtain ⟨y22,qc,ho⟩:=bs ho
 refine WL.call rfl (op_callF Tryz.func36 rfl rfl) (laws_markInt64S_calls (OE.give (B':=wd7.heap.size) qb fun _ h=>h) qc) ?_
 rintro _ pq ⟨jj,rfl,p4,qd⟩
 refine ⟨_,rfl,?_⟩
 obtain ⟨jk,qe,hs30⟩:=hf21 _ _ _ p4 qd
 have qf:=((cr [] wd7).nil (G:=k18)).trans p4
 replace hB:=hB.then qf (fun b hb=>o_x0.2.2 b (hk20 b hb))
 refine wv (v:=.int .i64 (y22.1)) rfl (oa _) ?_
 refine inBlk_n ?_
 refine anz ?_
 refine Wq rfl (cr [] pq) ?_
 refine qv (v:=.int .i64 (s0_5)) rfl (fun _ _=>om _) ?_
 refine qv (v:=.int .i64 (w64 (s0_5 + (1:Int)))) rfl (fun _ _=>op_bin rfl rfl bin_add) ?_
 refine qv (v:=.int .i64 (w64 (s0_5 + (1:Int)))) rfl (fun _ _=>oa _) ?_
 intro jl pr
 cases ho
 exact ⟨_,(hB.trans (Chg.nil pr)),(ko qe pr),fr ⟨rfl,rfl,rfl,trivial⟩⟩
 intro hb9
 rw [hb9] at ho
 refine W_exit ?_
 refine andThen_x ?_
 cases ho
 exact ⟨rfl,⟨_,(hB.trans (Chg.nil hC8)),(ko o_x0 hC8),fr ⟨rfl,rfl,rfl,trivial⟩⟩⟩
 rintro ⟨s0_1,s0_5,s0_o_x0⟩ _ qg ⟨f5,hB,o_x0,F,rfl⟩ ho
 dsimp only at ho
 refine anz ?_
 refine wq ?_
 refine Wq rfl (cr [] qg) ?_
 refine qv (v:=.int .i64 (s0_1)) rfl (fun _ _=>om _) ?_
 refine qv (v:=.int .i64 (s0_1)) rfl (fun _ _=>oa _) ?_
 intro jm ps
 refine anz ?_
 cases ho
 exact W_ret ⟨_,res_1 Tryz.results41,_,rfl,(hB.trans (Chg.nil ps)),(ko o_x0 ps)⟩

noncomputable def laws_markCategory (x0:MCategory) (x1:Int):Option (Int×(List Int)×(List Int)×(List Int)×(List (List Int))):=
 retM (S:=Unit) ((laws_markInt64S x0.From (x1))>>=fun y12=>((laws_markInt64S x0.To (y12.1))>>=fun y23=>((laws_markInt64S x0.Identity (y23.1))>>=fun y34=>((laws_markInt64SS x0.Composites (y34.1))>>=fun y45=>(some (Out.ret ((y45.1,y12.2,y23.2,y34.2,y45.2))))))))
abbrev laws_markCategory_post (z6:Value) (zh:List Nat) (z7:Value) (zg:List Nat) (z9:Value) (zf:List Nat) (z8:Value) (ze:List Nat) (w:World) (x:(Int×(List Int)×(List Int)×(List Int)×(List (List Int)))) (e:Ending) (w':World):Prop:=∃ (f0:List Nat) (f1:List Nat) (f2:List Nat) (f3:List Nat),e = .returned (.int .i64 x.1)∧Chg (zh++(zg++(zf++ze))) w w'∧OE (zh++(zg++(zf++ze))) w.heap.size w' (sOwn 2 (sInt .i64)) [z6] x.2.1 f0∧OE (zh++(zg++(zf++ze))) w.heap.size w' (sOwn 2 (sInt .i64)) [z7] x.2.2.1 f1∧OE (zh++(zg++(zf++ze))) w.heap.size w' (sOwn 2 (sInt .i64)) [z9] x.2.2.2.1 f2∧OE (zh++(zg++(zf++ze))) w.heap.size w' (sOwn 22 (sOwn 2 (sInt .i64))) [z8] x.2.2.2.2 f3∧Dis f0 f1∧Dis f0 f2∧Dis f0 f3∧Dis f1 f2∧Dis f1 f3∧Dis f2 f3
abbrev laws_markCategory_T (z6:Value) (zh:List Nat) (z7:Value) (zg:List Nat) (z9:Value) (zf:List Nat) (z8:Value) (ze:List Nat) (w:World) (x:(Int×(List Int)×(List Int)×(List Int)×(List (List Int)))) (r:Nat→Value) (w':World):Prop:=∃ v,(∀ a:Act,a.tmps.size=22→rho a=r→(results Tryz.f21 a.tmps).run Tryz.prog w' = .ok v w')∧laws_markCategory_post z6 zh z7 zg z9 zf z8 ze w x (.returned v) w'
theorem laws_markCategory_calls {w:World} {x0:MCategory} {z6:Value} {zh:List Nat} {z7:Value} {zg:List Nat} {z9:Value} {zf:List Nat} {z8:Value} {ze:List Nat} {x1:Int} (o_x0_From:OE zh w.heap.size w (sOwn 2 (sInt .i64)) [z6] x0.From zh) (o_x0_To:OE zg w.heap.size w (sOwn 2 (sInt .i64)) [z7] x0.To zg) (o_x0_Identity:OE zf w.heap.size w (sOwn 2 (sInt .i64)) [z9] x0.Identity zf) (o_x0_Composites:OE ze w.heap.size w (sOwn 22 (sOwn 2 (sInt .i64))) [z8] x0.Composites ze) (d_0_1:Dis zh zg) (d_0_2:Dis zh zf) (d_0_3:Dis zh ze) (d_1_2:Dis zg zf) (d_1_3:Dis zg ze) (d_2_3:Dis zf ze) {y:(Int×(List Int)×(List Int)×(List Int)×(List (List Int)))} (hm:laws_markCategory x0 x1=some y) :
  Calls Tryz.prog 21 #[.agg #[.int .i64 (x0.Objects),z6,z7,z9,z8],.int .i64 (x1)] w (laws_markCategory_post z6 zh z7 zg z9 zf z8 ze w y):=by
 refine calls_of_M (S:=Unit) (args:=[.agg #[.int .i64 (x0.Objects),z6,z7,z9,z8],.int .i64 (x1)]) Tryz.func21 rfl Tryz.ntmps21 (Nat.le_of_ble_eq_true rfl) (retM_some hm) ?_
 clear hm
 intro o ho
 have hB:Chg (zh++(zg++(zf++ze))) w w:=cr _ _
 replace o_x0_From:OE (zh++(zg++(zf++ze))) w.heap.size w (sOwn 2 (sInt .i64)) [z6] x0.From zh:=OE.give o_x0_From fun b hb=>by simp [hb]
 replace o_x0_To:OE (zh++(zg++(zf++ze))) w.heap.size w (sOwn 2 (sInt .i64)) [z7] x0.To zg:=OE.give o_x0_To fun b hb=>by simp [hb]
 replace o_x0_Identity:OE (zh++(zg++(zf++ze))) w.heap.size w (sOwn 2 (sInt .i64)) [z9] x0.Identity zf:=OE.give o_x0_Identity fun b hb=>by simp [hb]
 replace o_x0_Composites:OE (zh++(zg++(zf++ze))) w.heap.size w (sOwn 22 (sOwn 2 (sInt .i64))) [z8] x0.Composites ze:=OE.give o_x0_Composites fun b hb=>by simp [hb]
 refine wq ?_
 refine W_region rfl ?_
 refine WL.box fun b1 wd2 hC3 hr4 hl5=>?_
 replace hr4:Row wd2 b1 [.int .i64 (x0.Objects),z6,z7,z9,z8] 27:=hr4
 have d7:Dis [b1] zh:=dl (onw hl5) (sl _ (kp _ o_x0_From.1 (cr [] w)))
 have d8:Dis [b1] zg:=dl (onw hl5) (sl _ (kp _ o_x0_To.1 (cr [] w)))
 have d9:Dis [b1] zf:=dl (onw hl5) (sl _ (kp _ o_x0_Identity.1 (cr [] w)))
 have qh:Dis [b1] ze:=dl (onw hl5) (sl _ (kp _ o_x0_Composites.1 (cr [] w)))
 have pt:=(cr [] w).trans hC3
 replace o_x0_From:=ko o_x0_From pt
 replace o_x0_To:=ko o_x0_To pt
 replace o_x0_Identity:=ko o_x0_Identity pt
 replace o_x0_Composites:=ko o_x0_Composites pt
 replace hB:=(hB.trans (Chg.nil pt))
 refine wv (v:=.int .i64 ((0:Int))) rfl (oa _) ?_
 refine anz ?_
 refine wq ?_
 refine W_region rfl ?_
 refine wv (v:=.pointer (some (⟨b1,1,none⟩))) rfl (op_fieldAddrR u27z rfl info22 ne22 rfl rfl) ?_
 refine wv (v:=z6) rfl (oldz u22z rfl rfl ((kr hr4 (cr [] wd2)).at.cell (j:=1) rfl)) ?_
 refine wv (v:=.int .i64 (x1)) rfl (om _) ?_
 obtain ⟨y12,jn,ho⟩:=bs ho
 refine WL.call rfl (op_callF Tryz.func36 rfl rfl) (laws_markInt64S_calls (OE.give (B':=wd2.heap.size) o_x0_From fun _ h=>h) jn) ?_
 rintro _ p9 ⟨pj,rfl,qi,p0⟩
 refine ⟨_,rfl,?_⟩
 have qz:Dis pj zg:=dis_back p0 d_0_1 (sl _ (kp _ o_x0_To.1 (cr [] wd2)))
 have j0:Dis pj zf:=dis_back p0 d_0_2 (sl _ (kp _ o_x0_Identity.1 (cr [] wd2)))
 have j1:Dis pj ze:=dis_back p0 d_0_3 (sl _ (kp _ o_x0_Composites.1 (cr [] wd2)))
 replace p0:=OE.back p0 o_x0_From.2.2 hB.size
 have pu:=((cr [] wd2).nil (G:=zh)).trans qi
 replace o_x0_To:=okp o_x0_To pu (Dis.symm d_0_1)
 replace o_x0_Identity:=okp o_x0_Identity pu (Dis.symm d_0_2)
 replace o_x0_Composites:=okp o_x0_Composites pu (Dis.symm d_0_3)
 replace hr4:=Row.keep hr4 pu ((Dis.symm (d7).symm) _ (ms rfl))
 replace hB:=hB.then pu o_x0_From.2.2
 refine wv (v:=.int .i64 (y12.1)) rfl (oa _) ?_
 refine anz ?_
 refine wq ?_
 refine W_region rfl ?_
 refine wv (v:=.pointer (some (⟨b1,2,none⟩))) rfl (op_fieldAddrR u27z rfl info22 ne22 rfl rfl) ?_
 refine wv (v:=z7) rfl (oldz u22z rfl rfl ((kr hr4 (cr [] p9)).at.cell (j:=2) rfl)) ?_
 refine wv (v:=.int .i64 (y12.1)) rfl (om _) ?_
 obtain ⟨y23,jo,ho⟩:=bs ho
 refine WL.call rfl (op_callF Tryz.func36 rfl rfl) (laws_markInt64S_calls (OE.give (B':=p9.heap.size) o_x0_To fun _ h=>h) jo) ?_
 rintro _ p7 ⟨pv,rfl,pw,p1⟩
 refine ⟨_,rfl,?_⟩
 have q6:Dis pv zf:=dis_back p1 d_1_2 (sl _ (kp _ o_x0_Identity.1 (cr [] p9)))
 have q7:Dis pv ze:=dis_back p1 d_1_3 (sl _ (kp _ o_x0_Composites.1 (cr [] p9)))
 have jp:Dis pv pj:=dis_back p1 (qz).symm (sl _ (kp _ p0.1 (cr [] p9)))
 replace p1:=OE.back p1 o_x0_To.2.2 hB.size
 have px:=((cr [] p9).nil (G:=zg)).trans pw
 replace o_x0_Identity:=okp o_x0_Identity px (Dis.symm d_1_2)
 replace o_x0_Composites:=okp o_x0_Composites px (Dis.symm d_1_3)
 replace hr4:=Row.keep hr4 px ((Dis.symm (d8).symm) _ (ms rfl))
 replace p0:=okp p0 px (Dis.symm (qz).symm)
 replace hB:=hB.then px o_x0_To.2.2
 refine wv (v:=.int .i64 (y23.1)) rfl (oa _) ?_
 refine anz ?_
 refine wq ?_
 refine W_region rfl ?_
 refine wv (v:=.pointer (some (⟨b1,3,none⟩))) rfl (op_fieldAddrR u27z rfl info22 ne22 rfl rfl) ?_
 refine wv (v:=z9) rfl (oldz u22z rfl rfl ((kr hr4 (cr [] p7)).at.cell (j:=3) rfl)) ?_
 refine wv (v:=.int .i64 (y23.1)) rfl (om _) ?_
 obtain ⟨y34,jq,ho⟩:=bs ho
 refine WL.call rfl (op_callF Tryz.func36 rfl rfl) (laws_markInt64S_calls (OE.give (B':=p7.heap.size) o_x0_Identity fun _ h=>h) jq) ?_
 rintro _ pk ⟨q8,rfl,jr,p5⟩
 refine ⟨_,rfl,?_⟩
 have j2:Dis q8 ze:=dis_back p5 d_2_3 (sl _ (kp _ o_x0_Composites.1 (cr [] p7)))
 have js:Dis q8 pj:=dis_back p5 (j0).symm (sl _ (kp _ p0.1 (cr [] p7)))
 have jt:Dis q8 pv:=dis_back p5 (q6).symm (sl _ (kp _ p1.1 (cr [] p7)))
 replace p5:=OE.back p5 o_x0_Identity.2.2 hB.size
 have py:=((cr [] p7).nil (G:=zf)).trans jr
 replace o_x0_Composites:=okp o_x0_Composites py (Dis.symm d_2_3)
 replace hr4:=Row.keep hr4 py ((Dis.symm (d9).symm) _ (ms rfl))
 replace p0:=okp p0 py (Dis.symm (j0).symm)
 replace p1:=okp p1 py (Dis.symm (q6).symm)
 replace hB:=hB.then py o_x0_Identity.2.2
 refine wv (v:=.int .i64 (y34.1)) rfl (oa _) ?_
 refine anz ?_
 refine wq ?_
 refine W_region rfl ?_
 refine wv (v:=.pointer (some (⟨b1,4,none⟩))) rfl (op_fieldAddrR u27z rfl info23 ne23 rfl rfl) ?_
 refine wv (v:=z8) rfl (oldz u23z rfl rfl ((kr hr4 (cr [] pk)).at.cell (j:=4) rfl)) ?_
 refine wv (v:=.int .i64 (y34.1)) rfl (om _) ?_
 obtain ⟨y45,ju,ho⟩:=bs ho
 refine WL.call rfl (op_callF Tryz.func41 rfl rfl) (laws_markInt64SS_calls (OE.give (B':=pk.heap.size) o_x0_Composites fun _ h=>h) ju) ?_
 rintro _ jv ⟨qj,rfl,jw,pl⟩
 refine ⟨_,rfl,?_⟩
 have jx:Dis qj pj:=dis_back pl (j1).symm (sl _ (kp _ p0.1 (cr [] pk)))
 have jy:Dis qj pv:=dis_back pl (q7).symm (sl _ (kp _ p1.1 (cr [] pk)))
 have jz:Dis qj q8:=dis_back pl (j2).symm (sl _ (kp _ p5.1 (cr [] pk)))
 replace pl:=OE.back pl o_x0_Composites.2.2 hB.size
 have pz:=((cr [] pk).nil (G:=ze)).trans jw
 replace hr4:=Row.keep hr4 pz ((Dis.symm (qh).symm) _ (ms rfl))
 replace p0:=okp p0 pz (Dis.symm (j1).symm)
 replace p1:=okp p1 pz (Dis.symm (q7).symm)
 replace p5:=okp p5 pz (Dis.symm (j2).symm)
 replace hB:=hB.then pz o_x0_Composites.2.2
 refine wv (v:=.int .i64 (y45.1)) rfl (oa _) ?_
 refine anz ?_
 refine wq ?_
 refine Wq rfl (cr [] jv) ?_
 refine qv (v:=.int .i64 (y45.1)) rfl (fun _ _=>om _) ?_
 refine qv (v:=.int .i64 (y45.1)) rfl (fun _ _=>oa _) ?_
 intro km q0
 refine anz ?_
 cases ho
 exact W_ret ⟨_,res_1 Tryz.results21,_,_,_,_,rfl,(hB.trans (Chg.nil q0)),(ko p0 q0),(ko p1 q0),(ko p5 q0),(ko pl q0),((jp).symm),((js).symm),((jx).symm),((jt).symm),((jy).symm),((jz).symm)⟩

noncomputable def laws_markInt64SSS_L0 (s0_1:Int) (s0_5:Int) (s0_o_x0:(List (List (List Int)))):Option (Out (Int×Int×(List (List (List Int)))) (Int×(List (List (List Int))))):=
 (bif decide (s0_5 < (s0_o_x0.length:Int)) then ((idx s0_o_x0 (s0_5))>>=fun e10=>((laws_markInt64SS e10 (s0_1))>>=fun y22=>(some (Out.norm (y22.1,w64 (s0_5 + (1:Int)),s0_o_x0.set (s0_5).toNat y22.2))))) else (some (Out.exit 0 (s0_1,s0_5,s0_o_x0))))
noncomputable def laws_markInt64SSS (x0:(List (List (List Int)))) (x1:Int):Option (Int×(List (List (List Int)))):=
 retM (S:=Unit) (lbind (blockM 0 (loopM (fun s=>laws_markInt64SSS_L0 s.1 s.2.1 s.2.2) (x1,(0:Int),x0))) (fun (s0_1,s0_5,s0_o_x0)=>(some (Out.ret ((s0_1,s0_o_x0))))))
abbrev laws_markInt64SSS_post (v_x0:Value) (f_x0:List Nat) (w:World) (x:(Int×(List (List (List Int))))) (e:Ending) (w':World):Prop:=∃ (f0:List Nat),e = .returned (.int .i64 x.1)∧Chg f_x0 w w'∧OE f_x0 w.heap.size w' (sOwn 23 (sOwn 22 (sOwn 2 (sInt .i64)))) [v_x0] x.2 f0
abbrev laws_markInt64SSS_T (v_x0:Value) (f_x0:List Nat) (w:World) (x:(Int×(List (List (List Int))))) (r:Nat→Value) (w':World):Prop:=∃ v,(∀ a:Act,a.tmps.size=19→rho a=r→(results Tryz.f69 a.tmps).run Tryz.prog w' = .ok v w')∧laws_markInt64SSS_post v_x0 f_x0 w x (.returned v) w'
theorem laws_markInt64SSS_calls {w:World} {x0:(List (List (List Int)))} {v_x0:Value} {f_x0:List Nat} {x1:Int} (o_x0:OE f_x0 w.heap.size w (sOwn 23 (sOwn 22 (sOwn 2 (sInt .i64)))) [v_x0] x0 f_x0) {y:(Int×(List (List (List Int))))} (hm:laws_markInt64SSS x0 x1=some y) :
  Calls Tryz.prog 69 #[v_x0,.int .i64 (x1)] w (laws_markInt64SSS_post v_x0 f_x0 w y):=by
 refine calls_of_M (S:=Unit) (args:=[v_x0,.int .i64 (x1)]) Tryz.func69 rfl Tryz.ntmps69 (Nat.le_of_ble_eq_true rfl) (retM_some hm) ?_
 clear hm
 intro o ho
 have hB:Chg f_x0 w w:=cr _ _
 replace o_x0:OE f_x0 w.heap.size w (sOwn 23 (sOwn 22 (sOwn 2 (sInt .i64)))) [v_x0] x0 f_x0:=OE.give o_x0 fun b hb=>by simp [hb]
 refine wq ?_
 refine Wq rfl (cr [] w) ?_
 refine qv (v:=.int .i64 ((0:Int))) rfl (fun _ _=>oa _) ?_
 intro wd1 hC2
 refine anz ?_
 refine wq ?_
 refine wq ?_
 refine Wq rfl hC2 ?_
 refine qv (v:=.int .i64 ((0:Int))) rfl (fun _ _=>oa _) ?_
 intro wd3 hC4
 refine anz ?_
 refine W_for (S1:=Int×Int×(List (List (List Int)))) (fun s r w'=>match s with | (s0_1,s0_5,s0_o_x0)=>∃ (f5:List Nat),Chg f_x0 w w'∧OE f_x0 w.heap.size w' (sOwn 23 (sOwn 22 (sOwn 2 (sInt .i64)))) [v_x0] (s0_o_x0) f5∧∃ F,r=updL F [(0,v_x0),(1,.int .i64 (s0_1)),(5,.int .i64 (s0_5))]) (T:=laws_markInt64SSS_T v_x0 f_x0 w) ho ⟨_,(hB.trans (Chg.nil hC4)),(ko o_x0 hC4),fr ⟨rfl,rfl,rfl,trivial⟩⟩ ?_ ?_ ?_
 intro x r w' ho hx; subst ho; exact hx
 rintro ⟨s0_1,s0_5,s0_o_x0⟩ _ wd6 ⟨f5,hB,o_x0,F,rfl⟩ o ho
 replace ho:laws_markInt64SSS_L0 s0_1 s0_5 s0_o_x0=some o:=ho
 unfold laws_markInt64SSS_L0 at ho
 refine wq ?_
 refine wq ?_
 refine Wq rfl (cr [] wd6) ?_
 refine qv (v:=.int .i64 (s0_5)) rfl (fun _ _=>om _) ?_
 refine qv (v:=v_x0) rfl (fun _ _=>om _) ?_
 refine qv (v:=.int .i64 ((s0_o_x0.length:Int))) rfl (fun _ hC=>op_lenI u28 ((Le.own (Le.own (Le.own (Le.refl _) 2) 22) 23).le (kp _ o_x0.1 hC))) ?_
 refine qv (v:=.bool (decide (s0_5 < (s0_o_x0.length:Int)))) rfl (fun _ _=>op_bin rfl rfl bin_lss) ?_
 intro wd7 hC8
 refine anz ?_
 refine W_cond (b:=decide (s0_5 < (s0_o_x0.length:Int))) rfl ?_ ?_
 intro hb9
 rw [hb9] at ho
 refine W_skip ?_
 refine anz ?_
 refine wq ?_
 refine W_block ?_
 refine W_region rfl ?_
 refine wv (v:=v_x0) rfl (om _) ?_
 refine wv (v:=.int .i64 (s0_5)) rfl (om _) ?_
 obtain ⟨e10,hx11e,ho⟩:=bs ho
 have hx11:=idx_some hx11e
 refine wv (v:=.pointer (some (elA (v_x0) 1 (s0_5)))) rfl (op_indexI u28 info23 sz23 rfl ((Le.own (Le.own (Le.own (Le.refl _) 2) 22) 23).le (kp _ o_x0.1 hC8)) rfl hx11.1 hx11.2) ?_
 obtain ⟨u12,fu13,hu14,pp,hs16⟩:=one_get rfl ((Le.own (Le.own (Le.own (Le.refl _) 2) 22) 23).le o_x0.1) hx11.1 hx11.2
 refine wv (v:=u12) rfl (oldz u23z rfl rfl (hC8.cell0 hu14)) ?_
 refine wv (v:=.int .i64 (s0_1)) rfl (om _) ?_
 have p3:=hC8.trans (cr [] wd7)
 replace hu14:=p3.cell0 hu14
 replace pp:=kp _ pp p3
 replace o_x0:=ko o_x0 p3
 replace hB:=(hB.trans (Chg.nil p3))
 obtain ⟨k18,qb,hk20,hf21⟩:=own_focus rfl hB.size o_x0 hx11.2 hu14
 obtain ⟨y22,qc,ho⟩:=bs ho
 refine WL.call rfl (op_callF Tryz.func41 rfl rfl) (laws_markInt64SS_calls (OE.give (B':=wd7.heap.size) qb fun _ h=>h) qc) ?_
 rintro _ pq ⟨jj,rfl,p4,qd⟩
 refine ⟨_,rfl,?_⟩
 obtain ⟨jk,qe,hs30⟩:=hf21 _ _ _ p4 qd
 have qf:=((cr [] wd7).nil (G:=k18)).trans p4
 replace hB:=hB.then qf (fun b hb=>o_x0.2.2 b (hk20 b hb))
 refine wv (v:=.int .i64 (y22.1)) rfl (oa _) ?_
 refine inBlk_n ?_
 refine anz ?_
 refine Wq rfl (cr [] pq) ?_
 refine qv (v:=.int .i64 (s0_5)) rfl (fun _ _=>om _) ?_
 refine qv (v:=.int .i64 (w64 (s0_5 + (1:Int)))) rfl (fun _ _=>op_bin rfl rfl bin_add) ?_
 refine qv (v:=.int .i64 (w64 (s0_5 + (1:Int)))) rfl (fun _ _=>oa _) ?_
 intro jl pr
 cases ho
 exact ⟨_,(hB.trans (Chg.nil pr)),(ko qe pr),fr ⟨rfl,rfl,rfl,trivial⟩⟩
 intro hb9
 rw [hb9] at ho
 refine W_exit ?_
 refine andThen_x ?_
 cases ho
 exact ⟨rfl,⟨_,(hB.trans (Chg.nil hC8)),(ko o_x0 hC8),fr ⟨rfl,rfl,rfl,trivial⟩⟩⟩
 rintro ⟨s0_1,s0_5,s0_o_x0⟩ _ qg ⟨f5,hB,o_x0,F,rfl⟩ ho
 dsimp only at ho
 refine anz ?_
 refine wq ?_
 refine Wq rfl (cr [] qg) ?_
 refine qv (v:=.int .i64 (s0_1)) rfl (fun _ _=>om _) ?_
 refine qv (v:=.int .i64 (s0_1)) rfl (fun _ _=>oa _) ?_
 intro jm ps
 refine anz ?_
 cases ho
 exact W_ret ⟨_,res_1 Tryz.results69,_,rfl,(hB.trans (Chg.nil ps)),(ko o_x0 ps)⟩

noncomputable def laws_markTopology (x0:MTopology) (x1:Int):Option (Int×(List Int)×(List Int)×(List Int)×(List (List Int))×(List (List (List Int)))):=
 retM (S:=Unit) ((laws_markCategory x0.Shape (x1))>>=fun y13=>((laws_markInt64SSS x0.Covers (y13.1))>>=fun y40=>(some (Out.ret ((y40.1,y13.2.1,y13.2.2.1,y13.2.2.2.1,y13.2.2.2.2,y40.2))))))
abbrev laws_markTopology_post (zo:Value) (zk:List Nat) (zp:Value) (zl:List Nat) (zq:Value) (zm:List Nat) (zr:Value) (zn:List Nat) (zj:Value) (zi:List Nat) (w:World) (x:(Int×(List Int)×(List Int)×(List Int)×(List (List Int))×(List (List (List Int))))) (e:Ending) (w':World):Prop:=∃ (f0:List Nat) (f1:List Nat) (f2:List Nat) (f3:List Nat) (f4:List Nat),e = .returned (.int .i64 x.1)∧Chg (zk++(zl++(zm++(zn++zi)))) w w'∧OE (zk++(zl++(zm++(zn++zi)))) w.heap.size w' (sOwn 2 (sInt .i64)) [zo] x.2.1 f0∧OE (zk++(zl++(zm++(zn++zi)))) w.heap.size w' (sOwn 2 (sInt .i64)) [zp] x.2.2.1 f1∧OE (zk++(zl++(zm++(zn++zi)))) w.heap.size w' (sOwn 2 (sInt .i64)) [zq] x.2.2.2.1 f2∧OE (zk++(zl++(zm++(zn++zi)))) w.heap.size w' (sOwn 22 (sOwn 2 (sInt .i64))) [zr] x.2.2.2.2.1 f3∧OE (zk++(zl++(zm++(zn++zi)))) w.heap.size w' (sOwn 23 (sOwn 22 (sOwn 2 (sInt .i64)))) [zj] x.2.2.2.2.2 f4∧Dis f0 f1∧Dis f0 f2∧Dis f0 f3∧Dis f0 f4∧Dis f1 f2∧Dis f1 f3∧Dis f1 f4∧Dis f2 f3∧Dis f2 f4∧Dis f3 f4
abbrev laws_markTopology_T (zo:Value) (zk:List Nat) (zp:Value) (zl:List Nat) (zq:Value) (zm:List Nat) (zr:Value) (zn:List Nat) (zj:Value) (zi:List Nat) (w:World) (x:(Int×(List Int)×(List Int)×(List Int)×(List (List Int))×(List (List (List Int))))) (r:Nat→Value) (w':World):Prop:=∃ v,(∀ a:Act,a.tmps.size=14→rho a=r→(results Tryz.f22 a.tmps).run Tryz.prog w' = .ok v w')∧laws_markTopology_post zo zk zp zl zq zm zr zn zj zi w x (.returned v) w'
theorem laws_markTopology_calls {w:World} {x0:MTopology} {zo:Value} {zk:List Nat} {zp:Value} {zl:List Nat} {zq:Value} {zm:List Nat} {zr:Value} {zn:List Nat} {zj:Value} {zi:List Nat} {x1:Int} (o_x0_Shape_From:OE zk w.heap.size w (sOwn 2 (sInt .i64)) [zo] x0.Shape.From zk) (o_x0_Shape_To:OE zl w.heap.size w (sOwn 2 (sInt .i64)) [zp] x0.Shape.To zl) (o_x0_Shape_Identity:OE zm w.heap.size w (sOwn 2 (sInt .i64)) [zq] x0.Shape.Identity zm) (o_x0_Shape_Composites:OE zn w.heap.size w (sOwn 22 (sOwn 2 (sInt .i64))) [zr] x0.Shape.Composites zn) (o_x0_Covers:OE zi w.heap.size w (sOwn 23 (sOwn 22 (sOwn 2 (sInt .i64)))) [zj] x0.Covers zi) (d_0_1:Dis zk zl) (d_0_2:Dis zk zm) (d_0_3:Dis zk zn) (d_0_4:Dis zk zi) (d_1_2:Dis zl zm) (d_1_3:Dis zl zn) (d_1_4:Dis zl zi) (d_2_3:Dis zm zn) (d_2_4:Dis zm zi) (d_3_4:Dis zn zi) {y:(Int×(List Int)×(List Int)×(List Int)×(List (List Int))×(List (List (List Int))))} (hm:laws_markTopology x0 x1=some y) :
  Calls Tryz.prog 22 #[.agg #[.int .i64 (x0.Shape.Objects),zo,zp,zq,zr,zj],.int .i64 (x1)] w (laws_markTopology_post zo zk zp zl zq zm zr zn zj zi w y):=by
 refine calls_of_M (S:=Unit) (args:=[.agg #[.int .i64 (x0.Shape.Objects),zo,zp,zq,zr,zj],.int .i64 (x1)]) Tryz.func22 rfl Tryz.ntmps22 (Nat.le_of_ble_eq_true rfl) (retM_some hm) ?_
 clear hm
 intro o ho
 have hB:Chg (zk++(zl++(zm++(zn++zi)))) w w:=cr _ _
 replace o_x0_Shape_From:OE (zk++(zl++(zm++(zn++zi)))) w.heap.size w (sOwn 2 (sInt .i64)) [zo] x0.Shape.From zk:=OE.give o_x0_Shape_From fun b hb=>by simp [hb]
 replace o_x0_Shape_To:OE (zk++(zl++(zm++(zn++zi)))) w.heap.size w (sOwn 2 (sInt .i64)) [zp] x0.Shape.To zl:=OE.give o_x0_Shape_To fun b hb=>by simp [hb]
 replace o_x0_Shape_Identity:OE (zk++(zl++(zm++(zn++zi)))) w.heap.size w (sOwn 2 (sInt .i64)) [zq] x0.Shape.Identity zm:=OE.give o_x0_Shape_Identity fun b hb=>by simp [hb]
 replace o_x0_Shape_Composites:OE (zk++(zl++(zm++(zn++zi)))) w.heap.size w (sOwn 22 (sOwn 2 (sInt .i64))) [zr] x0.Shape.Composites zn:=OE.give o_x0_Shape_Composites fun b hb=>by simp [hb]
 replace o_x0_Covers:OE (zk++(zl++(zm++(zn++zi)))) w.heap.size w (sOwn 23 (sOwn 22 (sOwn 2 (sInt .i64)))) [zj] x0.Covers zi:=OE.give o_x0_Covers fun b hb=>by simp [hb]
 refine wq ?_
 refine W_region rfl ?_
 refine WL.box fun b1 wd2 hC3 hr4 hl5=>?_
 replace hr4:Row wd2 b1 [.int .i64 (x0.Shape.Objects),zo,zp,zq,zr,zj] 30:=hr4
 have d7:Dis [b1] zk:=dl (onw hl5) (sl _ (kp _ o_x0_Shape_From.1 (cr [] w)))
 have d8:Dis [b1] zl:=dl (onw hl5) (sl _ (kp _ o_x0_Shape_To.1 (cr [] w)))
 have d9:Dis [b1] zm:=dl (onw hl5) (sl _ (kp _ o_x0_Shape_Identity.1 (cr [] w)))
 have qh:Dis [b1] zn:=dl (onw hl5) (sl _ (kp _ o_x0_Shape_Composites.1 (cr [] w)))
 have k0:Dis [b1] zi:=dl (onw hl5) (sl _ (kp _ o_x0_Covers.1 (cr [] w)))
 have pm:=(cr [] w).trans hC3
 replace o_x0_Shape_From:=ko o_x0_Shape_From pm
 replace o_x0_Shape_To:=ko o_x0_Shape_To pm
 replace o_x0_Shape_Identity:=ko o_x0_Shape_Identity pm
 replace o_x0_Shape_Composites:=ko o_x0_Shape_Composites pm
 replace o_x0_Covers:=ko o_x0_Covers pm
 replace hB:=(hB.trans (Chg.nil pm))
 refine wv (v:=.int .i64 ((0:Int))) rfl (oa _) ?_
 refine anz ?_
 refine wq ?_
 refine W_region rfl ?_
 refine wv (v:=.pointer (some (⟨b1,0,none⟩))) rfl (op_fieldAddrR u30 rfl info27 ne27 rfl rfl) ?_
 refine wv (v:=.agg #[.int .i64 (x0.Shape.Objects),zo,zp,zq,zr]) rfl (op_loadAgg (cs:=[.int .i64 (x0.Shape.Objects),zo,zp,zq,zr]) u27z rfl info27 (by rw [sz27]; rfl) rfl (At.sub (kr hr4 (cr [] wd2)).at 0 5)) ?_
 refine wv (v:=.int .i64 (x1)) rfl (om _) ?_
 obtain ⟨y13,k1,ho⟩:=bs ho
 refine WL.call rfl (op_callF Tryz.func21 rfl rfl) (laws_markCategory_calls (OE.give (B':=wd2.heap.size) o_x0_Shape_From fun _ h=>h) (OE.give (B':=wd2.heap.size) o_x0_Shape_To fun _ h=>h) (OE.give (B':=wd2.heap.size) o_x0_Shape_Identity fun _ h=>h) (OE.give (B':=wd2.heap.size) o_x0_Shape_Composites fun _ h=>h) d_0_1 d_0_2 d_0_3 d_1_2 d_1_3 d_2_3 k1) ?_
 rintro _ p2 ⟨j3,j4,j5,j6,rfl,p8,pa,pb,pc,pd,k2,k3,k4,k5,q6,q7⟩
 refine ⟨_,rfl,?_⟩
 have j7:Dis j3 zi:=dis_back pa (da d_0_4 (da d_1_4 (da d_2_4 d_3_4))) (sl _ (kp _ o_x0_Covers.1 (cr [] wd2)))
 have j8:Dis j4 zi:=dis_back pb (da d_0_4 (da d_1_4 (da d_2_4 d_3_4))) (sl _ (kp _ o_x0_Covers.1 (cr [] wd2)))
 have j9:Dis j5 zi:=dis_back pc (da d_0_4 (da d_1_4 (da d_2_4 d_3_4))) (sl _ (kp _ o_x0_Covers.1 (cr [] wd2)))
 have ja:Dis j6 zi:=dis_back pd (da d_0_4 (da d_1_4 (da d_2_4 d_3_4))) (sl _ (kp _ o_x0_Covers.1 (cr [] wd2)))
 replace pa:=OE.back pa (low_app o_x0_Shape_From.2.2 (low_app o_x0_Shape_To.2.2 (low_app o_x0_Shape_Identity.2.2 o_x0_Shape_Composites.2.2))) hB.size
 replace pb:=OE.back pb (low_app o_x0_Shape_From.2.2 (low_app o_x0_Shape_To.2.2 (low_app o_x0_Shape_Identity.2.2 o_x0_Shape_Composites.2.2))) hB.size
 replace pc:=OE.back pc (low_app o_x0_Shape_From.2.2 (low_app o_x0_Shape_To.2.2 (low_app o_x0_Shape_Identity.2.2 o_x0_Shape_Composites.2.2))) hB.size
 replace pd:=OE.back pd (low_app o_x0_Shape_From.2.2 (low_app o_x0_Shape_To.2.2 (low_app o_x0_Shape_Identity.2.2 o_x0_Shape_Composites.2.2))) hB.size
 have qk:=((cr [] wd2).nil (G:=(zk++(zl++(zm++zn))))).trans p8
 replace o_x0_Covers:=okp o_x0_Covers qk (Dis.symm (da d_0_4 (da d_1_4 (da d_2_4 d_3_4))))
 replace hr4:=Row.keep hr4 qk ((Dis.symm (da (d7).symm (da (d8).symm (da (d9).symm (qh).symm)))) _ (ms rfl))
 replace hB:=hB.then qk (low_app o_x0_Shape_From.2.2 (low_app o_x0_Shape_To.2.2 (low_app o_x0_Shape_Identity.2.2 o_x0_Shape_Composites.2.2)))
 refine wv (v:=.int .i64 (y13.1)) rfl (oa _) ?_
 refine anz ?_
 refine wq ?_
 refine W_region rfl ?_
 refine wv (v:=.pointer (some (⟨b1,5,none⟩))) rfl (op_fieldAddrR u30 rfl info28 ne28 rfl rfl) ?_
 refine wv (v:=zj) rfl (oldz u28 rfl rfl ((kr hr4 (cr [] p2)).at.cell (j:=5) rfl)) ?_
 refine wv (v:=.int .i64 (y13.1)) rfl (om _) ?_
 obtain ⟨y40,k6,ho⟩:=bs ho
 refine WL.call rfl (op_callF Tryz.func69 rfl rfl) (laws_markInt64SSS_calls (OE.give (B':=p2.heap.size) o_x0_Covers fun _ h=>h) k6) ?_
 rintro _ jb ⟨q9,rfl,ql,pe⟩
 refine ⟨_,rfl,?_⟩
 have k7:Dis q9 j3:=dis_back pe (j7).symm (sl _ (kp _ pa.1 (cr [] p2)))
 have k8:Dis q9 j4:=dis_back pe (j8).symm (sl _ (kp _ pb.1 (cr [] p2)))
 have k9:Dis q9 j5:=dis_back pe (j9).symm (sl _ (kp _ pc.1 (cr [] p2)))
 have ka:Dis q9 j6:=dis_back pe (ja).symm (sl _ (kp _ pd.1 (cr [] p2)))
 replace pe:=OE.back pe o_x0_Covers.2.2 hB.size
 have pn:=((cr [] p2).nil (G:=zi)).trans ql
 replace hr4:=Row.keep hr4 pn ((Dis.symm (k0).symm) _ (ms rfl))
 replace pa:=okp pa pn (Dis.symm (j7).symm)
 replace pb:=okp pb pn (Dis.symm (j8).symm)
 replace pc:=okp pc pn (Dis.symm (j9).symm)
 replace pd:=okp pd pn (Dis.symm (ja).symm)
 replace hB:=hB.then pn o_x0_Covers.2.2
 refine wv (v:=.int .i64 (y40.1)) rfl (oa _) ?_
 refine anz ?_
 refine wq ?_
 refine Wq rfl (cr [] jb) ?_
 refine qv (v:=.int .i64 (y40.1)) rfl (fun _ _=>om _) ?_
 refine qv (v:=.int .i64 (y40.1)) rfl (fun _ _=>oa _) ?_
 intro kn po
 refine anz ?_
 cases ho
 exact W_ret ⟨_,res_1 Tryz.results22,_,_,_,_,_,rfl,(hB.trans (Chg.nil po)),(ko pa po),(ko pb po),(ko pc po),(ko pd po),(ko pe po),(k2),(k3),(k4),((k7).symm),(k5),(q6),((k8).symm),(q7),((k9).symm),((ka).symm)⟩

noncomputable def laws_heldInt64S_L0 (x0:(List Int)) (s0_1:Int) (s0_5:Int):Option (Out (Int×Int) (Int)):=
 (bif decide (s0_5 < (x0.length:Int)) then ((idx x0 (s0_5))>>=fun e9=>(bif (e9) != (s0_1) then (some (Out.ret (((-1:Int))))) else (some (Out.norm (w64 (s0_1 + (1:Int)),w64 (s0_5 + (1:Int))))))) else (some (Out.exit 0 (s0_1,s0_5))))
noncomputable def laws_heldInt64S (x0:(List Int)) (x1:Int):Option (Int):=
 retM (S:=Unit) (lbind (blockM 0 (loopM (fun s=>laws_heldInt64S_L0 x0 s.1 s.2) (x1,(0:Int)))) (fun (s0_1,s0_5)=>(some (Out.ret (s0_1)))))
abbrev laws_heldInt64S_post (w:World) (x:(Int)) (e:Ending) (w':World):Prop:=e = .returned (.int .i64 x)∧Chg [] w w'
abbrev laws_heldInt64S_T (w:World) (x:(Int)) (r:Nat→Value) (w':World):Prop:=∃ v,(∀ a:Act,a.tmps.size=21→rho a=r→(results Tryz.f37 a.tmps).run Tryz.prog w' = .ok v w')∧laws_heldInt64S_post w x (.returned v) w'
theorem laws_heldInt64S_calls {w:World} {x0:(List Int)} {v_x0:Value} {f_x0:List Nat} {x1:Int} (h_x0:(sImm (sInt .i64)).rep w.heap [v_x0] x0 f_x0) {y:(Int)} (hm:laws_heldInt64S x0 x1=some y) :
  Calls Tryz.prog 37 #[v_x0,.int .i64 (x1)] w (laws_heldInt64S_post w y):=by
 refine calls_of_M (S:=Unit) (args:=[v_x0,.int .i64 (x1)]) Tryz.func37 rfl Tryz.ntmps37 (Nat.le_of_ble_eq_true rfl) (retM_some hm) ?_
 clear hm
 intro o ho
 have hB:Chg [] w w:=cr _ _
 refine wq ?_
 refine Wq rfl (cr [] w) ?_
 refine qv (v:=.int .i64 ((0:Int))) rfl (fun _ _=>oa _) ?_
 intro wd1 hC2
 refine anz ?_
 refine wq ?_
 refine wq ?_
 refine Wq rfl hC2 ?_
 refine qv (v:=.int .i64 ((0:Int))) rfl (fun _ _=>oa _) ?_
 intro wd3 hC4
 refine anz ?_
 refine W_for (S1:=Int×Int) (fun s r w'=>match s with | (s0_1,s0_5)=>Chg [] w w'∧∃ F,r=updL F [(0,v_x0),(1,.int .i64 (s0_1)),(5,.int .i64 (s0_5))]) (T:=laws_heldInt64S_T w) ho ⟨(hB.trans hC4),fr ⟨rfl,rfl,rfl,trivial⟩⟩ ?_ ?_ ?_
 intro x r w' ho hx; subst ho; exact hx
 rintro ⟨s0_1,s0_5⟩ _ wd5 ⟨hB,F,rfl⟩ o ho
 replace ho:laws_heldInt64S_L0 x0 s0_1 s0_5=some o:=ho
 unfold laws_heldInt64S_L0 at ho
 refine wq ?_
 refine wq ?_
 refine Wq rfl (cr [] wd5) ?_
 refine qv (v:=.int .i64 (s0_5)) rfl (fun _ _=>om _) ?_
 refine qv (v:=v_x0) rfl (fun _ _=>om _) ?_
 refine qv (v:=.int .i64 ((x0.length:Int))) rfl (fun _ hC=>op_lenI u22z (kp _ h_x0 (hB.trans hC))) ?_
 refine qv (v:=.bool (decide (s0_5 < (x0.length:Int)))) rfl (fun _ _=>op_bin rfl rfl bin_lss) ?_
 intro wd6 hC7
 refine anz ?_
 refine W_cond (b:=decide (s0_5 < (x0.length:Int))) rfl ?_ ?_
 intro hb8
 rw [hb8] at ho
 refine W_skip ?_
 refine anz ?_
 refine wq ?_
 refine W_block ?_
 refine wq ?_
 refine wq ?_
 refine Wq rfl hC7 ?_
 refine qv (v:=v_x0) rfl (fun _ _=>om _) ?_
 refine qv (v:=.int .i64 (s0_5)) rfl (fun _ _=>om _) ?_
 obtain ⟨e9,hx10e,ho⟩:=bs ho
 have hx10:=idx_some hx10e
 refine qv (v:=.pointer (some (elA (v_x0) 1 (s0_5)))) rfl (fun _ hC=>op_indexI u22z info2 sz2 rfl (kp _ h_x0 (hB.trans hC)) rfl hx10.1 hx10.2) ?_
 refine qv (v:=.int .i64 (e9)) rfl (fun _ hC=>oldz u2z rfl rfl (int_get (kp _ h_x0 (hB.trans hC)) hx10.1 hx10.2)) ?_
 refine qv (v:=.int .i64 (s0_1)) rfl (fun _ _=>om _) ?_
 refine qv (v:=.bool ((e9) != (s0_1))) rfl (fun _ _=>op_bin rfl rfl bin_neq) ?_
 intro qx q4
 refine anz ?_
 refine W_cond (b:=(e9) != (s0_1)) rfl ?_ ?_
 intro qm
 rw [qm] at ho
 refine wq ?_
 refine Wq rfl q4 ?_
 refine qv (v:=.int .i64 ((-1:Int))) rfl (fun _ _=>oa _) ?_
 intro p9 qi
 refine anz ?_
 cases ho
 exact W_ret ⟨_,res_1 Tryz.results37,rfl,(hB.trans qi)⟩
 intro qm
 rw [qm] at ho
 refine W_skip ?_
 refine anz ?_
 refine Wq rfl q4 ?_
 refine qv (v:=.int .i64 (s0_1)) rfl (fun _ _=>om _) ?_
 refine qv (v:=.int .i64 (w64 (s0_1 + (1:Int)))) rfl (fun _ _=>op_bin rfl rfl bin_add) ?_
 refine qv (v:=.int .i64 (w64 (s0_1 + (1:Int)))) rfl (fun _ _=>oa _) ?_
 intro kq kb
 refine inBlk_n ?_
 refine anz ?_
 refine Wq rfl kb ?_
 refine qv (v:=.int .i64 (s0_5)) rfl (fun _ _=>om _) ?_
 refine qv (v:=.int .i64 (w64 (s0_5 + (1:Int)))) rfl (fun _ _=>op_bin rfl rfl bin_add) ?_
 refine qv (v:=.int .i64 (w64 (s0_5 + (1:Int)))) rfl (fun _ _=>oa _) ?_
 intro jc q1
 cases ho
 exact ⟨(hB.trans q1),fr ⟨rfl,rfl,rfl,trivial⟩⟩
 intro hb8
 rw [hb8] at ho
 refine W_exit ?_
 refine andThen_x ?_
 cases ho
 exact ⟨rfl,⟨(hB.trans hC7),fr ⟨rfl,rfl,rfl,trivial⟩⟩⟩
 rintro ⟨s0_1,s0_5⟩ _ q5 ⟨hB,F,rfl⟩ ho
 dsimp only at ho
 refine anz ?_
 refine wq ?_
 refine Wq rfl (cr [] q5) ?_
 refine qv (v:=.int .i64 (s0_1)) rfl (fun _ _=>om _) ?_
 refine qv (v:=.int .i64 (s0_1)) rfl (fun _ _=>oa _) ?_
 intro jd pf
 refine anz ?_
 cases ho
 exact W_ret ⟨_,res_1 Tryz.results37,rfl,(hB.trans pf)⟩

noncomputable def laws_heldInt64SS_L0 (x0:(List (List Int))) (s0_1:Int) (s0_5:Int):Option (Out (Int×Int) (Int)):=
 (bif decide (s0_5 < (x0.length:Int)) then ((idx x0 (s0_5))>>=fun e9=>((laws_heldInt64S e9 (s0_1))>>=fun y16=>(bif decide (y16 < (0:Int)) then (some (Out.ret (((-1:Int))))) else (some (Out.norm (y16,w64 (s0_5 + (1:Int)))))))) else (some (Out.exit 0 (s0_1,s0_5))))
noncomputable def laws_heldInt64SS (x0:(List (List Int))) (x1:Int):Option (Int):=
 retM (S:=Unit) (lbind (blockM 0 (loopM (fun s=>laws_heldInt64SS_L0 x0 s.1 s.2) (x1,(0:Int)))) (fun (s0_1,s0_5)=>(some (Out.ret (s0_1)))))
abbrev laws_heldInt64SS_post (w:World) (x:(Int)) (e:Ending) (w':World):Prop:=e = .returned (.int .i64 x)∧Chg [] w w'
abbrev laws_heldInt64SS_T (w:World) (x:(Int)) (r:Nat→Value) (w':World):Prop:=∃ v,(∀ a:Act,a.tmps.size=21→rho a=r→(results Tryz.f42 a.tmps).run Tryz.prog w' = .ok v w')∧laws_heldInt64SS_post w x (.returned v) w'
theorem laws_heldInt64SS_calls {w:World} {x0:(List (List Int))} {v_x0:Value} {f_x0:List Nat} {x1:Int} (h_x0:(sImm (sImm (sInt .i64))).rep w.heap [v_x0] x0 f_x0) {y:(Int)} (hm:laws_heldInt64SS x0 x1=some y) :
  Calls Tryz.prog 42 #[v_x0,.int .i64 (x1)] w (laws_heldInt64SS_post w y):=by
 refine calls_of_M (S:=Unit) (args:=[v_x0,.int .i64 (x1)]) Tryz.func42 rfl Tryz.ntmps42 (Nat.le_of_ble_eq_true rfl) (retM_some hm) ?_
 clear hm
 intro o ho
 have hB:Chg [] w w:=cr _ _
 refine wq ?_
 refine Wq rfl (cr [] w) ?_
 refine qv (v:=.int .i64 ((0:Int))) rfl (fun _ _=>oa _) ?_
 intro wd1 hC2
 refine anz ?_
 refine wq ?_
 refine wq ?_
 refine Wq rfl hC2 ?_
 refine qv (v:=.int .i64 ((0:Int))) rfl (fun _ _=>oa _) ?_
 intro wd3 hC4
 refine anz ?_
 refine W_for (S1:=Int×Int) (fun s r w'=>match s with | (s0_1,s0_5)=>Chg [] w w'∧∃ F,r=updL F [(0,v_x0),(1,.int .i64 (s0_1)),(5,.int .i64 (s0_5))]) (T:=laws_heldInt64SS_T w) ho ⟨(hB.trans hC4),fr ⟨rfl,rfl,rfl,trivial⟩⟩ ?_ ?_ ?_
 intro x r w' ho hx; subst ho; exact hx
 rintro ⟨s0_1,s0_5⟩ _ wd5 ⟨hB,F,rfl⟩ o ho
 replace ho:laws_heldInt64SS_L0 x0 s0_1 s0_5=some o:=ho
 unfold laws_heldInt64SS_L0 at ho
 refine wq ?_
 refine wq ?_
 refine Wq rfl (cr [] wd5) ?_
 refine qv (v:=.int .i64 (s0_5)) rfl (fun _ _=>om _) ?_
 refine qv (v:=v_x0) rfl (fun _ _=>om _) ?_
 refine qv (v:=.int .i64 ((x0.length:Int))) rfl (fun _ hC=>op_lenI u23z (kp _ h_x0 (hB.trans hC))) ?_
 refine qv (v:=.bool (decide (s0_5 < (x0.length:Int)))) rfl (fun _ _=>op_bin rfl rfl bin_lss) ?_
 intro wd6 hC7
 refine anz ?_
 refine W_cond (b:=decide (s0_5 < (x0.length:Int))) rfl ?_ ?_
 intro hb8
 rw [hb8] at ho
 refine W_skip ?_
 refine anz ?_
 refine wq ?_
 refine W_block ?_
 refine wq ?_
 refine Wq rfl hC7 ?_
 refine qv (v:=v_x0) rfl (fun _ _=>om _) ?_
 refine qv (v:=.int .i64 (s0_5)) rfl (fun _ _=>om _) ?_
 obtain ⟨e9,hx10e,ho⟩:=bs ho
 have hx10:=idx_some hx10e
 refine qv (v:=.pointer (some (elA (v_x0) 1 (s0_5)))) rfl (fun _ hC=>op_indexI u23z info22 sz22 rfl (kp _ h_x0 (hB.trans hC)) rfl hx10.1 hx10.2) ?_
 obtain ⟨u11,fu12,hu13,qn,hs15⟩:=one_get rfl h_x0 hx10.1 hx10.2
 refine qv (v:=u11) rfl (fun _ hC=>oldz u22z rfl rfl ((hB.trans hC).cell0 hu13)) ?_
 refine qv (v:=.int .i64 (s0_1)) rfl (fun _ _=>om _) ?_
 obtain ⟨y16,qo,ho⟩:=bs ho
 refine QL.call (v:=.int .i64 (y16)) rfl (fun _ _=>op_callF Tryz.func37 rfl rfl) (fun _ hC=>(laws_heldInt64S_calls (kp _ qn (hB.trans hC)) qo).mono fun _ _ h=>⟨h.1,hC.trans h.2⟩) ?_
 refine qv (v:=.int .i64 (y16)) rfl (fun _ _=>oa _) ?_
 intro jc q1
 refine anz ?_
 refine wq ?_
 refine Wq rfl q1 ?_
 refine qv (v:=.int .i64 (y16)) rfl (fun _ _=>om _) ?_
 refine qv (v:=.bool (decide (y16 < (0:Int)))) rfl (fun _ _=>op_bin rfl rfl bin_lss) ?_
 intro q5 p6
 refine anz ?_
 refine W_cond (b:=decide (y16 < (0:Int))) rfl ?_ ?_
 intro pg
 rw [pg] at ho
 refine wq ?_
 refine Wq rfl p6 ?_
 refine qv (v:=.int .i64 ((-1:Int))) rfl (fun _ _=>oa _) ?_
 intro kc qp
 refine anz ?_
 cases ho
 exact W_ret ⟨_,res_1 Tryz.results42,rfl,(hB.trans qp)⟩
 intro pg
 rw [pg] at ho
 refine W_skip ?_
 refine inBlk_n ?_
 refine anz ?_
 refine Wq rfl p6 ?_
 refine qv (v:=.int .i64 (s0_5)) rfl (fun _ _=>om _) ?_
 refine qv (v:=.int .i64 (w64 (s0_5 + (1:Int)))) rfl (fun _ _=>op_bin rfl rfl bin_add) ?_
 refine qv (v:=.int .i64 (w64 (s0_5 + (1:Int)))) rfl (fun _ _=>oa _) ?_
 intro p7 pw
 cases ho
 exact ⟨(hB.trans pw),fr ⟨rfl,rfl,rfl,trivial⟩⟩
 intro hb8
 rw [hb8] at ho
 refine W_exit ?_
 refine andThen_x ?_
 cases ho
 exact ⟨rfl,⟨(hB.trans hC7),fr ⟨rfl,rfl,rfl,trivial⟩⟩⟩
 rintro ⟨s0_1,s0_5⟩ _ qq ⟨hB,F,rfl⟩ ho
 dsimp only at ho
 refine anz ?_
 refine wq ?_
 refine Wq rfl (cr [] qq) ?_
 refine qv (v:=.int .i64 (s0_1)) rfl (fun _ _=>om _) ?_
 refine qv (v:=.int .i64 (s0_1)) rfl (fun _ _=>oa _) ?_
 intro je q2
 refine anz ?_
 cases ho
 exact W_ret ⟨_,res_1 Tryz.results42,rfl,(hB.trans q2)⟩

noncomputable def laws_heldCategory (x0:MCategory) (x1:Int):Option (Int):=
 retM (S:=Unit) ((laws_heldInt64S x0.From (x1))>>=fun y8=>(bif decide (y8 < (0:Int)) then (some (Out.ret (((-1:Int))))) else ((laws_heldInt64S x0.To (y8))>>=fun y17=>(bif decide (y17 < (0:Int)) then (some (Out.ret (((-1:Int))))) else ((laws_heldInt64S x0.Identity (y17))>>=fun y26=>(bif decide (y26 < (0:Int)) then (some (Out.ret (((-1:Int))))) else ((laws_heldInt64SS x0.Composites (y26))>>=fun y35=>(bif decide (y35 < (0:Int)) then (some (Out.ret (((-1:Int))))) else (some (Out.ret (y35)))))))))))
abbrev laws_heldCategory_post (w:World) (x:(Int)) (e:Ending) (w':World):Prop:=e = .returned (.int .i64 x)∧Chg [] w w'
abbrev laws_heldCategory_T (w:World) (x:(Int)) (r:Nat→Value) (w':World):Prop:=∃ v,(∀ a:Act,a.tmps.size=30→rho a=r→(results Tryz.f70 a.tmps).run Tryz.prog w' = .ok v w')∧laws_heldCategory_post w x (.returned v) w'
theorem laws_heldCategory_calls {w:World} {x0:MCategory} {z6:Value} {zh:List Nat} {z7:Value} {zg:List Nat} {z9:Value} {zf:List Nat} {z8:Value} {ze:List Nat} {x1:Int} (za:(sImm (sInt .i64)).rep w.heap [z6] x0.From zh) (zb:(sImm (sInt .i64)).rep w.heap [z7] x0.To zg) (zd:(sImm (sInt .i64)).rep w.heap [z9] x0.Identity zf) (zc:(sImm (sImm (sInt .i64))).rep w.heap [z8] x0.Composites ze) {y:(Int)} (hm:laws_heldCategory x0 x1=some y) :
  Calls Tryz.prog 70 #[.agg #[.int .i64 (x0.Objects),z6,z7,z9,z8],.int .i64 (x1)] w (laws_heldCategory_post w y):=by
 refine calls_of_M (S:=Unit) (args:=[.agg #[.int .i64 (x0.Objects),z6,z7,z9,z8],.int .i64 (x1)]) Tryz.func70 rfl Tryz.ntmps70 (Nat.le_of_ble_eq_true rfl) (retM_some hm) ?_
 clear hm
 intro o ho
 have hB:Chg [] w w:=cr _ _
 refine wq ?_
 refine W_region rfl ?_
 refine WL.box fun b1 wd2 hC3 hr4 hl5=>?_
 replace hr4:Row wd2 b1 [.int .i64 (x0.Objects),z6,z7,z9,z8] 27:=hr4
 have hT7:=(cr [] w).trans hC3
 replace hB:=(hB.trans hT7)
 refine wv (v:=.int .i64 ((0:Int))) rfl (oa _) ?_
 refine anz ?_
 refine wq ?_
 refine Wq rfl (cr [] wd2) ?_
 refine qv (v:=.pointer (some (⟨b1,1,none⟩))) rfl (fun _ _=>op_fieldAddrR u27z rfl info22 ne22 rfl rfl) ?_
 refine qv (v:=z6) rfl (fun _ hC=>oldz u22z rfl rfl ((kr hr4 hC).at.cell (j:=1) rfl)) ?_
 refine qv (v:=.int .i64 (x1)) rfl (fun _ _=>om _) ?_
 obtain ⟨y8,hy9,ho⟩:=bs ho
 refine QL.call (v:=.int .i64 (y8)) rfl (fun _ _=>op_callF Tryz.func37 rfl rfl) (fun _ hC=>(laws_heldInt64S_calls (kp _ za (hB.trans hC)) hy9).mono fun _ _ h=>⟨h.1,hC.trans h.2⟩) ?_
 refine qv (v:=.int .i64 (y8)) rfl (fun _ _=>oa _) ?_
 intro kd qr
 refine anz ?_
 refine wq ?_
 refine wq ?_
 refine Wq rfl qr ?_
 refine qv (v:=.int .i64 (y8)) rfl (fun _ _=>om _) ?_
 refine qv (v:=.bool (decide (y8 < (0:Int)))) rfl (fun _ _=>op_bin rfl rfl bin_lss) ?_
 intro ke q3
 refine anz ?_
 refine W_cond (b:=decide (y8 < (0:Int))) rfl ?_ ?_
 intro ph
 rw [ph] at ho
 refine wq ?_
 refine Wq rfl q3 ?_
 refine qv (v:=.int .i64 ((-1:Int))) rfl (fun _ _=>oa _) ?_
 intro p2 p8
 refine anz ?_
 cases ho
 exact W_ret ⟨_,res_1 Tryz.results70,rfl,(hB.trans p8)⟩
 intro ph
 rw [ph] at ho
 refine W_skip ?_
 refine anz ?_
 refine wq ?_
 refine Wq rfl q3 ?_
 refine qv (v:=.pointer (some (⟨b1,2,none⟩))) rfl (fun _ _=>op_fieldAddrR u27z rfl info22 ne22 rfl rfl) ?_
 refine qv (v:=z7) rfl (fun _ hC=>oldz u22z rfl rfl ((kr hr4 hC).at.cell (j:=2) rfl)) ?_
 refine qv (v:=.int .i64 (y8)) rfl (fun _ _=>om _) ?_
 obtain ⟨y17,qs,ho⟩:=bs ho
 refine QL.call (v:=.int .i64 (y17)) rfl (fun _ _=>op_callF Tryz.func37 rfl rfl) (fun _ hC=>(laws_heldInt64S_calls (kp _ zb (hB.trans hC)) qs).mono fun _ _ h=>⟨h.1,hC.trans h.2⟩) ?_
 refine qv (v:=.int .i64 (y17)) rfl (fun _ _=>oa _) ?_
 intro qa qt
 refine anz ?_
 refine wq ?_
 refine wq ?_
 refine Wq rfl qt ?_
 refine qv (v:=.int .i64 (y17)) rfl (fun _ _=>om _) ?_
 refine qv (v:=.bool (decide (y17 < (0:Int)))) rfl (fun _ _=>op_bin rfl rfl bin_lss) ?_
 intro jd pf
 refine anz ?_
 refine W_cond (b:=decide (y17 < (0:Int))) rfl ?_ ?_
 intro pi
 rw [pi] at ho
 refine wq ?_
 refine Wq rfl pf ?_
 refine qv (v:=.int .i64 ((-1:Int))) rfl (fun _ _=>oa _) ?_
 intro pq p4
 refine anz ?_
 cases ho
 exact W_ret ⟨_,res_1 Tryz.results70,rfl,(hB.trans p4)⟩
 intro pi
 rw [pi] at ho
 refine W_skip ?_
 refine anz ?_
 refine wq ?_
 refine Wq rfl pf ?_
 refine qv (v:=.pointer (some (⟨b1,3,none⟩))) rfl (fun _ _=>op_fieldAddrR u27z rfl info22 ne22 rfl rfl) ?_
 refine qv (v:=z9) rfl (fun _ hC=>oldz u22z rfl rfl ((kr hr4 hC).at.cell (j:=3) rfl)) ?_
 refine qv (v:=.int .i64 (y17)) rfl (fun _ _=>om _) ?_
 obtain ⟨y26,kf,ho⟩:=bs ho
 refine QL.call (v:=.int .i64 (y26)) rfl (fun _ _=>op_callF Tryz.func37 rfl rfl) (fun _ hC=>(laws_heldInt64S_calls (kp _ zd (hB.trans hC)) kf).mono fun _ _ h=>⟨h.1,hC.trans h.2⟩) ?_
 refine qv (v:=.int .i64 (y26)) rfl (fun _ _=>oa _) ?_
 intro je q2
 refine anz ?_
 refine wq ?_
 refine wq ?_
 refine Wq rfl q2 ?_
 refine qv (v:=.int .i64 (y26)) rfl (fun _ _=>om _) ?_
 refine qv (v:=.bool (decide (y26 < (0:Int)))) rfl (fun _ _=>op_bin rfl rfl bin_lss) ?_
 intro ks jf
 refine anz ?_
 refine W_cond (b:=decide (y26 < (0:Int))) rfl ?_ ?_
 intro qu
 rw [qu] at ho
 refine wq ?_
 refine Wq rfl jf ?_
 refine qv (v:=.int .i64 ((-1:Int))) rfl (fun _ _=>oa _) ?_
 intro kt kg
 refine anz ?_
 cases ho
 exact W_ret ⟨_,res_1 Tryz.results70,rfl,(hB.trans kg)⟩
 intro qu
 rw [qu] at ho
 refine W_skip ?_
 refine anz ?_
 refine wq ?_
 refine Wq rfl jf ?_
 refine qv (v:=.pointer (some (⟨b1,4,none⟩))) rfl (fun _ _=>op_fieldAddrR u27z rfl info23 ne23 rfl rfl) ?_
 refine qv (v:=z8) rfl (fun _ hC=>oldz u23z rfl rfl ((kr hr4 hC).at.cell (j:=4) rfl)) ?_
 refine qv (v:=.int .i64 (y26)) rfl (fun _ _=>om _) ?_
 obtain ⟨y35,kh,ho⟩:=bs ho
 refine QL.call (v:=.int .i64 (y35)) rfl (fun _ _=>op_callF Tryz.func42 rfl rfl) (fun _ hC=>(laws_heldInt64SS_calls (kp _ zc (hB.trans hC)) kh).mono fun _ _ h=>⟨h.1,hC.trans h.2⟩) ?_
 refine qv (v:=.int .i64 (y35)) rfl (fun _ _=>oa _) ?_
 intro ku ki
 refine anz ?_
 refine wq ?_
 refine wq ?_
 refine Wq rfl ki ?_
 refine qv (v:=.int .i64 (y35)) rfl (fun _ _=>om _) ?_
 refine qv (v:=.bool (decide (y35 < (0:Int)))) rfl (fun _ _=>op_bin rfl rfl bin_lss) ?_
 intro kv jg
 refine anz ?_
 refine W_cond (b:=decide (y35 < (0:Int))) rfl ?_ ?_
 intro qw
 rw [qw] at ho
 refine wq ?_
 refine Wq rfl jg ?_
 refine qv (v:=.int .i64 ((-1:Int))) rfl (fun _ _=>oa _) ?_
 intro jb ql
 refine anz ?_
 cases ho
 exact W_ret ⟨_,res_1 Tryz.results70,rfl,(hB.trans ql)⟩
 intro qw
 rw [qw] at ho
 refine W_skip ?_
 refine anz ?_
 refine wq ?_
 refine Wq rfl jg ?_
 refine qv (v:=.int .i64 (y35)) rfl (fun _ _=>om _) ?_
 refine qv (v:=.int .i64 (y35)) rfl (fun _ _=>oa _) ?_
 intro kw kj
 refine anz ?_
 cases ho
 exact W_ret ⟨_,res_1 Tryz.results70,rfl,(hB.trans kj)⟩

noncomputable def laws_heldInt64SSS_L0 (x0:(List (List (List Int)))) (s0_1:Int) (s0_5:Int):Option (Out (Int×Int) (Int)):=
 (bif decide (s0_5 < (x0.length:Int)) then ((idx x0 (s0_5))>>=fun e9=>((laws_heldInt64SS e9 (s0_1))>>=fun y16=>(bif decide (y16 < (0:Int)) then (some (Out.ret (((-1:Int))))) else (some (Out.norm (y16,w64 (s0_5 + (1:Int)))))))) else (some (Out.exit 0 (s0_1,s0_5))))
noncomputable def laws_heldInt64SSS (x0:(List (List (List Int)))) (x1:Int):Option (Int):=
 retM (S:=Unit) (lbind (blockM 0 (loopM (fun s=>laws_heldInt64SSS_L0 x0 s.1 s.2) (x1,(0:Int)))) (fun (s0_1,s0_5)=>(some (Out.ret (s0_1)))))
abbrev laws_heldInt64SSS_post (w:World) (x:(Int)) (e:Ending) (w':World):Prop:=e = .returned (.int .i64 x)∧Chg [] w w'
abbrev laws_heldInt64SSS_T (w:World) (x:(Int)) (r:Nat→Value) (w':World):Prop:=∃ v,(∀ a:Act,a.tmps.size=21→rho a=r→(results Tryz.f71 a.tmps).run Tryz.prog w' = .ok v w')∧laws_heldInt64SSS_post w x (.returned v) w'
theorem laws_heldInt64SSS_calls {w:World} {x0:(List (List (List Int)))} {v_x0:Value} {f_x0:List Nat} {x1:Int} (h_x0:(sImm (sImm (sImm (sInt .i64)))).rep w.heap [v_x0] x0 f_x0) {y:(Int)} (hm:laws_heldInt64SSS x0 x1=some y) :
  Calls Tryz.prog 71 #[v_x0,.int .i64 (x1)] w (laws_heldInt64SSS_post w y):=by
 refine calls_of_M (S:=Unit) (args:=[v_x0,.int .i64 (x1)]) Tryz.func71 rfl Tryz.ntmps71 (Nat.le_of_ble_eq_true rfl) (retM_some hm) ?_
 clear hm
 intro o ho
 have hB:Chg [] w w:=cr _ _
 refine wq ?_
 refine Wq rfl (cr [] w) ?_
 refine qv (v:=.int .i64 ((0:Int))) rfl (fun _ _=>oa _) ?_
 intro wd1 hC2
 refine anz ?_
 refine wq ?_
 refine wq ?_
 refine Wq rfl hC2 ?_
 refine qv (v:=.int .i64 ((0:Int))) rfl (fun _ _=>oa _) ?_
 intro wd3 hC4
 refine anz ?_
 refine W_for (S1:=Int×Int) (fun s r w'=>match s with | (s0_1,s0_5)=>Chg [] w w'∧∃ F,r=updL F [(0,v_x0),(1,.int .i64 (s0_1)),(5,.int .i64 (s0_5))]) (T:=laws_heldInt64SSS_T w) ho ⟨(hB.trans hC4),fr ⟨rfl,rfl,rfl,trivial⟩⟩ ?_ ?_ ?_
 intro x r w' ho hx; subst ho; exact hx
 rintro ⟨s0_1,s0_5⟩ _ wd5 ⟨hB,F,rfl⟩ o ho
 replace ho:laws_heldInt64SSS_L0 x0 s0_1 s0_5=some o:=ho
 unfold laws_heldInt64SSS_L0 at ho
 refine wq ?_
 refine wq ?_
 refine Wq rfl (cr [] wd5) ?_
 refine qv (v:=.int .i64 (s0_5)) rfl (fun _ _=>om _) ?_
 refine qv (v:=v_x0) rfl (fun _ _=>om _) ?_
 refine qv (v:=.int .i64 ((x0.length:Int))) rfl (fun _ hC=>op_lenI u28 (kp _ h_x0 (hB.trans hC))) ?_
 refine qv (v:=.bool (decide (s0_5 < (x0.length:Int)))) rfl (fun _ _=>op_bin rfl rfl bin_lss) ?_
 intro wd6 hC7
 refine anz ?_
 refine W_cond (b:=decide (s0_5 < (x0.length:Int))) rfl ?_ ?_
 intro hb8
 rw [hb8] at ho
 refine W_skip ?_
 refine anz ?_
 refine wq ?_
 refine W_block ?_
 refine wq ?_
 refine Wq rfl hC7 ?_
 refine qv (v:=v_x0) rfl (fun _ _=>om _) ?_
 refine qv (v:=.int .i64 (s0_5)) rfl (fun _ _=>om _) ?_
 obtain ⟨e9,hx10e,ho⟩:=bs ho
 have hx10:=idx_some hx10e
 refine qv (v:=.pointer (some (elA (v_x0) 1 (s0_5)))) rfl (fun _ hC=>op_indexI u28 info23 sz23 rfl (kp _ h_x0 (hB.trans hC)) rfl hx10.1 hx10.2) ?_
 obtain ⟨u11,fu12,hu13,qn,hs15⟩:=one_get rfl h_x0 hx10.1 hx10.2
 refine qv (v:=u11) rfl (fun _ hC=>oldz u23z rfl rfl ((hB.trans hC).cell0 hu13)) ?_
 refine qv (v:=.int .i64 (s0_1)) rfl (fun _ _=>om _) ?_
 obtain ⟨y16,qo,ho⟩:=bs ho
 refine QL.call (v:=.int .i64 (y16)) rfl (fun _ _=>op_callF Tryz.func42 rfl rfl) (fun _ hC=>(laws_heldInt64SS_calls (kp _ qn (hB.trans hC)) qo).mono fun _ _ h=>⟨h.1,hC.trans h.2⟩) ?_
 refine qv (v:=.int .i64 (y16)) rfl (fun _ _=>oa _) ?_
 intro jc q1
 refine anz ?_
 refine wq ?_
 refine Wq rfl q1 ?_
 refine qv (v:=.int .i64 (y16)) rfl (fun _ _=>om _) ?_
 refine qv (v:=.bool (decide (y16 < (0:Int)))) rfl (fun _ _=>op_bin rfl rfl bin_lss) ?_
 intro q5 p6
 refine anz ?_
 refine W_cond (b:=decide (y16 < (0:Int))) rfl ?_ ?_
 intro pg
 rw [pg] at ho
 refine wq ?_
 refine Wq rfl p6 ?_
 refine qv (v:=.int .i64 ((-1:Int))) rfl (fun _ _=>oa _) ?_
 intro kc qp
 refine anz ?_
 cases ho
 exact W_ret ⟨_,res_1 Tryz.results71,rfl,(hB.trans qp)⟩
 intro pg
 rw [pg] at ho
 refine W_skip ?_
 refine inBlk_n ?_
 refine anz ?_
 refine Wq rfl p6 ?_
 refine qv (v:=.int .i64 (s0_5)) rfl (fun _ _=>om _) ?_
 refine qv (v:=.int .i64 (w64 (s0_5 + (1:Int)))) rfl (fun _ _=>op_bin rfl rfl bin_add) ?_
 refine qv (v:=.int .i64 (w64 (s0_5 + (1:Int)))) rfl (fun _ _=>oa _) ?_
 intro p7 pw
 cases ho
 exact ⟨(hB.trans pw),fr ⟨rfl,rfl,rfl,trivial⟩⟩
 intro hb8
 rw [hb8] at ho
 refine W_exit ?_
 refine andThen_x ?_
 cases ho
 exact ⟨rfl,⟨(hB.trans hC7),fr ⟨rfl,rfl,rfl,trivial⟩⟩⟩
 rintro ⟨s0_1,s0_5⟩ _ qq ⟨hB,F,rfl⟩ ho
 dsimp only at ho
 refine anz ?_
 refine wq ?_
 refine Wq rfl (cr [] qq) ?_
 refine qv (v:=.int .i64 (s0_1)) rfl (fun _ _=>om _) ?_
 refine qv (v:=.int .i64 (s0_1)) rfl (fun _ _=>oa _) ?_
 intro je q2
 refine anz ?_
 cases ho
 exact W_ret ⟨_,res_1 Tryz.results71,rfl,(hB.trans q2)⟩

noncomputable def laws_heldTopology (x0:MTopology) (x1:Int):Option (Int):=
 retM (S:=Unit) ((laws_heldCategory x0.Shape (x1))>>=fun y8=>(bif decide (y8 < (0:Int)) then (some (Out.ret (((-1:Int))))) else ((laws_heldInt64SSS x0.Covers (y8))>>=fun y17=>(bif decide (y17 < (0:Int)) then (some (Out.ret (((-1:Int))))) else (some (Out.ret (y17)))))))
abbrev laws_heldTopology_post (w:World) (x:(Int)) (e:Ending) (w':World):Prop:=e = .returned (.int .i64 x)∧Chg [] w w'
abbrev laws_heldTopology_T (w:World) (x:(Int)) (r:Nat→Value) (w':World):Prop:=∃ v,(∀ a:Act,a.tmps.size=18→rho a=r→(results Tryz.f23 a.tmps).run Tryz.prog w' = .ok v w')∧laws_heldTopology_post w x (.returned v) w'
theorem laws_heldTopology_calls {w:World} {x0:MTopology} {zo:Value} {zk:List Nat} {zp:Value} {zl:List Nat} {zq:Value} {zm:List Nat} {zr:Value} {zn:List Nat} {zj:Value} {zi:List Nat} {x1:Int} (z2b:(sImm (sInt .i64)).rep w.heap [zo] x0.Shape.From zk) (z2c:(sImm (sInt .i64)).rep w.heap [zp] x0.Shape.To zl) (z2d:(sImm (sInt .i64)).rep w.heap [zq] x0.Shape.Identity zm) (z2e:(sImm (sImm (sInt .i64))).rep w.heap [zr] x0.Shape.Composites zn) (z1s:(sImm (sImm (sImm (sInt .i64)))).rep w.heap [zj] x0.Covers zi) {y:(Int)} (hm:laws_heldTopology x0 x1=some y) :
  Calls Tryz.prog 23 #[.agg #[.int .i64 (x0.Shape.Objects),zo,zp,zq,zr,zj],.int .i64 (x1)] w (laws_heldTopology_post w y):=by
 refine calls_of_M (S:=Unit) (args:=[.agg #[.int .i64 (x0.Shape.Objects),zo,zp,zq,zr,zj],.int .i64 (x1)]) Tryz.func23 rfl Tryz.ntmps23 (Nat.le_of_ble_eq_true rfl) (retM_some hm) ?_
 clear hm
 intro o ho
 have hB:Chg [] w w:=cr _ _
 refine wq ?_
 refine W_region rfl ?_
 refine WL.box fun b1 wd2 hC3 hr4 hl5=>?_
 replace hr4:Row wd2 b1 [.int .i64 (x0.Shape.Objects),zo,zp,zq,zr,zj] 30:=hr4
 have hT7:=(cr [] w).trans hC3
 replace hB:=(hB.trans hT7)
 refine wv (v:=.int .i64 ((0:Int))) rfl (oa _) ?_
 refine anz ?_
 refine wq ?_
 refine Wq rfl (cr [] wd2) ?_
 refine qv (v:=.pointer (some (⟨b1,0,none⟩))) rfl (fun _ _=>op_fieldAddrR u30 rfl info27 ne27 rfl rfl) ?_
 refine qv (v:=.agg #[.int .i64 (x0.Shape.Objects),zo,zp,zq,zr]) rfl (fun _ hC=>op_loadAgg (cs:=[.int .i64 (x0.Shape.Objects),zo,zp,zq,zr]) u27z rfl info27 (by rw [sz27]; rfl) rfl (At.sub (kr hr4 hC).at 0 5)) ?_
 refine qv (v:=.int .i64 (x1)) rfl (fun _ _=>om _) ?_
 obtain ⟨y8,hy9,ho⟩:=bs ho
 refine QL.call (v:=.int .i64 (y8)) rfl (fun _ _=>op_callF Tryz.func70 rfl rfl) (fun _ hC=>(laws_heldCategory_calls (kp _ z2b (hB.trans hC)) (kp _ z2c (hB.trans hC)) (kp _ z2d (hB.trans hC)) (kp _ z2e (hB.trans hC)) hy9).mono fun _ _ h=>⟨h.1,hC.trans h.2⟩) ?_
 refine qv (v:=.int .i64 (y8)) rfl (fun _ _=>oa _) ?_
 intro kd qr
 refine anz ?_
 refine wq ?_
 refine wq ?_
 refine Wq rfl qr ?_
 refine qv (v:=.int .i64 (y8)) rfl (fun _ _=>om _) ?_
 refine qv (v:=.bool (decide (y8 < (0:Int)))) rfl (fun _ _=>op_bin rfl rfl bin_lss) ?_
 intro ke q3
 refine anz ?_
 refine W_cond (b:=decide (y8 < (0:Int))) rfl ?_ ?_
 intro ph
 rw [ph] at ho
 refine wq ?_
 refine Wq rfl q3 ?_
 refine qv (v:=.int .i64 ((-1:Int))) rfl (fun _ _=>oa _) ?_
 intro p2 p8
 refine anz ?_
 cases ho
 exact W_ret ⟨_,res_1 Tryz.results23,rfl,(hB.trans p8)⟩
 intro ph
 rw [ph] at ho
 refine W_skip ?_
 refine anz ?_
 refine wq ?_
 refine Wq rfl q3 ?_
 refine qv (v:=.pointer (some (⟨b1,5,none⟩))) rfl (fun _ _=>op_fieldAddrR u30 rfl info28 ne28 rfl rfl) ?_
 refine qv (v:=zj) rfl (fun _ hC=>oldz u28 rfl rfl ((kr hr4 hC).at.cell (j:=5) rfl)) ?_
 refine qv (v:=.int .i64 (y8)) rfl (fun _ _=>om _) ?_
 obtain ⟨y17,qs,ho⟩:=bs ho
 refine QL.call (v:=.int .i64 (y17)) rfl (fun _ _=>op_callF Tryz.func71 rfl rfl) (fun _ hC=>(laws_heldInt64SSS_calls (kp _ z1s (hB.trans hC)) qs).mono fun _ _ h=>⟨h.1,hC.trans h.2⟩) ?_
 refine qv (v:=.int .i64 (y17)) rfl (fun _ _=>oa _) ?_
 intro qa qt
 refine anz ?_
 refine wq ?_
 refine wq ?_
 refine Wq rfl qt ?_
 refine qv (v:=.int .i64 (y17)) rfl (fun _ _=>om _) ?_
 refine qv (v:=.bool (decide (y17 < (0:Int)))) rfl (fun _ _=>op_bin rfl rfl bin_lss) ?_
 intro jd pf
 refine anz ?_
 refine W_cond (b:=decide (y17 < (0:Int))) rfl ?_ ?_
 intro pi
 rw [pi] at ho
 refine wq ?_
 refine Wq rfl pf ?_
 refine qv (v:=.int .i64 ((-1:Int))) rfl (fun _ _=>oa _) ?_
 intro pq p4
 refine anz ?_
 cases ho
 exact W_ret ⟨_,res_1 Tryz.results23,rfl,(hB.trans p4)⟩
 intro pi
 rw [pi] at ho
 refine W_skip ?_
 refine anz ?_
 refine wq ?_
 refine Wq rfl pf ?_
 refine qv (v:=.int .i64 (y17)) rfl (fun _ _=>om _) ?_
 refine qv (v:=.int .i64 (y17)) rfl (fun _ _=>oa _) ?_
 intro kx kk
 refine anz ?_
 cases ho
 exact W_ret ⟨_,res_1 Tryz.results23,rfl,(hB.trans kk)⟩
end Go.Proofs.YtfbijbginbjecaaGreat
