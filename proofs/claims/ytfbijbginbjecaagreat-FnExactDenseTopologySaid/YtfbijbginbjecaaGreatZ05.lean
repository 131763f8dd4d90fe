/- Walks, printed by a program: what each function computes (a model on plain data), and that a call computes it. No condition beside those that each theorem names. -/
import Derived.Test.YtfbijbginbjecaaGreatTy
import Derived.Test.YtfbijbginbjecaaGreatSo
import Derived.Test.YtfbijbginbjecaaGreatZ03
import Derived.Test.YtfbijbginbjecaaGreatZ04
namespace Go.Proofs.YtfbijbginbjecaaGreat
open Go Go.Li
set_option linter.unusedVariables false
set_option maxHeartbeats 4000000
set_option maxRecDepth 100000
noncomputable def slices_IndexFunc___impl_sieve_impl_sieve__L0 (x0:(List (List Int))) (x1:((List Int)→Option (Bool))) (s0_8:Int):Option (Out (Int) (Int)):=
 (bif decide (s0_8 < (x0.length:Int)) then ((idx x0 (s0_8))>>=fun e11=>((x1 e11)>>=fun y18=>(bif y18 then (some (Out.ret (s0_8))) else (some (Out.norm (w64 (s0_8 + (1:Int)))))))) else (some (Out.exit 0 (s0_8))))
noncomputable def slices_IndexFunc___impl_sieve_impl_sieve_ (x0:(List (List Int))) (x1:((List Int)→Option (Bool))):Option (Int):=
 retM (S:=Unit) (lbind (blockM 0 (loopM (slices_IndexFunc___impl_sieve_impl_sieve__L0 x0 x1) ((0:Int)))) (fun s0_8=>(some (Out.ret (((-1:Int)))))))
abbrev slices_IndexFunc___impl_sieve_impl_sieve__post (w:World) (x:(Int)) (e:Ending) (w':World):Prop:=e = .returned (.int .i64 x)∧Chg [] w w'
abbrev slices_IndexFunc___impl_sieve_impl_sieve__T (w:World) (x:(Int)) (r:Nat→Value) (w':World):Prop:=∃ v,(∀ a:Act,a.tmps.size=19→rho a=r→(results Tryz.f153 a.tmps).run Tryz.prog w' = .ok v w')∧slices_IndexFunc___impl_sieve_impl_sieve__post w x (.returned v) w'
theorem slices_IndexFunc___impl_sieve_impl_sieve__calls {w:World} {x0:(List (List Int))} {v_x0:Value} {f_x0:List Nat} {g_x1:FuncId} {c_x1:List Value} {x1:((List Int)→Option (Bool))} (h_x0:(sImm (sImm (sInt .i64))).rep w.heap [v_x0] x0 f_x0) (h_x1:FnOk Tryz.prog g_x1∧∀ {W:World} (hW:Chg [] w W) {a0:(List Int)} {v0:Value} {f0:List Nat} (h0:(sImm (sInt .i64)).rep W.heap [v0] a0 f0) {y:Bool} (hm:x1 a0=some y),Calls Tryz.prog g_x1 ([v0]++c_x1).toArray W (fun e W'=>e = .returned (.bool y)∧Chg [] W W')) {y:(Int)} (hm:slices_IndexFunc___impl_sieve_impl_sieve_ x0 x1=some y) :
  Calls Tryz.prog 153 #[v_x0,.func (.func g_x1) #[] c_x1.toArray] w (slices_IndexFunc___impl_sieve_impl_sieve__post w y):=by
 refine calls_of_M (S:=Unit) (args:=[v_x0,.func (.func g_x1) #[] c_x1.toArray]) Tryz.func153 rfl Tryz.ntmps153 (Nat.le_of_ble_eq_true rfl) (retM_some hm) ?_
 clear hm
 intro o ho
 have hB:Chg [] w w:=cr _ _
 refine wq ?_
 refine Wq rfl (cr [] w) ?_
 refine qv (v:=.int .i64 ((0:Int))) rfl (fun _ _=>oa _) ?_
 intro wd1 hC2
 refine anz ?_
 refine wq ?_
 refine wq ?_
 refine Wq rfl hC2 ?_
 refine qv (v:=v_x0) rfl (fun _ _=>om _) ?_
 refine qv (v:=.int .i64 ((x0.length:Int))) rfl (fun _ hC=>op_lenI u110 (kp _ h_x0 (hB.trans hC))) ?_
 refine qv (v:=.int .i64 ((0:Int))) rfl (fun _ _=>om _) ?_
 intro wd3 hC4
 refine anz ?_
 refine W_for (S1:=Int) (fun (s0_8:Int) r w'=>Chg [] w w'∧∃ F,r=updL F [(0,v_x0),(1,.func (.func g_x1) #[] c_x1.toArray),(7,.int .i64 ((x0.length:Int))),(8,.int .i64 (s0_8))]) (T:=slices_IndexFunc___impl_sieve_impl_sieve__T w) ho ⟨(hB.trans hC4),fr ⟨rfl,rfl,rfl,rfl,trivial⟩⟩ ?_ ?_ ?_
 intro x r w' ho hx; subst ho; exact hx
 rintro s0_8 _ wd5 ⟨hB,F,rfl⟩ o ho
 replace ho:slices_IndexFunc___impl_sieve_impl_sieve__L0 x0 x1 s0_8=some o:=ho
 unfold slices_IndexFunc___impl_sieve_impl_sieve__L0 at ho
 refine wq ?_
 refine Wq rfl (cr [] wd5) ?_
 refine qv (v:=.bool (decide (s0_8 < (x0.length:Int)))) rfl (fun _ _=>op_bin rfl rfl bin_lss) ?_
 intro wd6 hC7
 refine anz ?_
 refine wq ?_
 refine W_cond (b:=decide (s0_8 < (x0.length:Int))) rfl ?_ ?_
 intro hb8
 rw [hb8] at ho
 refine W_skip ?_
 refine anz ?_
 refine wq ?_
 refine W_block ?_
 refine wq ?_
 refine Wq rfl hC7 ?_
 refine qv (v:=.int .i64 (s0_8)) rfl (fun _ _=>om _) ?_
 refine qv (v:=.int .i64 (s0_8)) rfl (fun _ _=>oa _) ?_
 intro wd9 hC10
 refine anz ?_
 refine wq ?_
 refine Wq rfl hC10 ?_
 refine qv (v:=.func (.func g_x1) #[] c_x1.toArray) rfl (fun _ _=>om _) ?_
 refine qv (v:=v_x0) rfl (fun _ _=>om _) ?_
 refine qv (v:=.int .i64 (s0_8)) rfl (fun _ _=>om _) ?_
 obtain ⟨e11,hx12e,ho⟩:=bs ho
 have hx12:=idx_some hx12e
 refine qv (v:=.pointer (some (elA (v_x0) 1 (s0_8)))) rfl (fun _ hC=>op_indexI u110 info87 sz87 rfl (kp _ h_x0 (hB.trans hC)) rfl hx12.1 hx12.2) ?_
 obtain ⟨u13,fu14,hu15,hr16,hs17⟩:=one_get rfl h_x0 hx12.1 hx12.2
 refine qv (v:=u13) rfl (fun _ hC=>oldz u87 rfl rfl ((hB.trans hC).cell0 hu15)) ?_
 obtain ⟨y18,hy19,ho⟩:=bs ho
 refine QL.call (v:=.bool (y18)) rfl (fun _ _=>op_callP rfl h_x1.1) (fun _ hC=>(h_x1.2 (hB.trans hC) (kp _ hr16 (hB.trans hC)) hy19).mono fun _ _ h=>⟨h.1,hC.trans h.2⟩) ?_
 intro wd20 hC21
 refine anz ?_
 refine W_cond (b:=y18) rfl ?_ ?_
 intro hb22
 rw [hb22] at ho
 refine wq ?_
 refine Wq rfl hC21 ?_
 refine qv (v:=.int .i64 (s0_8)) rfl (fun _ _=>om _) ?_
 refine qv (v:=.int .i64 (s0_8)) rfl (fun _ _=>oa _) ?_
 intro wd23 hC24
 refine anz ?_
 cases ho
 exact W_ret ⟨_,res_1 Tryz.results153,rfl,(hB.trans hC24)⟩
 intro hb22
 rw [hb22] at ho
 refine W_skip ?_
 refine inBlk_n ?_
 refine anz ?_
 refine Wq rfl hC21 ?_
 refine qv (v:=.int .i64 (w64 (s0_8 + (1:Int)))) rfl (fun _ _=>op_bin rfl rfl bin_add) ?_
 refine qv (v:=.int .i64 (w64 (s0_8 + (1:Int)))) rfl (fun _ _=>om _) ?_
 intro wd25 hC26
 cases ho
 exact ⟨(hB.trans hC26),fr ⟨rfl,rfl,rfl,rfl,trivial⟩⟩
 intro hb8
 rw [hb8] at ho
 refine W_exit ?_
 refine andThen_x ?_
 cases ho
 exact ⟨rfl,⟨(hB.trans hC7),fr ⟨rfl,rfl,rfl,rfl,trivial⟩⟩⟩
 rintro s0_8 _ wd27 ⟨hB,F,rfl⟩ ho
 replace ho:=ho
 refine anz ?_
 refine wq ?_
 refine Wq rfl (cr [] wd27) ?_
 refine qv (v:=.int .i64 ((-1:Int))) rfl (fun _ _=>oa _) ?_
 intro wd28 hC29
 refine anz ?_
 cases ho
 exact W_ret ⟨_,res_1 Tryz.results153,rfl,(hB.trans hC29)⟩

noncomputable def slices_ContainsFunc___impl_sieve_impl_sieve_ (x0:(List (List Int))) (x1:((List Int)→Option (Bool))):Option (Bool):=
 retM (S:=Unit) ((slices_IndexFunc___impl_sieve_impl_sieve_ x0 x1)>>=fun y3=>(some (Out.ret ((decide (y3 ≥ (0:Int)))))))
abbrev slices_ContainsFunc___impl_sieve_impl_sieve__post (w:World) (x:(Bool)) (e:Ending) (w':World):Prop:=e = .returned (.bool x)∧Chg [] w w'
abbrev slices_ContainsFunc___impl_sieve_impl_sieve__T (w:World) (x:(Bool)) (r:Nat→Value) (w':World):Prop:=∃ v,(∀ a:Act,a.tmps.size=9→rho a=r→(results Tryz.f195 a.tmps).run Tryz.prog w' = .ok v w')∧slices_ContainsFunc___impl_sieve_impl_sieve__post w x (.returned v) w'
theorem slices_ContainsFunc___impl_sieve_impl_sieve__calls {w:World} {x0:(List (List Int))} {v_x0:Value} {f_x0:List Nat} {g_x1:FuncId} {c_x1:List Value} {x1:((List Int)→Option (Bool))} (h_x0:(sImm (sImm (sInt .i64))).rep w.heap [v_x0] x0 f_x0) (h_x1:FnOk Tryz.prog g_x1∧∀ {W:World} (hW:Chg [] w W) {a0:(List Int)} {v0:Value} {f0:List Nat} (h0:(sImm (sInt .i64)).rep W.heap [v0] a0 f0) {y:Bool} (hm:x1 a0=some y),Calls Tryz.prog g_x1 ([v0]++c_x1).toArray W (fun e W'=>e = .returned (.bool y)∧Chg [] W W')) {y:(Bool)} (hm:slices_ContainsFunc___impl_sieve_impl_sieve_ x0 x1=some y) :
  Calls Tryz.prog 195 #[v_x0,.func (.func g_x1) #[] c_x1.toArray] w (slices_ContainsFunc___impl_sieve_impl_sieve__post w y):=by
 refine calls_of_M (S:=Unit) (args:=[v_x0,.func (.func g_x1) #[] c_x1.toArray]) Tryz.func195 rfl Tryz.ntmps195 (Nat.le_of_ble_eq_true rfl) (retM_some hm) ?_
 clear hm
 intro o ho
 have hB:Chg [] w w:=cr _ _
 refine wq ?_
 refine Wq rfl (cr [] w) ?_
 refine qv (v:=.bool (false)) rfl (fun _ _=>oa _) ?_
 intro wd1 hC2
 refine anz ?_
 refine wq ?_
 refine Wq rfl hC2 ?_
 refine qv (v:=v_x0) rfl (fun _ _=>om _) ?_
 refine qv (v:=.func (.func g_x1) #[] c_x1.toArray) rfl (fun _ _=>om _) ?_
 obtain ⟨y3,hy4,ho⟩:=bs ho
 refine QL.call (v:=.int .i64 (y3)) rfl (fun _ _=>op_callF Tryz.func153 rfl rfl) (fun _ hC=>(slices_IndexFunc___impl_sieve_impl_sieve__calls (kp _ h_x0 (hB.trans hC)) ⟨h_x1.1,fun hW=>h_x1.2 ((hB.trans hC).trans hW)⟩ hy4).mono fun _ _ h=>⟨h.1,hC.trans h.2⟩) ?_
 refine qv (v:=.bool (decide (y3 ≥ (0:Int)))) rfl (fun _ _=>op_bin rfl rfl bin_geq) ?_
 refine qv (v:=.bool (decide (y3 ≥ (0:Int)))) rfl (fun _ _=>oa _) ?_
 intro wd5 hC6
 refine anz ?_
 cases ho
 exact W_ret ⟨_,res_1 Tryz.results195,rfl,(hB.trans hC6)⟩

noncomputable def impl_Category_sieves_2 (x0:(List Int)) (x1:(List Int)):Option (Int):=
 retM (S:=Unit) ((impl_compare x0 x1)>>=fun y3=>(some (Out.ret (y3))))
abbrev impl_Category_sieves_2_post (w:World) (x:(Int)) (e:Ending) (w':World):Prop:=e = .returned (.int .i64 x)∧Chg [] w w'
abbrev impl_Category_sieves_2_T (w:World) (x:(Int)) (r:Nat→Value) (w':World):Prop:=∃ v,(∀ a:Act,a.tmps.size=8→rho a=r→(results Tryz.f198 a.tmps).run Tryz.prog w' = .ok v w')∧impl_Category_sieves_2_post w x (.returned v) w'
theorem impl_Category_sieves_2_calls {w:World} {x0:(List Int)} {v_x0:Value} {f_x0:List Nat} {x1:(List Int)} {v_x1:Value} {f_x1:List Nat} (h_x0:(sImm (sInt .i64)).rep w.heap [v_x0] x0 f_x0) (h_x1:(sImm (sInt .i64)).rep w.heap [v_x1] x1 f_x1) {y:(Int)} (hm:impl_Category_sieves_2 x0 x1=some y) :
  Calls Tryz.prog 198 #[v_x0,v_x1] w (impl_Category_sieves_2_post w y):=by
 refine calls_of_M (S:=Unit) (args:=[v_x0,v_x1]) Tryz.func198 rfl Tryz.ntmps198 (Nat.le_of_ble_eq_true rfl) (retM_some hm) ?_
 clear hm
 intro o ho
 have hB:Chg [] w w:=cr _ _
 refine wq ?_
 refine Wq rfl (cr [] w) ?_
 refine qv (v:=.int .i64 ((0:Int))) rfl (fun _ _=>oa _) ?_
 intro wd1 hC2
 refine anz ?_
 refine wq ?_
 refine Wq rfl hC2 ?_
 refine qv (v:=v_x0) rfl (fun _ _=>om _) ?_
 refine qv (v:=v_x1) rfl (fun _ _=>om _) ?_
 obtain ⟨y3,hy4,ho⟩:=bs ho
 refine QL.call (v:=.int .i64 (y3)) rfl (fun _ _=>op_callF Tryz.func137 rfl rfl) (fun _ hC=>(impl_compare_calls (kp _ h_x0 (hB.trans hC)) (kp _ h_x1 (hB.trans hC)) hy4).mono fun _ _ h=>⟨h.1,hC.trans h.2⟩) ?_
 refine qv (v:=.int .i64 (y3)) rfl (fun _ _=>oa _) ?_
 intro wd5 hC6
 refine anz ?_
 cases ho
 exact W_ret ⟨_,res_1 Tryz.results198,rfl,(hB.trans hC6)⟩

open Classical in
noncomputable def sortM197 (x0:List (List Int)):Option (List (List Int)):=
 if x0 ≠ []∧x0.length < 4611686018427387904∧∀ x∈x0,∀ y∈x0,impl_Category_sieves_2 x y=some (lexCmp x y) then some (x0.mergeSort lexLe) else none
theorem sortM197_calls {w:World} {x0:List (List Int)} {v_x0:Value} {f_x0:List Nat} (o_x0:OE f_x0 w.heap.size w (sOwn 87 (sOwn 2 (sInt .i64))) [v_x0] x0 f_x0) {y:List (List Int)} (hm:sortM197 x0=some y) :
    Calls Tryz.prog 197 #[v_x0,.func (.func 198) #[] #[]] w (fun e w'=>∃ f0,e = .returned (.tuple #[])∧Chg f_x0 w w'∧OE f_x0 w.heap.size w' (sOwn 87 (sOwn 2 (sInt .i64))) [v_x0] y f0):=by
  unfold sortM197 at hm
  split at hm
  · rename_i h
    cases hm
    have hcon:=sort_rows Tryz.sort197 (g:=198) (e1:=87) (T:=(sOwn 2 (sInt .i64))) rfl (fun args w=>enters_of Tryz.func198 (by kernel_rfl) rfl args w) (xs:=x0)
      (fun {W} {x} {y} {vx} {vy} {fx} {fy} hx hy mx my=>impl_Category_sieves_2_calls ((Le.own (Le.refl _) 2).le hx) ((Le.own (Le.refl _) 2).le hy) (h.2.2 x mx y my)) h.1 h.2.1 o_x0
    change Calls Tryz.prog 197 _ _ _ at hcon
    exact hcon
  · cases hm

noncomputable def impl_Category_sieves_L1 (x0:MCategory) (s0_7:Int) (y27:(List Int)) (s1_6:(List (List Int))) (s1_23:Int):Option (Out ((List (List Int))×Int) ((List (List Int))×Bool)):=
 (bif decide (s1_23 < (y27.length:Int)) then ((idx y27 (s1_23))>>=fun e44=>((idx s1_6 (s0_7))>>=fun e48=>((impl_clone e48)>>=fun y55=>((fits 8 (y55.length + 1))>>=fun n81=>((impl_Category_sieveOf x0 (y55++[e44]))>>=fun y87=>((slices_ContainsFunc___impl_sieve_impl_sieve_ s1_6 (fun a0=>impl_Category_sieves_1 a0 y87))>>=fun y115=>(bif y115 then (some (Out.norm (s1_6,w64 (s1_23 + (1:Int))))) else (bif ((s1_6.length:Int)) == ((16:Int)) then (some (Out.ret ((([]),false)))) else ((fits 24 (s1_6.length + 1))>>=fun n146=>(some (Out.norm (s1_6++[y87],w64 (s1_23 + (1:Int)))))))))))))) else (some (Out.exit 2 (s1_6,s1_23))))
noncomputable def impl_Category_sieves_L0 (x0:MCategory) (x1:Int) (s0_6:(List (List Int))) (s0_7:Int):Option (Out ((List (List Int))×Int) ((List (List Int))×Bool)):=
 (bif decide (s0_7 < (s0_6.length:Int)) then ((impl_Category_outOf x0 (x1))>>=fun y27=>(lbind (blockM 2 (loopM (fun s=>impl_Category_sieves_L1 x0 s0_7 y27 s.1 s.2) (s0_6,(0:Int)))) (fun (s1_6,s1_23)=>(some (Out.norm (s1_6,w64 (s0_7 + (1:Int)))))))) else (some (Out.exit 0 (s0_6,s0_7))))
noncomputable def impl_Category_sieves (x0:MCategory) (x1:Int):Option ((List (List Int))×Bool):=
 retM (S:=Unit) (lbind (blockM 0 (loopM (fun s=>impl_Category_sieves_L0 x0 x1 s.1 s.2) ([([]:(List Int))],(0:Int)))) (fun (s0_6,s0_7)=>((sortM197 s0_6)>>=fun y161=>(some (Out.ret ((y161,true)))))))
abbrev impl_Category_sieves_post (w:World) (x:((List (List Int))×Bool)) (e:Ending) (w':World):Prop:=∃ (v0:Value) (f0:List Nat),e = .returned (.tuple #[v0,.bool x.2])∧Chg [] w w'∧OE [] w.heap.size w' (sOwn 87 (sOwn 2 (sInt .i64))) [v0] x.1 f0
abbrev impl_Category_sieves_T (w:World) (x:((List (List Int))×Bool)) (r:Nat→Value) (w':World):Prop:=∃ v,(∀ a:Act,a.tmps.size=51→rho a=r→(results Tryz.f187 a.tmps).run Tryz.prog w' = .ok v w')∧impl_Category_sieves_post w x (.returned v) w'
theorem impl_Category_sieves_calls {w:World} {x0:MCategory} {p_x0:Addr} {z6:Value} {zh:List Nat} {z7:Value} {zg:List Nat} {z9:Value} {zf:List Nat} {z8:Value} {ze:List Nat} {x1:Int} (za:(sImm (sInt .i64)).rep w.heap [z6] x0.From zh) (zb:(sImm (sInt .i64)).rep w.heap [z7] x0.To zg) (zd:(sImm (sInt .i64)).rep w.heap [z9] x0.Identity zf) (zc:(sImm (sImm (sInt .i64))).rep w.heap [z8] x0.Composites ze) (a_x0:At w p_x0 [.int .i64 (x0.Objects),z6,z7,z9,z8]) {y:((List (List Int))×Bool)} (hm:impl_Category_sieves x0 x1=some y) :
  Calls Tryz.prog 187 #[.pointer (some (p_x0)),.int .i64 (x1)] w (impl_Category_sieves_post w y):=by
 refine calls_of_M (S:=Unit) (args:=[.pointer (some (p_x0)),.int .i64 (x1)]) Tryz.func187 rfl Tryz.ntmps187 (Nat.le_of_ble_eq_true rfl) (retM_some hm) ?_
 clear hm
 intro o ho
 have hB:Chg [] w w:=cr _ _
 refine wq ?_
 refine Wq rfl (cr [] w) ?_
 refine qv (v:=.slice none 0 0) rfl (fun _ _=>oa _) ?_
 refine qv (v:=.bool (false)) rfl (fun _ _=>oa _) ?_
 intro wd1 hC2
 refine anz ?_
 refine wq ?_
 refine W_region rfl ?_
 refine WL.lit0 (sInt .i64) u87 info2 fun v3 wd4 f5 hC6 o7=>?_
 replace o7:=OE.low (G:=[]) o7 (hB.trans hC2).size
 have hT8:=hC2.trans hC6
 replace hB:=(hB.trans hT8)
 refine WL.lit1 u110 info87 zr87 sz87 (STy.one _ o7.1 _ (ms rfl)) fun b9 wd10 hC11 hr12 hl13=>?_
 replace hr12:Row wd10 b9 [v3] 87:=hr12
 have lo14:w.heap.size≤b9:=Nat.le_trans (hB.trans (cr [] wd4)).size hl13
 have d15:Dis [b9] f5:=dl (onw hl13) (sl _ (kp _ o7.1 (cr [] wd4)))
 have hT16:=(cr [] wd4).trans hC11
 replace o7:=ko o7 hT16
 replace hB:=(hB.trans hT16)
 have o17:OE [] w.heap.size wd10 (sOwn 87 (sOwn 2 (sInt .i64))) [.slice (some ⟨b9,0,none⟩) 1 1] [([]:(List Int))] (b9 :: f5):=own_row1 rfl hr12 o7.1 o7.2.1 (fun h=>d15 _ (ms rfl) h) lo14 o7.2.2
 refine wv (v:=.slice (some ⟨b9,0,none⟩) 1 1) rfl (oa _) ?_
 refine anz ?_
 refine wq ?_
 refine wq ?_
 refine Wq rfl (cr [] wd10) ?_
 refine qv (v:=.int .i64 ((0:Int))) rfl (fun _ _=>oa _) ?_
 intro wd18 hC19
 refine anz ?_
 refine W_for (S1:=(List (List Int))×Int) (fun s r w'=>match s with | (s0_6,s0_7)=>∃ (v20:Value) (f21:List Nat),Chg [] w w'∧OE [] w.heap.size w' (sOwn 87 (sOwn 2 (sInt .i64))) [v20] (s0_6) f21∧∃ F,r=updL F [(0,.pointer (some (p_x0))),(1,.int .i64 (x1)),(6,v20),(7,.int .i64 (s0_7))]) (T:=impl_Category_sieves_T w) ho ⟨_,_,(hB.trans hC19),(ko o17 hC19),fr ⟨rfl,rfl,rfl,rfl,trivial⟩⟩ ?_ ?_ ?_
 intro x r w' ho hx; subst ho; exact hx
 rintro ⟨s0_6,s0_7⟩ _ wd23 ⟨v20,f21,hB,o22,F,rfl⟩ o ho
 replace ho:impl_Category_sieves_L0 x0 x1 s0_6 s0_7=some o:=ho
 unfold impl_Category_sieves_L0 at ho
 refine wq ?_
 refine wq ?_
 refine Wq rfl (cr [] wd23) ?_
 refine qv (v:=.int .i64 (s0_7)) rfl (fun _ _=>om _) ?_
 refine qv (v:=v20) rfl (fun _ _=>om _) ?_
 refine qv (v:=.int .i64 ((s0_6.length:Int))) rfl (fun _ hC=>op_lenI u110 ((Le.own (Le.own (Le.refl _) 2) 87).le (kp _ o22.1 hC))) ?_
 refine qv (v:=.bool (decide (s0_7 < (s0_6.length:Int)))) rfl (fun _ _=>op_bin rfl rfl bin_lss) ?_
 intro wd24 hC25
 refine anz ?_
 refine W_cond (b:=decide (s0_7 < (s0_6.length:Int))) rfl ?_ ?_
 intro hb26
 rw [hb26] at ho
 refine W_skip ?_
 refine anz ?_
 refine wq ?_
 refine W_block ?_
 refine wq ?_
 refine W_region rfl ?_
 refine wv (v:=.pointer (some (p_x0))) rfl (om _) ?_
 refine wv (v:=.int .i64 (x1)) rfl (om _) ?_
 obtain ⟨y27,hy28,ho⟩:=bs ho
 refine WL.call rfl (op_callF Tryz.func75 rfl rfl) (impl_Category_outOf_calls (kp _ za (hB.trans hC25)) (kp _ zb (hB.trans hC25)) (kp _ zd (hB.trans hC25)) (kp _ zc (hB.trans hC25)) (At.keep0 a_x0 (hB.trans hC25)) hy28) ?_
 rintro _ wd29 ⟨v31,f32,rfl,hC30,o33⟩
 refine ⟨_,rfl,?_⟩
 have d34:Dis f32 f21:=dl (ofr o33) (sl _ (kp _ o22.1 hC25))
 replace o33:=OE.low (G:=[]) o33 (hB.trans hC25).size
 have hT35:=hC25.trans hC30
 replace o22:=ko o22 hT35
 replace hB:=(hB.trans hT35)
 refine wv (v:=.int .i64 ((y27.length:Int))) rfl (op_lenI u22z ((Le.own (Le.refl _) 2).le (kp _ o33.1 (cr [] wd29)))) ?_
 refine wv (v:=.int .i64 ((0:Int))) rfl (om _) ?_
 refine anz ?_
 refine W_for (S1:=(List (List Int))×Int) (fun s r w'=>match s with | (s1_6,s1_23)=>∃ (v36:Value) (f37:List Nat),Chg [] w w'∧OE [] w.heap.size w' (sOwn 2 (sInt .i64)) [v31] (y27) f32∧OE [] w.heap.size w' (sOwn 87 (sOwn 2 (sInt .i64))) [v36] (s1_6) f37∧Dis f32 f37∧∃ F,r=updL F [(0,.pointer (some (p_x0))),(1,.int .i64 (x1)),(6,v36),(7,.int .i64 (s0_7)),(21,v31),(22,.int .i64 ((y27.length:Int))),(23,.int .i64 (s1_23))]) (T:=impl_Category_sieves_T w) ho ⟨_,_,(hB.trans (cr [] wd29)),(ko o33 (cr [] wd29)),(ko o22 (cr [] wd29)),(d34),fr ⟨rfl,rfl,rfl,rfl,rfl,rfl,rfl,trivial⟩⟩ ?_ ?_ ?_
 intro x r w' ho hx; subst ho; exact hx
 rintro ⟨s1_6,s1_23⟩ _ wd40 ⟨v36,f37,hB,o33,o38,d39,F,rfl⟩ o ho
 replace ho:impl_Category_sieves_L1 x0 s0_7 y27 s1_6 s1_23=some o:=ho
 unfold impl_Category_sieves_L1 at ho
 refine wq ?_
 refine Wq rfl (cr [] wd40) ?_
 refine qv (v:=.bool (decide (s1_23 < (y27.length:Int)))) rfl (fun _ _=>op_bin rfl rfl bin_lss) ?_
 intro wd41 hC42
 refine anz ?_
 refine wq ?_
 refine W_cond (b:=decide (s1_23 < (y27.length:Int))) rfl ?_ ?_
 intro hb43
 rw [hb43] at ho
 refine W_skip ?_
 refine anz ?_
 refine wq ?_
 refine W_block ?_
 refine wq ?_
 refine Wq rfl hC42 ?_
 obtain ⟨e44,hx45e,ho⟩:=bs ho
 have hx45:=idx_some hx45e
 refine qv (v:=.pointer (some (elA (v31) 1 (s1_23)))) rfl (fun _ hC=>op_indexI u22z info2 sz2 rfl ((Le.own (Le.refl _) 2).le (kp _ o33.1 hC)) rfl hx45.1 hx45.2) ?_
 refine qv (v:=.int .i64 (e44)) rfl (fun _ hC=>oldz u2z rfl rfl (int_get ((Le.own (Le.refl _) 2).le (kp _ o33.1 hC)) hx45.1 hx45.2)) ?_
 refine qv (v:=.int .i64 (e44)) rfl (fun _ _=>oa _) ?_
 intro wd46 hC47
 refine anz ?_
 refine wq ?_
 refine W_region rfl ?_
 refine wv (v:=.pointer (some (p_x0))) rfl (om _) ?_
 refine wv (v:=v36) rfl (om _) ?_
 refine wv (v:=.int .i64 (s0_7)) rfl (om _) ?_
 obtain ⟨e48,hx49e,ho⟩:=bs ho
 have hx49:=idx_some hx49e
 refine wv (v:=.pointer (some (elA (v36) 1 (s0_7)))) rfl (op_indexI u110 info87 sz87 rfl ((Le.own (Le.own (Le.refl _) 2) 87).le (kp _ o38.1 hC47)) rfl hx49.1 hx49.2) ?_
 obtain ⟨u50,fu51,hu52,hr53,hs54⟩:=one_get rfl ((Le.own (Le.own (Le.refl _) 2) 87).le o38.1) hx49.1 hx49.2
 refine wv (v:=u50) rfl (oldz u87 rfl rfl (hC47.cell0 hu52)) ?_
 obtain ⟨y55,hy56,ho⟩:=bs ho
 refine WL.call rfl (op_callF Tryz.func147 rfl rfl) (impl_clone_calls (kp _ hr53 hC47) hy56) ?_
 rintro _ wd57 ⟨v59,f60,rfl,hC58,o61⟩
 refine ⟨_,rfl,?_⟩
 have d62:Dis f60 f32:=dl (ofr o61) (sl _ (kp _ o33.1 hC47))
 have d63:Dis f60 f37:=dl (ofr o61) (sl _ (kp _ o38.1 hC47))
 replace o61:=OE.low (G:=[]) o61 (hB.trans hC47).size
 have hT64:=hC47.trans hC58
 replace hu52:=hT64.cell0 hu52
 replace hr53:=kp _ hr53 hT64
 replace o33:=ko o33 hT64
 replace o38:=ko o38 hT64
 replace hB:=(hB.trans hT64)
 refine wv (v:=.int .i64 (e44)) rfl (om _) ?_
 refine WL.lit1 u22z info2 zr2 sz2 rfl fun b65 wd66 hC67 hr68 hl69=>?_
 replace hr68:Row wd66 b65 [.int .i64 (e44)] 2:=hr68
 have d72:Dis [b65] f37:=dl (onw hl69) (sl _ (kp _ o38.1 (cr [] wd57)))
 have d73:Dis [b65] f60:=dl (onw hl69) (sl _ (kp _ o61.1 (cr [] wd57)))
 have hT74:=(cr [] wd57).trans hC67
 replace hu52:=hT74.cell0 hu52
 replace hr53:=kp _ hr53 hT74
 replace o33:=ko o33 hT74
 replace o38:=ko o38 hT74
 replace o61:=ko o61 hT74
 replace hB:=(hB.trans hT74)
 obtain ⟨n81,hn82,ho⟩:=bs ho
 have hn82a:=fits_some hn82
 refine WL.append1 (E:=(sInt .i64)) _ _ u22z info2 zr2 sz2 rfl rfl rfl (ko o61 (cr [] wd66)) rfl (kr hr68 (cr [] wd66)) ⟨rfl,rfl⟩ List.nodup_nil (fun _ h=>nomatch h) (fun _ h=>nomatch h) (by rw [by2]; exact hn82a.1) hn82a.2 (hB.trans (cr [] wd66)).size fun v75 wd76 f77 hC78 o79 hs80=>?_
 have d84:Dis f77 f37:=dis_upd hs80 d63 (fun _ h=>nomatch h) (sl _ (kp _ o38.1 (cr [] wd66)))
 have hT86:=((cr [] wd66).nil (G:=f60)).trans hC78
 replace hu52:=hT86.cell (fun hm=>(d63).symm _ (own_blk o38 hx49.2) hm) hu52
 replace hr53:=STy.keep _ hr53 hT86 (fun b hb=>(d63).symm b (hs54 b hb))
 replace o33:=okp o33 hT86 (d62).symm
 replace o38:=okp o38 hT86 (d63).symm
 replace hr68:=Row.keep hr68 hT86 (d73 _ (ms rfl))
 replace hB:=hB.then hT86 o61.2.2
 obtain ⟨y87,hy88,ho⟩:=bs ho
 refine WL.call rfl (op_callF Tryz.func194 rfl rfl) (impl_Category_sieveOf_calls (kp _ za (hB.trans (cr [] wd76))) (kp _ zb (hB.trans (cr [] wd76))) (kp _ zd (hB.trans (cr [] wd76))) (kp _ zc (hB.trans (cr [] wd76))) (At.keep0 a_x0 (hB.trans (cr [] wd76))) ((Le.own (Le.refl _) 2).le (kp _ o79.1 (cr [] wd76))) hy88) ?_
 rintro _ wd89 ⟨v91,f92,rfl,hC90,o93⟩
 refine ⟨_,rfl,?_⟩
 have d94:Dis f92 f32:=dl (ofr o93) (sl _ (kp _ o33.1 (cr [] wd76)))
 have d95:Dis f92 f37:=dl (ofr o93) (sl _ (kp _ o38.1 (cr [] wd76)))
 replace o93:=OE.low (G:=[]) o93 (hB.trans (cr [] wd76)).size
 have hT98:=(cr [] wd76).trans hC90
 replace hu52:=hT98.cell0 hu52
 replace hr53:=kp _ hr53 hT98
 replace o33:=ko o33 hT98
 replace o38:=ko o38 hT98
 replace hr68:=kr hr68 hT98
 replace o79:=ko o79 hT98
 replace hB:=(hB.trans hT98)
 refine WL.alloc info87 zr87 fun b99 wd100 hC101 hr102 hl103=>?_
 replace hr102:Row wd100 b99 [.slice none 0 0] 87:=hr102
 have lo104:w.heap.size≤b99:=Nat.le_trans (hB.trans (cr [] wd89)).size hl103
 have d105:Dis [b99] f32:=dl (onw hl103) (sl _ (kp _ o33.1 (cr [] wd89)))
 have d106:Dis [b99] f37:=dl (onw hl103) (sl _ (kp _ o38.1 (cr [] wd89)))
 have d107:Dis [b99] [b65]:=dl (onw hl103) (one_lt (Row.lt (kr hr68 (cr [] wd89))))
 have d108:Dis [b99] f77:=dl (onw hl103) (sl _ (kp _ o79.1 (cr [] wd89)))
 have d109:Dis [b99] f92:=dl (onw hl103) (sl _ (kp _ o93.1 (cr [] wd89)))
 have hT110:=(cr [] wd89).trans hC101
 replace hu52:=hT110.cell0 hu52
 replace hr53:=kp _ hr53 hT110
 replace o33:=ko o33 hT110
 replace o38:=ko o38 hT110
 replace hr68:=kr hr68 hT110
 replace o79:=ko o79 hT110
 replace o93:=ko o93 hT110
 replace hB:=(hB.trans hT110)
 refine WL.storeRow (j:=0) info87 sz87 (kr hr102 (cr [] wd100)) (Nat.le_of_ble_eq_true rfl) rfl rfl (STy.one _ o93.1 _ (ms rfl)) fun wd111 hC112 hr113=>?_
 replace hr113:Row wd111 b99 [v91] 87:=hr113
 have hT114:=((cr [] wd100).nil (G:=[b99])).trans hC112
 replace hu52:=hT114.cell (fun hm=>(d106).symm _ (own_blk o38 hx49.2) hm) hu52
 replace hr53:=STy.keep _ hr53 hT114 (fun b hb=>(d106).symm b (hs54 b hb))
 replace o33:=okp o33 hT114 (d105).symm
 replace o38:=okp o38 hT114 (d106).symm
 replace hr68:=Row.keep hr68 hT114 ((d107).symm _ (ms rfl))
 replace o79:=okp o79 hT114 (d108).symm
 replace o93:=okp o93 hT114 (d109).symm
 replace hB:=hB.then hT114 (one_then lo104)
 refine anz ?_
 refine wq ?_
 refine wq ?_
 refine Wq rfl (cr [] wd111) ?_
 refine qv (v:=v36) rfl (fun _ _=>om _) ?_
 refine qv (v:=.func (.func 196) #[] #[.pointer (some (⟨b99,0,none⟩))]) rfl (fun _ _=>op_makeFunc (fst:=[]) (cap:=[.tmp 10])) ?_
 obtain ⟨y115,hy116,ho⟩:=bs ho
 refine QL.call (v:=.bool (y115)) rfl (fun _ _=>op_callF Tryz.func195 rfl rfl) (fun _ hC=>(slices_ContainsFunc___impl_sieve_impl_sieve__calls ((Le.own (Le.own (Le.refl _) 2) 87).le (kp _ o38.1 hC)) ⟨⟨_,_,Tryz.func196,rfl,rfl⟩,fun {W} hW {a0} {v0} {f0} h0 {y} hm=>impl_Category_sieves_1_calls h0 ((Le.own (Le.refl _) 2).le (kp _ o93.1 (hC.trans hW))) (kr hr113 (hC.trans hW)).at hm⟩ hy116).mono fun _ _ h=>⟨h.1,hC.trans h.2⟩) ?_
 intro wd117 hC118
 refine anz ?_
 refine W_cond (b:=y115) rfl ?_ ?_
 intro hb119
 rw [hb119] at ho
 refine W_exit ?_
 refine andThen_x ?_
 refine inBlk_x ?_
 refine anz ?_
 refine Wq rfl hC118 ?_
 refine qv (v:=.int .i64 (w64 (s1_23 + (1:Int)))) rfl (fun _ _=>op_bin rfl rfl bin_add) ?_
 refine qv (v:=.int .i64 (w64 (s1_23 + (1:Int)))) rfl (fun _ _=>om _) ?_
 intro wd120 hC121
 cases ho
 exact ⟨_,_,(hB.trans hC121),(ko o33 hC121),(ko o38 hC121),(d39),fr ⟨rfl,rfl,rfl,rfl,rfl,rfl,rfl,trivial⟩⟩
 intro hb119
 rw [hb119] at ho
 refine W_skip ?_
 refine anz ?_
 refine wq ?_
 refine wq ?_
 refine Wq rfl hC118 ?_
 refine qv (v:=v36) rfl (fun _ _=>om _) ?_
 refine qv (v:=.int .i64 ((s1_6.length:Int))) rfl (fun _ hC=>op_lenI u110 ((Le.own (Le.own (Le.refl _) 2) 87).le (kp _ o38.1 hC))) ?_
 refine qv (v:=.bool (((s1_6.length:Int)) == ((16:Int)))) rfl (fun _ _=>op_bin rfl rfl bin_eql) ?_
 intro wd122 hC123
 refine anz ?_
 refine W_cond (b:=((s1_6.length:Int)) == ((16:Int))) rfl ?_ ?_
 intro hb124
 rw [hb124] at ho
 refine wq ?_
 refine Wq rfl hC123 ?_
 refine qv (v:=.slice none 0 0) rfl (fun _ _=>oa _) ?_
 refine qv (v:=.bool (false)) rfl (fun _ _=>oa _) ?_
 intro wd125 hC126
 refine anz ?_
 cases ho
 exact W_ret ⟨_,res_2 Tryz.results187,_,_,rfl,(hB.trans hC126),nil_OE⟩
 intro hb124
 rw [hb124] at ho
 refine W_skip ?_
 refine anz ?_
 refine W_region rfl ?_
 refine wv (v:=v36) rfl (om _) ?_
 refine wv (v:=v91) rfl (oldz u87 rfl rfl ((kr hr113 hC123).at.cell (j:=0) rfl)) ?_
 refine WL.lit1 u110 info87 zr87 sz87 (STy.one _ o93.1 _ (ms rfl)) fun b127 wd128 hC129 hr130 hl131=>?_
 replace hr130:Row wd128 b127 [v91] 87:=hr130
 have d134:Dis [b127] f37:=dl (onw hl131) (sl _ (kp _ o38.1 hC123))
 have hT139:=hC123.trans hC129
 replace hu52:=hT139.cell0 hu52
 replace hr53:=kp _ hr53 hT139
 replace o33:=ko o33 hT139
 replace o38:=ko o38 hT139
 replace hr68:=kr hr68 hT139
 replace o79:=ko o79 hT139
 replace o93:=ko o93 hT139
 replace hr113:=kr hr113 hT139
 replace hB:=(hB.trans hT139)
 obtain ⟨n146,hn147,ho⟩:=bs ho
 have hn147a:=fits_some hn147
 refine WL.append1 (E:=(sOwn 2 (sInt .i64))) _ _ u110 info87 zr87 sz87 rfl rfl rfl (ko o38 (cr [] wd128)) rfl (kr hr130 (cr [] wd128)) (kp _ o93.1 (cr [] wd128)) o93.2.1 o93.2.2 d95 (by rw [by87]; exact hn147a.1) hn147a.2 (hB.trans (cr [] wd128)).size fun v140 wd141 f142 hC143 o144 hs145=>?_
 have d148:Dis f142 f32:=dis_upd hs145 (d39).symm d94 (sl _ (kp _ o33.1 (cr [] wd128)))
 have hT154:=((cr [] wd128).nil (G:=f37)).trans hC143
 replace o33:=okp o33 hT154 d39
 replace hr68:=Row.keep hr68 hT154 (d72 _ (ms rfl))
 replace o79:=okp o79 hT154 d84
 replace hr113:=Row.keep hr113 hT154 (d106 _ (ms rfl))
 replace hr130:=Row.keep hr130 hT154 (d134 _ (ms rfl))
 replace hB:=hB.then hT154 o38.2.2
 refine wv (v:=v140) rfl (oa _) ?_
 refine inBlk_n ?_
 refine anz ?_
 refine Wq rfl (cr [] wd141) ?_
 refine qv (v:=.int .i64 (w64 (s1_23 + (1:Int)))) rfl (fun _ _=>op_bin rfl rfl bin_add) ?_
 refine qv (v:=.int .i64 (w64 (s1_23 + (1:Int)))) rfl (fun _ _=>om _) ?_
 intro wd155 hC156
 cases ho
 exact ⟨_,_,(hB.trans hC156),(ko o33 hC156),(ko o144 hC156),((d148).symm),fr ⟨rfl,rfl,rfl,rfl,rfl,rfl,rfl,trivial⟩⟩
 intro hb43
 rw [hb43] at ho
 refine W_exit ?_
 refine andThen_x ?_
 cases ho
 exact ⟨rfl,⟨_,_,(hB.trans hC42),(ko o33 hC42),(ko o38 hC42),(d39),fr ⟨rfl,rfl,rfl,rfl,rfl,rfl,rfl,trivial⟩⟩⟩
 rintro ⟨s1_6,s1_23⟩ _ wd157 ⟨v36,f37,hB,o33,o38,d39,F,rfl⟩ ho
 dsimp only at ho
 refine inBlk_n ?_
 refine anz ?_
 refine Wq rfl (cr [] wd157) ?_
 refine qv (v:=.int .i64 (s0_7)) rfl (fun _ _=>om _) ?_
 refine qv (v:=.int .i64 (w64 (s0_7 + (1:Int)))) rfl (fun _ _=>op_bin rfl rfl bin_add) ?_
 refine qv (v:=.int .i64 (w64 (s0_7 + (1:Int)))) rfl (fun _ _=>oa _) ?_
 intro wd158 hC159
 cases ho
 exact ⟨_,_,(hB.trans hC159),(ko o38 hC159),fr ⟨rfl,rfl,rfl,rfl,trivial⟩⟩
 intro hb26
 rw [hb26] at ho
 refine W_exit ?_
 refine andThen_x ?_
 cases ho
 exact ⟨rfl,⟨_,_,(hB.trans hC25),(ko o22 hC25),fr ⟨rfl,rfl,rfl,rfl,trivial⟩⟩⟩
 rintro ⟨s0_6,s0_7⟩ _ wd160 ⟨v20,f21,hB,o22,F,rfl⟩ ho
 dsimp only at ho
 refine anz ?_
 refine wq ?_
 refine W_region rfl ?_
 refine wv (v:=v20) rfl (om _) ?_
 obtain ⟨y161,hy162,ho⟩:=bs ho
 refine WL.call rfl (op_callF Tryz.func197 rfl rfl) (sortM197_calls (OE.give (B':=wd160.heap.size) o22 fun _ h=>h) hy162) ?_
 rintro _ wd163 ⟨f165,rfl,hC164,o166⟩
 refine ⟨_,rfl,?_⟩
 replace o166:=OE.back o166 o22.2.2 hB.size
 have hT167:=((cr [] wd160).nil (G:=f21)).trans hC164
 replace hB:=hB.then hT167 o22.2.2
 refine anz ?_
 refine wq ?_
 refine Wq rfl (cr [] wd163) ?_
 refine qv (v:=v20) rfl (fun _ _=>om _) ?_
 refine qv (v:=v20) rfl (fun _ _=>oa _) ?_
 refine qv (v:=.bool (true)) rfl (fun _ _=>oa _) ?_
 intro wd168 hC169
 refine anz ?_
 cases ho
 exact W_ret ⟨_,res_2 Tryz.results187,_,_,rfl,(hB.trans hC169),(ko o166 hC169)⟩

noncomputable def impl_Category_pull_L0 (x0:MCategory) (x1:Int) (x2:(List Int)) (y11:(List Int)) (s0_7:(List Int)) (s0_21:Int):Option (Out ((List Int)×Int) ((List Int))):=
 (bif decide (s0_21 < (y11.length:Int)) then ((idx y11 (s0_21))>>=fun e28=>((impl_Category_then x0 (x1) (e28))>>=fun y32=>((impl_has x2 (y32))>>=fun y34=>(bif y34 then ((fits 8 (s0_7.length + 1))>>=fun n54=>(some (Out.norm (s0_7++[e28],w64 (s0_21 + (1:Int)))))) else (some (Out.norm (s0_7,w64 (s0_21 + (1:Int))))))))) else (some (Out.exit 0 (s0_7,s0_21))))
noncomputable def impl_Category_pull (x0:MCategory) (x1:Int) (x2:(List Int)):Option ((List Int)):=
 retM (S:=Unit) ((idx x0.To (x1))>>=fun e9=>((impl_Category_outOf x0 (e9))>>=fun y11=>(lbind (blockM 0 (loopM (fun s=>impl_Category_pull_L0 x0 x1 x2 y11 s.1 s.2) (([]:(List Int)),(0:Int)))) (fun (s0_7,s0_21)=>(some (Out.ret (s0_7)))))))
abbrev impl_Category_pull_post (w:World) (x:((List Int))) (e:Ending) (w':World):Prop:=∃ (v0:Value) (f0:List Nat),e = .returned (v0)∧Chg [] w w'∧OE [] w.heap.size w' (sOwn 2 (sInt .i64)) [v0] x f0
abbrev impl_Category_pull_T (w:World) (x:((List Int))) (r:Nat→Value) (w':World):Prop:=∃ v,(∀ a:Act,a.tmps.size=37→rho a=r→(results Tryz.f76 a.tmps).run Tryz.prog w' = .ok v w')∧impl_Category_pull_post w x (.returned v) w'
theorem impl_Category_pull_calls {w:World} {x0:MCategory} {p_x0:Addr} {z6:Value} {zh:List Nat} {z7:Value} {zg:List Nat} {z9:Value} {zf:List Nat} {z8:Value} {ze:List Nat} {x1:Int} {x2:(List Int)} {v_x2:Value} {f_x2:List Nat} (za:(sImm (sInt .i64)).rep w.heap [z6] x0.From zh) (zb:(sImm (sInt .i64)).rep w.heap [z7] x0.To zg) (zd:(sImm (sInt .i64)).rep w.heap [z9] x0.Identity zf) (zc:(sImm (sImm (sInt .i64))).rep w.heap [z8] x0.Composites ze) (a_x0:At w p_x0 [.int .i64 (x0.Objects),z6,z7,z9,z8]) (h_x2:(sImm (sInt .i64)).rep w.heap [v_x2] x2 f_x2) {y:((List Int))} (hm:impl_Category_pull x0 x1 x2=some y) :
  Calls Tryz.prog 76 #[.pointer (some (p_x0)),.int .i64 (x1),v_x2] w (impl_Category_pull_post w y):=by
 refine calls_of_M (S:=Unit) (args:=[.pointer (some (p_x0)),.int .i64 (x1),v_x2]) Tryz.func76 rfl Tryz.ntmps76 (Nat.le_of_ble_eq_true rfl) (retM_some hm) ?_
 clear hm
 intro o ho
 have hB:Chg [] w w:=cr _ _
 refine wq ?_
 refine Wq rfl (cr [] w) ?_
 refine qv (v:=.slice none 0 0) rfl (fun _ _=>oa _) ?_
 intro wd1 hC2
 refine anz ?_
 refine wq ?_
 refine W_region rfl ?_
 refine WL.lit0 (sInt .i64) u87 info2 fun v3 wd4 f5 hC6 o7=>?_
 replace o7:=OE.low (G:=[]) o7 (hB.trans hC2).size
 have hT8:=hC2.trans hC6
 replace hB:=(hB.trans hT8)
 refine wv (v:=v3) rfl (oa _) ?_
 refine anz ?_
 refine wq ?_
 refine wq ?_
 refine W_region rfl ?_
 refine wv (v:=.pointer (some (p_x0))) rfl (om _) ?_
 refine wv (v:=.pointer (some (p_x0))) rfl (om _) ?_
 refine wv (v:=.pointer (some (p_x0))) rfl (op_nilCheck rfl) ?_
 refine wv (v:=.pointer (some (p_x0.add 2))) rfl (op_fieldAddrP u27z rfl info22 ne22 rfl rfl) ?_
 refine wv (v:=z7) rfl (oldz u22z rfl rfl ((At.keep0 a_x0 (hB.trans (cr [] wd4))).cell (j:=2) rfl)) ?_
 refine wv (v:=.int .i64 (x1)) rfl (om _) ?_
 obtain ⟨e9,hx10e,ho⟩:=bs ho
 have hx10:=idx_some hx10e
 refine wv (v:=.pointer (some (elA (z7) 1 (x1)))) rfl (op_indexI u22z info2 sz2 rfl (kp _ zb (hB.trans (cr [] wd4))) rfl hx10.1 hx10.2) ?_
 refine wv (v:=.int .i64 (e9)) rfl (oldz u2z rfl rfl (int_get (kp _ zb (hB.trans (cr [] wd4))) hx10.1 hx10.2)) ?_
 obtain ⟨y11,hy12,ho⟩:=bs ho
 refine WL.call rfl (op_callF Tryz.func75 rfl rfl) (impl_Category_outOf_calls (kp _ za (hB.trans (cr [] wd4))) (kp _ zb (hB.trans (cr [] wd4))) (kp _ zd (hB.trans (cr [] wd4))) (kp _ zc (hB.trans (cr [] wd4))) (At.keep0 a_x0 (hB.trans (cr [] wd4))) hy12) ?_
 rintro _ wd13 ⟨v15,f16,rfl,hC14,o17⟩
 refine ⟨_,rfl,?_⟩
 have d18:Dis f16 f5:=dl (ofr o17) (sl _ (kp _ o7.1 (cr [] wd4)))
 replace o17:=OE.low (G:=[]) o17 (hB.trans (cr [] wd4)).size
 have hT19:=(cr [] wd4).trans hC14
 replace o7:=ko o7 hT19
 replace hB:=(hB.trans hT19)
 refine wv (v:=.int .i64 ((y11.length:Int))) rfl (op_lenI u22z ((Le.own (Le.refl _) 2).le (kp _ o17.1 (cr [] wd13)))) ?_
 refine wv (v:=.int .i64 ((0:Int))) rfl (om _) ?_
 refine anz ?_
 refine W_for (S1:=(List Int)×Int) (fun s r w'=>match s with | (s0_7,s0_21)=>∃ (v20:Value) (f21:List Nat),Chg [] w w'∧OE [] w.heap.size w' (sOwn 2 (sInt .i64)) [v15] (y11) f16∧OE [] w.heap.size w' (sOwn 2 (sInt .i64)) [v20] (s0_7) f21∧Dis f16 f21∧∃ F,r=updL F [(0,.pointer (some (p_x0))),(1,.int .i64 (x1)),(2,v_x2),(7,v20),(19,v15),(20,.int .i64 ((y11.length:Int))),(21,.int .i64 (s0_21))]) (T:=impl_Category_pull_T w) ho ⟨_,_,(hB.trans (cr [] wd13)),(ko o17 (cr [] wd13)),(ko o7 (cr [] wd13)),(d18),fr ⟨rfl,rfl,rfl,rfl,rfl,rfl,rfl,trivial⟩⟩ ?_ ?_ ?_
 intro x r w' ho hx; subst ho; exact hx
 rintro ⟨s0_7,s0_21⟩ _ wd24 ⟨v20,f21,hB,o17,o22,d23,F,rfl⟩ o ho
 replace ho:impl_Category_pull_L0 x0 x1 x2 y11 s0_7 s0_21=some o:=ho
 unfold impl_Category_pull_L0 at ho
 refine wq ?_
 refine Wq rfl (cr [] wd24) ?_
 refine qv (v:=.bool (decide (s0_21 < (y11.length:Int)))) rfl (fun _ _=>op_bin rfl rfl bin_lss) ?_
 intro wd25 hC26
 refine anz ?_
 refine wq ?_
 refine W_cond (b:=decide (s0_21 < (y11.length:Int))) rfl ?_ ?_
 intro hb27
 rw [hb27] at ho
 refine W_skip ?_
 refine anz ?_
 refine wq ?_
 refine W_block ?_
 refine wq ?_
 refine Wq rfl hC26 ?_
 obtain ⟨e28,hx29e,ho⟩:=bs ho
 have hx29:=idx_some hx29e
 refine qv (v:=.pointer (some (elA (v15) 1 (s0_21)))) rfl (fun _ hC=>op_indexI u22z info2 sz2 rfl ((Le.own (Le.refl _) 2).le (kp _ o17.1 hC)) rfl hx29.1 hx29.2) ?_
 refine qv (v:=.int .i64 (e28)) rfl (fun _ hC=>oldz u2z rfl rfl (int_get ((Le.own (Le.refl _) 2).le (kp _ o17.1 hC)) hx29.1 hx29.2)) ?_
 refine qv (v:=.int .i64 (e28)) rfl (fun _ _=>oa _) ?_
 intro wd30 hC31
 refine anz ?_
 refine wq ?_
 refine Wq rfl hC31 ?_
 refine qv (v:=v_x2) rfl (fun _ _=>om _) ?_
 refine qv (v:=.pointer (some (p_x0))) rfl (fun _ _=>om _) ?_
 refine qv (v:=.int .i64 (x1)) rfl (fun _ _=>om _) ?_
 refine qv (v:=.int .i64 (e28)) rfl (fun _ _=>om _) ?_
 obtain ⟨y32,hy33,ho⟩:=bs ho
 refine QL.call (v:=.int .i64 (y32)) rfl (fun _ _=>op_callF Tryz.func129 rfl rfl) (fun _ hC=>(impl_Category_then_calls (kp _ za (hB.trans hC)) (kp _ zb (hB.trans hC)) (kp _ zd (hB.trans hC)) (kp _ zc (hB.trans hC)) (At.keep0 a_x0 (hB.trans hC)) hy33).mono fun _ _ h=>⟨h.1,hC.trans h.2⟩) ?_
 obtain ⟨y34,hy35,ho⟩:=bs ho
 refine QL.call (v:=.bool (y34)) rfl (fun _ _=>op_callF Tryz.func126 rfl rfl) (fun _ hC=>(impl_has_calls (kp _ h_x2 (hB.trans hC)) hy35).mono fun _ _ h=>⟨h.1,hC.trans h.2⟩) ?_
 intro wd36 hC37
 refine anz ?_
 refine W_cond (b:=y34) rfl ?_ ?_
 intro hb38
 rw [hb38] at ho
 refine W_region rfl ?_
 refine wv (v:=v20) rfl (om _) ?_
 refine wv (v:=.int .i64 (e28)) rfl (om _) ?_
 refine WL.lit1 u87 info2 zr2 sz2 rfl fun b39 wd40 hC41 hr42 hl43=>?_
 replace hr42:Row wd40 b39 [.int .i64 (e28)] 2:=hr42
 have d46:Dis [b39] f21:=dl (onw hl43) (sl _ (kp _ o22.1 hC37))
 have hT47:=hC37.trans hC41
 replace o17:=ko o17 hT47
 replace o22:=ko o22 hT47
 replace hB:=(hB.trans hT47)
 obtain ⟨n54,hn55,ho⟩:=bs ho
 have hn55a:=fits_some hn55
 refine WL.append1 (E:=(sInt .i64)) _ _ u87 info2 zr2 sz2 rfl rfl rfl (ko o22 (cr [] wd40)) rfl (kr hr42 (cr [] wd40)) ⟨rfl,rfl⟩ List.nodup_nil (fun _ h=>nomatch h) (fun _ h=>nomatch h) (by rw [by2]; exact hn55a.1) hn55a.2 (hB.trans (cr [] wd40)).size fun v48 wd49 f50 hC51 o52 hs53=>?_
 have d56:Dis f50 f16:=dis_upd hs53 (d23).symm (fun _ h=>nomatch h) (sl _ (kp _ o17.1 (cr [] wd40)))
 have hT58:=((cr [] wd40).nil (G:=f21)).trans hC51
 replace o17:=okp o17 hT58 d23
 replace hr42:=Row.keep hr42 hT58 (d46 _ (ms rfl))
 replace hB:=hB.then hT58 o22.2.2
 refine wv (v:=v48) rfl (oa _) ?_
 refine inBlk_n ?_
 refine anz ?_
 refine Wq rfl (cr [] wd49) ?_
 refine qv (v:=.int .i64 (w64 (s0_21 + (1:Int)))) rfl (fun _ _=>op_bin rfl rfl bin_add) ?_
 refine qv (v:=.int .i64 (w64 (s0_21 + (1:Int)))) rfl (fun _ _=>om _) ?_
 intro wd59 hC60
 cases ho
 exact ⟨_,_,(hB.trans hC60),(ko o17 hC60),(ko o52 hC60),((d56).symm),fr ⟨rfl,rfl,rfl,rfl,rfl,rfl,rfl,trivial⟩⟩
 intro hb38
 rw [hb38] at ho
 refine W_skip ?_
 refine inBlk_n ?_
 refine anz ?_
 refine Wq rfl hC37 ?_
 refine qv (v:=.int .i64 (w64 (s0_21 + (1:Int)))) rfl (fun _ _=>op_bin rfl rfl bin_add) ?_
 refine qv (v:=.int .i64 (w64 (s0_21 + (1:Int)))) rfl (fun _ _=>om _) ?_
 intro wd61 hC62
 cases ho
 exact ⟨_,_,(hB.trans hC62),(ko o17 hC62),(ko o22 hC62),(d23),fr ⟨rfl,rfl,rfl,rfl,rfl,rfl,rfl,trivial⟩⟩
 intro hb27
 rw [hb27] at ho
 refine W_exit ?_
 refine andThen_x ?_
 cases ho
 exact ⟨rfl,⟨_,_,(hB.trans hC26),(ko o17 hC26),(ko o22 hC26),(d23),fr ⟨rfl,rfl,rfl,rfl,rfl,rfl,rfl,trivial⟩⟩⟩
 rintro ⟨s0_7,s0_21⟩ _ wd63 ⟨v20,f21,hB,o17,o22,d23,F,rfl⟩ ho
 dsimp only at ho
 refine anz ?_
 refine wq ?_
 refine Wq rfl (cr [] wd63) ?_
 refine qv (v:=v20) rfl (fun _ _=>om _) ?_
 refine qv (v:=v20) rfl (fun _ _=>oa _) ?_
 intro wd64 hC65
 refine anz ?_
 cases ho
 exact W_ret ⟨_,res_1 Tryz.results76,_,_,rfl,(hB.trans hC65),(ko o22 hC65)⟩

noncomputable def impl_classifier_number_1 (x0:(List Int)) (x1:(List Int)):Option (Bool):=
 retM (S:=Unit) ((impl_same x1 x0)>>=fun y3=>(some (Out.ret (y3))))
abbrev impl_classifier_number_1_post (w:World) (x:(Bool)) (e:Ending) (w':World):Prop:=e = .returned (.bool x)∧Chg [] w w'
abbrev impl_classifier_number_1_T (w:World) (x:(Bool)) (r:Nat→Value) (w':World):Prop:=∃ v,(∀ a:Act,a.tmps.size=7→rho a=r→(results Tryz.f154 a.tmps).run Tryz.prog w' = .ok v w')∧impl_classifier_number_1_post w x (.returned v) w'
theorem impl_classifier_number_1_calls {w:World} {x0:(List Int)} {v_x0:Value} {f_x0:List Nat} {x1:(List Int)} {p_x1:Addr} {v_x1:Value} {f_x1:List Nat} (h_x0:(sImm (sInt .i64)).rep w.heap [v_x0] x0 f_x0) (h_x1:(sImm (sInt .i64)).rep w.heap [v_x1] x1 f_x1) (a_x1:At w p_x1 [v_x1]) {y:(Bool)} (hm:impl_classifier_number_1 x0 x1=some y) :
  Calls Tryz.prog 154 #[v_x0,.pointer (some (p_x1))] w (impl_classifier_number_1_post w y):=by
 refine calls_of_M (S:=Unit) (args:=[v_x0,.pointer (some (p_x1))]) Tryz.func154 rfl Tryz.ntmps154 (Nat.le_of_ble_eq_true rfl) (retM_some hm) ?_
 clear hm
 intro o ho
 have hB:Chg [] w w:=cr _ _
 refine wq ?_
 refine Wq rfl (cr [] w) ?_
 refine qv (v:=.bool (false)) rfl (fun _ _=>oa _) ?_
 intro wd1 hC2
 refine anz ?_
 refine wq ?_
 refine Wq rfl hC2 ?_
 refine qv (v:=v_x1) rfl (fun _ hC=>oldz u87 rfl rfl ((At.keep0 a_x1 (hB.trans hC)).cell0 rfl)) ?_
 refine qv (v:=v_x0) rfl (fun _ _=>om _) ?_
 obtain ⟨y3,hy4,ho⟩:=bs ho
 refine QL.call (v:=.bool (y3)) rfl (fun _ _=>op_callF Tryz.func143 rfl rfl) (fun _ hC=>(impl_same_calls (kp _ h_x1 (hB.trans hC)) (kp _ h_x0 (hB.trans hC)) hy4).mono fun _ _ h=>⟨h.1,hC.trans h.2⟩) ?_
 refine qv (v:=.bool (y3)) rfl (fun _ _=>oa _) ?_
 intro wd5 hC6
 refine anz ?_
 cases ho
 exact W_ret ⟨_,res_1 Tryz.results154,rfl,(hB.trans hC6)⟩

noncomputable def impl_classifier_number (x0:MClassifier) (x1:Int) (x2:(List Int)):Option (Int):=
 retM (S:=Unit) ((idx x0.Sieves (x1))>>=fun e8=>((slices_IndexFunc___impl_sieve_impl_sieve_ e8 (fun a0=>impl_classifier_number_1 a0 x2))>>=fun y15=>(some (Out.ret (y15)))))
abbrev impl_classifier_number_post (w:World) (x:(Int)) (e:Ending) (w':World):Prop:=e = .returned (.int .i64 x)∧Chg [] w w'
abbrev impl_classifier_number_T (w:World) (x:(Int)) (r:Nat→Value) (w':World):Prop:=∃ v,(∀ a:Act,a.tmps.size=16→rho a=r→(results Tryz.f107 a.tmps).run Tryz.prog w' = .ok v w')∧impl_classifier_number_post w x (.returned v) w'
theorem impl_classifier_number_calls {w:World} {x0:MClassifier} {p_x0:Addr} {z2n:Value} {z36:List Nat} {z2o:Value} {z37:List Nat} {z2p:Value} {z38:List Nat} {z2q:Value} {z39:List Nat} {z2r:Value} {z3a:List Nat} {z2s:Value} {z3b:List Nat} {z26:Value} {z3c:List Nat} {x1:Int} {x2:(List Int)} {v_x2:Value} {f_x2:List Nat} (z3p:(sImm (sInt .i64)).rep w.heap [z2n] x0.Sets.Shape.From z36) (z3q:(sImm (sInt .i64)).rep w.heap [z2o] x0.Sets.Shape.To z37) (z3r:(sImm (sInt .i64)).rep w.heap [z2p] x0.Sets.Shape.Identity z38) (z3s:(sImm (sImm (sInt .i64))).rep w.heap [z2q] x0.Sets.Shape.Composites z39) (z3t:(sImm (sInt .i64)).rep w.heap [z2r] x0.Sets.Sizes z3a) (z3u:(sImm (sImm (sInt .i64))).rep w.heap [z2s] x0.Sets.Actions z3b) (z2t:(sImm (sImm (sImm (sInt .i64)))).rep w.heap [z26] x0.Sieves z3c) (a_x0:At w p_x0 [.int .i64 (x0.Sets.Shape.Objects),z2n,z2o,z2p,z2q,z2r,z2s,z26]) (h_x2:(sImm (sInt .i64)).rep w.heap [v_x2] x2 f_x2) {y:(Int)} (hm:impl_classifier_number x0 x1 x2=some y) :
  Calls Tryz.prog 107 #[.pointer (some (p_x0)),.int .i64 (x1),v_x2] w (impl_classifier_number_post w y):=by
 refine calls_of_M (S:=Unit) (args:=[.pointer (some (p_x0)),.int .i64 (x1),v_x2]) Tryz.func107 rfl Tryz.ntmps107 (Nat.le_of_ble_eq_true rfl) (retM_some hm) ?_
 clear hm
 intro o ho
 have hB:Chg [] w w:=cr _ _
 refine wq ?_
 refine W_region rfl ?_
 refine WL.box fun b1 wd2 hC3 hr4 hl5=>?_
 replace hr4:Row wd2 b1 [v_x2] 87:=(congrArg (fun c:Array Value=>Row wd2 b1 c.toList 87) (cells_one (v:=v_x2) (STy.one _ h_x2 _ (ms rfl)))).mp hr4
 have hT7:=(cr [] w).trans hC3
 replace hB:=(hB.trans hT7)
 refine wv (v:=.int .i64 ((0:Int))) rfl (oa _) ?_
 refine anz ?_
 refine wq ?_
 refine Wq rfl (cr [] wd2) ?_
 refine qv (v:=.pointer (some (p_x0))) rfl (fun _ _=>om _) ?_
 refine qv (v:=.pointer (some (p_x0))) rfl (fun _ _=>op_nilCheck rfl) ?_
 refine qv (v:=.pointer (some (p_x0.add 7))) rfl (fun _ _=>op_fieldAddrP u131 rfl info129 ne129 rfl rfl) ?_
 refine qv (v:=z26) rfl (fun _ hC=>oldz u129 rfl rfl ((At.keep0 a_x0 (hB.trans hC)).cell (j:=7) rfl)) ?_
 refine qv (v:=.int .i64 (x1)) rfl (fun _ _=>om _) ?_
 obtain ⟨e8,hx9e,ho⟩:=bs ho
 have hx9:=idx_some hx9e
 refine qv (v:=.pointer (some (elA (z26) 1 (x1)))) rfl (fun _ hC=>op_indexI u129 info110 sz110 rfl (kp _ z2t (hB.trans hC)) rfl hx9.1 hx9.2) ?_
 obtain ⟨u10,fu11,hu12,hr13,hs14⟩:=one_get rfl z2t hx9.1 hx9.2
 refine qv (v:=u10) rfl (fun _ hC=>oldz u110 rfl rfl ((hB.trans hC).cell0 hu12)) ?_
 refine qv (v:=.func (.func 154) #[] #[.pointer (some (⟨b1,0,none⟩))]) rfl (fun _ _=>op_makeFunc (fst:=[]) (cap:=[.tmp 5])) ?_
 obtain ⟨y15,hy16,ho⟩:=bs ho
 refine QL.call (v:=.int .i64 (y15)) rfl (fun _ _=>op_callF Tryz.func153 rfl rfl) (fun _ hC=>(slices_IndexFunc___impl_sieve_impl_sieve__calls (kp _ hr13 (hB.trans hC)) ⟨⟨_,_,Tryz.func154,rfl,rfl⟩,fun {W} hW {a0} {v0} {f0} h0 {y} hm=>impl_classifier_number_1_calls h0 (kp _ h_x2 (hB.trans (hC.trans hW))) (kr hr4 (hC.trans hW)).at hm⟩ hy16).mono fun _ _ h=>⟨h.1,hC.trans h.2⟩) ?_
 refine qv (v:=.int .i64 (y15)) rfl (fun _ _=>oa _) ?_
 intro wd17 hC18
 refine anz ?_
 cases ho
 exact W_ret ⟨_,res_1 Tryz.results107,rfl,(hB.trans hC18)⟩

noncomputable def impl_Category_classifier_L0 (x0:MCategory) (s0_5:Int) (s0_b26_5:(List Int)) (s0_b26_7:(List (List (List Int)))):Option (Out (Int×(List Int)×(List (List (List Int)))) ((Option MClassifier)×Bool)):=
 (bif decide (s0_5 < x0.Objects) then ((impl_Category_sieves x0 (s0_5))>>=fun y70=>(bif !(y70.2) then (some (Out.ret ((none,(false))))) else ((fits 24 (s0_b26_7.length + 1))>>=fun n111=>((fits 8 (s0_b26_5.length + 1))>>=fun n147=>(some (Out.norm (w64 (s0_5 + (1:Int)),s0_b26_5++[(y70.1.length:Int)],s0_b26_7++[y70.1]))))))) else (some (Out.exit 0 (s0_5,s0_b26_5,s0_b26_7))))
noncomputable def impl_Category_classifier_L2 (x0:MCategory) (y3:MCategory) (s0_b26_5:(List Int)) (s0_b26_7:(List (List (List Int)))) (s1_61:Int) (s1_b26_6:(List (List Int))) (e220:(List (List Int))) (s2_9:(List Int)) (s2_79:Int):Option (Out ((List Int)×Int) ((Option MClassifier)×Bool)):=
 (bif decide (s2_79 < (e220.length:Int)) then ((idx e220 (s2_79))>>=fun e272=>((idx x0.To (s1_61))>>=fun e281=>((impl_Category_pull x0 (s1_61) e272)>>=fun y283=>((impl_classifier_number (MClassifier.mk (MSetFunctor.mk y3 s0_b26_5 s1_b26_6) s0_b26_7) (e281) y283)>>=fun y288=>((fits 8 (s2_9.length + 1))>>=fun n322=>(some (Out.norm (s2_9++[y288],w64 (s2_79 + (1:Int)))))))))) else (some (Out.exit 4 (s2_9,s2_79))))
noncomputable def impl_Category_classifier_L1 (x0:MCategory) (y3:MCategory) (s0_b26_5:(List Int)) (s0_b26_7:(List (List (List Int)))) (s1_61:Int) (s1_b26_6:(List (List Int))):Option (Out (Int×(List (List Int))) ((Option MClassifier)×Bool)):=
 (bif decide (s1_61 < (x0.From.length:Int)) then ((idx x0.From (s1_61))>>=fun e218=>((idx s0_b26_7 (e218))>>=fun e220=>(lbind (blockM 4 (loopM (fun s=>impl_Category_classifier_L2 x0 y3 s0_b26_5 s0_b26_7 s1_61 s1_b26_6 e220 s.1 s.2) (([]:(List Int)),(0:Int)))) (fun (s2_9,s2_79)=>((fits 24 (s1_b26_6.length + 1))>>=fun n360=>(some (Out.norm (w64 (s1_61 + (1:Int)),s1_b26_6++[s2_9])))))))) else (some (Out.exit 2 (s1_61,s1_b26_6))))
noncomputable def impl_Category_classifier (x0:MCategory):Option ((Option MClassifier)×Bool):=
 retM (S:=Unit) ((impl_Category_copy x0)>>=fun y3=>(lbind (blockM 0 (loopM (fun s=>impl_Category_classifier_L0 x0 s.1 s.2.1 s.2.2) ((0:Int),[],[]))) (fun (s0_5,s0_b26_5,s0_b26_7)=>(lbind (blockM 2 (loopM (fun s=>impl_Category_classifier_L1 x0 y3 s0_b26_5 s0_b26_7 s.1 s.2) ((0:Int),[]))) (fun (s1_61,s1_b26_6)=>(some (Out.ret (((some (MClassifier.mk (MSetFunctor.mk y3 s0_b26_5 s1_b26_6) s0_b26_7)),(true))))))))))
abbrev impl_Category_classifier_post (w:World) (x:((Option MClassifier)×Bool)) (e:Ending) (w':World):Prop:=∃ (v0:Value),e = .returned (.tuple #[v0,.bool x.2])∧Chg [] w w'∧(match x.1 with | none=>(v0 = .pointer none) | some m0=>∃ (b101:Nat) (v101:Value) (f101:List Nat) (v102:Value) (f102:List Nat) (v103:Value) (f103:List Nat) (v104:Value) (f104:List Nat) (v105:Value) (f105:List Nat) (v106:Value) (f106:List Nat) (v107:Value) (f107:List Nat),v0 = .pointer (some (⟨b101,0,none⟩))∧OE [] w.heap.size w' (sOwn 2 (sInt .i64)) [v101] m0.Sets.Shape.From f101∧OE [] w.heap.size w' (sOwn 2 (sInt .i64)) [v102] m0.Sets.Shape.To f102∧OE [] w.heap.size w' (sOwn 2 (sInt .i64)) [v103] m0.Sets.Shape.Identity f103∧OE [] w.heap.size w' (sOwn 22 (sOwn 2 (sInt .i64))) [v104] m0.Sets.Shape.Composites f104∧OE [] w.heap.size w' (sOwn 2 (sInt .i64)) [v105] m0.Sets.Sizes f105∧OE [] w.heap.size w' (sOwn 22 (sOwn 2 (sInt .i64))) [v106] m0.Sets.Actions f106∧OE [] w.heap.size w' (sOwn 110 (sOwn 87 (sOwn 2 (sInt .i64)))) [v107] m0.Sieves f107∧Row w' b101 [.int .i64 (m0.Sets.Shape.Objects),v101,v102,v103,v104,v105,v106,v107] 131∧w.heap.size≤b101∧Dis f101 f102∧Dis f101 f103∧Dis f101 f104∧Dis f101 f105∧Dis f101 f106∧Dis f101 f107∧Dis f101 [b101]∧Dis f102 f103∧Dis f102 f104∧Dis f102 f105∧Dis f102 f106∧Dis f102 f107∧Dis f102 [b101]∧Dis f103 f104∧Dis f103 f105∧Dis f103 f106∧Dis f103 f107∧Dis f103 [b101]∧Dis f104 f105∧Dis f104 f106∧Dis f104 f107∧Dis f104 [b101]∧Dis f105 f106∧Dis f105 f107∧Dis f105 [b101]∧Dis f106 f107∧Dis f106 [b101]∧Dis f107 [b101])
abbrev impl_Category_classifier_T (w:World) (x:((Option MClassifier)×Bool)) (r:Nat→Value) (w':World):Prop:=∃ v,(∀ a:Act,a.tmps.size=114→rho a=r→(results Tryz.f168 a.tmps).run Tryz.prog w' = .ok v w')∧impl_Category_classifier_post w x (.returned v) w'
theorem impl_Category_classifier_calls {w:World} {x0:MCategory} {p_x0:Addr} {z6:Value} {zh:List Nat} {z7:Value} {zg:List Nat} {z9:Value} {zf:List Nat} {z8:Value} {ze:List Nat} (za:(sImm (sInt .i64)).rep w.heap [z6] x0.From zh) (zb:(sImm (sInt .i64)).rep w.heap [z7] x0.To zg) (zd:(sImm (sInt .i64)).rep w.heap [z9] x0.Identity zf) (zc:(sImm (sImm (sInt .i64))).rep w.heap [z8] x0.Composites ze) (a_x0:At w p_x0 [.int .i64 (x0.Objects),z6,z7,z9,z8]) {y:((Option MClassifier)×Bool)} (hm:impl_Category_classifier x0=some y) :
  Calls Tryz.prog 168 #[.pointer (some (p_x0))] w (impl_Category_classifier_post w y):=by
 refine calls_of_M (S:=Unit) (args:=[.pointer (some (p_x0))]) Tryz.func168 rfl Tryz.ntmps168 (Nat.le_of_ble_eq_true rfl) (retM_some hm) ?_
 clear hm
 intro o ho
 have hB:Chg [] w w:=cr _ _
 refine wq ?_
 refine Wq rfl (cr [] w) ?_
 refine qv (v:=.pointer none) rfl (fun _ _=>oa _) ?_
 refine qv (v:=.bool (false)) rfl (fun _ _=>oa _) ?_
 intro wd1 hC2
 refine anz ?_
 refine wq ?_
 refine W_region rfl ?_
 refine wv (v:=.pointer (some (p_x0))) rfl (om _) ?_
 obtain ⟨y3,hy4,ho⟩:=bs ho
 refine WL.call rfl (op_callF Tryz.func146 rfl rfl) (impl_Category_copy_calls (kp _ za (hB.trans hC2)) (kp _ zb (hB.trans hC2)) (kp _ zd (hB.trans hC2)) (kp _ zc (hB.trans hC2)) (At.keep0 a_x0 (hB.trans hC2)) hy4) ?_
 rintro _ wd5 ⟨v7,f8,v10,f11,v13,f14,v16,f17,rfl,hC6,o9,o12,o15,o18,d19,d20,d21,d22,d23,d24⟩
 refine ⟨_,rfl,?_⟩
 replace o9:=OE.low (G:=[]) o9 (hB.trans hC2).size
 replace o12:=OE.low (G:=[]) o12 (hB.trans hC2).size
 replace o15:=OE.low (G:=[]) o15 (hB.trans hC2).size
 replace o18:=OE.low (G:=[]) o18 (hB.trans hC2).size
 have hT25:=hC2.trans hC6
 replace hB:=(hB.trans hT25)
 refine wv (v:=.agg #[.int .i64 (y3.Objects),v7,v10,v13,v16,.slice none 0 0,.slice none 0 0]) rfl (op_build (bld62_0 rfl (STy.one _ o9.1 _ (ms rfl)) (STy.one _ o12.1 _ (ms rfl)) (STy.one _ o15.1 _ (ms rfl)) (STy.one _ o18.1 _ (ms rfl)))) ?_
 refine wv (v:=.agg #[.int .i64 (y3.Objects),v7,v10,v13,v16,.slice none 0 0,.slice none 0 0,.slice none 0 0]) rfl (op_build (bld131_0 rfl (STy.one _ o9.1 _ (ms rfl)) (STy.one _ o12.1 _ (ms rfl)) (STy.one _ o15.1 _ (ms rfl)) (STy.one _ o18.1 _ (ms rfl)) rfl rfl)) ?_
 refine WL.box fun b26 wd27 hC28 hr29 hl30=>?_
 replace hr29:Row wd27 b26 [.int .i64 (y3.Objects),v7,v10,v13,v16,.slice none 0 0,.slice none 0 0,.slice none 0 0] 131:=hr29
 have lo31:w.heap.size≤b26:=Nat.le_trans (hB.trans (cr [] wd5)).size hl30
 have d32:Dis [b26] f8:=dl (onw hl30) (sl _ (kp _ o9.1 (cr [] wd5)))
 have d33:Dis [b26] f11:=dl (onw hl30) (sl _ (kp _ o12.1 (cr [] wd5)))
 have d34:Dis [b26] f14:=dl (onw hl30) (sl _ (kp _ o15.1 (cr [] wd5)))
 have d35:Dis [b26] f17:=dl (onw hl30) (sl _ (kp _ o18.1 (cr [] wd5)))
 have hT36:=(cr [] wd5).trans hC28
 replace o9:=ko o9 hT36
 replace o12:=ko o12 hT36
 replace o15:=ko o15 hT36
 replace o18:=ko o18 hT36
 replace hB:=(hB.trans hT36)
 refine wv (v:=.pointer (some (⟨b26,0,none⟩))) rfl (oa _) ?_
 refine anz ?_
 refine wq ?_
 refine wq ?_
 refine Wq rfl (cr [] wd27) ?_
 refine qv (v:=.int .i64 ((0:Int))) rfl (fun _ _=>oa _) ?_
 intro wd37 hC38
 refine anz ?_
 refine W_for (S1:=Int×(List Int)×(List (List (List Int)))) (fun s r w'=>match s with | (s0_5,s0_b26_5,s0_b26_7)=>∃ (v39:Value) (f40:List Nat) (v42:Value) (f43:List Nat),Chg [] w w'∧OE [] w.heap.size w' (sOwn 2 (sInt .i64)) [v7] (y3.From) f8∧OE [] w.heap.size w' (sOwn 2 (sInt .i64)) [v10] (y3.To) f11∧OE [] w.heap.size w' (sOwn 2 (sInt .i64)) [v13] (y3.Identity) f14∧OE [] w.heap.size w' (sOwn 22 (sOwn 2 (sInt .i64))) [v16] (y3.Composites) f17∧Row w' b26 [.int .i64 (y3.Objects),v7,v10,v13,v16,v39,.slice none 0 0,v42] 131∧OE [] w.heap.size w' (sOwn 2 (sInt .i64)) [v39] (s0_b26_5) f40∧OE [] w.heap.size w' (sOwn 110 (sOwn 87 (sOwn 2 (sInt .i64)))) [v42] (s0_b26_7) f43∧Dis f8 f11∧Dis f8 f14∧Dis f8 f17∧Dis f8 [b26]∧Dis f8 f40∧Dis f8 f43∧Dis f11 f14∧Dis f11 f17∧Dis f11 [b26]∧Dis f11 f40∧Dis f11 f43∧Dis f14 f17∧Dis f14 [b26]∧Dis f14 f40∧Dis f14 f43∧Dis f17 [b26]∧Dis f17 f40∧Dis f17 f43∧Dis [b26] f40∧Dis [b26] f43∧Dis f40 f43∧∃ F,r=updL F [(0,.pointer (some (p_x0))),(4,.pointer (some (⟨b26,0,none⟩))),(5,.int .i64 (s0_5))]) (T:=impl_Category_classifier_T w) ho ⟨_,_,_,_,(hB.trans hC38),(ko o9 hC38),(ko o12 hC38),(ko o15 hC38),(ko o18 hC38),(kr hr29 hC38),nil_OE,nil_OE,(d19),(d20),(d21),((d32).symm),(fun _ _ h=>nomatch h),(fun _ _ h=>nomatch h),(d22),(d23),((d33).symm),(fun _ _ h=>nomatch h),(fun _ _ h=>nomatch h),(d24),((d34).symm),(fun _ _ h=>nomatch h),(fun _ _ h=>nomatch h),((d35).symm),(fun _ _ h=>nomatch h),(fun _ _ h=>nomatch h),(fun _ _ h=>nomatch h),(fun _ _ h=>nomatch h),(fun _ h=>nomatch h),fr ⟨rfl,rfl,rfl,trivial⟩⟩ ?_ ?_ ?_
 intro x r w' ho hx; subst ho; exact hx
 rintro ⟨s0_5,s0_b26_5,s0_b26_7⟩ _ wd66 ⟨v39,f40,v42,f43,hB,o9,o12,o15,o18,hr29,o41,o44,d45,d46,d47,d48,d49,d50,d51,d52,d53,d54,d55,d56,d57,d58,d59,d60,d61,d62,d63,d64,d65,F,rfl⟩ o ho
 replace ho:impl_Category_classifier_L0 x0 s0_5 s0_b26_5 s0_b26_7=some o:=ho
 unfold impl_Category_classifier_L0 at ho
 refine wq ?_
 refine wq ?_
 refine Wq rfl (cr [] wd66) ?_
 refine qv (v:=.int .i64 (s0_5)) rfl (fun _ _=>om _) ?_
 refine qv (v:=.pointer (some (p_x0))) rfl (fun _ _=>om _) ?_
 refine qv (v:=.pointer (some (p_x0))) rfl (fun _ _=>op_nilCheck rfl) ?_
 refine qv (v:=.pointer (some (p_x0))) rfl (fun _ _=>op_fieldAddr0 u27z rfl info2 ne2 rfl rfl) ?_
 refine qv (v:=.int .i64 (x0.Objects)) rfl (fun _ hC=>oldz u2z rfl rfl ((At.keep0 a_x0 (hB.trans hC)).cell0 rfl)) ?_
 refine qv (v:=.bool (decide (s0_5 < x0.Objects))) rfl (fun _ _=>op_bin rfl rfl bin_lss) ?_
 intro wd67 hC68
 refine anz ?_
 refine W_cond (b:=decide (s0_5 < x0.Objects)) rfl ?_ ?_
 intro hb69
 rw [hb69] at ho
 refine W_skip ?_
 refine anz ?_
 refine wq ?_
 refine W_block ?_
 refine wq ?_
 refine W_region rfl ?_
 refine wv (v:=.pointer (some (p_x0))) rfl (om _) ?_
 refine wv (v:=.int .i64 (s0_5)) rfl (om _) ?_
 obtain ⟨y70,hy71,ho⟩:=bs ho
 refine WL.call rfl (op_callF Tryz.func187 rfl rfl) (impl_Category_sieves_calls (kp _ za (hB.trans hC68)) (kp _ zb (hB.trans hC68)) (kp _ zd (hB.trans hC68)) (kp _ zc (hB.trans hC68)) (At.keep0 a_x0 (hB.trans hC68)) hy71) ?_
 rintro _ wd72 ⟨v74,f75,rfl,hC73,o76⟩
 refine ⟨_,rfl,?_⟩
 have d77:Dis f75 f8:=dl (ofr o76) (sl _ (kp _ o9.1 hC68))
 have d78:Dis f75 f11:=dl (ofr o76) (sl _ (kp _ o12.1 hC68))
 have d79:Dis f75 f14:=dl (ofr o76) (sl _ (kp _ o15.1 hC68))
 have d80:Dis f75 f17:=dl (ofr o76) (sl _ (kp _ o18.1 hC68))
 have d81:Dis f75 [b26]:=dl (ofr o76) (one_lt (Row.lt (kr hr29 hC68)))
 have d82:Dis f75 f40:=dl (ofr o76) (sl _ (kp _ o41.1 hC68))
 have d83:Dis f75 f43:=dl (ofr o76) (sl _ (kp _ o44.1 hC68))
 replace o76:=OE.low (G:=[]) o76 (hB.trans hC68).size
 have hT84:=hC68.trans hC73
 replace o9:=ko o9 hT84
 replace o12:=ko o12 hT84
 replace o15:=ko o15 hT84
 replace o18:=ko o18 hT84
 replace hr29:=kr hr29 hT84
 replace o41:=ko o41 hT84
 replace o44:=ko o44 hT84
 replace hB:=(hB.trans hT84)
 refine wv (v:=.tuple #[v74,.bool (y70.2)]) rfl (om _) ?_
 refine wv (v:=v74) rfl (op_extract rfl rfl) ?_
 refine wv (v:=.bool (y70.2)) rfl (op_extract rfl rfl) ?_
 refine wv (v:=v74) rfl (oa _) ?_
 refine wv (v:=.bool (y70.2)) rfl (oa _) ?_
 refine anz ?_
 refine wq ?_
 refine wq ?_
 refine Wq rfl (cr [] wd72) ?_
 refine qv (v:=.bool (y70.2)) rfl (fun _ _=>om _) ?_
 refine qv (v:=.bool (!(y70.2))) rfl (fun _ _=>op_not rfl) ?_
 intro wd85 hC86
 refine anz ?_
 refine W_cond (b:=!(y70.2)) rfl ?_ ?_
 intro hb87
 rw [hb87] at ho
 refine wq ?_
 refine Wq rfl hC86 ?_
 refine qv (v:=.pointer none) rfl (fun _ _=>oa _) ?_
 refine qv (v:=.bool (false)) rfl (fun _ _=>oa _) ?_
 intro wd88 hC89
 refine anz ?_
 cases ho
 exact W_ret ⟨_,res_2 Tryz.results168,_,rfl,(hB.trans hC89),rfl⟩
 intro hb87
 rw [hb87] at ho
 refine W_skip ?_
 refine anz ?_
 refine wq ?_
 refine W_region rfl ?_
 refine wv (v:=.pointer (some (⟨b26,0,none⟩))) rfl (om _) ?_
 refine wv (v:=.pointer (some (⟨b26,0,none⟩))) rfl (om _) ?_
 refine wv (v:=.pointer (some (⟨b26,0,none⟩))) rfl (op_nilCheck rfl) ?_
 refine wv (v:=.pointer (some (⟨b26,7,none⟩))) rfl (op_fieldAddrR u131 rfl info129 ne129 rfl rfl) ?_
 refine wv (v:=v42) rfl (oldz u129 rfl rfl ((kr hr29 hC86).at.cell (j:=7) rfl)) ?_
 refine wv (v:=v74) rfl (om _) ?_
 refine WL.lit1 u129 info110 zr110 sz110 (STy.one _ o76.1 _ (ms rfl)) fun b90 wd91 hC92 hr93 hl94=>?_
 replace hr93:Row wd91 b90 [v74] 110:=hr93
 have d100:Dis [b90] [b26]:=dl (onw hl94) (one_lt (Row.lt (kr hr29 hC86)))
 have d101:Dis [b90] f40:=dl (onw hl94) (sl _ (kp _ o41.1 hC86))
 have d102:Dis [b90] f43:=dl (onw hl94) (sl _ (kp _ o44.1 hC86))
 have hT104:=hC86.trans hC92
 replace o9:=ko o9 hT104
 replace o12:=ko o12 hT104
 replace o15:=ko o15 hT104
 replace o18:=ko o18 hT104
 replace hr29:=kr hr29 hT104
 replace o41:=ko o41 hT104
 replace o44:=ko o44 hT104
 replace o76:=ko o76 hT104
 replace hB:=(hB.trans hT104)
 obtain ⟨n111,hn112,ho⟩:=bs ho
 have hn112a:=fits_some hn112
 refine WL.append1 (E:=(sOwn 87 (sOwn 2 (sInt .i64)))) _ _ u129 info110 zr110 sz110 rfl rfl rfl (ko o44 (cr [] wd91)) rfl (kr hr93 (cr [] wd91)) (kp _ o76.1 (cr [] wd91)) o76.2.1 o76.2.2 d83 (by rw [by110]; exact hn112a.1) hn112a.2 (hB.trans (cr [] wd91)).size fun v105 wd106 f107 hC108 o109 hs110=>?_
 have d113:Dis f107 f8:=dis_upd hs110 (d50).symm d77 (sl _ (kp _ o9.1 (cr [] wd91)))
 have d114:Dis f107 f11:=dis_upd hs110 (d55).symm d78 (sl _ (kp _ o12.1 (cr [] wd91)))
 have d115:Dis f107 f14:=dis_upd hs110 (d59).symm d79 (sl _ (kp _ o15.1 (cr [] wd91)))
 have d116:Dis f107 f17:=dis_upd hs110 (d62).symm d80 (sl _ (kp _ o18.1 (cr [] wd91)))
 have d117:Dis f107 [b26]:=dis_upd hs110 (d64).symm d81 (one_lt (Row.lt (kr hr29 (cr [] wd91))))
 have d118:Dis f107 f40:=dis_upd hs110 (d65).symm d82 (sl _ (kp _ o41.1 (cr [] wd91)))
 have hl120:=imm_len ((Le.own (Le.own (Le.refl _) 2) 87).le (kp _ o76.1 (cr [] wd91)))
 have hT121:=((cr [] wd91).nil (G:=f43)).trans hC108
 replace o9:=okp o9 hT121 d50
 replace o12:=okp o12 hT121 d55
 replace o15:=okp o15 hT121 d59
 replace o18:=okp o18 hT121 d62
 replace hr29:=Row.keep hr29 hT121 (d64 _ (ms rfl))
 replace o41:=okp o41 hT121 d65
 replace hr93:=Row.keep hr93 hT121 (d102 _ (ms rfl))
 replace hB:=hB.then hT121 o44.2.2
 refine wv (v:=.pointer (some (⟨b26,0,none⟩))) rfl (op_nilCheck rfl) ?_
 refine wv (v:=.pointer (some (⟨b26,7,none⟩))) rfl (op_fieldAddrR u131 rfl info129 ne129 rfl rfl) ?_
 refine WL.storeRow (j:=7) info129 sz129 (kr hr29 (cr [] wd106)) (Nat.le_of_ble_eq_true rfl) rfl rfl (STy.one _ o109.1 _ (ms rfl)) fun wd122 hC123 hr124=>?_
 replace hr124:Row wd122 b26 [.int .i64 (y3.Objects),v7,v10,v13,v16,v39,.slice none 0 0,v105] 131:=hr124
 have hT125:=((cr [] wd106).nil (G:=[b26])).trans hC123
 replace o9:=okp o9 hT125 d48
 replace o12:=okp o12 hT125 d53
 replace o15:=okp o15 hT125 d57
 replace o18:=okp o18 hT125 d60
 replace o41:=okp o41 hT125 (d63).symm
 replace hr93:=Row.keep hr93 hT125 (d100 _ (ms rfl))
 replace o109:=okp o109 hT125 d117
 replace hB:=hB.then hT125 (one_then lo31)
 refine anz ?_
 refine W_region rfl ?_
 refine wv (v:=.pointer (some (⟨b26,0,none⟩))) rfl (om _) ?_
 refine wv (v:=.pointer (some (⟨b26,0,none⟩))) rfl (om _) ?_
 refine wv (v:=.pointer (some (⟨b26,0,none⟩))) rfl (op_nilCheck rfl) ?_
 refine wv (v:=.pointer (some (⟨b26,0,none⟩))) rfl (op_fieldAddrR u131 rfl info62 ne62 rfl rfl) ?_
 refine wv (v:=.pointer (some (⟨b26,5,none⟩))) rfl (op_fieldAddrR u62 rfl info22 ne22 rfl rfl) ?_
 refine wv (v:=v39) rfl (oldz u22z rfl rfl ((kr hr124 (cr [] wd122)).at.cell (j:=5) rfl)) ?_
 refine wv (v:=v74) rfl (om _) ?_
 refine wv (v:=.int .i64 ((y70.1.length:Int))) rfl (op_lenV u110 hl120) ?_
 refine WL.lit1 u22z info2 zr2 sz2 rfl fun b126 wd127 hC128 hr129 hl130=>?_
 replace hr129:Row wd127 b126 [.int .i64 ((y70.1.length:Int))] 2:=hr129
 have d136:Dis [b126] f40:=dl (onw hl130) (sl _ (kp _ o41.1 (cr [] wd122)))
 have d139:Dis [b126] [b26]:=dl (onw hl130) (one_lt (Row.lt (kr hr124 (cr [] wd122))))
 have hT140:=(cr [] wd122).trans hC128
 replace o9:=ko o9 hT140
 replace o12:=ko o12 hT140
 replace o15:=ko o15 hT140
 replace o18:=ko o18 hT140
 replace o41:=ko o41 hT140
 replace hr93:=kr hr93 hT140
 replace o109:=ko o109 hT140
 replace hr124:=kr hr124 hT140
 replace hB:=(hB.trans hT140)
 obtain ⟨n147,hn148,ho⟩:=bs ho
 have hn148a:=fits_some hn148
 refine WL.append1 (E:=(sInt .i64)) _ _ u22z info2 zr2 sz2 rfl rfl rfl (ko o41 (cr [] wd127)) rfl (kr hr129 (cr [] wd127)) ⟨rfl,rfl⟩ List.nodup_nil (fun _ h=>nomatch h) (fun _ h=>nomatch h) (by rw [by2]; exact hn148a.1) hn148a.2 (hB.trans (cr [] wd127)).size fun v141 wd142 f143 hC144 o145 hs146=>?_
 have d149:Dis f143 f8:=dis_upd hs146 (d49).symm (fun _ h=>nomatch h) (sl _ (kp _ o9.1 (cr [] wd127)))
 have d150:Dis f143 f11:=dis_upd hs146 (d54).symm (fun _ h=>nomatch h) (sl _ (kp _ o12.1 (cr [] wd127)))
 have d151:Dis f143 f14:=dis_upd hs146 (d58).symm (fun _ h=>nomatch h) (sl _ (kp _ o15.1 (cr [] wd127)))
 have d152:Dis f143 f17:=dis_upd hs146 (d61).symm (fun _ h=>nomatch h) (sl _ (kp _ o18.1 (cr [] wd127)))
 have d154:Dis f143 f107:=dis_upd hs146 (d118).symm (fun _ h=>nomatch h) (sl _ (kp _ o109.1 (cr [] wd127)))
 have d155:Dis f143 [b26]:=dis_upd hs146 (d63).symm (fun _ h=>nomatch h) (one_lt (Row.lt (kr hr124 (cr [] wd127))))
 have hT157:=((cr [] wd127).nil (G:=f40)).trans hC144
 replace o9:=okp o9 hT157 d49
 replace o12:=okp o12 hT157 d54
 replace o15:=okp o15 hT157 d58
 replace o18:=okp o18 hT157 d61
 replace hr93:=Row.keep hr93 hT157 (d101 _ (ms rfl))
 replace o109:=okp o109 hT157 d118
 replace hr124:=Row.keep hr124 hT157 (d63 _ (ms rfl))
 replace hr129:=Row.keep hr129 hT157 (d136 _ (ms rfl))
 replace hB:=hB.then hT157 o41.2.2
 refine wv (v:=.pointer (some (⟨b26,0,none⟩))) rfl (op_nilCheck rfl) ?_
 refine wv (v:=.pointer (some (⟨b26,0,none⟩))) rfl (op_fieldAddrR u131 rfl info62 ne62 rfl rfl) ?_
 refine wv (v:=.pointer (some (⟨b26,5,none⟩))) rfl (op_fieldAddrR u62 rfl info22 ne22 rfl rfl) ?_
 refine WL.storeRow (j:=5) info22 sz22 (kr hr124 (cr [] wd142)) (Nat.le_of_ble_eq_true rfl) rfl rfl (STy.one _ o145.1 _ (ms rfl)) fun wd158 hC159 hr160=>?_
 replace hr160:Row wd158 b26 [.int .i64 (y3.Objects),v7,v10,v13,v16,v141,.slice none 0 0,v105] 131:=hr160
 have hT161:=((cr [] wd142).nil (G:=[b26])).trans hC159
 replace o9:=okp o9 hT161 d48
 replace o12:=okp o12 hT161 d53
 replace o15:=okp o15 hT161 d57
 replace o18:=okp o18 hT161 d60
 replace hr93:=Row.keep hr93 hT161 (d100 _ (ms rfl))
 replace o109:=okp o109 hT161 d117
 replace hr129:=Row.keep hr129 hT161 (d139 _ (ms rfl))
 replace o145:=okp o145 hT161 d155
 replace hB:=hB.then hT161 (one_then lo31)
 refine inBlk_n ?_
 refine anz ?_
 refine Wq rfl (cr [] wd158) ?_
 refine qv (v:=.int .i64 (s0_5)) rfl (fun _ _=>om _) ?_
 refine qv (v:=.int .i64 (w64 (s0_5 + (1:Int)))) rfl (fun _ _=>op_bin rfl rfl bin_add) ?_
 refine qv (v:=.int .i64 (w64 (s0_5 + (1:Int)))) rfl (fun _ _=>oa _) ?_
 intro wd162 hC163
 cases ho
 exact ⟨_,_,_,_,(hB.trans hC163),(ko o9 hC163),(ko o12 hC163),(ko o15 hC163),(ko o18 hC163),(kr hr160 hC163),(ko o145 hC163),(ko o109 hC163),(d45),(d46),(d47),(d48),((d149).symm),((d113).symm),(d51),(d52),(d53),((d150).symm),((d114).symm),(d56),(d57),((d151).symm),((d115).symm),(d60),((d152).symm),((d116).symm),((d155).symm),((d117).symm),(d154),fr ⟨rfl,rfl,rfl,trivial⟩⟩
 intro hb69
 rw [hb69] at ho
 refine W_exit ?_
 refine andThen_x ?_
 cases ho
 exact ⟨rfl,⟨_,_,_,_,(hB.trans hC68),(ko o9 hC68),(ko o12 hC68),(ko o15 hC68),(ko o18 hC68),(kr hr29 hC68),(ko o41 hC68),(ko o44 hC68),(d45),(d46),(d47),(d48),(d49),(d50),(d51),(d52),(d53),(d54),(d55),(d56),(d57),(d58),(d59),(d60),(d61),(d62),(d63),(d64),(d65),fr ⟨rfl,rfl,rfl,trivial⟩⟩⟩
 rintro ⟨s0_5,s0_b26_5,s0_b26_7⟩ _ wd164 ⟨v39,f40,v42,f43,hB,o9,o12,o15,o18,hr29,o41,o44,d45,d46,d47,d48,d49,d50,d51,d52,d53,d54,d55,d56,d57,d58,d59,d60,d61,d62,d63,d64,d65,F,rfl⟩ ho
 dsimp only at ho
 refine anz ?_
 refine wq ?_
 refine wq ?_
 refine Wq rfl (cr [] wd164) ?_
 refine qv (v:=.pointer (some (p_x0))) rfl (fun _ _=>om _) ?_
 refine qv (v:=.pointer (some (p_x0))) rfl (fun _ _=>op_nilCheck rfl) ?_
 refine qv (v:=.pointer (some (p_x0.add 1))) rfl (fun _ _=>op_fieldAddrP u27z rfl info22 ne22 rfl rfl) ?_
 refine qv (v:=z6) rfl (fun _ hC=>oldz u22z rfl rfl ((At.keep0 a_x0 (hB.trans hC)).cell (j:=1) rfl)) ?_
 refine qv (v:=.int .i64 ((x0.From.length:Int))) rfl (fun _ hC=>op_lenI u22z (kp _ za (hB.trans hC))) ?_
 refine qv (v:=.int .i64 ((0:Int))) rfl (fun _ _=>om _) ?_
 intro wd165 hC166
 refine anz ?_
 refine W_for (S1:=Int×(List (List Int))) (fun s r w'=>match s with | (s1_61,s1_b26_6)=>∃ (v167:Value) (f168:List Nat),Chg [] w w'∧OE [] w.heap.size w' (sOwn 2 (sInt .i64)) [v7] (y3.From) f8∧OE [] w.heap.size w' (sOwn 2 (sInt .i64)) [v10] (y3.To) f11∧OE [] w.heap.size w' (sOwn 2 (sInt .i64)) [v13] (y3.Identity) f14∧OE [] w.heap.size w' (sOwn 22 (sOwn 2 (sInt .i64))) [v16] (y3.Composites) f17∧Row w' b26 [.int .i64 (y3.Objects),v7,v10,v13,v16,v39,v167,v42] 131∧OE [] w.heap.size w' (sOwn 2 (sInt .i64)) [v39] (s0_b26_5) f40∧OE [] w.heap.size w' (sOwn 110 (sOwn 87 (sOwn 2 (sInt .i64)))) [v42] (s0_b26_7) f43∧OE [] w.heap.size w' (sOwn 22 (sOwn 2 (sInt .i64))) [v167] (s1_b26_6) f168∧Dis f8 f11∧Dis f8 f14∧Dis f8 f17∧Dis f8 [b26]∧Dis f8 f40∧Dis f8 f43∧Dis f8 f168∧Dis f11 f14∧Dis f11 f17∧Dis f11 [b26]∧Dis f11 f40∧Dis f11 f43∧Dis f11 f168∧Dis f14 f17∧Dis f14 [b26]∧Dis f14 f40∧Dis f14 f43∧Dis f14 f168∧Dis f17 [b26]∧Dis f17 f40∧Dis f17 f43∧Dis f17 f168∧Dis [b26] f40∧Dis [b26] f43∧Dis [b26] f168∧Dis f40 f43∧Dis f40 f168∧Dis f43 f168∧∃ F,r=updL F [(0,.pointer (some (p_x0))),(4,.pointer (some (⟨b26,0,none⟩))),(60,.int .i64 ((x0.From.length:Int))),(61,.int .i64 (s1_61))]) (T:=impl_Category_classifier_T w) ho ⟨_,_,(hB.trans hC166),(ko o9 hC166),(ko o12 hC166),(ko o15 hC166),(ko o18 hC166),(kr hr29 hC166),(ko o41 hC166),(ko o44 hC166),nil_OE,(d45),(d46),(d47),(d48),(d49),(d50),(fun _ _ h=>nomatch h),(d51),(d52),(d53),(d54),(d55),(fun _ _ h=>nomatch h),(d56),(d57),(d58),(d59),(fun _ _ h=>nomatch h),(d60),(d61),(d62),(fun _ _ h=>nomatch h),(d63),(d64),(fun _ _ h=>nomatch h),(d65),(fun _ _ h=>nomatch h),(fun _ _ h=>nomatch h),fr ⟨rfl,rfl,rfl,rfl,trivial⟩⟩ ?_ ?_ ?_
 intro x r w' ho hx; subst ho; exact hx
 rintro ⟨s1_61,s1_b26_6⟩ _ wd198 ⟨v167,f168,hB,o9,o12,o15,o18,hr29,o41,o44,o169,d170,d171,d172,d173,d174,d175,d176,d177,d178,d179,d180,d181,d182,d183,d184,d185,d186,d187,d188,d189,d190,d191,d192,d193,d194,d195,d196,d197,F,rfl⟩ o ho
 replace ho:impl_Category_classifier_L1 x0 y3 s0_b26_5 s0_b26_7 s1_61 s1_b26_6=some o:=ho
 unfold impl_Category_classifier_L1 at ho
 refine wq ?_
 refine Wq rfl (cr [] wd198) ?_
 refine qv (v:=.bool (decide (s1_61 < (x0.From.length:Int)))) rfl (fun _ _=>op_bin rfl rfl bin_lss) ?_
 intro wd199 hC200
 refine anz ?_
 refine wq ?_
 refine W_cond (b:=decide (s1_61 < (x0.From.length:Int))) rfl ?_ ?_
 intro hb201
 rw [hb201] at ho
 refine W_skip ?_
 refine anz ?_
 refine wq ?_
 refine W_block ?_
 refine wq ?_
 refine Wq rfl hC200 ?_
 refine qv (v:=.int .i64 (s1_61)) rfl (fun _ _=>om _) ?_
 refine qv (v:=.int .i64 (s1_61)) rfl (fun _ _=>oa _) ?_
 intro wd202 hC203
 refine anz ?_
 refine wq ?_
 refine W_region rfl ?_
 refine WL.lit0 (sInt .i64) u22z info2 fun v204 wd205 f206 hC207 o208=>?_
 have d209:Dis f206 f8:=dl (ofr o208) (sl _ (kp _ o9.1 hC203))
 have d210:Dis f206 f11:=dl (ofr o208) (sl _ (kp _ o12.1 hC203))
 have d211:Dis f206 f14:=dl (ofr o208) (sl _ (kp _ o15.1 hC203))
 have d212:Dis f206 f17:=dl (ofr o208) (sl _ (kp _ o18.1 hC203))
 have d213:Dis f206 [b26]:=dl (ofr o208) (one_lt (Row.lt (kr hr29 hC203)))
 have d214:Dis f206 f40:=dl (ofr o208) (sl _ (kp _ o41.1 hC203))
 have d215:Dis f206 f43:=dl (ofr o208) (sl _ (kp _ o44.1 hC203))
 have d216:Dis f206 f168:=dl (ofr o208) (sl _ (kp _ o169.1 hC203))
 replace o208:=OE.low (G:=[]) o208 (hB.trans hC203).size
 have hT217:=hC203.trans hC207
 replace o9:=ko o9 hT217
 replace o12:=ko o12 hT217
 replace o15:=ko o15 hT217
 replace o18:=ko o18 hT217
 replace hr29:=kr hr29 hT217
 replace o41:=ko o41 hT217
 replace o44:=ko o44 hT217
 replace o169:=ko o169 hT217
 replace hB:=(hB.trans hT217)
 refine wv (v:=v204) rfl (oa _) ?_
 refine anz ?_
 refine wq ?_
 refine wq ?_
 refine Wqd rfl (by kernel_rfl) (cr [] wd205) ?_
 refine qv (v:=.pointer (some (⟨b26,0,none⟩))) rfl (fun _ _=>om _) ?_
 refine qv (v:=.pointer (some (⟨b26,0,none⟩))) rfl (fun _ _=>op_nilCheck rfl) ?_
 refine qv (v:=.pointer (some (⟨b26,7,none⟩))) rfl (fun _ _=>op_fieldAddrR u131 rfl info129 ne129 rfl rfl) ?_
 refine qv (v:=v42) rfl (fun _ hC=>oldz u129 rfl rfl ((kr hr29 hC).at.cell (j:=7) rfl)) ?_
 refine qv (v:=.pointer (some (p_x0))) rfl (fun _ _=>om _) ?_
 refine qv (v:=.pointer (some (p_x0))) rfl (fun _ _=>op_nilCheck rfl) ?_
 refine qv (v:=.pointer (some (p_x0.add 1))) rfl (fun _ _=>op_fieldAddrP u27z rfl info22 ne22 rfl rfl) ?_
 refine qv (v:=z6) rfl (fun _ hC=>oldz u22z rfl rfl ((At.keep0 a_x0 (hB.trans hC)).cell (j:=1) rfl)) ?_
 refine qv (v:=.int .i64 (s1_61)) rfl (fun _ _=>om _) ?_
 obtain ⟨e218,hx219e,ho⟩:=bs ho
 have hx219:=idx_some hx219e
 refine qv (v:=.pointer (some (elA (z6) 1 (s1_61)))) rfl (fun _ hC=>op_indexI u22z info2 sz2 rfl (kp _ za (hB.trans hC)) rfl hx219.1 hx219.2) ?_
 refine qv (v:=.int .i64 (e218)) rfl (fun _ hC=>oldz u2z rfl rfl (int_get (kp _ za (hB.trans hC)) hx219.1 hx219.2)) ?_
 obtain ⟨e220,hx221e,ho⟩:=bs ho
 have hx221:=idx_some hx221e
 refine qv (v:=.pointer (some (elA (v42) 1 (e218)))) rfl (fun _ hC=>op_indexI u129 info110 sz110 rfl ((Le.own (Le.own (Le.own (Le.refl _) 2) 87) 110).le (kp _ o44.1 hC)) rfl hx221.1 hx221.2) ?_
 obtain ⟨u222,fu223,hu224,hr225,hs226⟩:=one_get rfl ((Le.own (Le.own (Le.own (Le.refl _) 2) 87) 110).le o44.1) hx221.1 hx221.2
 refine qv (v:=u222) rfl (fun _ hC=>oldz u110 rfl rfl (hC.cell0 hu224)) ?_
 refine qv (v:=.int .i64 ((e220.length:Int))) rfl (fun _ hC=>op_lenI u110 (kp _ hr225 hC)) ?_
 refine qv (v:=.int .i64 ((0:Int))) rfl (fun _ _=>om _) ?_
 intro wd227 hC228
 refine anz ?_
 refine W_for (S1:=(List Int)×Int) (fun s r w'=>match s with | (s2_9,s2_79)=>∃ (v229:Value) (f230:List Nat),Chg [] w w'∧OE [] w.heap.size w' (sOwn 2 (sInt .i64)) [v7] (y3.From) f8∧OE [] w.heap.size w' (sOwn 2 (sInt .i64)) [v10] (y3.To) f11∧OE [] w.heap.size w' (sOwn 2 (sInt .i64)) [v13] (y3.Identity) f14∧OE [] w.heap.size w' (sOwn 22 (sOwn 2 (sInt .i64))) [v16] (y3.Composites) f17∧Row w' b26 [.int .i64 (y3.Objects),v7,v10,v13,v16,v39,v167,v42] 131∧OE [] w.heap.size w' (sOwn 2 (sInt .i64)) [v39] (s0_b26_5) f40∧OE [] w.heap.size w' (sOwn 110 (sOwn 87 (sOwn 2 (sInt .i64)))) [v42] (s0_b26_7) f43∧OE [] w.heap.size w' (sOwn 22 (sOwn 2 (sInt .i64))) [v167] (s1_b26_6) f168∧(sImm (sImm (sInt .i64))).rep w'.heap [u222] (e220) fu223∧OE [] w.heap.size w' (sOwn 2 (sInt .i64)) [v229] (s2_9) f230∧Dis f8 f11∧Dis f8 f14∧Dis f8 f17∧Dis f8 [b26]∧Dis f8 f40∧Dis f8 f43∧Dis f8 f168∧Dis f8 f230∧Dis f11 f14∧Dis f11 f17∧Dis f11 [b26]∧Dis f11 f40∧Dis f11 f43∧Dis f11 f168∧Dis f11 f230∧Dis f14 f17∧Dis f14 [b26]∧Dis f14 f40∧Dis f14 f43∧Dis f14 f168∧Dis f14 f230∧Dis f17 [b26]∧Dis f17 f40∧Dis f17 f43∧Dis f17 f168∧Dis f17 f230∧Dis [b26] f40∧Dis [b26] f43∧Dis [b26] f168∧Dis [b26] f230∧Dis f40 f43∧Dis f40 f168∧Dis f40 f230∧Dis f43 f168∧Dis f43 f230∧Dis f168 f230∧∃ F,r=updL F [(0,.pointer (some (p_x0))),(4,.pointer (some (⟨b26,0,none⟩))),(8,.int .i64 (s1_61)),(9,v229),(60,.int .i64 ((x0.From.length:Int))),(61,.int .i64 (s1_61)),(77,u222),(78,.int .i64 ((e220.length:Int))),(79,.int .i64 (s2_79))]) (T:=impl_Category_classifier_T w) ho ⟨_,_,(hB.trans hC228),(ko o9 hC228),(ko o12 hC228),(ko o15 hC228),(ko o18 hC228),(kr hr29 hC228),(ko o41 hC228),(ko o44 hC228),(ko o169 hC228),(kp _ hr225 hC228),(ko o208 hC228),(d170),(d171),(d172),(d173),(d174),(d175),(d176),((d209).symm),(d177),(d178),(d179),(d180),(d181),(d182),((d210).symm),(d183),(d184),(d185),(d186),(d187),((d211).symm),(d188),(d189),(d190),(d191),((d212).symm),(d192),(d193),(d194),((d213).symm),(d195),(d196),((d214).symm),(d197),((d215).symm),((d216).symm),fr ⟨rfl,rfl,rfl,rfl,rfl,rfl,rfl,rfl,rfl,trivial⟩⟩ ?_ ?_ ?_
 intro x r w' ho hx; subst ho; exact hx
 rintro ⟨s2_9,s2_79⟩ _ wd268 ⟨v229,f230,hB,o9,o12,o15,o18,hr29,o41,o44,o169,hr225,o231,d232,d233,d234,d235,d236,d237,d238,d239,d240,d241,d242,d243,d244,d245,d246,d247,d248,d249,d250,d251,d252,d253,d254,d255,d256,d257,d258,d259,d260,d261,d262,d263,d264,d265,d266,d267,F,rfl⟩ o ho
 replace ho:impl_Category_classifier_L2 x0 y3 s0_b26_5 s0_b26_7 s1_61 s1_b26_6 e220 s2_9 s2_79=some o:=ho
 unfold impl_Category_classifier_L2 at ho
 refine wq ?_
 refine Wq rfl (cr [] wd268) ?_
 refine qv (v:=.bool (decide (s2_79 < (e220.length:Int)))) rfl (fun _ _=>op_bin rfl rfl bin_lss) ?_
 intro wd269 hC270
 refine anz ?_
 refine wq ?_
 refine W_cond (b:=decide (s2_79 < (e220.length:Int))) rfl ?_ ?_
 intro hb271
 rw [hb271] at ho
 refine W_skip ?_
 refine anz ?_
 refine wq ?_
 refine W_block ?_
 refine wq ?_
 refine Wq rfl hC270 ?_
 obtain ⟨e272,hx273e,ho⟩:=bs ho
 have hx273:=idx_some hx273e
 refine qv (v:=.pointer (some (elA (u222) 1 (s2_79)))) rfl (fun _ hC=>op_indexI u110 info87 sz87 rfl (kp _ hr225 hC) rfl hx273.1 hx273.2) ?_
 obtain ⟨u274,fu275,hu276,hr277,hs278⟩:=one_get rfl hr225 hx273.1 hx273.2
 refine qv (v:=u274) rfl (fun _ hC=>oldz u87 rfl rfl (hC.cell0 hu276)) ?_
 refine qv (v:=u274) rfl (fun _ _=>oa _) ?_
 intro wd279 hC280
 refine anz ?_
 obtain ⟨e281,hx282e,ho⟩:=bs ho
 have hx282:=idx_some hx282e
 obtain ⟨y283,hy284,ho⟩:=bs ho
 obtain ⟨y288,hy289,ho⟩:=bs ho
 refine W_any (m:=15) (U:=[[],[],[],[],[],[],[],[],[],[],[],[],[],[],[]]) (S:=[⟨true,pl fun _ _ u=>u=(v229:Value)⟩,⟨true,pl fun _ _ u=>u=(.pointer (some (⟨b26,0,none⟩)):Value)⟩,⟨true,pl fun _ _ u=>u=(.pointer (some (p_x0)):Value)⟩,⟨true,pl fun _ _ u=>u=(.pointer (some (p_x0)):Value)⟩,⟨true,pl fun _ _ u=>u=(.pointer (some (p_x0.add 2)):Value)⟩,⟨true,pl fun _ _ u=>u=(z7:Value)⟩,⟨true,pl fun _ _ u=>u=(.int .i64 (s1_61):Value)⟩,⟨true,pl fun _ _ u=>u=(.pointer (some (elA (z7) 1 (s1_61))):Value)⟩,⟨true,pl fun _ _ u=>u=(.int .i64 (e281):Value)⟩,⟨true,pl fun _ _ u=>u=(.pointer (some (p_x0)):Value)⟩,⟨true,pl fun _ _ u=>u=(.int .i64 (s1_61):Value)⟩,⟨true,pl fun _ _ u=>u=(u274:Value)⟩,⟨true,pl (OwnV (sOwn 2 (sInt .i64)) (y283))⟩,⟨true,pl fun _ _ u=>u=(.int .i64 (y288):Value)⟩,⟨true,pl <| LitV [.int .i64 (y288)] 2 1⟩]) (Z:=[]) hmix rfl (by decide) (by decide +kernel) (fun _ _ _ h=>np_out h) (by decide) rfl (by decide +kernel) (stable_all <| stable_cons stable_val (stable_cons stable_val (stable_cons stable_val (stable_cons stable_val (stable_cons stable_val (stable_cons stable_val (stable_cons stable_val (stable_cons stable_val (stable_cons stable_val (stable_cons stable_val (stable_cons stable_val (stable_cons stable_val (stable_cons stable_own (stable_cons stable_val (stable_cons stable_lit ( stable_nil)))))))))))))))) ?_ ?_
 refine owes_cons ?_ ( owes_cons ?_ ( owes_cons ?_ ( owes_cons ?_ ( owes_cons ?_ ( owes_cons ?_ ( owes_cons ?_ ( owes_cons ?_ ( owes_cons ?_ ( owes_cons ?_ ( owes_cons ?_ ( owes_cons ?_ ( owes_cons ?_ ( owes_cons ?_ ( owes_cons ?_ ( owes_nil)))))))))))))))
 refine Owes.val rfl rfl rfl ?_
 intro g r wr hCr H hot
 have hC:=hC280.trans hCr
 obtain ⟨F,rfl⟩:=fr (r:=r) (l:=[(9,v229)]) ⟨(hot 9 (by decide)),trivial⟩
 exact om _
 refine Owes.val rfl rfl rfl ?_
 intro g r wr hCr H hot
 have hC:=hC280.trans hCr
 obtain ⟨F,rfl⟩:=fr (r:=r) (l:=[(4,.pointer (some (⟨b26,0,none⟩)))]) ⟨(hot 4 (by decide)),trivial⟩
 exact om _
 refine Owes.val rfl rfl rfl ?_
 intro g r wr hCr H hot
 have hC:=hC280.trans hCr
 obtain ⟨F,rfl⟩:=fr (r:=r) (l:=[(0,.pointer (some (p_x0)))]) ⟨(hot 0 (by decide)),trivial⟩
 exact om _
 refine Owes.val rfl rfl rfl ?_
 intro g r wr hCr H hot
 have hC:=hC280.trans hCr
 obtain ⟨F,rfl⟩:=fr (r:=r) (l:=[(85,.pointer (some (p_x0)))]) ⟨(H 2 (by decide +kernel) 85 rfl),trivial⟩
 exact op_nilCheck rfl
 refine Owes.val rfl rfl rfl ?_
 intro g r wr hCr H hot
 have hC:=hC280.trans hCr
 obtain ⟨F,rfl⟩:=fr (r:=r) (l:=[(86,.pointer (some (p_x0)))]) ⟨(H 3 (by decide +kernel) 86 rfl),trivial⟩
 exact op_fieldAddrP u27z rfl info22 ne22 rfl rfl
 refine Owes.val rfl rfl rfl ?_
 intro g r wr hCr H hot
 have hC:=hC280.trans hCr
 obtain ⟨F,rfl⟩:=fr (r:=r) (l:=[(87,.pointer (some (p_x0.add 2)))]) ⟨(H 4 (by decide +kernel) 87 rfl),trivial⟩
 exact oldz u22z rfl rfl ((At.keep0 a_x0 (hB.trans hC)).cell (j:=2) rfl)
 refine Owes.val rfl rfl rfl ?_
 intro g r wr hCr H hot
 have hC:=hC280.trans hCr
 obtain ⟨F,rfl⟩:=fr (r:=r) (l:=[(8,.int .i64 (s1_61))]) ⟨(hot 8 (by decide)),trivial⟩
 exact om _
 refine Owes.val rfl rfl rfl ?_
 intro g r wr hCr H hot
 have hC:=hC280.trans hCr
 obtain ⟨F,rfl⟩:=fr (r:=r) (l:=[(88,z7),(89,.int .i64 (s1_61))]) ⟨(H 5 (by decide +kernel) 88 rfl),(H 6 (by decide +kernel) 89 rfl),trivial⟩
 exact op_indexI u22z info2 sz2 rfl (kp _ zb (hB.trans hC)) rfl hx282.1 hx282.2
 refine Owes.val rfl rfl rfl ?_
 intro g r wr hCr H hot
 have hC:=hC280.trans hCr
 obtain ⟨F,rfl⟩:=fr (r:=r) (l:=[(90,.pointer (some (elA (z7) 1 (s1_61))))]) ⟨(H 7 (by decide +kernel) 90 rfl),trivial⟩
 exact oldz u2z rfl rfl (int_get (kp _ zb (hB.trans hC)) hx282.1 hx282.2)
 refine Owes.val rfl rfl rfl ?_
 intro g r wr hCr H hot
 have hC:=hC280.trans hCr
 obtain ⟨F,rfl⟩:=fr (r:=r) (l:=[(0,.pointer (some (p_x0)))]) ⟨(hot 0 (by decide)),trivial⟩
 exact om _
 refine Owes.val rfl rfl rfl ?_
 intro g r wr hCr H hot
 have hC:=hC280.trans hCr
 obtain ⟨F,rfl⟩:=fr (r:=r) (l:=[(8,.int .i64 (s1_61))]) ⟨(hot 8 (by decide)),trivial⟩
 exact om _
 refine Owes.val rfl rfl rfl ?_
 intro g r wr hCr H hot
 have hC:=hC280.trans hCr
 obtain ⟨F,rfl⟩:=fr (r:=r) (l:=[(11,u274)]) ⟨(hot 11 (by decide)),trivial⟩
 exact om _
 refine Owes.mem rfl rfl rfl ?_
 intro g r wr hCr H hot
 have hC:=hC280.trans hCr
 obtain ⟨F,rfl⟩:=fr (r:=r) (l:=[(92,.pointer (some (p_x0))),(93,.int .i64 (s1_61)),(94,u274)]) ⟨(H 9 (by decide +kernel) 92 rfl),(H 10 (by decide +kernel) 93 rfl),(H 11 (by decide +kernel) 94 rfl),trivial⟩
 exact OpW.own (op_callF Tryz.func76 rfl rfl) (impl_Category_pull_calls (kp _ za (hB.trans hC)) (kp _ zb (hB.trans hC)) (kp _ zd (hB.trans hC)) (kp _ zc (hB.trans hC)) (At.keep0 a_x0 (hB.trans hC)) (kp _ hr277 hC) hy284)
 refine Owes.call (f:=107) rfl rfl rfl ?_
 intro g r wr hCr H hot
 have hC:=hC280.trans hCr
 have o287:OwnV (sOwn 2 (sInt .i64)) (y283) _ _ _:=H 12 (by decide +kernel) 95 rfl
 generalize hvv285:r 95=v285 at o287
 obtain ⟨F,rfl⟩:=fr (r:=r) (l:=[(84,.pointer (some (⟨b26,0,none⟩))),(91,.int .i64 (e281)),(95,v285)]) ⟨(H 1 (by decide +kernel) 84 rfl),(H 8 (by decide +kernel) 91 rfl),hvv285,trivial⟩
 exact ⟨_,op_callF Tryz.func107 rfl rfl,impl_classifier_number_calls (x0:=(MClassifier.mk (MSetFunctor.mk y3 s0_b26_5 s1_b26_6) s0_b26_7)) ((Le.own (Le.refl _) 2).le (kp _ o9.1 hC)) ((Le.own (Le.refl _) 2).le (kp _ o12.1 hC)) ((Le.own (Le.refl _) 2).le (kp _ o15.1 hC)) ((Le.own (Le.own (Le.refl _) 2) 22).le (kp _ o18.1 hC)) ((Le.own (Le.refl _) 2).le (kp _ o41.1 hC)) ((Le.own (Le.own (Le.refl _) 2) 22).le (kp _ o169.1 hC)) ((Le.own (Le.own (Le.own (Le.refl _) 2) 87) 110).le (kp _ o44.1 hC)) (kr hr29 hC).at ((Le.own (Le.refl _) 2).le o287.1) hy289⟩
 refine Owes.mem rfl rfl rfl ?_
 intro g r wr hCr H hot
 have hC:=hC280.trans hCr
 obtain ⟨F,rfl⟩:=fr (r:=r) (l:=[(96,.int .i64 (y288))]) ⟨(H 13 (by decide +kernel) 96 rfl),trivial⟩
 exact OpW.lit1 u22z info2 zr2 sz2 rfl rfl
 rintro g r wd293 ⟨hC294,hdone,hot,hfresh,hdis⟩
 have o287:OwnV (sOwn 2 (sInt .i64)) (y283) _ _ _:=hdone 12 (by decide) (by decide) 95 rfl
 generalize hvv285:r 95=v285 at o287
 have hfo287:=hfresh 12 (by decide)
 obtain ⟨b290,hbb290,hvb290,hr291⟩ : LitV [.int .i64 (y288)] 2 1 _ _ _:=hdone 14 (by decide) (by decide) 97 rfl
 have hlb290:wd279.heap.size≤b290:=(hfresh 14 (by decide) b290 (by rw [hbb290]; exact ms rfl)).1
 have hdd:=hdis
 obtain ⟨F,rfl⟩:=fr (r:=r) (l:=[(0,.pointer (some (p_x0))),(4,.pointer (some (⟨b26,0,none⟩))),(8,.int .i64 (s1_61)),(60,.int .i64 ((x0.From.length:Int))),(61,.int .i64 (s1_61)),(77,u222),(78,.int .i64 ((e220.length:Int))),(79,.int .i64 (s2_79)),(83,v229),(95,v285),(97,.slice (some ⟨b290,0,none⟩) 1 1)]) ⟨(hot 0 (by decide)),(hot 4 (by decide)),(hot 8 (by decide)),(hot 60 (by decide)),(hot 61 (by decide)),(hot 77 (by decide)),(hot 78 (by decide)),(hot 79 (by decide)),(hdone 0 (by decide) (by decide) 83 rfl),hvv285,hvb290,trivial⟩
 obtain ⟨f286,hgf286⟩ : ∃ k,k=g 12:=⟨_,rfl⟩
 rw [← hgf286] at o287 hfo287
 replace o287:OE [] w.heap.size wd293 (sOwn 2 (sInt .i64)) [v285] (y283) f286:=⟨o287.1,o287.2,fun b hb=>.inr (Nat.le_trans (hB.trans hC280).size (hfo287 b hb).1)⟩
 have d303:Dis f286 f230:=dl (fun b hb=>(hfo287 b hb).1) (sl _ (kp _ o231.1 hC280))
 have d313:Dis [b290] f230:=dl (onw hlb290) (sl _ (kp _ o231.1 hC280))
 have hT315:=(hC280.trans hC294)
 replace o9:=ko o9 hT315
 replace o12:=ko o12 hT315
 replace o15:=ko o15 hT315
 replace o18:=ko o18 hT315
 replace hr29:=kr hr29 hT315
 replace o41:=ko o41 hT315
 replace o44:=ko o44 hT315
 replace o169:=ko o169 hT315
 replace hr225:=kp _ hr225 hT315
 replace o231:=ko o231 hT315
 replace hu276:=hT315.cell0 hu276
 replace hr277:=kp _ hr277 hT315
 replace hB:=(hB.trans hT315)
 obtain ⟨n322,hn323,ho⟩:=bs ho
 have hn323a:=fits_some hn323
 refine WL.append1 (E:=(sInt .i64)) _ _ u22z info2 zr2 sz2 rfl rfl rfl (ko o231 (cr [] wd293)) rfl (kr hr291 (cr [] wd293)) ⟨rfl,rfl⟩ List.nodup_nil (fun _ h=>nomatch h) (fun _ h=>nomatch h) (by rw [by2]; exact hn323a.1) hn323a.2 (hB.trans (cr [] wd293)).size fun v316 wd317 f318 hC319 o320 hs321=>?_
 have d324:Dis f318 f8:=dis_upd hs321 (d239).symm (fun _ h=>nomatch h) (sl _ (kp _ o9.1 (cr [] wd293)))
 have d325:Dis f318 f11:=dis_upd hs321 (d246).symm (fun _ h=>nomatch h) (sl _ (kp _ o12.1 (cr [] wd293)))
 have d326:Dis f318 f14:=dis_upd hs321 (d252).symm (fun _ h=>nomatch h) (sl _ (kp _ o15.1 (cr [] wd293)))
 have d327:Dis f318 f17:=dis_upd hs321 (d257).symm (fun _ h=>nomatch h) (sl _ (kp _ o18.1 (cr [] wd293)))
 have d328:Dis f318 [b26]:=dis_upd hs321 (d261).symm (fun _ h=>nomatch h) (one_lt (Row.lt (kr hr29 (cr [] wd293))))
 have d329:Dis f318 f40:=dis_upd hs321 (d264).symm (fun _ h=>nomatch h) (sl _ (kp _ o41.1 (cr [] wd293)))
 have d330:Dis f318 f43:=dis_upd hs321 (d266).symm (fun _ h=>nomatch h) (sl _ (kp _ o44.1 (cr [] wd293)))
 have d331:Dis f318 f168:=dis_upd hs321 (d267).symm (fun _ h=>nomatch h) (sl _ (kp _ o169.1 (cr [] wd293)))
 have hT334:=((cr [] wd293).nil (G:=f230)).trans hC319
 replace hr225:=STy.keep _ hr225 hT334 (fun b hb=>d266 b (hs226 b hb))
 replace hr277:=STy.keep _ hr277 hT334 (fun b hb=>(fun b hb=>d266 b (hs226 b hb)) b (hs278 b hb))
 replace o9:=okp o9 hT334 d239
 replace o12:=okp o12 hT334 d246
 replace o15:=okp o15 hT334 d252
 replace o18:=okp o18 hT334 d257
 replace hr29:=Row.keep hr29 hT334 (d261 _ (ms rfl))
 replace o41:=okp o41 hT334 d264
 replace o44:=okp o44 hT334 d266
 replace o169:=okp o169 hT334 d267
 replace o287:=okp o287 hT334 d303
 replace hr291:=Row.keep hr291 hT334 (d313 _ (ms rfl))
 replace hB:=hB.then hT334 o231.2.2
 refine wv (v:=v316) rfl (oa _) ?_
 refine inBlk_n ?_
 refine anz ?_
 refine Wq rfl (cr [] wd317) ?_
 refine qv (v:=.int .i64 (w64 (s2_79 + (1:Int)))) rfl (fun _ _=>op_bin rfl rfl bin_add) ?_
 refine qv (v:=.int .i64 (w64 (s2_79 + (1:Int)))) rfl (fun _ _=>om _) ?_
 intro wd335 hC336
 cases ho
 exact ⟨_,_,(hB.trans hC336),(ko o9 hC336),(ko o12 hC336),(ko o15 hC336),(ko o18 hC336),(kr hr29 hC336),(ko o41 hC336),(ko o44 hC336),(ko o169 hC336),(kp _ hr225 hC336),(ko o320 hC336),(d232),(d233),(d234),(d235),(d236),(d237),(d238),((d324).symm),(d240),(d241),(d242),(d243),(d244),(d245),((d325).symm),(d247),(d248),(d249),(d250),(d251),((d326).symm),(d253),(d254),(d255),(d256),((d327).symm),(d258),(d259),(d260),((d328).symm),(d262),(d263),((d329).symm),(d265),((d330).symm),((d331).symm),fr ⟨rfl,rfl,rfl,rfl,rfl,rfl,rfl,rfl,rfl,trivial⟩⟩
 intro hb271
 rw [hb271] at ho
 refine W_exit ?_
 refine andThen_x ?_
 cases ho
 exact ⟨rfl,⟨_,_,(hB.trans hC270),(ko o9 hC270),(ko o12 hC270),(ko o15 hC270),(ko o18 hC270),(kr hr29 hC270),(ko o41 hC270),(ko o44 hC270),(ko o169 hC270),(kp _ hr225 hC270),(ko o231 hC270),(d232),(d233),(d234),(d235),(d236),(d237),(d238),(d239),(d240),(d241),(d242),(d243),(d244),(d245),(d246),(d247),(d248),(d249),(d250),(d251),(d252),(d253),(d254),(d255),(d256),(d257),(d258),(d259),(d260),(d261),(d262),(d263),(d264),(d265),(d266),(d267),fr ⟨rfl,rfl,rfl,rfl,rfl,rfl,rfl,rfl,rfl,trivial⟩⟩⟩
 rintro ⟨s2_9,s2_79⟩ _ wd337 ⟨v229,f230,hB,o9,o12,o15,o18,hr29,o41,o44,o169,hr225,o231,d232,d233,d234,d235,d236,d237,d238,d239,d240,d241,d242,d243,d244,d245,d246,d247,d248,d249,d250,d251,d252,d253,d254,d255,d256,d257,d258,d259,d260,d261,d262,d263,d264,d265,d266,d267,F,rfl⟩ ho
 dsimp only at ho
 refine anz ?_
 refine W_region rfl ?_
 refine wv (v:=.pointer (some (⟨b26,0,none⟩))) rfl (om _) ?_
 refine wv (v:=.pointer (some (⟨b26,0,none⟩))) rfl (om _) ?_
 refine wv (v:=.pointer (some (⟨b26,0,none⟩))) rfl (op_nilCheck rfl) ?_
 refine wv (v:=.pointer (some (⟨b26,0,none⟩))) rfl (op_fieldAddrR u131 rfl info62 ne62 rfl rfl) ?_
 refine wv (v:=.pointer (some (⟨b26,6,none⟩))) rfl (op_fieldAddrR u62 rfl info23 ne23 rfl rfl) ?_
 refine wv (v:=v167) rfl (oldz u23z rfl rfl ((kr hr29 (cr [] wd337)).at.cell (j:=6) rfl)) ?_
 refine wv (v:=v229) rfl (om _) ?_
 refine WL.lit1 u23z info22 zr22 sz22 (STy.one _ o231.1 _ (ms rfl)) fun b338 wd339 hC340 hr341 hl342=>?_
 replace hr341:Row wd339 b338 [v229] 22:=hr341
 have d348:Dis [b338] [b26]:=dl (onw hl342) (one_lt (Row.lt (kr hr29 (cr [] wd337))))
 have d351:Dis [b338] f168:=dl (onw hl342) (sl _ (kp _ o169.1 (cr [] wd337)))
 have hT353:=(cr [] wd337).trans hC340
 replace hr225:=kp _ hr225 hT353
 replace o9:=ko o9 hT353
 replace o12:=ko o12 hT353
 replace o15:=ko o15 hT353
 replace o18:=ko o18 hT353
 replace hr29:=kr hr29 hT353
 replace o41:=ko o41 hT353
 replace o44:=ko o44 hT353
 replace o169:=ko o169 hT353
 replace o231:=ko o231 hT353
 replace hB:=(hB.trans hT353)
 obtain ⟨n360,hn361,ho⟩:=bs ho
 have hn361a:=fits_some hn361
 refine WL.append1 (E:=(sOwn 2 (sInt .i64))) _ _ u23z info22 zr22 sz22 rfl rfl rfl (ko o169 (cr [] wd339)) rfl (kr hr341 (cr [] wd339)) (kp _ o231.1 (cr [] wd339)) o231.2.1 o231.2.2 (d267).symm (by rw [by22]; exact hn361a.1) hn361a.2 (hB.trans (cr [] wd339)).size fun v354 wd355 f356 hC357 o358 hs359=>?_
 have d362:Dis f356 f8:=dis_upd hs359 (d238).symm (d239).symm (sl _ (kp _ o9.1 (cr [] wd339)))
 have d363:Dis f356 f11:=dis_upd hs359 (d245).symm (d246).symm (sl _ (kp _ o12.1 (cr [] wd339)))
 have d364:Dis f356 f14:=dis_upd hs359 (d251).symm (d252).symm (sl _ (kp _ o15.1 (cr [] wd339)))
 have d365:Dis f356 f17:=dis_upd hs359 (d256).symm (d257).symm (sl _ (kp _ o18.1 (cr [] wd339)))
 have d366:Dis f356 [b26]:=dis_upd hs359 (d260).symm (d261).symm (one_lt (Row.lt (kr hr29 (cr [] wd339))))
 have d367:Dis f356 f40:=dis_upd hs359 (d263).symm (d264).symm (sl _ (kp _ o41.1 (cr [] wd339)))
 have d368:Dis f356 f43:=dis_upd hs359 (d265).symm (d266).symm (sl _ (kp _ o44.1 (cr [] wd339)))
 have hT371:=((cr [] wd339).nil (G:=f168)).trans hC357
 replace hr225:=STy.keep _ hr225 hT371 (fun b hb=>d265 b (hs226 b hb))
 replace o9:=okp o9 hT371 d238
 replace o12:=okp o12 hT371 d245
 replace o15:=okp o15 hT371 d251
 replace o18:=okp o18 hT371 d256
 replace hr29:=Row.keep hr29 hT371 (d260 _ (ms rfl))
 replace o41:=okp o41 hT371 d263
 replace o44:=okp o44 hT371 d265
 replace hr341:=Row.keep hr341 hT371 (d351 _ (ms rfl))
 replace hB:=hB.then hT371 o169.2.2
 refine wv (v:=.pointer (some (⟨b26,0,none⟩))) rfl (op_nilCheck rfl) ?_
 refine wv (v:=.pointer (some (⟨b26,0,none⟩))) rfl (op_fieldAddrR u131 rfl info62 ne62 rfl rfl) ?_
 refine wv (v:=.pointer (some (⟨b26,6,none⟩))) rfl (op_fieldAddrR u62 rfl info23 ne23 rfl rfl) ?_
 refine WL.storeRow (j:=6) info23 sz23 (kr hr29 (cr [] wd355)) (Nat.le_of_ble_eq_true rfl) rfl rfl (STy.one _ o358.1 _ (ms rfl)) fun wd372 hC373 hr374=>?_
 replace hr374:Row wd372 b26 [.int .i64 (y3.Objects),v7,v10,v13,v16,v39,v354,v42] 131:=hr374
 have hT375:=((cr [] wd355).nil (G:=[b26])).trans hC373
 replace hr225:=STy.keep _ hr225 hT375 (fun b hb=>(d259).symm b (hs226 b hb))
 replace o9:=okp o9 hT375 d235
 replace o12:=okp o12 hT375 d242
 replace o15:=okp o15 hT375 d248
 replace o18:=okp o18 hT375 d253
 replace o41:=okp o41 hT375 (d258).symm
 replace o44:=okp o44 hT375 (d259).symm
 replace hr341:=Row.keep hr341 hT375 (d348 _ (ms rfl))
 replace o358:=okp o358 hT375 d366
 replace hB:=hB.then hT375 (one_then lo31)
 refine inBlk_n ?_
 refine anz ?_
 refine Wq rfl (cr [] wd372) ?_
 refine qv (v:=.int .i64 (w64 (s1_61 + (1:Int)))) rfl (fun _ _=>op_bin rfl rfl bin_add) ?_
 refine qv (v:=.int .i64 (w64 (s1_61 + (1:Int)))) rfl (fun _ _=>om _) ?_
 intro wd376 hC377
 cases ho
 exact ⟨_,_,(hB.trans hC377),(ko o9 hC377),(ko o12 hC377),(ko o15 hC377),(ko o18 hC377),(kr hr374 hC377),(ko o41 hC377),(ko o44 hC377),(ko o358 hC377),(d232),(d233),(d234),(d235),(d236),(d237),((d362).symm),(d240),(d241),(d242),(d243),(d244),((d363).symm),(d247),(d248),(d249),(d250),((d364).symm),(d253),(d254),(d255),((d365).symm),(d258),(d259),((d366).symm),(d262),((d367).symm),((d368).symm),fr ⟨rfl,rfl,rfl,rfl,trivial⟩⟩
 intro hb201
 rw [hb201] at ho
 refine W_exit ?_
 refine andThen_x ?_
 cases ho
 exact ⟨rfl,⟨_,_,(hB.trans hC200),(ko o9 hC200),(ko o12 hC200),(ko o15 hC200),(ko o18 hC200),(kr hr29 hC200),(ko o41 hC200),(ko o44 hC200),(ko o169 hC200),(d170),(d171),(d172),(d173),(d174),(d175),(d176),(d177),(d178),(d179),(d180),(d181),(d182),(d183),(d184),(d185),(d186),(d187),(d188),(d189),(d190),(d191),(d192),(d193),(d194),(d195),(d196),(d197),fr ⟨rfl,rfl,rfl,rfl,trivial⟩⟩⟩
 rintro ⟨s1_61,s1_b26_6⟩ _ wd378 ⟨v167,f168,hB,o9,o12,o15,o18,hr29,o41,o44,o169,d170,d171,d172,d173,d174,d175,d176,d177,d178,d179,d180,d181,d182,d183,d184,d185,d186,d187,d188,d189,d190,d191,d192,d193,d194,d195,d196,d197,F,rfl⟩ ho
 dsimp only at ho
 refine anz ?_
 refine wq ?_
 refine Wq rfl (cr [] wd378) ?_
 refine qv (v:=.pointer (some (⟨b26,0,none⟩))) rfl (fun _ _=>om _) ?_
 refine qv (v:=.pointer (some (⟨b26,0,none⟩))) rfl (fun _ _=>oa _) ?_
 refine qv (v:=.bool (true)) rfl (fun _ _=>oa _) ?_
 intro wd379 hC380
 refine anz ?_
 cases ho
 exact W_ret ⟨_,res_2 Tryz.results168,_,rfl,(hB.trans hC380),_,_,_,_,_,_,_,_,_,_,_,_,_,_,_,rfl,(ko o9 hC380),(ko o12 hC380),(ko o15 hC380),(ko o18 hC380),(ko o41 hC380),(ko o169 hC380),(ko o44 hC380),(kr hr29 hC380),lo31,d170,d171,d172,d174,d176,d175,d173,d177,d178,d180,d182,d181,d179,d183,d185,d187,d186,d184,d189,d191,d190,d188,d196,d195,(d192).symm,(d197).symm,(d194).symm,(d193).symm⟩

noncomputable def impl_coverageOf_L0 (m10:MClassifier) (s0_26:Int) (s0_b106_2:(List (List Bool))):Option (Out (Int×(List (List Bool))) ((Option MCoverage)×Bool)):=
 (bif decide (s0_26 < (m10.Sieves.length:Int)) then ((idx m10.Sieves (s0_26))>>=fun e186=>((mk 1 ((e186.length:Int)))>>=fun n195=>((fits 24 (s0_b106_2.length + 1))>>=fun n236=>(some (Out.norm (w64 (s0_26 + (1:Int)),s0_b106_2++[List.replicate n195 false])))))) else (some (Out.exit 0 (s0_26,s0_b106_2))))
noncomputable def impl_coverageOf (x0:MCategory):Option ((Option MCoverage)×Bool):=
 retM (S:=Unit) ((impl_Category_classifier x0)>>=fun y3=>(match y3.1 with | none=>(bif !(y3.2) then (some (Out.ret ((none,(false))))) else none) | some m10=>(bif !(y3.2) then (some (Out.ret ((none,(false))))) else (lbind (blockM 0 (loopM (fun s=>impl_coverageOf_L0 m10 s.1 s.2) ((0:Int),[]))) (fun (s0_26,s0_b106_2)=>(some (Out.ret (((some (MCoverage.mk m10 x0 s0_b106_2 (((0:Int))))),(true))))))))))
abbrev impl_coverageOf_post (p_x0:Addr) (w:World) (x:((Option MCoverage)×Bool)) (e:Ending) (w':World):Prop:=∃ (v0:Value),e = .returned (.tuple #[v0,.bool x.2])∧Chg [] w w'∧(match x.1 with | none=>(v0 = .pointer none) | some m0=>∃ (b101:Nat) (b102:Nat) (v101:Value) (f101:List Nat) (v102:Value) (f102:List Nat) (v103:Value) (f103:List Nat) (v104:Value) (f104:List Nat) (v105:Value) (f105:List Nat) (v106:Value) (f106:List Nat) (v107:Value) (f107:List Nat) (v108:Value) (f108:List Nat) (b103:Nat),v0 = .pointer (some (⟨b101,0,none⟩))∧OE [] w.heap.size w' (sOwn 2 (sInt .i64)) [v101] m0.Classifier.Sets.Shape.From f101∧OE [] w.heap.size w' (sOwn 2 (sInt .i64)) [v102] m0.Classifier.Sets.Shape.To f102∧OE [] w.heap.size w' (sOwn 2 (sInt .i64)) [v103] m0.Classifier.Sets.Shape.Identity f103∧OE [] w.heap.size w' (sOwn 22 (sOwn 2 (sInt .i64))) [v104] m0.Classifier.Sets.Shape.Composites f104∧OE [] w.heap.size w' (sOwn 2 (sInt .i64)) [v105] m0.Classifier.Sets.Sizes f105∧OE [] w.heap.size w' (sOwn 22 (sOwn 2 (sInt .i64))) [v106] m0.Classifier.Sets.Actions f106∧OE [] w.heap.size w' (sOwn 110 (sOwn 87 (sOwn 2 (sInt .i64)))) [v107] m0.Classifier.Sieves f107∧Row w' b102 [.int .i64 (m0.Classifier.Sets.Shape.Objects),v101,v102,v103,v104,v105,v106,v107] 131∧w.heap.size≤b102∧OE [] w.heap.size w' (sOwn 82 (sOwn 4 sBool)) [v108] m0.Covers f108∧Row w' b103 [.int .i64 (m0.Count)] 180∧w.heap.size≤b103∧Row w' b101 [.pointer (some (⟨b102,0,none⟩)),.pointer (some (p_x0)),v108,.pointer (some (⟨b103,0,none⟩))] 124∧w.heap.size≤b101∧Dis f101 f102∧Dis f101 f103∧Dis f101 f104∧Dis f101 f105∧Dis f101 f106∧Dis f101 f107∧Dis f101 [b102]∧Dis f101 f108∧Dis f101 [b103]∧Dis f101 [b101]∧Dis f102 f103∧Dis f102 f104∧Dis f102 f105∧Dis f102 f106∧Dis f102 f107∧Dis f102 [b102]∧Dis f102 f108∧Dis f102 [b103]∧Dis f102 [b101]∧Dis f103 f104∧Dis f103 f105∧Dis f103 f106∧Dis f103 f107∧Dis f103 [b102]∧Dis f103 f108∧Dis f103 [b103]∧Dis f103 [b101]∧Dis f104 f105∧Dis f104 f106∧Dis f104 f107∧Dis f104 [b102]∧Dis f104 f108∧Dis f104 [b103]∧Dis f104 [b101]∧Dis f105 f106∧Dis f105 f107∧Dis f105 [b102]∧Dis f105 f108∧Dis f105 [b103]∧Dis f105 [b101]∧Dis f106 f107∧Dis f106 [b102]∧Dis f106 f108∧Dis f106 [b103]∧Dis f106 [b101]∧Dis f107 [b102]∧Dis f107 f108∧Dis f107 [b103]∧Dis f107 [b101]∧Dis [b102] f108∧Dis [b102] [b103]∧Dis [b102] [b101]∧Dis f108 [b103]∧Dis f108 [b101]∧Dis [b103] [b101])
abbrev impl_coverageOf_T (p_x0:Addr) (w:World) (x:((Option MCoverage)×Bool)) (r:Nat→Value) (w':World):Prop:=∃ v,(∀ a:Act,a.tmps.size=44→rho a=r→(results Tryz.f120 a.tmps).run Tryz.prog w' = .ok v w')∧impl_coverageOf_post p_x0 w x (.returned v) w'
theorem impl_coverageOf_calls {w:World} {x0:MCategory} {p_x0:Addr} {z6:Value} {zh:List Nat} {z7:Value} {zg:List Nat} {z9:Value} {zf:List Nat} {z8:Value} {ze:List Nat} (za:(sImm (sInt .i64)).rep w.heap [z6] x0.From zh) (zb:(sImm (sInt .i64)).rep w.heap [z7] x0.To zg) (zd:(sImm (sInt .i64)).rep w.heap [z9] x0.Identity zf) (zc:(sImm (sImm (sInt .i64))).rep w.heap [z8] x0.Composites ze) (a_x0:At w p_x0 [.int .i64 (x0.Objects),z6,z7,z9,z8]) {y:((Option MCoverage)×Bool)} (hm:impl_coverageOf x0=some y) :
  Calls Tryz.prog 120 #[.pointer (some (p_x0))] w (impl_coverageOf_post p_x0 w y):=by
 refine calls_of_M (S:=Unit) (args:=[.pointer (some (p_x0))]) Tryz.func120 rfl Tryz.ntmps120 (Nat.le_of_ble_eq_true rfl) (retM_some hm) ?_
 clear hm
 intro o ho
 have hB:Chg [] w w:=cr _ _
 refine wq ?_
 refine Wq rfl (cr [] w) ?_
 refine qv (v:=.pointer none) rfl (fun _ _=>oa _) ?_
 refine qv (v:=.bool (false)) rfl (fun _ _=>oa _) ?_
 intro wd1 hC2
 refine anz ?_
 refine wq ?_
 refine W_region rfl ?_
 refine wv (v:=.pointer (some (p_x0))) rfl (om _) ?_
 obtain ⟨y3,hy4,ho⟩:=bs ho
 refine WL.call rfl (op_callF Tryz.func168 rfl rfl) (impl_Category_classifier_calls (kp _ za (hB.trans hC2)) (kp _ zb (hB.trans hC2)) (kp _ zd (hB.trans hC2)) (kp _ zc (hB.trans hC2)) (At.keep0 a_x0 (hB.trans hC2)) hy4) ?_
 rintro _ wd5 ⟨v8,rfl,hC6,hp7⟩
 refine ⟨_,rfl,?_⟩
 rcases hq9:y3.1 with _ | m10
 rw [hq9] at hp7 ho
 try dsimp only at hp7
 try dsimp only at ho
 obtain rfl:=hp7
 have hT11:=hC2.trans hC6
 replace hB:=(hB.trans hT11)
 refine wv (v:=.tuple #[.pointer none,.bool (y3.2)]) rfl (om _) ?_
 refine wv (v:=.pointer none) rfl (op_extract rfl rfl) ?_
 refine wv (v:=.bool (y3.2)) rfl (op_extract rfl rfl) ?_
 refine wv (v:=.pointer none) rfl (oa _) ?_
 refine wv (v:=.bool (y3.2)) rfl (oa _) ?_
 refine anz ?_
 refine wq ?_
 refine wq ?_
 refine Wq rfl (cr [] wd5) ?_
 refine qv (v:=.bool (y3.2)) rfl (fun _ _=>om _) ?_
 refine qv (v:=.bool (!(y3.2))) rfl (fun _ _=>op_not rfl) ?_
 intro wd12 hC13
 refine anz ?_
 refine W_cond (b:=!(y3.2)) rfl ?_ ?_
 intro hb14
 rw [hb14] at ho
 refine wq ?_
 refine Wq rfl hC13 ?_
 refine qv (v:=.pointer none) rfl (fun _ _=>oa _) ?_
 refine qv (v:=.bool (false)) rfl (fun _ _=>oa _) ?_
 intro wd15 hC16
 refine anz ?_
 cases ho
 exact W_ret ⟨_,res_2 Tryz.results120,_,rfl,(hB.trans hC16),rfl⟩
 intro hb14
 rw [hb14] at ho
 refine W_skip ?_
 refine anz ?_
 refine wq ?_
 refine W_region rfl ?_
 refine wv (v:=.pointer none) rfl (om _) ?_
 refine wv (v:=.pointer (some (p_x0))) rfl (om _) ?_
 refine WL.alloc info180 zr180 fun b17 wd18 hC19 hr20 hl21=>?_
 replace hr20:Row wd18 b17 [.int .i64 ((0:Int))] 180:=hr20
 have hT23:=hC13.trans hC19
 replace hB:=(hB.trans hT23)
 refine wv (v:=.agg #[.pointer none,.pointer (some (p_x0)),.slice none 0 0,.pointer (some (⟨b17,0,none⟩))]) rfl (op_build (bld124_0_1_3 rfl rfl rfl)) ?_
 refine WL.box fun b24 wd25 hC26 hr27 hl28=>?_
 replace hr27:Row wd25 b24 [.pointer none,.pointer (some (p_x0)),.slice none 0 0,.pointer (some (⟨b17,0,none⟩))] 124:=hr27
 have hT31:=(cr [] wd18).trans hC26
 replace hr20:=kr hr20 hT31
 replace hB:=(hB.trans hT31)
 refine wv (v:=.pointer (some (⟨b24,0,none⟩))) rfl (oa _) ?_
 refine anz ?_
 refine wq ?_
 refine wq ?_
 refine Wq rfl (cr [] wd25) ?_
 refine qv (v:=.pointer none) rfl (fun _ _=>om _) ?_
 cases ho
 rw [hq9] at hp7 ho
 try dsimp only at hp7
 try dsimp only at ho
 obtain ⟨b32,v34,f35,v37,f38,v40,f41,v43,f44,v46,f47,v49,f50,v52,f53,rfl,o36,o39,o42,o45,o48,o51,o54,hr33,lo55,d56,d57,d58,d59,d60,d61,d62,d63,d64,d65,d66,d67,d68,d69,d70,d71,d72,d73,d74,d75,d76,d77,d78,d79,d80,d81,d82,d83⟩:=hp7
 replace o36:=OE.low (G:=[]) o36 (hB.trans hC2).size
 replace o39:=OE.low (G:=[]) o39 (hB.trans hC2).size
 replace o42:=OE.low (G:=[]) o42 (hB.trans hC2).size
 replace o45:=OE.low (G:=[]) o45 (hB.trans hC2).size
 replace o48:=OE.low (G:=[]) o48 (hB.trans hC2).size
 replace o51:=OE.low (G:=[]) o51 (hB.trans hC2).size
 replace o54:=OE.low (G:=[]) o54 (hB.trans hC2).size
 have lo84:w.heap.size≤b32:=Nat.le_trans (hB.trans hC2).size lo55
 have hT85:=hC2.trans hC6
 replace hB:=(hB.trans hT85)
 refine wv (v:=.tuple #[.pointer (some (⟨b32,0,none⟩)),.bool (y3.2)]) rfl (om _) ?_
 refine wv (v:=.pointer (some (⟨b32,0,none⟩))) rfl (op_extract rfl rfl) ?_
 refine wv (v:=.bool (y3.2)) rfl (op_extract rfl rfl) ?_
 refine wv (v:=.pointer (some (⟨b32,0,none⟩))) rfl (oa _) ?_
 refine wv (v:=.bool (y3.2)) rfl (oa _) ?_
 refine anz ?_
 refine wq ?_
 refine wq ?_
 refine Wq rfl (cr [] wd5) ?_
 refine qv (v:=.bool (y3.2)) rfl (fun _ _=>om _) ?_
 refine qv (v:=.bool (!(y3.2))) rfl (fun _ _=>op_not rfl) ?_
 intro wd86 hC87
 refine anz ?_
 refine W_cond (b:=!(y3.2)) rfl ?_ ?_
 intro hb88
 rw [hb88] at ho
 refine wq ?_
 refine Wq rfl hC87 ?_
 refine qv (v:=.pointer none) rfl (fun _ _=>oa _) ?_
 refine qv (v:=.bool (false)) rfl (fun _ _=>oa _) ?_
 intro wd89 hC90
 refine anz ?_
 cases ho
 exact W_ret ⟨_,res_2 Tryz.results120,_,rfl,(hB.trans hC90),rfl⟩
 intro hb88
 rw [hb88] at ho
 refine W_skip ?_
 refine anz ?_
 refine wq ?_
 refine W_region rfl ?_
 refine wv (v:=.pointer (some (⟨b32,0,none⟩))) rfl (om _) ?_
 refine wv (v:=.pointer (some (p_x0))) rfl (om _) ?_
 refine WL.alloc info180 zr180 fun b91 wd92 hC93 hr94 hl95=>?_
 replace hr94:Row wd92 b91 [.int .i64 ((0:Int))] 180:=hr94
 have lo96:w.heap.size≤b91:=Nat.le_trans (hB.trans hC87).size hl95
 have d97:Dis [b91] f35:=dl (onw hl95) (sl _ (kp _ o36.1 hC87))
 have d98:Dis [b91] f38:=dl (onw hl95) (sl _ (kp _ o39.1 hC87))
 have d99:Dis [b91] f41:=dl (onw hl95) (sl _ (kp _ o42.1 hC87))
 have d100:Dis [b91] f44:=dl (onw hl95) (sl _ (kp _ o45.1 hC87))
 have d101:Dis [b91] f47:=dl (onw hl95) (sl _ (kp _ o48.1 hC87))
 have d102:Dis [b91] f50:=dl (onw hl95) (sl _ (kp _ o51.1 hC87))
 have d103:Dis [b91] f53:=dl (onw hl95) (sl _ (kp _ o54.1 hC87))
 have d104:Dis [b91] [b32]:=dl (onw hl95) (one_lt (Row.lt (kr hr33 hC87)))
 have hT105:=hC87.trans hC93
 replace o36:=ko o36 hT105
 replace o39:=ko o39 hT105
 replace o42:=ko o42 hT105
 replace o45:=ko o45 hT105
 replace o48:=ko o48 hT105
 replace o51:=ko o51 hT105
 replace o54:=ko o54 hT105
 replace hr33:=kr hr33 hT105
 replace hB:=(hB.trans hT105)
 refine wv (v:=.agg #[.pointer (some (⟨b32,0,none⟩)),.pointer (some (p_x0)),.slice none 0 0,.pointer (some (⟨b91,0,none⟩))]) rfl (op_build (bld124_0_1_3 rfl rfl rfl)) ?_
 refine WL.box fun b106 wd107 hC108 hr109 hl110=>?_
 replace hr109:Row wd107 b106 [.pointer (some (⟨b32,0,none⟩)),.pointer (some (p_x0)),.slice none 0 0,.pointer (some (⟨b91,0,none⟩))] 124:=hr109
 have lo111:w.heap.size≤b106:=Nat.le_trans (hB.trans (cr [] wd92)).size hl110
 have d112:Dis [b106] f35:=dl (onw hl110) (sl _ (kp _ o36.1 (cr [] wd92)))
 have d113:Dis [b106] f38:=dl (onw hl110) (sl _ (kp _ o39.1 (cr [] wd92)))
 have d114:Dis [b106] f41:=dl (onw hl110) (sl _ (kp _ o42.1 (cr [] wd92)))
 have d115:Dis [b106] f44:=dl (onw hl110) (sl _ (kp _ o45.1 (cr [] wd92)))
 have d116:Dis [b106] f47:=dl (onw hl110) (sl _ (kp _ o48.1 (cr [] wd92)))
 have d117:Dis [b106] f50:=dl (onw hl110) (sl _ (kp _ o51.1 (cr [] wd92)))
 have d118:Dis [b106] f53:=dl (onw hl110) (sl _ (kp _ o54.1 (cr [] wd92)))
 have d119:Dis [b106] [b32]:=dl (onw hl110) (one_lt (Row.lt (kr hr33 (cr [] wd92))))
 have d120:Dis [b106] [b91]:=dl (onw hl110) (one_lt (Row.lt (kr hr94 (cr [] wd92))))
 have hT121:=(cr [] wd92).trans hC108
 replace o36:=ko o36 hT121
 replace o39:=ko o39 hT121
 replace o42:=ko o42 hT121
 replace o45:=ko o45 hT121
 replace o48:=ko o48 hT121
 replace o51:=ko o51 hT121
 replace o54:=ko o54 hT121
 replace hr33:=kr hr33 hT121
 replace hr94:=kr hr94 hT121
 replace hB:=(hB.trans hT121)
 refine wv (v:=.pointer (some (⟨b106,0,none⟩))) rfl (oa _) ?_
 refine anz ?_
 refine wq ?_
 refine wq ?_
 refine Wq rfl (cr [] wd107) ?_
 refine qv (v:=.pointer (some (⟨b32,0,none⟩))) rfl (fun _ _=>om _) ?_
 refine qv (v:=.pointer (some (⟨b32,0,none⟩))) rfl (fun _ _=>op_nilCheck rfl) ?_
 refine qv (v:=.pointer (some (⟨b32,7,none⟩))) rfl (fun _ _=>op_fieldAddrR u131 rfl info129 ne129 rfl rfl) ?_
 refine qv (v:=v52) rfl (fun _ hC=>oldz u129 rfl rfl ((kr hr33 hC).at.cell (j:=7) rfl)) ?_
 refine qv (v:=.int .i64 ((m10.Sieves.length:Int))) rfl (fun _ hC=>op_lenI u129 ((Le.own (Le.own (Le.own (Le.refl _) 2) 87) 110).le (kp _ o54.1 hC))) ?_
 refine qv (v:=.int .i64 ((0:Int))) rfl (fun _ _=>om _) ?_
 intro wd122 hC123
 refine anz ?_
 refine W_for (S1:=Int×(List (List Bool))) (fun s r w'=>match s with | (s0_26,s0_b106_2)=>∃ (v124:Value) (f125:List Nat),Chg [] w w'∧OE [] w.heap.size w' (sOwn 2 (sInt .i64)) [v34] (m10.Sets.Shape.From) f35∧OE [] w.heap.size w' (sOwn 2 (sInt .i64)) [v37] (m10.Sets.Shape.To) f38∧OE [] w.heap.size w' (sOwn 2 (sInt .i64)) [v40] (m10.Sets.Shape.Identity) f41∧OE [] w.heap.size w' (sOwn 22 (sOwn 2 (sInt .i64))) [v43] (m10.Sets.Shape.Composites) f44∧OE [] w.heap.size w' (sOwn 2 (sInt .i64)) [v46] (m10.Sets.Sizes) f47∧OE [] w.heap.size w' (sOwn 22 (sOwn 2 (sInt .i64))) [v49] (m10.Sets.Actions) f50∧OE [] w.heap.size w' (sOwn 110 (sOwn 87 (sOwn 2 (sInt .i64)))) [v52] (m10.Sieves) f53∧Row w' b32 [.int .i64 (m10.Sets.Shape.Objects),v34,v37,v40,v43,v46,v49,v52] 131∧Row w' b91 [.int .i64 ((0:Int))] 180∧Row w' b106 [.pointer (some (⟨b32,0,none⟩)),.pointer (some (p_x0)),v124,.pointer (some (⟨b91,0,none⟩))] 124∧OE [] w.heap.size w' (sOwn 82 (sOwn 4 sBool)) [v124] (s0_b106_2) f125∧Dis f35 f38∧Dis f35 f41∧Dis f35 f44∧Dis f35 f47∧Dis f35 f50∧Dis f35 f53∧Dis f35 [b32]∧Dis f35 [b91]∧Dis f35 [b106]∧Dis f35 f125∧Dis f38 f41∧Dis f38 f44∧Dis f38 f47∧Dis f38 f50∧Dis f38 f53∧Dis f38 [b32]∧Dis f38 [b91]∧Dis f38 [b106]∧Dis f38 f125∧Dis f41 f44∧Dis f41 f47∧Dis f41 f50∧Dis f41 f53∧Dis f41 [b32]∧Dis f41 [b91]∧Dis f41 [b106]∧Dis f41 f125∧Dis f44 f47∧Dis f44 f50∧Dis f44 f53∧Dis f44 [b32]∧Dis f44 [b91]∧Dis f44 [b106]∧Dis f44 f125∧Dis f47 f50∧Dis f47 f53∧Dis f47 [b32]∧Dis f47 [b91]∧Dis f47 [b106]∧Dis f47 f125∧Dis f50 f53∧Dis f50 [b32]∧Dis f50 [b91]∧Dis f50 [b106]∧Dis f50 f125∧Dis f53 [b32]∧Dis f53 [b91]∧Dis f53 [b106]∧Dis f53 f125∧Dis [b32] [b91]∧Dis [b32] [b106]∧Dis [b32] f125∧Dis [b91] [b106]∧Dis [b91] f125∧Dis [b106] f125∧∃ F,r=updL F [(6,.pointer (some (⟨b106,0,none⟩))),(24,v52),(25,.int .i64 ((m10.Sieves.length:Int))),(26,.int .i64 (s0_26))]) (T:=impl_coverageOf_T p_x0 w) ho ⟨_,_,(hB.trans hC123),(ko o36 hC123),(ko o39 hC123),(ko o42 hC123),(ko o45 hC123),(ko o48 hC123),(ko o51 hC123),(ko o54 hC123),(kr hr33 hC123),(kr hr94 hC123),(kr hr109 hC123),nil_OE,(d56),(d57),(d58),(d59),(d60),(d61),(d62),((d97).symm),((d112).symm),(fun _ _ h=>nomatch h),(d63),(d64),(d65),(d66),(d67),(d68),((d98).symm),((d113).symm),(fun _ _ h=>nomatch h),(d69),(d70),(d71),(d72),(d73),((d99).symm),((d114).symm),(fun _ _ h=>nomatch h),(d74),(d75),(d76),(d77),((d100).symm),((d115).symm),(fun _ _ h=>nomatch h),(d78),(d79),(d80),((d101).symm),((d116).symm),(fun _ _ h=>nomatch h),(d81),(d82),((d102).symm),((d117).symm),(fun _ _ h=>nomatch h),(d83),((d103).symm),((d118).symm),(fun _ _ h=>nomatch h),((d104).symm),((d119).symm),(fun _ _ h=>nomatch h),((d120).symm),(fun _ _ h=>nomatch h),(fun _ _ h=>nomatch h),fr ⟨rfl,rfl,rfl,rfl,trivial⟩⟩ ?_ ?_ ?_
 intro x r w' ho hx; subst ho; exact hx
 rintro ⟨s0_26,s0_b106_2⟩ _ wd182 ⟨v124,f125,hB,o36,o39,o42,o45,o48,o51,o54,hr33,hr94,hr109,o126,d127,d128,d129,d130,d131,d132,d133,d134,d135,d136,d137,d138,d139,d140,d141,d142,d143,d144,d145,d146,d147,d148,d149,d150,d151,d152,d153,d154,d155,d156,d157,d158,d159,d160,d161,d162,d163,d164,d165,d166,d167,d168,d169,d170,d171,d172,d173,d174,d175,d176,d177,d178,d179,d180,d181,F,rfl⟩ o ho
 replace ho:impl_coverageOf_L0 m10 s0_26 s0_b106_2=some o:=ho
 unfold impl_coverageOf_L0 at ho
 refine wq ?_
 refine Wq rfl (cr [] wd182) ?_
 refine qv (v:=.bool (decide (s0_26 < (m10.Sieves.length:Int)))) rfl (fun _ _=>op_bin rfl rfl bin_lss) ?_
 intro wd183 hC184
 refine anz ?_
 refine wq ?_
 refine W_cond (b:=decide (s0_26 < (m10.Sieves.length:Int))) rfl ?_ ?_
 intro hb185
 rw [hb185] at ho
 refine W_skip ?_
 refine anz ?_
 refine wq ?_
 refine W_block ?_
 refine wq ?_
 refine Wq rfl hC184 ?_
 obtain ⟨e186,hx187e,ho⟩:=bs ho
 have hx187:=idx_some hx187e
 refine qv (v:=.pointer (some (elA (v52) 1 (s0_26)))) rfl (fun _ hC=>op_indexI u129 info110 sz110 rfl ((Le.own (Le.own (Le.own (Le.refl _) 2) 87) 110).le (kp _ o54.1 hC)) rfl hx187.1 hx187.2) ?_
 obtain ⟨u188,fu189,hu190,hr191,hs192⟩:=one_get rfl ((Le.own (Le.own (Le.own (Le.refl _) 2) 87) 110).le o54.1) hx187.1 hx187.2
 refine qv (v:=u188) rfl (fun _ hC=>oldz u110 rfl rfl (hC.cell0 hu190)) ?_
 refine qv (v:=u188) rfl (fun _ _=>oa _) ?_
 intro wd193 hC194
 refine anz ?_
 obtain ⟨n195,hn196,ho⟩:=bs ho
 obtain ⟨hn196a,hn196b,hn196c⟩:=mk_some hn196
 refine W_any (m:=9) (U:=[[],[],[],[],[],[],[],[],[]]) (S:=[⟨true,pl fun _ _ u=>u=(.pointer (some (⟨b106,0,none⟩)):Value)⟩,⟨true,pl fun _ _ u=>u=(.pointer (some (⟨b106,0,none⟩)):Value)⟩,⟨true,pl fun _ _ u=>u=(.pointer (some (⟨b106,0,none⟩)):Value)⟩,⟨true,pl fun _ _ u=>u=(.pointer (some (⟨b106,2,none⟩)):Value)⟩,⟨true,pl fun _ _ u=>u=(v124:Value)⟩,⟨true,pl fun _ _ u=>u=(u188:Value)⟩,⟨true,pl fun _ _ u=>u=(.int .i64 ((e186.length:Int)):Value)⟩,⟨true,pl (OwnV (sOwn 4 sBool) (List.replicate n195 false))⟩,⟨true,fun f w r u=>LitV [r 37] 82 1 f w u⟩]) (Z:=[0]) hmix rfl (by decide) (by decide +kernel) (fun _ _ _ h=>np_out h) (by decide) rfl (by decide +kernel) (stable_all <| stable_cons stable_val (stable_cons stable_val (stable_cons stable_val (stable_cons stable_val (stable_cons stable_val (stable_cons stable_val (stable_cons stable_val (stable_cons stable_own (stable_cons (stable_litx fun r r' h=>h 7 (by decide +kernel) 37 rfl) ( stable_nil)))))))))) ?_ ?_
 refine owes_cons ?_ ( owes_cons ?_ ( owes_cons ?_ ( owes_cons ?_ ( owes_cons ?_ ( owes_cons ?_ ( owes_cons ?_ ( owes_cons ?_ ( owes_cons ?_ ( owes_nil)))))))))
 refine Owes.val rfl rfl rfl ?_
 intro g r wr hCr H hot
 have hC:=hC194.trans hCr
 obtain ⟨F,rfl⟩:=fr (r:=r) (l:=[(6,.pointer (some (⟨b106,0,none⟩)))]) ⟨(hot 6 (by decide)),trivial⟩
 exact om _
 refine Owes.val rfl rfl rfl ?_
 intro g r wr hCr H hot
 have hC:=hC194.trans hCr
 obtain ⟨F,rfl⟩:=fr (r:=r) (l:=[(6,.pointer (some (⟨b106,0,none⟩)))]) ⟨(hot 6 (by decide)),trivial⟩
 exact om _
 refine Owes.val rfl rfl rfl ?_
 intro g r wr hCr H hot
 have hC:=hC194.trans hCr
 obtain ⟨F,rfl⟩:=fr (r:=r) (l:=[(31,.pointer (some (⟨b106,0,none⟩)))]) ⟨(H 1 (by decide +kernel) 31 rfl),trivial⟩
 exact op_nilCheck rfl
 refine Owes.val rfl rfl rfl ?_
 intro g r wr hCr H hot
 have hC:=hC194.trans hCr
 obtain ⟨F,rfl⟩:=fr (r:=r) (l:=[(32,.pointer (some (⟨b106,0,none⟩)))]) ⟨(H 2 (by decide +kernel) 32 rfl),trivial⟩
 exact op_fieldAddrR u124 rfl info79 ne79 rfl rfl
 refine Owes.val rfl rfl rfl ?_
 intro g r wr hCr H hot
 have hC:=hC194.trans hCr
 obtain ⟨F,rfl⟩:=fr (r:=r) (l:=[(33,.pointer (some (⟨b106,2,none⟩)))]) ⟨(H 3 (by decide +kernel) 33 rfl),trivial⟩
 exact oldz u79 rfl rfl ((kr hr109 hC).at.cell (j:=2) rfl)
 refine Owes.val rfl rfl rfl ?_
 intro g r wr hCr H hot
 have hC:=hC194.trans hCr
 obtain ⟨F,rfl⟩:=fr (r:=r) (l:=[(8,u188)]) ⟨(hot 8 (by decide)),trivial⟩
 exact om _
 refine Owes.val rfl rfl rfl ?_
 intro g r wr hCr H hot
 have hC:=hC194.trans hCr
 obtain ⟨F,rfl⟩:=fr (r:=r) (l:=[(35,u188)]) ⟨(H 5 (by decide +kernel) 35 rfl),trivial⟩
 exact op_lenI u110 (kp _ hr191 hC)
 refine Owes.mem rfl rfl rfl ?_
 intro g r wr hCr H hot
 have hC:=hC194.trans hCr
 obtain ⟨F,rfl⟩:=fr (r:=r) (l:=[(36,.int .i64 ((e186.length:Int)))]) ⟨(H 6 (by decide +kernel) 36 rfl),trivial⟩
 exact OpW.made (own_make (E:=sBool) (z0:=false) u82 info4 zr4 sz4 rfl rfl (fun _=>⟨rfl,rfl⟩) (congrArg (Value.int .i64) hn196a) (congrArg (Value.int .i64) hn196a) (by rw [by4]; exact hn196b) hn196c)
 refine Owes.memX rfl rfl rfl ?_
 intro g r wr hCr H hot
 have hC:=hC194.trans hCr
 have o199:OwnV (sOwn 4 sBool) (List.replicate n195 false) _ _ _:=H 7 (by decide +kernel) 37 rfl
 generalize hvv197:r 37=v197 at o199
 obtain ⟨F,rfl⟩:=fr (r:=r) (l:=[(37,v197)]) ⟨hvv197,trivial⟩
 exact OpW.lit1 u79 info82 zr82 sz82 rfl (STy.one _ o199.1 _ (ms rfl))
 rintro g r wd203 ⟨hC204,hdone,hot,hfresh,hdis⟩
 have o199:OwnV (sOwn 4 sBool) (List.replicate n195 false) _ _ _:=hdone 7 (by decide) (by decide) 37 rfl
 generalize hvv197:r 37=v197 at o199
 have hfo199:=hfresh 7 (by decide)
 obtain ⟨b200,hbb200,hvb200,hr201⟩ : LitV [v197] 82 1 (g 8) wd203 (r 38):=by have h:LitV [r 37] 82 1 (g 8) wd203 (r 38):=hdone 8 (by decide) (by decide) 38 rfl; rw [hvv197] at h; exact h
 have hlb200:wd193.heap.size≤b200:=(hfresh 8 (by decide) b200 (by rw [hbb200]; exact ms rfl)).1
 have hdd:=hdis
 obtain ⟨F,rfl⟩:=fr (r:=r) (l:=[(6,.pointer (some (⟨b106,0,none⟩))),(24,v52),(25,.int .i64 ((m10.Sieves.length:Int))),(26,.int .i64 (s0_26)),(30,.pointer (some (⟨b106,0,none⟩))),(34,v124),(37,v197),(38,.slice (some ⟨b200,0,none⟩) 1 1)]) ⟨(hot 6 (by decide)),(hot 24 (by decide)),(hot 25 (by decide)),(hot 26 (by decide)),(hdone 0 (by decide) (by decide) 30 rfl),(hdone 4 (by decide) (by decide) 34 rfl),hvv197,hvb200,trivial⟩
 obtain ⟨f198,hgf198⟩ : ∃ k,k=g 7:=⟨_,rfl⟩
 rw [← hgf198] at o199 hfo199
 replace o199:OE [] w.heap.size wd203 (sOwn 4 sBool) [v197] (List.replicate n195 false) f198:=⟨o199.1,o199.2,fun b hb=>.inr (Nat.le_trans (hB.trans hC194).size (hfo199 b hb).1)⟩
 have d205:Dis f198 f35:=dl (fun b hb=>(hfo199 b hb).1) (sl _ (kp _ o36.1 hC194))
 have d206:Dis f198 f38:=dl (fun b hb=>(hfo199 b hb).1) (sl _ (kp _ o39.1 hC194))
 have d207:Dis f198 f41:=dl (fun b hb=>(hfo199 b hb).1) (sl _ (kp _ o42.1 hC194))
 have d208:Dis f198 f44:=dl (fun b hb=>(hfo199 b hb).1) (sl _ (kp _ o45.1 hC194))
 have d209:Dis f198 f47:=dl (fun b hb=>(hfo199 b hb).1) (sl _ (kp _ o48.1 hC194))
 have d210:Dis f198 f50:=dl (fun b hb=>(hfo199 b hb).1) (sl _ (kp _ o51.1 hC194))
 have d211:Dis f198 f53:=dl (fun b hb=>(hfo199 b hb).1) (sl _ (kp _ o54.1 hC194))
 have d212:Dis f198 [b32]:=dl (fun b hb=>(hfo199 b hb).1) (one_lt (Row.lt (kr hr33 hC194)))
 have d213:Dis f198 [b91]:=dl (fun b hb=>(hfo199 b hb).1) (one_lt (Row.lt (kr hr94 hC194)))
 have d214:Dis f198 [b106]:=dl (fun b hb=>(hfo199 b hb).1) (one_lt (Row.lt (kr hr109 hC194)))
 have d215:Dis f198 f125:=dl (fun b hb=>(hfo199 b hb).1) (sl _ (kp _ o126.1 hC194))
 have d226:Dis [b200] [b106]:=dl (onw hlb200) (one_lt (Row.lt (kr hr109 hC194)))
 have d227:Dis [b200] f125:=dl (onw hlb200) (sl _ (kp _ o126.1 hC194))
 have hT229:=(hC194.trans hC204)
 replace o36:=ko o36 hT229
 replace o39:=ko o39 hT229
 replace o42:=ko o42 hT229
 replace o45:=ko o45 hT229
 replace o48:=ko o48 hT229
 replace o51:=ko o51 hT229
 replace o54:=ko o54 hT229
 replace hr33:=kr hr33 hT229
 replace hr94:=kr hr94 hT229
 replace hr109:=kr hr109 hT229
 replace o126:=ko o126 hT229
 replace hu190:=hT229.cell0 hu190
 replace hr191:=kp _ hr191 hT229
 replace hB:=(hB.trans hT229)
 obtain ⟨n236,hn237,ho⟩:=bs ho
 have hn237a:=fits_some hn237
 refine WL.append1 (E:=(sOwn 4 sBool)) _ _ u79 info82 zr82 sz82 rfl rfl rfl (ko o126 (cr [] wd203)) rfl (kr hr201 (cr [] wd203)) (kp _ o199.1 (cr [] wd203)) o199.2.1 o199.2.2 d215 (by rw [by82]; exact hn237a.1) hn237a.2 (hB.trans (cr [] wd203)).size fun v230 wd231 f232 hC233 o234 hs235=>?_
 have d238:Dis f232 f35:=dis_upd hs235 (d136).symm d205 (sl _ (kp _ o36.1 (cr [] wd203)))
 have d239:Dis f232 f38:=dis_upd hs235 (d145).symm d206 (sl _ (kp _ o39.1 (cr [] wd203)))
 have d240:Dis f232 f41:=dis_upd hs235 (d153).symm d207 (sl _ (kp _ o42.1 (cr [] wd203)))
 have d241:Dis f232 f44:=dis_upd hs235 (d160).symm d208 (sl _ (kp _ o45.1 (cr [] wd203)))
 have d242:Dis f232 f47:=dis_upd hs235 (d166).symm d209 (sl _ (kp _ o48.1 (cr [] wd203)))
 have d243:Dis f232 f50:=dis_upd hs235 (d171).symm d210 (sl _ (kp _ o51.1 (cr [] wd203)))
 have d244:Dis f232 f53:=dis_upd hs235 (d175).symm d211 (sl _ (kp _ o54.1 (cr [] wd203)))
 have d245:Dis f232 [b32]:=dis_upd hs235 (d178).symm d212 (one_lt (Row.lt (kr hr33 (cr [] wd203))))
 have d246:Dis f232 [b91]:=dis_upd hs235 (d180).symm d213 (one_lt (Row.lt (kr hr94 (cr [] wd203))))
 have d247:Dis f232 [b106]:=dis_upd hs235 (d181).symm d214 (one_lt (Row.lt (kr hr109 (cr [] wd203))))
 have hT250:=((cr [] wd203).nil (G:=f125)).trans hC233
 replace hu190:=hT250.cell (fun hm=>d175 _ (own_blk o54 hx187.2) hm) hu190
 replace hr191:=STy.keep _ hr191 hT250 (fun b hb=>d175 b (hs192 b hb))
 replace o36:=okp o36 hT250 d136
 replace o39:=okp o39 hT250 d145
 replace o42:=okp o42 hT250 d153
 replace o45:=okp o45 hT250 d160
 replace o48:=okp o48 hT250 d166
 replace o51:=okp o51 hT250 d171
 replace o54:=okp o54 hT250 d175
 replace hr33:=Row.keep hr33 hT250 (d178 _ (ms rfl))
 replace hr94:=Row.keep hr94 hT250 (d180 _ (ms rfl))
 replace hr109:=Row.keep hr109 hT250 (d181 _ (ms rfl))
 replace hr201:=Row.keep hr201 hT250 (d227 _ (ms rfl))
 replace hB:=hB.then hT250 o126.2.2
 refine wv (v:=.pointer (some (⟨b106,0,none⟩))) rfl (op_nilCheck rfl) ?_
 refine wv (v:=.pointer (some (⟨b106,2,none⟩))) rfl (op_fieldAddrR u124 rfl info79 ne79 rfl rfl) ?_
 refine WL.storeRow (j:=2) info79 sz79 (kr hr109 (cr [] wd231)) (Nat.le_of_ble_eq_true rfl) rfl rfl (STy.one _ o234.1 _ (ms rfl)) fun wd251 hC252 hr253=>?_
 replace hr253:Row wd251 b106 [.pointer (some (⟨b32,0,none⟩)),.pointer (some (p_x0)),v230,.pointer (some (⟨b91,0,none⟩))] 124:=hr253
 have hT254:=((cr [] wd231).nil (G:=[b106])).trans hC252
 replace hu190:=hT254.cell (fun hm=>d174 _ (own_blk o54 hx187.2) hm) hu190
 replace hr191:=STy.keep _ hr191 hT254 (fun b hb=>d174 b (hs192 b hb))
 replace o36:=okp o36 hT254 d135
 replace o39:=okp o39 hT254 d144
 replace o42:=okp o42 hT254 d152
 replace o45:=okp o45 hT254 d159
 replace o48:=okp o48 hT254 d165
 replace o51:=okp o51 hT254 d170
 replace o54:=okp o54 hT254 d174
 replace hr33:=Row.keep hr33 hT254 (d177 _ (ms rfl))
 replace hr94:=Row.keep hr94 hT254 (d179 _ (ms rfl))
 replace hr201:=Row.keep hr201 hT254 (d226 _ (ms rfl))
 replace o234:=okp o234 hT254 d247
 replace hB:=hB.then hT254 (one_then lo111)
 refine inBlk_n ?_
 refine anz ?_
 refine Wq rfl (cr [] wd251) ?_
 refine qv (v:=.int .i64 (w64 (s0_26 + (1:Int)))) rfl (fun _ _=>op_bin rfl rfl bin_add) ?_
 refine qv (v:=.int .i64 (w64 (s0_26 + (1:Int)))) rfl (fun _ _=>om _) ?_
 intro wd255 hC256
 cases ho
 exact ⟨_,_,(hB.trans hC256),(ko o36 hC256),(ko o39 hC256),(ko o42 hC256),(ko o45 hC256),(ko o48 hC256),(ko o51 hC256),(ko o54 hC256),(kr hr33 hC256),(kr hr94 hC256),(kr hr253 hC256),(ko o234 hC256),(d127),(d128),(d129),(d130),(d131),(d132),(d133),(d134),(d135),((d238).symm),(d137),(d138),(d139),(d140),(d141),(d142),(d143),(d144),((d239).symm),(d146),(d147),(d148),(d149),(d150),(d151),(d152),((d240).symm),(d154),(d155),(d156),(d157),(d158),(d159),((d241).symm),(d161),(d162),(d163),(d164),(d165),((d242).symm),(d167),(d168),(d169),(d170),((d243).symm),(d172),(d173),(d174),((d244).symm),(d176),(d177),((d245).symm),(d179),((d246).symm),((d247).symm),fr ⟨rfl,rfl,rfl,rfl,trivial⟩⟩
 intro hb185
 rw [hb185] at ho
 refine W_exit ?_
 refine andThen_x ?_
 cases ho
 exact ⟨rfl,⟨_,_,(hB.trans hC184),(ko o36 hC184),(ko o39 hC184),(ko o42 hC184),(ko o45 hC184),(ko o48 hC184),(ko o51 hC184),(ko o54 hC184),(kr hr33 hC184),(kr hr94 hC184),(kr hr109 hC184),(ko o126 hC184),(d127),(d128),(d129),(d130),(d131),(d132),(d133),(d134),(d135),(d136),(d137),(d138),(d139),(d140),(d141),(d142),(d143),(d144),(d145),(d146),(d147),(d148),(d149),(d150),(d151),(d152),(d153),(d154),(d155),(d156),(d157),(d158),(d159),(d160),(d161),(d162),(d163),(d164),(d165),(d166),(d167),(d168),(d169),(d170),(d171),(d172),(d173),(d174),(d175),(d176),(d177),(d178),(d179),(d180),(d181),fr ⟨rfl,rfl,rfl,rfl,trivial⟩⟩⟩
 rintro ⟨s0_26,s0_b106_2⟩ _ wd257 ⟨v124,f125,hB,o36,o39,o42,o45,o48,o51,o54,hr33,hr94,hr109,o126,d127,d128,d129,d130,d131,d132,d133,d134,d135,d136,d137,d138,d139,d140,d141,d142,d143,d144,d145,d146,d147,d148,d149,d150,d151,d152,d153,d154,d155,d156,d157,d158,d159,d160,d161,d162,d163,d164,d165,d166,d167,d168,d169,d170,d171,d172,d173,d174,d175,d176,d177,d178,d179,d180,d181,F,rfl⟩ ho
 dsimp only at ho
 refine anz ?_
 refine wq ?_
 refine Wq rfl (cr [] wd257) ?_
 refine qv (v:=.pointer (some (⟨b106,0,none⟩))) rfl (fun _ _=>om _) ?_
 refine qv (v:=.pointer (some (⟨b106,0,none⟩))) rfl (fun _ _=>oa _) ?_
 refine qv (v:=.bool (true)) rfl (fun _ _=>oa _) ?_
 intro wd258 hC259
 refine anz ?_
 cases ho
 exact W_ret ⟨_,res_2 Tryz.results120,_,rfl,(hB.trans hC259),_,_,_,_,_,_,_,_,_,_,_,_,_,_,_,_,_,_,_,rfl,(ko o36 hC259),(ko o39 hC259),(ko o42 hC259),(ko o45 hC259),(ko o48 hC259),(ko o51 hC259),(ko o54 hC259),(kr hr33 hC259),lo84,(ko o126 hC259),(kr hr94 hC259),lo96,(kr hr109 hC259),lo111,d127,d128,d129,d130,d131,d132,d133,d136,d134,d135,d137,d138,d139,d140,d141,d142,d145,d143,d144,d146,d147,d148,d149,d150,d153,d151,d152,d154,d155,d156,d157,d160,d158,d159,d161,d162,d163,d166,d164,d165,d167,d168,d171,d169,d170,d172,d175,d173,d174,d178,d176,d177,(d180).symm,(d181).symm,d179⟩

noncomputable def sync_atomic_Int64_Add (x0:Int) (x1:Int):Option (Int×Int):=
 retM (S:=Unit) (some (Out.ret (((w64 (x0 + x1)),(w64 (x0 + x1))))))
abbrev sync_atomic_Int64_Add_post (b_x0:Nat) (w:World) (x:(Int×Int)) (e:Ending) (w':World):Prop:=e = .returned (.int .i64 x.1)∧Chg [b_x0] w w'∧Row w' b_x0 [.int .i64 x.2] 180
abbrev sync_atomic_Int64_Add_T (b_x0:Nat) (w:World) (x:(Int×Int)) (r:Nat→Value) (w':World):Prop:=∃ v,(∀ a:Act,a.tmps.size=10→rho a=r→(results Tryz.f173 a.tmps).run Tryz.prog w' = .ok v w')∧sync_atomic_Int64_Add_post b_x0 w x (.returned v) w'
theorem sync_atomic_Int64_Add_calls {w:World} {x0:Int} {b_x0:Nat} {x1:Int} (r_x0:Row w b_x0 [.int .i64 (x0)] 180) {y:(Int×Int)} (hm:sync_atomic_Int64_Add x0 x1=some y) :
  Calls Tryz.prog 173 #[.pointer (some (⟨b_x0,0,none⟩)),.int .i64 (x1)] w (sync_atomic_Int64_Add_post b_x0 w y):=by
 refine calls_of_M (S:=Unit) (args:=[.pointer (some (⟨b_x0,0,none⟩)),.int .i64 (x1)]) Tryz.func173 rfl Tryz.ntmps173 (Nat.le_of_ble_eq_true rfl) (retM_some hm) ?_
 clear hm
 intro o ho
 have hB:Chg [b_x0] w w:=cr _ _
 refine wq ?_
 refine Wq rfl (cr [] w) ?_
 refine qv (v:=.int .i64 ((0:Int))) rfl (fun _ _=>oa _) ?_
 intro wd1 hC2
 refine anz ?_
 refine wq ?_
 refine W_region rfl ?_
 refine wv (v:=.pointer (some (⟨b_x0,0,none⟩))) rfl (om _) ?_
 refine wv (v:=.pointer (some (⟨b_x0,0,none⟩))) rfl (op_nilCheck rfl) ?_
 refine wv (v:=.pointer (some (⟨b_x0,0,none⟩))) rfl (op_fieldAddrR Tryz.underlying180 rfl info2 ne2 rfl rfl) ?_
 refine wv (v:=.int .i64 (x1)) rfl (om _) ?_
 refine WL.atAdd (n:=x0) Tryz.func188 (by kernel_rfl) (by kernel_rfl) (by kernel_rfl) (by kernel_rfl) (kr r_x0 hC2) rfl rfl rfl fun wd3 hC4 hr5=>?_
 replace hr5:Row wd3 b_x0 [.int .i64 (w64 (x0 + x1))] 180:=hr5
 have hT6:=(hC2.nil (G:=[b_x0])).trans hC4
 replace hB:=hB.then hT6 (fun i hi=>.inl (by simp [List.mem_singleton.1 hi]))
 refine wv (v:=.int .i64 (w64 (x0 + x1))) rfl (oa _) ?_
 refine anz ?_
 cases ho
 exact W_ret ⟨_,res_1 Tryz.results173,rfl,(hB.trans (Chg.nil (cr [] wd3))),(kr hr5 (cr [] wd3))⟩
end Go.Proofs.YtfbijbginbjecaaGreat
