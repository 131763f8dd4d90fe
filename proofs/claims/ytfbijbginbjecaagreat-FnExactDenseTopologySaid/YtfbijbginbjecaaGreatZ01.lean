/- Walks, printed by a program: what each function computes (a model on plain data), and that a call computes it. No condition beside those that each theorem names. -/
import Derived.Test.YtfbijbginbjecaaGreatTy
namespace Go.Proofs.YtfbijbginbjecaaGreat
open Go Go.Li
set_option linter.unusedVariables false
set_option maxHeartbeats 4000000
set_option maxRecDepth 100000
noncomputable def spec_l25Out_L0 (x0:MCategory) (x1:Int) (s0_5:(List Int)) (s0_6:Int):Option (Out ((List Int)×Int) ((List Int))):=
 (bif decide (s0_6 < (x0.From.length:Int)) then ((idx x0.From (s0_6))>>=fun e25=>(bif (e25) == (x1) then ((fits 8 (s0_5.length + 1))>>=fun n45=>(some (Out.norm (s0_5++[s0_6],w64 (s0_6 + (1:Int)))))) else (some (Out.norm (s0_5,w64 (s0_6 + (1:Int))))))) else (some (Out.exit 0 (s0_5,s0_6))))
noncomputable def spec_l25Out (x0:MCategory) (x1:Int):Option ((List Int)):=
 retM (S:=Unit) (lbind (blockM 0 (loopM (fun s=>spec_l25Out_L0 x0 x1 s.1 s.2) (([]:(List Int)),(0:Int)))) (fun (s0_5,s0_6)=>(some (Out.ret (s0_5)))))
abbrev spec_l25Out_post (w:World) (x:((List Int))) (e:Ending) (w':World):Prop:=∃ (v0:Value) (f0:List Nat),e = .returned (v0)∧Chg [] w w'∧OE [] w.heap.size w' (sOwn 2 (sInt .i64)) [v0] x f0
abbrev spec_l25Out_T (w:World) (x:((List Int))) (r:Nat→Value) (w':World):Prop:=∃ v,(∀ a:Act,a.tmps.size=27→rho a=r→(results Tryz.f135 a.tmps).run Tryz.prog w' = .ok v w')∧spec_l25Out_post w x (.returned v) w'
theorem spec_l25Out_calls {w:World} {x0:MCategory} {z6:Value} {zh:List Nat} {z7:Value} {zg:List Nat} {z9:Value} {zf:List Nat} {z8:Value} {ze:List Nat} {x1:Int} (za:(sImm (sInt .i64)).rep w.heap [z6] x0.From zh) (zb:(sImm (sInt .i64)).rep w.heap [z7] x0.To zg) (zd:(sImm (sInt .i64)).rep w.heap [z9] x0.Identity zf) (zc:(sImm (sImm (sInt .i64))).rep w.heap [z8] x0.Composites ze) {y:((List Int))} (hm:spec_l25Out x0 x1=some y) :
  Calls Tryz.prog 135 #[.agg #[.int .i64 (x0.Objects),z6,z7,z9,z8],.int .i64 (x1)] w (spec_l25Out_post w y):=by
 refine calls_of_M (S:=Unit) (args:=[.agg #[.int .i64 (x0.Objects),z6,z7,z9,z8],.int .i64 (x1)]) Tryz.func135 rfl Tryz.ntmps135 (Nat.le_of_ble_eq_true rfl) (retM_some hm) ?_
 clear hm
 intro o ho
 have hB:Chg [] w w:=cr _ _
 refine wq ?_
 refine W_region rfl ?_
 refine WL.box fun b1 wd2 hC3 hr4 hl5=>?_
 replace hr4:Row wd2 b1 [.int .i64 (x0.Objects),z6,z7,z9,z8] 27:=hr4
 have hT7:=(cr [] w).trans hC3
 replace hB:=(hB.trans hT7)
 refine wv (v:=.slice none 0 0) rfl (oa _) ?_
 refine anz ?_
 refine wq ?_
 refine W_region rfl ?_
 refine WL.lit0 (sInt .i64) u22z info2 fun v8 wd9 f10 hC11 o12=>?_
 have d13:Dis f10 [b1]:=dl (ofr o12) (one_lt (Row.lt (kr hr4 (cr [] wd2))))
 replace o12:=OE.low (G:=[]) o12 (hB.trans (cr [] wd2)).size
 have hT14:=(cr [] wd2).trans hC11
 replace hr4:=kr hr4 hT14
 replace hB:=(hB.trans hT14)
 refine wv (v:=v8) rfl (oa _) ?_
 refine anz ?_
 refine wq ?_
 refine wq ?_
 refine Wq rfl (cr [] wd9) ?_
 refine qv (v:=.int .i64 ((0:Int))) rfl (fun _ _=>oa _) ?_
 intro wd15 hC16
 refine anz ?_
 refine W_for (S1:=(List Int)×Int) (fun s r w'=>match s with | (s0_5,s0_6)=>∃ (v17:Value) (f18:List Nat),Chg [] w w'∧Row w' b1 [.int .i64 (x0.Objects),z6,z7,z9,z8] 27∧OE [] w.heap.size w' (sOwn 2 (sInt .i64)) [v17] (s0_5) f18∧Dis [b1] f18∧∃ F,r=updL F [(1,.int .i64 (x1)),(2,.pointer (some (⟨b1,0,none⟩))),(5,v17),(6,.int .i64 (s0_6))]) (T:=spec_l25Out_T w) ho ⟨_,_,(hB.trans hC16),(kr hr4 hC16),(ko o12 hC16),((d13).symm),fr ⟨rfl,rfl,rfl,rfl,trivial⟩⟩ ?_ ?_ ?_
 intro x r w' ho hx; subst ho; exact hx
 rintro ⟨s0_5,s0_6⟩ _ wd21 ⟨v17,f18,hB,hr4,o19,d20,F,rfl⟩ o ho
 replace ho:spec_l25Out_L0 x0 x1 s0_5 s0_6=some o:=ho
 unfold spec_l25Out_L0 at ho
 refine wq ?_
 refine wq ?_
 refine Wq rfl (cr [] wd21) ?_
 refine qv (v:=.int .i64 (s0_6)) rfl (fun _ _=>om _) ?_
 refine qv (v:=.pointer (some (⟨b1,1,none⟩))) rfl (fun _ _=>op_fieldAddrR u27z rfl info22 ne22 rfl rfl) ?_
 refine qv (v:=z6) rfl (fun _ hC=>oldz u22z rfl rfl ((kr hr4 hC).at.cell (j:=1) rfl)) ?_
 refine qv (v:=.int .i64 ((x0.From.length:Int))) rfl (fun _ hC=>op_lenI u22z (kp _ za (hB.trans hC))) ?_
 refine qv (v:=.bool (decide (s0_6 < (x0.From.length:Int)))) rfl (fun _ _=>op_bin rfl rfl bin_lss) ?_
 intro wd22 hC23
 refine anz ?_
 refine W_cond (b:=decide (s0_6 < (x0.From.length:Int))) rfl ?_ ?_
 intro hb24
 rw [hb24] at ho
 refine W_skip ?_
 refine anz ?_
 refine wq ?_
 refine W_block ?_
 refine wq ?_
 refine Wq rfl hC23 ?_
 refine qv (v:=.pointer (some (⟨b1,1,none⟩))) rfl (fun _ _=>op_fieldAddrR u27z rfl info22 ne22 rfl rfl) ?_
 refine qv (v:=z6) rfl (fun _ hC=>oldz u22z rfl rfl ((kr hr4 hC).at.cell (j:=1) rfl)) ?_
 refine qv (v:=.int .i64 (s0_6)) rfl (fun _ _=>om _) ?_
 obtain ⟨e25,hx26e,ho⟩:=bs ho
 have hx26:=idx_some hx26e
 refine qv (v:=.pointer (some (elA (z6) 1 (s0_6)))) rfl (fun _ hC=>op_indexI u22z info2 sz2 rfl (kp _ za (hB.trans hC)) rfl hx26.1 hx26.2) ?_
 refine qv (v:=.int .i64 (e25)) rfl (fun _ hC=>oldz u2z rfl rfl (int_get (kp _ za (hB.trans hC)) hx26.1 hx26.2)) ?_
 refine qv (v:=.int .i64 (x1)) rfl (fun _ _=>om _) ?_
 refine qv (v:=.bool ((e25) == (x1))) rfl (fun _ _=>op_bin rfl rfl bin_eql) ?_
 intro wd27 hC28
 refine anz ?_
 refine W_cond (b:=(e25) == (x1)) rfl ?_ ?_
 intro hb29
 rw [hb29] at ho
 refine W_region rfl ?_
 refine wv (v:=v17) rfl (om _) ?_
 refine wv (v:=.int .i64 (s0_6)) rfl (om _) ?_
 refine WL.lit1 u22z info2 zr2 sz2 rfl fun b30 wd31 hC32 hr33 hl34=>?_
 replace hr33:Row wd31 b30 [.int .i64 (s0_6)] 2:=hr33
 have d37:Dis [b30] f18:=dl (onw hl34) (sl _ (kp _ o19.1 hC28))
 have hT38:=hC28.trans hC32
 replace hr4:=kr hr4 hT38
 replace o19:=ko o19 hT38
 replace hB:=(hB.trans hT38)
 obtain ⟨n45,hn46,ho⟩:=bs ho
 have hn46a:=fits_some hn46
 refine WL.append1 (E:=(sInt .i64)) _ _ u22z info2 zr2 sz2 rfl rfl rfl (ko o19 (cr [] wd31)) rfl (kr hr33 (cr [] wd31)) ⟨rfl,rfl⟩ List.nodup_nil (fun _ h=>nomatch h) (fun _ h=>nomatch h) (by rw [by2]; exact hn46a.1) hn46a.2 (hB.trans (cr [] wd31)).size fun v39 wd40 f41 hC42 o43 hs44=>?_
 have d47:Dis f41 [b1]:=dis_upd hs44 (d20).symm (fun _ h=>nomatch h) (one_lt (Row.lt (kr hr4 (cr [] wd31))))
 have hT49:=((cr [] wd31).nil (G:=f18)).trans hC42
 replace hr4:=Row.keep hr4 hT49 (d20 _ (ms rfl))
 replace hr33:=Row.keep hr33 hT49 (d37 _ (ms rfl))
 replace hB:=hB.then hT49 o19.2.2
 refine wv (v:=v39) rfl (oa _) ?_
 refine inBlk_n ?_
 refine anz ?_
 refine Wq rfl (cr [] wd40) ?_
 refine qv (v:=.int .i64 (s0_6)) rfl (fun _ _=>om _) ?_
 refine qv (v:=.int .i64 (w64 (s0_6 + (1:Int)))) rfl (fun _ _=>op_bin rfl rfl bin_add) ?_
 refine qv (v:=.int .i64 (w64 (s0_6 + (1:Int)))) rfl (fun _ _=>oa _) ?_
 intro wd50 hC51
 cases ho
 exact ⟨_,_,(hB.trans hC51),(kr hr4 hC51),(ko o43 hC51),((d47).symm),fr ⟨rfl,rfl,rfl,rfl,trivial⟩⟩
 intro hb29
 rw [hb29] at ho
 refine W_skip ?_
 refine inBlk_n ?_
 refine anz ?_
 refine Wq rfl hC28 ?_
 refine qv (v:=.int .i64 (s0_6)) rfl (fun _ _=>om _) ?_
 refine qv (v:=.int .i64 (w64 (s0_6 + (1:Int)))) rfl (fun _ _=>op_bin rfl rfl bin_add) ?_
 refine qv (v:=.int .i64 (w64 (s0_6 + (1:Int)))) rfl (fun _ _=>oa _) ?_
 intro wd52 hC53
 cases ho
 exact ⟨_,_,(hB.trans hC53),(kr hr4 hC53),(ko o19 hC53),(d20),fr ⟨rfl,rfl,rfl,rfl,trivial⟩⟩
 intro hb24
 rw [hb24] at ho
 refine W_exit ?_
 refine andThen_x ?_
 cases ho
 exact ⟨rfl,⟨_,_,(hB.trans hC23),(kr hr4 hC23),(ko o19 hC23),(d20),fr ⟨rfl,rfl,rfl,rfl,trivial⟩⟩⟩
 rintro ⟨s0_5,s0_6⟩ _ wd54 ⟨v17,f18,hB,hr4,o19,d20,F,rfl⟩ ho
 dsimp only at ho
 refine anz ?_
 refine wq ?_
 refine Wq rfl (cr [] wd54) ?_
 refine qv (v:=v17) rfl (fun _ _=>om _) ?_
 refine qv (v:=v17) rfl (fun _ _=>oa _) ?_
 intro wd55 hC56
 refine anz ?_
 cases ho
 exact W_ret ⟨_,res_1 Tryz.results135,_,_,rfl,(hB.trans hC56),(ko o19 hC56)⟩

noncomputable def spec_l01Same_L0 (x0:(List Int)) (x1:(List Int)) (s0_5:Int):Option (Out (Int) (Bool)):=
 (bif decide (s0_5 < (x0.length:Int)) then ((idx x0 (s0_5))>>=fun e14=>((idx x1 (s0_5))>>=fun e16=>(bif (e14) != (e16) then (some (Out.ret (false))) else (some (Out.norm (w64 (s0_5 + (1:Int)))))))) else (some (Out.exit 0 (s0_5))))
noncomputable def spec_l01Same (x0:(List Int)) (x1:(List Int)):Option (Bool):=
 retM (S:=Unit) (bif ((x0.length:Int)) != ((x1.length:Int)) then (some (Out.ret (false))) else (lbind (blockM 0 (loopM (spec_l01Same_L0 x0 x1) ((0:Int)))) (fun s0_5=>(some (Out.ret (true))))))
abbrev spec_l01Same_post (w:World) (x:(Bool)) (e:Ending) (w':World):Prop:=e = .returned (.bool x)∧Chg [] w w'
abbrev spec_l01Same_T (w:World) (x:(Bool)) (r:Nat→Value) (w':World):Prop:=∃ v,(∀ a:Act,a.tmps.size=26→rho a=r→(results Tryz.f94 a.tmps).run Tryz.prog w' = .ok v w')∧spec_l01Same_post w x (.returned v) w'
theorem spec_l01Same_calls {w:World} {x0:(List Int)} {v_x0:Value} {f_x0:List Nat} {x1:(List Int)} {v_x1:Value} {f_x1:List Nat} (h_x0:(sImm (sInt .i64)).rep w.heap [v_x0] x0 f_x0) (h_x1:(sImm (sInt .i64)).rep w.heap [v_x1] x1 f_x1) {y:(Bool)} (hm:spec_l01Same x0 x1=some y) :
  Calls Tryz.prog 94 #[v_x0,v_x1] w (spec_l01Same_post w y):=by
 refine calls_of_M (S:=Unit) (args:=[v_x0,v_x1]) Tryz.func94 rfl Tryz.ntmps94 (Nat.le_of_ble_eq_true rfl) (retM_some hm) ?_
 clear hm
 intro o ho
 have hB:Chg [] w w:=cr _ _
 refine wq ?_
 refine Wq rfl (cr [] w) ?_
 refine qv (v:=.bool (false)) rfl (fun _ _=>oa _) ?_
 intro wd1 hC2
 refine anz ?_
 refine wq ?_
 refine wq ?_
 refine Wq rfl hC2 ?_
 refine qv (v:=v_x0) rfl (fun _ _=>om _) ?_
 refine qv (v:=.int .i64 ((x0.length:Int))) rfl (fun _ hC=>op_lenI u22z (kp _ h_x0 (hB.trans hC))) ?_
 refine qv (v:=v_x1) rfl (fun _ _=>om _) ?_
 refine qv (v:=.int .i64 ((x1.length:Int))) rfl (fun _ hC=>op_lenI u22z (kp _ h_x1 (hB.trans hC))) ?_
 refine qv (v:=.bool (((x0.length:Int)) != ((x1.length:Int)))) rfl (fun _ _=>op_bin rfl rfl bin_neq) ?_
 intro wd3 hC4
 refine anz ?_
 refine W_cond (b:=((x0.length:Int)) != ((x1.length:Int))) rfl ?_ ?_
 intro hb5
 rw [hb5] at ho
 refine wq ?_
 refine Wq rfl hC4 ?_
 refine qv (v:=.bool (false)) rfl (fun _ _=>oa _) ?_
 intro wd6 hC7
 refine anz ?_
 cases ho
 exact W_ret ⟨_,res_1 Tryz.results94,rfl,(hB.trans hC7)⟩
 intro hb5
 rw [hb5] at ho
 refine W_skip ?_
 refine anz ?_
 refine wq ?_
 refine wq ?_
 refine Wq rfl hC4 ?_
 refine qv (v:=.int .i64 ((0:Int))) rfl (fun _ _=>oa _) ?_
 intro wd8 hC9
 refine anz ?_
 refine W_for (S1:=Int) (fun (s0_5:Int) r w'=>Chg [] w w'∧∃ F,r=updL F [(0,v_x0),(1,v_x1),(5,.int .i64 (s0_5))]) (T:=spec_l01Same_T w) ho ⟨(hB.trans hC9),fr ⟨rfl,rfl,rfl,trivial⟩⟩ ?_ ?_ ?_
 intro x r w' ho hx; subst ho; exact hx
 rintro s0_5 _ wd10 ⟨hB,F,rfl⟩ o ho
 replace ho:spec_l01Same_L0 x0 x1 s0_5=some o:=ho
 unfold spec_l01Same_L0 at ho
 refine wq ?_
 refine wq ?_
 refine Wq rfl (cr [] wd10) ?_
 refine qv (v:=.int .i64 (s0_5)) rfl (fun _ _=>om _) ?_
 refine qv (v:=v_x0) rfl (fun _ _=>om _) ?_
 refine qv (v:=.int .i64 ((x0.length:Int))) rfl (fun _ hC=>op_lenI u22z (kp _ h_x0 (hB.trans hC))) ?_
 refine qv (v:=.bool (decide (s0_5 < (x0.length:Int)))) rfl (fun _ _=>op_bin rfl rfl bin_lss) ?_
 intro wd11 hC12
 refine anz ?_
 refine W_cond (b:=decide (s0_5 < (x0.length:Int))) rfl ?_ ?_
 intro hb13
 rw [hb13] at ho
 refine W_skip ?_
 refine anz ?_
 refine wq ?_
 refine W_block ?_
 refine wq ?_
 refine Wqd rfl (by kernel_rfl) hC12 ?_
 refine qv (v:=v_x0) rfl (fun _ _=>om _) ?_
 refine qv (v:=.int .i64 (s0_5)) rfl (fun _ _=>om _) ?_
 obtain ⟨e14,hx15e,ho⟩:=bs ho
 have hx15:=idx_some hx15e
 refine qv (v:=.pointer (some (elA (v_x0) 1 (s0_5)))) rfl (fun _ hC=>op_indexI u22z info2 sz2 rfl (kp _ h_x0 (hB.trans hC)) rfl hx15.1 hx15.2) ?_
 refine qv (v:=.int .i64 (e14)) rfl (fun _ hC=>oldz u2z rfl rfl (int_get (kp _ h_x0 (hB.trans hC)) hx15.1 hx15.2)) ?_
 refine qv (v:=v_x1) rfl (fun _ _=>om _) ?_
 refine qv (v:=.int .i64 (s0_5)) rfl (fun _ _=>om _) ?_
 obtain ⟨e16,hx17e,ho⟩:=bs ho
 have hx17:=idx_some hx17e
 refine qv (v:=.pointer (some (elA (v_x1) 1 (s0_5)))) rfl (fun _ hC=>op_indexI u22z info2 sz2 rfl (kp _ h_x1 (hB.trans hC)) rfl hx17.1 hx17.2) ?_
 refine qv (v:=.int .i64 (e16)) rfl (fun _ hC=>oldz u2z rfl rfl (int_get (kp _ h_x1 (hB.trans hC)) hx17.1 hx17.2)) ?_
 refine qv (v:=.bool ((e14) != (e16))) rfl (fun _ _=>op_bin rfl rfl bin_neq) ?_
 intro wd18 hC19
 refine anz ?_
 refine W_cond (b:=(e14) != (e16)) rfl ?_ ?_
 intro hb20
 rw [hb20] at ho
 refine wq ?_
 refine Wq rfl hC19 ?_
 refine qv (v:=.bool (false)) rfl (fun _ _=>oa _) ?_
 intro wd21 hC22
 refine anz ?_
 cases ho
 exact W_ret ⟨_,res_1 Tryz.results94,rfl,(hB.trans hC22)⟩
 intro hb20
 rw [hb20] at ho
 refine W_skip ?_
 refine inBlk_n ?_
 refine anz ?_
 refine Wq rfl hC19 ?_
 refine qv (v:=.int .i64 (s0_5)) rfl (fun _ _=>om _) ?_
 refine qv (v:=.int .i64 (w64 (s0_5 + (1:Int)))) rfl (fun _ _=>op_bin rfl rfl bin_add) ?_
 refine qv (v:=.int .i64 (w64 (s0_5 + (1:Int)))) rfl (fun _ _=>oa _) ?_
 intro wd23 hC24
 cases ho
 exact ⟨(hB.trans hC24),fr ⟨rfl,rfl,rfl,trivial⟩⟩
 intro hb13
 rw [hb13] at ho
 refine W_exit ?_
 refine andThen_x ?_
 cases ho
 exact ⟨rfl,⟨(hB.trans hC12),fr ⟨rfl,rfl,rfl,trivial⟩⟩⟩
 rintro s0_5 _ wd25 ⟨hB,F,rfl⟩ ho
 replace ho:=ho
 refine anz ?_
 refine wq ?_
 refine Wq rfl (cr [] wd25) ?_
 refine qv (v:=.bool (true)) rfl (fun _ _=>oa _) ?_
 intro wd26 hC27
 refine anz ?_
 cases ho
 exact W_ret ⟨_,res_1 Tryz.results94,rfl,(hB.trans hC27)⟩

noncomputable def spec_l05Place_L0 (x0:(List (List Int))) (x1:(List Int)) (s0_5:Int):Option (Out (Int) (Int)):=
 (bif decide (s0_5 < (x0.length:Int)) then ((idx x0 (s0_5))>>=fun e9=>((spec_l01Same e9 x1)>>=fun y16=>(bif y16 then (some (Out.ret (s0_5))) else (some (Out.norm (w64 (s0_5 + (1:Int)))))))) else (some (Out.exit 0 (s0_5))))
noncomputable def spec_l05Place (x0:(List (List Int))) (x1:(List Int)):Option (Int):=
 retM (S:=Unit) (lbind (blockM 0 (loopM (spec_l05Place_L0 x0 x1) ((0:Int)))) (fun s0_5=>(some (Out.ret (((-1:Int)))))))
abbrev spec_l05Place_post (w:World) (x:(Int)) (e:Ending) (w':World):Prop:=e = .returned (.int .i64 x)∧Chg [] w w'
abbrev spec_l05Place_T (w:World) (x:(Int)) (r:Nat→Value) (w':World):Prop:=∃ v,(∀ a:Act,a.tmps.size=19→rho a=r→(results Tryz.f150 a.tmps).run Tryz.prog w' = .ok v w')∧spec_l05Place_post w x (.returned v) w'
theorem spec_l05Place_calls {w:World} {x0:(List (List Int))} {v_x0:Value} {f_x0:List Nat} {x1:(List Int)} {v_x1:Value} {f_x1:List Nat} (h_x0:(sImm (sImm (sInt .i64))).rep w.heap [v_x0] x0 f_x0) (h_x1:(sImm (sInt .i64)).rep w.heap [v_x1] x1 f_x1) {y:(Int)} (hm:spec_l05Place x0 x1=some y) :
  Calls Tryz.prog 150 #[v_x0,v_x1] w (spec_l05Place_post w y):=by
 refine calls_of_M (S:=Unit) (args:=[v_x0,v_x1]) Tryz.func150 rfl Tryz.ntmps150 (Nat.le_of_ble_eq_true rfl) (retM_some hm) ?_
 clear hm
 intro o ho
 have hB:Chg [] w w:=cr _ _
 refine wq ?_
 refine Wq rfl (cr [] w) ?_
 refine qv (v:=.int .i64 ((0:Int))) rfl (fun _ _=>oa _) ?_
 intro wd1 hC2
 refine anz ?_
 refine wq ?_
 refine wq ?_
 refine Wq rfl hC2 ?_
 refine qv (v:=.int .i64 ((0:Int))) rfl (fun _ _=>oa _) ?_
 intro wd3 hC4
 refine anz ?_
 refine W_for (S1:=Int) (fun (s0_5:Int) r w'=>Chg [] w w'∧∃ F,r=updL F [(0,v_x0),(1,v_x1),(5,.int .i64 (s0_5))]) (T:=spec_l05Place_T w) ho ⟨(hB.trans hC4),fr ⟨rfl,rfl,rfl,trivial⟩⟩ ?_ ?_ ?_
 intro x r w' ho hx; subst ho; exact hx
 rintro s0_5 _ wd5 ⟨hB,F,rfl⟩ o ho
 replace ho:spec_l05Place_L0 x0 x1 s0_5=some o:=ho
 unfold spec_l05Place_L0 at ho
 refine wq ?_
 refine wq ?_
 refine Wq rfl (cr [] wd5) ?_
 refine qv (v:=.int .i64 (s0_5)) rfl (fun _ _=>om _) ?_
 refine qv (v:=v_x0) rfl (fun _ _=>om _) ?_
 refine qv (v:=.int .i64 ((x0.length:Int))) rfl (fun _ hC=>op_lenI u23z (kp _ h_x0 (hB.trans hC))) ?_
 refine qv (v:=.bool (decide (s0_5 < (x0.length:Int)))) rfl (fun _ _=>op_bin rfl rfl bin_lss) ?_
 intro wd6 hC7
 refine anz ?_
 refine W_cond (b:=decide (s0_5 < (x0.length:Int))) rfl ?_ ?_
 intro hb8
 rw [hb8] at ho
 refine W_skip ?_
 refine anz ?_
 refine wq ?_
 refine W_block ?_
 refine wq ?_
 refine Wq rfl hC7 ?_
 refine qv (v:=v_x0) rfl (fun _ _=>om _) ?_
 refine qv (v:=.int .i64 (s0_5)) rfl (fun _ _=>om _) ?_
 obtain ⟨e9,hx10e,ho⟩:=bs ho
 have hx10:=idx_some hx10e
 refine qv (v:=.pointer (some (elA (v_x0) 1 (s0_5)))) rfl (fun _ hC=>op_indexI u23z info22 sz22 rfl (kp _ h_x0 (hB.trans hC)) rfl hx10.1 hx10.2) ?_
 obtain ⟨u11,fu12,hu13,hr14,hs15⟩:=one_get rfl h_x0 hx10.1 hx10.2
 refine qv (v:=u11) rfl (fun _ hC=>oldz u22z rfl rfl ((hB.trans hC).cell0 hu13)) ?_
 refine qv (v:=v_x1) rfl (fun _ _=>om _) ?_
 obtain ⟨y16,hy17,ho⟩:=bs ho
 refine QL.call (v:=.bool (y16)) rfl (fun _ _=>op_callF Tryz.func94 rfl rfl) (fun _ hC=>(spec_l01Same_calls (kp _ hr14 (hB.trans hC)) (kp _ h_x1 (hB.trans hC)) hy17).mono fun _ _ h=>⟨h.1,hC.trans h.2⟩) ?_
 intro wd18 hC19
 refine anz ?_
 refine W_cond (b:=y16) rfl ?_ ?_
 intro hb20
 rw [hb20] at ho
 refine wq ?_
 refine Wq rfl hC19 ?_
 refine qv (v:=.int .i64 (s0_5)) rfl (fun _ _=>om _) ?_
 refine qv (v:=.int .i64 (s0_5)) rfl (fun _ _=>oa _) ?_
 intro wd21 hC22
 refine anz ?_
 cases ho
 exact W_ret ⟨_,res_1 Tryz.results150,rfl,(hB.trans hC22)⟩
 intro hb20
 rw [hb20] at ho
 refine W_skip ?_
 refine inBlk_n ?_
 refine anz ?_
 refine Wq rfl hC19 ?_
 refine qv (v:=.int .i64 (s0_5)) rfl (fun _ _=>om _) ?_
 refine qv (v:=.int .i64 (w64 (s0_5 + (1:Int)))) rfl (fun _ _=>op_bin rfl rfl bin_add) ?_
 refine qv (v:=.int .i64 (w64 (s0_5 + (1:Int)))) rfl (fun _ _=>oa _) ?_
 intro wd23 hC24
 cases ho
 exact ⟨(hB.trans hC24),fr ⟨rfl,rfl,rfl,trivial⟩⟩
 intro hb8
 rw [hb8] at ho
 refine W_exit ?_
 refine andThen_x ?_
 cases ho
 exact ⟨rfl,⟨(hB.trans hC7),fr ⟨rfl,rfl,rfl,trivial⟩⟩⟩
 rintro s0_5 _ wd25 ⟨hB,F,rfl⟩ ho
 replace ho:=ho
 refine anz ?_
 refine wq ?_
 refine Wq rfl (cr [] wd25) ?_
 refine qv (v:=.int .i64 ((-1:Int))) rfl (fun _ _=>oa _) ?_
 intro wd26 hC27
 refine anz ?_
 cases ho
 exact W_ret ⟨_,res_1 Tryz.results150,rfl,(hB.trans hC27)⟩

noncomputable def spec_l01Has_L0 (x0:(List Int)) (x1:Int) (s0_5:Int):Option (Out (Int) (Bool)):=
 (bif decide (s0_5 < (x0.length:Int)) then ((idx x0 (s0_5))>>=fun e9=>(bif (e9) == (x1) then (some (Out.ret (true))) else (some (Out.norm (w64 (s0_5 + (1:Int))))))) else (some (Out.exit 0 (s0_5))))
noncomputable def spec_l01Has (x0:(List Int)) (x1:Int):Option (Bool):=
 retM (S:=Unit) (lbind (blockM 0 (loopM (spec_l01Has_L0 x0 x1) ((0:Int)))) (fun s0_5=>(some (Out.ret (false)))))
abbrev spec_l01Has_post (w:World) (x:(Bool)) (e:Ending) (w':World):Prop:=e = .returned (.bool x)∧Chg [] w w'
abbrev spec_l01Has_T (w:World) (x:(Bool)) (r:Nat→Value) (w':World):Prop:=∃ v,(∀ a:Act,a.tmps.size=18→rho a=r→(results Tryz.f127 a.tmps).run Tryz.prog w' = .ok v w')∧spec_l01Has_post w x (.returned v) w'
theorem spec_l01Has_calls {w:World} {x0:(List Int)} {v_x0:Value} {f_x0:List Nat} {x1:Int} (h_x0:(sImm (sInt .i64)).rep w.heap [v_x0] x0 f_x0) {y:(Bool)} (hm:spec_l01Has x0 x1=some y) :
  Calls Tryz.prog 127 #[v_x0,.int .i64 (x1)] w (spec_l01Has_post w y):=by
 refine calls_of_M (S:=Unit) (args:=[v_x0,.int .i64 (x1)]) Tryz.func127 rfl Tryz.ntmps127 (Nat.le_of_ble_eq_true rfl) (retM_some hm) ?_
 clear hm
 intro o ho
 have hB:Chg [] w w:=cr _ _
 refine wq ?_
 refine Wq rfl (cr [] w) ?_
 refine qv (v:=.bool (false)) rfl (fun _ _=>oa _) ?_
 intro wd1 hC2
 refine anz ?_
 refine wq ?_
 refine wq ?_
 refine Wq rfl hC2 ?_
 refine qv (v:=.int .i64 ((0:Int))) rfl (fun _ _=>oa _) ?_
 intro wd3 hC4
 refine anz ?_
 refine W_for (S1:=Int) (fun (s0_5:Int) r w'=>Chg [] w w'∧∃ F,r=updL F [(0,v_x0),(1,.int .i64 (x1)),(5,.int .i64 (s0_5))]) (T:=spec_l01Has_T w) ho ⟨(hB.trans hC4),fr ⟨rfl,rfl,rfl,trivial⟩⟩ ?_ ?_ ?_
 intro x r w' ho hx; subst ho; exact hx
 rintro s0_5 _ wd5 ⟨hB,F,rfl⟩ o ho
 replace ho:spec_l01Has_L0 x0 x1 s0_5=some o:=ho
 unfold spec_l01Has_L0 at ho
 refine wq ?_
 refine wq ?_
 refine Wq rfl (cr [] wd5) ?_
 refine qv (v:=.int .i64 (s0_5)) rfl (fun _ _=>om _) ?_
 refine qv (v:=v_x0) rfl (fun _ _=>om _) ?_
 refine qv (v:=.int .i64 ((x0.length:Int))) rfl (fun _ hC=>op_lenI u22z (kp _ h_x0 (hB.trans hC))) ?_
 refine qv (v:=.bool (decide (s0_5 < (x0.length:Int)))) rfl (fun _ _=>op_bin rfl rfl bin_lss) ?_
 intro wd6 hC7
 refine anz ?_
 refine W_cond (b:=decide (s0_5 < (x0.length:Int))) rfl ?_ ?_
 intro hb8
 rw [hb8] at ho
 refine W_skip ?_
 refine anz ?_
 refine wq ?_
 refine W_block ?_
 refine wq ?_
 refine Wq rfl hC7 ?_
 refine qv (v:=v_x0) rfl (fun _ _=>om _) ?_
 refine qv (v:=.int .i64 (s0_5)) rfl (fun _ _=>om _) ?_
 obtain ⟨e9,hx10e,ho⟩:=bs ho
 have hx10:=idx_some hx10e
 refine qv (v:=.pointer (some (elA (v_x0) 1 (s0_5)))) rfl (fun _ hC=>op_indexI u22z info2 sz2 rfl (kp _ h_x0 (hB.trans hC)) rfl hx10.1 hx10.2) ?_
 refine qv (v:=.int .i64 (e9)) rfl (fun _ hC=>oldz u2z rfl rfl (int_get (kp _ h_x0 (hB.trans hC)) hx10.1 hx10.2)) ?_
 refine qv (v:=.int .i64 (x1)) rfl (fun _ _=>om _) ?_
 refine qv (v:=.bool ((e9) == (x1))) rfl (fun _ _=>op_bin rfl rfl bin_eql) ?_
 intro wd11 hC12
 refine anz ?_
 refine W_cond (b:=(e9) == (x1)) rfl ?_ ?_
 intro hb13
 rw [hb13] at ho
 refine wq ?_
 refine Wq rfl hC12 ?_
 refine qv (v:=.bool (true)) rfl (fun _ _=>oa _) ?_
 intro wd14 hC15
 refine anz ?_
 cases ho
 exact W_ret ⟨_,res_1 Tryz.results127,rfl,(hB.trans hC15)⟩
 intro hb13
 rw [hb13] at ho
 refine W_skip ?_
 refine inBlk_n ?_
 refine anz ?_
 refine Wq rfl hC12 ?_
 refine qv (v:=.int .i64 (s0_5)) rfl (fun _ _=>om _) ?_
 refine qv (v:=.int .i64 (w64 (s0_5 + (1:Int)))) rfl (fun _ _=>op_bin rfl rfl bin_add) ?_
 refine qv (v:=.int .i64 (w64 (s0_5 + (1:Int)))) rfl (fun _ _=>oa _) ?_
 intro wd16 hC17
 cases ho
 exact ⟨(hB.trans hC17),fr ⟨rfl,rfl,rfl,trivial⟩⟩
 intro hb8
 rw [hb8] at ho
 refine W_exit ?_
 refine andThen_x ?_
 cases ho
 exact ⟨rfl,⟨(hB.trans hC7),fr ⟨rfl,rfl,rfl,trivial⟩⟩⟩
 rintro s0_5 _ wd18 ⟨hB,F,rfl⟩ ho
 replace ho:=ho
 refine anz ?_
 refine wq ?_
 refine Wq rfl (cr [] wd18) ?_
 refine qv (v:=.bool (false)) rfl (fun _ _=>oa _) ?_
 intro wd19 hC20
 refine anz ?_
 cases ho
 exact W_ret ⟨_,res_1 Tryz.results127,rfl,(hB.trans hC20)⟩

noncomputable def spec_l01Own (x0:(List Int)):Option ((List Int)):=
 retM (S:=Unit) ((fits 8 ((([]:(List Int))).length + x0.length))>>=fun n15=>(some (Out.ret ((([]:(List Int))++x0)))))
abbrev spec_l01Own_post (w:World) (x:((List Int))) (e:Ending) (w':World):Prop:=∃ (v0:Value) (f0:List Nat),e = .returned (v0)∧Chg [] w w'∧OE [] w.heap.size w' (sOwn 2 (sInt .i64)) [v0] x f0
abbrev spec_l01Own_T (w:World) (x:((List Int))) (r:Nat→Value) (w':World):Prop:=∃ v,(∀ a:Act,a.tmps.size=6→rho a=r→(results Tryz.f95 a.tmps).run Tryz.prog w' = .ok v w')∧spec_l01Own_post w x (.returned v) w'
theorem spec_l01Own_calls {w:World} {x0:(List Int)} {v_x0:Value} {f_x0:List Nat} (h_x0:(sImm (sInt .i64)).rep w.heap [v_x0] x0 f_x0) {y:((List Int))} (hm:spec_l01Own x0=some y) :
  Calls Tryz.prog 95 #[v_x0] w (spec_l01Own_post w y):=by
 refine calls_of_M (S:=Unit) (args:=[v_x0]) Tryz.func95 rfl Tryz.ntmps95 (Nat.le_of_ble_eq_true rfl) (retM_some hm) ?_
 clear hm
 intro o ho
 have hB:Chg [] w w:=cr _ _
 refine wq ?_
 refine Wq rfl (cr [] w) ?_
 refine qv (v:=.slice none 0 0) rfl (fun _ _=>oa _) ?_
 intro wd1 hC2
 refine anz ?_
 refine wq ?_
 refine W_region rfl ?_
 refine WL.lit0 (sInt .i64) u22z info2 fun v3 wd4 f5 hC6 o7=>?_
 replace o7:=OE.low (G:=[]) o7 (hB.trans hC2).size
 have hT8:=hC2.trans hC6
 replace hB:=(hB.trans hT8)
 refine wv (v:=v_x0) rfl (om _) ?_
 obtain ⟨n15,hn16,ho⟩:=bs ho
 have hn16a:=fits_some hn16
 refine WL.appendS (E:=(sInt .i64)) _ _ sInt_nofp u22z info2 zr2 sz2 rfl rfl rfl (ko o7 (cr [] wd4)) rfl (kp _ h_x0 (hB.trans (cr [] wd4))) (by rw [by2]; exact hn16a.1) hn16a.2 (hB.trans (cr [] wd4)).size fun v9 wd10 f11 hC12 o13 hs14=>?_
 have hT17:=((cr [] wd4).nil (G:=f5)).trans hC12
 replace hB:=hB.then hT17 o7.2.2
 refine wv (v:=v9) rfl (oa _) ?_
 refine anz ?_
 cases ho
 exact W_ret ⟨_,res_1 Tryz.results95,_,_,rfl,(hB.trans (cr [] wd10)),(ko o13 (cr [] wd10))⟩

noncomputable def spec_l02Then (x0:MCategory) (x1:Int) (x2:Int):Option (Int):=
 retM (S:=Unit) ((idx x0.Composites (x1))>>=fun e8=>((idx e8 (x2))>>=fun e15=>(some (Out.ret (e15)))))
abbrev spec_l02Then_post (w:World) (x:(Int)) (e:Ending) (w':World):Prop:=e = .returned (.int .i64 x)∧Chg [] w w'
abbrev spec_l02Then_T (w:World) (x:(Int)) (r:Nat→Value) (w':World):Prop:=∃ v,(∀ a:Act,a.tmps.size=15→rho a=r→(results Tryz.f128 a.tmps).run Tryz.prog w' = .ok v w')∧spec_l02Then_post w x (.returned v) w'
theorem spec_l02Then_calls {w:World} {x0:MCategory} {z6:Value} {zh:List Nat} {z7:Value} {zg:List Nat} {z9:Value} {zf:List Nat} {z8:Value} {ze:List Nat} {x1:Int} {x2:Int} (za:(sImm (sInt .i64)).rep w.heap [z6] x0.From zh) (zb:(sImm (sInt .i64)).rep w.heap [z7] x0.To zg) (zd:(sImm (sInt .i64)).rep w.heap [z9] x0.Identity zf) (zc:(sImm (sImm (sInt .i64))).rep w.heap [z8] x0.Composites ze) {y:(Int)} (hm:spec_l02Then x0 x1 x2=some y) :
  Calls Tryz.prog 128 #[.agg #[.int .i64 (x0.Objects),z6,z7,z9,z8],.int .i64 (x1),.int .i64 (x2)] w (spec_l02Then_post w y):=by
 refine calls_of_M (S:=Unit) (args:=[.agg #[.int .i64 (x0.Objects),z6,z7,z9,z8],.int .i64 (x1),.int .i64 (x2)]) Tryz.func128 rfl Tryz.ntmps128 (Nat.le_of_ble_eq_true rfl) (retM_some hm) ?_
 clear hm
 intro o ho
 have hB:Chg [] w w:=cr _ _
 refine wq ?_
 refine W_region rfl ?_
 refine WL.box fun b1 wd2 hC3 hr4 hl5=>?_
 replace hr4:Row wd2 b1 [.int .i64 (x0.Objects),z6,z7,z9,z8] 27:=hr4
 have hT7:=(cr [] w).trans hC3
 replace hB:=(hB.trans hT7)
 refine wv (v:=.int .i64 ((0:Int))) rfl (oa _) ?_
 refine anz ?_
 refine wq ?_
 refine Wq rfl (cr [] wd2) ?_
 refine qv (v:=.pointer (some (⟨b1,4,none⟩))) rfl (fun _ _=>op_fieldAddrR u27z rfl info23 ne23 rfl rfl) ?_
 refine qv (v:=z8) rfl (fun _ hC=>oldz u23z rfl rfl ((kr hr4 hC).at.cell (j:=4) rfl)) ?_
 refine qv (v:=.int .i64 (x1)) rfl (fun _ _=>om _) ?_
 obtain ⟨e8,hx9e,ho⟩:=bs ho
 have hx9:=idx_some hx9e
 refine qv (v:=.pointer (some (elA (z8) 1 (x1)))) rfl (fun _ hC=>op_indexI u23z info22 sz22 rfl (kp _ zc (hB.trans hC)) rfl hx9.1 hx9.2) ?_
 obtain ⟨u10,fu11,hu12,hr13,hs14⟩:=one_get rfl zc hx9.1 hx9.2
 refine qv (v:=u10) rfl (fun _ hC=>oldz u22z rfl rfl ((hB.trans hC).cell0 hu12)) ?_
 refine qv (v:=.int .i64 (x2)) rfl (fun _ _=>om _) ?_
 obtain ⟨e15,hx16e,ho⟩:=bs ho
 have hx16:=idx_some hx16e
 refine qv (v:=.pointer (some (elA (u10) 1 (x2)))) rfl (fun _ hC=>op_indexI u22z info2 sz2 rfl (kp _ hr13 (hB.trans hC)) rfl hx16.1 hx16.2) ?_
 refine qv (v:=.int .i64 (e15)) rfl (fun _ hC=>oldz u2z rfl rfl (int_get (kp _ hr13 (hB.trans hC)) hx16.1 hx16.2)) ?_
 refine qv (v:=.int .i64 (e15)) rfl (fun _ _=>oa _) ?_
 intro wd17 hC18
 refine anz ?_
 cases ho
 exact W_ret ⟨_,res_1 Tryz.results128,rfl,(hB.trans hC18)⟩

noncomputable def spec_l25Close_L1 (x0:MCategory) (x1:(List Int)) (s0_6:Int) (s1_7:Int) (s1_o14:(List Bool)):Option (Out (Int×(List Bool)) ((List Int))):=
 (bif decide (s1_7 < (x0.From.length:Int)) then ((idx x1 (s0_6))>>=fun e31=>((idx x0.To (e31))>>=fun e33=>((idx x0.From (s1_7))>>=fun e35=>(bif (e33) == (e35) then ((idx x1 (s0_6))>>=fun e40=>((spec_l02Then x0 (e40) (s1_7))>>=fun y45=>((idx s1_o14 (y45))>>=fun e49=>(some (Out.norm (w64 (s1_7 + (1:Int)),s1_o14.set (y45).toNat (true))))))) else (some (Out.norm (w64 (s1_7 + (1:Int)),s1_o14))))))) else (some (Out.exit 2 (s1_7,s1_o14))))
noncomputable def spec_l25Close_L0 (x0:MCategory) (x1:(List Int)) (s0_6:Int) (s0_o14:(List Bool)):Option (Out (Int×(List Bool)) ((List Int))):=
 (bif decide (s0_6 < (x1.length:Int)) then (lbind (blockM 2 (loopM (fun s=>spec_l25Close_L1 x0 x1 s0_6 s.1 s.2) ((0:Int),s0_o14))) (fun (s1_7,s1_o14)=>(some (Out.norm (w64 (s0_6 + (1:Int)),s1_o14))))) else (some (Out.exit 0 (s0_6,s0_o14))))
noncomputable def spec_l25Close_L2 (s0_o14:(List Bool)) (s2_8:(List Int)) (s2_9:Int):Option (Out ((List Int)×Int) ((List Int))):=
 (bif decide (s2_9 < (s0_o14.length:Int)) then ((idx s0_o14 (s2_9))>>=fun e81=>(bif e81 then ((fits 8 (s2_8.length + 1))>>=fun n101=>(some (Out.norm (s2_8++[s2_9],w64 (s2_9 + (1:Int)))))) else (some (Out.norm (s2_8,w64 (s2_9 + (1:Int))))))) else (some (Out.exit 4 (s2_8,s2_9))))
noncomputable def spec_l25Close (x0:MCategory) (x1:(List Int)):Option ((List Int)):=
 retM (S:=Unit) ((mk 1 ((x0.From.length:Int)))>>=fun n8=>(lbind (blockM 0 (loopM (fun s=>spec_l25Close_L0 x0 x1 s.1 s.2) ((0:Int),List.replicate n8 false))) (fun (s0_6,s0_o14)=>(lbind (blockM 4 (loopM (fun s=>spec_l25Close_L2 s0_o14 s.1 s.2) (([]:(List Int)),(0:Int)))) (fun (s2_8,s2_9)=>(some (Out.ret (s2_8))))))))
abbrev spec_l25Close_post (w:World) (x:((List Int))) (e:Ending) (w':World):Prop:=∃ (v0:Value) (f0:List Nat),e = .returned (v0)∧Chg [] w w'∧OE [] w.heap.size w' (sOwn 2 (sInt .i64)) [v0] x f0
abbrev spec_l25Close_T (w:World) (x:((List Int))) (r:Nat→Value) (w':World):Prop:=∃ v,(∀ a:Act,a.tmps.size=66→rho a=r→(results Tryz.f206 a.tmps).run Tryz.prog w' = .ok v w')∧spec_l25Close_post w x (.returned v) w'
theorem spec_l25Close_calls {w:World} {x0:MCategory} {z6:Value} {zh:List Nat} {z7:Value} {zg:List Nat} {z9:Value} {zf:List Nat} {z8:Value} {ze:List Nat} {x1:(List Int)} {v_x1:Value} {f_x1:List Nat} (za:(sImm (sInt .i64)).rep w.heap [z6] x0.From zh) (zb:(sImm (sInt .i64)).rep w.heap [z7] x0.To zg) (zd:(sImm (sInt .i64)).rep w.heap [z9] x0.Identity zf) (zc:(sImm (sImm (sInt .i64))).rep w.heap [z8] x0.Composites ze) (h_x1:(sImm (sInt .i64)).rep w.heap [v_x1] x1 f_x1) {y:((List Int))} (hm:spec_l25Close x0 x1=some y) :
  Calls Tryz.prog 206 #[.agg #[.int .i64 (x0.Objects),z6,z7,z9,z8],v_x1] w (spec_l25Close_post w y):=by
 refine calls_of_M (S:=Unit) (args:=[.agg #[.int .i64 (x0.Objects),z6,z7,z9,z8],v_x1]) Tryz.func206 rfl Tryz.ntmps206 (Nat.le_of_ble_eq_true rfl) (retM_some hm) ?_
 clear hm
 intro o ho
 have hB:Chg [] w w:=cr _ _
 refine wq ?_
 refine W_region rfl ?_
 refine WL.box fun b1 wd2 hC3 hr4 hl5=>?_
 replace hr4:Row wd2 b1 [.int .i64 (x0.Objects),z6,z7,z9,z8] 27:=hr4
 have hT7:=(cr [] w).trans hC3
 replace hB:=(hB.trans hT7)
 refine wv (v:=.slice none 0 0) rfl (oa _) ?_
 refine anz ?_
 refine wq ?_
 refine W_region rfl ?_
 refine wv (v:=.pointer (some (⟨b1,1,none⟩))) rfl (op_fieldAddrR u27z rfl info22 ne22 rfl rfl) ?_
 refine wv (v:=z6) rfl (oldz u22z rfl rfl ((kr hr4 (cr [] wd2)).at.cell (j:=1) rfl)) ?_
 refine wv (v:=.int .i64 ((x0.From.length:Int))) rfl (op_lenI u22z (kp _ za (hB.trans (cr [] wd2)))) ?_
 obtain ⟨n8,hn9,ho⟩:=bs ho
 obtain ⟨hn9a,hn9b,hn9c⟩:=mk_some hn9
 refine WL.make (z0:=false) sBool u82 info4 zr4 sz4 rfl rfl (fun _=>⟨rfl,rfl⟩) (congrArg (Value.int .i64) hn9a) (congrArg (Value.int .i64) hn9a) (by rw [by4]; exact hn9b) hn9c fun v10 wd11 f12 hC13 o14=>?_
 have d15:Dis f12 [b1]:=dl (ofr o14) (one_lt (Row.lt (kr hr4 (cr [] wd2))))
 replace o14:=OE.low (G:=[]) o14 (hB.trans (cr [] wd2)).size
 have hT16:=(cr [] wd2).trans hC13
 replace hr4:=kr hr4 hT16
 replace hB:=(hB.trans hT16)
 refine wv (v:=v10) rfl (oa _) ?_
 refine anz ?_
 refine wq ?_
 refine wq ?_
 refine Wq rfl (cr [] wd11) ?_
 refine qv (v:=.int .i64 ((0:Int))) rfl (fun _ _=>oa _) ?_
 intro wd17 hC18
 refine anz ?_
 refine W_for (S1:=Int×(List Bool)) (fun s r w'=>match s with | (s0_6,s0_o14)=>Chg [] w w'∧Row w' b1 [.int .i64 (x0.Objects),z6,z7,z9,z8] 27∧OE [] w.heap.size w' (sOwn 4 sBool) [v10] (s0_o14) f12∧Dis [b1] f12∧∃ F,r=updL F [(1,v_x1),(2,.pointer (some (⟨b1,0,none⟩))),(5,v10),(6,.int .i64 (s0_6))]) (T:=spec_l25Close_T w) ho ⟨(hB.trans hC18),(kr hr4 hC18),(ko o14 hC18),((d15).symm),fr ⟨rfl,rfl,rfl,rfl,trivial⟩⟩ ?_ ?_ ?_
 intro x r w' ho hx; subst ho; exact hx
 rintro ⟨s0_6,s0_o14⟩ _ wd20 ⟨hB,hr4,o14,d19,F,rfl⟩ o ho
 replace ho:spec_l25Close_L0 x0 x1 s0_6 s0_o14=some o:=ho
 unfold spec_l25Close_L0 at ho
 refine wq ?_
 refine wq ?_
 refine Wq rfl (cr [] wd20) ?_
 refine qv (v:=.int .i64 (s0_6)) rfl (fun _ _=>om _) ?_
 refine qv (v:=v_x1) rfl (fun _ _=>om _) ?_
 refine qv (v:=.int .i64 ((x1.length:Int))) rfl (fun _ hC=>op_lenI u22z (kp _ h_x1 (hB.trans hC))) ?_
 refine qv (v:=.bool (decide (s0_6 < (x1.length:Int)))) rfl (fun _ _=>op_bin rfl rfl bin_lss) ?_
 intro wd21 hC22
 refine anz ?_
 refine W_cond (b:=decide (s0_6 < (x1.length:Int))) rfl ?_ ?_
 intro hb23
 rw [hb23] at ho
 refine W_skip ?_
 refine anz ?_
 refine wq ?_
 refine W_block ?_
 refine wq ?_
 refine Wq rfl hC22 ?_
 refine qv (v:=.int .i64 ((0:Int))) rfl (fun _ _=>oa _) ?_
 intro wd24 hC25
 refine anz ?_
 refine W_for (S1:=Int×(List Bool)) (fun s r w'=>match s with | (s1_7,s1_o14)=>Chg [] w w'∧Row w' b1 [.int .i64 (x0.Objects),z6,z7,z9,z8] 27∧OE [] w.heap.size w' (sOwn 4 sBool) [v10] (s1_o14) f12∧Dis [b1] f12∧∃ F,r=updL F [(1,v_x1),(2,.pointer (some (⟨b1,0,none⟩))),(5,v10),(6,.int .i64 (s0_6)),(7,.int .i64 (s1_7))]) (T:=spec_l25Close_T w) ho ⟨(hB.trans hC25),(kr hr4 hC25),(ko o14 hC25),(d19),fr ⟨rfl,rfl,rfl,rfl,rfl,trivial⟩⟩ ?_ ?_ ?_
 intro x r w' ho hx; subst ho; exact hx
 rintro ⟨s1_7,s1_o14⟩ _ wd27 ⟨hB,hr4,o14,d26,F,rfl⟩ o ho
 replace ho:spec_l25Close_L1 x0 x1 s0_6 s1_7 s1_o14=some o:=ho
 unfold spec_l25Close_L1 at ho
 refine wq ?_
 refine wq ?_
 refine Wq rfl (cr [] wd27) ?_
 refine qv (v:=.int .i64 (s1_7)) rfl (fun _ _=>om _) ?_
 refine qv (v:=.pointer (some (⟨b1,1,none⟩))) rfl (fun _ _=>op_fieldAddrR u27z rfl info22 ne22 rfl rfl) ?_
 refine qv (v:=z6) rfl (fun _ hC=>oldz u22z rfl rfl ((kr hr4 hC).at.cell (j:=1) rfl)) ?_
 refine qv (v:=.int .i64 ((x0.From.length:Int))) rfl (fun _ hC=>op_lenI u22z (kp _ za (hB.trans hC))) ?_
 refine qv (v:=.bool (decide (s1_7 < (x0.From.length:Int)))) rfl (fun _ _=>op_bin rfl rfl bin_lss) ?_
 intro wd28 hC29
 refine anz ?_
 refine W_cond (b:=decide (s1_7 < (x0.From.length:Int))) rfl ?_ ?_
 intro hb30
 rw [hb30] at ho
 refine W_skip ?_
 refine anz ?_
 refine wq ?_
 refine W_block ?_
 refine wq ?_
 refine Wqd rfl (by kernel_rfl) hC29 ?_
 refine qv (v:=.pointer (some (⟨b1,2,none⟩))) rfl (fun _ _=>op_fieldAddrR u27z rfl info22 ne22 rfl rfl) ?_
 refine qv (v:=z7) rfl (fun _ hC=>oldz u22z rfl rfl ((kr hr4 hC).at.cell (j:=2) rfl)) ?_
 refine qv (v:=v_x1) rfl (fun _ _=>om _) ?_
 refine qv (v:=.int .i64 (s0_6)) rfl (fun _ _=>om _) ?_
 obtain ⟨e31,hx32e,ho⟩:=bs ho
 have hx32:=idx_some hx32e
 refine qv (v:=.pointer (some (elA (v_x1) 1 (s0_6)))) rfl (fun _ hC=>op_indexI u22z info2 sz2 rfl (kp _ h_x1 (hB.trans hC)) rfl hx32.1 hx32.2) ?_
 refine qv (v:=.int .i64 (e31)) rfl (fun _ hC=>oldz u2z rfl rfl (int_get (kp _ h_x1 (hB.trans hC)) hx32.1 hx32.2)) ?_
 obtain ⟨e33,hx34e,ho⟩:=bs ho
 have hx34:=idx_some hx34e
 refine qv (v:=.pointer (some (elA (z7) 1 (e31)))) rfl (fun _ hC=>op_indexI u22z info2 sz2 rfl (kp _ zb (hB.trans hC)) rfl hx34.1 hx34.2) ?_
 refine qv (v:=.int .i64 (e33)) rfl (fun _ hC=>oldz u2z rfl rfl (int_get (kp _ zb (hB.trans hC)) hx34.1 hx34.2)) ?_
 refine qv (v:=.pointer (some (⟨b1,1,none⟩))) rfl (fun _ _=>op_fieldAddrR u27z rfl info22 ne22 rfl rfl) ?_
 refine qv (v:=z6) rfl (fun _ hC=>oldz u22z rfl rfl ((kr hr4 hC).at.cell (j:=1) rfl)) ?_
 refine qv (v:=.int .i64 (s1_7)) rfl (fun _ _=>om _) ?_
 obtain ⟨e35,hx36e,ho⟩:=bs ho
 have hx36:=idx_some hx36e
 refine qv (v:=.pointer (some (elA (z6) 1 (s1_7)))) rfl (fun _ hC=>op_indexI u22z info2 sz2 rfl (kp _ za (hB.trans hC)) rfl hx36.1 hx36.2) ?_
 refine qv (v:=.int .i64 (e35)) rfl (fun _ hC=>oldz u2z rfl rfl (int_get (kp _ za (hB.trans hC)) hx36.1 hx36.2)) ?_
 refine qv (v:=.bool ((e33) == (e35))) rfl (fun _ _=>op_bin rfl rfl bin_eql) ?_
 intro wd37 hC38
 refine anz ?_
 refine W_cond (b:=(e33) == (e35)) rfl ?_ ?_
 intro hb39
 rw [hb39] at ho
 obtain ⟨e40,hx41e,ho⟩:=bs ho
 have hx41:=idx_some hx41e
 refine W_any (m:=7) (U:=[[],[],[],[],[],[],[]]) (S:=[⟨true,pl fun _ _ u=>u=(v10:Value)⟩,⟨true,pl fun _ _ u=>u=(.agg #[.int .i64 (x0.Objects),z6,z7,z9,z8]:Value)⟩,⟨true,pl fun _ _ u=>u=(v_x1:Value)⟩,⟨true,pl fun _ _ u=>u=(.int .i64 (s0_6):Value)⟩,⟨true,pl fun _ _ u=>u=(.pointer (some (elA (v_x1) 1 (s0_6))):Value)⟩,⟨true,pl fun _ _ u=>u=(.int .i64 (e40):Value)⟩,⟨true,pl fun _ _ u=>u=(.int .i64 (s1_7):Value)⟩]) (Z:=[0]) hmix rfl (by decide) (by decide +kernel) (fun _ _ _ h=>np_out h) (by decide) rfl (by decide +kernel) (stable_all <| stable_cons stable_val (stable_cons stable_val (stable_cons stable_val (stable_cons stable_val (stable_cons stable_val (stable_cons stable_val (stable_cons stable_val ( stable_nil)))))))) ?_ ?_
 refine owes_cons ?_ ( owes_cons ?_ ( owes_cons ?_ ( owes_cons ?_ ( owes_cons ?_ ( owes_cons ?_ ( owes_cons ?_ ( owes_nil)))))))
 refine Owes.val rfl rfl rfl ?_
 intro g r wr hCr H hot
 have hC:=hC38.trans hCr
 obtain ⟨F,rfl⟩:=fr (r:=r) (l:=[(5,v10)]) ⟨(hot 5 (by decide)),trivial⟩
 exact om _
 refine Owes.val rfl rfl rfl ?_
 intro g r wr hCr H hot
 have hC:=hC38.trans hCr
 obtain ⟨F,rfl⟩:=fr (r:=r) (l:=[(2,.pointer (some (⟨b1,0,none⟩)))]) ⟨(hot 2 (by decide)),trivial⟩
 exact op_loadAgg u27z rfl info27 (by rw [sz27]; rfl) rfl (kr hr4 hC).at
 refine Owes.val rfl rfl rfl ?_
 intro g r wr hCr H hot
 have hC:=hC38.trans hCr
 obtain ⟨F,rfl⟩:=fr (r:=r) (l:=[(1,v_x1)]) ⟨(hot 1 (by decide)),trivial⟩
 exact om _
 refine Owes.val rfl rfl rfl ?_
 intro g r wr hCr H hot
 have hC:=hC38.trans hCr
 obtain ⟨F,rfl⟩:=fr (r:=r) (l:=[(6,.int .i64 (s0_6))]) ⟨(hot 6 (by decide)),trivial⟩
 exact om _
 refine Owes.val rfl rfl rfl ?_
 intro g r wr hCr H hot
 have hC:=hC38.trans hCr
 obtain ⟨F,rfl⟩:=fr (r:=r) (l:=[(43,v_x1),(44,.int .i64 (s0_6))]) ⟨(H 2 (by decide +kernel) 43 rfl),(H 3 (by decide +kernel) 44 rfl),trivial⟩
 exact op_indexI u22z info2 sz2 rfl (kp _ h_x1 (hB.trans hC)) rfl hx41.1 hx41.2
 refine Owes.val rfl rfl rfl ?_
 intro g r wr hCr H hot
 have hC:=hC38.trans hCr
 obtain ⟨F,rfl⟩:=fr (r:=r) (l:=[(45,.pointer (some (elA (v_x1) 1 (s0_6))))]) ⟨(H 4 (by decide +kernel) 45 rfl),trivial⟩
 exact oldz u2z rfl rfl (int_get (kp _ h_x1 (hB.trans hC)) hx41.1 hx41.2)
 refine Owes.val rfl rfl rfl ?_
 intro g r wr hCr H hot
 have hC:=hC38.trans hCr
 obtain ⟨F,rfl⟩:=fr (r:=r) (l:=[(7,.int .i64 (s1_7))]) ⟨(hot 7 (by decide)),trivial⟩
 exact om _
 rintro g r wd42 ⟨hC43,hdone,hot,hfresh,hdis⟩
 have hdd:=hdis
 obtain ⟨F,rfl⟩:=fr (r:=r) (l:=[(1,v_x1),(2,.pointer (some (⟨b1,0,none⟩))),(5,v10),(6,.int .i64 (s0_6)),(7,.int .i64 (s1_7)),(41,v10),(42,.agg #[.int .i64 (x0.Objects),z6,z7,z9,z8]),(46,.int .i64 (e40)),(47,.int .i64 (s1_7))]) ⟨(hot 1 (by decide)),(hot 2 (by decide)),(hot 5 (by decide)),(hot 6 (by decide)),(hot 7 (by decide)),(hdone 0 (by decide) (by decide) 41 rfl),(hdone 1 (by decide) (by decide) 42 rfl),(hdone 5 (by decide) (by decide) 46 rfl),(hdone 6 (by decide) (by decide) 47 rfl),trivial⟩
 have hT44:=(hC38.trans hC43)
 replace hr4:=kr hr4 hT44
 replace o14:=ko o14 hT44
 replace hB:=(hB.trans hT44)
 obtain ⟨y45,hy46,ho⟩:=bs ho
 refine WL.call rfl (op_callF Tryz.func128 rfl rfl) (spec_l02Then_calls (kp _ za (hB.trans (cr [] wd42))) (kp _ zb (hB.trans (cr [] wd42))) (kp _ zd (hB.trans (cr [] wd42))) (kp _ zc (hB.trans (cr [] wd42))) hy46) ?_
 rintro _ wd47 ⟨rfl,hC48⟩
 refine ⟨_,rfl,?_⟩
 obtain ⟨e49,hx50e,ho⟩:=bs ho
 have hx50:=idx_some hx50e
 refine wv (v:=.pointer (some (elA (v10) 1 (y45)))) rfl (op_indexI u82 info4 sz4 rfl ((Le.own (Le.refl _) 4).le (kp _ o14.1 ((cr [] wd42).trans hC48))) rfl hx50.1 hx50.2) ?_
 refine WL.storeEl (z':=true) _ _ sBool_nofp rfl info4 sz4 (ko o14 ((cr [] wd42).trans hC48)) hx50.2 rfl rfl ⟨rfl,rfl⟩ fun wd51 hC52 o53=>?_
 have hT54:=(((cr [] wd42).trans hC48).nil (G:=f12)).trans hC52
 replace hr4:=Row.keep hr4 hT54 (d26 _ (ms rfl))
 replace hB:=hB.then hT54 o14.2.2
 refine inBlk_n ?_
 refine anz ?_
 refine Wq rfl (cr [] wd51) ?_
 refine qv (v:=.int .i64 (s1_7)) rfl (fun _ _=>om _) ?_
 refine qv (v:=.int .i64 (w64 (s1_7 + (1:Int)))) rfl (fun _ _=>op_bin rfl rfl bin_add) ?_
 refine qv (v:=.int .i64 (w64 (s1_7 + (1:Int)))) rfl (fun _ _=>oa _) ?_
 intro wd55 hC56
 cases ho
 exact ⟨(hB.trans hC56),(kr hr4 hC56),(ko o53 hC56),(d26),fr ⟨rfl,rfl,rfl,rfl,rfl,trivial⟩⟩
 intro hb39
 rw [hb39] at ho
 refine W_skip ?_
 refine inBlk_n ?_
 refine anz ?_
 refine Wq rfl hC38 ?_
 refine qv (v:=.int .i64 (s1_7)) rfl (fun _ _=>om _) ?_
 refine qv (v:=.int .i64 (w64 (s1_7 + (1:Int)))) rfl (fun _ _=>op_bin rfl rfl bin_add) ?_
 refine qv (v:=.int .i64 (w64 (s1_7 + (1:Int)))) rfl (fun _ _=>oa _) ?_
 intro wd57 hC58
 cases ho
 exact ⟨(hB.trans hC58),(kr hr4 hC58),(ko o14 hC58),(d26),fr ⟨rfl,rfl,rfl,rfl,rfl,trivial⟩⟩
 intro hb30
 rw [hb30] at ho
 refine W_exit ?_
 refine andThen_x ?_
 cases ho
 exact ⟨rfl,⟨(hB.trans hC29),(kr hr4 hC29),(ko o14 hC29),(d26),fr ⟨rfl,rfl,rfl,rfl,rfl,trivial⟩⟩⟩
 rintro ⟨s1_7,s1_o14⟩ _ wd59 ⟨hB,hr4,o14,d26,F,rfl⟩ ho
 dsimp only at ho
 refine inBlk_n ?_
 refine anz ?_
 refine Wq rfl (cr [] wd59) ?_
 refine qv (v:=.int .i64 (s0_6)) rfl (fun _ _=>om _) ?_
 refine qv (v:=.int .i64 (w64 (s0_6 + (1:Int)))) rfl (fun _ _=>op_bin rfl rfl bin_add) ?_
 refine qv (v:=.int .i64 (w64 (s0_6 + (1:Int)))) rfl (fun _ _=>oa _) ?_
 intro wd60 hC61
 cases ho
 exact ⟨(hB.trans hC61),(kr hr4 hC61),(ko o14 hC61),(d26),fr ⟨rfl,rfl,rfl,rfl,trivial⟩⟩
 intro hb23
 rw [hb23] at ho
 refine W_exit ?_
 refine andThen_x ?_
 cases ho
 exact ⟨rfl,⟨(hB.trans hC22),(kr hr4 hC22),(ko o14 hC22),(d19),fr ⟨rfl,rfl,rfl,rfl,trivial⟩⟩⟩
 rintro ⟨s0_6,s0_o14⟩ _ wd62 ⟨hB,hr4,o14,d19,F,rfl⟩ ho
 dsimp only at ho
 refine anz ?_
 refine wq ?_
 refine W_region rfl ?_
 refine WL.lit0 (sInt .i64) u22z info2 fun v63 wd64 f65 hC66 o67=>?_
 have d69:Dis f65 f12:=dl (ofr o67) (sl _ (kp _ o14.1 (cr [] wd62)))
 replace o67:=OE.low (G:=[]) o67 (hB.trans (cr [] wd62)).size
 have hT70:=(cr [] wd62).trans hC66
 replace hr4:=kr hr4 hT70
 replace o14:=ko o14 hT70
 replace hB:=(hB.trans hT70)
 refine wv (v:=v63) rfl (oa _) ?_
 refine anz ?_
 refine wq ?_
 refine wq ?_
 refine Wq rfl (cr [] wd64) ?_
 refine qv (v:=.int .i64 ((0:Int))) rfl (fun _ _=>oa _) ?_
 intro wd71 hC72
 refine anz ?_
 refine W_for (S1:=(List Int)×Int) (fun s r w'=>match s with | (s2_8,s2_9)=>∃ (v73:Value) (f74:List Nat),Chg [] w w'∧OE [] w.heap.size w' (sOwn 4 sBool) [v10] (s0_o14) f12∧OE [] w.heap.size w' (sOwn 2 (sInt .i64)) [v73] (s2_8) f74∧Dis f12 f74∧∃ F,r=updL F [(5,v10),(8,v73),(9,.int .i64 (s2_9))]) (T:=spec_l25Close_T w) ho ⟨_,_,(hB.trans hC72),(ko o14 hC72),(ko o67 hC72),((d69).symm),fr ⟨rfl,rfl,rfl,trivial⟩⟩ ?_ ?_ ?_
 intro x r w' ho hx; subst ho; exact hx
 rintro ⟨s2_8,s2_9⟩ _ wd77 ⟨v73,f74,hB,o14,o75,d76,F,rfl⟩ o ho
 replace ho:spec_l25Close_L2 s0_o14 s2_8 s2_9=some o:=ho
 unfold spec_l25Close_L2 at ho
 refine wq ?_
 refine wq ?_
 refine Wq rfl (cr [] wd77) ?_
 refine qv (v:=.int .i64 (s2_9)) rfl (fun _ _=>om _) ?_
 refine qv (v:=v10) rfl (fun _ _=>om _) ?_
 refine qv (v:=.int .i64 ((s0_o14.length:Int))) rfl (fun _ hC=>op_lenI u82 ((Le.own (Le.refl _) 4).le (kp _ o14.1 hC))) ?_
 refine qv (v:=.bool (decide (s2_9 < (s0_o14.length:Int)))) rfl (fun _ _=>op_bin rfl rfl bin_lss) ?_
 intro wd78 hC79
 refine anz ?_
 refine W_cond (b:=decide (s2_9 < (s0_o14.length:Int))) rfl ?_ ?_
 intro hb80
 rw [hb80] at ho
 refine W_skip ?_
 refine anz ?_
 refine wq ?_
 refine W_block ?_
 refine wq ?_
 refine Wq rfl hC79 ?_
 refine qv (v:=v10) rfl (fun _ _=>om _) ?_
 refine qv (v:=.int .i64 (s2_9)) rfl (fun _ _=>om _) ?_
 obtain ⟨e81,hx82e,ho⟩:=bs ho
 have hx82:=idx_some hx82e
 refine qv (v:=.pointer (some (elA (v10) 1 (s2_9)))) rfl (fun _ hC=>op_indexI u82 info4 sz4 rfl ((Le.own (Le.refl _) 4).le (kp _ o14.1 hC)) rfl hx82.1 hx82.2) ?_
 refine qv (v:=.bool (e81)) rfl (fun _ hC=>oldz Tryz.underlying4 rfl rfl (bool_get ((Le.own (Le.refl _) 4).le (kp _ o14.1 hC)) hx82.1 hx82.2)) ?_
 intro wd83 hC84
 refine anz ?_
 refine W_cond (b:=e81) rfl ?_ ?_
 intro hb85
 rw [hb85] at ho
 refine W_region rfl ?_
 refine wv (v:=v73) rfl (om _) ?_
 refine wv (v:=.int .i64 (s2_9)) rfl (om _) ?_
 refine WL.lit1 u22z info2 zr2 sz2 rfl fun b86 wd87 hC88 hr89 hl90=>?_
 replace hr89:Row wd87 b86 [.int .i64 (s2_9)] 2:=hr89
 have d93:Dis [b86] f74:=dl (onw hl90) (sl _ (kp _ o75.1 hC84))
 have hT94:=hC84.trans hC88
 replace o14:=ko o14 hT94
 replace o75:=ko o75 hT94
 replace hB:=(hB.trans hT94)
 obtain ⟨n101,hn102,ho⟩:=bs ho
 have hn102a:=fits_some hn102
 refine WL.append1 (E:=(sInt .i64)) _ _ u22z info2 zr2 sz2 rfl rfl rfl (ko o75 (cr [] wd87)) rfl (kr hr89 (cr [] wd87)) ⟨rfl,rfl⟩ List.nodup_nil (fun _ h=>nomatch h) (fun _ h=>nomatch h) (by rw [by2]; exact hn102a.1) hn102a.2 (hB.trans (cr [] wd87)).size fun v95 wd96 f97 hC98 o99 hs100=>?_
 have d103:Dis f97 f12:=dis_upd hs100 (d76).symm (fun _ h=>nomatch h) (sl _ (kp _ o14.1 (cr [] wd87)))
 have hT105:=((cr [] wd87).nil (G:=f74)).trans hC98
 replace o14:=okp o14 hT105 d76
 replace hr89:=Row.keep hr89 hT105 (d93 _ (ms rfl))
 replace hB:=hB.then hT105 o75.2.2
 refine wv (v:=v95) rfl (oa _) ?_
 refine inBlk_n ?_
 refine anz ?_
 refine Wq rfl (cr [] wd96) ?_
 refine qv (v:=.int .i64 (s2_9)) rfl (fun _ _=>om _) ?_
 refine qv (v:=.int .i64 (w64 (s2_9 + (1:Int)))) rfl (fun _ _=>op_bin rfl rfl bin_add) ?_
 refine qv (v:=.int .i64 (w64 (s2_9 + (1:Int)))) rfl (fun _ _=>oa _) ?_
 intro wd106 hC107
 cases ho
 exact ⟨_,_,(hB.trans hC107),(ko o14 hC107),(ko o99 hC107),((d103).symm),fr ⟨rfl,rfl,rfl,trivial⟩⟩
 intro hb85
 rw [hb85] at ho
 refine W_skip ?_
 refine inBlk_n ?_
 refine anz ?_
 refine Wq rfl hC84 ?_
 refine qv (v:=.int .i64 (s2_9)) rfl (fun _ _=>om _) ?_
 refine qv (v:=.int .i64 (w64 (s2_9 + (1:Int)))) rfl (fun _ _=>op_bin rfl rfl bin_add) ?_
 refine qv (v:=.int .i64 (w64 (s2_9 + (1:Int)))) rfl (fun _ _=>oa _) ?_
 intro wd108 hC109
 cases ho
 exact ⟨_,_,(hB.trans hC109),(ko o14 hC109),(ko o75 hC109),(d76),fr ⟨rfl,rfl,rfl,trivial⟩⟩
 intro hb80
 rw [hb80] at ho
 refine W_exit ?_
 refine andThen_x ?_
 cases ho
 exact ⟨rfl,⟨_,_,(hB.trans hC79),(ko o14 hC79),(ko o75 hC79),(d76),fr ⟨rfl,rfl,rfl,trivial⟩⟩⟩
 rintro ⟨s2_8,s2_9⟩ _ wd110 ⟨v73,f74,hB,o14,o75,d76,F,rfl⟩ ho
 dsimp only at ho
 refine anz ?_
 refine wq ?_
 refine Wq rfl (cr [] wd110) ?_
 refine qv (v:=v73) rfl (fun _ _=>om _) ?_
 refine qv (v:=v73) rfl (fun _ _=>oa _) ?_
 intro wd111 hC112
 refine anz ?_
 cases ho
 exact W_ret ⟨_,res_1 Tryz.results206,_,_,rfl,(hB.trans hC112),(ko o75 hC112)⟩

noncomputable def spec_l25Grow_L0 (rc:MCategory→(List Int)→(List Int)→(List (List Int))→Option ((List (List Int)))) (x0:MCategory) (x1:(List Int)) (x2:(List Int)) (s0_3:(List (List Int))) (s0_9:Int):Option (Out ((List (List Int))×Int) ((List (List Int)))):=
 (bif decide (s0_9 < (x1.length:Int)) then ((idx x1 (s0_9))>>=fun e95=>((spec_l01Has x2 (e95))>>=fun y97=>(bif !(y97) then ((spec_l01Own x2)>>=fun y102=>((idx x1 (s0_9))>>=fun e107=>((fits 8 (y102.length + 1))>>=fun n112=>((spec_l25Close x0 (y102++[e107]))>>=fun y117=>((rc x0 x1 y117 s0_3)>>=fun y158=>(some (Out.norm (y158,w64 (s0_9 + (1:Int)))))))))) else (some (Out.norm (s0_3,w64 (s0_9 + (1:Int)))))))) else (some (Out.exit 0 (s0_3,s0_9))))
noncomputable def spec_l25Grow_S (rc:MCategory→(List Int)→(List Int)→(List (List Int))→Option ((List (List Int)))) (x0:MCategory) (x1:(List Int)) (x2:(List Int)) (x3:(List (List Int))):Option ((List (List Int))):=
 retM (S:=Unit) ((((spec_l05Place x3 x2)>>=fun y24=>(bif decide (y24 ≥ (0:Int)) then (some (true)) else (some (decide ((x3.length:Int) > (16:Int)))))))>>=fun g22=>(bif g22 then (some (Out.ret (x3))) else ((fits 24 (x3.length + 1))>>=fun n54=>(lbind (blockM 0 (loopM (fun s=>spec_l25Grow_L0 rc x0 x1 x2 s.1 s.2) (x3++[x2],(0:Int)))) (fun (s0_3,s0_9)=>(some (Out.ret (s0_3))))))))
abbrev spec_l25Grow_post (f_x3:List Nat) (g_x3:List Nat) (f_x2:List Nat) (w:World) (x:((List (List Int)))) (e:Ending) (w':World):Prop:=∃ (v0:Value) (f0 g0:List Nat),e = .returned v0∧Chg f_x3 w w'∧OM f_x3 w.heap.size w' 22 (sImm (sInt .i64)) v0 x f0 g0∧Dis g0 f0∧∀ b∈g0,b∈(g_x3++f_x2) ∨ w.heap.size≤b
abbrev spec_l25Grow_T (f_x3:List Nat) (g_x3:List Nat) (f_x2:List Nat) (w:World) (x:((List (List Int)))) (r:Nat→Value) (w':World):Prop:=∃ v,(∀ a:Act,a.tmps.size=52→rho a=r→(results Tryz.f199 a.tmps).run Tryz.prog w' = .ok v w')∧spec_l25Grow_post f_x3 g_x3 f_x2 w x (.returned v) w'
theorem spec_l25Grow_step {rc:MCategory→(List Int)→(List Int)→(List (List Int))→Option ((List (List Int)))}
  (ih : ∀ {w:World} {x0:MCategory} {z6:Value} {zh:List Nat} {z7:Value} {zg:List Nat} {z9:Value} {zf:List Nat} {z8:Value} {ze:List Nat} {x1:(List Int)} {v_x1:Value} {f_x1:List Nat} {x2:(List Int)} {v_x2:Value} {f_x2:List Nat} {x3:(List (List Int))} {v_x3:Value} {f_x3:List Nat} {g_x3:List Nat} (za:(sImm (sInt .i64)).rep w.heap [z6] x0.From zh) (zb:(sImm (sInt .i64)).rep w.heap [z7] x0.To zg) (zd:(sImm (sInt .i64)).rep w.heap [z9] x0.Identity zf) (zc:(sImm (sImm (sInt .i64))).rep w.heap [z8] x0.Composites ze) (h_x1:(sImm (sInt .i64)).rep w.heap [v_x1] x1 f_x1) (h_x2:(sImm (sInt .i64)).rep w.heap [v_x2] x2 f_x2) (o_x3:OM f_x3 w.heap.size w 22 (sImm (sInt .i64)) v_x3 x3 f_x3 g_x3) (dg_x3:Dis g_x3 f_x3) (n_h_x0_From:Dis zh f_x3) (n_h_x0_To:Dis zg f_x3) (n_h_x0_Identity:Dis zf f_x3) (n_h_x0_Composites:Dis ze f_x3) (n_h_x1:Dis f_x1 f_x3) (n_h_x2:Dis f_x2 f_x3) {y:((List (List Int)))} (hm:rc x0 x1 x2 x3=some y),Calls Tryz.prog 199 #[.agg #[.int .i64 (x0.Objects),z6,z7,z9,z8],v_x1,v_x2,v_x3] w (spec_l25Grow_post f_x3 g_x3 f_x2 w y))
  {w:World} {x0:MCategory} {z6:Value} {zh:List Nat} {z7:Value} {zg:List Nat} {z9:Value} {zf:List Nat} {z8:Value} {ze:List Nat} {x1:(List Int)} {v_x1:Value} {f_x1:List Nat} {x2:(List Int)} {v_x2:Value} {f_x2:List Nat} {x3:(List (List Int))} {v_x3:Value} {f_x3:List Nat} {g_x3:List Nat} (za:(sImm (sInt .i64)).rep w.heap [z6] x0.From zh) (zb:(sImm (sInt .i64)).rep w.heap [z7] x0.To zg) (zd:(sImm (sInt .i64)).rep w.heap [z9] x0.Identity zf) (zc:(sImm (sImm (sInt .i64))).rep w.heap [z8] x0.Composites ze) (h_x1:(sImm (sInt .i64)).rep w.heap [v_x1] x1 f_x1) (h_x2:(sImm (sInt .i64)).rep w.heap [v_x2] x2 f_x2) (o_x3:OM f_x3 w.heap.size w 22 (sImm (sInt .i64)) v_x3 x3 f_x3 g_x3) (dg_x3:Dis g_x3 f_x3) (n_h_x0_From:Dis zh f_x3) (n_h_x0_To:Dis zg f_x3) (n_h_x0_Identity:Dis zf f_x3) (n_h_x0_Composites:Dis ze f_x3) (n_h_x1:Dis f_x1 f_x3) (n_h_x2:Dis f_x2 f_x3) {y:((List (List Int)))} (hm:spec_l25Grow_S rc x0 x1 x2 x3=some y) :
  Calls Tryz.prog 199 #[.agg #[.int .i64 (x0.Objects),z6,z7,z9,z8],v_x1,v_x2,v_x3] w (spec_l25Grow_post f_x3 g_x3 f_x2 w y):=by
 refine calls_of_M (S:=Unit) (args:=[.agg #[.int .i64 (x0.Objects),z6,z7,z9,z8],v_x1,v_x2,v_x3]) Tryz.func199 rfl Tryz.ntmps199 (Nat.le_of_ble_eq_true rfl) (retM_some hm) ?_
 clear hm
 intro o ho
 have hB:Chg f_x3 w w:=cr _ _
 have d1:Dis zh f_x3:=fun b hb hm=>n_h_x0_From b hb (by first | exact hm | simp [hm])
 have d2:Dis zg f_x3:=fun b hb hm=>n_h_x0_To b hb (by first | exact hm | simp [hm])
 have d3:Dis zf f_x3:=fun b hb hm=>n_h_x0_Identity b hb (by first | exact hm | simp [hm])
 have d4:Dis ze f_x3:=fun b hb hm=>n_h_x0_Composites b hb (by first | exact hm | simp [hm])
 have d5:Dis f_x1 f_x3:=fun b hb hm=>n_h_x1 b hb (by first | exact hm | simp [hm])
 have d6:Dis f_x2 f_x3:=fun b hb hm=>n_h_x2 b hb (by first | exact hm | simp [hm])
 refine wq ?_
 refine W_region rfl ?_
 refine WL.box fun b7 wd8 hC9 hr10 hl11=>?_
 replace hr10:Row wd8 b7 [.int .i64 (x0.Objects),z6,z7,z9,z8] 27:=hr10
 have d13:Dis [b7] zh:=dl (onw hl11) (sl _ (kp _ za (cr [] w)))
 have d14:Dis [b7] zg:=dl (onw hl11) (sl _ (kp _ zb (cr [] w)))
 have d15:Dis [b7] zf:=dl (onw hl11) (sl _ (kp _ zd (cr [] w)))
 have d16:Dis [b7] ze:=dl (onw hl11) (sl _ (kp _ zc (cr [] w)))
 have d17:Dis [b7] f_x1:=dl (onw hl11) (sl _ (kp _ h_x1 (cr [] w)))
 have d18:Dis [b7] f_x2:=dl (onw hl11) (sl _ (kp _ h_x2 (cr [] w)))
 have d19:Dis [b7] f_x3:=dl (onw hl11) (OM.lt1 (OM.keep0 o_x3 (cr [] w)))
 have d20:Dis [b7] g_x3:=dl (onw hl11) (OM.lt2 (OM.keep0 o_x3 (cr [] w)))
 have hT21:=(cr [] w).trans hC9
 replace za:=kp _ za hT21
 replace zb:=kp _ zb hT21
 replace zd:=kp _ zd hT21
 replace zc:=kp _ zc hT21
 replace h_x1:=kp _ h_x1 hT21
 replace h_x2:=kp _ h_x2 hT21
 replace o_x3:=OM.keep0 o_x3 hT21
 replace hB:=(hB.trans (Chg.nil hT21))
 refine wv (v:=.slice none 0 0) rfl (oa _) ?_
 refine anz ?_
 refine wq ?_
 refine wq ?_
 refine Wq rfl (cr [] wd8) ?_
 obtain ⟨g22,hm23,ho⟩:=bs ho
 refine QL.meet (fun r=>∃ F,r=updL F [(1,v_x1),(2,v_x2),(3,v_x3),(4,.pointer (some (⟨b7,0,none⟩))),(18,.bool (g22))]) ?_ ?_
 skip
 refine qv (v:=v_x3) rfl (fun _ _=>om _) ?_
 refine qv (v:=v_x2) rfl (fun _ _=>om _) ?_
 obtain ⟨y24,hy25,hm23⟩:=bs hm23
 refine QL.call (v:=.int .i64 (y24)) rfl (fun _ _=>op_callF Tryz.func150 rfl rfl) (fun _ hC=>(spec_l05Place_calls (OM.read (OM.keep0 o_x3 hC)) (kp _ h_x2 hC) hy25).mono fun _ _ h=>⟨h.1,hC.trans h.2⟩) ?_
 refine qv (v:=.bool (decide (y24 ≥ (0:Int)))) rfl (fun _ _=>op_bin rfl rfl bin_geq) ?_
 refine qv (v:=.bool (decide (y24 ≥ (0:Int)))) rfl (fun _ _=>om _) ?_
 rcases Bool.eq_false_or_eq_true (decide (y24 ≥ (0:Int))) with hb26 | hb26
 rw [hb26] at hm23
 refine qs rfl (congrArg some hb26) rfl ?_
 refine qs rfl (congrArg some hb26) rfl ?_
 refine qs rfl (congrArg some hb26) rfl ?_
 refine qv (v:=.bool (true)) rfl (fun _ _=>op_pickT rfl hb26) ?_
 cases hm23
 exact fr ⟨rfl,rfl,rfl,rfl,rfl,trivial⟩
 rw [hb26] at hm23
 refine qg (v:=v_x3) rfl (congrArg some hb26) (fun _ _=>om _) ?_
 refine qg (v:=.int .i64 ((x3.length:Int))) rfl (congrArg some hb26) (fun _ hC=>op_lenI u23z (OM.read (OM.keep0 o_x3 hC))) ?_
 refine qg (v:=.bool (decide ((x3.length:Int) > (16:Int)))) rfl (congrArg some hb26) (fun _ _=>op_bin rfl rfl bin_gtr) ?_
 refine qv (v:=.bool (decide ((x3.length:Int) > (16:Int)))) rfl (fun _ _=>op_pickF rfl hb26) ?_
 cases hm23
 exact fr ⟨rfl,rfl,rfl,rfl,rfl,trivial⟩
 rintro _ ⟨F,rfl⟩
 intro wd27 hC28
 refine anz ?_
 refine W_cond (b:=g22) rfl ?_ ?_
 intro hb29
 rw [hb29] at ho
 refine wq ?_
 refine Wq rfl hC28 ?_
 refine qv (v:=v_x3) rfl (fun _ _=>om _) ?_
 refine qv (v:=v_x3) rfl (fun _ _=>oa _) ?_
 intro wd30 hC31
 refine anz ?_
 cases ho
 exact W_ret ⟨_,res_1 Tryz.results199,_,_,_,rfl,(hB.trans (Chg.nil hC31)),(OM.keep0 o_x3 hC31),dg_x3,(fun b hb=>.inl (by simp [hb]))⟩
 intro hb29
 rw [hb29] at ho
 refine W_skip ?_
 refine anz ?_
 refine wq ?_
 refine W_region rfl ?_
 refine wv (v:=v_x3) rfl (om _) ?_
 refine wv (v:=v_x2) rfl (om _) ?_
 refine WL.lit1 u23z info22 zr22 sz22 (STy.one _ h_x2 _ (ms rfl)) fun b32 wd33 hC34 hr35 hl36=>?_
 replace hr35:Row wd33 b32 [v_x2] 22:=hr35
 have d44:Dis [b32] f_x3:=dl (onw hl36) (OM.lt1 (OM.keep0 o_x3 hC28))
 have hT47:=hC28.trans hC34
 replace za:=kp _ za hT47
 replace zb:=kp _ zb hT47
 replace zd:=kp _ zd hT47
 replace zc:=kp _ zc hT47
 replace h_x1:=kp _ h_x1 hT47
 replace h_x2:=kp _ h_x2 hT47
 replace o_x3:=OM.keep0 o_x3 hT47
 replace hr10:=kr hr10 hT47
 replace hB:=(hB.trans (Chg.nil hT47))
 obtain ⟨n54,hn55,ho⟩:=bs ho
 have hn55a:=fits_some hn55
 refine WLM.append1 u23z info22 zr22 sz22 rfl rfl (OM.keep0 o_x3 (cr [] wd33)) rfl (kr hr35 (cr [] wd33)) (kp _ h_x2 (cr [] wd33)) d6 dg_x3 (by rw [by22]; exact hn55a.1) hn55a.2 (hB.trans (Chg.nil (cr [] wd33))).size fun v48 wd49 f50 hC51 o52 hs53=>?_
 have d56:Dis f50 zh:=dis_upd (k:=[]) hs53 (d1).symm (fun _ h=>nomatch h) (sl _ (kp _ za (cr [] wd33)))
 have d57:Dis f50 zg:=dis_upd (k:=[]) hs53 (d2).symm (fun _ h=>nomatch h) (sl _ (kp _ zb (cr [] wd33)))
 have d58:Dis f50 zf:=dis_upd (k:=[]) hs53 (d3).symm (fun _ h=>nomatch h) (sl _ (kp _ zd (cr [] wd33)))
 have d59:Dis f50 ze:=dis_upd (k:=[]) hs53 (d4).symm (fun _ h=>nomatch h) (sl _ (kp _ zc (cr [] wd33)))
 have d60:Dis f50 f_x1:=dis_upd (k:=[]) hs53 (d5).symm (fun _ h=>nomatch h) (sl _ (kp _ h_x1 (cr [] wd33)))
 have d61:Dis f50 f_x2:=dis_upd (k:=[]) hs53 (d6).symm (fun _ h=>nomatch h) (sl _ (kp _ h_x2 (cr [] wd33)))
 have d62:Dis f50 [b7]:=dis_upd (k:=[]) hs53 (d19).symm (fun _ h=>nomatch h) (one_lt (Row.lt (kr hr10 (cr [] wd33))))
 have d63:Dis (g_x3++f_x2) [b7]:=dis_or (fun b hb=>List.mem_append.1 hb) (d20).symm (d18).symm
 have d66:Dis (g_x3++f_x2) f50:=dis_or (fun b hb=>List.mem_append.1 hb) (Dis.symm (dis_upd (k:=[]) hs53 (Dis.symm dg_x3) (fun _ h=>nomatch h) (OM.lt2 (OM.keep0 o_x3 (cr [] wd33))))) (Dis.symm (dis_upd (k:=[]) hs53 (Dis.symm d6) (fun _ h=>nomatch h) (sl _ (kp _ h_x2 (cr [] wd33)))))
 have lo67 : ∀ b∈(g_x3++f_x2),b∈(g_x3++f_x2) ∨ w.heap.size≤b:=low_or (fun b hb=>List.mem_append.1 hb) (fun b hb=>.inl (by simp [hb])) (fun b hb=>.inl (by simp [hb]))
 have hT68:=((cr [] wd33).nil (G:=f_x3)).trans hC51
 replace za:=STy.keep _ za hT68 d1
 replace zb:=STy.keep _ zb hT68 d2
 replace zd:=STy.keep _ zd hT68 d3
 replace zc:=STy.keep _ zc hT68 d4
 replace h_x1:=STy.keep _ h_x1 hT68 d5
 replace h_x2:=STy.keep _ h_x2 hT68 d6
 replace hr10:=Row.keep hr10 hT68 (d19 _ (ms rfl))
 replace hr35:=Row.keep hr35 hT68 (d44 _ (ms rfl))
 replace hB:=hB.then hT68 (OM.low o_x3)
 refine wv (v:=v48) rfl (oa _) ?_
 refine anz ?_
 refine wq ?_
 refine wq ?_
 refine Wq rfl (cr [] wd49) ?_
 refine qv (v:=.int .i64 ((0:Int))) rfl (fun _ _=>oa _) ?_
 intro wd69 hC70
 refine anz ?_
 refine W_for (S1:=(List (List Int))×Int) (fun s r w'=>match s with | (s0_3,s0_9)=>∃ (v71:Value) (f72:List Nat) (g73:List Nat),Chg f_x3 w w'∧(sImm (sInt .i64)).rep w'.heap [z6] (x0.From) zh∧(sImm (sInt .i64)).rep w'.heap [z7] (x0.To) zg∧(sImm (sInt .i64)).rep w'.heap [z9] (x0.Identity) zf∧(sImm (sImm (sInt .i64))).rep w'.heap [z8] (x0.Composites) ze∧(sImm (sInt .i64)).rep w'.heap [v_x1] (x1) f_x1∧(sImm (sInt .i64)).rep w'.heap [v_x2] (x2) f_x2∧Row w' b7 [.int .i64 (x0.Objects),z6,z7,z9,z8] 27∧OM f_x3 w.heap.size w' 22 (sImm (sInt .i64)) v71 (s0_3) f72 g73∧(∀ b∈g73,b∈(g_x3++f_x2) ∨ w.heap.size≤b)∧Dis zh [b7]∧Dis zh f72∧Dis zg [b7]∧Dis zg f72∧Dis zf [b7]∧Dis zf f72∧Dis ze [b7]∧Dis ze f72∧Dis f_x1 [b7]∧Dis f_x1 f72∧Dis f_x2 [b7]∧Dis f_x2 f72∧Dis [b7] f72∧Dis [b7] g73∧Dis f72 g73∧∃ F,r=updL F [(1,v_x1),(2,v_x2),(3,v71),(4,.pointer (some (⟨b7,0,none⟩))),(9,.int .i64 (s0_9))]) (T:=spec_l25Grow_T f_x3 g_x3 f_x2 w) ho ⟨_,_,_,(hB.trans (Chg.nil hC70)),(kp _ za hC70),(kp _ zb hC70),(kp _ zd hC70),(kp _ zc hC70),(kp _ h_x1 hC70),(kp _ h_x2 hC70),(kr hr10 hC70),(OM.keep0 o52 hC70),lo67,((d13).symm),((d56).symm),((d14).symm),((d57).symm),((d15).symm),((d58).symm),((d16).symm),((d59).symm),((d17).symm),((d60).symm),((d18).symm),((d61).symm),((d62).symm),((d63).symm),((d66).symm),fr ⟨rfl,rfl,rfl,rfl,rfl,trivial⟩⟩ ?_ ?_ ?_
 intro x r w' ho hx; subst ho; exact hx
 rintro ⟨s0_3,s0_9⟩ _ wd91 ⟨v71,f72,g73,hB,za,zb,zd,zc,h_x1,h_x2,hr10,o74,lo75,d76,d77,d78,d79,d80,d81,d82,d83,d84,d85,d86,d87,d88,d89,d90,F,rfl⟩ o ho
 replace ho:spec_l25Grow_L0 rc x0 x1 x2 s0_3 s0_9=some o:=ho
 unfold spec_l25Grow_L0 at ho
 refine wq ?_
 refine wq ?_
 refine Wq rfl (cr [] wd91) ?_
 refine qv (v:=.int .i64 (s0_9)) rfl (fun _ _=>om _) ?_
 refine qv (v:=v_x1) rfl (fun _ _=>om _) ?_
 refine qv (v:=.int .i64 ((x1.length:Int))) rfl (fun _ hC=>op_lenI u22z (kp _ h_x1 hC)) ?_
 refine qv (v:=.bool (decide (s0_9 < (x1.length:Int)))) rfl (fun _ _=>op_bin rfl rfl bin_lss) ?_
 intro wd92 hC93
 refine anz ?_
 refine W_cond (b:=decide (s0_9 < (x1.length:Int))) rfl ?_ ?_
 intro hb94
 rw [hb94] at ho
 refine W_skip ?_
 refine anz ?_
 refine wq ?_
 refine W_block ?_
 refine wq ?_
 refine Wq rfl hC93 ?_
 refine qv (v:=v_x2) rfl (fun _ _=>om _) ?_
 refine qv (v:=v_x1) rfl (fun _ _=>om _) ?_
 refine qv (v:=.int .i64 (s0_9)) rfl (fun _ _=>om _) ?_
 obtain ⟨e95,hx96e,ho⟩:=bs ho
 have hx96:=idx_some hx96e
 refine qv (v:=.pointer (some (elA (v_x1) 1 (s0_9)))) rfl (fun _ hC=>op_indexI u22z info2 sz2 rfl (kp _ h_x1 hC) rfl hx96.1 hx96.2) ?_
 refine qv (v:=.int .i64 (e95)) rfl (fun _ hC=>oldz u2z rfl rfl (int_get (kp _ h_x1 hC) hx96.1 hx96.2)) ?_
 obtain ⟨y97,hy98,ho⟩:=bs ho
 refine QL.call (v:=.bool (y97)) rfl (fun _ _=>op_callF Tryz.func127 rfl rfl) (fun _ hC=>(spec_l01Has_calls (kp _ h_x2 hC) hy98).mono fun _ _ h=>⟨h.1,hC.trans h.2⟩) ?_
 refine qv (v:=.bool (!(y97))) rfl (fun _ _=>op_not rfl) ?_
 intro wd99 hC100
 refine anz ?_
 refine W_cond (b:=!(y97)) rfl ?_ ?_
 intro hb101
 rw [hb101] at ho
 obtain ⟨y102,hy103,ho⟩:=bs ho
 obtain ⟨e107,hx108e,ho⟩:=bs ho
 have hx108:=idx_some hx108e
 obtain ⟨n112,hn113,ho⟩:=bs ho
 have hn113a:=fits_some hn113
 obtain ⟨y117,hy118,ho⟩:=bs ho
 refine W_any (m:=13) (U:=[[],[],[],[],[],[],[],[],[],[],[4],[],[]]) (S:=[⟨true,pl fun _ _ u=>u=(.agg #[.int .i64 (x0.Objects),z6,z7,z9,z8]:Value)⟩,⟨true,pl fun _ _ u=>u=(v_x1:Value)⟩,⟨true,pl fun _ _ u=>u=(.agg #[.int .i64 (x0.Objects),z6,z7,z9,z8]:Value)⟩,⟨true,pl fun _ _ u=>u=(v_x2:Value)⟩,⟨true,pl (OwnV (sOwn 2 (sInt .i64)) (y102))⟩,⟨true,pl fun _ _ u=>u=(v_x1:Value)⟩,⟨true,pl fun _ _ u=>u=(.int .i64 (s0_9):Value)⟩,⟨true,pl fun _ _ u=>u=(.pointer (some (elA (v_x1) 1 (s0_9))):Value)⟩,⟨true,pl fun _ _ u=>u=(.int .i64 (e107):Value)⟩,⟨true,pl <| LitV [.int .i64 (e107)] 2 1⟩,⟨true,pl (OwnV (sOwn 2 (sInt .i64)) (y102++[e107]))⟩,⟨true,pl (OwnV (sOwn 2 (sInt .i64)) (y117))⟩,⟨true,pl fun _ _ u=>u=(v71:Value)⟩]) (Z:=[]) hmix rfl (by decide) (by decide +kernel) (fun _ _ _ h=>np_out h) (by decide) rfl (by decide +kernel) (stable_all <| stable_cons stable_val (stable_cons stable_val (stable_cons stable_val (stable_cons stable_val (stable_cons stable_own (stable_cons stable_val (stable_cons stable_val (stable_cons stable_val (stable_cons stable_val (stable_cons stable_lit (stable_cons stable_own (stable_cons stable_own (stable_cons stable_val ( stable_nil)))))))))))))) ?_ ?_
 refine owes_cons ?_ ( owes_cons ?_ ( owes_cons ?_ ( owes_cons ?_ ( owes_cons ?_ ( owes_cons ?_ ( owes_cons ?_ ( owes_cons ?_ ( owes_cons ?_ ( owes_cons ?_ ( owes_cons ?_ ( owes_cons ?_ ( owes_cons ?_ ( owes_nil)))))))))))))
 refine Owes.val rfl rfl rfl ?_
 intro g r wr hCr H hot
 have hC:=hC100.trans hCr
 obtain ⟨F,rfl⟩:=fr (r:=r) (l:=[(4,.pointer (some (⟨b7,0,none⟩)))]) ⟨(hot 4 (by decide)),trivial⟩
 exact op_loadAgg u27z rfl info27 (by rw [sz27]; rfl) rfl (kr hr10 hC).at
 refine Owes.val rfl rfl rfl ?_
 intro g r wr hCr H hot
 have hC:=hC100.trans hCr
 obtain ⟨F,rfl⟩:=fr (r:=r) (l:=[(1,v_x1)]) ⟨(hot 1 (by decide)),trivial⟩
 exact om _
 refine Owes.val rfl rfl rfl ?_
 intro g r wr hCr H hot
 have hC:=hC100.trans hCr
 obtain ⟨F,rfl⟩:=fr (r:=r) (l:=[(4,.pointer (some (⟨b7,0,none⟩)))]) ⟨(hot 4 (by decide)),trivial⟩
 exact op_loadAgg u27z rfl info27 (by rw [sz27]; rfl) rfl (kr hr10 hC).at
 refine Owes.val rfl rfl rfl ?_
 intro g r wr hCr H hot
 have hC:=hC100.trans hCr
 obtain ⟨F,rfl⟩:=fr (r:=r) (l:=[(2,v_x2)]) ⟨(hot 2 (by decide)),trivial⟩
 exact om _
 refine Owes.mem rfl rfl rfl ?_
 intro g r wr hCr H hot
 have hC:=hC100.trans hCr
 obtain ⟨F,rfl⟩:=fr (r:=r) (l:=[(40,v_x2)]) ⟨(H 3 (by decide +kernel) 40 rfl),trivial⟩
 exact OpW.own (op_callF Tryz.func95 rfl rfl) (spec_l01Own_calls (kp _ h_x2 hC) hy103)
 refine Owes.val rfl rfl rfl ?_
 intro g r wr hCr H hot
 have hC:=hC100.trans hCr
 obtain ⟨F,rfl⟩:=fr (r:=r) (l:=[(1,v_x1)]) ⟨(hot 1 (by decide)),trivial⟩
 exact om _
 refine Owes.val rfl rfl rfl ?_
 intro g r wr hCr H hot
 have hC:=hC100.trans hCr
 obtain ⟨F,rfl⟩:=fr (r:=r) (l:=[(9,.int .i64 (s0_9))]) ⟨(hot 9 (by decide)),trivial⟩
 exact om _
 refine Owes.val rfl rfl rfl ?_
 intro g r wr hCr H hot
 have hC:=hC100.trans hCr
 obtain ⟨F,rfl⟩:=fr (r:=r) (l:=[(42,v_x1),(43,.int .i64 (s0_9))]) ⟨(H 5 (by decide +kernel) 42 rfl),(H 6 (by decide +kernel) 43 rfl),trivial⟩
 exact op_indexI u22z info2 sz2 rfl (kp _ h_x1 hC) rfl hx108.1 hx108.2
 refine Owes.val rfl rfl rfl ?_
 intro g r wr hCr H hot
 have hC:=hC100.trans hCr
 obtain ⟨F,rfl⟩:=fr (r:=r) (l:=[(44,.pointer (some (elA (v_x1) 1 (s0_9))))]) ⟨(H 7 (by decide +kernel) 44 rfl),trivial⟩
 exact oldz u2z rfl rfl (int_get (kp _ h_x1 hC) hx108.1 hx108.2)
 refine Owes.mem rfl rfl rfl ?_
 intro g r wr hCr H hot
 have hC:=hC100.trans hCr
 obtain ⟨F,rfl⟩:=fr (r:=r) (l:=[(45,.int .i64 (e107))]) ⟨(H 8 (by decide +kernel) 45 rfl),trivial⟩
 exact OpW.lit1 u22z info2 zr2 sz2 rfl rfl
 refine Owes.use rfl rfl rfl ?_
 intro g r wr hCr H hot
 have hC:=hC100.trans hCr
 have o106:OwnV (sOwn 2 (sInt .i64)) (y102) _ _ _:=H 4 (by decide +kernel) 41 rfl
 generalize hvv104:r 41=v104 at o106
 obtain ⟨b109,hbb109,hvb109,hr110⟩ : LitV [.int .i64 (e107)] 2 1 _ _ _:=H 9 (by decide +kernel) 46 rfl
 obtain ⟨F,rfl⟩:=fr (r:=r) (l:=[(41,v104),(46,.slice (some ⟨b109,0,none⟩) 1 1)]) ⟨hvv104,hvb109,trivial⟩
 exact OpW.append1 u22z info2 zr2 sz2 rfl rfl rfl o106 (fun b hb=>List.mem_flatMap.2 ⟨4,by decide,hb⟩) rfl hr110 ⟨rfl,rfl⟩ (by rw [by2]; exact hn113a.1) hn113a.2
 refine Owes.mem rfl rfl rfl ?_
 intro g r wr hCr H hot
 have hC:=hC100.trans hCr
 have o116:OwnV (sOwn 2 (sInt .i64)) (y102++[e107]) _ _ _:=H 10 (by decide +kernel) 47 rfl
 generalize hvv114:r 47=v114 at o116
 obtain ⟨F,rfl⟩:=fr (r:=r) (l:=[(39,.agg #[.int .i64 (x0.Objects),z6,z7,z9,z8]),(47,v114)]) ⟨(H 2 (by decide +kernel) 39 rfl),hvv114,trivial⟩
 exact OpW.own (op_callF Tryz.func206 rfl rfl) (spec_l25Close_calls (kp _ za hC) (kp _ zb hC) (kp _ zd hC) (kp _ zc hC) ((Le.own (Le.refl _) 2).le o116.1) hy118)
 refine Owes.val rfl rfl rfl ?_
 intro g r wr hCr H hot
 have hC:=hC100.trans hCr
 obtain ⟨F,rfl⟩:=fr (r:=r) (l:=[(3,v71)]) ⟨(hot 3 (by decide)),trivial⟩
 exact om _
 rintro g r wd122 ⟨hC123,hdone,hot,hfresh,hdis⟩
 obtain ⟨b109,hbb109,hvb109,hr110⟩ : LitV [.int .i64 (e107)] 2 1 _ _ _:=hdone 9 (by decide) (by decide) 46 rfl
 have hlb109:wd99.heap.size≤b109:=(hfresh 9 (by decide) b109 (by rw [hbb109]; exact ms rfl)).1
 have o116:OwnV (sOwn 2 (sInt .i64)) (y102++[e107]) _ _ _:=hdone 10 (by decide) (by decide) 47 rfl
 generalize hvv114:r 47=v114 at o116
 have hfo116:=hfresh 10 (by decide)
 have o121:OwnV (sOwn 2 (sInt .i64)) (y117) _ _ _:=hdone 11 (by decide) (by decide) 48 rfl
 generalize hvv119:r 48=v119 at o121
 have hfo121:=hfresh 11 (by decide)
 have hdd:=hdis
 obtain ⟨F,rfl⟩:=fr (r:=r) (l:=[(1,v_x1),(2,v_x2),(4,.pointer (some (⟨b7,0,none⟩))),(9,.int .i64 (s0_9)),(37,.agg #[.int .i64 (x0.Objects),z6,z7,z9,z8]),(38,v_x1),(46,.slice (some ⟨b109,0,none⟩) 1 1),(47,v114),(48,v119),(49,v71)]) ⟨(hot 1 (by decide)),(hot 2 (by decide)),(hot 4 (by decide)),(hot 9 (by decide)),(hdone 0 (by decide) (by decide) 37 rfl),(hdone 1 (by decide) (by decide) 38 rfl),hvb109,hvv114,hvv119,(hdone 12 (by decide) (by decide) 49 rfl),trivial⟩
 have d132:Dis [b109] f72:=dl (onw hlb109) (OM.lt1 (OM.keep0 o74 hC100))
 obtain ⟨f115,hgf115⟩ : ∃ k,k=g 10:=⟨_,rfl⟩
 rw [← hgf115] at o116 hfo116
 replace o116:OE f_x3 w.heap.size wd122 (sOwn 2 (sInt .i64)) [v114] (y102++[e107]) f115:=⟨o116.1,o116.2,fun b hb=>.inr (Nat.le_trans (hB.trans (Chg.nil hC100)).size (hfo116 b hb).1)⟩
 have d142:Dis f115 f72:=dl (fun b hb=>(hfo116 b hb).1) (OM.lt1 (OM.keep0 o74 hC100))
 obtain ⟨f120,hgf120⟩ : ∃ k,k=g 11:=⟨_,rfl⟩
 rw [← hgf120] at o121 hfo121
 replace o121:OE f_x3 w.heap.size wd122 (sOwn 2 (sInt .i64)) [v119] (y117) f120:=⟨o121.1,o121.2,fun b hb=>.inr (Nat.le_trans (hB.trans (Chg.nil hC100)).size (hfo121 b hb).1)⟩
 have fr145 : ∀ b∈f120,w.heap.size≤b:=fun b hb=>Nat.le_trans (hB.trans (Chg.nil hC100)).size (hfo121 b hb).1
 have d152:Dis f120 [b7]:=dl (fun b hb=>(hfo121 b hb).1) (one_lt (Row.lt (kr hr10 hC100)))
 have d153:Dis f120 f72:=dl (fun b hb=>(hfo121 b hb).1) (OM.lt1 (OM.keep0 o74 hC100))
 have hT157:=(hC100.trans hC123)
 replace za:=kp _ za hT157
 replace zb:=kp _ zb hT157
 replace zd:=kp _ zd hT157
 replace zc:=kp _ zc hT157
 replace h_x1:=kp _ h_x1 hT157
 replace h_x2:=kp _ h_x2 hT157
 replace hr10:=kr hr10 hT157
 replace o74:=OM.keep0 o74 hT157
 replace hB:=(hB.trans (Chg.nil hT157))
 obtain ⟨y158,hy159,ho⟩:=bs ho
 refine WL.call rfl (op_callF Tryz.func199 rfl rfl) (ih (kp _ za (cr [] wd122)) (kp _ zb (cr [] wd122)) (kp _ zd (cr [] wd122)) (kp _ zc (cr [] wd122)) (kp _ h_x1 (cr [] wd122)) ((Le.own (Le.refl _) 2).le (kp _ o121.1 (cr [] wd122))) (OM.give o74 fun _ h=>h) (d90).symm d77 d79 d81 d83 d85 d153 hy159) ?_
 rintro _ wd160 ⟨v162,f163,g164,rfl,hC161,o165,d166,lo167⟩
 refine ⟨_,rfl,?_⟩
 have d168:Dis f163 zh:=dis_out (OM.low o165) (d77).symm (sl _ (kp _ za (cr [] wd122)))
 have d169:Dis f163 zg:=dis_out (OM.low o165) (d79).symm (sl _ (kp _ zb (cr [] wd122)))
 have d170:Dis f163 zf:=dis_out (OM.low o165) (d81).symm (sl _ (kp _ zd (cr [] wd122)))
 have d171:Dis f163 ze:=dis_out (OM.low o165) (d83).symm (sl _ (kp _ zc (cr [] wd122)))
 have d172:Dis f163 f_x1:=dis_out (OM.low o165) (d85).symm (sl _ (kp _ h_x1 (cr [] wd122)))
 have d173:Dis f163 f_x2:=dis_out (OM.low o165) (d87).symm (sl _ (kp _ h_x2 (cr [] wd122)))
 have d174:Dis f163 [b7]:=dis_out (OM.low o165) (d88).symm (one_lt (Row.lt (kr hr10 (cr [] wd122))))
 have d175:Dis g164 [b7]:=dis_out lo167 (da (d89).symm d152) (one_lt (Row.lt (kr hr10 (cr [] wd122))))
 have lo181 : ∀ b∈g164,b∈(g_x3++f_x2) ∨ w.heap.size≤b:=low_out lo167 (low_app lo75 (fun b hb=>.inr (fr145 b hb))) hB.size
 replace o165:=OM.back (G:=f_x3) o165 (OM.low o74) hB.size
 have hT182:=((cr [] wd122).nil (G:=f72)).trans hC161
 replace za:=STy.keep _ za hT182 d77
 replace zb:=STy.keep _ zb hT182 d79
 replace zd:=STy.keep _ zd hT182 d81
 replace zc:=STy.keep _ zc hT182 d83
 replace h_x1:=STy.keep _ h_x1 hT182 d85
 replace h_x2:=STy.keep _ h_x2 hT182 d87
 replace hr10:=Row.keep hr10 hT182 (d88 _ (ms rfl))
 replace hr110:=Row.keep hr110 hT182 (d132 _ (ms rfl))
 replace o116:=okp o116 hT182 d142
 replace o121:=okp o121 hT182 d153
 replace hB:=hB.then hT182 (OM.low o74)
 refine wv (v:=v162) rfl (oa _) ?_
 refine inBlk_n ?_
 refine anz ?_
 refine Wq rfl (cr [] wd160) ?_
 refine qv (v:=.int .i64 (s0_9)) rfl (fun _ _=>om _) ?_
 refine qv (v:=.int .i64 (w64 (s0_9 + (1:Int)))) rfl (fun _ _=>op_bin rfl rfl bin_add) ?_
 refine qv (v:=.int .i64 (w64 (s0_9 + (1:Int)))) rfl (fun _ _=>oa _) ?_
 intro wd183 hC184
 cases ho
 exact ⟨_,_,_,(hB.trans (Chg.nil hC184)),(kp _ za hC184),(kp _ zb hC184),(kp _ zd hC184),(kp _ zc hC184),(kp _ h_x1 hC184),(kp _ h_x2 hC184),(kr hr10 hC184),(OM.keep0 o165 hC184),lo181,(d76),((d168).symm),(d78),((d169).symm),(d80),((d170).symm),(d82),((d171).symm),(d84),((d172).symm),(d86),((d173).symm),((d174).symm),((d175).symm),((d166).symm),fr ⟨rfl,rfl,rfl,rfl,rfl,trivial⟩⟩
 intro hb101
 rw [hb101] at ho
 refine W_skip ?_
 refine inBlk_n ?_
 refine anz ?_
 refine Wq rfl hC100 ?_
 refine qv (v:=.int .i64 (s0_9)) rfl (fun _ _=>om _) ?_
 refine qv (v:=.int .i64 (w64 (s0_9 + (1:Int)))) rfl (fun _ _=>op_bin rfl rfl bin_add) ?_
 refine qv (v:=.int .i64 (w64 (s0_9 + (1:Int)))) rfl (fun _ _=>oa _) ?_
 intro wd185 hC186
 cases ho
 exact ⟨_,_,_,(hB.trans (Chg.nil hC186)),(kp _ za hC186),(kp _ zb hC186),(kp _ zd hC186),(kp _ zc hC186),(kp _ h_x1 hC186),(kp _ h_x2 hC186),(kr hr10 hC186),(OM.keep0 o74 hC186),lo75,(d76),(d77),(d78),(d79),(d80),(d81),(d82),(d83),(d84),(d85),(d86),(d87),(d88),(d89),(d90),fr ⟨rfl,rfl,rfl,rfl,rfl,trivial⟩⟩
 intro hb94
 rw [hb94] at ho
 refine W_exit ?_
 refine andThen_x ?_
 cases ho
 exact ⟨rfl,⟨_,_,_,(hB.trans (Chg.nil hC93)),(kp _ za hC93),(kp _ zb hC93),(kp _ zd hC93),(kp _ zc hC93),(kp _ h_x1 hC93),(kp _ h_x2 hC93),(kr hr10 hC93),(OM.keep0 o74 hC93),lo75,(d76),(d77),(d78),(d79),(d80),(d81),(d82),(d83),(d84),(d85),(d86),(d87),(d88),(d89),(d90),fr ⟨rfl,rfl,rfl,rfl,rfl,trivial⟩⟩⟩
 rintro ⟨s0_3,s0_9⟩ _ wd187 ⟨v71,f72,g73,hB,za,zb,zd,zc,h_x1,h_x2,hr10,o74,lo75,d76,d77,d78,d79,d80,d81,d82,d83,d84,d85,d86,d87,d88,d89,d90,F,rfl⟩ ho
 dsimp only at ho
 refine anz ?_
 refine wq ?_
 refine Wq rfl (cr [] wd187) ?_
 refine qv (v:=v71) rfl (fun _ _=>om _) ?_
 refine qv (v:=v71) rfl (fun _ _=>oa _) ?_
 intro wd188 hC189
 refine anz ?_
 cases ho
 exact W_ret ⟨_,res_1 Tryz.results199,_,_,_,rfl,(hB.trans (Chg.nil hC189)),(OM.keep0 o74 hC189),(d90).symm,lo75⟩
noncomputable def spec_l25Grow:Nat→MCategory→(List Int)→(List Int)→(List (List Int))→Option ((List (List Int)))
 | 0=>fun _ _ _ _=>none
 | n + 1=>spec_l25Grow_S (spec_l25Grow n)
theorem spec_l25Grow_calls (n:Nat) : ∀ {w:World} {x0:MCategory} {z6:Value} {zh:List Nat} {z7:Value} {zg:List Nat} {z9:Value} {zf:List Nat} {z8:Value} {ze:List Nat} {x1:(List Int)} {v_x1:Value} {f_x1:List Nat} {x2:(List Int)} {v_x2:Value} {f_x2:List Nat} {x3:(List (List Int))} {v_x3:Value} {f_x3:List Nat} {g_x3:List Nat} (za:(sImm (sInt .i64)).rep w.heap [z6] x0.From zh) (zb:(sImm (sInt .i64)).rep w.heap [z7] x0.To zg) (zd:(sImm (sInt .i64)).rep w.heap [z9] x0.Identity zf) (zc:(sImm (sImm (sInt .i64))).rep w.heap [z8] x0.Composites ze) (h_x1:(sImm (sInt .i64)).rep w.heap [v_x1] x1 f_x1) (h_x2:(sImm (sInt .i64)).rep w.heap [v_x2] x2 f_x2) (o_x3:OM f_x3 w.heap.size w 22 (sImm (sInt .i64)) v_x3 x3 f_x3 g_x3) (dg_x3:Dis g_x3 f_x3) (n_h_x0_From:Dis zh f_x3) (n_h_x0_To:Dis zg f_x3) (n_h_x0_Identity:Dis zf f_x3) (n_h_x0_Composites:Dis ze f_x3) (n_h_x1:Dis f_x1 f_x3) (n_h_x2:Dis f_x2 f_x3) {y:((List (List Int)))} (hm:spec_l25Grow n x0 x1 x2 x3=some y),Calls Tryz.prog 199 #[.agg #[.int .i64 (x0.Objects),z6,z7,z9,z8],v_x1,v_x2,v_x3] w (spec_l25Grow_post f_x3 g_x3 f_x2 w y):=by
 induction n with
 | zero=>intros; rename_i hm; exact nomatch (show none=some _ from hm)
 | succ n ih=>exact spec_l25Grow_step ih

noncomputable def spec_l01Less_L0 (x0:(List Int)) (x1:(List Int)) (s0_5:Int):Option (Out (Int) (Bool)):=
 (((bif decide (s0_5 < (x0.length:Int)) then (some (decide (s0_5 < (x1.length:Int)))) else (some (false))))>>=fun g6=>(bif g6 then ((idx x0 (s0_5))>>=fun e12=>((idx x1 (s0_5))>>=fun e14=>(bif (e12) != (e14) then ((idx x0 (s0_5))>>=fun e19=>((idx x1 (s0_5))>>=fun e21=>(some (Out.ret ((decide (e19 < e21))))))) else (some (Out.norm (w64 (s0_5 + (1:Int)))))))) else (some (Out.exit 0 (s0_5)))))
noncomputable def spec_l01Less (x0:(List Int)) (x1:(List Int)):Option (Bool):=
 retM (S:=Unit) (lbind (blockM 0 (loopM (spec_l01Less_L0 x0 x1) ((0:Int)))) (fun s0_5=>(some (Out.ret ((decide ((x0.length:Int) < (x1.length:Int))))))))
abbrev spec_l01Less_post (w:World) (x:(Bool)) (e:Ending) (w':World):Prop:=e = .returned (.bool x)∧Chg [] w w'
abbrev spec_l01Less_T (w:World) (x:(Bool)) (r:Nat→Value) (w':World):Prop:=∃ v,(∀ a:Act,a.tmps.size=41→rho a=r→(results Tryz.f132 a.tmps).run Tryz.prog w' = .ok v w')∧spec_l01Less_post w x (.returned v) w'
theorem spec_l01Less_calls {w:World} {x0:(List Int)} {v_x0:Value} {f_x0:List Nat} {x1:(List Int)} {v_x1:Value} {f_x1:List Nat} (h_x0:(sImm (sInt .i64)).rep w.heap [v_x0] x0 f_x0) (h_x1:(sImm (sInt .i64)).rep w.heap [v_x1] x1 f_x1) {y:(Bool)} (hm:spec_l01Less x0 x1=some y) :
  Calls Tryz.prog 132 #[v_x0,v_x1] w (spec_l01Less_post w y):=by
 refine calls_of_M (S:=Unit) (args:=[v_x0,v_x1]) Tryz.func132 rfl Tryz.ntmps132 (Nat.le_of_ble_eq_true rfl) (retM_some hm) ?_
 clear hm
 intro o ho
 have hB:Chg [] w w:=cr _ _
 refine wq ?_
 refine Wq rfl (cr [] w) ?_
 refine qv (v:=.bool (false)) rfl (fun _ _=>oa _) ?_
 intro wd1 hC2
 refine anz ?_
 refine wq ?_
 refine wq ?_
 refine Wq rfl hC2 ?_
 refine qv (v:=.int .i64 ((0:Int))) rfl (fun _ _=>oa _) ?_
 intro wd3 hC4
 refine anz ?_
 refine W_for (S1:=Int) (fun (s0_5:Int) r w'=>Chg [] w w'∧∃ F,r=updL F [(0,v_x0),(1,v_x1),(5,.int .i64 (s0_5))]) (T:=spec_l01Less_T w) ho ⟨(hB.trans hC4),fr ⟨rfl,rfl,rfl,trivial⟩⟩ ?_ ?_ ?_
 intro x r w' ho hx; subst ho; exact hx
 rintro s0_5 _ wd5 ⟨hB,F,rfl⟩ o ho
 replace ho:spec_l01Less_L0 x0 x1 s0_5=some o:=ho
 unfold spec_l01Less_L0 at ho
 refine wq ?_
 refine wq ?_
 refine Wq rfl (cr [] wd5) ?_
 obtain ⟨g6,hm7,ho⟩:=bs ho
 refine QL.meet (fun r=>∃ F,r=updL F [(0,v_x0),(1,v_x1),(5,.int .i64 (s0_5)),(15,.bool (g6))]) ?_ ?_
 skip
 refine qv (v:=.int .i64 (s0_5)) rfl (fun _ _=>om _) ?_
 refine qv (v:=v_x0) rfl (fun _ _=>om _) ?_
 refine qv (v:=.int .i64 ((x0.length:Int))) rfl (fun _ hC=>op_lenI u22z (kp _ h_x0 (hB.trans hC))) ?_
 refine qv (v:=.bool (decide (s0_5 < (x0.length:Int)))) rfl (fun _ _=>op_bin rfl rfl bin_lss) ?_
 refine qv (v:=.bool (decide (s0_5 < (x0.length:Int)))) rfl (fun _ _=>om _) ?_
 rcases Bool.eq_false_or_eq_true (decide (s0_5 < (x0.length:Int))) with hb8 | hb8
 rw [hb8] at hm7
 refine qg (v:=.int .i64 (s0_5)) rfl (congrArg some hb8) (fun _ _=>om _) ?_
 refine qg (v:=v_x1) rfl (congrArg some hb8) (fun _ _=>om _) ?_
 refine qg (v:=.int .i64 ((x1.length:Int))) rfl (congrArg some hb8) (fun _ hC=>op_lenI u22z (kp _ h_x1 (hB.trans hC))) ?_
 refine qg (v:=.bool (decide (s0_5 < (x1.length:Int)))) rfl (congrArg some hb8) (fun _ _=>op_bin rfl rfl bin_lss) ?_
 refine qv (v:=.bool (decide (s0_5 < (x1.length:Int)))) rfl (fun _ _=>op_pickT rfl hb8) ?_
 cases hm7
 exact fr ⟨rfl,rfl,rfl,rfl,trivial⟩
 rw [hb8] at hm7
 refine qs rfl (congrArg some hb8) rfl ?_
 refine qs rfl (congrArg some hb8) rfl ?_
 refine qs rfl (congrArg some hb8) rfl ?_
 refine qs rfl (congrArg some hb8) rfl ?_
 refine qv (v:=.bool (false)) rfl (fun _ _=>op_pickF rfl hb8) ?_
 cases hm7
 exact fr ⟨rfl,rfl,rfl,rfl,trivial⟩
 rintro _ ⟨F,rfl⟩
 intro wd9 hC10
 refine anz ?_
 refine W_cond (b:=g6) rfl ?_ ?_
 intro hb11
 rw [hb11] at ho
 refine W_skip ?_
 refine anz ?_
 refine wq ?_
 refine W_block ?_
 refine wq ?_
 refine Wqd rfl (by kernel_rfl) hC10 ?_
 refine qv (v:=v_x0) rfl (fun _ _=>om _) ?_
 refine qv (v:=.int .i64 (s0_5)) rfl (fun _ _=>om _) ?_
 obtain ⟨e12,hx13e,ho⟩:=bs ho
 have hx13:=idx_some hx13e
 refine qv (v:=.pointer (some (elA (v_x0) 1 (s0_5)))) rfl (fun _ hC=>op_indexI u22z info2 sz2 rfl (kp _ h_x0 (hB.trans hC)) rfl hx13.1 hx13.2) ?_
 refine qv (v:=.int .i64 (e12)) rfl (fun _ hC=>oldz u2z rfl rfl (int_get (kp _ h_x0 (hB.trans hC)) hx13.1 hx13.2)) ?_
 refine qv (v:=v_x1) rfl (fun _ _=>om _) ?_
 refine qv (v:=.int .i64 (s0_5)) rfl (fun _ _=>om _) ?_
 obtain ⟨e14,hx15e,ho⟩:=bs ho
 have hx15:=idx_some hx15e
 refine qv (v:=.pointer (some (elA (v_x1) 1 (s0_5)))) rfl (fun _ hC=>op_indexI u22z info2 sz2 rfl (kp _ h_x1 (hB.trans hC)) rfl hx15.1 hx15.2) ?_
 refine qv (v:=.int .i64 (e14)) rfl (fun _ hC=>oldz u2z rfl rfl (int_get (kp _ h_x1 (hB.trans hC)) hx15.1 hx15.2)) ?_
 refine qv (v:=.bool ((e12) != (e14))) rfl (fun _ _=>op_bin rfl rfl bin_neq) ?_
 intro wd16 hC17
 refine anz ?_
 refine W_cond (b:=(e12) != (e14)) rfl ?_ ?_
 intro hb18
 rw [hb18] at ho
 refine wq ?_
 refine Wqd rfl (by kernel_rfl) hC17 ?_
 refine qv (v:=v_x0) rfl (fun _ _=>om _) ?_
 refine qv (v:=.int .i64 (s0_5)) rfl (fun _ _=>om _) ?_
 obtain ⟨e19,hx20e,ho⟩:=bs ho
 have hx20:=idx_some hx20e
 refine qv (v:=.pointer (some (elA (v_x0) 1 (s0_5)))) rfl (fun _ hC=>op_indexI u22z info2 sz2 rfl (kp _ h_x0 (hB.trans hC)) rfl hx20.1 hx20.2) ?_
 refine qv (v:=.int .i64 (e19)) rfl (fun _ hC=>oldz u2z rfl rfl (int_get (kp _ h_x0 (hB.trans hC)) hx20.1 hx20.2)) ?_
 refine qv (v:=v_x1) rfl (fun _ _=>om _) ?_
 refine qv (v:=.int .i64 (s0_5)) rfl (fun _ _=>om _) ?_
 obtain ⟨e21,hx22e,ho⟩:=bs ho
 have hx22:=idx_some hx22e
 refine qv (v:=.pointer (some (elA (v_x1) 1 (s0_5)))) rfl (fun _ hC=>op_indexI u22z info2 sz2 rfl (kp _ h_x1 (hB.trans hC)) rfl hx22.1 hx22.2) ?_
 refine qv (v:=.int .i64 (e21)) rfl (fun _ hC=>oldz u2z rfl rfl (int_get (kp _ h_x1 (hB.trans hC)) hx22.1 hx22.2)) ?_
 refine qv (v:=.bool (decide (e19 < e21))) rfl (fun _ _=>op_bin rfl rfl bin_lss) ?_
 refine qv (v:=.bool (decide (e19 < e21))) rfl (fun _ _=>oa _) ?_
 intro wd23 hC24
 refine anz ?_
 cases ho
 exact W_ret ⟨_,res_1 Tryz.results132,rfl,(hB.trans hC24)⟩
 intro hb18
 rw [hb18] at ho
 refine W_skip ?_
 refine inBlk_n ?_
 refine anz ?_
 refine Wq rfl hC17 ?_
 refine qv (v:=.int .i64 (s0_5)) rfl (fun _ _=>om _) ?_
 refine qv (v:=.int .i64 (w64 (s0_5 + (1:Int)))) rfl (fun _ _=>op_bin rfl rfl bin_add) ?_
 refine qv (v:=.int .i64 (w64 (s0_5 + (1:Int)))) rfl (fun _ _=>oa _) ?_
 intro wd25 hC26
 cases ho
 exact ⟨(hB.trans hC26),fr ⟨rfl,rfl,rfl,trivial⟩⟩
 intro hb11
 rw [hb11] at ho
 refine W_exit ?_
 refine andThen_x ?_
 cases ho
 exact ⟨rfl,⟨(hB.trans hC10),fr ⟨rfl,rfl,rfl,trivial⟩⟩⟩
 rintro s0_5 _ wd27 ⟨hB,F,rfl⟩ ho
 replace ho:=ho
 refine anz ?_
 refine wq ?_
 refine Wq rfl (cr [] wd27) ?_
 refine qv (v:=v_x0) rfl (fun _ _=>om _) ?_
 refine qv (v:=.int .i64 ((x0.length:Int))) rfl (fun _ hC=>op_lenI u22z (kp _ h_x0 (hB.trans hC))) ?_
 refine qv (v:=v_x1) rfl (fun _ _=>om _) ?_
 refine qv (v:=.int .i64 ((x1.length:Int))) rfl (fun _ hC=>op_lenI u22z (kp _ h_x1 (hB.trans hC))) ?_
 refine qv (v:=.bool (decide ((x0.length:Int) < (x1.length:Int)))) rfl (fun _ _=>op_bin rfl rfl bin_lss) ?_
 refine qv (v:=.bool (decide ((x0.length:Int) < (x1.length:Int)))) rfl (fun _ _=>oa _) ?_
 intro wd28 hC29
 refine anz ?_
 cases ho
 exact W_ret ⟨_,res_1 Tryz.results132,rfl,(hB.trans hC29)⟩

noncomputable def spec_l25Sorted_L1 (s1_5:Int) (s1_o14:(List (List Int))):Option (Out (Int×(List (List Int))) ((List (List Int)))):=
 (((bif decide (s1_5 > (0:Int)) then ((idx s1_o14 (s1_5))>>=fun e44=>((idx s1_o14 (w64 (s1_5 - (1:Int))))>>=fun e51=>((spec_l01Less e44 e51)>>=fun y58=>(some (y58))))) else (some (false))))>>=fun g41=>(bif g41 then ((idx s1_o14 (s1_5))>>=fun e63=>((idx s1_o14 (w64 (s1_5 - (1:Int))))>>=fun e72=>((idx s1_o14 (s1_5))>>=fun e79=>((idx (s1_o14.set (s1_5).toNat e72) (w64 (s1_5 - (1:Int))))>>=fun e93=>(some (Out.norm (w64 (s1_5 - (1:Int)),(s1_o14.set (s1_5).toNat e72).set (w64 (s1_5 - (1:Int))).toNat e63))))))) else (some (Out.exit 2 (s1_5,s1_o14)))))
noncomputable def spec_l25Sorted_L0 (s0_4:Int) (s0_o14:(List (List Int))):Option (Out (Int×(List (List Int))) ((List (List Int)))):=
 (bif decide (s0_4 < (s0_o14.length:Int)) then (lbind (blockM 2 (loopM (fun s=>spec_l25Sorted_L1 s.1 s.2) (s0_4,s0_o14))) (fun (s1_5,s1_o14)=>(some (Out.norm (w64 (s0_4 + (1:Int)),s1_o14))))) else (some (Out.exit 0 (s0_4,s0_o14))))
noncomputable def spec_l25Sorted (x0:(List (List Int))):Option ((List (List Int))):=
 retM (S:=Unit) ((fits 24 ((([]:(List (List Int)))).length + x0.length))>>=fun n16=>(lbind (blockM 0 (loopM (fun s=>spec_l25Sorted_L0 s.1 s.2) ((1:Int),([]:(List (List Int)))++x0))) (fun (s0_4,s0_o14)=>(some (Out.ret (s0_o14))))))
abbrev spec_l25Sorted_post (f_x0:List Nat) (w:World) (x:((List (List Int)))) (e:Ending) (w':World):Prop:=∃ (v0:Value) (f0:List Nat),e = .returned (v0)∧Chg [] w w'∧(sImm (sImm (sInt .i64))).rep w'.heap [v0] x f0∧(∀ b∈f0,b∈f_x0 ∨ w.heap.size≤b)
abbrev spec_l25Sorted_T (f_x0:List Nat) (w:World) (x:((List (List Int)))) (r:Nat→Value) (w':World):Prop:=∃ v,(∀ a:Act,a.tmps.size=51→rho a=r→(results Tryz.f200 a.tmps).run Tryz.prog w' = .ok v w')∧spec_l25Sorted_post f_x0 w x (.returned v) w'
theorem spec_l25Sorted_calls {w:World} {x0:(List (List Int))} {v_x0:Value} {f_x0:List Nat} (h_x0:(sImm (sImm (sInt .i64))).rep w.heap [v_x0] x0 f_x0) {y:((List (List Int)))} (hm:spec_l25Sorted x0=some y) :
  Calls Tryz.prog 200 #[v_x0] w (spec_l25Sorted_post f_x0 w y):=by
 refine calls_of_M (S:=Unit) (args:=[v_x0]) Tryz.func200 rfl Tryz.ntmps200 (Nat.le_of_ble_eq_true rfl) (retM_some hm) ?_
 clear hm
 intro o ho
 have hB:Chg [] w w:=cr _ _
 refine wq ?_
 refine Wq rfl (cr [] w) ?_
 refine qv (v:=.slice none 0 0) rfl (fun _ _=>oa _) ?_
 intro wd1 hC2
 refine anz ?_
 refine wq ?_
 refine W_region rfl ?_
 refine WL.lit0 (sOwn 2 (sInt .i64)) u23z info22 fun v3 wd4 f5 hC6 o7=>?_
 have d8:Dis f5 f_x0:=dl (ofr o7) (sl _ (kp _ h_x0 hC2))
 replace o7:=OE.low (G:=[]) o7 (hB.trans hC2).size
 have hT9:=hC2.trans hC6
 replace h_x0:=kp _ h_x0 hT9
 replace hB:=(hB.trans hT9)
 replace o7:=OM.of_nil (E:=(sImm (sInt .i64))) rfl rfl o7
 refine wv (v:=v_x0) rfl (om _) ?_
 obtain ⟨n16,hn17,ho⟩:=bs ho
 have hn17a:=fits_some hn17
 refine WLM.appendS u23z info22 zr22 sz22 rfl rfl (OM.keep0 o7 (cr [] wd4)) rfl (kp _ h_x0 (cr [] wd4)) (d8).symm (fun _ h=>nomatch h) (by rw [by22]; exact hn17a.1) hn17a.2 (hB.trans (cr [] wd4)).size fun v10 wd11 f12 g18 hC13 o14 hs15 hg19=>?_
 have d21:Dis g18 f12:=dis_or hg19 (Dis.symm (dis_upd (k:=[]) hs15 (Dis.symm (fun _ h=>nomatch h)) (fun _ h=>nomatch h) (OM.lt2 (OM.keep0 o7 (cr [] wd4))))) (Dis.symm (dis_upd (k:=[]) hs15 (Dis.symm (d8).symm) (fun _ h=>nomatch h) (sl _ (kp _ h_x0 (cr [] wd4)))))
 have lo22 : ∀ b∈g18,b∈f_x0 ∨ w.heap.size≤b:=low_or hg19 (fun _ h=>nomatch h) (fun b hb=>.inl (by simp [hb]))
 have hT23:=((cr [] wd4).nil (G:=f5)).trans hC13
 replace h_x0:=STy.keep _ h_x0 hT23 (d8).symm
 replace hB:=hB.then hT23 (OM.low o7)
 refine wv (v:=v10) rfl (oa _) ?_
 refine anz ?_
 refine wq ?_
 refine wq ?_
 refine Wq rfl (cr [] wd11) ?_
 refine qv (v:=.int .i64 ((1:Int))) rfl (fun _ _=>oa _) ?_
 intro wd24 hC25
 refine anz ?_
 refine W_for (S1:=Int×(List (List Int))) (fun s r w'=>match s with | (s0_4,s0_o14)=>∃ (f26:List Nat) (g27:List Nat),Chg [] w w'∧OM [] w.heap.size w' 22 (sImm (sInt .i64)) v10 (s0_o14) f26 g27∧(∀ b∈g27,b∈f_x0 ∨ w.heap.size≤b)∧Dis f26 g27∧∃ F,r=updL F [(3,v10),(4,.int .i64 (s0_4))]) (T:=spec_l25Sorted_T f_x0 w) ho ⟨_,_,(hB.trans hC25),(OM.keep0 o14 hC25),lo22,((d21).symm),fr ⟨rfl,rfl,trivial⟩⟩ ?_ ?_ ?_
 intro x r w' ho hx; subst ho; exact hx
 rintro ⟨s0_4,s0_o14⟩ _ wd30 ⟨f26,g27,hB,o14,lo28,d29,F,rfl⟩ o ho
 replace ho:spec_l25Sorted_L0 s0_4 s0_o14=some o:=ho
 unfold spec_l25Sorted_L0 at ho
 refine wq ?_
 refine wq ?_
 refine Wq rfl (cr [] wd30) ?_
 refine qv (v:=.int .i64 (s0_4)) rfl (fun _ _=>om _) ?_
 refine qv (v:=v10) rfl (fun _ _=>om _) ?_
 refine qv (v:=.int .i64 ((s0_o14.length:Int))) rfl (fun _ hC=>op_lenI u23z (OM.read (OM.keep0 o14 hC))) ?_
 refine qv (v:=.bool (decide (s0_4 < (s0_o14.length:Int)))) rfl (fun _ _=>op_bin rfl rfl bin_lss) ?_
 intro wd31 hC32
 refine anz ?_
 refine W_cond (b:=decide (s0_4 < (s0_o14.length:Int))) rfl ?_ ?_
 intro hb33
 rw [hb33] at ho
 refine W_skip ?_
 refine anz ?_
 refine wq ?_
 refine W_block ?_
 refine wq ?_
 refine Wq rfl hC32 ?_
 refine qv (v:=.int .i64 (s0_4)) rfl (fun _ _=>om _) ?_
 refine qv (v:=.int .i64 (s0_4)) rfl (fun _ _=>oa _) ?_
 intro wd34 hC35
 refine anz ?_
 refine W_for (S1:=Int×(List (List Int))) (fun s r w'=>match s with | (s1_5,s1_o14)=>∃ (f36:List Nat) (g37:List Nat),Chg [] w w'∧OM [] w.heap.size w' 22 (sImm (sInt .i64)) v10 (s1_o14) f36 g37∧(∀ b∈g37,b∈f_x0 ∨ w.heap.size≤b)∧Dis f36 g37∧∃ F,r=updL F [(3,v10),(4,.int .i64 (s0_4)),(5,.int .i64 (s1_5))]) (T:=spec_l25Sorted_T f_x0 w) ho ⟨_,_,(hB.trans hC35),(OM.keep0 o14 hC35),lo28,(d29),fr ⟨rfl,rfl,rfl,trivial⟩⟩ ?_ ?_ ?_
 intro x r w' ho hx; subst ho; exact hx
 rintro ⟨s1_5,s1_o14⟩ _ wd40 ⟨f36,g37,hB,o14,lo38,d39,F,rfl⟩ o ho
 replace ho:spec_l25Sorted_L1 s1_5 s1_o14=some o:=ho
 unfold spec_l25Sorted_L1 at ho
 refine wq ?_
 refine wq ?_
 refine Wqd rfl (by kernel_rfl) (cr [] wd40) ?_
 obtain ⟨g41,hm42,ho⟩:=bs ho
 refine QL.meet (fun r=>∃ F,r=updL F [(3,v10),(4,.int .i64 (s0_4)),(5,.int .i64 (s1_5)),(30,.bool (g41))]) ?_ ?_
 skip
 refine qv (v:=.int .i64 (s1_5)) rfl (fun _ _=>om _) ?_
 refine qv (v:=.bool (decide (s1_5 > (0:Int)))) rfl (fun _ _=>op_bin rfl rfl bin_gtr) ?_
 refine qv (v:=.bool (decide (s1_5 > (0:Int)))) rfl (fun _ _=>om _) ?_
 rcases Bool.eq_false_or_eq_true (decide (s1_5 > (0:Int))) with hb43 | hb43
 rw [hb43] at hm42
 refine qg (v:=v10) rfl (congrArg some hb43) (fun _ _=>om _) ?_
 refine qg (v:=.int .i64 (s1_5)) rfl (congrArg some hb43) (fun _ _=>om _) ?_
 obtain ⟨e44,hx45e,hm42⟩:=bs hm42
 have hx45:=idx_some hx45e
 refine qg (v:=.pointer (some (elA (v10) 1 (s1_5)))) rfl (congrArg some hb43) (fun _ hC=>op_indexI u23z info22 sz22 rfl (OM.read (OM.keep0 o14 hC)) rfl hx45.1 hx45.2) ?_
 obtain ⟨u46,fu47,hu48,hr49,hs50⟩:=OM.get o14 hx45.1 hx45.2
 refine qg (v:=u46) rfl (congrArg some hb43) (fun _ hC=>oldz u22z rfl rfl (hC.cell0 hu48)) ?_
 refine qg (v:=v10) rfl (congrArg some hb43) (fun _ _=>om _) ?_
 refine qg (v:=.int .i64 (s1_5)) rfl (congrArg some hb43) (fun _ _=>om _) ?_
 refine qg (v:=.int .i64 (w64 (s1_5 - (1:Int)))) rfl (congrArg some hb43) (fun _ _=>op_bin rfl rfl bin_sub) ?_
 obtain ⟨e51,hx52e,hm42⟩:=bs hm42
 have hx52:=idx_some hx52e
 refine qg (v:=.pointer (some (elA (v10) 1 (w64 (s1_5 - (1:Int)))))) rfl (congrArg some hb43) (fun _ hC=>op_indexI u23z info22 sz22 rfl (OM.read (OM.keep0 o14 hC)) rfl hx52.1 hx52.2) ?_
 obtain ⟨u53,fu54,hu55,hr56,hs57⟩:=OM.get o14 hx52.1 hx52.2
 refine qg (v:=u53) rfl (congrArg some hb43) (fun _ hC=>oldz u22z rfl rfl (hC.cell0 hu55)) ?_
 obtain ⟨y58,hy59,hm42⟩:=bs hm42
 refine QL.callG (v:=.bool (y58)) rfl (congrArg some hb43) (fun _ _=>op_callF Tryz.func132 rfl rfl) (fun _ hC=>(spec_l01Less_calls (kp _ hr49 hC) (kp _ hr56 hC) hy59).mono fun _ _ h=>⟨h.1,hC.trans h.2⟩) ?_
 refine qv (v:=.bool (y58)) rfl (fun _ _=>op_pickT rfl hb43) ?_
 cases hm42
 exact fr ⟨rfl,rfl,rfl,rfl,trivial⟩
 rw [hb43] at hm42
 refine qs rfl (congrArg some hb43) rfl ?_
 refine qs rfl (congrArg some hb43) rfl ?_
 refine qs rfl (congrArg some hb43) rfl ?_
 refine qs rfl (congrArg some hb43) rfl ?_
 refine qs rfl (congrArg some hb43) rfl ?_
 refine qs rfl (congrArg some hb43) rfl ?_
 refine qs rfl (congrArg some hb43) rfl ?_
 refine qs rfl (congrArg some hb43) rfl ?_
 refine qs rfl (congrArg some hb43) rfl ?_
 refine qs rfl (congrArg some hb43) rfl ?_
 refine qv (v:=.bool (false)) rfl (fun _ _=>op_pickF rfl hb43) ?_
 cases hm42
 exact fr ⟨rfl,rfl,rfl,rfl,trivial⟩
 rintro _ ⟨F,rfl⟩
 intro wd60 hC61
 refine anz ?_
 refine W_cond (b:=g41) rfl ?_ ?_
 intro hb62
 rw [hb62] at ho
 refine W_skip ?_
 refine anz ?_
 refine wq ?_
 refine W_block ?_
 refine wq ?_
 refine Wq rfl hC61 ?_
 refine qv (v:=v10) rfl (fun _ _=>om _) ?_
 refine qv (v:=.int .i64 (s1_5)) rfl (fun _ _=>om _) ?_
 obtain ⟨e63,hx64e,ho⟩:=bs ho
 have hx64:=idx_some hx64e
 refine qv (v:=.pointer (some (elA (v10) 1 (s1_5)))) rfl (fun _ hC=>op_indexI u23z info22 sz22 rfl (OM.read (OM.keep0 o14 hC)) rfl hx64.1 hx64.2) ?_
 obtain ⟨u65,fu66,hu67,hr68,hs69⟩:=OM.get o14 hx64.1 hx64.2
 refine qv (v:=u65) rfl (fun _ hC=>oldz u22z rfl rfl (hC.cell0 hu67)) ?_
 refine qv (v:=u65) rfl (fun _ _=>oa _) ?_
 intro wd70 hC71
 refine anz ?_
 refine wq ?_
 refine W_region rfl ?_
 refine wv (v:=v10) rfl (om _) ?_
 refine wv (v:=.int .i64 (s1_5)) rfl (om _) ?_
 refine wv (v:=v10) rfl (om _) ?_
 refine wv (v:=.int .i64 (s1_5)) rfl (om _) ?_
 refine wv (v:=.int .i64 (w64 (s1_5 - (1:Int)))) rfl (op_bin rfl rfl bin_sub) ?_
 obtain ⟨e72,hx73e,ho⟩:=bs ho
 have hx73:=idx_some hx73e
 refine wv (v:=.pointer (some (elA (v10) 1 (w64 (s1_5 - (1:Int)))))) rfl (op_indexI u23z info22 sz22 rfl (OM.read (OM.keep0 o14 hC71)) rfl hx73.1 hx73.2) ?_
 obtain ⟨u74,fu75,hu76,hr77,hs78⟩:=OM.get o14 hx73.1 hx73.2
 refine wv (v:=u74) rfl (oldz u22z rfl rfl (hC71.cell0 hu76)) ?_
 obtain ⟨e79,hx80e,ho⟩:=bs ho
 have hx80:=idx_some hx80e
 refine wv (v:=.pointer (some (elA (v10) 1 (s1_5)))) rfl (op_indexI u23z info22 sz22 rfl (OM.read (OM.keep0 o14 hC71)) rfl hx80.1 hx80.2) ?_
 refine WLM.store info22 sz22 (OM.keep0 o14 hC71) hx80.2 rfl rfl (kp _ hr77 hC71) (fun b hb=>(d39).symm b (hs78 b hb)) (d39).symm fun wd81 g84 hC82 o83 hg85=>?_
 have d86:Dis fu66 f36:=(fun b hb=>(d39).symm b (hs69 b hb))
 have d87:Dis fu75 f36:=(fun b hb=>(d39).symm b (hs78 b hb))
 have d88:Dis f36 fu66:=dis_upd (k:=[]) (fun b hb=>.inl hb) (d86).symm (fun _ h=>nomatch h) (sl _ (kp _ hr68 hC71))
 have d89:Dis f36 fu75:=dis_upd (k:=[]) (fun b hb=>.inl hb) (d87).symm (fun _ h=>nomatch h) (sl _ (kp _ hr77 hC71))
 have d90:Dis g84 f36:=dis_or hg85 (Dis.symm (dis_upd (k:=[]) (fun b hb=>.inl hb) (Dis.symm (d39).symm) (fun _ h=>nomatch h) (OM.lt2 (OM.keep0 o14 hC71)))) (Dis.symm (dis_upd (k:=[]) (fun b hb=>.inl hb) (Dis.symm d87) (fun _ h=>nomatch h) (sl _ (kp _ hr77 hC71))))
 have lo91 : ∀ b∈g84,b∈f_x0 ∨ w.heap.size≤b:=low_or hg85 lo38 (fun b hb=>lo38 b (hs78 b hb))
 have hT92:=(hC71.nil (G:=f36)).trans hC82
 replace hr68:=STy.keep _ hr68 hT92 d86
 replace hr77:=STy.keep _ hr77 hT92 d87
 replace hB:=hB.then hT92 (OM.low o14)
 refine anz ?_
 refine W_region rfl ?_
 refine wv (v:=v10) rfl (om _) ?_
 refine wv (v:=.int .i64 (s1_5)) rfl (om _) ?_
 refine wv (v:=.int .i64 (w64 (s1_5 - (1:Int)))) rfl (op_bin rfl rfl bin_sub) ?_
 refine wv (v:=u65) rfl (om _) ?_
 obtain ⟨e93,hx94e,ho⟩:=bs ho
 have hx94:=idx_some hx94e
 refine wv (v:=.pointer (some (elA (v10) 1 (w64 (s1_5 - (1:Int)))))) rfl (op_indexI u23z info22 sz22 rfl (OM.read (OM.keep0 o83 (cr [] wd81))) rfl hx94.1 hx94.2) ?_
 refine WLM.store info22 sz22 (OM.keep0 o83 (cr [] wd81)) hx94.2 rfl rfl (kp _ hr68 (cr [] wd81)) (d88).symm d90 fun wd95 g98 hC96 o97 hg99=>?_
 have d102:Dis g98 f36:=dis_or hg99 (Dis.symm (dis_upd (k:=[]) (fun b hb=>.inl hb) (Dis.symm d90) (fun _ h=>nomatch h) (OM.lt2 (OM.keep0 o83 (cr [] wd81))))) (Dis.symm (dis_upd (k:=[]) (fun b hb=>.inl hb) (Dis.symm (d88).symm) (fun _ h=>nomatch h) (sl _ (kp _ hr68 (cr [] wd81)))))
 have lo103 : ∀ b∈g98,b∈f_x0 ∨ w.heap.size≤b:=low_or hg99 lo91 (fun b hb=>lo38 b (hs69 b hb))
 have hT104:=((cr [] wd81).nil (G:=f36)).trans hC96
 replace hr68:=STy.keep _ hr68 hT104 (d88).symm
 replace hr77:=STy.keep _ hr77 hT104 (d89).symm
 replace hB:=hB.then hT104 (OM.low o83)
 refine inBlk_n ?_
 refine anz ?_
 refine Wq rfl (cr [] wd95) ?_
 refine qv (v:=.int .i64 (s1_5)) rfl (fun _ _=>om _) ?_
 refine qv (v:=.int .i64 (w64 (s1_5 - (1:Int)))) rfl (fun _ _=>op_bin rfl rfl bin_sub) ?_
 refine qv (v:=.int .i64 (w64 (s1_5 - (1:Int)))) rfl (fun _ _=>oa _) ?_
 intro wd105 hC106
 cases ho
 exact ⟨_,_,(hB.trans hC106),(OM.keep0 o97 hC106),lo103,((d102).symm),fr ⟨rfl,rfl,rfl,trivial⟩⟩
 intro hb62
 rw [hb62] at ho
 refine W_exit ?_
 refine andThen_x ?_
 cases ho
 exact ⟨rfl,⟨_,_,(hB.trans hC61),(OM.keep0 o14 hC61),lo38,(d39),fr ⟨rfl,rfl,rfl,trivial⟩⟩⟩
 rintro ⟨s1_5,s1_o14⟩ _ wd107 ⟨f36,g37,hB,o14,lo38,d39,F,rfl⟩ ho
 dsimp only at ho
 refine inBlk_n ?_
 refine anz ?_
 refine Wq rfl (cr [] wd107) ?_
 refine qv (v:=.int .i64 (s0_4)) rfl (fun _ _=>om _) ?_
 refine qv (v:=.int .i64 (w64 (s0_4 + (1:Int)))) rfl (fun _ _=>op_bin rfl rfl bin_add) ?_
 refine qv (v:=.int .i64 (w64 (s0_4 + (1:Int)))) rfl (fun _ _=>oa _) ?_
 intro wd108 hC109
 cases ho
 exact ⟨_,_,(hB.trans hC109),(OM.keep0 o14 hC109),lo38,(d39),fr ⟨rfl,rfl,trivial⟩⟩
 intro hb33
 rw [hb33] at ho
 refine W_exit ?_
 refine andThen_x ?_
 cases ho
 exact ⟨rfl,⟨_,_,(hB.trans hC32),(OM.keep0 o14 hC32),lo28,(d29),fr ⟨rfl,rfl,trivial⟩⟩⟩
 rintro ⟨s0_4,s0_o14⟩ _ wd110 ⟨f26,g27,hB,o14,lo28,d29,F,rfl⟩ ho
 dsimp only at ho
 refine anz ?_
 refine wq ?_
 refine Wq rfl (cr [] wd110) ?_
 refine qv (v:=v10) rfl (fun _ _=>om _) ?_
 refine qv (v:=v10) rfl (fun _ _=>oa _) ?_
 intro wd111 hC112
 refine anz ?_
 cases ho
 exact W_ret ⟨_,res_1 Tryz.results200,_,_,rfl,(hB.trans hC112),(OM.read (OM.keep0 o14 hC112)),(low_app (low_wk (OM.low o14)) lo28)⟩

noncomputable def spec_l25All (x0:MCategory) (x1:Int):Option ((List (List Int))×Bool):=
 retM (S:=Unit) ((spec_l25Out x0 (x1))>>=fun y8=>((spec_l25Grow 32 x0 y8 (([]:(List Int))) (([]:(List (List Int)))))>>=fun y28=>((spec_l25Sorted y28)>>=fun y45=>(some (Out.ret ((y45,(decide ((y28.length:Int)≤(16:Int))))))))))
abbrev spec_l25All_post (w:World) (x:((List (List Int))×Bool)) (e:Ending) (w':World):Prop:=∃ (v0:Value) (f0:List Nat),e = .returned (.tuple #[v0,.bool x.2])∧Chg [] w w'∧(sImm (sImm (sInt .i64))).rep w'.heap [v0] x.1 f0∧(∀ b∈f0,w.heap.size≤b)
abbrev spec_l25All_T (w:World) (x:((List (List Int))×Bool)) (r:Nat→Value) (w':World):Prop:=∃ v,(∀ a:Act,a.tmps.size=19→rho a=r→(results Tryz.f189 a.tmps).run Tryz.prog w' = .ok v w')∧spec_l25All_post w x (.returned v) w'
theorem spec_l25All_calls {w:World} {x0:MCategory} {z6:Value} {zh:List Nat} {z7:Value} {zg:List Nat} {z9:Value} {zf:List Nat} {z8:Value} {ze:List Nat} {x1:Int} (za:(sImm (sInt .i64)).rep w.heap [z6] x0.From zh) (zb:(sImm (sInt .i64)).rep w.heap [z7] x0.To zg) (zd:(sImm (sInt .i64)).rep w.heap [z9] x0.Identity zf) (zc:(sImm (sImm (sInt .i64))).rep w.heap [z8] x0.Composites ze) {y:((List (List Int))×Bool)} (hm:spec_l25All x0 x1=some y) :
  Calls Tryz.prog 189 #[.agg #[.int .i64 (x0.Objects),z6,z7,z9,z8],.int .i64 (x1)] w (spec_l25All_post w y):=by
 refine calls_of_M (S:=Unit) (args:=[.agg #[.int .i64 (x0.Objects),z6,z7,z9,z8],.int .i64 (x1)]) Tryz.func189 rfl Tryz.ntmps189 (Nat.le_of_ble_eq_true rfl) (retM_some hm) ?_
 clear hm
 intro o ho
 have hB:Chg [] w w:=cr _ _
 refine wq ?_
 refine W_region rfl ?_
 refine WL.box fun b1 wd2 hC3 hr4 hl5=>?_
 replace hr4:Row wd2 b1 [.int .i64 (x0.Objects),z6,z7,z9,z8] 27:=hr4
 have hT7:=(cr [] w).trans hC3
 replace hB:=(hB.trans hT7)
 refine wv (v:=.slice none 0 0) rfl (oa _) ?_
 refine wv (v:=.bool (false)) rfl (oa _) ?_
 refine anz ?_
 refine wq ?_
 obtain ⟨y8,hy9,ho⟩:=bs ho
 refine W_any (m:=6) (U:=[[],[],[],[],[],[]]) (S:=[⟨true,pl fun _ _ u=>u=(.agg #[.int .i64 (x0.Objects),z6,z7,z9,z8]:Value)⟩,⟨true,pl fun _ _ u=>u=(.agg #[.int .i64 (x0.Objects),z6,z7,z9,z8]:Value)⟩,⟨true,pl fun _ _ u=>u=(.int .i64 (x1):Value)⟩,⟨true,pl (OwnV (sOwn 2 (sInt .i64)) (y8))⟩,⟨true,pl (OwnV (sOwn 2 (sInt .i64)) (([]:(List Int))))⟩,⟨true,pl (OwnV (sOwn 22 (sOwn 2 (sInt .i64))) (([]:(List (List Int)))))⟩]) (Z:=[]) hmix rfl (by decide) (by decide +kernel) (fun _ _ _ h=>np_out h) (by decide) rfl (by decide +kernel) (stable_all <| stable_cons stable_val (stable_cons stable_val (stable_cons stable_val (stable_cons stable_own (stable_cons stable_own (stable_cons stable_own ( stable_nil))))))) ?_ ?_
 refine owes_cons ?_ ( owes_cons ?_ ( owes_cons ?_ ( owes_cons ?_ ( owes_cons ?_ ( owes_cons ?_ ( owes_nil))))))
 refine Owes.val rfl rfl rfl ?_
 intro g r wr hCr H hot
 have hC:=(cr [] wd2).trans hCr
 obtain ⟨F,rfl⟩:=fr (r:=r) (l:=[(2,.pointer (some (⟨b1,0,none⟩)))]) ⟨(hot 2 (by decide)),trivial⟩
 exact op_loadAgg u27z rfl info27 (by rw [sz27]; rfl) rfl (kr hr4 hC).at
 refine Owes.val rfl rfl rfl ?_
 intro g r wr hCr H hot
 have hC:=(cr [] wd2).trans hCr
 obtain ⟨F,rfl⟩:=fr (r:=r) (l:=[(2,.pointer (some (⟨b1,0,none⟩)))]) ⟨(hot 2 (by decide)),trivial⟩
 exact op_loadAgg u27z rfl info27 (by rw [sz27]; rfl) rfl (kr hr4 hC).at
 refine Owes.val rfl rfl rfl ?_
 intro g r wr hCr H hot
 have hC:=(cr [] wd2).trans hCr
 obtain ⟨F,rfl⟩:=fr (r:=r) (l:=[(1,.int .i64 (x1))]) ⟨(hot 1 (by decide)),trivial⟩
 exact om _
 refine Owes.mem rfl rfl rfl ?_
 intro g r wr hCr H hot
 have hC:=(cr [] wd2).trans hCr
 obtain ⟨F,rfl⟩:=fr (r:=r) (l:=[(8,.agg #[.int .i64 (x0.Objects),z6,z7,z9,z8]),(9,.int .i64 (x1))]) ⟨(H 1 (by decide +kernel) 8 rfl),(H 2 (by decide +kernel) 9 rfl),trivial⟩
 exact OpW.own (op_callF Tryz.func135 rfl rfl) (spec_l25Out_calls (kp _ za (hB.trans hC)) (kp _ zb (hB.trans hC)) (kp _ zd (hB.trans hC)) (kp _ zc (hB.trans hC)) hy9)
 refine Owes.mem rfl rfl rfl ?_
 intro g r wr hCr H hot
 have hC:=(cr [] wd2).trans hCr
 obtain ⟨F,rfl⟩:=fr (r:=r) (l:=[]) trivial
 exact OpW.made (own_lit0 u22z info2)
 refine Owes.mem rfl rfl rfl ?_
 intro g r wr hCr H hot
 have hC:=(cr [] wd2).trans hCr
 obtain ⟨F,rfl⟩:=fr (r:=r) (l:=[]) trivial
 exact OpW.made (own_lit0 u23z info22)
 rintro g r wd19 ⟨hC20,hdone,hot,hfresh,hdis⟩
 have o12:OwnV (sOwn 2 (sInt .i64)) (y8) _ _ _:=hdone 3 (by decide) (by decide) 10 rfl
 generalize hvv10:r 10=v10 at o12
 have hfo12:=hfresh 3 (by decide)
 have o15:OwnV (sOwn 2 (sInt .i64)) (([]:(List Int))) _ _ _:=hdone 4 (by decide) (by decide) 11 rfl
 generalize hvv13:r 11=v13 at o15
 have hfo15:=hfresh 4 (by decide)
 have o18:OwnV (sOwn 22 (sOwn 2 (sInt .i64))) (([]:(List (List Int)))) _ _ _:=hdone 5 (by decide) (by decide) 12 rfl
 generalize hvv16:r 12=v16 at o18
 have hfo18:=hfresh 5 (by decide)
 have hdd:=hdis
 obtain ⟨F,rfl⟩:=fr (r:=r) (l:=[(7,.agg #[.int .i64 (x0.Objects),z6,z7,z9,z8]),(10,v10),(11,v13),(12,v16)]) ⟨(hdone 0 (by decide) (by decide) 7 rfl),hvv10,hvv13,hvv16,trivial⟩
 obtain ⟨f11,hgf11⟩ : ∃ k,k=g 3:=⟨_,rfl⟩
 rw [← hgf11] at o12 hfo12
 replace o12:OE [] w.heap.size wd19 (sOwn 2 (sInt .i64)) [v10] (y8) f11:=⟨o12.1,o12.2,fun b hb=>.inr (Nat.le_trans (hB.trans (cr [] wd2)).size (hfo12 b hb).1)⟩
 obtain ⟨f14,hgf14⟩ : ∃ k,k=g 4:=⟨_,rfl⟩
 rw [← hgf14] at o15 hfo15
 replace o15:OE [] w.heap.size wd19 (sOwn 2 (sInt .i64)) [v13] (([]:(List Int))) f14:=⟨o15.1,o15.2,fun b hb=>.inr (Nat.le_trans (hB.trans (cr [] wd2)).size (hfo15 b hb).1)⟩
 obtain ⟨f17,hgf17⟩ : ∃ k,k=g 5:=⟨_,rfl⟩
 rw [← hgf17] at o18 hfo18
 replace o18:OE [] w.heap.size wd19 (sOwn 22 (sOwn 2 (sInt .i64))) [v16] (([]:(List (List Int)))) f17:=⟨o18.1,o18.2,fun b hb=>.inr (Nat.le_trans (hB.trans (cr [] wd2)).size (hfo18 b hb).1)⟩
 have d24:Dis f17 [b1]:=dl (fun b hb=>(hfo18 b hb).1) (one_lt (Row.lt (kr hr4 (cr [] wd2))))
 have d25:Dis f17 f11:=fun b hb hm=>hdd 5 3 (by decide) (by decide) (by decide) b ((show ∀ b∈f17,b∈g 5 from (fun b hb=>(by rw [← hgf17]; exact hb))) b hb) ((show ∀ b∈f11,b∈g 3 from (fun b hb=>(by rw [← hgf11]; exact hb))) b hm)
 have d26:Dis f17 f14:=fun b hb hm=>hdd 5 4 (by decide) (by decide) (by decide) b ((show ∀ b∈f17,b∈g 5 from (fun b hb=>(by rw [← hgf17]; exact hb))) b hb) ((show ∀ b∈f14,b∈g 4 from (fun b hb=>(by rw [← hgf14]; exact hb))) b hm)
 have hT27:=((cr [] wd2).trans hC20)
 replace hr4:=kr hr4 hT27
 replace hB:=(hB.trans hT27)
 replace o18:=OM.of_nil (E:=(sImm (sInt .i64))) rfl rfl o18
 obtain ⟨y28,hy29,ho⟩:=bs ho
 refine WL.call rfl (op_callF Tryz.func199 rfl rfl) ((spec_l25Grow_calls 32) (kp _ za (hB.trans (cr [] wd19))) (kp _ zb (hB.trans (cr [] wd19))) (kp _ zd (hB.trans (cr [] wd19))) (kp _ zc (hB.trans (cr [] wd19))) ((Le.own (Le.refl _) 2).le (kp _ o12.1 (cr [] wd19))) ((Le.own (Le.refl _) 2).le (kp _ o15.1 (cr [] wd19))) (OM.give o18 fun _ h=>h) (fun _ h=>nomatch h) (dis_par (sl _ za) (OM.low o18)) (dis_par (sl _ zb) (OM.low o18)) (dis_par (sl _ zd) (OM.low o18)) (dis_par (sl _ zc) (OM.low o18)) (d25).symm (d26).symm hy29) ?_
 rintro _ wd30 ⟨v32,f33,g34,rfl,hC31,o35,d36,lo37⟩
 refine ⟨_,rfl,?_⟩
 have lo43 : ∀ b∈g34,b∈[] ∨ w.heap.size≤b:=low_out lo37 (low_app (fun _ h=>nomatch h) (low_wk o15.2.2)) hB.size
 replace o35:=OM.back (G:=[]) o35 (OM.low o18) hB.size
 have hT44:=((cr [] wd19).nil (G:=f17)).trans hC31
 replace hr4:=Row.keep hr4 hT44 ((d24).symm _ (ms rfl))
 replace o12:=okp o12 hT44 (d25).symm
 replace o15:=okp o15 hT44 (d26).symm
 replace hB:=hB.then hT44 (OM.low o18)
 refine wv (v:=v32) rfl (oa _) ?_
 refine anz ?_
 refine wq ?_
 refine W_region rfl ?_
 refine wv (v:=v32) rfl (om _) ?_
 obtain ⟨y45,hy46,ho⟩:=bs ho
 refine WL.call rfl (op_callF Tryz.func200 rfl rfl) (spec_l25Sorted_calls (OM.read (OM.keep0 o35 (cr [] wd30))) hy46) ?_
 rintro _ wd47 ⟨v49,f50,rfl,hC48,o51,lo52⟩
 refine ⟨_,rfl,?_⟩
 have lo57 : ∀ b∈f50,b∈[] ∨ w.heap.size≤b:=low_out lo52 (low_app (low_wk (OM.low o35)) lo43) (hB.trans (cr [] wd30)).size
 have hT58:=(cr [] wd30).trans hC48
 replace hr4:=kr hr4 hT58
 replace o12:=ko o12 hT58
 replace o15:=ko o15 hT58
 replace o35:=OM.keep0 o35 hT58
 replace hB:=(hB.trans hT58)
 refine wv (v:=v32) rfl (om _) ?_
 refine wv (v:=.int .i64 ((y28.length:Int))) rfl (op_lenI u23z (OM.read (OM.keep0 o35 (cr [] wd47)))) ?_
 refine wv (v:=.bool (decide ((y28.length:Int)≤(16:Int)))) rfl (op_bin rfl rfl bin_leq) ?_
 refine wv (v:=v49) rfl (oa _) ?_
 refine wv (v:=.bool (decide ((y28.length:Int)≤(16:Int)))) rfl (oa _) ?_
 refine anz ?_
 cases ho
 exact W_ret ⟨_,res_2 Tryz.results189,_,_,rfl,(hB.trans (cr [] wd47)),(kp _ o51 (cr [] wd47)),(fun b hb=>low_in lo57 b hb)⟩

noncomputable def spec_l25Lists_L0 (x0:MCategory) (s0_4:(List (List (List Int)))) (s0_5:Int):Option (Out ((List (List (List Int)))×Int) ((List (List (List Int)))×Bool)):=
 (bif decide (s0_5 < x0.Objects) then ((spec_l25All x0 (s0_5))>>=fun y29=>(bif !(y29.2) then (some (Out.ret ((([]),false)))) else ((fits 24 (s0_4.length + 1))>>=fun n63=>(some (Out.norm (s0_4++[y29.1],w64 (s0_5 + (1:Int)))))))) else (some (Out.exit 0 (s0_4,s0_5))))
noncomputable def spec_l25Lists (x0:MCategory):Option ((List (List (List Int)))×Bool):=
 retM (S:=Unit) (lbind (blockM 0 (loopM (fun s=>spec_l25Lists_L0 x0 s.1 s.2) (([]:(List (List (List Int)))),(0:Int)))) (fun (s0_4,s0_5)=>(some (Out.ret ((s0_4,true))))))
abbrev spec_l25Lists_post (w:World) (x:((List (List (List Int)))×Bool)) (e:Ending) (w':World):Prop:=∃ (v0:Value) (f0:List Nat),e = .returned (.tuple #[v0,.bool x.2])∧Chg [] w w'∧(sImm (sImm (sImm (sInt .i64)))).rep w'.heap [v0] x.1 f0∧(∀ b∈f0,w.heap.size≤b)
abbrev spec_l25Lists_T (w:World) (x:((List (List (List Int)))×Bool)) (r:Nat→Value) (w':World):Prop:=∃ v,(∀ a:Act,a.tmps.size=28→rho a=r→(results Tryz.f174 a.tmps).run Tryz.prog w' = .ok v w')∧spec_l25Lists_post w x (.returned v) w'
theorem spec_l25Lists_calls {w:World} {x0:MCategory} {z6:Value} {zh:List Nat} {z7:Value} {zg:List Nat} {z9:Value} {zf:List Nat} {z8:Value} {ze:List Nat} (za:(sImm (sInt .i64)).rep w.heap [z6] x0.From zh) (zb:(sImm (sInt .i64)).rep w.heap [z7] x0.To zg) (zd:(sImm (sInt .i64)).rep w.heap [z9] x0.Identity zf) (zc:(sImm (sImm (sInt .i64))).rep w.heap [z8] x0.Composites ze) {y:((List (List (List Int)))×Bool)} (hm:spec_l25Lists x0=some y) :
  Calls Tryz.prog 174 #[.agg #[.int .i64 (x0.Objects),z6,z7,z9,z8]] w (spec_l25Lists_post w y):=by
 refine calls_of_M (S:=Unit) (args:=[.agg #[.int .i64 (x0.Objects),z6,z7,z9,z8]]) Tryz.func174 rfl Tryz.ntmps174 (Nat.le_of_ble_eq_true rfl) (retM_some hm) ?_
 clear hm
 intro o ho
 have hB:Chg [] w w:=cr _ _
 refine wq ?_
 refine W_region rfl ?_
 refine WL.box fun b1 wd2 hC3 hr4 hl5=>?_
 replace hr4:Row wd2 b1 [.int .i64 (x0.Objects),z6,z7,z9,z8] 27:=hr4
 have hT7:=(cr [] w).trans hC3
 replace hB:=(hB.trans hT7)
 refine wv (v:=.slice none 0 0) rfl (oa _) ?_
 refine wv (v:=.bool (false)) rfl (oa _) ?_
 refine anz ?_
 refine wq ?_
 refine W_region rfl ?_
 refine WL.lit0 (sOwn 22 (sOwn 2 (sInt .i64))) u28 info23 fun v8 wd9 f10 hC11 o12=>?_
 have d13:Dis f10 [b1]:=dl (ofr o12) (one_lt (Row.lt (kr hr4 (cr [] wd2))))
 replace o12:=OE.low (G:=[]) o12 (hB.trans (cr [] wd2)).size
 have hT14:=(cr [] wd2).trans hC11
 replace hr4:=kr hr4 hT14
 replace hB:=(hB.trans hT14)
 replace o12:=OM.of_nil (E:=(sImm (sImm (sInt .i64)))) rfl rfl o12
 refine wv (v:=v8) rfl (oa _) ?_
 refine anz ?_
 refine wq ?_
 refine wq ?_
 refine Wq rfl (cr [] wd9) ?_
 refine qv (v:=.int .i64 ((0:Int))) rfl (fun _ _=>oa _) ?_
 intro wd15 hC16
 refine anz ?_
 refine W_for (S1:=(List (List (List Int)))×Int) (fun s r w'=>match s with | (s0_4,s0_5)=>∃ (v17:Value) (f18:List Nat) (g19:List Nat),Chg [] w w'∧Row w' b1 [.int .i64 (x0.Objects),z6,z7,z9,z8] 27∧OM [] w.heap.size w' 23 (sImm (sImm (sInt .i64))) v17 (s0_4) f18 g19∧(∀ b∈g19,b∈[] ∨ w.heap.size≤b)∧Dis [b1] f18∧Dis [b1] g19∧Dis f18 g19∧∃ F,r=updL F [(1,.pointer (some (⟨b1,0,none⟩))),(4,v17),(5,.int .i64 (s0_5))]) (T:=spec_l25Lists_T w) ho ⟨_,_,_,(hB.trans hC16),(kr hr4 hC16),(OM.keep0 o12 hC16),(fun _ h=>nomatch h),((d13).symm),((fun _ _ h=>nomatch h)),((fun _ _ h=>nomatch h)),fr ⟨rfl,rfl,rfl,trivial⟩⟩ ?_ ?_ ?_
 intro x r w' ho hx; subst ho; exact hx
 rintro ⟨s0_4,s0_5⟩ _ wd25 ⟨v17,f18,g19,hB,hr4,o20,lo21,d22,d23,d24,F,rfl⟩ o ho
 replace ho:spec_l25Lists_L0 x0 s0_4 s0_5=some o:=ho
 unfold spec_l25Lists_L0 at ho
 refine wq ?_
 refine wq ?_
 refine Wq rfl (cr [] wd25) ?_
 refine qv (v:=.int .i64 (s0_5)) rfl (fun _ _=>om _) ?_
 refine qv (v:=.pointer (some (⟨b1,0,none⟩))) rfl (fun _ _=>op_fieldAddrR u27z rfl info2 ne2 rfl rfl) ?_
 refine qv (v:=.int .i64 (x0.Objects)) rfl (fun _ hC=>oldz u2z rfl rfl ((kr hr4 hC).at.cell (j:=0) rfl)) ?_
 refine qv (v:=.bool (decide (s0_5 < x0.Objects))) rfl (fun _ _=>op_bin rfl rfl bin_lss) ?_
 intro wd26 hC27
 refine anz ?_
 refine W_cond (b:=decide (s0_5 < x0.Objects)) rfl ?_ ?_
 intro hb28
 rw [hb28] at ho
 refine W_skip ?_
 refine anz ?_
 refine wq ?_
 refine W_block ?_
 refine wq ?_
 refine W_region rfl ?_
 refine wv (v:=.agg #[.int .i64 (x0.Objects),z6,z7,z9,z8]) rfl (op_loadAgg u27z rfl info27 (by rw [sz27]; rfl) rfl (kr hr4 hC27).at) ?_
 refine wv (v:=.int .i64 (s0_5)) rfl (om _) ?_
 obtain ⟨y29,hy30,ho⟩:=bs ho
 refine WL.call rfl (op_callF Tryz.func189 rfl rfl) (spec_l25All_calls (kp _ za (hB.trans hC27)) (kp _ zb (hB.trans hC27)) (kp _ zd (hB.trans hC27)) (kp _ zc (hB.trans hC27)) hy30) ?_
 rintro _ wd31 ⟨v33,f34,rfl,hC32,o35,lo36⟩
 refine ⟨_,rfl,?_⟩
 have d37:Dis f34 [b1]:=dl lo36 (one_lt (Row.lt (kr hr4 hC27)))
 have d38:Dis f34 f18:=dl lo36 (OM.lt1 (OM.keep0 o20 hC27))
 have lo39 : ∀ b∈f34,b∈[] ∨ w.heap.size≤b:=fun b hb=>.inr (Nat.le_trans (hB.trans hC27).size (lo36 b hb))
 have hT40:=hC27.trans hC32
 replace hr4:=kr hr4 hT40
 replace o20:=OM.keep0 o20 hT40
 replace hB:=(hB.trans hT40)
 refine wv (v:=.tuple #[v33,.bool (y29.2)]) rfl (om _) ?_
 refine wv (v:=v33) rfl (op_extract rfl rfl) ?_
 refine wv (v:=.bool (y29.2)) rfl (op_extract rfl rfl) ?_
 refine wv (v:=v33) rfl (oa _) ?_
 refine wv (v:=.bool (y29.2)) rfl (oa _) ?_
 refine anz ?_
 refine wq ?_
 refine wq ?_
 refine Wq rfl (cr [] wd31) ?_
 refine qv (v:=.bool (y29.2)) rfl (fun _ _=>om _) ?_
 refine qv (v:=.bool (!(y29.2))) rfl (fun _ _=>op_not rfl) ?_
 intro wd41 hC42
 refine anz ?_
 refine W_cond (b:=!(y29.2)) rfl ?_ ?_
 intro hb43
 rw [hb43] at ho
 refine wq ?_
 refine Wq rfl hC42 ?_
 refine qv (v:=.slice none 0 0) rfl (fun _ _=>oa _) ?_
 refine qv (v:=.bool (false)) rfl (fun _ _=>oa _) ?_
 intro wd44 hC45
 refine anz ?_
 cases ho
 exact W_ret ⟨_,res_2 Tryz.results174,_,_,rfl,(hB.trans hC45),nil_imm,(fun _ h=>nomatch h)⟩
 intro hb43
 rw [hb43] at ho
 refine W_skip ?_
 refine anz ?_
 refine W_region rfl ?_
 refine wv (v:=v17) rfl (om _) ?_
 refine wv (v:=v33) rfl (om _) ?_
 refine WL.lit1 u28 info23 zr23 sz23 (STy.one _ o35 _ (ms rfl)) fun b46 wd47 hC48 hr49 hl50=>?_
 replace hr49:Row wd47 b46 [v33] 23:=hr49
 have d53:Dis [b46] f18:=dl (onw hl50) (OM.lt1 (OM.keep0 o20 hC42))
 have hT56:=hC42.trans hC48
 replace o35:=kp _ o35 hT56
 replace hr4:=kr hr4 hT56
 replace o20:=OM.keep0 o20 hT56
 replace hB:=(hB.trans hT56)
 obtain ⟨n63,hn64,ho⟩:=bs ho
 have hn64a:=fits_some hn64
 refine WLM.append1 u28 info23 zr23 sz23 rfl rfl (OM.keep0 o20 (cr [] wd47)) rfl (kr hr49 (cr [] wd47)) (kp _ o35 (cr [] wd47)) d38 (d24).symm (by rw [by23]; exact hn64a.1) hn64a.2 (hB.trans (cr [] wd47)).size fun v57 wd58 f59 hC60 o61 hs62=>?_
 have d65:Dis f59 [b1]:=dis_upd (k:=[]) hs62 (d22).symm (fun _ h=>nomatch h) (one_lt (Row.lt (kr hr4 (cr [] wd47))))
 have d66:Dis (g19++f34) [b1]:=dis_or (fun b hb=>List.mem_append.1 hb) (d23).symm d37
 have d70:Dis (g19++f34) f59:=dis_or (fun b hb=>List.mem_append.1 hb) (Dis.symm (dis_upd (k:=[]) hs62 (Dis.symm (d24).symm) (fun _ h=>nomatch h) (OM.lt2 (OM.keep0 o20 (cr [] wd47))))) (Dis.symm (dis_upd (k:=[]) hs62 (Dis.symm d38) (fun _ h=>nomatch h) (sl _ (kp _ o35 (cr [] wd47)))))
 have lo71 : ∀ b∈(g19++f34),b∈[] ∨ w.heap.size≤b:=low_or (fun b hb=>List.mem_append.1 hb) lo21 lo39
 have hT72:=((cr [] wd47).nil (G:=f18)).trans hC60
 replace o35:=STy.keep _ o35 hT72 d38
 replace hr4:=Row.keep hr4 hT72 (d22 _ (ms rfl))
 replace hr49:=Row.keep hr49 hT72 (d53 _ (ms rfl))
 replace hB:=hB.then hT72 (OM.low o20)
 refine wv (v:=v57) rfl (oa _) ?_
 refine inBlk_n ?_
 refine anz ?_
 refine Wq rfl (cr [] wd58) ?_
 refine qv (v:=.int .i64 (s0_5)) rfl (fun _ _=>om _) ?_
 refine qv (v:=.int .i64 (w64 (s0_5 + (1:Int)))) rfl (fun _ _=>op_bin rfl rfl bin_add) ?_
 refine qv (v:=.int .i64 (w64 (s0_5 + (1:Int)))) rfl (fun _ _=>oa _) ?_
 intro wd73 hC74
 cases ho
 exact ⟨_,_,_,(hB.trans hC74),(kr hr4 hC74),(OM.keep0 o61 hC74),lo71,((d65).symm),((d66).symm),((d70).symm),fr ⟨rfl,rfl,rfl,trivial⟩⟩
 intro hb28
 rw [hb28] at ho
 refine W_exit ?_
 refine andThen_x ?_
 cases ho
 exact ⟨rfl,⟨_,_,_,(hB.trans hC27),(kr hr4 hC27),(OM.keep0 o20 hC27),lo21,(d22),(d23),(d24),fr ⟨rfl,rfl,rfl,trivial⟩⟩⟩
 rintro ⟨s0_4,s0_5⟩ _ wd75 ⟨v17,f18,g19,hB,hr4,o20,lo21,d22,d23,d24,F,rfl⟩ ho
 dsimp only at ho
 refine anz ?_
 refine wq ?_
 refine Wq rfl (cr [] wd75) ?_
 refine qv (v:=v17) rfl (fun _ _=>om _) ?_
 refine qv (v:=v17) rfl (fun _ _=>oa _) ?_
 refine qv (v:=.bool (true)) rfl (fun _ _=>oa _) ?_
 intro wd76 hC77
 refine anz ?_
 cases ho
 exact W_ret ⟨_,res_2 Tryz.results174,_,_,rfl,(hB.trans hC77),(OM.read (OM.keep0 o20 hC77)),(fun b hb=>low_in (low_app (low_wk (OM.low o20)) lo21) b hb)⟩

noncomputable def spec_l01Own2_L0 (x0:(List (List Int))) (s0_3:(List (List Int))) (s0_4:Int):Option (Out ((List (List Int))×Int) ((List (List Int)))):=
 (bif decide (s0_4 < (x0.length:Int)) then ((idx x0 (s0_4))>>=fun e18=>((spec_l01Own e18)>>=fun y25=>((fits 24 (s0_3.length + 1))>>=fun n49=>(some (Out.norm (s0_3++[y25],w64 (s0_4 + (1:Int)))))))) else (some (Out.exit 0 (s0_3,s0_4))))
noncomputable def spec_l01Own2 (x0:(List (List Int))):Option ((List (List Int))):=
 retM (S:=Unit) (lbind (blockM 0 (loopM (fun s=>spec_l01Own2_L0 x0 s.1 s.2) (([]:(List (List Int))),(0:Int)))) (fun (s0_3,s0_4)=>(some (Out.ret (s0_3)))))
abbrev spec_l01Own2_post (w:World) (x:((List (List Int)))) (e:Ending) (w':World):Prop:=∃ (v0:Value) (f0:List Nat),e = .returned (v0)∧Chg [] w w'∧OE [] w.heap.size w' (sOwn 22 (sOwn 2 (sInt .i64))) [v0] x f0
abbrev spec_l01Own2_T (w:World) (x:((List (List Int)))) (r:Nat→Value) (w':World):Prop:=∃ v,(∀ a:Act,a.tmps.size=21→rho a=r→(results Tryz.f152 a.tmps).run Tryz.prog w' = .ok v w')∧spec_l01Own2_post w x (.returned v) w'
theorem spec_l01Own2_calls {w:World} {x0:(List (List Int))} {v_x0:Value} {f_x0:List Nat} (h_x0:(sImm (sImm (sInt .i64))).rep w.heap [v_x0] x0 f_x0) {y:((List (List Int)))} (hm:spec_l01Own2 x0=some y) :
  Calls Tryz.prog 152 #[v_x0] w (spec_l01Own2_post w y):=by
 refine calls_of_M (S:=Unit) (args:=[v_x0]) Tryz.func152 rfl Tryz.ntmps152 (Nat.le_of_ble_eq_true rfl) (retM_some hm) ?_
 clear hm
 intro o ho
 have hB:Chg [] w w:=cr _ _
 refine wq ?_
 refine Wq rfl (cr [] w) ?_
 refine qv (v:=.slice none 0 0) rfl (fun _ _=>oa _) ?_
 intro wd1 hC2
 refine anz ?_
 refine wq ?_
 refine W_region rfl ?_
 refine WL.lit0 (sOwn 2 (sInt .i64)) u23z info22 fun v3 wd4 f5 hC6 o7=>?_
 replace o7:=OE.low (G:=[]) o7 (hB.trans hC2).size
 have hT8:=hC2.trans hC6
 replace hB:=(hB.trans hT8)
 refine wv (v:=v3) rfl (oa _) ?_
 refine anz ?_
 refine wq ?_
 refine wq ?_
 refine Wq rfl (cr [] wd4) ?_
 refine qv (v:=.int .i64 ((0:Int))) rfl (fun _ _=>oa _) ?_
 intro wd9 hC10
 refine anz ?_
 refine W_for (S1:=(List (List Int))×Int) (fun s r w'=>match s with | (s0_3,s0_4)=>∃ (v11:Value) (f12:List Nat),Chg [] w w'∧OE [] w.heap.size w' (sOwn 22 (sOwn 2 (sInt .i64))) [v11] (s0_3) f12∧∃ F,r=updL F [(0,v_x0),(3,v11),(4,.int .i64 (s0_4))]) (T:=spec_l01Own2_T w) ho ⟨_,_,(hB.trans hC10),(ko o7 hC10),fr ⟨rfl,rfl,rfl,trivial⟩⟩ ?_ ?_ ?_
 intro x r w' ho hx; subst ho; exact hx
 rintro ⟨s0_3,s0_4⟩ _ wd14 ⟨v11,f12,hB,o13,F,rfl⟩ o ho
 replace ho:spec_l01Own2_L0 x0 s0_3 s0_4=some o:=ho
 unfold spec_l01Own2_L0 at ho
 refine wq ?_
 refine wq ?_
 refine Wq rfl (cr [] wd14) ?_
 refine qv (v:=.int .i64 (s0_4)) rfl (fun _ _=>om _) ?_
 refine qv (v:=v_x0) rfl (fun _ _=>om _) ?_
 refine qv (v:=.int .i64 ((x0.length:Int))) rfl (fun _ hC=>op_lenI u23z (kp _ h_x0 (hB.trans hC))) ?_
 refine qv (v:=.bool (decide (s0_4 < (x0.length:Int)))) rfl (fun _ _=>op_bin rfl rfl bin_lss) ?_
 intro wd15 hC16
 refine anz ?_
 refine W_cond (b:=decide (s0_4 < (x0.length:Int))) rfl ?_ ?_
 intro hb17
 rw [hb17] at ho
 refine W_skip ?_
 refine anz ?_
 refine wq ?_
 refine W_block ?_
 refine W_region rfl ?_
 refine wv (v:=v11) rfl (om _) ?_
 refine wv (v:=v_x0) rfl (om _) ?_
 refine wv (v:=.int .i64 (s0_4)) rfl (om _) ?_
 obtain ⟨e18,hx19e,ho⟩:=bs ho
 have hx19:=idx_some hx19e
 refine wv (v:=.pointer (some (elA (v_x0) 1 (s0_4)))) rfl (op_indexI u23z info22 sz22 rfl (kp _ h_x0 (hB.trans hC16)) rfl hx19.1 hx19.2) ?_
 obtain ⟨u20,fu21,hu22,hr23,hs24⟩:=one_get rfl h_x0 hx19.1 hx19.2
 refine wv (v:=u20) rfl (oldz u22z rfl rfl ((hB.trans hC16).cell0 hu22)) ?_
 obtain ⟨y25,hy26,ho⟩:=bs ho
 refine WL.call rfl (op_callF Tryz.func95 rfl rfl) (spec_l01Own_calls (kp _ hr23 (hB.trans hC16)) hy26) ?_
 rintro _ wd27 ⟨v29,f30,rfl,hC28,o31⟩
 refine ⟨_,rfl,?_⟩
 have d32:Dis f30 f12:=dl (ofr o31) (sl _ (kp _ o13.1 hC16))
 replace o31:=OE.low (G:=[]) o31 (hB.trans hC16).size
 have hT33:=hC16.trans hC28
 replace o13:=ko o13 hT33
 replace hB:=(hB.trans hT33)
 refine WL.lit1 u23z info22 zr22 sz22 (STy.one _ o31.1 _ (ms rfl)) fun b34 wd35 hC36 hr37 hl38=>?_
 replace hr37:Row wd35 b34 [v29] 22:=hr37
 have d40:Dis [b34] f12:=dl (onw hl38) (sl _ (kp _ o13.1 (cr [] wd27)))
 have hT42:=(cr [] wd27).trans hC36
 replace o13:=ko o13 hT42
 replace o31:=ko o31 hT42
 replace hB:=(hB.trans hT42)
 obtain ⟨n49,hn50,ho⟩:=bs ho
 have hn50a:=fits_some hn50
 refine WL.append1 (E:=(sOwn 2 (sInt .i64))) _ _ u23z info22 zr22 sz22 rfl rfl rfl (ko o13 (cr [] wd35)) rfl (kr hr37 (cr [] wd35)) (kp _ o31.1 (cr [] wd35)) o31.2.1 o31.2.2 d32 (by rw [by22]; exact hn50a.1) hn50a.2 (hB.trans (cr [] wd35)).size fun v43 wd44 f45 hC46 o47 hs48=>?_
 have hT53:=((cr [] wd35).nil (G:=f12)).trans hC46
 replace hr37:=Row.keep hr37 hT53 (d40 _ (ms rfl))
 replace hB:=hB.then hT53 o13.2.2
 refine wv (v:=v43) rfl (oa _) ?_
 refine inBlk_n ?_
 refine anz ?_
 refine Wq rfl (cr [] wd44) ?_
 refine qv (v:=.int .i64 (s0_4)) rfl (fun _ _=>om _) ?_
 refine qv (v:=.int .i64 (w64 (s0_4 + (1:Int)))) rfl (fun _ _=>op_bin rfl rfl bin_add) ?_
 refine qv (v:=.int .i64 (w64 (s0_4 + (1:Int)))) rfl (fun _ _=>oa _) ?_
 intro wd54 hC55
 cases ho
 exact ⟨_,_,(hB.trans hC55),(ko o47 hC55),fr ⟨rfl,rfl,rfl,trivial⟩⟩
 intro hb17
 rw [hb17] at ho
 refine W_exit ?_
 refine andThen_x ?_
 cases ho
 exact ⟨rfl,⟨_,_,(hB.trans hC16),(ko o13 hC16),fr ⟨rfl,rfl,rfl,trivial⟩⟩⟩
 rintro ⟨s0_3,s0_4⟩ _ wd56 ⟨v11,f12,hB,o13,F,rfl⟩ ho
 dsimp only at ho
 refine anz ?_
 refine wq ?_
 refine Wq rfl (cr [] wd56) ?_
 refine qv (v:=v11) rfl (fun _ _=>om _) ?_
 refine qv (v:=v11) rfl (fun _ _=>oa _) ?_
 intro wd57 hC58
 refine anz ?_
 cases ho
 exact W_ret ⟨_,res_1 Tryz.results152,_,_,rfl,(hB.trans hC58),(ko o13 hC58)⟩
end Go.Proofs.YtfbijbginbjecaaGreat
