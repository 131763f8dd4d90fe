/- Walks, printed by a program: what each function computes (a model on plain data), and that a call computes it. No condition beside those that each theorem names. -/
import Derived.Test.YtfbijbginbjecaaGreatTy
import Derived.Test.YtfbijbginbjecaaGreatZ03
import Derived.Test.YtfbijbginbjecaaGreatZ04
import Derived.Test.YtfbijbginbjecaaGreatZ05
namespace Go.Proofs.YtfbijbginbjecaaGreat
open Go Go.Li
set_option linter.unusedVariables false
set_option maxHeartbeats 4000000
set_option maxRecDepth 100000
noncomputable def impl_coverage_mark (x0:MCoverage) (x1:Int) (x2:Int):Option ((List (List Bool))×Int):=
 finM (R:=((List (List Bool))×Int)) ((idx x0.Covers (x1))>>=fun e23=>((idx e23 (x2))>>=fun e30=>(bif !(e30) then ((idx x0.Covers (x1))>>=fun e35=>((idx e35 (x2))>>=fun e42=>((sync_atomic_Int64_Add x0.Count ((1:Int)))>>=fun y80=>(some (Out.norm ((x0.Covers.set (x1).toNat (e35.set (x2).toNat (true)),y80.2))))))) else (some (Out.norm ((x0.Covers,x0.Count)))))))
abbrev impl_coverage_mark_post (zj:Value) (zi:List Nat) (b_x0_Count:Nat) (w:World) (x:((List (List Bool))×Int)) (e:Ending) (w':World):Prop:=∃ (f0:List Nat),e = .returned (.tuple #[])∧Chg (zi++[b_x0_Count]) w w'∧OE (zi++[b_x0_Count]) w.heap.size w' (sOwn 82 (sOwn 4 sBool)) [zj] x.1 f0∧Row w' b_x0_Count [.int .i64 x.2] 180∧Dis f0 [b_x0_Count]
abbrev impl_coverage_mark_T (zj:Value) (zi:List Nat) (b_x0_Count:Nat) (w:World) (x:((List (List Bool))×Int)) (r:Nat→Value) (w':World):Prop:=∃ v,(∀ a:Act,a.tmps.size=31→rho a=r→(results Tryz.f123 a.tmps).run Tryz.prog w' = .ok v w')∧impl_coverage_mark_post zj zi b_x0_Count w x (.returned v) w'
theorem impl_coverage_mark_calls {w:World} {x0:MCoverage} {p_x0:Addr} {p_x0_Classifier:Addr} {z1x:Value} {z1d:List Nat} {z1y:Value} {z1e:List Nat} {z20:Value} {z1f:List Nat} {z21:Value} {z1g:List Nat} {z22:Value} {z1h:List Nat} {z23:Value} {z1i:List Nat} {z18:Value} {z1j:List Nat} {p_x0_C:Addr} {zt:Value} {z14:List Nat} {zu:Value} {z15:List Nat} {zv:Value} {z16:List Nat} {zw:Value} {z17:List Nat} {zj:Value} {zi:List Nat} {b_x0_Count:Nat} {x1:Int} {x2:Int} (z1k:(sImm (sInt .i64)).rep w.heap [z1x] x0.Classifier.Sets.Shape.From z1d) (z1l:(sImm (sInt .i64)).rep w.heap [z1y] x0.Classifier.Sets.Shape.To z1e) (z1m:(sImm (sInt .i64)).rep w.heap [z20] x0.Classifier.Sets.Shape.Identity z1f) (z1n:(sImm (sImm (sInt .i64))).rep w.heap [z21] x0.Classifier.Sets.Shape.Composites z1g) (z1o:(sImm (sInt .i64)).rep w.heap [z22] x0.Classifier.Sets.Sizes z1h) (z1p:(sImm (sImm (sInt .i64))).rep w.heap [z23] x0.Classifier.Sets.Actions z1i) (z13:(sImm (sImm (sImm (sInt .i64)))).rep w.heap [z18] x0.Classifier.Sieves z1j) (a_x0_Classifier:At w p_x0_Classifier [.int .i64 (x0.Classifier.Sets.Shape.Objects),z1x,z1y,z20,z21,z22,z23,z18]) (zx:(sImm (sInt .i64)).rep w.heap [zt] x0.C.From z14) (zy:(sImm (sInt .i64)).rep w.heap [zu] x0.C.To z15) (z10:(sImm (sInt .i64)).rep w.heap [zv] x0.C.Identity z16) (z11:(sImm (sImm (sInt .i64))).rep w.heap [zw] x0.C.Composites z17) (a_x0_C:At w p_x0_C [.int .i64 (x0.C.Objects),zt,zu,zv,zw]) (o_x0_Covers:OE zi w.heap.size w (sOwn 82 (sOwn 4 sBool)) [zj] x0.Covers zi) (r_x0_Count:Row w b_x0_Count [.int .i64 (x0.Count)] 180) (a_x0:At w p_x0 [.pointer (some (p_x0_Classifier)),.pointer (some (p_x0_C)),zj,.pointer (some (⟨b_x0_Count,0,none⟩))]) (d_0_1:Dis zi [b_x0_Count]) (n_h_x0_Classifier_Sets_Shape_From:Dis z1d (zi++[b_x0_Count])) (n_h_x0_Classifier_Sets_Shape_To:Dis z1e (zi++[b_x0_Count])) (n_h_x0_Classifier_Sets_Shape_Identity:Dis z1f (zi++[b_x0_Count])) (n_h_x0_Classifier_Sets_Shape_Composites:Dis z1g (zi++[b_x0_Count])) (n_h_x0_Classifier_Sets_Sizes:Dis z1h (zi++[b_x0_Count])) (n_h_x0_Classifier_Sets_Actions:Dis z1i (zi++[b_x0_Count])) (n_h_x0_Classifier_Sieves:Dis z1j (zi++[b_x0_Count])) (n_x0_Classifier:p_x0_Classifier.block ∉ (zi++[b_x0_Count])) (n_h_x0_C_From:Dis z14 (zi++[b_x0_Count])) (n_h_x0_C_To:Dis z15 (zi++[b_x0_Count])) (n_h_x0_C_Identity:Dis z16 (zi++[b_x0_Count])) (n_h_x0_C_Composites:Dis z17 (zi++[b_x0_Count])) (n_x0_C:p_x0_C.block ∉ (zi++[b_x0_Count])) (n_x0:p_x0.block ∉ (zi++[b_x0_Count])) {y:((List (List Bool))×Int)} (hm:impl_coverage_mark x0 x1 x2=some y) :
  Calls Tryz.prog 123 #[.pointer (some (p_x0)),.int .i64 (x1),.int .i64 (x2)] w (impl_coverage_mark_post zj zi b_x0_Count w y):=by
 refine calls_of_Mv (R:=((List (List Bool))×Int)) (args:=[.pointer (some (p_x0)),.int .i64 (x1),.int .i64 (x2)]) Tryz.func123 rfl Tryz.ntmps123 (Nat.le_of_ble_eq_true rfl) hm ?_
 clear hm
 intro o ho
 have hB:Chg (zi++[b_x0_Count]) w w:=cr _ _
 have d1:Dis z1d zi:=fun b hb hm=>n_h_x0_Classifier_Sets_Shape_From b hb (by first | exact hm | simp [hm])
 have d2:Dis z1d [b_x0_Count]:=fun b hb hm=>n_h_x0_Classifier_Sets_Shape_From b hb (by first | exact hm | simp [hm])
 have d3:Dis z1e zi:=fun b hb hm=>n_h_x0_Classifier_Sets_Shape_To b hb (by first | exact hm | simp [hm])
 have d4:Dis z1e [b_x0_Count]:=fun b hb hm=>n_h_x0_Classifier_Sets_Shape_To b hb (by first | exact hm | simp [hm])
 have d5:Dis z1f zi:=fun b hb hm=>n_h_x0_Classifier_Sets_Shape_Identity b hb (by first | exact hm | simp [hm])
 have d6:Dis z1f [b_x0_Count]:=fun b hb hm=>n_h_x0_Classifier_Sets_Shape_Identity b hb (by first | exact hm | simp [hm])
 have d7:Dis z1g zi:=fun b hb hm=>n_h_x0_Classifier_Sets_Shape_Composites b hb (by first | exact hm | simp [hm])
 have d8:Dis z1g [b_x0_Count]:=fun b hb hm=>n_h_x0_Classifier_Sets_Shape_Composites b hb (by first | exact hm | simp [hm])
 have d9:Dis z1h zi:=fun b hb hm=>n_h_x0_Classifier_Sets_Sizes b hb (by first | exact hm | simp [hm])
 have d10:Dis z1h [b_x0_Count]:=fun b hb hm=>n_h_x0_Classifier_Sets_Sizes b hb (by first | exact hm | simp [hm])
 have d11:Dis z1i zi:=fun b hb hm=>n_h_x0_Classifier_Sets_Actions b hb (by first | exact hm | simp [hm])
 have d12:Dis z1i [b_x0_Count]:=fun b hb hm=>n_h_x0_Classifier_Sets_Actions b hb (by first | exact hm | simp [hm])
 have d13:Dis z1j zi:=fun b hb hm=>n_h_x0_Classifier_Sieves b hb (by first | exact hm | simp [hm])
 have d14:Dis z1j [b_x0_Count]:=fun b hb hm=>n_h_x0_Classifier_Sieves b hb (by first | exact hm | simp [hm])
 have d15:Dis z14 zi:=fun b hb hm=>n_h_x0_C_From b hb (by first | exact hm | simp [hm])
 have d16:Dis z14 [b_x0_Count]:=fun b hb hm=>n_h_x0_C_From b hb (by first | exact hm | simp [hm])
 have d17:Dis z15 zi:=fun b hb hm=>n_h_x0_C_To b hb (by first | exact hm | simp [hm])
 have d18:Dis z15 [b_x0_Count]:=fun b hb hm=>n_h_x0_C_To b hb (by first | exact hm | simp [hm])
 have d19:Dis z16 zi:=fun b hb hm=>n_h_x0_C_Identity b hb (by first | exact hm | simp [hm])
 have d20:Dis z16 [b_x0_Count]:=fun b hb hm=>n_h_x0_C_Identity b hb (by first | exact hm | simp [hm])
 have d21:Dis z17 zi:=fun b hb hm=>n_h_x0_C_Composites b hb (by first | exact hm | simp [hm])
 have d22:Dis z17 [b_x0_Count]:=fun b hb hm=>n_h_x0_C_Composites b hb (by first | exact hm | simp [hm])
 replace o_x0_Covers:OE (zi++[b_x0_Count]) w.heap.size w (sOwn 82 (sOwn 4 sBool)) [zj] x0.Covers zi:=OE.give o_x0_Covers fun b hb=>by simp [hb]
 refine wq ?_
 refine Wq rfl (cr [] w) ?_
 refine qv (v:=.pointer (some (p_x0))) rfl (fun _ _=>om _) ?_
 refine qv (v:=.pointer (some (p_x0))) rfl (fun _ _=>op_nilCheck rfl) ?_
 refine qv (v:=.pointer (some (p_x0.add 2))) rfl (fun _ _=>op_fieldAddrP u124 rfl info79 ne79 rfl rfl) ?_
 refine qv (v:=zj) rfl (fun _ hC=>oldz u79 rfl rfl ((At.keep a_x0 (hB.trans (Chg.nil hC)) n_x0).cell (j:=2) rfl)) ?_
 refine qv (v:=.int .i64 (x1)) rfl (fun _ _=>om _) ?_
 obtain ⟨e23,hx24e,ho⟩:=bs ho
 have hx24:=idx_some hx24e
 refine qv (v:=.pointer (some (elA (zj) 1 (x1)))) rfl (fun _ hC=>op_indexI u79 info82 sz82 rfl ((Le.own (Le.own (Le.refl _) 4) 82).le (kp _ o_x0_Covers.1 hC)) rfl hx24.1 hx24.2) ?_
 obtain ⟨u25,fu26,hu27,hr28,hs29⟩:=one_get rfl ((Le.own (Le.own (Le.refl _) 4) 82).le o_x0_Covers.1) hx24.1 hx24.2
 refine qv (v:=u25) rfl (fun _ hC=>oldz u82 rfl rfl (hC.cell0 hu27)) ?_
 refine qv (v:=.int .i64 (x2)) rfl (fun _ _=>om _) ?_
 obtain ⟨e30,hx31e,ho⟩:=bs ho
 have hx31:=idx_some hx31e
 refine qv (v:=.pointer (some (elA (u25) 1 (x2)))) rfl (fun _ hC=>op_indexI u82 info4 sz4 rfl (kp _ hr28 hC) rfl hx31.1 hx31.2) ?_
 refine qv (v:=.bool (e30)) rfl (fun _ hC=>oldz Tryz.underlying4 rfl rfl (bool_get (kp _ hr28 hC) hx31.1 hx31.2)) ?_
 refine qv (v:=.bool (!(e30))) rfl (fun _ _=>op_not rfl) ?_
 intro wd32 hC33
 refine anz ?_
 refine W_cond (b:=!(e30)) rfl ?_ ?_
 intro hb34
 rw [hb34] at ho
 refine wq ?_
 refine W_region rfl ?_
 refine wv (v:=.pointer (some (p_x0))) rfl (om _) ?_
 refine wv (v:=.pointer (some (p_x0))) rfl (op_nilCheck rfl) ?_
 refine wv (v:=.pointer (some (p_x0.add 2))) rfl (op_fieldAddrP u124 rfl info79 ne79 rfl rfl) ?_
 refine wv (v:=zj) rfl (oldz u79 rfl rfl ((At.keep a_x0 (hB.trans (Chg.nil hC33)) n_x0).cell (j:=2) rfl)) ?_
 refine wv (v:=.int .i64 (x1)) rfl (om _) ?_
 obtain ⟨e35,hx36e,ho⟩:=bs ho
 have hx36:=idx_some hx36e
 refine wv (v:=.pointer (some (elA (zj) 1 (x1)))) rfl (op_indexI u79 info82 sz82 rfl ((Le.own (Le.own (Le.refl _) 4) 82).le (kp _ o_x0_Covers.1 hC33)) rfl hx36.1 hx36.2) ?_
 obtain ⟨u37,fu38,hu39,hr40,hs41⟩:=one_get rfl ((Le.own (Le.own (Le.refl _) 4) 82).le o_x0_Covers.1) hx36.1 hx36.2
 refine wv (v:=u37) rfl (oldz u82 rfl rfl (hC33.cell0 hu39)) ?_
 refine wv (v:=.int .i64 (x2)) rfl (om _) ?_
 obtain ⟨e42,hx43e,ho⟩:=bs ho
 have hx43:=idx_some hx43e
 refine wv (v:=.pointer (some (elA (u37) 1 (x2)))) rfl (op_indexI u82 info4 sz4 rfl (kp _ hr40 hC33) rfl hx43.1 hx43.2) ?_
 have hT44:=hC33.trans (cr [] wd32)
 replace z1k:=kp _ z1k hT44
 replace z1l:=kp _ z1l hT44
 replace z1m:=kp _ z1m hT44
 replace z1n:=kp _ z1n hT44
 replace z1o:=kp _ z1o hT44
 replace z1p:=kp _ z1p hT44
 replace z13:=kp _ z13 hT44
 replace zx:=kp _ zx hT44
 replace zy:=kp _ zy hT44
 replace z10:=kp _ z10 hT44
 replace z11:=kp _ z11 hT44
 replace hu27:=hT44.cell0 hu27
 replace hr28:=kp _ hr28 hT44
 replace hu39:=hT44.cell0 hu39
 replace hr40:=kp _ hr40 hT44
 replace o_x0_Covers:=ko o_x0_Covers hT44
 replace r_x0_Count:=kr r_x0_Count hT44
 replace hB:=(hB.trans (Chg.nil hT44))
 obtain ⟨k45,o46,hk47,hf48⟩:=own_focus rfl hB.size o_x0_Covers hx36.2 hu39
 have d49:Dis k45 z1d:=fun b hb=>(d1).symm b (hk47 b hb)
 have d50:Dis k45 z1e:=fun b hb=>(d3).symm b (hk47 b hb)
 have d51:Dis k45 z1f:=fun b hb=>(d5).symm b (hk47 b hb)
 have d52:Dis k45 z1g:=fun b hb=>(d7).symm b (hk47 b hb)
 have d53:Dis k45 z1h:=fun b hb=>(d9).symm b (hk47 b hb)
 have d54:Dis k45 z1i:=fun b hb=>(d11).symm b (hk47 b hb)
 have d55:Dis k45 z1j:=fun b hb=>(d13).symm b (hk47 b hb)
 have d56:Dis k45 z14:=fun b hb=>(d15).symm b (hk47 b hb)
 have d57:Dis k45 z15:=fun b hb=>(d17).symm b (hk47 b hb)
 have d58:Dis k45 z16:=fun b hb=>(d19).symm b (hk47 b hb)
 have d59:Dis k45 z17:=fun b hb=>(d21).symm b (hk47 b hb)
 have d60:Dis k45 [b_x0_Count]:=fun b hb=>d_0_1 b (hk47 b hb)
 refine WL.storeEl (z':=true) _ _ sBool_nofp rfl info4 sz4 o46 hx43.2 rfl rfl ⟨rfl,rfl⟩ fun wd61 hC62 o63=>?_
 obtain ⟨f64,o65,hs66⟩:=hf48 _ _ _ hC62 o63
 have d78:Dis f64 [b_x0_Count]:=dis_upd (k:=[]) (fun b hb=>(hs66 b hb).elim .inl fun h=>.inr (.inr h)) d_0_1 (fun _ h=>nomatch h) (one_lt (Row.lt (kr r_x0_Count (cr [] wd32))))
 have hT79:=((cr [] wd32).nil (G:=k45)).trans hC62
 replace z1k:=STy.keep _ z1k hT79 (d49).symm
 replace z1l:=STy.keep _ z1l hT79 (d50).symm
 replace z1m:=STy.keep _ z1m hT79 (d51).symm
 replace z1n:=STy.keep _ z1n hT79 (d52).symm
 replace z1o:=STy.keep _ z1o hT79 (d53).symm
 replace z1p:=STy.keep _ z1p hT79 (d54).symm
 replace z13:=STy.keep _ z13 hT79 (d55).symm
 replace zx:=STy.keep _ zx hT79 (d56).symm
 replace zy:=STy.keep _ zy hT79 (d57).symm
 replace z10:=STy.keep _ z10 hT79 (d58).symm
 replace z11:=STy.keep _ z11 hT79 (d59).symm
 replace r_x0_Count:=Row.keep r_x0_Count hT79 ((d60).symm _ (ms rfl))
 replace hB:=hB.then hT79 (fun b hb=>o_x0_Covers.2.2 b (hk47 b hb))
 refine anz ?_
 refine W_region rfl ?_
 refine wv (v:=.pointer (some (p_x0))) rfl (om _) ?_
 refine wv (v:=.pointer (some (p_x0))) rfl (op_nilCheck rfl) ?_
 refine wv (v:=.pointer (some (p_x0.add 3))) rfl (op_fieldAddrP u124 rfl info122 ne122 rfl rfl) ?_
 refine wv (v:=.pointer (some (⟨b_x0_Count,0,none⟩))) rfl (oldz Tryz.underlying122 rfl rfl ((At.keep a_x0 (hB.trans (Chg.nil (cr [] wd61))) n_x0).cell (j:=3) rfl)) ?_
 obtain ⟨y80,hy81,ho⟩:=bs ho
 refine WL.call rfl (op_callF Tryz.func173 rfl rfl) (sync_atomic_Int64_Add_calls (kr r_x0_Count (cr [] wd61)) hy81) ?_
 rintro _ wd82 ⟨rfl,hC83,o84⟩
 refine ⟨_,rfl,?_⟩
 have hT85:=((cr [] wd61).nil (G:=[b_x0_Count])).trans hC83
 replace z1k:=STy.keep _ z1k hT85 (Dis.symm (d2).symm)
 replace z1l:=STy.keep _ z1l hT85 (Dis.symm (d4).symm)
 replace z1m:=STy.keep _ z1m hT85 (Dis.symm (d6).symm)
 replace z1n:=STy.keep _ z1n hT85 (Dis.symm (d8).symm)
 replace z1o:=STy.keep _ z1o hT85 (Dis.symm (d10).symm)
 replace z1p:=STy.keep _ z1p hT85 (Dis.symm (d12).symm)
 replace z13:=STy.keep _ z13 hT85 (Dis.symm (d14).symm)
 replace zx:=STy.keep _ zx hT85 (Dis.symm (d16).symm)
 replace zy:=STy.keep _ zy hT85 (Dis.symm (d18).symm)
 replace z10:=STy.keep _ z10 hT85 (Dis.symm (d20).symm)
 replace z11:=STy.keep _ z11 hT85 (Dis.symm (d22).symm)
 replace o65:=okp o65 hT85 (Dis.symm (d78).symm)
 replace hB:=hB.then hT85 (fun i hi=>.inl (by simp [List.mem_singleton.1 hi]))
 cases ho
 exact ⟨_,res_0 Tryz.results123,_,rfl,(hB.trans (Chg.nil (cr [] wd82))),(ko o65 (cr [] wd82)),(kr o84 (cr [] wd82)),(d78)⟩
 intro hb34
 rw [hb34] at ho
 refine W_skip ?_
 cases ho
 exact ⟨_,res_0 Tryz.results123,_,rfl,(hB.trans (Chg.nil hC33)),(ko o_x0_Covers hC33),(kr r_x0_Count hC33),(d_0_1)⟩

noncomputable def impl_coverage_topology_L1 (e81:(List (List Int))) (e103:(List Bool)) (s1_6:(List (List Int))) (s1_37:Int):Option (Out ((List (List Int))×Int) (MTopology)):=
 (bif decide (s1_37 < (e103.length:Int)) then ((idx e103 (s1_37))>>=fun e147=>(bif e147 then ((idx e81 (s1_37))>>=fun e154=>((impl_clone e154)>>=fun y161=>((fits 24 (s1_6.length + 1))>>=fun n199=>(some (Out.norm (s1_6++[y161],w64 (s1_37 + (1:Int)))))))) else (some (Out.norm (s1_6,w64 (s1_37 + (1:Int))))))) else (some (Out.exit 2 (s1_6,s1_37))))
noncomputable def impl_coverage_topology_L0 (x0:MCoverage) (s0_23:Int) (s0_b35_5:(List (List (List Int)))):Option (Out (Int×(List (List (List Int)))) (MTopology)):=
 (bif decide (s0_23 < (x0.Classifier.Sieves.length:Int)) then ((idx x0.Classifier.Sieves (s0_23))>>=fun e81=>((idx x0.Covers (s0_23))>>=fun e103=>(lbind (blockM 2 (loopM (fun s=>impl_coverage_topology_L1 e81 e103 s.1 s.2) (([]:(List (List Int))),(0:Int)))) (fun (s1_6,s1_37)=>((fits 24 (s0_b35_5.length + 1))>>=fun n237=>(some (Out.norm (w64 (s0_23 + (1:Int)),s0_b35_5++[s1_6])))))))) else (some (Out.exit 0 (s0_23,s0_b35_5))))
noncomputable def impl_coverage_topology (x0:MCoverage):Option (MTopology):=
 retM (S:=Unit) ((impl_Category_copy x0.C)>>=fun y8=>(lbind (blockM 0 (loopM (fun s=>impl_coverage_topology_L0 x0 s.1 s.2) ((0:Int),[]))) (fun (s0_23,s0_b35_5)=>(some (Out.ret ((MTopology.mk y8 s0_b35_5)))))))
abbrev impl_coverage_topology_post (w:World) (x:(MTopology)) (e:Ending) (w':World):Prop:=∃ (v0:Value) (f0:List Nat) (v1:Value) (f1:List Nat) (v2:Value) (f2:List Nat) (v3:Value) (f3:List Nat) (v4:Value) (f4:List Nat),e = .returned (.agg #[.int .i64 x.Shape.Objects,v0,v1,v2,v3,v4])∧Chg [] w w'∧OE [] w.heap.size w' (sOwn 2 (sInt .i64)) [v0] x.Shape.From f0∧OE [] w.heap.size w' (sOwn 2 (sInt .i64)) [v1] x.Shape.To f1∧OE [] w.heap.size w' (sOwn 2 (sInt .i64)) [v2] x.Shape.Identity f2∧OE [] w.heap.size w' (sOwn 22 (sOwn 2 (sInt .i64))) [v3] x.Shape.Composites f3∧OE [] w.heap.size w' (sOwn 23 (sOwn 22 (sOwn 2 (sInt .i64)))) [v4] x.Covers f4∧Dis f0 f1∧Dis f0 f2∧Dis f0 f3∧Dis f0 f4∧Dis f1 f2∧Dis f1 f3∧Dis f1 f4∧Dis f2 f3∧Dis f2 f4∧Dis f3 f4
abbrev impl_coverage_topology_T (w:World) (x:(MTopology)) (r:Nat→Value) (w':World):Prop:=∃ v,(∀ a:Act,a.tmps.size=60→rho a=r→(results Tryz.f100 a.tmps).run Tryz.prog w' = .ok v w')∧impl_coverage_topology_post w x (.returned v) w'
theorem impl_coverage_topology_calls {w:World} {x0:MCoverage} {p_x0:Addr} {p_x0_Classifier:Addr} {z1x:Value} {z1d:List Nat} {z1y:Value} {z1e:List Nat} {z20:Value} {z1f:List Nat} {z21:Value} {z1g:List Nat} {z22:Value} {z1h:List Nat} {z23:Value} {z1i:List Nat} {z18:Value} {z1j:List Nat} {p_x0_C:Addr} {zt:Value} {z14:List Nat} {zu:Value} {z15:List Nat} {zv:Value} {z16:List Nat} {zw:Value} {z17:List Nat} {zj:Value} {zi:List Nat} {p_x0_Count:Addr} (z1k:(sImm (sInt .i64)).rep w.heap [z1x] x0.Classifier.Sets.Shape.From z1d) (z1l:(sImm (sInt .i64)).rep w.heap [z1y] x0.Classifier.Sets.Shape.To z1e) (z1m:(sImm (sInt .i64)).rep w.heap [z20] x0.Classifier.Sets.Shape.Identity z1f) (z1n:(sImm (sImm (sInt .i64))).rep w.heap [z21] x0.Classifier.Sets.Shape.Composites z1g) (z1o:(sImm (sInt .i64)).rep w.heap [z22] x0.Classifier.Sets.Sizes z1h) (z1p:(sImm (sImm (sInt .i64))).rep w.heap [z23] x0.Classifier.Sets.Actions z1i) (z13:(sImm (sImm (sImm (sInt .i64)))).rep w.heap [z18] x0.Classifier.Sieves z1j) (a_x0_Classifier:At w p_x0_Classifier [.int .i64 (x0.Classifier.Sets.Shape.Objects),z1x,z1y,z20,z21,z22,z23,z18]) (zx:(sImm (sInt .i64)).rep w.heap [zt] x0.C.From z14) (zy:(sImm (sInt .i64)).rep w.heap [zu] x0.C.To z15) (z10:(sImm (sInt .i64)).rep w.heap [zv] x0.C.Identity z16) (z11:(sImm (sImm (sInt .i64))).rep w.heap [zw] x0.C.Composites z17) (a_x0_C:At w p_x0_C [.int .i64 (x0.C.Objects),zt,zu,zv,zw]) (z1s:(sImm (sImm sBool)).rep w.heap [zj] x0.Covers zi) (a_x0_Count:At w p_x0_Count [.int .i64 (x0.Count)]) (a_x0:At w p_x0 [.pointer (some (p_x0_Classifier)),.pointer (some (p_x0_C)),zj,.pointer (some (p_x0_Count))]) {y:(MTopology)} (hm:impl_coverage_topology x0=some y) :
  Calls Tryz.prog 100 #[.pointer (some (p_x0))] w (impl_coverage_topology_post w y):=by
 refine calls_of_M (S:=Unit) (args:=[.pointer (some (p_x0))]) Tryz.func100 rfl Tryz.ntmps100 (Nat.le_of_ble_eq_true rfl) (retM_some hm) ?_
 clear hm
 intro o ho
 have hB:Chg [] w w:=cr _ _
 refine wq ?_
 refine W_region rfl ?_
 refine WL.alloc info30 zr30 fun b1 wd2 hC3 hr4 hl5=>?_
 replace hr4:Row wd2 b1 [.int .i64 ((0:Int)),.slice none 0 0,.slice none 0 0,.slice none 0 0,.slice none 0 0,.slice none 0 0] 30:=hr4
 have lo6:w.heap.size≤b1:=Nat.le_trans (hB.trans (cr [] w)).size hl5
 have hT7:=(cr [] w).trans hC3
 replace hB:=(hB.trans hT7)
 refine anz ?_
 refine wq ?_
 refine W_region rfl ?_
 refine wv (v:=.pointer (some (p_x0))) rfl (om _) ?_
 refine wv (v:=.pointer (some (p_x0))) rfl (op_nilCheck rfl) ?_
 refine wv (v:=.pointer (some (p_x0.add 1))) rfl (op_fieldAddrP u124 rfl info86 ne86 rfl rfl) ?_
 refine wv (v:=.pointer (some (p_x0_C))) rfl (oldz Tryz.underlying86 rfl rfl ((At.keep0 a_x0 (hB.trans (cr [] wd2))).cell (j:=1) rfl)) ?_
 obtain ⟨y8,hy9,ho⟩:=bs ho
 refine WL.call rfl (op_callF Tryz.func146 rfl rfl) (impl_Category_copy_calls (kp _ zx (hB.trans (cr [] wd2))) (kp _ zy (hB.trans (cr [] wd2))) (kp _ z10 (hB.trans (cr [] wd2))) (kp _ z11 (hB.trans (cr [] wd2))) (At.keep0 a_x0_C (hB.trans (cr [] wd2))) hy9) ?_
 rintro _ wd10 ⟨v12,f13,v15,f16,v18,f19,v21,f22,rfl,hC11,o14,o17,o20,o23,d24,d25,d26,d27,d28,d29⟩
 refine ⟨_,rfl,?_⟩
 have d30:Dis f13 [b1]:=dl (ofr o14) (one_lt (Row.lt (kr hr4 (cr [] wd2))))
 replace o14:=OE.low (G:=[]) o14 (hB.trans (cr [] wd2)).size
 have d31:Dis f16 [b1]:=dl (ofr o17) (one_lt (Row.lt (kr hr4 (cr [] wd2))))
 replace o17:=OE.low (G:=[]) o17 (hB.trans (cr [] wd2)).size
 have d32:Dis f19 [b1]:=dl (ofr o20) (one_lt (Row.lt (kr hr4 (cr [] wd2))))
 replace o20:=OE.low (G:=[]) o20 (hB.trans (cr [] wd2)).size
 have d33:Dis f22 [b1]:=dl (ofr o23) (one_lt (Row.lt (kr hr4 (cr [] wd2))))
 replace o23:=OE.low (G:=[]) o23 (hB.trans (cr [] wd2)).size
 have hT34:=(cr [] wd2).trans hC11
 replace hr4:=kr hr4 hT34
 replace hB:=(hB.trans hT34)
 refine wv (v:=.agg #[.int .i64 (y8.Objects),v12,v15,v18,v21,.slice none 0 0]) rfl (op_build (bld30_0 rfl (STy.one _ o14.1 _ (ms rfl)) (STy.one _ o17.1 _ (ms rfl)) (STy.one _ o20.1 _ (ms rfl)) (STy.one _ o23.1 _ (ms rfl)))) ?_
 refine WL.alloc info30 zr30 fun b35 wd36 hC37 hr38 hl39=>?_
 replace hr38:Row wd36 b35 [.int .i64 ((0:Int)),.slice none 0 0,.slice none 0 0,.slice none 0 0,.slice none 0 0,.slice none 0 0] 30:=hr38
 have lo40:w.heap.size≤b35:=Nat.le_trans (hB.trans (cr [] wd10)).size hl39
 have d41:Dis [b35] [b1]:=dl (onw hl39) (one_lt (Row.lt (kr hr4 (cr [] wd10))))
 have d42:Dis [b35] f13:=dl (onw hl39) (sl _ (kp _ o14.1 (cr [] wd10)))
 have d43:Dis [b35] f16:=dl (onw hl39) (sl _ (kp _ o17.1 (cr [] wd10)))
 have d44:Dis [b35] f19:=dl (onw hl39) (sl _ (kp _ o20.1 (cr [] wd10)))
 have d45:Dis [b35] f22:=dl (onw hl39) (sl _ (kp _ o23.1 (cr [] wd10)))
 have hT46:=(cr [] wd10).trans hC37
 replace hr4:=kr hr4 hT46
 replace o14:=ko o14 hT46
 replace o17:=ko o17 hT46
 replace o20:=ko o20 hT46
 replace o23:=ko o23 hT46
 replace hB:=(hB.trans hT46)
 refine WL.storeAll (us:=[.int .i64 (y8.Objects),v12,v15,v18,v21,.slice none 0 0]) info30 (by rw [sz30]; rfl) (kr hr38 (cr [] wd36)) rfl rfl rfl (by intro u hu; simp only [List.mem_cons,List.mem_nil_iff,or_false] at hu; rcases hu with rfl | rfl | rfl | rfl | rfl | rfl <;> first | exact rfl | exact (STy.one _ o14.1 _ (ms rfl)) | exact (STy.one _ o17.1 _ (ms rfl)) | exact (STy.one _ o20.1 _ (ms rfl)) | exact (STy.one _ o23.1 _ (ms rfl))) fun wd47 hC48 hr49=>?_
 replace hr49:Row wd47 b35 [.int .i64 (y8.Objects),v12,v15,v18,v21,.slice none 0 0] 30:=hr49
 have hT50:=((cr [] wd36).nil (G:=[b35])).trans hC48
 replace hr4:=Row.keep hr4 hT50 ((d41).symm _ (ms rfl))
 replace o14:=okp o14 hT50 (d42).symm
 replace o17:=okp o17 hT50 (d43).symm
 replace o20:=okp o20 hT50 (d44).symm
 replace o23:=okp o23 hT50 (d45).symm
 replace hB:=hB.then hT50 (one_then lo40)
 refine anz ?_
 refine wq ?_
 refine wq ?_
 refine Wq rfl (cr [] wd47) ?_
 refine qv (v:=.pointer (some (p_x0))) rfl (fun _ _=>om _) ?_
 refine qv (v:=.pointer (some (p_x0))) rfl (fun _ _=>op_nilCheck rfl) ?_
 refine qv (v:=.pointer (some (p_x0))) rfl (fun _ _=>op_fieldAddr0 u124 rfl info121 ne121 rfl rfl) ?_
 refine qv (v:=.pointer (some (p_x0_Classifier))) rfl (fun _ hC=>oldz Tryz.underlying121 rfl rfl ((At.keep0 a_x0 (hB.trans hC)).cell0 rfl)) ?_
 refine qv (v:=.pointer (some (p_x0_Classifier))) rfl (fun _ _=>op_nilCheck rfl) ?_
 refine qv (v:=.pointer (some (p_x0_Classifier.add 7))) rfl (fun _ _=>op_fieldAddrP u131 rfl info129 ne129 rfl rfl) ?_
 refine qv (v:=z18) rfl (fun _ hC=>oldz u129 rfl rfl ((At.keep0 a_x0_Classifier (hB.trans hC)).cell (j:=7) rfl)) ?_
 refine qv (v:=.int .i64 ((x0.Classifier.Sieves.length:Int))) rfl (fun _ hC=>op_lenI u129 (kp _ z13 (hB.trans hC))) ?_
 refine qv (v:=.int .i64 ((0:Int))) rfl (fun _ _=>om _) ?_
 intro wd51 hC52
 refine anz ?_
 refine W_for (S1:=Int×(List (List (List Int)))) (fun s r w'=>match s with | (s0_23,s0_b35_5)=>∃ (v53:Value) (f54:List Nat),Chg [] w w'∧Row w' b1 [.int .i64 ((0:Int)),.slice none 0 0,.slice none 0 0,.slice none 0 0,.slice none 0 0,.slice none 0 0] 30∧OE [] w.heap.size w' (sOwn 2 (sInt .i64)) [v12] (y8.From) f13∧OE [] w.heap.size w' (sOwn 2 (sInt .i64)) [v15] (y8.To) f16∧OE [] w.heap.size w' (sOwn 2 (sInt .i64)) [v18] (y8.Identity) f19∧OE [] w.heap.size w' (sOwn 22 (sOwn 2 (sInt .i64))) [v21] (y8.Composites) f22∧Row w' b35 [.int .i64 (y8.Objects),v12,v15,v18,v21,v53] 30∧OE [] w.heap.size w' (sOwn 23 (sOwn 22 (sOwn 2 (sInt .i64)))) [v53] (s0_b35_5) f54∧Dis [b1] f13∧Dis [b1] f16∧Dis [b1] f19∧Dis [b1] f22∧Dis [b1] [b35]∧Dis [b1] f54∧Dis f13 f16∧Dis f13 f19∧Dis f13 f22∧Dis f13 [b35]∧Dis f13 f54∧Dis f16 f19∧Dis f16 f22∧Dis f16 [b35]∧Dis f16 f54∧Dis f19 f22∧Dis f19 [b35]∧Dis f19 f54∧Dis f22 [b35]∧Dis f22 f54∧Dis [b35] f54∧∃ F,r=updL F [(0,.pointer (some (p_x0))),(2,.pointer (some (⟨b1,0,none⟩))),(3,.pointer (some (⟨b35,0,none⟩))),(21,z18),(22,.int .i64 ((x0.Classifier.Sieves.length:Int))),(23,.int .i64 (s0_23))]) (T:=impl_coverage_topology_T w) ho ⟨_,_,(hB.trans hC52),(kr hr4 hC52),(ko o14 hC52),(ko o17 hC52),(ko o20 hC52),(ko o23 hC52),(kr hr49 hC52),nil_OE,((d30).symm),((d31).symm),((d32).symm),((d33).symm),((d41).symm),(fun _ _ h=>nomatch h),(d24),(d25),(d26),((d42).symm),(fun _ _ h=>nomatch h),(d27),(d28),((d43).symm),(fun _ _ h=>nomatch h),(d29),((d44).symm),(fun _ _ h=>nomatch h),((d45).symm),(fun _ _ h=>nomatch h),(fun _ _ h=>nomatch h),fr ⟨rfl,rfl,rfl,rfl,rfl,rfl,trivial⟩⟩ ?_ ?_ ?_
 intro x r w' ho hx; subst ho; exact hx
 rintro ⟨s0_23,s0_b35_5⟩ _ wd77 ⟨v53,f54,hB,hr4,o14,o17,o20,o23,hr49,o55,d56,d57,d58,d59,d60,d61,d62,d63,d64,d65,d66,d67,d68,d69,d70,d71,d72,d73,d74,d75,d76,F,rfl⟩ o ho
 replace ho:impl_coverage_topology_L0 x0 s0_23 s0_b35_5=some o:=ho
 unfold impl_coverage_topology_L0 at ho
 refine wq ?_
 refine Wq rfl (cr [] wd77) ?_
 refine qv (v:=.bool (decide (s0_23 < (x0.Classifier.Sieves.length:Int)))) rfl (fun _ _=>op_bin rfl rfl bin_lss) ?_
 intro wd78 hC79
 refine anz ?_
 refine wq ?_
 refine W_cond (b:=decide (s0_23 < (x0.Classifier.Sieves.length:Int))) rfl ?_ ?_
 intro hb80
 rw [hb80] at ho
 refine W_skip ?_
 refine anz ?_
 refine wq ?_
 refine W_block ?_
 refine wq ?_
 refine Wq rfl hC79 ?_
 refine qv (v:=.int .i64 (s0_23)) rfl (fun _ _=>om _) ?_
 obtain ⟨e81,hx82e,ho⟩:=bs ho
 have hx82:=idx_some hx82e
 refine qv (v:=.pointer (some (elA (z18) 1 (s0_23)))) rfl (fun _ hC=>op_indexI u129 info110 sz110 rfl (kp _ z13 (hB.trans hC)) rfl hx82.1 hx82.2) ?_
 obtain ⟨u83,fu84,hu85,hr86,hs87⟩:=one_get rfl z13 hx82.1 hx82.2
 refine qv (v:=u83) rfl (fun _ hC=>oldz u110 rfl rfl ((hB.trans hC).cell0 hu85)) ?_
 refine qv (v:=.int .i64 (s0_23)) rfl (fun _ _=>oa _) ?_
 refine qv (v:=u83) rfl (fun _ _=>oa _) ?_
 intro wd88 hC89
 refine anz ?_
 refine wq ?_
 refine W_region rfl ?_
 refine WL.lit0 (sOwn 2 (sInt .i64)) u23z info22 fun v90 wd91 f92 hC93 o94=>?_
 have d95:Dis f92 [b1]:=dl (ofr o94) (one_lt (Row.lt (kr hr4 hC89)))
 have d96:Dis f92 f13:=dl (ofr o94) (sl _ (kp _ o14.1 hC89))
 have d97:Dis f92 f16:=dl (ofr o94) (sl _ (kp _ o17.1 hC89))
 have d98:Dis f92 f19:=dl (ofr o94) (sl _ (kp _ o20.1 hC89))
 have d99:Dis f92 f22:=dl (ofr o94) (sl _ (kp _ o23.1 hC89))
 have d100:Dis f92 [b35]:=dl (ofr o94) (one_lt (Row.lt (kr hr49 hC89)))
 have d101:Dis f92 f54:=dl (ofr o94) (sl _ (kp _ o55.1 hC89))
 replace o94:=OE.low (G:=[]) o94 (hB.trans hC89).size
 have hT102:=hC89.trans hC93
 replace hr4:=kr hr4 hT102
 replace o14:=ko o14 hT102
 replace o17:=ko o17 hT102
 replace o20:=ko o20 hT102
 replace o23:=ko o23 hT102
 replace hr49:=kr hr49 hT102
 replace o55:=ko o55 hT102
 replace hB:=(hB.trans hT102)
 refine wv (v:=v90) rfl (oa _) ?_
 refine anz ?_
 refine wq ?_
 refine wq ?_
 refine Wq rfl (cr [] wd91) ?_
 refine qv (v:=.pointer (some (p_x0))) rfl (fun _ _=>om _) ?_
 refine qv (v:=.pointer (some (p_x0))) rfl (fun _ _=>op_nilCheck rfl) ?_
 refine qv (v:=.pointer (some (p_x0.add 2))) rfl (fun _ _=>op_fieldAddrP u124 rfl info79 ne79 rfl rfl) ?_
 refine qv (v:=zj) rfl (fun _ hC=>oldz u79 rfl rfl ((At.keep0 a_x0 (hB.trans hC)).cell (j:=2) rfl)) ?_
 refine qv (v:=.int .i64 (s0_23)) rfl (fun _ _=>om _) ?_
 obtain ⟨e103,hx104e,ho⟩:=bs ho
 have hx104:=idx_some hx104e
 refine qv (v:=.pointer (some (elA (zj) 1 (s0_23)))) rfl (fun _ hC=>op_indexI u79 info82 sz82 rfl (kp _ z1s (hB.trans hC)) rfl hx104.1 hx104.2) ?_
 obtain ⟨u105,fu106,hu107,hr108,hs109⟩:=one_get rfl z1s hx104.1 hx104.2
 refine qv (v:=u105) rfl (fun _ hC=>oldz u82 rfl rfl ((hB.trans hC).cell0 hu107)) ?_
 refine qv (v:=.int .i64 ((e103.length:Int))) rfl (fun _ hC=>op_lenI u82 (kp _ hr108 (hB.trans hC))) ?_
 refine qv (v:=.int .i64 ((0:Int))) rfl (fun _ _=>om _) ?_
 intro wd110 hC111
 refine anz ?_
 refine W_for (S1:=(List (List Int))×Int) (fun s r w'=>match s with | (s1_6,s1_37)=>∃ (v112:Value) (f113:List Nat),Chg [] w w'∧Row w' b1 [.int .i64 ((0:Int)),.slice none 0 0,.slice none 0 0,.slice none 0 0,.slice none 0 0,.slice none 0 0] 30∧OE [] w.heap.size w' (sOwn 2 (sInt .i64)) [v12] (y8.From) f13∧OE [] w.heap.size w' (sOwn 2 (sInt .i64)) [v15] (y8.To) f16∧OE [] w.heap.size w' (sOwn 2 (sInt .i64)) [v18] (y8.Identity) f19∧OE [] w.heap.size w' (sOwn 22 (sOwn 2 (sInt .i64))) [v21] (y8.Composites) f22∧Row w' b35 [.int .i64 (y8.Objects),v12,v15,v18,v21,v53] 30∧OE [] w.heap.size w' (sOwn 23 (sOwn 22 (sOwn 2 (sInt .i64)))) [v53] (s0_b35_5) f54∧OE [] w.heap.size w' (sOwn 22 (sOwn 2 (sInt .i64))) [v112] (s1_6) f113∧Dis [b1] f13∧Dis [b1] f16∧Dis [b1] f19∧Dis [b1] f22∧Dis [b1] [b35]∧Dis [b1] f54∧Dis [b1] f113∧Dis f13 f16∧Dis f13 f19∧Dis f13 f22∧Dis f13 [b35]∧Dis f13 f54∧Dis f13 f113∧Dis f16 f19∧Dis f16 f22∧Dis f16 [b35]∧Dis f16 f54∧Dis f16 f113∧Dis f19 f22∧Dis f19 [b35]∧Dis f19 f54∧Dis f19 f113∧Dis f22 [b35]∧Dis f22 f54∧Dis f22 f113∧Dis [b35] f54∧Dis [b35] f113∧Dis f54 f113∧∃ F,r=updL F [(0,.pointer (some (p_x0))),(2,.pointer (some (⟨b1,0,none⟩))),(3,.pointer (some (⟨b35,0,none⟩))),(5,u83),(6,v112),(21,z18),(22,.int .i64 ((x0.Classifier.Sieves.length:Int))),(23,.int .i64 (s0_23)),(35,u105),(36,.int .i64 ((e103.length:Int))),(37,.int .i64 (s1_37))]) (T:=impl_coverage_topology_T w) ho ⟨_,_,(hB.trans hC111),(kr hr4 hC111),(ko o14 hC111),(ko o17 hC111),(ko o20 hC111),(ko o23 hC111),(kr hr49 hC111),(ko o55 hC111),(ko o94 hC111),(d56),(d57),(d58),(d59),(d60),(d61),((d95).symm),(d62),(d63),(d64),(d65),(d66),((d96).symm),(d67),(d68),(d69),(d70),((d97).symm),(d71),(d72),(d73),((d98).symm),(d74),(d75),((d99).symm),(d76),((d100).symm),((d101).symm),fr ⟨rfl,rfl,rfl,rfl,rfl,rfl,rfl,rfl,rfl,rfl,rfl,trivial⟩⟩ ?_ ?_ ?_
 intro x r w' ho hx; subst ho; exact hx
 rintro ⟨s1_6,s1_37⟩ _ wd143 ⟨v112,f113,hB,hr4,o14,o17,o20,o23,hr49,o55,o114,d115,d116,d117,d118,d119,d120,d121,d122,d123,d124,d125,d126,d127,d128,d129,d130,d131,d132,d133,d134,d135,d136,d137,d138,d139,d140,d141,d142,F,rfl⟩ o ho
 replace ho:impl_coverage_topology_L1 e81 e103 s1_6 s1_37=some o:=ho
 unfold impl_coverage_topology_L1 at ho
 refine wq ?_
 refine Wq rfl (cr [] wd143) ?_
 refine qv (v:=.bool (decide (s1_37 < (e103.length:Int)))) rfl (fun _ _=>op_bin rfl rfl bin_lss) ?_
 intro wd144 hC145
 refine anz ?_
 refine wq ?_
 refine W_cond (b:=decide (s1_37 < (e103.length:Int))) rfl ?_ ?_
 intro hb146
 rw [hb146] at ho
 refine W_skip ?_
 refine anz ?_
 refine wq ?_
 refine W_block ?_
 refine wq ?_
 refine Wq rfl hC145 ?_
 refine qv (v:=.int .i64 (s1_37)) rfl (fun _ _=>om _) ?_
 obtain ⟨e147,hx148e,ho⟩:=bs ho
 have hx148:=idx_some hx148e
 refine qv (v:=.pointer (some (elA (u105) 1 (s1_37)))) rfl (fun _ hC=>op_indexI u82 info4 sz4 rfl (kp _ hr108 (hB.trans hC)) rfl hx148.1 hx148.2) ?_
 refine qv (v:=.bool (e147)) rfl (fun _ hC=>oldz Tryz.underlying4 rfl rfl (bool_get (kp _ hr108 (hB.trans hC)) hx148.1 hx148.2)) ?_
 refine qv (v:=.int .i64 (s1_37)) rfl (fun _ _=>oa _) ?_
 refine qv (v:=.bool (e147)) rfl (fun _ _=>oa _) ?_
 intro wd149 hC150
 refine anz ?_
 refine wq ?_
 refine Wq rfl hC150 ?_
 refine qv (v:=.bool (e147)) rfl (fun _ _=>om _) ?_
 intro wd151 hC152
 refine anz ?_
 refine W_cond (b:=e147) rfl ?_ ?_
 intro hb153
 rw [hb153] at ho
 refine W_region rfl ?_
 refine wv (v:=v112) rfl (om _) ?_
 refine wv (v:=u83) rfl (om _) ?_
 refine wv (v:=.int .i64 (s1_37)) rfl (om _) ?_
 obtain ⟨e154,hx155e,ho⟩:=bs ho
 have hx155:=idx_some hx155e
 refine wv (v:=.pointer (some (elA (u83) 1 (s1_37)))) rfl (op_indexI u110 info87 sz87 rfl (kp _ hr86 (hB.trans hC152)) rfl hx155.1 hx155.2) ?_
 obtain ⟨u156,fu157,hu158,hr159,hs160⟩:=one_get rfl hr86 hx155.1 hx155.2
 refine wv (v:=u156) rfl (oldz u87 rfl rfl ((hB.trans hC152).cell0 hu158)) ?_
 obtain ⟨y161,hy162,ho⟩:=bs ho
 refine WL.call rfl (op_callF Tryz.func147 rfl rfl) (impl_clone_calls (kp _ hr159 (hB.trans hC152)) hy162) ?_
 rintro _ wd163 ⟨v165,f166,rfl,hC164,o167⟩
 refine ⟨_,rfl,?_⟩
 have d168:Dis f166 [b1]:=dl (ofr o167) (one_lt (Row.lt (kr hr4 hC152)))
 have d169:Dis f166 f13:=dl (ofr o167) (sl _ (kp _ o14.1 hC152))
 have d170:Dis f166 f16:=dl (ofr o167) (sl _ (kp _ o17.1 hC152))
 have d171:Dis f166 f19:=dl (ofr o167) (sl _ (kp _ o20.1 hC152))
 have d172:Dis f166 f22:=dl (ofr o167) (sl _ (kp _ o23.1 hC152))
 have d173:Dis f166 [b35]:=dl (ofr o167) (one_lt (Row.lt (kr hr49 hC152)))
 have d174:Dis f166 f54:=dl (ofr o167) (sl _ (kp _ o55.1 hC152))
 have d175:Dis f166 f113:=dl (ofr o167) (sl _ (kp _ o114.1 hC152))
 replace o167:=OE.low (G:=[]) o167 (hB.trans hC152).size
 have hT176:=hC152.trans hC164
 replace hr4:=kr hr4 hT176
 replace o14:=ko o14 hT176
 replace o17:=ko o17 hT176
 replace o20:=ko o20 hT176
 replace o23:=ko o23 hT176
 replace hr49:=kr hr49 hT176
 replace o55:=ko o55 hT176
 replace o114:=ko o114 hT176
 replace hB:=(hB.trans hT176)
 refine WL.lit1 u23z info22 zr22 sz22 (STy.one _ o167.1 _ (ms rfl)) fun b177 wd178 hC179 hr180 hl181=>?_
 replace hr180:Row wd178 b177 [v165] 22:=hr180
 have d190:Dis [b177] f113:=dl (onw hl181) (sl _ (kp _ o114.1 (cr [] wd163)))
 have hT192:=(cr [] wd163).trans hC179
 replace hr4:=kr hr4 hT192
 replace o14:=ko o14 hT192
 replace o17:=ko o17 hT192
 replace o20:=ko o20 hT192
 replace o23:=ko o23 hT192
 replace hr49:=kr hr49 hT192
 replace o55:=ko o55 hT192
 replace o114:=ko o114 hT192
 replace o167:=ko o167 hT192
 replace hB:=(hB.trans hT192)
 obtain ⟨n199,hn200,ho⟩:=bs ho
 have hn200a:=fits_some hn200
 refine WL.append1 (E:=(sOwn 2 (sInt .i64))) _ _ u23z info22 zr22 sz22 rfl rfl rfl (ko o114 (cr [] wd178)) rfl (kr hr180 (cr [] wd178)) (kp _ o167.1 (cr [] wd178)) o167.2.1 o167.2.2 d175 (by rw [by22]; exact hn200a.1) hn200a.2 (hB.trans (cr [] wd178)).size fun v193 wd194 f195 hC196 o197 hs198=>?_
 have d201:Dis f195 [b1]:=dis_upd hs198 (d121).symm d168 (one_lt (Row.lt (kr hr4 (cr [] wd178))))
 have d202:Dis f195 f13:=dis_upd hs198 (d127).symm d169 (sl _ (kp _ o14.1 (cr [] wd178)))
 have d203:Dis f195 f16:=dis_upd hs198 (d132).symm d170 (sl _ (kp _ o17.1 (cr [] wd178)))
 have d204:Dis f195 f19:=dis_upd hs198 (d136).symm d171 (sl _ (kp _ o20.1 (cr [] wd178)))
 have d205:Dis f195 f22:=dis_upd hs198 (d139).symm d172 (sl _ (kp _ o23.1 (cr [] wd178)))
 have d206:Dis f195 [b35]:=dis_upd hs198 (d141).symm d173 (one_lt (Row.lt (kr hr49 (cr [] wd178))))
 have d207:Dis f195 f54:=dis_upd hs198 (d142).symm d174 (sl _ (kp _ o55.1 (cr [] wd178)))
 have hT210:=((cr [] wd178).nil (G:=f113)).trans hC196
 replace hr4:=Row.keep hr4 hT210 (d121 _ (ms rfl))
 replace o14:=okp o14 hT210 d127
 replace o17:=okp o17 hT210 d132
 replace o20:=okp o20 hT210 d136
 replace o23:=okp o23 hT210 d139
 replace hr49:=Row.keep hr49 hT210 (d141 _ (ms rfl))
 replace o55:=okp o55 hT210 d142
 replace hr180:=Row.keep hr180 hT210 (d190 _ (ms rfl))
 replace hB:=hB.then hT210 o114.2.2
 refine wv (v:=v193) rfl (oa _) ?_
 refine inBlk_n ?_
 refine anz ?_
 refine Wq rfl (cr [] wd194) ?_
 refine qv (v:=.int .i64 (w64 (s1_37 + (1:Int)))) rfl (fun _ _=>op_bin rfl rfl bin_add) ?_
 refine qv (v:=.int .i64 (w64 (s1_37 + (1:Int)))) rfl (fun _ _=>om _) ?_
 intro wd211 hC212
 cases ho
 exact ⟨_,_,(hB.trans hC212),(kr hr4 hC212),(ko o14 hC212),(ko o17 hC212),(ko o20 hC212),(ko o23 hC212),(kr hr49 hC212),(ko o55 hC212),(ko o197 hC212),(d115),(d116),(d117),(d118),(d119),(d120),((d201).symm),(d122),(d123),(d124),(d125),(d126),((d202).symm),(d128),(d129),(d130),(d131),((d203).symm),(d133),(d134),(d135),((d204).symm),(d137),(d138),((d205).symm),(d140),((d206).symm),((d207).symm),fr ⟨rfl,rfl,rfl,rfl,rfl,rfl,rfl,rfl,rfl,rfl,rfl,trivial⟩⟩
 intro hb153
 rw [hb153] at ho
 refine W_skip ?_
 refine inBlk_n ?_
 refine anz ?_
 refine Wq rfl hC152 ?_
 refine qv (v:=.int .i64 (w64 (s1_37 + (1:Int)))) rfl (fun _ _=>op_bin rfl rfl bin_add) ?_
 refine qv (v:=.int .i64 (w64 (s1_37 + (1:Int)))) rfl (fun _ _=>om _) ?_
 intro wd213 hC214
 cases ho
 exact ⟨_,_,(hB.trans hC214),(kr hr4 hC214),(ko o14 hC214),(ko o17 hC214),(ko o20 hC214),(ko o23 hC214),(kr hr49 hC214),(ko o55 hC214),(ko o114 hC214),(d115),(d116),(d117),(d118),(d119),(d120),(d121),(d122),(d123),(d124),(d125),(d126),(d127),(d128),(d129),(d130),(d131),(d132),(d133),(d134),(d135),(d136),(d137),(d138),(d139),(d140),(d141),(d142),fr ⟨rfl,rfl,rfl,rfl,rfl,rfl,rfl,rfl,rfl,rfl,rfl,trivial⟩⟩
 intro hb146
 rw [hb146] at ho
 refine W_exit ?_
 refine andThen_x ?_
 cases ho
 exact ⟨rfl,⟨_,_,(hB.trans hC145),(kr hr4 hC145),(ko o14 hC145),(ko o17 hC145),(ko o20 hC145),(ko o23 hC145),(kr hr49 hC145),(ko o55 hC145),(ko o114 hC145),(d115),(d116),(d117),(d118),(d119),(d120),(d121),(d122),(d123),(d124),(d125),(d126),(d127),(d128),(d129),(d130),(d131),(d132),(d133),(d134),(d135),(d136),(d137),(d138),(d139),(d140),(d141),(d142),fr ⟨rfl,rfl,rfl,rfl,rfl,rfl,rfl,rfl,rfl,rfl,rfl,trivial⟩⟩⟩
 rintro ⟨s1_6,s1_37⟩ _ wd215 ⟨v112,f113,hB,hr4,o14,o17,o20,o23,hr49,o55,o114,d115,d116,d117,d118,d119,d120,d121,d122,d123,d124,d125,d126,d127,d128,d129,d130,d131,d132,d133,d134,d135,d136,d137,d138,d139,d140,d141,d142,F,rfl⟩ ho
 dsimp only at ho
 refine anz ?_
 refine W_region rfl ?_
 refine wv (v:=.pointer (some (⟨b35,5,none⟩))) rfl (op_fieldAddrR u30 rfl info28 ne28 rfl rfl) ?_
 refine wv (v:=v53) rfl (oldz u28 rfl rfl ((kr hr49 (cr [] wd215)).at.cell (j:=5) rfl)) ?_
 refine wv (v:=v112) rfl (om _) ?_
 refine WL.lit1 u28 info23 zr23 sz23 (STy.one _ o114.1 _ (ms rfl)) fun b216 wd217 hC218 hr219 hl220=>?_
 replace hr219:Row wd217 b216 [v112] 23:=hr219
 have d227:Dis [b216] [b35]:=dl (onw hl220) (one_lt (Row.lt (kr hr49 (cr [] wd215))))
 have d228:Dis [b216] f54:=dl (onw hl220) (sl _ (kp _ o55.1 (cr [] wd215)))
 have hT230:=(cr [] wd215).trans hC218
 replace hr4:=kr hr4 hT230
 replace o14:=ko o14 hT230
 replace o17:=ko o17 hT230
 replace o20:=ko o20 hT230
 replace o23:=ko o23 hT230
 replace hr49:=kr hr49 hT230
 replace o55:=ko o55 hT230
 replace o114:=ko o114 hT230
 replace hB:=(hB.trans hT230)
 obtain ⟨n237,hn238,ho⟩:=bs ho
 have hn238a:=fits_some hn238
 refine WL.append1 (E:=(sOwn 22 (sOwn 2 (sInt .i64)))) _ _ u28 info23 zr23 sz23 rfl rfl rfl (ko o55 (cr [] wd217)) rfl (kr hr219 (cr [] wd217)) (kp _ o114.1 (cr [] wd217)) o114.2.1 o114.2.2 (d142).symm (by rw [by23]; exact hn238a.1) hn238a.2 (hB.trans (cr [] wd217)).size fun v231 wd232 f233 hC234 o235 hs236=>?_
 have d239:Dis f233 [b1]:=dis_upd hs236 (d120).symm (d121).symm (one_lt (Row.lt (kr hr4 (cr [] wd217))))
 have d240:Dis f233 f13:=dis_upd hs236 (d126).symm (d127).symm (sl _ (kp _ o14.1 (cr [] wd217)))
 have d241:Dis f233 f16:=dis_upd hs236 (d131).symm (d132).symm (sl _ (kp _ o17.1 (cr [] wd217)))
 have d242:Dis f233 f19:=dis_upd hs236 (d135).symm (d136).symm (sl _ (kp _ o20.1 (cr [] wd217)))
 have d243:Dis f233 f22:=dis_upd hs236 (d138).symm (d139).symm (sl _ (kp _ o23.1 (cr [] wd217)))
 have d244:Dis f233 [b35]:=dis_upd hs236 (d140).symm (d141).symm (one_lt (Row.lt (kr hr49 (cr [] wd217))))
 have hT247:=((cr [] wd217).nil (G:=f54)).trans hC234
 replace hr4:=Row.keep hr4 hT247 (d120 _ (ms rfl))
 replace o14:=okp o14 hT247 d126
 replace o17:=okp o17 hT247 d131
 replace o20:=okp o20 hT247 d135
 replace o23:=okp o23 hT247 d138
 replace hr49:=Row.keep hr49 hT247 (d140 _ (ms rfl))
 replace hr219:=Row.keep hr219 hT247 (d228 _ (ms rfl))
 replace hB:=hB.then hT247 o55.2.2
 refine wv (v:=.pointer (some (⟨b35,5,none⟩))) rfl (op_fieldAddrR u30 rfl info28 ne28 rfl rfl) ?_
 refine WL.storeRow (j:=5) info28 sz28 (kr hr49 (cr [] wd232)) (Nat.le_of_ble_eq_true rfl) rfl rfl (STy.one _ o235.1 _ (ms rfl)) fun wd248 hC249 hr250=>?_
 replace hr250:Row wd248 b35 [.int .i64 (y8.Objects),v12,v15,v18,v21,v231] 30:=hr250
 have hT251:=((cr [] wd232).nil (G:=[b35])).trans hC249
 replace hr4:=Row.keep hr4 hT251 (d119 _ (ms rfl))
 replace o14:=okp o14 hT251 d125
 replace o17:=okp o17 hT251 d130
 replace o20:=okp o20 hT251 d134
 replace o23:=okp o23 hT251 d137
 replace hr219:=Row.keep hr219 hT251 (d227 _ (ms rfl))
 replace o235:=okp o235 hT251 d244
 replace hB:=hB.then hT251 (one_then lo40)
 refine inBlk_n ?_
 refine anz ?_
 refine Wq rfl (cr [] wd248) ?_
 refine qv (v:=.int .i64 (w64 (s0_23 + (1:Int)))) rfl (fun _ _=>op_bin rfl rfl bin_add) ?_
 refine qv (v:=.int .i64 (w64 (s0_23 + (1:Int)))) rfl (fun _ _=>om _) ?_
 intro wd252 hC253
 cases ho
 exact ⟨_,_,(hB.trans hC253),(kr hr4 hC253),(ko o14 hC253),(ko o17 hC253),(ko o20 hC253),(ko o23 hC253),(kr hr250 hC253),(ko o235 hC253),(d115),(d116),(d117),(d118),(d119),((d239).symm),(d122),(d123),(d124),(d125),((d240).symm),(d128),(d129),(d130),((d241).symm),(d133),(d134),((d242).symm),(d137),((d243).symm),((d244).symm),fr ⟨rfl,rfl,rfl,rfl,rfl,rfl,trivial⟩⟩
 intro hb80
 rw [hb80] at ho
 refine W_exit ?_
 refine andThen_x ?_
 cases ho
 exact ⟨rfl,⟨_,_,(hB.trans hC79),(kr hr4 hC79),(ko o14 hC79),(ko o17 hC79),(ko o20 hC79),(ko o23 hC79),(kr hr49 hC79),(ko o55 hC79),(d56),(d57),(d58),(d59),(d60),(d61),(d62),(d63),(d64),(d65),(d66),(d67),(d68),(d69),(d70),(d71),(d72),(d73),(d74),(d75),(d76),fr ⟨rfl,rfl,rfl,rfl,rfl,rfl,trivial⟩⟩⟩
 rintro ⟨s0_23,s0_b35_5⟩ _ wd254 ⟨v53,f54,hB,hr4,o14,o17,o20,o23,hr49,o55,d56,d57,d58,d59,d60,d61,d62,d63,d64,d65,d66,d67,d68,d69,d70,d71,d72,d73,d74,d75,d76,F,rfl⟩ ho
 dsimp only at ho
 refine anz ?_
 refine wq ?_
 refine W_region rfl ?_
 refine wv (v:=.agg #[.int .i64 (y8.Objects),v12,v15,v18,v21,v53]) rfl (op_loadAgg u30 rfl info30 (by rw [sz30]; rfl) rfl (kr hr49 (cr [] wd254)).at) ?_
 refine WL.storeAll (us:=[.int .i64 (y8.Objects),v12,v15,v18,v21,v53]) info30 (by rw [sz30]; rfl) (kr hr4 (cr [] wd254)) rfl rfl rfl (by intro u hu; simp only [List.mem_cons,List.mem_nil_iff,or_false] at hu; rcases hu with rfl | rfl | rfl | rfl | rfl | rfl <;> first | exact rfl | exact (STy.one _ o14.1 _ (ms rfl)) | exact (STy.one _ o17.1 _ (ms rfl)) | exact (STy.one _ o20.1 _ (ms rfl)) | exact (STy.one _ o23.1 _ (ms rfl)) | exact (STy.one _ o55.1 _ (ms rfl))) fun wd255 hC256 hr257=>?_
 replace hr257:Row wd255 b1 [.int .i64 (y8.Objects),v12,v15,v18,v21,v53] 30:=hr257
 have hT258:=((cr [] wd254).nil (G:=[b1])).trans hC256
 replace o14:=okp o14 hT258 (d56).symm
 replace o17:=okp o17 hT258 (d57).symm
 replace o20:=okp o20 hT258 (d58).symm
 replace o23:=okp o23 hT258 (d59).symm
 replace hr49:=Row.keep hr49 hT258 ((d60).symm _ (ms rfl))
 replace o55:=okp o55 hT258 (d61).symm
 replace hB:=hB.then hT258 (one_then lo6)
 refine anz ?_
 cases ho
 exact W_ret ⟨_,res_c Tryz.results100 u30 rfl info30 (by rw [sz30]; rfl) rfl (kr hr257 (cr [] wd255)).at,_,_,_,_,_,_,_,_,_,_,rfl,(hB.trans (cr [] wd255)),(ko o14 (cr [] wd255)),(ko o17 (cr [] wd255)),(ko o20 (cr [] wd255)),(ko o23 (cr [] wd255)),(ko o55 (cr [] wd255)),(d62),(d63),(d64),(d66),(d67),(d68),(d70),(d71),(d73),(d75)⟩

noncomputable def impl_chosenTopology_L1 (x0:MCategory) (x1:(Int→(List Int)→Option (Bool))) (m24:MCoverage) (s0_31:Int) (e216:(List (List Int))) (s1_38:Int) (s1_b62_0:Int) (s1_o61:(List (List Bool))):Option (Out (Int×Int×(List (List Bool))) (MTopology×Int)):=
 (bif decide (s1_38 < (e216.length:Int)) then ((idx e216 (s1_38))>>=fun e300=>((x1 (s0_31) e300)>>=fun y307=>(bif y307 then ((impl_coverage_mark (MCoverage.mk m24.Classifier x0 s1_o61 s1_b62_0) (s0_31) (s1_38))>>=fun y313=>(some (Out.norm (w64 (s1_38 + (1:Int)),y313.2,y313.1)))) else (some (Out.norm (w64 (s1_38 + (1:Int)),s1_b62_0,s1_o61)))))) else (some (Out.exit 2 (s1_38,s1_b62_0,s1_o61))))
noncomputable def impl_chosenTopology_L0 (x0:MCategory) (x1:(Int→(List Int)→Option (Bool))) (m24:MCoverage) (s0_31:Int) (s0_b62_0:Int) (s0_o61:(List (List Bool))):Option (Out (Int×Int×(List (List Bool))) (MTopology×Int)):=
 (bif decide (s0_31 < (m24.Classifier.Sieves.length:Int)) then ((idx m24.Classifier.Sieves (s0_31))>>=fun e216=>(lbind (blockM 2 (loopM (fun s=>impl_chosenTopology_L1 x0 x1 m24 s0_31 e216 s.1 s.2.1 s.2.2) ((0:Int),s0_b62_0,s0_o61))) (fun (s1_38,s1_b62_0,s1_o61)=>(some (Out.norm (w64 (s0_31 + (1:Int)),s1_b62_0,s1_o61)))))) else (some (Out.exit 0 (s0_31,s0_b62_0,s0_o61))))
noncomputable def impl_chosenTopology (x0:MCategory) (x1:(Int→(List Int)→Option (Bool))):Option (MTopology×Int):=
 retM (S:=Unit) ((impl_Category_isCategory x0)>>=fun y8=>(bif !(y8) then (some (Out.ret (((MTopology.mk (MCategory.mk ((0:Int)) ([]) ([]) ([]) ([])) ([])),((1:Int)))))) else ((impl_coverageOf x0)>>=fun y17=>(match y17.1 with | none=>(bif !(y17.2) then (some (Out.ret (((MTopology.mk (MCategory.mk ((0:Int)) ([]) ([]) ([]) ([])) ([])),((3:Int)))))) else none) | some m24=>(bif !(y17.2) then (some (Out.ret (((MTopology.mk (MCategory.mk ((0:Int)) ([]) ([]) ([]) ([])) ([])),((3:Int)))))) else (lbind (blockM 0 (loopM (fun s=>impl_chosenTopology_L0 x0 x1 m24 s.1 s.2.1 s.2.2) ((0:Int),m24.Count,m24.Covers))) (fun (s0_31,s0_b62_0,s0_o61)=>((impl_coverage_topology (MCoverage.mk m24.Classifier x0 s0_o61 s0_b62_0))>>=fun y340=>(some (Out.ret ((y340,((0:Int))))))))))))))
abbrev impl_chosenTopology_post (w:World) (x:(MTopology×Int)) (e:Ending) (w':World):Prop:=∃ (v0:Value) (f0:List Nat) (v1:Value) (f1:List Nat) (v2:Value) (f2:List Nat) (v3:Value) (f3:List Nat) (v4:Value) (f4:List Nat),e = .returned (.tuple #[.agg #[.int .i64 x.1.Shape.Objects,v0,v1,v2,v3,v4],.int .i64 x.2])∧Chg [] w w'∧OE [] w.heap.size w' (sOwn 2 (sInt .i64)) [v0] x.1.Shape.From f0∧OE [] w.heap.size w' (sOwn 2 (sInt .i64)) [v1] x.1.Shape.To f1∧OE [] w.heap.size w' (sOwn 2 (sInt .i64)) [v2] x.1.Shape.Identity f2∧OE [] w.heap.size w' (sOwn 22 (sOwn 2 (sInt .i64))) [v3] x.1.Shape.Composites f3∧OE [] w.heap.size w' (sOwn 23 (sOwn 22 (sOwn 2 (sInt .i64)))) [v4] x.1.Covers f4∧Dis f0 f1∧Dis f0 f2∧Dis f0 f3∧Dis f0 f4∧Dis f1 f2∧Dis f1 f3∧Dis f1 f4∧Dis f2 f3∧Dis f2 f4∧Dis f3 f4
abbrev impl_chosenTopology_T (w:World) (x:(MTopology×Int)) (r:Nat→Value) (w':World):Prop:=∃ v,(∀ a:Act,a.tmps.size=56→rho a=r→(results Tryz.f65 a.tmps).run Tryz.prog w' = .ok v w')∧impl_chosenTopology_post w x (.returned v) w'
theorem impl_chosenTopology_calls {w:World} {x0:MCategory} {p_x0:Addr} {z6:Value} {zh:List Nat} {z7:Value} {zg:List Nat} {z9:Value} {zf:List Nat} {z8:Value} {ze:List Nat} {g_x1:FuncId} {c_x1:List Value} {x1:(Int→(List Int)→Option (Bool))} (za:(sImm (sInt .i64)).rep w.heap [z6] x0.From zh) (zb:(sImm (sInt .i64)).rep w.heap [z7] x0.To zg) (zd:(sImm (sInt .i64)).rep w.heap [z9] x0.Identity zf) (zc:(sImm (sImm (sInt .i64))).rep w.heap [z8] x0.Composites ze) (a_x0:At w p_x0 [.int .i64 (x0.Objects),z6,z7,z9,z8]) (h_x1:FnOk Tryz.prog g_x1∧∀ {W:World} (hW:Chg [] w W) {a0:Int} {a1:(List Int)} {v1:Value} {f1:List Nat} (h1:(sImm (sInt .i64)).rep W.heap [v1] a1 f1) {y:Bool} (hm:x1 a0 a1=some y),Calls Tryz.prog g_x1 ([.int .i64 a0,v1]++c_x1).toArray W (fun e W'=>e = .returned (.bool y)∧Chg [] W W')) {y:(MTopology×Int)} (hm:impl_chosenTopology x0 x1=some y) :
  Calls Tryz.prog 65 #[.pointer (some (p_x0)),.func (.func g_x1) #[] c_x1.toArray] w (impl_chosenTopology_post w y):=by
 refine calls_of_M (S:=Unit) (args:=[.pointer (some (p_x0)),.func (.func g_x1) #[] c_x1.toArray]) Tryz.func65 rfl Tryz.ntmps65 (Nat.le_of_ble_eq_true rfl) (retM_some hm) ?_
 clear hm
 intro o ho
 have hB:Chg [] w w:=cr _ _
 refine wq ?_
 refine W_region rfl ?_
 refine WL.alloc info30 zr30 fun b1 wd2 hC3 hr4 hl5=>?_
 replace hr4:Row wd2 b1 [.int .i64 ((0:Int)),.slice none 0 0,.slice none 0 0,.slice none 0 0,.slice none 0 0,.slice none 0 0] 30:=hr4
 have lo6:w.heap.size≤b1:=Nat.le_trans (hB.trans (cr [] w)).size hl5
 have hT7:=(cr [] w).trans hC3
 replace hB:=(hB.trans hT7)
 refine wv (v:=.int .i64 ((0:Int))) rfl (oa _) ?_
 refine anz ?_
 refine wq ?_
 refine wq ?_
 refine Wq rfl (cr [] wd2) ?_
 refine qv (v:=.pointer (some (p_x0))) rfl (fun _ _=>om _) ?_
 obtain ⟨y8,hy9,ho⟩:=bs ho
 refine QL.call (v:=.bool (y8)) rfl (fun _ _=>op_callF Tryz.func118 rfl rfl) (fun _ hC=>(impl_Category_isCategory_calls (kp _ za (hB.trans hC)) (kp _ zb (hB.trans hC)) (kp _ zd (hB.trans hC)) (kp _ zc (hB.trans hC)) (At.keep0 a_x0 (hB.trans hC)) hy9).mono fun _ _ h=>⟨h.1,hC.trans h.2⟩) ?_
 refine qv (v:=.bool (!(y8))) rfl (fun _ _=>op_not rfl) ?_
 intro wd10 hC11
 refine anz ?_
 refine W_cond (b:=!(y8)) rfl ?_ ?_
 intro hb12
 rw [hb12] at ho
 refine wq ?_
 refine W_region rfl ?_
 refine wv (v:=.agg #[.int .i64 ((0:Int)),.slice none 0 0,.slice none 0 0,.slice none 0 0,.slice none 0 0,.slice none 0 0]) rfl (op_build (bld30_)) ?_
 refine WL.storeAll (us:=[.int .i64 ((0:Int)),.slice none 0 0,.slice none 0 0,.slice none 0 0,.slice none 0 0,.slice none 0 0]) info30 (by rw [sz30]; rfl) (kr hr4 hC11) rfl rfl rfl (by intro u hu; simp only [List.mem_cons,List.mem_nil_iff,or_false] at hu; rcases hu with rfl | rfl | rfl | rfl | rfl | rfl <;> first | exact rfl) fun wd13 hC14 hr15=>?_
 replace hr15:Row wd13 b1 [.int .i64 ((0:Int)),.slice none 0 0,.slice none 0 0,.slice none 0 0,.slice none 0 0,.slice none 0 0] 30:=hr15
 have hT16:=(hC11.nil (G:=[b1])).trans hC14
 replace hB:=hB.then hT16 (one_then lo6)
 refine wv (v:=.int .i64 ((1:Int))) rfl (oa _) ?_
 refine anz ?_
 cases ho
 exact W_ret ⟨_,res_c1 Tryz.results65 u30 rfl info30 (by rw [sz30]; rfl) rfl (kr hr15 (cr [] wd13)).at,_,_,_,_,_,_,_,_,_,_,rfl,(hB.trans (cr [] wd13)),nil_OE,nil_OE,nil_OE,nil_OE,nil_OE,(fun _ h=>nomatch h),(fun _ h=>nomatch h),(fun _ h=>nomatch h),(fun _ h=>nomatch h),(fun _ h=>nomatch h),(fun _ h=>nomatch h),(fun _ h=>nomatch h),(fun _ h=>nomatch h),(fun _ h=>nomatch h),(fun _ h=>nomatch h)⟩
 intro hb12
 rw [hb12] at ho
 refine W_skip ?_
 refine anz ?_
 refine wq ?_
 refine W_region rfl ?_
 refine wv (v:=.pointer (some (p_x0))) rfl (om _) ?_
 obtain ⟨y17,hy18,ho⟩:=bs ho
 refine WL.call rfl (op_callF Tryz.func120 rfl rfl) (impl_coverageOf_calls (kp _ za (hB.trans hC11)) (kp _ zb (hB.trans hC11)) (kp _ zd (hB.trans hC11)) (kp _ zc (hB.trans hC11)) (At.keep0 a_x0 (hB.trans hC11)) hy18) ?_
 rintro _ wd19 ⟨v22,rfl,hC20,hp21⟩
 refine ⟨_,rfl,?_⟩
 rcases hq23:y17.1 with _ | m24
 rw [hq23] at hp21 ho
 try dsimp only at hp21
 try dsimp only at ho
 obtain rfl:=hp21
 have hT25:=hC11.trans hC20
 replace hr4:=kr hr4 hT25
 replace hB:=(hB.trans hT25)
 refine wv (v:=.tuple #[.pointer none,.bool (y17.2)]) rfl (om _) ?_
 refine wv (v:=.pointer none) rfl (op_extract rfl rfl) ?_
 refine wv (v:=.bool (y17.2)) rfl (op_extract rfl rfl) ?_
 refine wv (v:=.pointer none) rfl (oa _) ?_
 refine wv (v:=.bool (y17.2)) rfl (oa _) ?_
 refine anz ?_
 refine wq ?_
 refine wq ?_
 refine Wq rfl (cr [] wd19) ?_
 refine qv (v:=.bool (y17.2)) rfl (fun _ _=>om _) ?_
 refine qv (v:=.bool (!(y17.2))) rfl (fun _ _=>op_not rfl) ?_
 intro wd26 hC27
 refine anz ?_
 refine W_cond (b:=!(y17.2)) rfl ?_ ?_
 intro hb28
 rw [hb28] at ho
 refine wq ?_
 refine W_region rfl ?_
 refine wv (v:=.agg #[.int .i64 ((0:Int)),.slice none 0 0,.slice none 0 0,.slice none 0 0,.slice none 0 0,.slice none 0 0]) rfl (op_build (bld30_)) ?_
 refine WL.storeAll (us:=[.int .i64 ((0:Int)),.slice none 0 0,.slice none 0 0,.slice none 0 0,.slice none 0 0,.slice none 0 0]) info30 (by rw [sz30]; rfl) (kr hr4 hC27) rfl rfl rfl (by intro u hu; simp only [List.mem_cons,List.mem_nil_iff,or_false] at hu; rcases hu with rfl | rfl | rfl | rfl | rfl | rfl <;> first | exact rfl) fun wd29 hC30 hr31=>?_
 replace hr31:Row wd29 b1 [.int .i64 ((0:Int)),.slice none 0 0,.slice none 0 0,.slice none 0 0,.slice none 0 0,.slice none 0 0] 30:=hr31
 have hT32:=(hC27.nil (G:=[b1])).trans hC30
 replace hB:=hB.then hT32 (one_then lo6)
 refine wv (v:=.int .i64 ((3:Int))) rfl (oa _) ?_
 refine anz ?_
 cases ho
 exact W_ret ⟨_,res_c1 Tryz.results65 u30 rfl info30 (by rw [sz30]; rfl) rfl (kr hr31 (cr [] wd29)).at,_,_,_,_,_,_,_,_,_,_,rfl,(hB.trans (cr [] wd29)),nil_OE,nil_OE,nil_OE,nil_OE,nil_OE,(fun _ h=>nomatch h),(fun _ h=>nomatch h),(fun _ h=>nomatch h),(fun _ h=>nomatch h),(fun _ h=>nomatch h),(fun _ h=>nomatch h),(fun _ h=>nomatch h),(fun _ h=>nomatch h),(fun _ h=>nomatch h),(fun _ h=>nomatch h)⟩
 intro hb28
 rw [hb28] at ho
 refine W_skip ?_
 refine anz ?_
 refine wq ?_
 refine wq ?_
 refine Wq rfl hC27 ?_
 refine qv (v:=.pointer none) rfl (fun _ _=>om _) ?_
 cases ho
 rw [hq23] at hp21 ho
 try dsimp only at hp21
 try dsimp only at ho
 obtain ⟨b33,b35,v37,f38,v40,f41,v43,f44,v46,f47,v49,f50,v52,f53,v55,f56,v59,f60,b62,rfl,o39,o42,o45,o48,o51,o54,o57,hr36,lo58,o61,hr63,lo64,hr34,lo65,d66,d67,d68,d69,d70,d71,d72,d73,d74,d75,d76,d77,d78,d79,d80,d81,d82,d83,d84,d85,d86,d87,d88,d89,d90,d91,d92,d93,d94,d95,d96,d97,d98,d99,d100,d101,d102,d103,d104,d105,d106,d107,d108,d109,d110,d111,d112,d113,d114,d115,d116,d117,d118,d119,d120⟩:=hp21
 have d121:Dis f38 [b1]:=dl (ofr o39) (one_lt (Row.lt (kr hr4 hC11)))
 replace o39:=OE.low (G:=[]) o39 (hB.trans hC11).size
 have d122:Dis f41 [b1]:=dl (ofr o42) (one_lt (Row.lt (kr hr4 hC11)))
 replace o42:=OE.low (G:=[]) o42 (hB.trans hC11).size
 have d123:Dis f44 [b1]:=dl (ofr o45) (one_lt (Row.lt (kr hr4 hC11)))
 replace o45:=OE.low (G:=[]) o45 (hB.trans hC11).size
 have d124:Dis f47 [b1]:=dl (ofr o48) (one_lt (Row.lt (kr hr4 hC11)))
 replace o48:=OE.low (G:=[]) o48 (hB.trans hC11).size
 have d125:Dis f50 [b1]:=dl (ofr o51) (one_lt (Row.lt (kr hr4 hC11)))
 replace o51:=OE.low (G:=[]) o51 (hB.trans hC11).size
 have d126:Dis f53 [b1]:=dl (ofr o54) (one_lt (Row.lt (kr hr4 hC11)))
 replace o54:=OE.low (G:=[]) o54 (hB.trans hC11).size
 have d127:Dis f56 [b1]:=dl (ofr o57) (one_lt (Row.lt (kr hr4 hC11)))
 replace o57:=OE.low (G:=[]) o57 (hB.trans hC11).size
 have d128:Dis [b35] [b1]:=dl (onw lo58) (one_lt (Row.lt (kr hr4 hC11)))
 have d130:Dis f60 [b1]:=dl (ofr o61) (one_lt (Row.lt (kr hr4 hC11)))
 replace o61:=OE.low (G:=[]) o61 (hB.trans hC11).size
 have d131:Dis [b62] [b1]:=dl (onw lo64) (one_lt (Row.lt (kr hr4 hC11)))
 have lo132:w.heap.size≤b62:=Nat.le_trans (hB.trans hC11).size lo64
 have d133:Dis [b33] [b1]:=dl (onw lo65) (one_lt (Row.lt (kr hr4 hC11)))
 have hT135:=hC11.trans hC20
 replace hr4:=kr hr4 hT135
 replace hB:=(hB.trans hT135)
 refine wv (v:=.tuple #[.pointer (some (⟨b33,0,none⟩)),.bool (y17.2)]) rfl (om _) ?_
 refine wv (v:=.pointer (some (⟨b33,0,none⟩))) rfl (op_extract rfl rfl) ?_
 refine wv (v:=.bool (y17.2)) rfl (op_extract rfl rfl) ?_
 refine wv (v:=.pointer (some (⟨b33,0,none⟩))) rfl (oa _) ?_
 refine wv (v:=.bool (y17.2)) rfl (oa _) ?_
 refine anz ?_
 refine wq ?_
 refine wq ?_
 refine Wq rfl (cr [] wd19) ?_
 refine qv (v:=.bool (y17.2)) rfl (fun _ _=>om _) ?_
 refine qv (v:=.bool (!(y17.2))) rfl (fun _ _=>op_not rfl) ?_
 intro wd136 hC137
 refine anz ?_
 refine W_cond (b:=!(y17.2)) rfl ?_ ?_
 intro hb138
 rw [hb138] at ho
 refine wq ?_
 refine W_region rfl ?_
 refine wv (v:=.agg #[.int .i64 ((0:Int)),.slice none 0 0,.slice none 0 0,.slice none 0 0,.slice none 0 0,.slice none 0 0]) rfl (op_build (bld30_)) ?_
 refine WL.storeAll (us:=[.int .i64 ((0:Int)),.slice none 0 0,.slice none 0 0,.slice none 0 0,.slice none 0 0,.slice none 0 0]) info30 (by rw [sz30]; rfl) (kr hr4 hC137) rfl rfl rfl (by intro u hu; simp only [List.mem_cons,List.mem_nil_iff,or_false] at hu; rcases hu with rfl | rfl | rfl | rfl | rfl | rfl <;> first | exact rfl) fun wd139 hC140 hr141=>?_
 replace hr141:Row wd139 b1 [.int .i64 ((0:Int)),.slice none 0 0,.slice none 0 0,.slice none 0 0,.slice none 0 0,.slice none 0 0] 30:=hr141
 have hT142:=(hC137.nil (G:=[b1])).trans hC140
 replace o39:=okp o39 hT142 d121
 replace o42:=okp o42 hT142 d122
 replace o45:=okp o45 hT142 d123
 replace o48:=okp o48 hT142 d124
 replace o51:=okp o51 hT142 d125
 replace o54:=okp o54 hT142 d126
 replace o57:=okp o57 hT142 d127
 replace hr36:=Row.keep hr36 hT142 (d128 _ (ms rfl))
 replace o61:=okp o61 hT142 d130
 replace hr63:=Row.keep hr63 hT142 (d131 _ (ms rfl))
 replace hr34:=Row.keep hr34 hT142 (d133 _ (ms rfl))
 replace hB:=hB.then hT142 (one_then lo6)
 refine wv (v:=.int .i64 ((3:Int))) rfl (oa _) ?_
 refine anz ?_
 cases ho
 exact W_ret ⟨_,res_c1 Tryz.results65 u30 rfl info30 (by rw [sz30]; rfl) rfl (kr hr141 (cr [] wd139)).at,_,_,_,_,_,_,_,_,_,_,rfl,(hB.trans (cr [] wd139)),nil_OE,nil_OE,nil_OE,nil_OE,nil_OE,(fun _ h=>nomatch h),(fun _ h=>nomatch h),(fun _ h=>nomatch h),(fun _ h=>nomatch h),(fun _ h=>nomatch h),(fun _ h=>nomatch h),(fun _ h=>nomatch h),(fun _ h=>nomatch h),(fun _ h=>nomatch h),(fun _ h=>nomatch h)⟩
 intro hb138
 rw [hb138] at ho
 refine W_skip ?_
 refine anz ?_
 refine wq ?_
 refine wq ?_
 refine Wq rfl hC137 ?_
 refine qv (v:=.pointer (some (⟨b33,0,none⟩))) rfl (fun _ _=>om _) ?_
 refine qv (v:=.pointer (some (⟨b33,0,none⟩))) rfl (fun _ _=>op_nilCheck rfl) ?_
 refine qv (v:=.pointer (some (⟨b33,0,none⟩))) rfl (fun _ _=>op_fieldAddrR u124 rfl info121 ne121 rfl rfl) ?_
 refine qv (v:=.pointer (some (⟨b35,0,none⟩))) rfl (fun _ hC=>oldz Tryz.underlying121 rfl rfl ((kr hr34 hC).at.cell (j:=0) rfl)) ?_
 refine qv (v:=.pointer (some (⟨b35,0,none⟩))) rfl (fun _ _=>op_nilCheck rfl) ?_
 refine qv (v:=.pointer (some (⟨b35,7,none⟩))) rfl (fun _ _=>op_fieldAddrR u131 rfl info129 ne129 rfl rfl) ?_
 refine qv (v:=v55) rfl (fun _ hC=>oldz u129 rfl rfl ((kr hr36 hC).at.cell (j:=7) rfl)) ?_
 refine qv (v:=.int .i64 ((m24.Classifier.Sieves.length:Int))) rfl (fun _ hC=>op_lenI u129 ((Le.own (Le.own (Le.own (Le.refl _) 2) 87) 110).le (kp _ o57.1 hC))) ?_
 refine qv (v:=.int .i64 ((0:Int))) rfl (fun _ _=>om _) ?_
 intro wd143 hC144
 refine anz ?_
 refine W_for (S1:=Int×Int×(List (List Bool))) (fun s r w'=>match s with | (s0_31,s0_b62_0,s0_o61)=>∃ (f145:List Nat),Chg [] w w'∧Row w' b1 [.int .i64 ((0:Int)),.slice none 0 0,.slice none 0 0,.slice none 0 0,.slice none 0 0,.slice none 0 0] 30∧OE [] w.heap.size w' (sOwn 2 (sInt .i64)) [v37] (m24.Classifier.Sets.Shape.From) f38∧OE [] w.heap.size w' (sOwn 2 (sInt .i64)) [v40] (m24.Classifier.Sets.Shape.To) f41∧OE [] w.heap.size w' (sOwn 2 (sInt .i64)) [v43] (m24.Classifier.Sets.Shape.Identity) f44∧OE [] w.heap.size w' (sOwn 22 (sOwn 2 (sInt .i64))) [v46] (m24.Classifier.Sets.Shape.Composites) f47∧OE [] w.heap.size w' (sOwn 2 (sInt .i64)) [v49] (m24.Classifier.Sets.Sizes) f50∧OE [] w.heap.size w' (sOwn 22 (sOwn 2 (sInt .i64))) [v52] (m24.Classifier.Sets.Actions) f53∧OE [] w.heap.size w' (sOwn 110 (sOwn 87 (sOwn 2 (sInt .i64)))) [v55] (m24.Classifier.Sieves) f56∧Row w' b35 [.int .i64 (m24.Classifier.Sets.Shape.Objects),v37,v40,v43,v46,v49,v52,v55] 131∧OE [] w.heap.size w' (sOwn 82 (sOwn 4 sBool)) [v59] (s0_o61) f145∧Row w' b62 [.int .i64 (s0_b62_0)] 180∧Row w' b33 [.pointer (some (⟨b35,0,none⟩)),.pointer (some (p_x0)),v59,.pointer (some (⟨b62,0,none⟩))] 124∧Dis [b1] f38∧Dis [b1] f41∧Dis [b1] f44∧Dis [b1] f47∧Dis [b1] f50∧Dis [b1] f53∧Dis [b1] f56∧Dis [b1] [b35]∧Dis [b1] f145∧Dis [b1] [b62]∧Dis [b1] [b33]∧Dis f38 f41∧Dis f38 f44∧Dis f38 f47∧Dis f38 f50∧Dis f38 f53∧Dis f38 f56∧Dis f38 [b35]∧Dis f38 f145∧Dis f38 [b62]∧Dis f38 [b33]∧Dis f41 f44∧Dis f41 f47∧Dis f41 f50∧Dis f41 f53∧Dis f41 f56∧Dis f41 [b35]∧Dis f41 f145∧Dis f41 [b62]∧Dis f41 [b33]∧Dis f44 f47∧Dis f44 f50∧Dis f44 f53∧Dis f44 f56∧Dis f44 [b35]∧Dis f44 f145∧Dis f44 [b62]∧Dis f44 [b33]∧Dis f47 f50∧Dis f47 f53∧Dis f47 f56∧Dis f47 [b35]∧Dis f47 f145∧Dis f47 [b62]∧Dis f47 [b33]∧Dis f50 f53∧Dis f50 f56∧Dis f50 [b35]∧Dis f50 f145∧Dis f50 [b62]∧Dis f50 [b33]∧Dis f53 f56∧Dis f53 [b35]∧Dis f53 f145∧Dis f53 [b62]∧Dis f53 [b33]∧Dis f56 [b35]∧Dis f56 f145∧Dis f56 [b62]∧Dis f56 [b33]∧Dis [b35] f145∧Dis [b35] [b62]∧Dis [b35] [b33]∧Dis f145 [b62]∧Dis f145 [b33]∧Dis [b62] [b33]∧∃ F,r=updL F [(1,.func (.func g_x1) #[] c_x1.toArray),(4,.pointer (some (⟨b1,0,none⟩))),(6,.pointer (some (⟨b33,0,none⟩))),(29,v55),(30,.int .i64 ((m24.Classifier.Sieves.length:Int))),(31,.int .i64 (s0_31))]) (T:=impl_chosenTopology_T w) ho ⟨_,(hB.trans hC144),(kr hr4 hC144),(ko o39 hC144),(ko o42 hC144),(ko o45 hC144),(ko o48 hC144),(ko o51 hC144),(ko o54 hC144),(ko o57 hC144),(kr hr36 hC144),(ko o61 hC144),(kr hr63 hC144),(kr hr34 hC144),((d121).symm),((d122).symm),((d123).symm),((d124).symm),((d125).symm),((d126).symm),((d127).symm),((d128).symm),((d130).symm),((d131).symm),((d133).symm),(d66),(d67),(d68),(d69),(d70),(d71),(d72),(d73),(d74),(d75),(d76),(d77),(d78),(d79),(d80),(d81),(d82),(d83),(d84),(d85),(d86),(d87),(d88),(d89),(d90),(d91),(d92),(d93),(d94),(d95),(d96),(d97),(d98),(d99),(d100),(d101),(d102),(d103),(d104),(d105),(d106),(d107),(d108),(d109),(d110),(d111),(d112),(d113),(d114),(d115),(d116),(d117),(d118),(d119),(d120),fr ⟨rfl,rfl,rfl,rfl,rfl,rfl,trivial⟩⟩ ?_ ?_ ?_
 intro x r w' ho hx; subst ho; exact hx
 rintro ⟨s0_31,s0_b62_0,s0_o61⟩ _ wd212 ⟨f145,hB,hr4,o39,o42,o45,o48,o51,o54,o57,hr36,o61,hr63,hr34,d146,d147,d148,d149,d150,d151,d152,d153,d154,d155,d156,d157,d158,d159,d160,d161,d162,d163,d164,d165,d166,d167,d168,d169,d170,d171,d172,d173,d174,d175,d176,d177,d178,d179,d180,d181,d182,d183,d184,d185,d186,d187,d188,d189,d190,d191,d192,d193,d194,d195,d196,d197,d198,d199,d200,d201,d202,d203,d204,d205,d206,d207,d208,d209,d210,d211,F,rfl⟩ o ho
 replace ho:impl_chosenTopology_L0 x0 x1 m24 s0_31 s0_b62_0 s0_o61=some o:=ho
 unfold impl_chosenTopology_L0 at ho
 refine wq ?_
 refine Wq rfl (cr [] wd212) ?_
 refine qv (v:=.bool (decide (s0_31 < (m24.Classifier.Sieves.length:Int)))) rfl (fun _ _=>op_bin rfl rfl bin_lss) ?_
 intro wd213 hC214
 refine anz ?_
 refine wq ?_
 refine W_cond (b:=decide (s0_31 < (m24.Classifier.Sieves.length:Int))) rfl ?_ ?_
 intro hb215
 rw [hb215] at ho
 refine W_skip ?_
 refine anz ?_
 refine wq ?_
 refine W_block ?_
 refine wq ?_
 refine Wq rfl hC214 ?_
 refine qv (v:=.int .i64 (s0_31)) rfl (fun _ _=>om _) ?_
 obtain ⟨e216,hx217e,ho⟩:=bs ho
 have hx217:=idx_some hx217e
 refine qv (v:=.pointer (some (elA (v55) 1 (s0_31)))) rfl (fun _ hC=>op_indexI u129 info110 sz110 rfl ((Le.own (Le.own (Le.own (Le.refl _) 2) 87) 110).le (kp _ o57.1 hC)) rfl hx217.1 hx217.2) ?_
 obtain ⟨u218,fu219,hu220,hr221,hs222⟩:=one_get rfl ((Le.own (Le.own (Le.own (Le.refl _) 2) 87) 110).le o57.1) hx217.1 hx217.2
 refine qv (v:=u218) rfl (fun _ hC=>oldz u110 rfl rfl (hC.cell0 hu220)) ?_
 refine qv (v:=.int .i64 (s0_31)) rfl (fun _ _=>oa _) ?_
 refine qv (v:=u218) rfl (fun _ _=>oa _) ?_
 intro wd223 hC224
 refine anz ?_
 refine wq ?_
 refine Wq rfl hC224 ?_
 refine qv (v:=u218) rfl (fun _ _=>om _) ?_
 refine qv (v:=.int .i64 ((e216.length:Int))) rfl (fun _ hC=>op_lenI u110 (kp _ hr221 hC)) ?_
 refine qv (v:=.int .i64 ((0:Int))) rfl (fun _ _=>om _) ?_
 intro wd225 hC226
 refine anz ?_
 refine W_for (S1:=Int×Int×(List (List Bool))) (fun s r w'=>match s with | (s1_38,s1_b62_0,s1_o61)=>∃ (f227:List Nat),Chg [] w w'∧Row w' b1 [.int .i64 ((0:Int)),.slice none 0 0,.slice none 0 0,.slice none 0 0,.slice none 0 0,.slice none 0 0] 30∧OE [] w.heap.size w' (sOwn 2 (sInt .i64)) [v37] (m24.Classifier.Sets.Shape.From) f38∧OE [] w.heap.size w' (sOwn 2 (sInt .i64)) [v40] (m24.Classifier.Sets.Shape.To) f41∧OE [] w.heap.size w' (sOwn 2 (sInt .i64)) [v43] (m24.Classifier.Sets.Shape.Identity) f44∧OE [] w.heap.size w' (sOwn 22 (sOwn 2 (sInt .i64))) [v46] (m24.Classifier.Sets.Shape.Composites) f47∧OE [] w.heap.size w' (sOwn 2 (sInt .i64)) [v49] (m24.Classifier.Sets.Sizes) f50∧OE [] w.heap.size w' (sOwn 22 (sOwn 2 (sInt .i64))) [v52] (m24.Classifier.Sets.Actions) f53∧OE [] w.heap.size w' (sOwn 110 (sOwn 87 (sOwn 2 (sInt .i64)))) [v55] (m24.Classifier.Sieves) f56∧Row w' b35 [.int .i64 (m24.Classifier.Sets.Shape.Objects),v37,v40,v43,v46,v49,v52,v55] 131∧OE [] w.heap.size w' (sOwn 82 (sOwn 4 sBool)) [v59] (s1_o61) f227∧Row w' b62 [.int .i64 (s1_b62_0)] 180∧Row w' b33 [.pointer (some (⟨b35,0,none⟩)),.pointer (some (p_x0)),v59,.pointer (some (⟨b62,0,none⟩))] 124∧(sImm (sImm (sInt .i64))).rep w'.heap [u218] (e216) fu219∧Dis [b1] f38∧Dis [b1] f41∧Dis [b1] f44∧Dis [b1] f47∧Dis [b1] f50∧Dis [b1] f53∧Dis [b1] f56∧Dis [b1] [b35]∧Dis [b1] f227∧Dis [b1] [b62]∧Dis [b1] [b33]∧Dis f38 f41∧Dis f38 f44∧Dis f38 f47∧Dis f38 f50∧Dis f38 f53∧Dis f38 f56∧Dis f38 [b35]∧Dis f38 f227∧Dis f38 [b62]∧Dis f38 [b33]∧Dis f41 f44∧Dis f41 f47∧Dis f41 f50∧Dis f41 f53∧Dis f41 f56∧Dis f41 [b35]∧Dis f41 f227∧Dis f41 [b62]∧Dis f41 [b33]∧Dis f44 f47∧Dis f44 f50∧Dis f44 f53∧Dis f44 f56∧Dis f44 [b35]∧Dis f44 f227∧Dis f44 [b62]∧Dis f44 [b33]∧Dis f47 f50∧Dis f47 f53∧Dis f47 f56∧Dis f47 [b35]∧Dis f47 f227∧Dis f47 [b62]∧Dis f47 [b33]∧Dis f50 f53∧Dis f50 f56∧Dis f50 [b35]∧Dis f50 f227∧Dis f50 [b62]∧Dis f50 [b33]∧Dis f53 f56∧Dis f53 [b35]∧Dis f53 f227∧Dis f53 [b62]∧Dis f53 [b33]∧Dis f56 [b35]∧Dis f56 f227∧Dis f56 [b62]∧Dis f56 [b33]∧Dis [b35] f227∧Dis [b35] [b62]∧Dis [b35] [b33]∧Dis f227 [b62]∧Dis f227 [b33]∧Dis [b62] [b33]∧∃ F,r=updL F [(1,.func (.func g_x1) #[] c_x1.toArray),(4,.pointer (some (⟨b1,0,none⟩))),(6,.pointer (some (⟨b33,0,none⟩))),(8,.int .i64 (s0_31)),(9,u218),(29,v55),(30,.int .i64 ((m24.Classifier.Sieves.length:Int))),(31,.int .i64 (s0_31)),(37,.int .i64 ((e216.length:Int))),(38,.int .i64 (s1_38))]) (T:=impl_chosenTopology_T w) ho ⟨_,(hB.trans hC226),(kr hr4 hC226),(ko o39 hC226),(ko o42 hC226),(ko o45 hC226),(ko o48 hC226),(ko o51 hC226),(ko o54 hC226),(ko o57 hC226),(kr hr36 hC226),(ko o61 hC226),(kr hr63 hC226),(kr hr34 hC226),(kp _ hr221 hC226),(d146),(d147),(d148),(d149),(d150),(d151),(d152),(d153),(d154),(d155),(d156),(d157),(d158),(d159),(d160),(d161),(d162),(d163),(d164),(d165),(d166),(d167),(d168),(d169),(d170),(d171),(d172),(d173),(d174),(d175),(d176),(d177),(d178),(d179),(d180),(d181),(d182),(d183),(d184),(d185),(d186),(d187),(d188),(d189),(d190),(d191),(d192),(d193),(d194),(d195),(d196),(d197),(d198),(d199),(d200),(d201),(d202),(d203),(d204),(d205),(d206),(d207),(d208),(d209),(d210),(d211),fr ⟨rfl,rfl,rfl,rfl,rfl,rfl,rfl,rfl,rfl,rfl,trivial⟩⟩ ?_ ?_ ?_
 intro x r w' ho hx; subst ho; exact hx
 rintro ⟨s1_38,s1_b62_0,s1_o61⟩ _ wd294 ⟨f227,hB,hr4,o39,o42,o45,o48,o51,o54,o57,hr36,o61,hr63,hr34,hr221,d228,d229,d230,d231,d232,d233,d234,d235,d236,d237,d238,d239,d240,d241,d242,d243,d244,d245,d246,d247,d248,d249,d250,d251,d252,d253,d254,d255,d256,d257,d258,d259,d260,d261,d262,d263,d264,d265,d266,d267,d268,d269,d270,d271,d272,d273,d274,d275,d276,d277,d278,d279,d280,d281,d282,d283,d284,d285,d286,d287,d288,d289,d290,d291,d292,d293,F,rfl⟩ o ho
 replace ho:impl_chosenTopology_L1 x0 x1 m24 s0_31 e216 s1_38 s1_b62_0 s1_o61=some o:=ho
 unfold impl_chosenTopology_L1 at ho
 refine wq ?_
 refine Wq rfl (cr [] wd294) ?_
 refine qv (v:=.bool (decide (s1_38 < (e216.length:Int)))) rfl (fun _ _=>op_bin rfl rfl bin_lss) ?_
 intro wd295 hC296
 refine anz ?_
 refine wq ?_
 refine W_cond (b:=decide (s1_38 < (e216.length:Int))) rfl ?_ ?_
 intro hb297
 rw [hb297] at ho
 refine W_skip ?_
 refine anz ?_
 refine wq ?_
 refine W_block ?_
 refine wq ?_
 refine Wq rfl hC296 ?_
 refine qv (v:=.int .i64 (s1_38)) rfl (fun _ _=>om _) ?_
 refine qv (v:=.int .i64 (s1_38)) rfl (fun _ _=>oa _) ?_
 intro wd298 hC299
 refine anz ?_
 refine wq ?_
 refine Wq rfl hC299 ?_
 refine qv (v:=.func (.func g_x1) #[] c_x1.toArray) rfl (fun _ _=>om _) ?_
 refine qv (v:=.int .i64 (s0_31)) rfl (fun _ _=>om _) ?_
 refine qv (v:=u218) rfl (fun _ _=>om _) ?_
 refine qv (v:=.int .i64 (s1_38)) rfl (fun _ _=>om _) ?_
 obtain ⟨e300,hx301e,ho⟩:=bs ho
 have hx301:=idx_some hx301e
 refine qv (v:=.pointer (some (elA (u218) 1 (s1_38)))) rfl (fun _ hC=>op_indexI u110 info87 sz87 rfl (kp _ hr221 hC) rfl hx301.1 hx301.2) ?_
 obtain ⟨u302,fu303,hu304,hr305,hs306⟩:=one_get rfl hr221 hx301.1 hx301.2
 refine qv (v:=u302) rfl (fun _ hC=>oldz u87 rfl rfl (hC.cell0 hu304)) ?_
 obtain ⟨y307,hy308,ho⟩:=bs ho
 refine QL.call (v:=.bool (y307)) rfl (fun _ _=>op_callP rfl h_x1.1) (fun _ hC=>(h_x1.2 (hB.trans hC) (kp _ hr305 hC) hy308).mono fun _ _ h=>⟨h.1,hC.trans h.2⟩) ?_
 intro wd309 hC310
 refine anz ?_
 refine W_cond (b:=y307) rfl ?_ ?_
 intro hb311
 rw [hb311] at ho
 refine W_region rfl ?_
 refine wv (v:=.pointer (some (⟨b33,0,none⟩))) rfl (om _) ?_
 refine wv (v:=.int .i64 (s0_31)) rfl (om _) ?_
 refine wv (v:=.int .i64 (s1_38)) rfl (om _) ?_
 have hT312:=hC310.trans (cr [] wd309)
 replace hr221:=kp _ hr221 hT312
 replace hu304:=hT312.cell0 hu304
 replace hr305:=kp _ hr305 hT312
 replace hr4:=kr hr4 hT312
 replace o39:=ko o39 hT312
 replace o42:=ko o42 hT312
 replace o45:=ko o45 hT312
 replace o48:=ko o48 hT312
 replace o51:=ko o51 hT312
 replace o54:=ko o54 hT312
 replace o57:=ko o57 hT312
 replace hr36:=kr hr36 hT312
 replace o61:=ko o61 hT312
 replace hr63:=kr hr63 hT312
 replace hr34:=kr hr34 hT312
 replace hB:=(hB.trans hT312)
 obtain ⟨y313,hy314,ho⟩:=bs ho
 refine WL.call rfl (op_callF Tryz.func123 rfl rfl) (impl_coverage_mark_calls (x0:=(MCoverage.mk m24.Classifier x0 s1_o61 s1_b62_0)) ((Le.own (Le.refl _) 2).le (kp _ o39.1 (cr [] wd309))) ((Le.own (Le.refl _) 2).le (kp _ o42.1 (cr [] wd309))) ((Le.own (Le.refl _) 2).le (kp _ o45.1 (cr [] wd309))) ((Le.own (Le.own (Le.refl _) 2) 22).le (kp _ o48.1 (cr [] wd309))) ((Le.own (Le.refl _) 2).le (kp _ o51.1 (cr [] wd309))) ((Le.own (Le.own (Le.refl _) 2) 22).le (kp _ o54.1 (cr [] wd309))) ((Le.own (Le.own (Le.own (Le.refl _) 2) 87) 110).le (kp _ o57.1 (cr [] wd309))) (kr hr36 (cr [] wd309)).at (kp _ za (hB.trans (cr [] wd309))) (kp _ zb (hB.trans (cr [] wd309))) (kp _ zd (hB.trans (cr [] wd309))) (kp _ zc (hB.trans (cr [] wd309))) (At.keep0 a_x0 (hB.trans (cr [] wd309))) (OE.give (B':=wd309.heap.size) o61 fun _ h=>h) (kr hr63 (cr [] wd309)) (kr hr34 (cr [] wd309)).at d291 (Dis.symm (da (d246).symm (d247).symm)) (Dis.symm (da (d255).symm (d256).symm)) (Dis.symm (da (d263).symm (d264).symm)) (Dis.symm (da (d270).symm (d271).symm)) (Dis.symm (da (d276).symm (d277).symm)) (Dis.symm (da (d281).symm (d282).symm)) (Dis.symm (da (d285).symm (d286).symm)) (fun hm=>(da (d288).symm (d289).symm) _ hm (ms rfl)) (dis_par (sl _ za) (low_app o61.2.2 (one_then lo132))) (dis_par (sl _ zb) (low_app o61.2.2 (one_then lo132))) (dis_par (sl _ zd) (low_app o61.2.2 (one_then lo132))) (dis_par (sl _ zc) (low_app o61.2.2 (one_then lo132))) (pat_out a_x0 List.not_mem_nil (low_app o61.2.2 (one_then lo132))) (fun hm=>(da d292 d293) _ hm (ms rfl)) hy314) ?_
 rintro _ wd315 ⟨f317,rfl,hC316,o318,o319,d320⟩
 refine ⟨_,rfl,?_⟩
 have d321:Dis f317 [b1]:=dis_back o318 (da (d236).symm (d237).symm) (one_lt (Row.lt (kr hr4 (cr [] wd309))))
 have d322:Dis f317 f38:=dis_back o318 (da (d246).symm (d247).symm) (sl _ (kp _ o39.1 (cr [] wd309)))
 have d323:Dis f317 f41:=dis_back o318 (da (d255).symm (d256).symm) (sl _ (kp _ o42.1 (cr [] wd309)))
 have d324:Dis f317 f44:=dis_back o318 (da (d263).symm (d264).symm) (sl _ (kp _ o45.1 (cr [] wd309)))
 have d325:Dis f317 f47:=dis_back o318 (da (d270).symm (d271).symm) (sl _ (kp _ o48.1 (cr [] wd309)))
 have d326:Dis f317 f50:=dis_back o318 (da (d276).symm (d277).symm) (sl _ (kp _ o51.1 (cr [] wd309)))
 have d327:Dis f317 f53:=dis_back o318 (da (d281).symm (d282).symm) (sl _ (kp _ o54.1 (cr [] wd309)))
 have d328:Dis f317 f56:=dis_back o318 (da (d285).symm (d286).symm) (sl _ (kp _ o57.1 (cr [] wd309)))
 have d329:Dis f317 [b35]:=dis_back o318 (da (d288).symm (d289).symm) (one_lt (Row.lt (kr hr36 (cr [] wd309))))
 have d330:Dis f317 [b33]:=dis_back o318 (da d292 d293) (one_lt (Row.lt (kr hr34 (cr [] wd309))))
 replace o318:=OE.back o318 (low_app o61.2.2 (one_then lo132)) hB.size
 have hT331:=((cr [] wd309).nil (G:=(f227++[b62]))).trans hC316
 replace hr221:=STy.keep _ hr221 hT331 (fun b hb=>(Dis.symm (da (d285).symm (d286).symm)) b (hs222 b hb))
 replace hr305:=STy.keep _ hr305 hT331 (fun b hb=>(fun b hb=>(Dis.symm (da (d285).symm (d286).symm)) b (hs222 b hb)) b (hs306 b hb))
 replace hr4:=Row.keep hr4 hT331 ((Dis.symm (da (d236).symm (d237).symm)) _ (ms rfl))
 replace o39:=okp o39 hT331 (Dis.symm (da (d246).symm (d247).symm))
 replace o42:=okp o42 hT331 (Dis.symm (da (d255).symm (d256).symm))
 replace o45:=okp o45 hT331 (Dis.symm (da (d263).symm (d264).symm))
 replace o48:=okp o48 hT331 (Dis.symm (da (d270).symm (d271).symm))
 replace o51:=okp o51 hT331 (Dis.symm (da (d276).symm (d277).symm))
 replace o54:=okp o54 hT331 (Dis.symm (da (d281).symm (d282).symm))
 replace o57:=okp o57 hT331 (Dis.symm (da (d285).symm (d286).symm))
 replace hr36:=Row.keep hr36 hT331 ((Dis.symm (da (d288).symm (d289).symm)) _ (ms rfl))
 replace hr34:=Row.keep hr34 hT331 ((Dis.symm (da d292 d293)) _ (ms rfl))
 replace hB:=hB.then hT331 (low_app o61.2.2 (one_then lo132))
 refine inBlk_n ?_
 refine anz ?_
 refine Wq rfl (cr [] wd315) ?_
 refine qv (v:=.int .i64 (w64 (s1_38 + (1:Int)))) rfl (fun _ _=>op_bin rfl rfl bin_add) ?_
 refine qv (v:=.int .i64 (w64 (s1_38 + (1:Int)))) rfl (fun _ _=>om _) ?_
 intro wd332 hC333
 cases ho
 exact ⟨_,(hB.trans hC333),(kr hr4 hC333),(ko o39 hC333),(ko o42 hC333),(ko o45 hC333),(ko o48 hC333),(ko o51 hC333),(ko o54 hC333),(ko o57 hC333),(kr hr36 hC333),(ko o318 hC333),(kr o319 hC333),(kr hr34 hC333),(kp _ hr221 hC333),(d228),(d229),(d230),(d231),(d232),(d233),(d234),(d235),((d321).symm),(d237),(d238),(d239),(d240),(d241),(d242),(d243),(d244),(d245),((d322).symm),(d247),(d248),(d249),(d250),(d251),(d252),(d253),(d254),((d323).symm),(d256),(d257),(d258),(d259),(d260),(d261),(d262),((d324).symm),(d264),(d265),(d266),(d267),(d268),(d269),((d325).symm),(d271),(d272),(d273),(d274),(d275),((d326).symm),(d277),(d278),(d279),(d280),((d327).symm),(d282),(d283),(d284),((d328).symm),(d286),(d287),((d329).symm),(d289),(d290),(d320),(d330),(d293),fr ⟨rfl,rfl,rfl,rfl,rfl,rfl,rfl,rfl,rfl,rfl,trivial⟩⟩
 intro hb311
 rw [hb311] at ho
 refine W_skip ?_
 refine inBlk_n ?_
 refine anz ?_
 refine Wq rfl hC310 ?_
 refine qv (v:=.int .i64 (w64 (s1_38 + (1:Int)))) rfl (fun _ _=>op_bin rfl rfl bin_add) ?_
 refine qv (v:=.int .i64 (w64 (s1_38 + (1:Int)))) rfl (fun _ _=>om _) ?_
 intro wd334 hC335
 cases ho
 exact ⟨_,(hB.trans hC335),(kr hr4 hC335),(ko o39 hC335),(ko o42 hC335),(ko o45 hC335),(ko o48 hC335),(ko o51 hC335),(ko o54 hC335),(ko o57 hC335),(kr hr36 hC335),(ko o61 hC335),(kr hr63 hC335),(kr hr34 hC335),(kp _ hr221 hC335),(d228),(d229),(d230),(d231),(d232),(d233),(d234),(d235),(d236),(d237),(d238),(d239),(d240),(d241),(d242),(d243),(d244),(d245),(d246),(d247),(d248),(d249),(d250),(d251),(d252),(d253),(d254),(d255),(d256),(d257),(d258),(d259),(d260),(d261),(d262),(d263),(d264),(d265),(d266),(d267),(d268),(d269),(d270),(d271),(d272),(d273),(d274),(d275),(d276),(d277),(d278),(d279),(d280),(d281),(d282),(d283),(d284),(d285),(d286),(d287),(d288),(d289),(d290),(d291),(d292),(d293),fr ⟨rfl,rfl,rfl,rfl,rfl,rfl,rfl,rfl,rfl,rfl,trivial⟩⟩
 intro hb297
 rw [hb297] at ho
 refine W_exit ?_
 refine andThen_x ?_
 cases ho
 exact ⟨rfl,⟨_,(hB.trans hC296),(kr hr4 hC296),(ko o39 hC296),(ko o42 hC296),(ko o45 hC296),(ko o48 hC296),(ko o51 hC296),(ko o54 hC296),(ko o57 hC296),(kr hr36 hC296),(ko o61 hC296),(kr hr63 hC296),(kr hr34 hC296),(kp _ hr221 hC296),(d228),(d229),(d230),(d231),(d232),(d233),(d234),(d235),(d236),(d237),(d238),(d239),(d240),(d241),(d242),(d243),(d244),(d245),(d246),(d247),(d248),(d249),(d250),(d251),(d252),(d253),(d254),(d255),(d256),(d257),(d258),(d259),(d260),(d261),(d262),(d263),(d264),(d265),(d266),(d267),(d268),(d269),(d270),(d271),(d272),(d273),(d274),(d275),(d276),(d277),(d278),(d279),(d280),(d281),(d282),(d283),(d284),(d285),(d286),(d287),(d288),(d289),(d290),(d291),(d292),(d293),fr ⟨rfl,rfl,rfl,rfl,rfl,rfl,rfl,rfl,rfl,rfl,trivial⟩⟩⟩
 rintro ⟨s1_38,s1_b62_0,s1_o61⟩ _ wd336 ⟨f227,hB,hr4,o39,o42,o45,o48,o51,o54,o57,hr36,o61,hr63,hr34,hr221,d228,d229,d230,d231,d232,d233,d234,d235,d236,d237,d238,d239,d240,d241,d242,d243,d244,d245,d246,d247,d248,d249,d250,d251,d252,d253,d254,d255,d256,d257,d258,d259,d260,d261,d262,d263,d264,d265,d266,d267,d268,d269,d270,d271,d272,d273,d274,d275,d276,d277,d278,d279,d280,d281,d282,d283,d284,d285,d286,d287,d288,d289,d290,d291,d292,d293,F,rfl⟩ ho
 dsimp only at ho
 refine inBlk_n ?_
 refine anz ?_
 refine Wq rfl (cr [] wd336) ?_
 refine qv (v:=.int .i64 (w64 (s0_31 + (1:Int)))) rfl (fun _ _=>op_bin rfl rfl bin_add) ?_
 refine qv (v:=.int .i64 (w64 (s0_31 + (1:Int)))) rfl (fun _ _=>om _) ?_
 intro wd337 hC338
 cases ho
 exact ⟨_,(hB.trans hC338),(kr hr4 hC338),(ko o39 hC338),(ko o42 hC338),(ko o45 hC338),(ko o48 hC338),(ko o51 hC338),(ko o54 hC338),(ko o57 hC338),(kr hr36 hC338),(ko o61 hC338),(kr hr63 hC338),(kr hr34 hC338),(d228),(d229),(d230),(d231),(d232),(d233),(d234),(d235),(d236),(d237),(d238),(d239),(d240),(d241),(d242),(d243),(d244),(d245),(d246),(d247),(d248),(d249),(d250),(d251),(d252),(d253),(d254),(d255),(d256),(d257),(d258),(d259),(d260),(d261),(d262),(d263),(d264),(d265),(d266),(d267),(d268),(d269),(d270),(d271),(d272),(d273),(d274),(d275),(d276),(d277),(d278),(d279),(d280),(d281),(d282),(d283),(d284),(d285),(d286),(d287),(d288),(d289),(d290),(d291),(d292),(d293),fr ⟨rfl,rfl,rfl,rfl,rfl,rfl,trivial⟩⟩
 intro hb215
 rw [hb215] at ho
 refine W_exit ?_
 refine andThen_x ?_
 cases ho
 exact ⟨rfl,⟨_,(hB.trans hC214),(kr hr4 hC214),(ko o39 hC214),(ko o42 hC214),(ko o45 hC214),(ko o48 hC214),(ko o51 hC214),(ko o54 hC214),(ko o57 hC214),(kr hr36 hC214),(ko o61 hC214),(kr hr63 hC214),(kr hr34 hC214),(d146),(d147),(d148),(d149),(d150),(d151),(d152),(d153),(d154),(d155),(d156),(d157),(d158),(d159),(d160),(d161),(d162),(d163),(d164),(d165),(d166),(d167),(d168),(d169),(d170),(d171),(d172),(d173),(d174),(d175),(d176),(d177),(d178),(d179),(d180),(d181),(d182),(d183),(d184),(d185),(d186),(d187),(d188),(d189),(d190),(d191),(d192),(d193),(d194),(d195),(d196),(d197),(d198),(d199),(d200),(d201),(d202),(d203),(d204),(d205),(d206),(d207),(d208),(d209),(d210),(d211),fr ⟨rfl,rfl,rfl,rfl,rfl,rfl,trivial⟩⟩⟩
 rintro ⟨s0_31,s0_b62_0,s0_o61⟩ _ wd339 ⟨f145,hB,hr4,o39,o42,o45,o48,o51,o54,o57,hr36,o61,hr63,hr34,d146,d147,d148,d149,d150,d151,d152,d153,d154,d155,d156,d157,d158,d159,d160,d161,d162,d163,d164,d165,d166,d167,d168,d169,d170,d171,d172,d173,d174,d175,d176,d177,d178,d179,d180,d181,d182,d183,d184,d185,d186,d187,d188,d189,d190,d191,d192,d193,d194,d195,d196,d197,d198,d199,d200,d201,d202,d203,d204,d205,d206,d207,d208,d209,d210,d211,F,rfl⟩ ho
 dsimp only at ho
 refine anz ?_
 refine wq ?_
 refine W_region rfl ?_
 refine wv (v:=.pointer (some (⟨b33,0,none⟩))) rfl (om _) ?_
 obtain ⟨y340,hy341,ho⟩:=bs ho
 refine WL.call rfl (op_callF Tryz.func100 rfl rfl) (impl_coverage_topology_calls (x0:=(MCoverage.mk m24.Classifier x0 s0_o61 s0_b62_0)) ((Le.own (Le.refl _) 2).le (kp _ o39.1 (cr [] wd339))) ((Le.own (Le.refl _) 2).le (kp _ o42.1 (cr [] wd339))) ((Le.own (Le.refl _) 2).le (kp _ o45.1 (cr [] wd339))) ((Le.own (Le.own (Le.refl _) 2) 22).le (kp _ o48.1 (cr [] wd339))) ((Le.own (Le.refl _) 2).le (kp _ o51.1 (cr [] wd339))) ((Le.own (Le.own (Le.refl _) 2) 22).le (kp _ o54.1 (cr [] wd339))) ((Le.own (Le.own (Le.own (Le.refl _) 2) 87) 110).le (kp _ o57.1 (cr [] wd339))) (kr hr36 (cr [] wd339)).at (kp _ za (hB.trans (cr [] wd339))) (kp _ zb (hB.trans (cr [] wd339))) (kp _ zd (hB.trans (cr [] wd339))) (kp _ zc (hB.trans (cr [] wd339))) (At.keep0 a_x0 (hB.trans (cr [] wd339))) ((Le.own (Le.own (Le.refl _) 4) 82).le (kp _ o61.1 (cr [] wd339))) (kr hr63 (cr [] wd339)).at (kr hr34 (cr [] wd339)).at hy341) ?_
 rintro _ wd342 ⟨v344,f345,v347,f348,v350,f351,v353,f354,v356,f357,rfl,hC343,o346,o349,o352,o355,o358,d359,d360,d361,d362,d363,d364,d365,d366,d367,d368⟩
 refine ⟨_,rfl,?_⟩
 have d369:Dis f345 [b1]:=dl (ofr o346) (one_lt (Row.lt (kr hr4 (cr [] wd339))))
 replace o346:=OE.low (G:=[]) o346 (hB.trans (cr [] wd339)).size
 have d381:Dis f348 [b1]:=dl (ofr o349) (one_lt (Row.lt (kr hr4 (cr [] wd339))))
 replace o349:=OE.low (G:=[]) o349 (hB.trans (cr [] wd339)).size
 have d393:Dis f351 [b1]:=dl (ofr o352) (one_lt (Row.lt (kr hr4 (cr [] wd339))))
 replace o352:=OE.low (G:=[]) o352 (hB.trans (cr [] wd339)).size
 have d405:Dis f354 [b1]:=dl (ofr o355) (one_lt (Row.lt (kr hr4 (cr [] wd339))))
 replace o355:=OE.low (G:=[]) o355 (hB.trans (cr [] wd339)).size
 have d417:Dis f357 [b1]:=dl (ofr o358) (one_lt (Row.lt (kr hr4 (cr [] wd339))))
 replace o358:=OE.low (G:=[]) o358 (hB.trans (cr [] wd339)).size
 have hT429:=(cr [] wd339).trans hC343
 replace hr4:=kr hr4 hT429
 replace o39:=ko o39 hT429
 replace o42:=ko o42 hT429
 replace o45:=ko o45 hT429
 replace o48:=ko o48 hT429
 replace o51:=ko o51 hT429
 replace o54:=ko o54 hT429
 replace o57:=ko o57 hT429
 replace hr36:=kr hr36 hT429
 replace o61:=ko o61 hT429
 replace hr63:=kr hr63 hT429
 replace hr34:=kr hr34 hT429
 replace hB:=(hB.trans hT429)
 refine WL.storeAll (us:=[.int .i64 (y340.Shape.Objects),v344,v347,v350,v353,v356]) info30 (by rw [sz30]; rfl) (kr hr4 (cr [] wd342)) rfl rfl rfl (by intro u hu; simp only [List.mem_cons,List.mem_nil_iff,or_false] at hu; rcases hu with rfl | rfl | rfl | rfl | rfl | rfl <;> first | exact rfl | exact (STy.one _ o346.1 _ (ms rfl)) | exact (STy.one _ o349.1 _ (ms rfl)) | exact (STy.one _ o352.1 _ (ms rfl)) | exact (STy.one _ o355.1 _ (ms rfl)) | exact (STy.one _ o358.1 _ (ms rfl))) fun wd430 hC431 hr432=>?_
 replace hr432:Row wd430 b1 [.int .i64 (y340.Shape.Objects),v344,v347,v350,v353,v356] 30:=hr432
 have hT433:=((cr [] wd342).nil (G:=[b1])).trans hC431
 replace o39:=okp o39 hT433 (d146).symm
 replace o42:=okp o42 hT433 (d147).symm
 replace o45:=okp o45 hT433 (d148).symm
 replace o48:=okp o48 hT433 (d149).symm
 replace o51:=okp o51 hT433 (d150).symm
 replace o54:=okp o54 hT433 (d151).symm
 replace o57:=okp o57 hT433 (d152).symm
 replace hr36:=Row.keep hr36 hT433 ((d153).symm _ (ms rfl))
 replace o61:=okp o61 hT433 (d154).symm
 replace hr63:=Row.keep hr63 hT433 ((d155).symm _ (ms rfl))
 replace hr34:=Row.keep hr34 hT433 ((d156).symm _ (ms rfl))
 replace o346:=okp o346 hT433 d369
 replace o349:=okp o349 hT433 d381
 replace o352:=okp o352 hT433 d393
 replace o355:=okp o355 hT433 d405
 replace o358:=okp o358 hT433 d417
 replace hB:=hB.then hT433 (one_then lo6)
 refine wv (v:=.int .i64 ((0:Int))) rfl (oa _) ?_
 refine anz ?_
 cases ho
 exact W_ret ⟨_,res_c1 Tryz.results65 u30 rfl info30 (by rw [sz30]; rfl) rfl (kr hr432 (cr [] wd430)).at,_,_,_,_,_,_,_,_,_,_,rfl,(hB.trans (cr [] wd430)),(ko o346 (cr [] wd430)),(ko o349 (cr [] wd430)),(ko o352 (cr [] wd430)),(ko o355 (cr [] wd430)),(ko o358 (cr [] wd430)),(d359),(d360),(d361),(d362),(d363),(d364),(d365),(d366),(d367),(d368)⟩

noncomputable def impl_LeastTopology (x0:MCategory):Option (MTopology×Int):=
 retM (S:=Unit) ((impl_chosenTopology x0 (fun a0 a1=>impl_LeastTopology_1 (a0) a1 x0))>>=fun y16=>(some (Out.ret ((y16.1,y16.2)))))
abbrev impl_LeastTopology_post (w:World) (x:(MTopology×Int)) (e:Ending) (w':World):Prop:=∃ (v0:Value) (f0:List Nat) (v1:Value) (f1:List Nat) (v2:Value) (f2:List Nat) (v3:Value) (f3:List Nat) (v4:Value) (f4:List Nat),e = .returned (.tuple #[.agg #[.int .i64 x.1.Shape.Objects,v0,v1,v2,v3,v4],.int .i64 x.2])∧Chg [] w w'∧OE [] w.heap.size w' (sOwn 2 (sInt .i64)) [v0] x.1.Shape.From f0∧OE [] w.heap.size w' (sOwn 2 (sInt .i64)) [v1] x.1.Shape.To f1∧OE [] w.heap.size w' (sOwn 2 (sInt .i64)) [v2] x.1.Shape.Identity f2∧OE [] w.heap.size w' (sOwn 22 (sOwn 2 (sInt .i64))) [v3] x.1.Shape.Composites f3∧OE [] w.heap.size w' (sOwn 23 (sOwn 22 (sOwn 2 (sInt .i64)))) [v4] x.1.Covers f4∧Dis f0 f1∧Dis f0 f2∧Dis f0 f3∧Dis f0 f4∧Dis f1 f2∧Dis f1 f3∧Dis f1 f4∧Dis f2 f3∧Dis f2 f4∧Dis f3 f4
abbrev impl_LeastTopology_T (w:World) (x:(MTopology×Int)) (r:Nat→Value) (w':World):Prop:=∃ v,(∀ a:Act,a.tmps.size=8→rho a=r→(results Tryz.f18 a.tmps).run Tryz.prog w' = .ok v w')∧impl_LeastTopology_post w x (.returned v) w'
theorem impl_LeastTopology_calls {w:World} {x0:MCategory} {z6:Value} {zh:List Nat} {z7:Value} {zg:List Nat} {z9:Value} {zf:List Nat} {z8:Value} {ze:List Nat} (za:(sImm (sInt .i64)).rep w.heap [z6] x0.From zh) (zb:(sImm (sInt .i64)).rep w.heap [z7] x0.To zg) (zd:(sImm (sInt .i64)).rep w.heap [z9] x0.Identity zf) (zc:(sImm (sImm (sInt .i64))).rep w.heap [z8] x0.Composites ze) {y:(MTopology×Int)} (hm:impl_LeastTopology x0=some y) :
  Calls Tryz.prog 18 #[.agg #[.int .i64 (x0.Objects),z6,z7,z9,z8]] w (impl_LeastTopology_post w y):=by
 refine calls_of_M (S:=Unit) (args:=[.agg #[.int .i64 (x0.Objects),z6,z7,z9,z8]]) Tryz.func18 rfl Tryz.ntmps18 (Nat.le_of_ble_eq_true rfl) (retM_some hm) ?_
 clear hm
 intro o ho
 have hB:Chg [] w w:=cr _ _
 refine wq ?_
 refine W_region rfl ?_
 refine WL.box fun b1 wd2 hC3 hr4 hl5=>?_
 replace hr4:Row wd2 b1 [.int .i64 (x0.Objects),z6,z7,z9,z8] 27:=hr4
 have hT7:=(cr [] w).trans hC3
 replace hB:=(hB.trans hT7)
 refine WL.alloc info30 zr30 fun b8 wd9 hC10 hr11 hl12=>?_
 replace hr11:Row wd9 b8 [.int .i64 ((0:Int)),.slice none 0 0,.slice none 0 0,.slice none 0 0,.slice none 0 0,.slice none 0 0] 30:=hr11
 have lo13:w.heap.size≤b8:=Nat.le_trans (hB.trans (cr [] wd2)).size hl12
 have d14:Dis [b8] [b1]:=dl (onw hl12) (one_lt (Row.lt (kr hr4 (cr [] wd2))))
 have hT15:=(cr [] wd2).trans hC10
 replace hr4:=kr hr4 hT15
 replace hB:=(hB.trans hT15)
 refine wv (v:=.int .i64 ((0:Int))) rfl (oa _) ?_
 refine anz ?_
 refine wq ?_
 refine W_region rfl ?_
 refine wv (v:=.func (.func 66) #[] #[.pointer (some (⟨b1,0,none⟩))]) rfl (op_makeFunc (fst:=[]) (cap:=[.tmp 1])) ?_
 obtain ⟨y16,hy17,ho⟩:=bs ho
 refine WL.call rfl (op_callF Tryz.func65 rfl rfl) (impl_chosenTopology_calls (kp _ za (hB.trans (cr [] wd9))) (kp _ zb (hB.trans (cr [] wd9))) (kp _ zd (hB.trans (cr [] wd9))) (kp _ zc (hB.trans (cr [] wd9))) (kr hr4 (cr [] wd9)).at ⟨⟨_,_,Tryz.func66,rfl,rfl⟩,fun {W} hW {a0} {a1} {v1} {f1} h1 {y} hm=>impl_LeastTopology_1_calls h1 (kp _ za (hB.trans ((cr [] wd9).trans hW))) (kp _ zb (hB.trans ((cr [] wd9).trans hW))) (kp _ zd (hB.trans ((cr [] wd9).trans hW))) (kp _ zc (hB.trans ((cr [] wd9).trans hW))) (kr hr4 ((cr [] wd9).trans hW)).at hm⟩ hy17) ?_
 rintro _ wd18 ⟨v20,f21,v23,f24,v26,f27,v29,f30,v32,f33,rfl,hC19,o22,o25,o28,o31,o34,d35,d36,d37,d38,d39,d40,d41,d42,d43,d44⟩
 refine ⟨_,rfl,?_⟩
 have d46:Dis f21 [b8]:=dl (ofr o22) (one_lt (Row.lt (kr hr11 (cr [] wd9))))
 replace o22:=OE.low (G:=[]) o22 (hB.trans (cr [] wd9)).size
 have d48:Dis f24 [b8]:=dl (ofr o25) (one_lt (Row.lt (kr hr11 (cr [] wd9))))
 replace o25:=OE.low (G:=[]) o25 (hB.trans (cr [] wd9)).size
 have d50:Dis f27 [b8]:=dl (ofr o28) (one_lt (Row.lt (kr hr11 (cr [] wd9))))
 replace o28:=OE.low (G:=[]) o28 (hB.trans (cr [] wd9)).size
 have d52:Dis f30 [b8]:=dl (ofr o31) (one_lt (Row.lt (kr hr11 (cr [] wd9))))
 replace o31:=OE.low (G:=[]) o31 (hB.trans (cr [] wd9)).size
 have d54:Dis f33 [b8]:=dl (ofr o34) (one_lt (Row.lt (kr hr11 (cr [] wd9))))
 replace o34:=OE.low (G:=[]) o34 (hB.trans (cr [] wd9)).size
 have hT55:=(cr [] wd9).trans hC19
 replace hr4:=kr hr4 hT55
 replace hr11:=kr hr11 hT55
 replace hB:=(hB.trans hT55)
 refine wv (v:=.agg #[.int .i64 (y16.1.Shape.Objects),v20,v23,v26,v29,v32]) rfl (op_extract rfl rfl) ?_
 refine wv (v:=.int .i64 (y16.2)) rfl (op_extract rfl rfl) ?_
 refine WL.storeAll (us:=[.int .i64 (y16.1.Shape.Objects),v20,v23,v26,v29,v32]) info30 (by rw [sz30]; rfl) (kr hr11 (cr [] wd18)) rfl rfl rfl (by intro u hu; simp only [List.mem_cons,List.mem_nil_iff,or_false] at hu; rcases hu with rfl | rfl | rfl | rfl | rfl | rfl <;> first | exact rfl | exact (STy.one _ o22.1 _ (ms rfl)) | exact (STy.one _ o25.1 _ (ms rfl)) | exact (STy.one _ o28.1 _ (ms rfl)) | exact (STy.one _ o31.1 _ (ms rfl)) | exact (STy.one _ o34.1 _ (ms rfl))) fun wd56 hC57 hr58=>?_
 replace hr58:Row wd56 b8 [.int .i64 (y16.1.Shape.Objects),v20,v23,v26,v29,v32] 30:=hr58
 have hT59:=((cr [] wd18).nil (G:=[b8])).trans hC57
 replace hr4:=Row.keep hr4 hT59 ((d14).symm _ (ms rfl))
 replace o22:=okp o22 hT59 d46
 replace o25:=okp o25 hT59 d48
 replace o28:=okp o28 hT59 d50
 replace o31:=okp o31 hT59 d52
 replace o34:=okp o34 hT59 d54
 replace hB:=hB.then hT59 (one_then lo13)
 refine wv (v:=.int .i64 (y16.2)) rfl (oa _) ?_
 refine anz ?_
 cases ho
 exact W_ret ⟨_,res_c1 Tryz.results18 u30 rfl info30 (by rw [sz30]; rfl) rfl (kr hr58 (cr [] wd56)).at,_,_,_,_,_,_,_,_,_,_,rfl,(hB.trans (cr [] wd56)),(ko o22 (cr [] wd56)),(ko o25 (cr [] wd56)),(ko o28 (cr [] wd56)),(ko o31 (cr [] wd56)),(ko o34 (cr [] wd56)),(d35),(d36),(d37),(d38),(d39),(d40),(d41),(d42),(d43),(d44)⟩

noncomputable def laws_eqInt64S_L0 (x0:(List Int)) (x1:(List Int)) (s0_5:Int):Option (Out (Int) (Bool)):=
 (bif decide (s0_5 < (x0.length:Int)) then ((idx x0 (s0_5))>>=fun e14=>((idx x1 (s0_5))>>=fun e16=>(bif (e14) != (e16) then (some (Out.ret (false))) else (some (Out.norm (w64 (s0_5 + (1:Int)))))))) else (some (Out.exit 0 (s0_5))))
noncomputable def laws_eqInt64S (x0:(List Int)) (x1:(List Int)):Option (Bool):=
 retM (S:=Unit) (bif ((x0.length:Int)) != ((x1.length:Int)) then (some (Out.ret (false))) else (lbind (blockM 0 (loopM (laws_eqInt64S_L0 x0 x1) ((0:Int)))) (fun s0_5=>(some (Out.ret (true))))))
abbrev laws_eqInt64S_post (w:World) (x:(Bool)) (e:Ending) (w':World):Prop:=e = .returned (.bool x)∧Chg [] w w'
abbrev laws_eqInt64S_T (w:World) (x:(Bool)) (r:Nat→Value) (w':World):Prop:=∃ v,(∀ a:Act,a.tmps.size=26→rho a=r→(results Tryz.f35 a.tmps).run Tryz.prog w' = .ok v w')∧laws_eqInt64S_post w x (.returned v) w'
theorem laws_eqInt64S_calls {w:World} {x0:(List Int)} {v_x0:Value} {f_x0:List Nat} {x1:(List Int)} {v_x1:Value} {f_x1:List Nat} (h_x0:(sImm (sInt .i64)).rep w.heap [v_x0] x0 f_x0) (h_x1:(sImm (sInt .i64)).rep w.heap [v_x1] x1 f_x1) {y:(Bool)} (hm:laws_eqInt64S x0 x1=some y) :
  Calls Tryz.prog 35 #[v_x0,v_x1] w (laws_eqInt64S_post w y):=by
 refine calls_of_M (S:=Unit) (args:=[v_x0,v_x1]) Tryz.func35 rfl Tryz.ntmps35 (Nat.le_of_ble_eq_true rfl) (retM_some hm) ?_
 clear hm
 intro o ho
 have hB:Chg [] w w:=cr _ _
 refine wq ?_
 refine Wq rfl (cr [] w) ?_
 refine qv (v:=.bool (false)) rfl (fun _ _=>oa _) ?_
 intro wd1 hC2
 refine anz ?_
 refine wq ?_
 refine wq ?_
 refine Wq rfl hC2 ?_
 refine qv (v:=v_x0) rfl (fun _ _=>om _) ?_
 refine qv (v:=.int .i64 ((x0.length:Int))) rfl (fun _ hC=>op_lenI u22z (kp _ h_x0 (hB.trans hC))) ?_
 refine qv (v:=v_x1) rfl (fun _ _=>om _) ?_
 refine qv (v:=.int .i64 ((x1.length:Int))) rfl (fun _ hC=>op_lenI u22z (kp _ h_x1 (hB.trans hC))) ?_
 refine qv (v:=.bool (((x0.length:Int)) != ((x1.length:Int)))) rfl (fun _ _=>op_bin rfl rfl bin_neq) ?_
 intro wd3 hC4
 refine anz ?_
 refine W_cond (b:=((x0.length:Int)) != ((x1.length:Int))) rfl ?_ ?_
 intro hb5
 rw [hb5] at ho
 refine wq ?_
 refine Wq rfl hC4 ?_
 refine qv (v:=.bool (false)) rfl (fun _ _=>oa _) ?_
 intro wd6 hC7
 refine anz ?_
 cases ho
 exact W_ret ⟨_,res_1 Tryz.results35,rfl,(hB.trans hC7)⟩
 intro hb5
 rw [hb5] at ho
 refine W_skip ?_
 refine anz ?_
 refine wq ?_
 refine wq ?_
 refine Wq rfl hC4 ?_
 refine qv (v:=.int .i64 ((0:Int))) rfl (fun _ _=>oa _) ?_
 intro wd8 hC9
 refine anz ?_
 refine W_for (S1:=Int) (fun (s0_5:Int) r w'=>Chg [] w w'∧∃ F,r=updL F [(0,v_x0),(1,v_x1),(5,.int .i64 (s0_5))]) (T:=laws_eqInt64S_T w) ho ⟨(hB.trans hC9),fr ⟨rfl,rfl,rfl,trivial⟩⟩ ?_ ?_ ?_
 intro x r w' ho hx; subst ho; exact hx
 rintro s0_5 _ wd10 ⟨hB,F,rfl⟩ o ho
 replace ho:laws_eqInt64S_L0 x0 x1 s0_5=some o:=ho
 unfold laws_eqInt64S_L0 at ho
 refine wq ?_
 refine wq ?_
 refine Wq rfl (cr [] wd10) ?_
 refine qv (v:=.int .i64 (s0_5)) rfl (fun _ _=>om _) ?_
 refine qv (v:=v_x0) rfl (fun _ _=>om _) ?_
 refine qv (v:=.int .i64 ((x0.length:Int))) rfl (fun _ hC=>op_lenI u22z (kp _ h_x0 (hB.trans hC))) ?_
 refine qv (v:=.bool (decide (s0_5 < (x0.length:Int)))) rfl (fun _ _=>op_bin rfl rfl bin_lss) ?_
 intro wd11 hC12
 refine anz ?_
 refine W_cond (b:=decide (s0_5 < (x0.length:Int))) rfl ?_ ?_
 intro hb13
 rw [hb13] at ho
 refine W_skip ?_
 refine anz ?_
 refine wq ?_
 refine W_block ?_
 refine wq ?_
 refine Wqd rfl (by kernel_rfl) hC12 ?_
 refine qv (v:=v_x0) rfl (fun _ _=>om _) ?_
 refine qv (v:=.int .i64 (s0_5)) rfl (fun _ _=>om _) ?_
 obtain ⟨e14,hx15e,ho⟩:=bs ho
 have hx15:=idx_some hx15e
 refine qv (v:=.pointer (some (elA (v_x0) 1 (s0_5)))) rfl (fun _ hC=>op_indexI u22z info2 sz2 rfl (kp _ h_x0 (hB.trans hC)) rfl hx15.1 hx15.2) ?_
 refine qv (v:=.int .i64 (e14)) rfl (fun _ hC=>oldz u2z rfl rfl (int_get (kp _ h_x0 (hB.trans hC)) hx15.1 hx15.2)) ?_
 refine qv (v:=v_x1) rfl (fun _ _=>om _) ?_
 refine qv (v:=.int .i64 (s0_5)) rfl (fun _ _=>om _) ?_
 obtain ⟨e16,hx17e,ho⟩:=bs ho
 have hx17:=idx_some hx17e
 refine qv (v:=.pointer (some (elA (v_x1) 1 (s0_5)))) rfl (fun _ hC=>op_indexI u22z info2 sz2 rfl (kp _ h_x1 (hB.trans hC)) rfl hx17.1 hx17.2) ?_
 refine qv (v:=.int .i64 (e16)) rfl (fun _ hC=>oldz u2z rfl rfl (int_get (kp _ h_x1 (hB.trans hC)) hx17.1 hx17.2)) ?_
 refine qv (v:=.bool ((e14) != (e16))) rfl (fun _ _=>op_bin rfl rfl bin_neq) ?_
 intro wd18 hC19
 refine anz ?_
 refine W_cond (b:=(e14) != (e16)) rfl ?_ ?_
 intro hb20
 rw [hb20] at ho
 refine wq ?_
 refine Wq rfl hC19 ?_
 refine qv (v:=.bool (false)) rfl (fun _ _=>oa _) ?_
 intro wd21 hC22
 refine anz ?_
 cases ho
 exact W_ret ⟨_,res_1 Tryz.results35,rfl,(hB.trans hC22)⟩
 intro hb20
 rw [hb20] at ho
 refine W_skip ?_
 refine inBlk_n ?_
 refine anz ?_
 refine Wq rfl hC19 ?_
 refine qv (v:=.int .i64 (s0_5)) rfl (fun _ _=>om _) ?_
 refine qv (v:=.int .i64 (w64 (s0_5 + (1:Int)))) rfl (fun _ _=>op_bin rfl rfl bin_add) ?_
 refine qv (v:=.int .i64 (w64 (s0_5 + (1:Int)))) rfl (fun _ _=>oa _) ?_
 intro wd23 hC24
 cases ho
 exact ⟨(hB.trans hC24),fr ⟨rfl,rfl,rfl,trivial⟩⟩
 intro hb13
 rw [hb13] at ho
 refine W_exit ?_
 refine andThen_x ?_
 cases ho
 exact ⟨rfl,⟨(hB.trans hC12),fr ⟨rfl,rfl,rfl,trivial⟩⟩⟩
 rintro s0_5 _ wd25 ⟨hB,F,rfl⟩ ho
 replace ho:=ho
 refine anz ?_
 refine wq ?_
 refine Wq rfl (cr [] wd25) ?_
 refine qv (v:=.bool (true)) rfl (fun _ _=>oa _) ?_
 intro wd26 hC27
 refine anz ?_
 cases ho
 exact W_ret ⟨_,res_1 Tryz.results35,rfl,(hB.trans hC27)⟩

noncomputable def laws_eqInt64SS_L0 (x0:(List (List Int))) (x1:(List (List Int))) (s0_5:Int):Option (Out (Int) (Bool)):=
 (bif decide (s0_5 < (x0.length:Int)) then ((idx x0 (s0_5))>>=fun e14=>((idx x1 (s0_5))>>=fun e21=>((laws_eqInt64S e14 e21)>>=fun y28=>(bif !(y28) then (some (Out.ret (false))) else (some (Out.norm (w64 (s0_5 + (1:Int))))))))) else (some (Out.exit 0 (s0_5))))
noncomputable def laws_eqInt64SS (x0:(List (List Int))) (x1:(List (List Int))):Option (Bool):=
 retM (S:=Unit) (bif ((x0.length:Int)) != ((x1.length:Int)) then (some (Out.ret (false))) else (lbind (blockM 0 (loopM (laws_eqInt64SS_L0 x0 x1) ((0:Int)))) (fun s0_5=>(some (Out.ret (true))))))
abbrev laws_eqInt64SS_post (w:World) (x:(Bool)) (e:Ending) (w':World):Prop:=e = .returned (.bool x)∧Chg [] w w'
abbrev laws_eqInt64SS_T (w:World) (x:(Bool)) (r:Nat→Value) (w':World):Prop:=∃ v,(∀ a:Act,a.tmps.size=27→rho a=r→(results Tryz.f40 a.tmps).run Tryz.prog w' = .ok v w')∧laws_eqInt64SS_post w x (.returned v) w'
theorem laws_eqInt64SS_calls {w:World} {x0:(List (List Int))} {v_x0:Value} {f_x0:List Nat} {x1:(List (List Int))} {v_x1:Value} {f_x1:List Nat} (h_x0:(sImm (sImm (sInt .i64))).rep w.heap [v_x0] x0 f_x0) (h_x1:(sImm (sImm (sInt .i64))).rep w.heap [v_x1] x1 f_x1) {y:(Bool)} (hm:laws_eqInt64SS x0 x1=some y) :
  Calls Tryz.prog 40 #[v_x0,v_x1] w (laws_eqInt64SS_post w y):=by
 refine calls_of_M (S:=Unit) (args:=[v_x0,v_x1]) Tryz.func40 rfl Tryz.ntmps40 (Nat.le_of_ble_eq_true rfl) (retM_some hm) ?_
 clear hm
 intro o ho
 have hB:Chg [] w w:=cr _ _
 refine wq ?_
 refine Wq rfl (cr [] w) ?_
 refine qv (v:=.bool (false)) rfl (fun _ _=>oa _) ?_
 intro wd1 hC2
 refine anz ?_
 refine wq ?_
 refine wq ?_
 refine Wq rfl hC2 ?_
 refine qv (v:=v_x0) rfl (fun _ _=>om _) ?_
 refine qv (v:=.int .i64 ((x0.length:Int))) rfl (fun _ hC=>op_lenI u23z (kp _ h_x0 (hB.trans hC))) ?_
 refine qv (v:=v_x1) rfl (fun _ _=>om _) ?_
 refine qv (v:=.int .i64 ((x1.length:Int))) rfl (fun _ hC=>op_lenI u23z (kp _ h_x1 (hB.trans hC))) ?_
 refine qv (v:=.bool (((x0.length:Int)) != ((x1.length:Int)))) rfl (fun _ _=>op_bin rfl rfl bin_neq) ?_
 intro wd3 hC4
 refine anz ?_
 refine W_cond (b:=((x0.length:Int)) != ((x1.length:Int))) rfl ?_ ?_
 intro hb5
 rw [hb5] at ho
 refine wq ?_
 refine Wq rfl hC4 ?_
 refine qv (v:=.bool (false)) rfl (fun _ _=>oa _) ?_
 intro wd6 hC7
 refine anz ?_
 cases ho
 exact W_ret ⟨_,res_1 Tryz.results40,rfl,(hB.trans hC7)⟩
 intro hb5
 rw [hb5] at ho
 refine W_skip ?_
 refine anz ?_
 refine wq ?_
 refine wq ?_
 refine Wq rfl hC4 ?_
 refine qv (v:=.int .i64 ((0:Int))) rfl (fun _ _=>oa _) ?_
 intro wd8 hC9
 refine anz ?_
 refine W_for (S1:=Int) (fun (s0_5:Int) r w'=>Chg [] w w'∧∃ F,r=updL F [(0,v_x0),(1,v_x1),(5,.int .i64 (s0_5))]) (T:=laws_eqInt64SS_T w) ho ⟨(hB.trans hC9),fr ⟨rfl,rfl,rfl,trivial⟩⟩ ?_ ?_ ?_
 intro x r w' ho hx; subst ho; exact hx
 rintro s0_5 _ wd10 ⟨hB,F,rfl⟩ o ho
 replace ho:laws_eqInt64SS_L0 x0 x1 s0_5=some o:=ho
 unfold laws_eqInt64SS_L0 at ho
 refine wq ?_
 refine wq ?_
 refine Wq rfl (cr [] wd10) ?_
 refine qv (v:=.int .i64 (s0_5)) rfl (fun _ _=>om _) ?_
 refine qv (v:=v_x0) rfl (fun _ _=>om _) ?_
 refine qv (v:=.int .i64 ((x0.length:Int))) rfl (fun _ hC=>op_lenI u23z (kp _ h_x0 (hB.trans hC))) ?_
 refine qv (v:=.bool (decide (s0_5 < (x0.length:Int)))) rfl (fun _ _=>op_bin rfl rfl bin_lss) ?_
 intro wd11 hC12
 refine anz ?_
 refine W_cond (b:=decide (s0_5 < (x0.length:Int))) rfl ?_ ?_
 intro hb13
 rw [hb13] at ho
 refine W_skip ?_
 refine anz ?_
 refine wq ?_
 refine W_block ?_
 refine wq ?_
 refine Wqd rfl (by kernel_rfl) hC12 ?_
 refine qv (v:=v_x0) rfl (fun _ _=>om _) ?_
 refine qv (v:=.int .i64 (s0_5)) rfl (fun _ _=>om _) ?_
 obtain ⟨e14,hx15e,ho⟩:=bs ho
 have hx15:=idx_some hx15e
 refine qv (v:=.pointer (some (elA (v_x0) 1 (s0_5)))) rfl (fun _ hC=>op_indexI u23z info22 sz22 rfl (kp _ h_x0 (hB.trans hC)) rfl hx15.1 hx15.2) ?_
 obtain ⟨u16,fu17,hu18,hr19,hs20⟩:=one_get rfl h_x0 hx15.1 hx15.2
 refine qv (v:=u16) rfl (fun _ hC=>oldz u22z rfl rfl ((hB.trans hC).cell0 hu18)) ?_
 refine qv (v:=v_x1) rfl (fun _ _=>om _) ?_
 refine qv (v:=.int .i64 (s0_5)) rfl (fun _ _=>om _) ?_
 obtain ⟨e21,hx22e,ho⟩:=bs ho
 have hx22:=idx_some hx22e
 refine qv (v:=.pointer (some (elA (v_x1) 1 (s0_5)))) rfl (fun _ hC=>op_indexI u23z info22 sz22 rfl (kp _ h_x1 (hB.trans hC)) rfl hx22.1 hx22.2) ?_
 obtain ⟨u23,fu24,hu25,hr26,hs27⟩:=one_get rfl h_x1 hx22.1 hx22.2
 refine qv (v:=u23) rfl (fun _ hC=>oldz u22z rfl rfl ((hB.trans hC).cell0 hu25)) ?_
 obtain ⟨y28,hy29,ho⟩:=bs ho
 refine QL.call (v:=.bool (y28)) rfl (fun _ _=>op_callF Tryz.func35 rfl rfl) (fun _ hC=>(laws_eqInt64S_calls (kp _ hr19 (hB.trans hC)) (kp _ hr26 (hB.trans hC)) hy29).mono fun _ _ h=>⟨h.1,hC.trans h.2⟩) ?_
 refine qv (v:=.bool (!(y28))) rfl (fun _ _=>op_not rfl) ?_
 intro wd30 hC31
 refine anz ?_
 refine W_cond (b:=!(y28)) rfl ?_ ?_
 intro hb32
 rw [hb32] at ho
 refine wq ?_
 refine Wq rfl hC31 ?_
 refine qv (v:=.bool (false)) rfl (fun _ _=>oa _) ?_
 intro wd33 hC34
 refine anz ?_
 cases ho
 exact W_ret ⟨_,res_1 Tryz.results40,rfl,(hB.trans hC34)⟩
 intro hb32
 rw [hb32] at ho
 refine W_skip ?_
 refine inBlk_n ?_
 refine anz ?_
 refine Wq rfl hC31 ?_
 refine qv (v:=.int .i64 (s0_5)) rfl (fun _ _=>om _) ?_
 refine qv (v:=.int .i64 (w64 (s0_5 + (1:Int)))) rfl (fun _ _=>op_bin rfl rfl bin_add) ?_
 refine qv (v:=.int .i64 (w64 (s0_5 + (1:Int)))) rfl (fun _ _=>oa _) ?_
 intro wd35 hC36
 cases ho
 exact ⟨(hB.trans hC36),fr ⟨rfl,rfl,rfl,trivial⟩⟩
 intro hb13
 rw [hb13] at ho
 refine W_exit ?_
 refine andThen_x ?_
 cases ho
 exact ⟨rfl,⟨(hB.trans hC12),fr ⟨rfl,rfl,rfl,trivial⟩⟩⟩
 rintro s0_5 _ wd37 ⟨hB,F,rfl⟩ ho
 replace ho:=ho
 refine anz ?_
 refine wq ?_
 refine Wq rfl (cr [] wd37) ?_
 refine qv (v:=.bool (true)) rfl (fun _ _=>oa _) ?_
 intro wd38 hC39
 refine anz ?_
 cases ho
 exact W_ret ⟨_,res_1 Tryz.results40,rfl,(hB.trans hC39)⟩

noncomputable def laws_eqCategory (x0:MCategory) (x1:MCategory):Option (Bool):=
 retM (S:=Unit) (bif (x0.Objects) != (x1.Objects) then (some (Out.ret (false))) else ((laws_eqInt64S x0.From x1.From)>>=fun y21=>(bif !(y21) then (some (Out.ret (false))) else ((laws_eqInt64S x0.To x1.To)>>=fun y28=>(bif !(y28) then (some (Out.ret (false))) else ((laws_eqInt64S x0.Identity x1.Identity)>>=fun y35=>(bif !(y35) then (some (Out.ret (false))) else ((laws_eqInt64SS x0.Composites x1.Composites)>>=fun y42=>(bif !(y42) then (some (Out.ret (false))) else (some (Out.ret (true))))))))))))
abbrev laws_eqCategory_post (w:World) (x:(Bool)) (e:Ending) (w':World):Prop:=e = .returned (.bool x)∧Chg [] w w'
abbrev laws_eqCategory_T (w:World) (x:(Bool)) (r:Nat→Value) (w':World):Prop:=∃ v,(∀ a:Act,a.tmps.size=34→rho a=r→(results Tryz.f20 a.tmps).run Tryz.prog w' = .ok v w')∧laws_eqCategory_post w x (.returned v) w'
theorem laws_eqCategory_calls {w:World} {x0:MCategory} {z6:Value} {zh:List Nat} {z7:Value} {zg:List Nat} {z9:Value} {zf:List Nat} {z8:Value} {ze:List Nat} {x1:MCategory} {z1a:Value} {z27:List Nat} {z1b:Value} {z28:List Nat} {z12:Value} {z29:List Nat} {z1c:Value} {z2a:List Nat} (za:(sImm (sInt .i64)).rep w.heap [z6] x0.From zh) (zb:(sImm (sInt .i64)).rep w.heap [z7] x0.To zg) (zd:(sImm (sInt .i64)).rep w.heap [z9] x0.Identity zf) (zc:(sImm (sImm (sInt .i64))).rep w.heap [z8] x0.Composites ze) (z2g:(sImm (sInt .i64)).rep w.heap [z1a] x1.From z27) (z2h:(sImm (sInt .i64)).rep w.heap [z1b] x1.To z28) (z25:(sImm (sInt .i64)).rep w.heap [z12] x1.Identity z29) (z2i:(sImm (sImm (sInt .i64))).rep w.heap [z1c] x1.Composites z2a) {y:(Bool)} (hm:laws_eqCategory x0 x1=some y) :
  Calls Tryz.prog 20 #[.agg #[.int .i64 (x0.Objects),z6,z7,z9,z8],.agg #[.int .i64 (x1.Objects),z1a,z1b,z12,z1c]] w (laws_eqCategory_post w y):=by
 refine calls_of_M (S:=Unit) (args:=[.agg #[.int .i64 (x0.Objects),z6,z7,z9,z8],.agg #[.int .i64 (x1.Objects),z1a,z1b,z12,z1c]]) Tryz.func20 rfl Tryz.ntmps20 (Nat.le_of_ble_eq_true rfl) (retM_some hm) ?_
 clear hm
 intro o ho
 have hB:Chg [] w w:=cr _ _
 refine wq ?_
 refine W_region rfl ?_
 refine WL.box fun b1 wd2 hC3 hr4 hl5=>?_
 replace hr4:Row wd2 b1 [.int .i64 (x0.Objects),z6,z7,z9,z8] 27:=hr4
 have hT7:=(cr [] w).trans hC3
 replace hB:=(hB.trans hT7)
 refine WL.box fun b8 wd9 hC10 hr11 hl12=>?_
 replace hr11:Row wd9 b8 [.int .i64 (x1.Objects),z1a,z1b,z12,z1c] 27:=hr11
 have hT15:=(cr [] wd2).trans hC10
 replace hr4:=kr hr4 hT15
 replace hB:=(hB.trans hT15)
 refine wv (v:=.bool (false)) rfl (oa _) ?_
 refine anz ?_
 refine wq ?_
 refine wq ?_
 refine Wq rfl (cr [] wd9) ?_
 refine qv (v:=.pointer (some (⟨b1,0,none⟩))) rfl (fun _ _=>op_fieldAddrR u27z rfl info2 ne2 rfl rfl) ?_
 refine qv (v:=.int .i64 (x0.Objects)) rfl (fun _ hC=>oldz u2z rfl rfl ((kr hr4 hC).at.cell (j:=0) rfl)) ?_
 refine qv (v:=.pointer (some (⟨b8,0,none⟩))) rfl (fun _ _=>op_fieldAddrR u27z rfl info2 ne2 rfl rfl) ?_
 refine qv (v:=.int .i64 (x1.Objects)) rfl (fun _ hC=>oldz u2z rfl rfl ((kr hr11 hC).at.cell (j:=0) rfl)) ?_
 refine qv (v:=.bool ((x0.Objects) != (x1.Objects))) rfl (fun _ _=>op_bin rfl rfl bin_neq) ?_
 intro wd16 hC17
 refine anz ?_
 refine W_cond (b:=(x0.Objects) != (x1.Objects)) rfl ?_ ?_
 intro hb18
 rw [hb18] at ho
 refine wq ?_
 refine Wq rfl hC17 ?_
 refine qv (v:=.bool (false)) rfl (fun _ _=>oa _) ?_
 intro wd19 hC20
 refine anz ?_
 cases ho
 exact W_ret ⟨_,res_1 Tryz.results20,rfl,(hB.trans hC20)⟩
 intro hb18
 rw [hb18] at ho
 refine W_skip ?_
 refine anz ?_
 refine wq ?_
 refine wq ?_
 refine Wq rfl hC17 ?_
 refine qv (v:=.pointer (some (⟨b1,1,none⟩))) rfl (fun _ _=>op_fieldAddrR u27z rfl info22 ne22 rfl rfl) ?_
 refine qv (v:=z6) rfl (fun _ hC=>oldz u22z rfl rfl ((kr hr4 hC).at.cell (j:=1) rfl)) ?_
 refine qv (v:=.pointer (some (⟨b8,1,none⟩))) rfl (fun _ _=>op_fieldAddrR u27z rfl info22 ne22 rfl rfl) ?_
 refine qv (v:=z1a) rfl (fun _ hC=>oldz u22z rfl rfl ((kr hr11 hC).at.cell (j:=1) rfl)) ?_
 obtain ⟨y21,hy22,ho⟩:=bs ho
 refine QL.call (v:=.bool (y21)) rfl (fun _ _=>op_callF Tryz.func35 rfl rfl) (fun _ hC=>(laws_eqInt64S_calls (kp _ za (hB.trans hC)) (kp _ z2g (hB.trans hC)) hy22).mono fun _ _ h=>⟨h.1,hC.trans h.2⟩) ?_
 refine qv (v:=.bool (!(y21))) rfl (fun _ _=>op_not rfl) ?_
 intro wd23 hC24
 refine anz ?_
 refine W_cond (b:=!(y21)) rfl ?_ ?_
 intro hb25
 rw [hb25] at ho
 refine wq ?_
 refine Wq rfl hC24 ?_
 refine qv (v:=.bool (false)) rfl (fun _ _=>oa _) ?_
 intro wd26 hC27
 refine anz ?_
 cases ho
 exact W_ret ⟨_,res_1 Tryz.results20,rfl,(hB.trans hC27)⟩
 intro hb25
 rw [hb25] at ho
 refine W_skip ?_
 refine anz ?_
 refine wq ?_
 refine wq ?_
 refine Wq rfl hC24 ?_
 refine qv (v:=.pointer (some (⟨b1,2,none⟩))) rfl (fun _ _=>op_fieldAddrR u27z rfl info22 ne22 rfl rfl) ?_
 refine qv (v:=z7) rfl (fun _ hC=>oldz u22z rfl rfl ((kr hr4 hC).at.cell (j:=2) rfl)) ?_
 refine qv (v:=.pointer (some (⟨b8,2,none⟩))) rfl (fun _ _=>op_fieldAddrR u27z rfl info22 ne22 rfl rfl) ?_
 refine qv (v:=z1b) rfl (fun _ hC=>oldz u22z rfl rfl ((kr hr11 hC).at.cell (j:=2) rfl)) ?_
 obtain ⟨y28,hy29,ho⟩:=bs ho
 refine QL.call (v:=.bool (y28)) rfl (fun _ _=>op_callF Tryz.func35 rfl rfl) (fun _ hC=>(laws_eqInt64S_calls (kp _ zb (hB.trans hC)) (kp _ z2h (hB.trans hC)) hy29).mono fun _ _ h=>⟨h.1,hC.trans h.2⟩) ?_
 refine qv (v:=.bool (!(y28))) rfl (fun _ _=>op_not rfl) ?_
 intro wd30 hC31
 refine anz ?_
 refine W_cond (b:=!(y28)) rfl ?_ ?_
 intro hb32
 rw [hb32] at ho
 refine wq ?_
 refine Wq rfl hC31 ?_
 refine qv (v:=.bool (false)) rfl (fun _ _=>oa _) ?_
 intro wd33 hC34
 refine anz ?_
 cases ho
 exact W_ret ⟨_,res_1 Tryz.results20,rfl,(hB.trans hC34)⟩
 intro hb32
 rw [hb32] at ho
 refine W_skip ?_
 refine anz ?_
 refine wq ?_
 refine wq ?_
 refine Wq rfl hC31 ?_
 refine qv (v:=.pointer (some (⟨b1,3,none⟩))) rfl (fun _ _=>op_fieldAddrR u27z rfl info22 ne22 rfl rfl) ?_
 refine qv (v:=z9) rfl (fun _ hC=>oldz u22z rfl rfl ((kr hr4 hC).at.cell (j:=3) rfl)) ?_
 refine qv (v:=.pointer (some (⟨b8,3,none⟩))) rfl (fun _ _=>op_fieldAddrR u27z rfl info22 ne22 rfl rfl) ?_
 refine qv (v:=z12) rfl (fun _ hC=>oldz u22z rfl rfl ((kr hr11 hC).at.cell (j:=3) rfl)) ?_
 obtain ⟨y35,hy36,ho⟩:=bs ho
 refine QL.call (v:=.bool (y35)) rfl (fun _ _=>op_callF Tryz.func35 rfl rfl) (fun _ hC=>(laws_eqInt64S_calls (kp _ zd (hB.trans hC)) (kp _ z25 (hB.trans hC)) hy36).mono fun _ _ h=>⟨h.1,hC.trans h.2⟩) ?_
 refine qv (v:=.bool (!(y35))) rfl (fun _ _=>op_not rfl) ?_
 intro wd37 hC38
 refine anz ?_
 refine W_cond (b:=!(y35)) rfl ?_ ?_
 intro hb39
 rw [hb39] at ho
 refine wq ?_
 refine Wq rfl hC38 ?_
 refine qv (v:=.bool (false)) rfl (fun _ _=>oa _) ?_
 intro wd40 hC41
 refine anz ?_
 cases ho
 exact W_ret ⟨_,res_1 Tryz.results20,rfl,(hB.trans hC41)⟩
 intro hb39
 rw [hb39] at ho
 refine W_skip ?_
 refine anz ?_
 refine wq ?_
 refine wq ?_
 refine Wq rfl hC38 ?_
 refine qv (v:=.pointer (some (⟨b1,4,none⟩))) rfl (fun _ _=>op_fieldAddrR u27z rfl info23 ne23 rfl rfl) ?_
 refine qv (v:=z8) rfl (fun _ hC=>oldz u23z rfl rfl ((kr hr4 hC).at.cell (j:=4) rfl)) ?_
 refine qv (v:=.pointer (some (⟨b8,4,none⟩))) rfl (fun _ _=>op_fieldAddrR u27z rfl info23 ne23 rfl rfl) ?_
 refine qv (v:=z1c) rfl (fun _ hC=>oldz u23z rfl rfl ((kr hr11 hC).at.cell (j:=4) rfl)) ?_
 obtain ⟨y42,hy43,ho⟩:=bs ho
 refine QL.call (v:=.bool (y42)) rfl (fun _ _=>op_callF Tryz.func40 rfl rfl) (fun _ hC=>(laws_eqInt64SS_calls (kp _ zc (hB.trans hC)) (kp _ z2i (hB.trans hC)) hy43).mono fun _ _ h=>⟨h.1,hC.trans h.2⟩) ?_
 refine qv (v:=.bool (!(y42))) rfl (fun _ _=>op_not rfl) ?_
 intro wd44 hC45
 refine anz ?_
 refine W_cond (b:=!(y42)) rfl ?_ ?_
 intro hb46
 rw [hb46] at ho
 refine wq ?_
 refine Wq rfl hC45 ?_
 refine qv (v:=.bool (false)) rfl (fun _ _=>oa _) ?_
 intro wd47 hC48
 refine anz ?_
 cases ho
 exact W_ret ⟨_,res_1 Tryz.results20,rfl,(hB.trans hC48)⟩
 intro hb46
 rw [hb46] at ho
 refine W_skip ?_
 refine anz ?_
 refine wq ?_
 refine Wq rfl hC45 ?_
 refine qv (v:=.bool (true)) rfl (fun _ _=>oa _) ?_
 intro wd49 hC50
 refine anz ?_
 cases ho
 exact W_ret ⟨_,res_1 Tryz.results20,rfl,(hB.trans hC50)⟩

noncomputable def laws_eqInt64SSS_L0 (x0:(List (List (List Int)))) (x1:(List (List (List Int)))) (s0_5:Int):Option (Out (Int) (Bool)):=
 (bif decide (s0_5 < (x0.length:Int)) then ((idx x0 (s0_5))>>=fun e14=>((idx x1 (s0_5))>>=fun e21=>((laws_eqInt64SS e14 e21)>>=fun y28=>(bif !(y28) then (some (Out.ret (false))) else (some (Out.norm (w64 (s0_5 + (1:Int))))))))) else (some (Out.exit 0 (s0_5))))
noncomputable def laws_eqInt64SSS (x0:(List (List (List Int)))) (x1:(List (List (List Int)))):Option (Bool):=
 retM (S:=Unit) (bif ((x0.length:Int)) != ((x1.length:Int)) then (some (Out.ret (false))) else (lbind (blockM 0 (loopM (laws_eqInt64SSS_L0 x0 x1) ((0:Int)))) (fun s0_5=>(some (Out.ret (true))))))
abbrev laws_eqInt64SSS_post (w:World) (x:(Bool)) (e:Ending) (w':World):Prop:=e = .returned (.bool x)∧Chg [] w w'
abbrev laws_eqInt64SSS_T (w:World) (x:(Bool)) (r:Nat→Value) (w':World):Prop:=∃ v,(∀ a:Act,a.tmps.size=27→rho a=r→(results Tryz.f68 a.tmps).run Tryz.prog w' = .ok v w')∧laws_eqInt64SSS_post w x (.returned v) w'
theorem laws_eqInt64SSS_calls {w:World} {x0:(List (List (List Int)))} {v_x0:Value} {f_x0:List Nat} {x1:(List (List (List Int)))} {v_x1:Value} {f_x1:List Nat} (h_x0:(sImm (sImm (sImm (sInt .i64)))).rep w.heap [v_x0] x0 f_x0) (h_x1:(sImm (sImm (sImm (sInt .i64)))).rep w.heap [v_x1] x1 f_x1) {y:(Bool)} (hm:laws_eqInt64SSS x0 x1=some y) :
  Calls Tryz.prog 68 #[v_x0,v_x1] w (laws_eqInt64SSS_post w y):=by
 refine calls_of_M (S:=Unit) (args:=[v_x0,v_x1]) Tryz.func68 rfl Tryz.ntmps68 (Nat.le_of_ble_eq_true rfl) (retM_some hm) ?_
 clear hm
 intro o ho
 have hB:Chg [] w w:=cr _ _
 refine wq ?_
 refine Wq rfl (cr [] w) ?_
 refine qv (v:=.bool (false)) rfl (fun _ _=>oa _) ?_
 intro wd1 hC2
 refine anz ?_
 refine wq ?_
 refine wq ?_
 refine Wq rfl hC2 ?_
 refine qv (v:=v_x0) rfl (fun _ _=>om _) ?_
 refine qv (v:=.int .i64 ((x0.length:Int))) rfl (fun _ hC=>op_lenI u28 (kp _ h_x0 (hB.trans hC))) ?_
 refine qv (v:=v_x1) rfl (fun _ _=>om _) ?_
 refine qv (v:=.int .i64 ((x1.length:Int))) rfl (fun _ hC=>op_lenI u28 (kp _ h_x1 (hB.trans hC))) ?_
 refine qv (v:=.bool (((x0.length:Int)) != ((x1.length:Int)))) rfl (fun _ _=>op_bin rfl rfl bin_neq) ?_
 intro wd3 hC4
 refine anz ?_
 refine W_cond (b:=((x0.length:Int)) != ((x1.length:Int))) rfl ?_ ?_
 intro hb5
 rw [hb5] at ho
 refine wq ?_
 refine Wq rfl hC4 ?_
 refine qv (v:=.bool (false)) rfl (fun _ _=>oa _) ?_
 intro wd6 hC7
 refine anz ?_
 cases ho
 exact W_ret ⟨_,res_1 Tryz.results68,rfl,(hB.trans hC7)⟩
 intro hb5
 rw [hb5] at ho
 refine W_skip ?_
 refine anz ?_
 refine wq ?_
 refine wq ?_
 refine Wq rfl hC4 ?_
 refine qv (v:=.int .i64 ((0:Int))) rfl (fun _ _=>oa _) ?_
 intro wd8 hC9
 refine anz ?_
 refine W_for (S1:=Int) (fun (s0_5:Int) r w'=>Chg [] w w'∧∃ F,r=updL F [(0,v_x0),(1,v_x1),(5,.int .i64 (s0_5))]) (T:=laws_eqInt64SSS_T w) ho ⟨(hB.trans hC9),fr ⟨rfl,rfl,rfl,trivial⟩⟩ ?_ ?_ ?_
 intro x r w' ho hx; subst ho; exact hx
 rintro s0_5 _ wd10 ⟨hB,F,rfl⟩ o ho
 replace ho:laws_eqInt64SSS_L0 x0 x1 s0_5=some o:=ho
 unfold laws_eqInt64SSS_L0 at ho
 refine wq ?_
 refine wq ?_
 refine Wq rfl (cr [] wd10) ?_
 refine qv (v:=.int .i64 (s0_5)) rfl (fun _ _=>om _) ?_
 refine qv (v:=v_x0) rfl (fun _ _=>om _) ?_
 refine qv (v:=.int .i64 ((x0.length:Int))) rfl (fun _ hC=>op_lenI u28 (kp _ h_x0 (hB.trans hC))) ?_
 refine qv (v:=.bool (decide (s0_5 < (x0.length:Int)))) rfl (fun _ _=>op_bin rfl rfl bin_lss) ?_
 intro wd11 hC12
 refine anz ?_
 refine W_cond (b:=decide (s0_5 < (x0.length:Int))) rfl ?_ ?_
 intro hb13
 rw [hb13] at ho
 refine W_skip ?_
 refine anz ?_
 refine wq ?_
 refine W_block ?_
 refine wq ?_
 refine Wqd rfl (by kernel_rfl) hC12 ?_
 refine qv (v:=v_x0) rfl (fun _ _=>om _) ?_
 refine qv (v:=.int .i64 (s0_5)) rfl (fun _ _=>om _) ?_
 obtain ⟨e14,hx15e,ho⟩:=bs ho
 have hx15:=idx_some hx15e
 refine qv (v:=.pointer (some (elA (v_x0) 1 (s0_5)))) rfl (fun _ hC=>op_indexI u28 info23 sz23 rfl (kp _ h_x0 (hB.trans hC)) rfl hx15.1 hx15.2) ?_
 obtain ⟨u16,fu17,hu18,hr19,hs20⟩:=one_get rfl h_x0 hx15.1 hx15.2
 refine qv (v:=u16) rfl (fun _ hC=>oldz u23z rfl rfl ((hB.trans hC).cell0 hu18)) ?_
 refine qv (v:=v_x1) rfl (fun _ _=>om _) ?_
 refine qv (v:=.int .i64 (s0_5)) rfl (fun _ _=>om _) ?_
 obtain ⟨e21,hx22e,ho⟩:=bs ho
 have hx22:=idx_some hx22e
 refine qv (v:=.pointer (some (elA (v_x1) 1 (s0_5)))) rfl (fun _ hC=>op_indexI u28 info23 sz23 rfl (kp _ h_x1 (hB.trans hC)) rfl hx22.1 hx22.2) ?_
 obtain ⟨u23,fu24,hu25,hr26,hs27⟩:=one_get rfl h_x1 hx22.1 hx22.2
 refine qv (v:=u23) rfl (fun _ hC=>oldz u23z rfl rfl ((hB.trans hC).cell0 hu25)) ?_
 obtain ⟨y28,hy29,ho⟩:=bs ho
 refine QL.call (v:=.bool (y28)) rfl (fun _ _=>op_callF Tryz.func40 rfl rfl) (fun _ hC=>(laws_eqInt64SS_calls (kp _ hr19 (hB.trans hC)) (kp _ hr26 (hB.trans hC)) hy29).mono fun _ _ h=>⟨h.1,hC.trans h.2⟩) ?_
 refine qv (v:=.bool (!(y28))) rfl (fun _ _=>op_not rfl) ?_
 intro wd30 hC31
 refine anz ?_
 refine W_cond (b:=!(y28)) rfl ?_ ?_
 intro hb32
 rw [hb32] at ho
 refine wq ?_
 refine Wq rfl hC31 ?_
 refine qv (v:=.bool (false)) rfl (fun _ _=>oa _) ?_
 intro wd33 hC34
 refine anz ?_
 cases ho
 exact W_ret ⟨_,res_1 Tryz.results68,rfl,(hB.trans hC34)⟩
 intro hb32
 rw [hb32] at ho
 refine W_skip ?_
 refine inBlk_n ?_
 refine anz ?_
 refine Wq rfl hC31 ?_
 refine qv (v:=.int .i64 (s0_5)) rfl (fun _ _=>om _) ?_
 refine qv (v:=.int .i64 (w64 (s0_5 + (1:Int)))) rfl (fun _ _=>op_bin rfl rfl bin_add) ?_
 refine qv (v:=.int .i64 (w64 (s0_5 + (1:Int)))) rfl (fun _ _=>oa _) ?_
 intro wd35 hC36
 cases ho
 exact ⟨(hB.trans hC36),fr ⟨rfl,rfl,rfl,trivial⟩⟩
 intro hb13
 rw [hb13] at ho
 refine W_exit ?_
 refine andThen_x ?_
 cases ho
 exact ⟨rfl,⟨(hB.trans hC12),fr ⟨rfl,rfl,rfl,trivial⟩⟩⟩
 rintro s0_5 _ wd37 ⟨hB,F,rfl⟩ ho
 replace ho:=ho
 refine anz ?_
 refine wq ?_
 refine Wq rfl (cr [] wd37) ?_
 refine qv (v:=.bool (true)) rfl (fun _ _=>oa _) ?_
 intro wd38 hC39
 refine anz ?_
 cases ho
 exact W_ret ⟨_,res_1 Tryz.results68,rfl,(hB.trans hC39)⟩

noncomputable def laws_eqTopology (x0:MTopology) (x1:MTopology):Option (Bool):=
 retM (S:=Unit) ((laws_eqCategory x0.Shape x1.Shape)>>=fun y16=>(bif !(y16) then (some (Out.ret (false))) else ((laws_eqInt64SSS x0.Covers x1.Covers)>>=fun y23=>(bif !(y23) then (some (Out.ret (false))) else (some (Out.ret (true)))))))
abbrev laws_eqTopology_post (w:World) (x:(Bool)) (e:Ending) (w':World):Prop:=e = .returned (.bool x)∧Chg [] w w'
abbrev laws_eqTopology_T (w:World) (x:(Bool)) (r:Nat→Value) (w':World):Prop:=∃ v,(∀ a:Act,a.tmps.size=17→rho a=r→(results Tryz.f19 a.tmps).run Tryz.prog w' = .ok v w')∧laws_eqTopology_post w x (.returned v) w'
theorem laws_eqTopology_calls {w:World} {x0:MTopology} {zo:Value} {zk:List Nat} {zp:Value} {zl:List Nat} {zq:Value} {zm:List Nat} {zr:Value} {zn:List Nat} {zj:Value} {zi:List Nat} {x1:MTopology} {z1t:Value} {z3d:List Nat} {z1u:Value} {z3e:List Nat} {z1v:Value} {z3f:List Nat} {z1w:Value} {z3g:List Nat} {z24:Value} {z3h:List Nat} (z2b:(sImm (sInt .i64)).rep w.heap [zo] x0.Shape.From zk) (z2c:(sImm (sInt .i64)).rep w.heap [zp] x0.Shape.To zl) (z2d:(sImm (sInt .i64)).rep w.heap [zq] x0.Shape.Identity zm) (z2e:(sImm (sImm (sInt .i64))).rep w.heap [zr] x0.Shape.Composites zn) (z1s:(sImm (sImm (sImm (sInt .i64)))).rep w.heap [zj] x0.Covers zi) (z3i:(sImm (sInt .i64)).rep w.heap [z1t] x1.Shape.From z3d) (z3j:(sImm (sInt .i64)).rep w.heap [z1u] x1.Shape.To z3e) (z3k:(sImm (sInt .i64)).rep w.heap [z1v] x1.Shape.Identity z3f) (z3l:(sImm (sImm (sInt .i64))).rep w.heap [z1w] x1.Shape.Composites z3g) (z3m:(sImm (sImm (sImm (sInt .i64)))).rep w.heap [z24] x1.Covers z3h) {y:(Bool)} (hm:laws_eqTopology x0 x1=some y) :
  Calls Tryz.prog 19 #[.agg #[.int .i64 (x0.Shape.Objects),zo,zp,zq,zr,zj],.agg #[.int .i64 (x1.Shape.Objects),z1t,z1u,z1v,z1w,z24]] w (laws_eqTopology_post w y):=by
 refine calls_of_M (S:=Unit) (args:=[.agg #[.int .i64 (x0.Shape.Objects),zo,zp,zq,zr,zj],.agg #[.int .i64 (x1.Shape.Objects),z1t,z1u,z1v,z1w,z24]]) Tryz.func19 rfl Tryz.ntmps19 (Nat.le_of_ble_eq_true rfl) (retM_some hm) ?_
 clear hm
 intro o ho
 have hB:Chg [] w w:=cr _ _
 refine wq ?_
 refine W_region rfl ?_
 refine WL.box fun b1 wd2 hC3 hr4 hl5=>?_
 replace hr4:Row wd2 b1 [.int .i64 (x0.Shape.Objects),zo,zp,zq,zr,zj] 30:=hr4
 have hT7:=(cr [] w).trans hC3
 replace hB:=(hB.trans hT7)
 refine WL.box fun b8 wd9 hC10 hr11 hl12=>?_
 replace hr11:Row wd9 b8 [.int .i64 (x1.Shape.Objects),z1t,z1u,z1v,z1w,z24] 30:=hr11
 have hT15:=(cr [] wd2).trans hC10
 replace hr4:=kr hr4 hT15
 replace hB:=(hB.trans hT15)
 refine wv (v:=.bool (false)) rfl (oa _) ?_
 refine anz ?_
 refine wq ?_
 refine wq ?_
 refine Wq rfl (cr [] wd9) ?_
 refine qv (v:=.pointer (some (⟨b1,0,none⟩))) rfl (fun _ _=>op_fieldAddrR u30 rfl info27 ne27 rfl rfl) ?_
 refine qv (v:=.agg #[.int .i64 (x0.Shape.Objects),zo,zp,zq,zr]) rfl (fun _ hC=>op_loadAgg (cs:=[.int .i64 (x0.Shape.Objects),zo,zp,zq,zr]) u27z rfl info27 (by rw [sz27]; rfl) rfl (At.sub (kr hr4 hC).at 0 5)) ?_
 refine qv (v:=.pointer (some (⟨b8,0,none⟩))) rfl (fun _ _=>op_fieldAddrR u30 rfl info27 ne27 rfl rfl) ?_
 refine qv (v:=.agg #[.int .i64 (x1.Shape.Objects),z1t,z1u,z1v,z1w]) rfl (fun _ hC=>op_loadAgg (cs:=[.int .i64 (x1.Shape.Objects),z1t,z1u,z1v,z1w]) u27z rfl info27 (by rw [sz27]; rfl) rfl (At.sub (kr hr11 hC).at 0 5)) ?_
 obtain ⟨y16,hy17,ho⟩:=bs ho
 refine QL.call (v:=.bool (y16)) rfl (fun _ _=>op_callF Tryz.func20 rfl rfl) (fun _ hC=>(laws_eqCategory_calls (kp _ z2b (hB.trans hC)) (kp _ z2c (hB.trans hC)) (kp _ z2d (hB.trans hC)) (kp _ z2e (hB.trans hC)) (kp _ z3i (hB.trans hC)) (kp _ z3j (hB.trans hC)) (kp _ z3k (hB.trans hC)) (kp _ z3l (hB.trans hC)) hy17).mono fun _ _ h=>⟨h.1,hC.trans h.2⟩) ?_
 refine qv (v:=.bool (!(y16))) rfl (fun _ _=>op_not rfl) ?_
 intro wd18 hC19
 refine anz ?_
 refine W_cond (b:=!(y16)) rfl ?_ ?_
 intro hb20
 rw [hb20] at ho
 refine wq ?_
 refine Wq rfl hC19 ?_
 refine qv (v:=.bool (false)) rfl (fun _ _=>oa _) ?_
 intro wd21 hC22
 refine anz ?_
 cases ho
 exact W_ret ⟨_,res_1 Tryz.results19,rfl,(hB.trans hC22)⟩
 intro hb20
 rw [hb20] at ho
 refine W_skip ?_
 refine anz ?_
 refine wq ?_
 refine wq ?_
 refine Wq rfl hC19 ?_
 refine qv (v:=.pointer (some (⟨b1,5,none⟩))) rfl (fun _ _=>op_fieldAddrR u30 rfl info28 ne28 rfl rfl) ?_
 refine qv (v:=zj) rfl (fun _ hC=>oldz u28 rfl rfl ((kr hr4 hC).at.cell (j:=5) rfl)) ?_
 refine qv (v:=.pointer (some (⟨b8,5,none⟩))) rfl (fun _ _=>op_fieldAddrR u30 rfl info28 ne28 rfl rfl) ?_
 refine qv (v:=z24) rfl (fun _ hC=>oldz u28 rfl rfl ((kr hr11 hC).at.cell (j:=5) rfl)) ?_
 obtain ⟨y23,hy24,ho⟩:=bs ho
 refine QL.call (v:=.bool (y23)) rfl (fun _ _=>op_callF Tryz.func68 rfl rfl) (fun _ hC=>(laws_eqInt64SSS_calls (kp _ z1s (hB.trans hC)) (kp _ z3m (hB.trans hC)) hy24).mono fun _ _ h=>⟨h.1,hC.trans h.2⟩) ?_
 refine qv (v:=.bool (!(y23))) rfl (fun _ _=>op_not rfl) ?_
 intro wd25 hC26
 refine anz ?_
 refine W_cond (b:=!(y23)) rfl ?_ ?_
 intro hb27
 rw [hb27] at ho
 refine wq ?_
 refine Wq rfl hC26 ?_
 refine qv (v:=.bool (false)) rfl (fun _ _=>oa _) ?_
 intro wd28 hC29
 refine anz ?_
 cases ho
 exact W_ret ⟨_,res_1 Tryz.results19,rfl,(hB.trans hC29)⟩
 intro hb27
 rw [hb27] at ho
 refine W_skip ?_
 refine anz ?_
 refine wq ?_
 refine Wq rfl hC26 ?_
 refine qv (v:=.bool (true)) rfl (fun _ _=>oa _) ?_
 intro wd30 hC31
 refine anz ?_
 cases ho
 exact W_ret ⟨_,res_1 Tryz.results19,rfl,(hB.trans hC31)⟩
end Go.Proofs.YtfbijbginbjecaaGreat
