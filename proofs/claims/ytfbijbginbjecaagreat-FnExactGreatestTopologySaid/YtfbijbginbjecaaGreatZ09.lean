/- Walks, printed by a program: what each function computes (a model on plain data), and that a call computes it. No condition beside those that each theorem names. -/
import Derived.Test.YtfbijbginbjecaaGreatTy
import Derived.Test.YtfbijbginbjecaaGreatZ00
import Derived.Test.YtfbijbginbjecaaGreatZ03
import Derived.Test.YtfbijbginbjecaaGreatZ06
import Derived.Test.YtfbijbginbjecaaGreatZ07
namespace Go.Proofs.YtfbijbginbjecaaGreat
open Go Go.Li
set_option linter.unusedVariables false
set_option maxHeartbeats 4000000
set_option maxRecDepth 100000
noncomputable def spec_GreatestTopology_L1 (s0_7:Int) (s1_8:Int) (s1_o43:(List (List Bool))):Option (Out (Int×(List (List Bool))) (MTopology×Int)):=
 ((idx s1_o43 (s0_7))>>=fun e191=>(bif decide (s1_8 < (e191.length:Int)) then ((idx s1_o43 (s0_7))>>=fun e201=>((idx e201 (s1_8))>>=fun e208=>(some (Out.norm (w64 (s1_8 + (1:Int)),s1_o43.set (s0_7).toNat (e201.set (s1_8).toNat (true))))))) else (some (Out.exit 2 (s1_8,s1_o43)))))
noncomputable def spec_GreatestTopology_L0 (s0_7:Int) (s0_o43:(List (List Bool))):Option (Out (Int×(List (List Bool))) (MTopology×Int)):=
 (bif decide (s0_7 < (s0_o43.length:Int)) then (lbind (blockM 2 (loopM (fun s=>spec_GreatestTopology_L1 s0_7 s.1 s.2) ((0:Int),s0_o43))) (fun (s1_8,s1_o43)=>(some (Out.norm (w64 (s0_7 + (1:Int)),s1_o43))))) else (some (Out.exit 0 (s0_7,s0_o43))))
noncomputable def spec_GreatestTopology (x0:MCategory):Option (MTopology×Int):=
 retM (S:=Unit) ((spec_l27Category x0)>>=fun y16=>(bif (y16.2.2) != ((0:Int)) then (some (Out.ret (((MTopology.mk (MCategory.mk ((0:Int)) ([]) ([]) ([]) ([])) ([])),y16.2.2)))) else (lbind (blockM 0 (loopM (fun s=>spec_GreatestTopology_L0 s.1 s.2) ((0:Int),y16.2.1))) (fun (s0_7,s0_o43)=>((spec_l27Covers y16.1 s0_o43)>>=fun y246=>(some (Out.ret ((y246,((0:Int)))))))))))
abbrev spec_GreatestTopology_post (w:World) (x:(MTopology×Int)) (e:Ending) (w':World):Prop:=∃ (v0:Value) (f0:List Nat) (v1:Value) (f1:List Nat) (v2:Value) (f2:List Nat) (v3:Value) (f3:List Nat) (v4:Value) (f4:List Nat),e = .returned (.tuple #[.agg #[.int .i64 x.1.Shape.Objects,v0,v1,v2,v3,v4],.int .i64 x.2])∧Chg [] w w'∧OE [] w.heap.size w' (sOwn 2 (sInt .i64)) [v0] x.1.Shape.From f0∧OE [] w.heap.size w' (sOwn 2 (sInt .i64)) [v1] x.1.Shape.To f1∧OE [] w.heap.size w' (sOwn 2 (sInt .i64)) [v2] x.1.Shape.Identity f2∧OE [] w.heap.size w' (sOwn 22 (sOwn 2 (sInt .i64))) [v3] x.1.Shape.Composites f3∧OE [] w.heap.size w' (sOwn 23 (sOwn 22 (sOwn 2 (sInt .i64)))) [v4] x.1.Covers f4∧Dis f0 f1∧Dis f0 f2∧Dis f0 f3∧Dis f0 f4∧Dis f1 f2∧Dis f1 f3∧Dis f1 f4∧Dis f2 f3∧Dis f2 f4∧Dis f3 f4
abbrev spec_GreatestTopology_T (w:World) (x:(MTopology×Int)) (r:Nat→Value) (w':World):Prop:=∃ v,(∀ a:Act,a.tmps.size=43→rho a=r→(results Tryz.f24 a.tmps).run Tryz.prog w' = .ok v w')∧spec_GreatestTopology_post w x (.returned v) w'
theorem spec_GreatestTopology_calls {w:World} {x0:MCategory} {z6:Value} {zh:List Nat} {z7:Value} {zg:List Nat} {z9:Value} {zf:List Nat} {z8:Value} {ze:List Nat} (za:(sImm (sInt .i64)).rep w.heap [z6] x0.From zh) (zb:(sImm (sInt .i64)).rep w.heap [z7] x0.To zg) (zd:(sImm (sInt .i64)).rep w.heap [z9] x0.Identity zf) (zc:(sImm (sImm (sInt .i64))).rep w.heap [z8] x0.Composites ze) {y:(MTopology×Int)} (hm:spec_GreatestTopology x0=some y) :
  Calls Tryz.prog 24 #[.agg #[.int .i64 (x0.Objects),z6,z7,z9,z8]] w (spec_GreatestTopology_post w y):=by
 refine calls_of_M (S:=Unit) (args:=[.agg #[.int .i64 (x0.Objects),z6,z7,z9,z8]]) Tryz.func24 rfl Tryz.ntmps24 (Nat.le_of_ble_eq_true rfl) (retM_some hm) ?_
 clear hm
 intro o ho
 have hB:Chg [] w w:=cr _ _
 refine wq ?_
 refine W_region rfl ?_
 refine WL.box fun b1 wd2 hC3 hr4 hl5=>?_
 replace hr4:Row wd2 b1 [.int .i64 (x0.Objects),z6,z7,z9,z8] 27:=hr4
 have hT7:=(cr [] w).trans hC3
 replace hB:=(hB.trans hT7)
 refine WL.alloc info30 zr30 fun b8 wd9 p0p pb gg=>?_
 replace pb:Row wd9 b8 [.int .i64 ((0:Int)),.slice none 0 0,.slice none 0 0,.slice none 0 0,.slice none 0 0,.slice none 0 0] 30:=pb
 have px:w.heap.size≤b8:=Nat.le_trans (hB.trans (cr [] wd2)).size gg
 have d14:Dis [b8] [b1]:=dl (onw gg) (one_lt (Row.lt (kr hr4 (cr [] wd2))))
 have gh:=(cr [] wd2).trans p0p
 replace hr4:=kr hr4 gh
 replace hB:=(hB.trans gh)
 refine wv (v:=.int .i64 ((0:Int))) rfl (oa _) ?_
 refine anz ?_
 refine wq ?_
 refine W_region rfl ?_
 refine wv (v:=.agg #[.int .i64 (x0.Objects),z6,z7,z9,z8]) rfl (op_loadAgg u27z rfl info27 (by rw [sz27]; rfl) rfl (kr hr4 (cr [] wd9)).at) ?_
 obtain ⟨y16,p0r,ho⟩:=bs ho
 refine WL.call rfl (op_callF Tryz.func62 rfl rfl) (spec_l27Category_calls (kp _ za (hB.trans (cr [] wd9))) (kp _ zb (hB.trans (cr [] wd9))) (kp _ zd (hB.trans (cr [] wd9))) (kp _ zc (hB.trans (cr [] wd9))) p0r) ?_
 rintro _ jf ⟨v20,ji,v23,q3,v26,q4,v29,q5,v32,q6,v35,jv,v38,jw,v41,f42,rfl,p0s,pr,p3g,p1,p3h,p2,p3i,p3,p3j,p4,p3k,q7,p3l,q8,p3m,pw,d50,d56,d61,d65,d68,d70,d71⟩
 refine ⟨_,rfl,?_⟩
 have d81:Dis ji [b8]:=dis_out p3g (da (dis_par (sl _ za) (one_then px)) (da (dis_par (sl _ zb) (one_then px)) (da (dis_par (sl _ zd) (one_then px)) (dis_par (sl _ zc) (one_then px))))) (one_lt (Row.lt (kr pb (cr [] wd9))))
 have d84:Dis q3 [b8]:=dis_out p3h (da (dis_par (sl _ za) (one_then px)) (da (dis_par (sl _ zb) (one_then px)) (da (dis_par (sl _ zd) (one_then px)) (dis_par (sl _ zc) (one_then px))))) (one_lt (Row.lt (kr pb (cr [] wd9))))
 have d87:Dis q4 [b8]:=dis_out p3i (da (dis_par (sl _ za) (one_then px)) (da (dis_par (sl _ zb) (one_then px)) (da (dis_par (sl _ zd) (one_then px)) (dis_par (sl _ zc) (one_then px))))) (one_lt (Row.lt (kr pb (cr [] wd9))))
 have d90:Dis q5 [b8]:=dis_out p3j (da (dis_par (sl _ za) (one_then px)) (da (dis_par (sl _ zb) (one_then px)) (da (dis_par (sl _ zd) (one_then px)) (dis_par (sl _ zc) (one_then px))))) (one_lt (Row.lt (kr pb (cr [] wd9))))
 have d93:Dis q6 [b8]:=dis_out p3k (da (dis_par (sl _ za) (one_then px)) (da (dis_par (sl _ zb) (one_then px)) (da (dis_par (sl _ zd) (one_then px)) (dis_par (sl _ zc) (one_then px))))) (one_lt (Row.lt (kr pb (cr [] wd9))))
 have d96:Dis jv [b8]:=dis_out p3l (da (dis_par (sl _ za) (one_then px)) (da (dis_par (sl _ zb) (one_then px)) (da (dis_par (sl _ zd) (one_then px)) (dis_par (sl _ zc) (one_then px))))) (one_lt (Row.lt (kr pb (cr [] wd9))))
 have d99:Dis jw [b8]:=dis_out p3m (da (dis_par (sl _ za) (one_then px)) (da (dis_par (sl _ zb) (one_then px)) (da (dis_par (sl _ zd) (one_then px)) (dis_par (sl _ zc) (one_then px))))) (one_lt (Row.lt (kr pb (cr [] wd9))))
 have p2f:Dis f42 [b8]:=dl (ofr pw) (one_lt (Row.lt (kr pb (cr [] wd9))))
 replace pw:=OE.low (G:=[]) pw (hB.trans (cr [] wd9)).size
 have p0u:=(cr [] wd9).trans p0s
 replace hr4:=kr hr4 p0u
 replace pb:=kr pb p0u
 replace hB:=(hB.trans p0u)
 refine wv (v:=.tuple #[.agg #[.int .i64 (y16.1.C.Objects),v20,v23,v26,v29,v32,v35,v38],v41,.int .i64 (y16.2.2)]) rfl (om _) ?_
 refine wv (v:=.agg #[.int .i64 (y16.1.C.Objects),v20,v23,v26,v29,v32,v35,v38]) rfl (op_extract rfl rfl) ?_
 refine wv (v:=v41) rfl (op_extract rfl rfl) ?_
 refine wv (v:=.int .i64 (y16.2.2)) rfl (op_extract rfl rfl) ?_
 refine WL.alloc info78 zr78 fun pp p0v p3p p0w k3=>?_
 replace p0w:Row p0v pp [.int .i64 ((0:Int)),.slice none 0 0,.slice none 0 0,.slice none 0 0,.slice none 0 0,.slice none 0 0,.slice none 0 0,.slice none 0 0] 78:=p0w
 have p3q:w.heap.size≤pp:=Nat.le_trans (hB.trans (cr [] jf)).size k3
 have p0x:Dis [pp] [b1]:=dl (onw k3) (one_lt (Row.lt (kr hr4 (cr [] jf))))
 have gi:Dis [pp] [b8]:=dl (onw k3) (one_lt (Row.lt (kr pb (cr [] jf))))
 have p0f:Dis [pp] ji:=dl (onw k3) (sl _ (kp _ pr (cr [] jf)))
 have p0g:Dis [pp] q3:=dl (onw k3) (sl _ (kp _ p1 (cr [] jf)))
 have p0h:Dis [pp] q4:=dl (onw k3) (sl _ (kp _ p2 (cr [] jf)))
 have p0i:Dis [pp] q5:=dl (onw k3) (sl _ (kp _ p3 (cr [] jf)))
 have p0j:Dis [pp] q6:=dl (onw k3) (sl _ (kp _ p4 (cr [] jf)))
 have p2g:Dis [pp] jv:=dl (onw k3) (sl _ (kp _ q7 (cr [] jf)))
 have p2h:Dis [pp] jw:=dl (onw k3) (sl _ (kp _ q8 (cr [] jf)))
 have p2i:Dis [pp] f42:=dl (onw k3) (sl _ (kp _ pw.1 (cr [] jf)))
 have k4:=(cr [] jf).trans p3p
 replace pr:=kp _ pr k4
 replace p1:=kp _ p1 k4
 replace p2:=kp _ p2 k4
 replace p3:=kp _ p3 k4
 replace p4:=kp _ p4 k4
 replace q7:=kp _ q7 k4
 replace q8:=kp _ q8 k4
 replace hr4:=kr hr4 k4
 replace pb:=kr pb k4
 replace pw:=ko pw k4
 replace hB:=(hB.trans k4)
 refine WL.storeAll (us:=[.int .i64 (y16.1.C.Objects),v20,v23,v26,v29,v32,v35,v38]) info78 (by rw [sz78]; rfl) (kr p0w (cr [] p0v)) rfl rfl rfl (by intro u hu; simp only [List.mem_cons,List.mem_nil_iff,or_false] at hu; rcases hu with rfl | rfl | rfl | rfl | rfl | rfl | rfl | rfl <;> first | exact rfl | exact (STy.one _ pr _ (ms rfl)) | exact (STy.one _ p1 _ (ms rfl)) | exact (STy.one _ p2 _ (ms rfl)) | exact (STy.one _ p3 _ (ms rfl)) | exact (STy.one _ p4 _ (ms rfl)) | exact (STy.one _ q7 _ (ms rfl)) | exact (STy.one _ q8 _ (ms rfl))) fun p2j p3r qo=>?_
 replace qo:Row p2j pp [.int .i64 (y16.1.C.Objects),v20,v23,v26,v29,v32,v35,v38] 78:=qo
 have k5:=((cr [] p0v).nil (G:=[pp])).trans p3r
 replace pr:=STy.keep _ pr k5 (p0f).symm
 replace p1:=STy.keep _ p1 k5 (p0g).symm
 replace p2:=STy.keep _ p2 k5 (p0h).symm
 replace p3:=STy.keep _ p3 k5 (p0i).symm
 replace p4:=STy.keep _ p4 k5 (p0j).symm
 replace q7:=STy.keep _ q7 k5 (p2g).symm
 replace q8:=STy.keep _ q8 k5 (p2h).symm
 replace hr4:=Row.keep hr4 k5 ((p0x).symm _ (ms rfl))
 replace pb:=Row.keep pb k5 ((gi).symm _ (ms rfl))
 replace pw:=okp pw k5 (p2i).symm
 replace hB:=hB.then k5 (one_then p3q)
 refine wv (v:=v41) rfl (oa _) ?_
 refine wv (v:=.int .i64 (y16.2.2)) rfl (oa _) ?_
 refine anz ?_
 refine wq ?_
 refine wq ?_
 refine Wq rfl (cr [] p2j) ?_
 refine qv (v:=.int .i64 (y16.2.2)) rfl (fun _ _=>om _) ?_
 refine qv (v:=.bool ((y16.2.2) != ((0:Int)))) rfl (fun _ _=>op_bin rfl rfl bin_neq) ?_
 intro pbm p0y
 refine anz ?_
 refine W_cond (b:=(y16.2.2) != ((0:Int))) rfl ?_ ?_
 intro p0z
 rw [p0z] at ho
 refine wq ?_
 refine W_region rfl ?_
 refine wv (v:=.agg #[.int .i64 ((0:Int)),.slice none 0 0,.slice none 0 0,.slice none 0 0,.slice none 0 0,.slice none 0 0]) rfl (op_build (bld30_)) ?_
 refine wv (v:=.int .i64 (y16.2.2)) rfl (om _) ?_
 refine WL.storeAll (us:=[.int .i64 ((0:Int)),.slice none 0 0,.slice none 0 0,.slice none 0 0,.slice none 0 0,.slice none 0 0]) info30 (by rw [sz30]; rfl) (kr pb p0y) rfl rfl rfl (by intro u hu; simp only [List.mem_cons,List.mem_nil_iff,or_false] at hu; rcases hu with rfl | rfl | rfl | rfl | rfl | rfl <;> first | exact rfl) fun p10 p3s p11=>?_
 replace p11:Row p10 b8 [.int .i64 ((0:Int)),.slice none 0 0,.slice none 0 0,.slice none 0 0,.slice none 0 0,.slice none 0 0] 30:=p11
 have k6:=(p0y.nil (G:=[b8])).trans p3s
 replace pr:=STy.keep _ pr k6 d81
 replace p1:=STy.keep _ p1 k6 d84
 replace p2:=STy.keep _ p2 k6 d87
 replace p3:=STy.keep _ p3 k6 d90
 replace p4:=STy.keep _ p4 k6 d93
 replace q7:=STy.keep _ q7 k6 d96
 replace q8:=STy.keep _ q8 k6 d99
 replace hr4:=Row.keep hr4 k6 ((d14).symm _ (ms rfl))
 replace pw:=okp pw k6 p2f
 replace qo:=Row.keep qo k6 (gi _ (ms rfl))
 replace hB:=hB.then k6 (one_then px)
 refine wv (v:=.int .i64 (y16.2.2)) rfl (oa _) ?_
 refine anz ?_
 cases ho
 exact W_ret ⟨_,res_c1 Tryz.results24 u30 rfl info30 (by rw [sz30]; rfl) rfl (kr p11 (cr [] p10)).at,_,_,_,_,_,_,_,_,_,_,rfl,(hB.trans (cr [] p10)),nil_OE,nil_OE,nil_OE,nil_OE,nil_OE,(fun _ h=>nomatch h),(fun _ h=>nomatch h),(fun _ h=>nomatch h),(fun _ h=>nomatch h),(fun _ h=>nomatch h),(fun _ h=>nomatch h),(fun _ h=>nomatch h),(fun _ h=>nomatch h),(fun _ h=>nomatch h),(fun _ h=>nomatch h)⟩
 intro p0z
 rw [p0z] at ho
 refine W_skip ?_
 refine anz ?_
 refine wq ?_
 refine wq ?_
 refine Wq rfl p0y ?_
 refine qv (v:=.int .i64 ((0:Int))) rfl (fun _ _=>oa _) ?_
 intro pbn k7
 refine anz ?_
 refine W_for (S1:=Int×(List (List Bool))) (fun s r w'=>match s with | (s0_7,s0_o43)=>∃ (jx:List Nat),Chg [] w w'∧Row w' b8 [.int .i64 ((0:Int)),.slice none 0 0,.slice none 0 0,.slice none 0 0,.slice none 0 0,.slice none 0 0] 30∧(sImm (sInt .i64)).rep w'.heap [v20] (y16.1.C.From) ji∧(sImm (sInt .i64)).rep w'.heap [v23] (y16.1.C.To) q3∧(sImm (sInt .i64)).rep w'.heap [v26] (y16.1.C.Identity) q4∧(sImm (sImm (sInt .i64))).rep w'.heap [v29] (y16.1.C.Composites) q5∧(sImm (sImm (sImm (sInt .i64)))).rep w'.heap [v32] (y16.1.Lists) q6∧(sImm (sImm (sInt .i64))).rep w'.heap [v35] (y16.1.Pulls) jv∧(sImm (sInt .i64)).rep w'.heap [v38] (y16.1.Tops) jw∧OE [] w.heap.size w' (sOwn 82 (sOwn 4 sBool)) [v41] (s0_o43) jx∧Row w' pp [.int .i64 (y16.1.C.Objects),v20,v23,v26,v29,v32,v35,v38] 78∧Dis [b8] ji∧Dis [b8] q3∧Dis [b8] q4∧Dis [b8] q5∧Dis [b8] q6∧Dis [b8] jv∧Dis [b8] jw∧Dis [b8] jx∧Dis [b8] [pp]∧Dis ji jx∧Dis ji [pp]∧Dis q3 jx∧Dis q3 [pp]∧Dis q4 jx∧Dis q4 [pp]∧Dis q5 jx∧Dis q5 [pp]∧Dis q6 jx∧Dis q6 [pp]∧Dis jv jx∧Dis jv [pp]∧Dis jw jx∧Dis jw [pp]∧Dis jx [pp]∧∃ F,r=updL F [(2,.pointer (some (⟨b8,0,none⟩))),(4,.pointer (some (⟨pp,0,none⟩))),(5,v41),(7,.int .i64 (s0_7))]) (T:=spec_GreatestTopology_T w) ho ⟨_,(hB.trans k7),(kr pb k7),(kp _ pr k7),(kp _ p1 k7),(kp _ p2 k7),(kp _ p3 k7),(kp _ p4 k7),(kp _ q7 k7),(kp _ q8 k7),(ko pw k7),(kr qo k7),((d81).symm),((d84).symm),((d87).symm),((d90).symm),((d93).symm),((d96).symm),((d99).symm),((p2f).symm),((gi).symm),(d50),((p0f).symm),(d56),((p0g).symm),(d61),((p0h).symm),(d65),((p0i).symm),(d68),((p0j).symm),(d70),((p2g).symm),(d71),((p2h).symm),((p2i).symm),fr ⟨rfl,rfl,rfl,rfl,trivial⟩⟩ ?_ ?_ ?_
 intro x r w' ho hx; subst ho; exact hx
 rintro ⟨s0_7,s0_o43⟩ _ p3t ⟨jx,hB,pb,pr,p1,p2,p3,p4,q7,q8,pw,qo,p0k,p0l,p0m,nr,ns,nt,nu,nv,nw,gj,gk,gl,gm,gn,go,gp,gq,gr,gs,gt,gu,gv,gw,gx,F,rfl⟩ o ho
 replace ho:spec_GreatestTopology_L0 s0_7 s0_o43=some o:=ho
 unfold spec_GreatestTopology_L0 at ho
 refine wq ?_
 refine wq ?_
 refine Wq rfl (cr [] p3t) ?_
 refine qv (v:=.int .i64 (s0_7)) rfl (fun _ _=>om _) ?_
 refine qv (v:=v41) rfl (fun _ _=>om _) ?_
 refine qv (v:=.int .i64 ((s0_o43.length:Int))) rfl (fun _ hC=>op_lenI u79 ((Le.own (Le.own (Le.refl _) 4) 82).le (kp _ pw.1 hC))) ?_
 refine qv (v:=.bool (decide (s0_7 < (s0_o43.length:Int)))) rfl (fun _ _=>op_bin rfl rfl bin_lss) ?_
 intro pbo jy
 refine anz ?_
 refine W_cond (b:=decide (s0_7 < (s0_o43.length:Int))) rfl ?_ ?_
 intro p12
 rw [p12] at ho
 refine W_skip ?_
 refine anz ?_
 refine wq ?_
 refine W_block ?_
 refine wq ?_
 refine Wq rfl jy ?_
 refine qv (v:=.int .i64 ((0:Int))) rfl (fun _ _=>oa _) ?_
 intro pbp k8
 refine anz ?_
 refine W_for (S1:=Int×(List (List Bool))) (fun s r w'=>match s with | (s1_8,s1_o43)=>∃ (jz:List Nat),Chg [] w w'∧Row w' b8 [.int .i64 ((0:Int)),.slice none 0 0,.slice none 0 0,.slice none 0 0,.slice none 0 0,.slice none 0 0] 30∧(sImm (sInt .i64)).rep w'.heap [v20] (y16.1.C.From) ji∧(sImm (sInt .i64)).rep w'.heap [v23] (y16.1.C.To) q3∧(sImm (sInt .i64)).rep w'.heap [v26] (y16.1.C.Identity) q4∧(sImm (sImm (sInt .i64))).rep w'.heap [v29] (y16.1.C.Composites) q5∧(sImm (sImm (sImm (sInt .i64)))).rep w'.heap [v32] (y16.1.Lists) q6∧(sImm (sImm (sInt .i64))).rep w'.heap [v35] (y16.1.Pulls) jv∧(sImm (sInt .i64)).rep w'.heap [v38] (y16.1.Tops) jw∧OE [] w.heap.size w' (sOwn 82 (sOwn 4 sBool)) [v41] (s1_o43) jz∧Row w' pp [.int .i64 (y16.1.C.Objects),v20,v23,v26,v29,v32,v35,v38] 78∧Dis [b8] ji∧Dis [b8] q3∧Dis [b8] q4∧Dis [b8] q5∧Dis [b8] q6∧Dis [b8] jv∧Dis [b8] jw∧Dis [b8] jz∧Dis [b8] [pp]∧Dis ji jz∧Dis ji [pp]∧Dis q3 jz∧Dis q3 [pp]∧Dis q4 jz∧Dis q4 [pp]∧Dis q5 jz∧Dis q5 [pp]∧Dis q6 jz∧Dis q6 [pp]∧Dis jv jz∧Dis jv [pp]∧Dis jw jz∧Dis jw [pp]∧Dis jz [pp]∧∃ F,r=updL F [(2,.pointer (some (⟨b8,0,none⟩))),(4,.pointer (some (⟨pp,0,none⟩))),(5,v41),(7,.int .i64 (s0_7)),(8,.int .i64 (s1_8))]) (T:=spec_GreatestTopology_T w) ho ⟨_,(hB.trans k8),(kr pb k8),(kp _ pr k8),(kp _ p1 k8),(kp _ p2 k8),(kp _ p3 k8),(kp _ p4 k8),(kp _ q7 k8),(kp _ q8 k8),(ko pw k8),(kr qo k8),(p0k),(p0l),(p0m),(nr),(ns),(nt),(nu),(nv),(nw),(gj),(gk),(gl),(gm),(gn),(go),(gp),(gq),(gr),(gs),(gt),(gu),(gv),(gw),(gx),fr ⟨rfl,rfl,rfl,rfl,rfl,trivial⟩⟩ ?_ ?_ ?_
 intro x r w' ho hx; subst ho; exact hx
 rintro ⟨s1_8,s1_o43⟩ _ gy ⟨jz,hB,pb,pr,p1,p2,p3,p4,q7,q8,pw,qo,nx,ny,nz,g0,g1,g2,g3,n6,g4,n7,g5,n8,g6,n9,g7,na,g8,nb,g9,nc,ga,nd,p0n,gz,F,rfl⟩ o ho
 replace ho:spec_GreatestTopology_L1 s0_7 s1_8 s1_o43=some o:=ho
 unfold spec_GreatestTopology_L1 at ho
 refine wq ?_
 refine wq ?_
 refine Wq rfl (cr [] gy) ?_
 refine qv (v:=.int .i64 (s1_8)) rfl (fun _ _=>om _) ?_
 refine qv (v:=v41) rfl (fun _ _=>om _) ?_
 refine qv (v:=.int .i64 (s0_7)) rfl (fun _ _=>om _) ?_
 obtain ⟨e191,hx192e,ho⟩:=bs ho
 have hx192:=idx_some hx192e
 refine qv (v:=.pointer (some (elA (v41) 1 (s0_7)))) rfl (fun _ hC=>op_indexI u79 info82 sz82 rfl ((Le.own (Le.own (Le.refl _) 4) 82).le (kp _ pw.1 hC)) rfl hx192.1 hx192.2) ?_
 obtain ⟨u193,fu194,hu195,p13,hs197⟩:=one_get rfl ((Le.own (Le.own (Le.refl _) 4) 82).le pw.1) hx192.1 hx192.2
 refine qv (v:=u193) rfl (fun _ hC=>oldz u82 rfl rfl (hC.cell0 hu195)) ?_
 refine qv (v:=.int .i64 ((e191.length:Int))) rfl (fun _ hC=>op_lenI u82 (kp _ p13 hC)) ?_
 refine qv (v:=.bool (decide (s1_8 < (e191.length:Int)))) rfl (fun _ _=>op_bin rfl rfl bin_lss) ?_
 intro k9 jg
 refine anz ?_
 refine W_cond (b:=decide (s1_8 < (e191.length:Int))) rfl ?_ ?_
 intro p14
 rw [p14] at ho
 refine W_skip ?_
 refine anz ?_
 refine wq ?_
 refine W_block ?_
 refine W_region rfl ?_
 refine wv (v:=v41) rfl (om _) ?_
 refine wv (v:=.int .i64 (s0_7)) rfl (om _) ?_
 obtain ⟨e201,hx202e,ho⟩:=bs ho
 have hx202:=idx_some hx202e
 refine wv (v:=.pointer (some (elA (v41) 1 (s0_7)))) rfl (op_indexI u79 info82 sz82 rfl ((Le.own (Le.own (Le.refl _) 4) 82).le (kp _ pw.1 jg)) rfl hx202.1 hx202.2) ?_
 obtain ⟨u203,fu204,hu205,p15,hs207⟩:=one_get rfl ((Le.own (Le.own (Le.refl _) 4) 82).le pw.1) hx202.1 hx202.2
 refine wv (v:=u203) rfl (oldz u82 rfl rfl (jg.cell0 hu205)) ?_
 refine wv (v:=.int .i64 (s1_8)) rfl (om _) ?_
 obtain ⟨e208,hx209e,ho⟩:=bs ho
 have hx209:=idx_some hx209e
 refine wv (v:=.pointer (some (elA (u203) 1 (s1_8)))) rfl (op_indexI u82 info4 sz4 rfl (kp _ p15 jg) rfl hx209.1 hx209.2) ?_
 have py:=jg.trans (cr [] k9)
 replace pr:=kp _ pr py
 replace p1:=kp _ p1 py
 replace p2:=kp _ p2 py
 replace p3:=kp _ p3 py
 replace p4:=kp _ p4 py
 replace q7:=kp _ q7 py
 replace q8:=kp _ q8 py
 replace hu195:=py.cell0 hu195
 replace p13:=kp _ p13 py
 replace hu205:=py.cell0 hu205
 replace p15:=kp _ p15 py
 replace pb:=kr pb py
 replace pw:=ko pw py
 replace qo:=kr qo py
 replace hB:=(hB.trans py)
 obtain ⟨k211,p3u,hk213,hf214⟩:=own_focus rfl hB.size pw hx202.2 hu205
 have p3v:Dis k211 [b8]:=fun b hb=>(n6).symm b (hk213 b hb)
 have p3w:Dis k211 ji:=fun b hb=>(n7).symm b (hk213 b hb)
 have p3x:Dis k211 q3:=fun b hb=>(n8).symm b (hk213 b hb)
 have p3y:Dis k211 q4:=fun b hb=>(n9).symm b (hk213 b hb)
 have p3z:Dis k211 q5:=fun b hb=>(na).symm b (hk213 b hb)
 have p40:Dis k211 q6:=fun b hb=>(nb).symm b (hk213 b hb)
 have p41:Dis k211 jv:=fun b hb=>(nc).symm b (hk213 b hb)
 have p42:Dis k211 jw:=fun b hb=>(nd).symm b (hk213 b hb)
 have p43:Dis k211 [pp]:=fun b hb=>gz b (hk213 b hb)
 refine WL.storeEl (z':=true) _ _ sBool_nofp rfl info4 sz4 p3u hx209.2 rfl rfl ⟨rfl,rfl⟩ fun p44 p2k p45=>?_
 obtain ⟨kz,p46,hs229⟩:=hf214 _ _ _ p2k p45
 have p47:Dis kz [b8]:=dis_upd (k:=[]) (fun b hb=>(hs229 b hb).elim .inl fun h=>.inr (.inr h)) (n6).symm (fun _ h=>nomatch h) (one_lt (Row.lt (kr pb (cr [] k9))))
 have p48:Dis kz ji:=dis_upd (k:=[]) (fun b hb=>(hs229 b hb).elim .inl fun h=>.inr (.inr h)) (n7).symm (fun _ h=>nomatch h) (sl _ (kp _ pr (cr [] k9)))
 have p49:Dis kz q3:=dis_upd (k:=[]) (fun b hb=>(hs229 b hb).elim .inl fun h=>.inr (.inr h)) (n8).symm (fun _ h=>nomatch h) (sl _ (kp _ p1 (cr [] k9)))
 have p4a:Dis kz q4:=dis_upd (k:=[]) (fun b hb=>(hs229 b hb).elim .inl fun h=>.inr (.inr h)) (n9).symm (fun _ h=>nomatch h) (sl _ (kp _ p2 (cr [] k9)))
 have p16:Dis kz q5:=dis_upd (k:=[]) (fun b hb=>(hs229 b hb).elim .inl fun h=>.inr (.inr h)) (na).symm (fun _ h=>nomatch h) (sl _ (kp _ p3 (cr [] k9)))
 have p17:Dis kz q6:=dis_upd (k:=[]) (fun b hb=>(hs229 b hb).elim .inl fun h=>.inr (.inr h)) (nb).symm (fun _ h=>nomatch h) (sl _ (kp _ p4 (cr [] k9)))
 have p18:Dis kz jv:=dis_upd (k:=[]) (fun b hb=>(hs229 b hb).elim .inl fun h=>.inr (.inr h)) (nc).symm (fun _ h=>nomatch h) (sl _ (kp _ q7 (cr [] k9)))
 have p19:Dis kz jw:=dis_upd (k:=[]) (fun b hb=>(hs229 b hb).elim .inl fun h=>.inr (.inr h)) (nd).symm (fun _ h=>nomatch h) (sl _ (kp _ q8 (cr [] k9)))
 have p1a:Dis kz [pp]:=dis_upd (k:=[]) (fun b hb=>(hs229 b hb).elim .inl fun h=>.inr (.inr h)) gz (fun _ h=>nomatch h) (one_lt (Row.lt (kr qo (cr [] k9))))
 have kl:=((cr [] k9).nil (G:=k211)).trans p2k
 replace pr:=STy.keep _ pr kl (p3w).symm
 replace p1:=STy.keep _ p1 kl (p3x).symm
 replace p2:=STy.keep _ p2 kl (p3y).symm
 replace p3:=STy.keep _ p3 kl (p3z).symm
 replace p4:=STy.keep _ p4 kl (p40).symm
 replace q7:=STy.keep _ q7 kl (p41).symm
 replace q8:=STy.keep _ q8 kl (p42).symm
 replace pb:=Row.keep pb kl ((p3v).symm _ (ms rfl))
 replace qo:=Row.keep qo kl ((p43).symm _ (ms rfl))
 replace hB:=hB.then kl (fun b hb=>pw.2.2 b (hk213 b hb))
 refine inBlk_n ?_
 refine anz ?_
 refine Wq rfl (cr [] p44) ?_
 refine qv (v:=.int .i64 (s1_8)) rfl (fun _ _=>om _) ?_
 refine qv (v:=.int .i64 (w64 (s1_8 + (1:Int)))) rfl (fun _ _=>op_bin rfl rfl bin_add) ?_
 refine qv (v:=.int .i64 (w64 (s1_8 + (1:Int)))) rfl (fun _ _=>oa _) ?_
 intro pbq ka
 cases ho
 exact ⟨_,(hB.trans ka),(kr pb ka),(kp _ pr ka),(kp _ p1 ka),(kp _ p2 ka),(kp _ p3 ka),(kp _ p4 ka),(kp _ q7 ka),(kp _ q8 ka),(ko p46 ka),(kr qo ka),(nx),(ny),(nz),(g0),(g1),(g2),(g3),((p47).symm),(g4),((p48).symm),(g5),((p49).symm),(g6),((p4a).symm),(g7),((p16).symm),(g8),((p17).symm),(g9),((p18).symm),(ga),((p19).symm),(p0n),(p1a),fr ⟨rfl,rfl,rfl,rfl,rfl,trivial⟩⟩
 intro p14
 rw [p14] at ho
 refine W_exit ?_
 refine andThen_x ?_
 cases ho
 exact ⟨rfl,⟨_,(hB.trans jg),(kr pb jg),(kp _ pr jg),(kp _ p1 jg),(kp _ p2 jg),(kp _ p3 jg),(kp _ p4 jg),(kp _ q7 jg),(kp _ q8 jg),(ko pw jg),(kr qo jg),(nx),(ny),(nz),(g0),(g1),(g2),(g3),(n6),(g4),(n7),(g5),(n8),(g6),(n9),(g7),(na),(g8),(nb),(g9),(nc),(ga),(nd),(p0n),(gz),fr ⟨rfl,rfl,rfl,rfl,rfl,trivial⟩⟩⟩
 rintro ⟨s1_8,s1_o43⟩ _ p4b ⟨jz,hB,pb,pr,p1,p2,p3,p4,q7,q8,pw,qo,nx,ny,nz,g0,g1,g2,g3,n6,g4,n7,g5,n8,g6,n9,g7,na,g8,nb,g9,nc,ga,nd,p0n,gz,F,rfl⟩ ho
 dsimp only at ho
 refine inBlk_n ?_
 refine anz ?_
 refine Wq rfl (cr [] p4b) ?_
 refine qv (v:=.int .i64 (s0_7)) rfl (fun _ _=>om _) ?_
 refine qv (v:=.int .i64 (w64 (s0_7 + (1:Int)))) rfl (fun _ _=>op_bin rfl rfl bin_add) ?_
 refine qv (v:=.int .i64 (w64 (s0_7 + (1:Int)))) rfl (fun _ _=>oa _) ?_
 intro pbr kb
 cases ho
 exact ⟨_,(hB.trans kb),(kr pb kb),(kp _ pr kb),(kp _ p1 kb),(kp _ p2 kb),(kp _ p3 kb),(kp _ p4 kb),(kp _ q7 kb),(kp _ q8 kb),(ko pw kb),(kr qo kb),(nx),(ny),(nz),(g0),(g1),(g2),(g3),(n6),(g4),(n7),(g5),(n8),(g6),(n9),(g7),(na),(g8),(nb),(g9),(nc),(ga),(nd),(p0n),(gz),fr ⟨rfl,rfl,rfl,rfl,trivial⟩⟩
 intro p12
 rw [p12] at ho
 refine W_exit ?_
 refine andThen_x ?_
 cases ho
 exact ⟨rfl,⟨_,(hB.trans jy),(kr pb jy),(kp _ pr jy),(kp _ p1 jy),(kp _ p2 jy),(kp _ p3 jy),(kp _ p4 jy),(kp _ q7 jy),(kp _ q8 jy),(ko pw jy),(kr qo jy),(p0k),(p0l),(p0m),(nr),(ns),(nt),(nu),(nv),(nw),(gj),(gk),(gl),(gm),(gn),(go),(gp),(gq),(gr),(gs),(gt),(gu),(gv),(gw),(gx),fr ⟨rfl,rfl,rfl,rfl,trivial⟩⟩⟩
 rintro ⟨s0_7,s0_o43⟩ _ j6 ⟨jx,hB,pb,pr,p1,p2,p3,p4,q7,q8,pw,qo,p0k,p0l,p0m,nr,ns,nt,nu,nv,nw,gj,gk,gl,gm,gn,go,gp,gq,gr,gs,gt,gu,gv,gw,gx,F,rfl⟩ ho
 dsimp only at ho
 refine anz ?_
 refine wq ?_
 refine W_region rfl ?_
 refine wv (v:=.agg #[.int .i64 (y16.1.C.Objects),v20,v23,v26,v29,v32,v35,v38]) rfl (op_loadAgg u78 rfl info78 (by rw [sz78]; rfl) rfl (kr qo (cr [] j6)).at) ?_
 refine wv (v:=v41) rfl (om _) ?_
 obtain ⟨y246,p4c,ho⟩:=bs ho
 refine WL.call rfl (op_callF Tryz.func63 rfl rfl) (spec_l27Covers_calls (kp _ pr (cr [] j6)) (kp _ p1 (cr [] j6)) (kp _ p2 (cr [] j6)) (kp _ p3 (cr [] j6)) (kp _ p4 (cr [] j6)) (kp _ q7 (cr [] j6)) (kp _ q8 (cr [] j6)) ((Le.own (Le.own (Le.refl _) 4) 82).le (kp _ pw.1 (cr [] j6))) p4c) ?_
 rintro _ p2l ⟨v250,p4d,v253,p4e,v256,p4f,v259,p4g,v262,p4h,rfl,p4i,ne,nf,ng,nh,ni,p1b,p1c,p1d,p1e,p1f,p1g,nj,nk,nl,nm⟩
 refine ⟨_,rfl,?_⟩
 have p1h:Dis p4d [b8]:=dl (ofr ne) (one_lt (Row.lt (kr pb (cr [] j6))))
 replace ne:=OE.low (G:=[]) ne (hB.trans (cr [] j6)).size
 have p1i:Dis p4e [b8]:=dl (ofr nf) (one_lt (Row.lt (kr pb (cr [] j6))))
 replace nf:=OE.low (G:=[]) nf (hB.trans (cr [] j6)).size
 have p1j:Dis p4f [b8]:=dl (ofr ng) (one_lt (Row.lt (kr pb (cr [] j6))))
 replace ng:=OE.low (G:=[]) ng (hB.trans (cr [] j6)).size
 have nn:Dis p4g [b8]:=dl (ofr nh) (one_lt (Row.lt (kr pb (cr [] j6))))
 replace nh:=OE.low (G:=[]) nh (hB.trans (cr [] j6)).size
 have p1k:Dis p4h [b8]:=dl (ofr ni) (one_lt (Row.lt (kr pb (cr [] j6))))
 replace ni:=OE.low (G:=[]) ni (hB.trans (cr [] j6)).size
 have kc:=(cr [] j6).trans p4i
 replace pr:=kp _ pr kc
 replace p1:=kp _ p1 kc
 replace p2:=kp _ p2 kc
 replace p3:=kp _ p3 kc
 replace p4:=kp _ p4 kc
 replace q7:=kp _ q7 kc
 replace q8:=kp _ q8 kc
 replace pb:=kr pb kc
 replace pw:=ko pw kc
 replace qo:=kr qo kc
 replace hB:=(hB.trans kc)
 refine WL.storeAll (us:=[.int .i64 (y246.Shape.Objects),v250,v253,v256,v259,v262]) info30 (by rw [sz30]; rfl) (kr pb (cr [] p2l)) rfl rfl rfl (by intro u hu; simp only [List.mem_cons,List.mem_nil_iff,or_false] at hu; rcases hu with rfl | rfl | rfl | rfl | rfl | rfl <;> first | exact rfl | exact (STy.one _ ne.1 _ (ms rfl)) | exact (STy.one _ nf.1 _ (ms rfl)) | exact (STy.one _ ng.1 _ (ms rfl)) | exact (STy.one _ nh.1 _ (ms rfl)) | exact (STy.one _ ni.1 _ (ms rfl))) fun k0 p1l no=>?_
 replace no:Row k0 b8 [.int .i64 (y246.Shape.Objects),v250,v253,v256,v259,v262] 30:=no
 have jh:=((cr [] p2l).nil (G:=[b8])).trans p1l
 replace pr:=STy.keep _ pr jh (p0k).symm
 replace p1:=STy.keep _ p1 jh (p0l).symm
 replace p2:=STy.keep _ p2 jh (p0m).symm
 replace p3:=STy.keep _ p3 jh (nr).symm
 replace p4:=STy.keep _ p4 jh (ns).symm
 replace q7:=STy.keep _ q7 jh (nt).symm
 replace q8:=STy.keep _ q8 jh (nu).symm
 replace pw:=okp pw jh (nv).symm
 replace qo:=Row.keep qo jh ((nw).symm _ (ms rfl))
 replace ne:=okp ne jh p1h
 replace nf:=okp nf jh p1i
 replace ng:=okp ng jh p1j
 replace nh:=okp nh jh nn
 replace ni:=okp ni jh p1k
 replace hB:=hB.then jh (one_then px)
 refine wv (v:=.int .i64 ((0:Int))) rfl (oa _) ?_
 refine anz ?_
 cases ho
 exact W_ret ⟨_,res_c1 Tryz.results24 u30 rfl info30 (by rw [sz30]; rfl) rfl (kr no (cr [] k0)).at,_,_,_,_,_,_,_,_,_,_,rfl,(hB.trans (cr [] k0)),(ko ne (cr [] k0)),(ko nf (cr [] k0)),(ko ng (cr [] k0)),(ko nh (cr [] k0)),(ko ni (cr [] k0)),(p1b),(p1c),(p1d),(p1e),(p1f),(p1g),(nj),(nk),(nl),(nm)⟩

noncomputable def impl_GreatestTopology_1 (x0:Int) (x1:(List Int)):Option (Bool):=
 retM (S:=Unit) (some (Out.ret (true)))
abbrev impl_GreatestTopology_1_post (w:World) (x:(Bool)) (e:Ending) (w':World):Prop:=e = .returned (.bool x)∧Chg [] w w'
abbrev impl_GreatestTopology_1_T (w:World) (x:(Bool)) (r:Nat→Value) (w':World):Prop:=∃ v,(∀ a:Act,a.tmps.size=5→rho a=r→(results Tryz.f72 a.tmps).run Tryz.prog w' = .ok v w')∧impl_GreatestTopology_1_post w x (.returned v) w'
theorem impl_GreatestTopology_1_calls {w:World} {x0:Int} {x1:(List Int)} {v_x1:Value} {f_x1:List Nat} (h_x1:(sImm (sInt .i64)).rep w.heap [v_x1] x1 f_x1) {y:(Bool)} (hm:impl_GreatestTopology_1 x0 x1=some y) :
  Calls Tryz.prog 72 #[.int .i64 (x0),v_x1] w (impl_GreatestTopology_1_post w y):=by
 refine calls_of_M (S:=Unit) (args:=[.int .i64 (x0),v_x1]) Tryz.func72 rfl Tryz.ntmps72 (Nat.le_of_ble_eq_true rfl) (retM_some hm) ?_
 clear hm
 intro o ho
 have hB:Chg [] w w:=cr _ _
 refine wq ?_
 refine Wq rfl (cr [] w) ?_
 refine qv (v:=.bool (false)) rfl (fun _ _=>oa _) ?_
 intro wd1 hC2
 refine anz ?_
 refine wq ?_
 refine Wq rfl hC2 ?_
 refine qv (v:=.bool (true)) rfl (fun _ _=>oa _) ?_
 intro wd3 hC4
 refine anz ?_
 cases ho
 exact W_ret ⟨_,res_1 Tryz.results72,rfl,(hB.trans hC4)⟩

noncomputable def impl_GreatestTopology (x0:MCategory):Option (MTopology×Int):=
 retM (S:=Unit) ((impl_chosenTopology x0 (fun a0 a1=>impl_GreatestTopology_1 (a0) a1))>>=fun y16=>(some (Out.ret ((y16.1,y16.2)))))
abbrev impl_GreatestTopology_post (w:World) (x:(MTopology×Int)) (e:Ending) (w':World):Prop:=∃ (v0:Value) (f0:List Nat) (v1:Value) (f1:List Nat) (v2:Value) (f2:List Nat) (v3:Value) (f3:List Nat) (v4:Value) (f4:List Nat),e = .returned (.tuple #[.agg #[.int .i64 x.1.Shape.Objects,v0,v1,v2,v3,v4],.int .i64 x.2])∧Chg [] w w'∧OE [] w.heap.size w' (sOwn 2 (sInt .i64)) [v0] x.1.Shape.From f0∧OE [] w.heap.size w' (sOwn 2 (sInt .i64)) [v1] x.1.Shape.To f1∧OE [] w.heap.size w' (sOwn 2 (sInt .i64)) [v2] x.1.Shape.Identity f2∧OE [] w.heap.size w' (sOwn 22 (sOwn 2 (sInt .i64))) [v3] x.1.Shape.Composites f3∧OE [] w.heap.size w' (sOwn 23 (sOwn 22 (sOwn 2 (sInt .i64)))) [v4] x.1.Covers f4∧Dis f0 f1∧Dis f0 f2∧Dis f0 f3∧Dis f0 f4∧Dis f1 f2∧Dis f1 f3∧Dis f1 f4∧Dis f2 f3∧Dis f2 f4∧Dis f3 f4
abbrev impl_GreatestTopology_T (w:World) (x:(MTopology×Int)) (r:Nat→Value) (w':World):Prop:=∃ v,(∀ a:Act,a.tmps.size=7→rho a=r→(results Tryz.f25 a.tmps).run Tryz.prog w' = .ok v w')∧impl_GreatestTopology_post w x (.returned v) w'
theorem impl_GreatestTopology_calls {w:World} {x0:MCategory} {z6:Value} {zh:List Nat} {z7:Value} {zg:List Nat} {z9:Value} {zf:List Nat} {z8:Value} {ze:List Nat} (za:(sImm (sInt .i64)).rep w.heap [z6] x0.From zh) (zb:(sImm (sInt .i64)).rep w.heap [z7] x0.To zg) (zd:(sImm (sInt .i64)).rep w.heap [z9] x0.Identity zf) (zc:(sImm (sImm (sInt .i64))).rep w.heap [z8] x0.Composites ze) {y:(MTopology×Int)} (hm:impl_GreatestTopology x0=some y) :
  Calls Tryz.prog 25 #[.agg #[.int .i64 (x0.Objects),z6,z7,z9,z8]] w (impl_GreatestTopology_post w y):=by
 refine calls_of_M (S:=Unit) (args:=[.agg #[.int .i64 (x0.Objects),z6,z7,z9,z8]]) Tryz.func25 rfl Tryz.ntmps25 (Nat.le_of_ble_eq_true rfl) (retM_some hm) ?_
 clear hm
 intro o ho
 have hB:Chg [] w w:=cr _ _
 refine wq ?_
 refine W_region rfl ?_
 refine WL.box fun b1 wd2 hC3 hr4 hl5=>?_
 replace hr4:Row wd2 b1 [.int .i64 (x0.Objects),z6,z7,z9,z8] 27:=hr4
 have hT7:=(cr [] w).trans hC3
 replace hB:=(hB.trans hT7)
 refine WL.alloc info30 zr30 fun b8 wd9 p0p pb gg=>?_
 replace pb:Row wd9 b8 [.int .i64 ((0:Int)),.slice none 0 0,.slice none 0 0,.slice none 0 0,.slice none 0 0,.slice none 0 0] 30:=pb
 have px:w.heap.size≤b8:=Nat.le_trans (hB.trans (cr [] wd2)).size gg
 have d14:Dis [b8] [b1]:=dl (onw gg) (one_lt (Row.lt (kr hr4 (cr [] wd2))))
 have gh:=(cr [] wd2).trans p0p
 replace hr4:=kr hr4 gh
 replace hB:=(hB.trans gh)
 refine wv (v:=.int .i64 ((0:Int))) rfl (oa _) ?_
 refine anz ?_
 refine wq ?_
 refine W_region rfl ?_
 obtain ⟨y16,p0r,ho⟩:=bs ho
 refine WL.call rfl (op_callF Tryz.func65 rfl rfl) (impl_chosenTopology_calls (kp _ za (hB.trans (cr [] wd9))) (kp _ zb (hB.trans (cr [] wd9))) (kp _ zd (hB.trans (cr [] wd9))) (kp _ zc (hB.trans (cr [] wd9))) (kr hr4 (cr [] wd9)).at ⟨⟨_,_,Tryz.func72,rfl,rfl⟩,fun {W} hW {a0} {a1} {v1} {f1} h1 {y} hm=>impl_GreatestTopology_1_calls h1 hm⟩ p0r) ?_
 rintro _ jf ⟨v20,ji,v23,q3,v26,q4,v29,q5,v32,q6,rfl,p0s,pr,p1,p2,p3,p4,d35,d36,d37,d38,d39,d40,d41,d42,d43,d44⟩
 refine ⟨_,rfl,?_⟩
 have d46:Dis ji [b8]:=dl (ofr pr) (one_lt (Row.lt (kr pb (cr [] wd9))))
 replace pr:=OE.low (G:=[]) pr (hB.trans (cr [] wd9)).size
 have d48:Dis q3 [b8]:=dl (ofr p1) (one_lt (Row.lt (kr pb (cr [] wd9))))
 replace p1:=OE.low (G:=[]) p1 (hB.trans (cr [] wd9)).size
 have d50:Dis q4 [b8]:=dl (ofr p2) (one_lt (Row.lt (kr pb (cr [] wd9))))
 replace p2:=OE.low (G:=[]) p2 (hB.trans (cr [] wd9)).size
 have d52:Dis q5 [b8]:=dl (ofr p3) (one_lt (Row.lt (kr pb (cr [] wd9))))
 replace p3:=OE.low (G:=[]) p3 (hB.trans (cr [] wd9)).size
 have d54:Dis q6 [b8]:=dl (ofr p4) (one_lt (Row.lt (kr pb (cr [] wd9))))
 replace p4:=OE.low (G:=[]) p4 (hB.trans (cr [] wd9)).size
 have p1m:=(cr [] wd9).trans p0s
 replace hr4:=kr hr4 p1m
 replace pb:=kr pb p1m
 replace hB:=(hB.trans p1m)
 refine wv (v:=.agg #[.int .i64 (y16.1.Shape.Objects),v20,v23,v26,v29,v32]) rfl (op_extract rfl rfl) ?_
 refine wv (v:=.int .i64 (y16.2)) rfl (op_extract rfl rfl) ?_
 refine WL.storeAll (us:=[.int .i64 (y16.1.Shape.Objects),v20,v23,v26,v29,v32]) info30 (by rw [sz30]; rfl) (kr pb (cr [] jf)) rfl rfl rfl (by intro u hu; simp only [List.mem_cons,List.mem_nil_iff,or_false] at hu; rcases hu with rfl | rfl | rfl | rfl | rfl | rfl <;> first | exact rfl | exact (STy.one _ pr.1 _ (ms rfl)) | exact (STy.one _ p1.1 _ (ms rfl)) | exact (STy.one _ p2.1 _ (ms rfl)) | exact (STy.one _ p3.1 _ (ms rfl)) | exact (STy.one _ p4.1 _ (ms rfl))) fun n5 p4r p1n=>?_
 replace p1n:Row n5 b8 [.int .i64 (y16.1.Shape.Objects),v20,v23,v26,v29,v32] 30:=p1n
 have np:=((cr [] jf).nil (G:=[b8])).trans p4r
 replace hr4:=Row.keep hr4 np ((d14).symm _ (ms rfl))
 replace pr:=okp pr np d46
 replace p1:=okp p1 np d48
 replace p2:=okp p2 np d50
 replace p3:=okp p3 np d52
 replace p4:=okp p4 np d54
 replace hB:=hB.then np (one_then px)
 refine wv (v:=.int .i64 (y16.2)) rfl (oa _) ?_
 refine anz ?_
 cases ho
 exact W_ret ⟨_,res_c1 Tryz.results25 u30 rfl info30 (by rw [sz30]; rfl) rfl (kr p1n (cr [] n5)).at,_,_,_,_,_,_,_,_,_,_,rfl,(hB.trans (cr [] n5)),(ko pr (cr [] n5)),(ko p1 (cr [] n5)),(ko p2 (cr [] n5)),(ko p3 (cr [] n5)),(ko p4 (cr [] n5)),(d35),(d36),(d37),(d38),(d39),(d40),(d41),(d42),(d43),(d44)⟩

noncomputable def laws_FnExactGreatestTopology (x0:MCategory):Option (Bool):=
 retM (S:=Unit) ((laws_szCategory x0 ((1048576:Int)))>>=fun y10=>(bif decide (y10 < (0:Int)) then (some (Out.ret (true))) else ((laws_toCategory x0)>>=fun y19=>((spec_GreatestTopology y19)>>=fun y46=>((laws_toCategory x0)>>=fun y122=>((impl_GreatestTopology y122)>>=fun y215=>((((laws_eqTopology y215.1 y46.1)>>=fun y359=>(bif !(y359) then (some (true)) else (some ((y215.2) != (y46.2))))))>>=fun g357=>(bif g357 then (some (Out.ret (false))) else ((laws_toCategory x0)>>=fun y367=>((laws_eqCategory y122 y367)>>=fun y476=>(bif !(y476) then (some (Out.ret (false))) else ((laws_markCategory y122 ((1:Int)))>>=fun y486=>(((bif decide (y486.1 < (0:Int)) then (some (true)) else ((laws_eqTopology y215.1 y46.1)>>=fun y596=>(bif !(y596) then (some (true)) else (some ((y215.2) != (y46.2)))))))>>=fun g593=>(bif g593 then (some (Out.ret (false))) else ((laws_markTopology y215.1 ((1:Int)))>>=fun y607=>((laws_heldTopology (MTopology.mk (MCategory.mk y215.1.Shape.Objects y607.2.1 y607.2.2.1 y607.2.2.2.1 y607.2.2.2.2.1) y607.2.2.2.2.2) ((1:Int)))>>=fun y739=>(bif decide (y739 < (0:Int)) then (some (Out.ret (false))) else (bif (y739) != (y607.1) then (some (Out.ret (false))) else ((laws_toCategory x0)>>=fun y753=>((impl_GreatestTopology y753)>>=fun y880=>((((laws_eqTopology y880.1 y46.1)>>=fun y1108=>(bif !(y1108) then (some (true)) else (some ((y880.2) != (y46.2))))))>>=fun g1106=>(bif g1106 then (some (Out.ret (false))) else ((laws_heldTopology (MTopology.mk (MCategory.mk y215.1.Shape.Objects y607.2.1 y607.2.2.1 y607.2.2.2.1 y607.2.2.2.2.1) y607.2.2.2.2.2) ((1:Int)))>>=fun y1118=>(bif decide (y1118 < (0:Int)) then (some (Out.ret (false))) else (bif (y1118) != (y607.1) then (some (Out.ret (false))) else (some (Out.ret (true))))))))))))))))))))))))))))
abbrev laws_FnExactGreatestTopology_post (w:World) (x:(Bool)) (e:Ending) (w':World):Prop:=e = .returned (.bool x)∧Chg [] w w'
abbrev laws_FnExactGreatestTopology_T (w:World) (x:(Bool)) (r:Nat→Value) (w':World):Prop:=∃ v,(∀ a:Act,a.tmps.size=96→rho a=r→(results Tryz.f4 a.tmps).run Tryz.prog w' = .ok v w')∧laws_FnExactGreatestTopology_post w x (.returned v) w'
theorem laws_FnExactGreatestTopology_calls {w:World} {x0:MCategory} {z6:Value} {zh:List Nat} {z7:Value} {zg:List Nat} {z9:Value} {zf:List Nat} {z8:Value} {ze:List Nat} (za:(sImm (sInt .i64)).rep w.heap [z6] x0.From zh) (zb:(sImm (sInt .i64)).rep w.heap [z7] x0.To zg) (zd:(sImm (sInt .i64)).rep w.heap [z9] x0.Identity zf) (zc:(sImm (sImm (sInt .i64))).rep w.heap [z8] x0.Composites ze) {y:(Bool)} (hm:laws_FnExactGreatestTopology x0=some y) :
  Calls Tryz.prog 4 #[.agg #[.int .i64 (x0.Objects),z6,z7,z9,z8]] w (laws_FnExactGreatestTopology_post w y):=by
 refine calls_of_M (S:=Unit) (args:=[.agg #[.int .i64 (x0.Objects),z6,z7,z9,z8]]) Tryz.func4 rfl Tryz.ntmps4 (Nat.le_of_ble_eq_true rfl) (retM_some hm) ?_
 clear hm
 intro o ho
 have hB:Chg [] w w:=cr _ _
 refine wq ?_
 refine W_region rfl ?_
 refine WL.box fun b1 wd2 hC3 hr4 hl5=>?_
 replace hr4:Row wd2 b1 [.int .i64 (x0.Objects),z6,z7,z9,z8] 25:=hr4
 have hT7:=(cr [] w).trans hC3
 replace hB:=(hB.trans hT7)
 refine wv (v:=.bool (false)) rfl (oa _) ?_
 refine anz ?_
 refine wq ?_
 refine Wq rfl (cr [] wd2) ?_
 refine qv (v:=.int .i64 ((1048576:Int))) rfl (fun _ _=>oa _) ?_
 intro wd8 hC9
 refine anz ?_
 refine wq ?_
 refine Wq rfl hC9 ?_
 refine qv (v:=.agg #[.int .i64 (x0.Objects),z6,z7,z9,z8]) rfl (fun _ hC=>op_loadAgg u25z rfl info25 (by rw [sz25]; rfl) rfl (kr hr4 hC).at) ?_
 refine qv (v:=.int .i64 ((1048576:Int))) rfl (fun _ _=>om _) ?_
 obtain ⟨y10,p4s,ho⟩:=bs ho
 refine QL.call (v:=.int .i64 (y10)) rfl (fun _ _=>op_callF Tryz.func15 rfl rfl) (fun _ hC=>(laws_szCategory_calls (kp _ za (hB.trans hC)) (kp _ zb (hB.trans hC)) (kp _ zd (hB.trans hC)) (kp _ zc (hB.trans hC)) p4s).mono fun _ _ h=>⟨h.1,hC.trans h.2⟩) ?_
 refine qv (v:=.int .i64 (y10)) rfl (fun _ _=>oa _) ?_
 intro pbs p4t
 refine anz ?_
 refine wq ?_
 refine wq ?_
 refine Wq rfl p4t ?_
 refine qv (v:=.int .i64 (y10)) rfl (fun _ _=>om _) ?_
 refine qv (v:=.bool (decide (y10 < (0:Int)))) rfl (fun _ _=>op_bin rfl rfl bin_lss) ?_
 intro pbt kd
 refine anz ?_
 refine W_cond (b:=decide (y10 < (0:Int))) rfl ?_ ?_
 intro p1o
 rw [p1o] at ho
 refine wq ?_
 refine Wq rfl kd ?_
 refine qv (v:=.bool (true)) rfl (fun _ _=>oa _) ?_
 intro pbu p4u
 refine anz ?_
 cases ho
 exact W_ret ⟨_,res_1 Tryz.results4,rfl,(hB.trans p4u)⟩
 intro p1o
 rw [p1o] at ho
 refine W_skip ?_
 refine anz ?_
 refine wq ?_
 refine W_region rfl ?_
 refine wv (v:=.agg #[.int .i64 (x0.Objects),z6,z7,z9,z8]) rfl (op_loadAgg u25z rfl info25 (by rw [sz25]; rfl) rfl (kr hr4 kd).at) ?_
 obtain ⟨y19,p4v,ho⟩:=bs ho
 refine WL.call rfl (op_callF Tryz.func17 rfl rfl) (laws_toCategory_calls (kp _ za (hB.trans kd)) (kp _ zb (hB.trans kd)) (kp _ zd (hB.trans kd)) (kp _ zc (hB.trans kd)) p4v) ?_
 rintro _ km ⟨v23,q3,v26,q4,v29,q5,v32,q6,rfl,p4w,p1,p2,p3,p4,d35,d36,d37,d38,d39,d40⟩
 refine ⟨_,rfl,?_⟩
 replace p1:=OE.low (G:=[]) p1 (hB.trans kd).size
 replace p2:=OE.low (G:=[]) p2 (hB.trans kd).size
 replace p3:=OE.low (G:=[]) p3 (hB.trans kd).size
 replace p4:=OE.low (G:=[]) p4 (hB.trans kd).size
 have p2s:=kd.trans p4w
 replace hr4:=kr hr4 p2s
 replace hB:=(hB.trans p2s)
 obtain ⟨y46,p4x,ho⟩:=bs ho
 refine WL.call rfl (op_callF Tryz.func24 rfl rfl) (spec_GreatestTopology_calls ((Le.own (Le.refl _) 2).le (kp _ p1.1 (cr [] km))) ((Le.own (Le.refl _) 2).le (kp _ p2.1 (cr [] km))) ((Le.own (Le.refl _) 2).le (kp _ p3.1 (cr [] km))) ((Le.own (Le.own (Le.refl _) 2) 22).le (kp _ p4.1 (cr [] km))) p4x) ?_
 rintro _ k1 ⟨v50,jk,v53,jl,v56,jm,v59,jn,v62,jo,rfl,p4y,p6,p7,p8,p9,pa,d65,d66,d67,d68,d69,d70,d71,d72,d73,d74⟩
 refine ⟨_,rfl,?_⟩
 replace p6:=OE.low (G:=[]) p6 (hB.trans (cr [] km)).size
 replace p7:=OE.low (G:=[]) p7 (hB.trans (cr [] km)).size
 replace p8:=OE.low (G:=[]) p8 (hB.trans (cr [] km)).size
 replace p9:=OE.low (G:=[]) p9 (hB.trans (cr [] km)).size
 replace pa:=OE.low (G:=[]) pa (hB.trans (cr [] km)).size
 have gb:=(cr [] km).trans p4y
 replace hr4:=kr hr4 gb
 replace p1:=ko p1 gb
 replace p2:=ko p2 gb
 replace p3:=ko p3 gb
 replace p4:=ko p4 gb
 replace hB:=(hB.trans gb)
 refine wv (v:=.tuple #[.agg #[.int .i64 (y46.1.Shape.Objects),v50,v53,v56,v59,v62],.int .i64 (y46.2)]) rfl (om _) ?_
 refine wv (v:=.agg #[.int .i64 (y46.1.Shape.Objects),v50,v53,v56,v59,v62]) rfl (op_extract rfl rfl) ?_
 refine wv (v:=.int .i64 (y46.2)) rfl (op_extract rfl rfl) ?_
 refine WL.alloc info30 zr30 fun q1 p1p p4z p1q ke=>?_
 replace p1q:Row p1p q1 [.int .i64 ((0:Int)),.slice none 0 0,.slice none 0 0,.slice none 0 0,.slice none 0 0,.slice none 0 0] 30:=p1q
 have p50:w.heap.size≤q1:=Nat.le_trans (hB.trans (cr [] k1)).size ke
 have p51:Dis [q1] [b1]:=dl (onw ke) (one_lt (Row.lt (kr hr4 (cr [] k1))))
 have p52:Dis [q1] q3:=dl (onw ke) (sl _ (kp _ p1.1 (cr [] k1)))
 have p53:Dis [q1] q4:=dl (onw ke) (sl _ (kp _ p2.1 (cr [] k1)))
 have p0x:Dis [q1] q5:=dl (onw ke) (sl _ (kp _ p3.1 (cr [] k1)))
 have gi:Dis [q1] q6:=dl (onw ke) (sl _ (kp _ p4.1 (cr [] k1)))
 have p0f:Dis [q1] jk:=dl (onw ke) (sl _ (kp _ p6.1 (cr [] k1)))
 have p0g:Dis [q1] jl:=dl (onw ke) (sl _ (kp _ p7.1 (cr [] k1)))
 have p0h:Dis [q1] jm:=dl (onw ke) (sl _ (kp _ p8.1 (cr [] k1)))
 have p0i:Dis [q1] jn:=dl (onw ke) (sl _ (kp _ p9.1 (cr [] k1)))
 have p0j:Dis [q1] jo:=dl (onw ke) (sl _ (kp _ pa.1 (cr [] k1)))
 have kf:=(cr [] k1).trans p4z
 replace hr4:=kr hr4 kf
 replace p1:=ko p1 kf
 replace p2:=ko p2 kf
 replace p3:=ko p3 kf
 replace p4:=ko p4 kf
 replace p6:=ko p6 kf
 replace p7:=ko p7 kf
 replace p8:=ko p8 kf
 replace p9:=ko p9 kf
 replace pa:=ko pa kf
 replace hB:=(hB.trans kf)
 refine WL.storeAll (us:=[.int .i64 (y46.1.Shape.Objects),v50,v53,v56,v59,v62]) info30 (by rw [sz30]; rfl) (kr p1q (cr [] p1p)) rfl rfl rfl (by intro u hu; simp only [List.mem_cons,List.mem_nil_iff,or_false] at hu; rcases hu with rfl | rfl | rfl | rfl | rfl | rfl <;> first | exact rfl | exact (STy.one _ p6.1 _ (ms rfl)) | exact (STy.one _ p7.1 _ (ms rfl)) | exact (STy.one _ p8.1 _ (ms rfl)) | exact (STy.one _ p9.1 _ (ms rfl)) | exact (STy.one _ pa.1 _ (ms rfl))) fun p5 p54 ph=>?_
 replace ph:Row p5 q1 [.int .i64 (y46.1.Shape.Objects),v50,v53,v56,v59,v62] 30:=ph
 have kg:=((cr [] p1p).nil (G:=[q1])).trans p54
 replace hr4:=Row.keep hr4 kg ((p51).symm _ (ms rfl))
 replace p1:=okp p1 kg (p52).symm
 replace p2:=okp p2 kg (p53).symm
 replace p3:=okp p3 kg (p0x).symm
 replace p4:=okp p4 kg (gi).symm
 replace p6:=okp p6 kg (p0f).symm
 replace p7:=okp p7 kg (p0g).symm
 replace p8:=okp p8 kg (p0h).symm
 replace p9:=okp p9 kg (p0i).symm
 replace pa:=okp pa kg (p0j).symm
 replace hB:=hB.then kg (one_then p50)
 refine wv (v:=.int .i64 (y46.2)) rfl (oa _) ?_
 refine anz ?_
 refine wq ?_
 refine W_region rfl ?_
 refine wv (v:=.agg #[.int .i64 (x0.Objects),z6,z7,z9,z8]) rfl (op_loadAgg u25z rfl info25 (by rw [sz25]; rfl) rfl (kr hr4 (cr [] p5)).at) ?_
 obtain ⟨y122,p55,ho⟩:=bs ho
 refine WL.call rfl (op_callF Tryz.func17 rfl rfl) (laws_toCategory_calls (kp _ za (hB.trans (cr [] p5))) (kp _ zb (hB.trans (cr [] p5))) (kp _ zd (hB.trans (cr [] p5))) (kp _ zc (hB.trans (cr [] p5))) p55) ?_
 rintro _ jb ⟨v126,qp,v129,qq,v132,qr,v135,qt,rfl,p56,pi,pj,pk,pm,nr,ns,nt,nu,nv,nw⟩
 refine ⟨_,rfl,?_⟩
 have gj:Dis qp [b1]:=dl (ofr pi) (one_lt (Row.lt (kr hr4 (cr [] p5))))
 have gk:Dis qp q3:=dl (ofr pi) (sl _ (kp _ p1.1 (cr [] p5)))
 have gl:Dis qp q4:=dl (ofr pi) (sl _ (kp _ p2.1 (cr [] p5)))
 have gm:Dis qp q5:=dl (ofr pi) (sl _ (kp _ p3.1 (cr [] p5)))
 have gn:Dis qp q6:=dl (ofr pi) (sl _ (kp _ p4.1 (cr [] p5)))
 have go:Dis qp jk:=dl (ofr pi) (sl _ (kp _ p6.1 (cr [] p5)))
 have gp:Dis qp jl:=dl (ofr pi) (sl _ (kp _ p7.1 (cr [] p5)))
 have gq:Dis qp jm:=dl (ofr pi) (sl _ (kp _ p8.1 (cr [] p5)))
 have gr:Dis qp jn:=dl (ofr pi) (sl _ (kp _ p9.1 (cr [] p5)))
 have gs:Dis qp jo:=dl (ofr pi) (sl _ (kp _ pa.1 (cr [] p5)))
 have gt:Dis qp [q1]:=dl (ofr pi) (one_lt (Row.lt (kr ph (cr [] p5))))
 replace pi:=OE.low (G:=[]) pi (hB.trans (cr [] p5)).size
 have gu:Dis qq [b1]:=dl (ofr pj) (one_lt (Row.lt (kr hr4 (cr [] p5))))
 have gv:Dis qq q3:=dl (ofr pj) (sl _ (kp _ p1.1 (cr [] p5)))
 have gw:Dis qq q4:=dl (ofr pj) (sl _ (kp _ p2.1 (cr [] p5)))
 have gx:Dis qq q5:=dl (ofr pj) (sl _ (kp _ p3.1 (cr [] p5)))
 have p57:Dis qq q6:=dl (ofr pj) (sl _ (kp _ p4.1 (cr [] p5)))
 have p58:Dis qq jk:=dl (ofr pj) (sl _ (kp _ p6.1 (cr [] p5)))
 have p59:Dis qq jl:=dl (ofr pj) (sl _ (kp _ p7.1 (cr [] p5)))
 have p5a:Dis qq jm:=dl (ofr pj) (sl _ (kp _ p8.1 (cr [] p5)))
 have p5b:Dis qq jn:=dl (ofr pj) (sl _ (kp _ p9.1 (cr [] p5)))
 have p5c:Dis qq jo:=dl (ofr pj) (sl _ (kp _ pa.1 (cr [] p5)))
 have p5d:Dis qq [q1]:=dl (ofr pj) (one_lt (Row.lt (kr ph (cr [] p5))))
 replace pj:=OE.low (G:=[]) pj (hB.trans (cr [] p5)).size
 have nx:Dis qr [b1]:=dl (ofr pk) (one_lt (Row.lt (kr hr4 (cr [] p5))))
 have ny:Dis qr q3:=dl (ofr pk) (sl _ (kp _ p1.1 (cr [] p5)))
 have nz:Dis qr q4:=dl (ofr pk) (sl _ (kp _ p2.1 (cr [] p5)))
 have g0:Dis qr q5:=dl (ofr pk) (sl _ (kp _ p3.1 (cr [] p5)))
 have g1:Dis qr q6:=dl (ofr pk) (sl _ (kp _ p4.1 (cr [] p5)))
 have g2:Dis qr jk:=dl (ofr pk) (sl _ (kp _ p6.1 (cr [] p5)))
 have g3:Dis qr jl:=dl (ofr pk) (sl _ (kp _ p7.1 (cr [] p5)))
 have n6:Dis qr jm:=dl (ofr pk) (sl _ (kp _ p8.1 (cr [] p5)))
 have g4:Dis qr jn:=dl (ofr pk) (sl _ (kp _ p9.1 (cr [] p5)))
 have n7:Dis qr jo:=dl (ofr pk) (sl _ (kp _ pa.1 (cr [] p5)))
 have g5:Dis qr [q1]:=dl (ofr pk) (one_lt (Row.lt (kr ph (cr [] p5))))
 replace pk:=OE.low (G:=[]) pk (hB.trans (cr [] p5)).size
 have n8:Dis qt [b1]:=dl (ofr pm) (one_lt (Row.lt (kr hr4 (cr [] p5))))
 have g6:Dis qt q3:=dl (ofr pm) (sl _ (kp _ p1.1 (cr [] p5)))
 have n9:Dis qt q4:=dl (ofr pm) (sl _ (kp _ p2.1 (cr [] p5)))
 have g7:Dis qt q5:=dl (ofr pm) (sl _ (kp _ p3.1 (cr [] p5)))
 have na:Dis qt q6:=dl (ofr pm) (sl _ (kp _ p4.1 (cr [] p5)))
 have g8:Dis qt jk:=dl (ofr pm) (sl _ (kp _ p6.1 (cr [] p5)))
 have nb:Dis qt jl:=dl (ofr pm) (sl _ (kp _ p7.1 (cr [] p5)))
 have g9:Dis qt jm:=dl (ofr pm) (sl _ (kp _ p8.1 (cr [] p5)))
 have nc:Dis qt jn:=dl (ofr pm) (sl _ (kp _ p9.1 (cr [] p5)))
 have ga:Dis qt jo:=dl (ofr pm) (sl _ (kp _ pa.1 (cr [] p5)))
 have nd:Dis qt [q1]:=dl (ofr pm) (one_lt (Row.lt (kr ph (cr [] p5))))
 replace pm:=OE.low (G:=[]) pm (hB.trans (cr [] p5)).size
 have k2:=(cr [] p5).trans p56
 replace hr4:=kr hr4 k2
 replace p1:=ko p1 k2
 replace p2:=ko p2 k2
 replace p3:=ko p3 k2
 replace p4:=ko p4 k2
 replace p6:=ko p6 k2
 replace p7:=ko p7 k2
 replace p8:=ko p8 k2
 replace p9:=ko p9 k2
 replace pa:=ko pa k2
 replace ph:=kr ph k2
 replace hB:=(hB.trans k2)
 refine WL.alloc info27 zr27 fun q2 gy p5e p1r jd=>?_
 replace p1r:Row gy q2 [.int .i64 ((0:Int)),.slice none 0 0,.slice none 0 0,.slice none 0 0,.slice none 0 0] 27:=p1r
 have p5f:w.heap.size≤q2:=Nat.le_trans (hB.trans (cr [] jb)).size jd
 have p5g:Dis [q2] [b1]:=dl (onw jd) (one_lt (Row.lt (kr hr4 (cr [] jb))))
 have p5h:Dis [q2] q3:=dl (onw jd) (sl _ (kp _ p1.1 (cr [] jb)))
 have p5i:Dis [q2] q4:=dl (onw jd) (sl _ (kp _ p2.1 (cr [] jb)))
 have p5j:Dis [q2] q5:=dl (onw jd) (sl _ (kp _ p3.1 (cr [] jb)))
 have p5k:Dis [q2] q6:=dl (onw jd) (sl _ (kp _ p4.1 (cr [] jb)))
 have p5l:Dis [q2] jk:=dl (onw jd) (sl _ (kp _ p6.1 (cr [] jb)))
 have p5m:Dis [q2] jl:=dl (onw jd) (sl _ (kp _ p7.1 (cr [] jb)))
 have p5n:Dis [q2] jm:=dl (onw jd) (sl _ (kp _ p8.1 (cr [] jb)))
 have p5o:Dis [q2] jn:=dl (onw jd) (sl _ (kp _ p9.1 (cr [] jb)))
 have p5p:Dis [q2] jo:=dl (onw jd) (sl _ (kp _ pa.1 (cr [] jb)))
 have p5q:Dis [q2] [q1]:=dl (onw jd) (one_lt (Row.lt (kr ph (cr [] jb))))
 have p2t:Dis [q2] qp:=dl (onw jd) (sl _ (kp _ pi.1 (cr [] jb)))
 have p2u:Dis [q2] qq:=dl (onw jd) (sl _ (kp _ pj.1 (cr [] jb)))
 have p2v:Dis [q2] qr:=dl (onw jd) (sl _ (kp _ pk.1 (cr [] jb)))
 have p2w:Dis [q2] qt:=dl (onw jd) (sl _ (kp _ pm.1 (cr [] jb)))
 have py:=(cr [] jb).trans p5e
 replace hr4:=kr hr4 py
 replace p1:=ko p1 py
 replace p2:=ko p2 py
 replace p3:=ko p3 py
 replace p4:=ko p4 py
 replace p6:=ko p6 py
 replace p7:=ko p7 py
 replace p8:=ko p8 py
 replace p9:=ko p9 py
 replace pa:=ko pa py
 replace ph:=kr ph py
 replace pi:=ko pi py
 replace pj:=ko pj py
 replace pk:=ko pk py
 replace pm:=ko pm py
 replace hB:=(hB.trans py)
 refine WL.storeAll (us:=[.int .i64 (y122.Objects),v126,v129,v132,v135]) info27 (by rw [sz27]; rfl) (kr p1r (cr [] gy)) rfl rfl rfl (by intro u hu; simp only [List.mem_cons,List.mem_nil_iff,or_false] at hu; rcases hu with rfl | rfl | rfl | rfl | rfl <;> first | exact rfl | exact (STy.one _ pi.1 _ (ms rfl)) | exact (STy.one _ pj.1 _ (ms rfl)) | exact (STy.one _ pk.1 _ (ms rfl)) | exact (STy.one _ pm.1 _ (ms rfl))) fun p0 p5r ps=>?_
 replace ps:Row p0 q2 [.int .i64 (y122.Objects),v126,v129,v132,v135] 27:=ps
 have je:=((cr [] gy).nil (G:=[q2])).trans p5r
 replace hr4:=Row.keep hr4 je ((p5g).symm _ (ms rfl))
 replace p1:=okp p1 je (p5h).symm
 replace p2:=okp p2 je (p5i).symm
 replace p3:=okp p3 je (p5j).symm
 replace p4:=okp p4 je (p5k).symm
 replace p6:=okp p6 je (p5l).symm
 replace p7:=okp p7 je (p5m).symm
 replace p8:=okp p8 je (p5n).symm
 replace p9:=okp p9 je (p5o).symm
 replace pa:=okp pa je (p5p).symm
 replace ph:=Row.keep ph je ((p5q).symm _ (ms rfl))
 replace pi:=okp pi je (p2t).symm
 replace pj:=okp pj je (p2u).symm
 replace pk:=okp pk je (p2v).symm
 replace pm:=okp pm je (p2w).symm
 replace hB:=hB.then je (one_then p5f)
 refine anz ?_
 refine wq ?_
 refine W_region rfl ?_
 refine wv (v:=.agg #[.int .i64 (y122.Objects),v126,v129,v132,v135]) rfl (op_loadAgg u27z rfl info27 (by rw [sz27]; rfl) rfl (kr ps (cr [] p0)).at) ?_
 obtain ⟨y215,p5s,ho⟩:=bs ho
 refine WL.call rfl (op_callF Tryz.func25 rfl rfl) (impl_GreatestTopology_calls ((Le.own (Le.refl _) 2).le (kp _ pi.1 (cr [] p0))) ((Le.own (Le.refl _) 2).le (kp _ pj.1 (cr [] p0))) ((Le.own (Le.refl _) 2).le (kp _ pk.1 (cr [] p0))) ((Le.own (Le.own (Le.refl _) 2) 22).le (kp _ pm.1 (cr [] p0))) p5s) ?_
 rintro _ qu ⟨v219,qc,v222,qd,v225,qe,v228,qf,v231,qh,rfl,p5t,pc,pd,pe,pf,pg,p16,p17,p18,p19,p1a,p5u,p5v,p5w,p5x,p5y⟩
 refine ⟨_,rfl,?_⟩
 have p5z:Dis qc [b1]:=dl (ofr pc) (one_lt (Row.lt (kr hr4 (cr [] p0))))
 have p60:Dis qc q3:=dl (ofr pc) (sl _ (kp _ p1.1 (cr [] p0)))
 have p61:Dis qc q4:=dl (ofr pc) (sl _ (kp _ p2.1 (cr [] p0)))
 have p62:Dis qc q5:=dl (ofr pc) (sl _ (kp _ p3.1 (cr [] p0)))
 have p63:Dis qc q6:=dl (ofr pc) (sl _ (kp _ p4.1 (cr [] p0)))
 have p64:Dis qc jk:=dl (ofr pc) (sl _ (kp _ p6.1 (cr [] p0)))
 have p65:Dis qc jl:=dl (ofr pc) (sl _ (kp _ p7.1 (cr [] p0)))
 have p66:Dis qc jm:=dl (ofr pc) (sl _ (kp _ p8.1 (cr [] p0)))
 have p67:Dis qc jn:=dl (ofr pc) (sl _ (kp _ p9.1 (cr [] p0)))
 have p68:Dis qc jo:=dl (ofr pc) (sl _ (kp _ pa.1 (cr [] p0)))
 have p69:Dis qc [q1]:=dl (ofr pc) (one_lt (Row.lt (kr ph (cr [] p0))))
 have p00:Dis qc qp:=dl (ofr pc) (sl _ (kp _ pi.1 (cr [] p0)))
 have p01:Dis qc qq:=dl (ofr pc) (sl _ (kp _ pj.1 (cr [] p0)))
 have p02:Dis qc qr:=dl (ofr pc) (sl _ (kp _ pk.1 (cr [] p0)))
 have p03:Dis qc qt:=dl (ofr pc) (sl _ (kp _ pm.1 (cr [] p0)))
 have p6a:Dis qc [q2]:=dl (ofr pc) (one_lt (Row.lt (kr ps (cr [] p0))))
 replace pc:=OE.low (G:=[]) pc (hB.trans (cr [] p0)).size
 have p6b:Dis qd [b1]:=dl (ofr pd) (one_lt (Row.lt (kr hr4 (cr [] p0))))
 have p6c:Dis qd q3:=dl (ofr pd) (sl _ (kp _ p1.1 (cr [] p0)))
 have p6d:Dis qd q4:=dl (ofr pd) (sl _ (kp _ p2.1 (cr [] p0)))
 have p6e:Dis qd q5:=dl (ofr pd) (sl _ (kp _ p3.1 (cr [] p0)))
 have p6f:Dis qd q6:=dl (ofr pd) (sl _ (kp _ p4.1 (cr [] p0)))
 have p1b:Dis qd jk:=dl (ofr pd) (sl _ (kp _ p6.1 (cr [] p0)))
 have p1c:Dis qd jl:=dl (ofr pd) (sl _ (kp _ p7.1 (cr [] p0)))
 have p1d:Dis qd jm:=dl (ofr pd) (sl _ (kp _ p8.1 (cr [] p0)))
 have p1e:Dis qd jn:=dl (ofr pd) (sl _ (kp _ p9.1 (cr [] p0)))
 have p1f:Dis qd jo:=dl (ofr pd) (sl _ (kp _ pa.1 (cr [] p0)))
 have p1g:Dis qd [q1]:=dl (ofr pd) (one_lt (Row.lt (kr ph (cr [] p0))))
 have nj:Dis qd qp:=dl (ofr pd) (sl _ (kp _ pi.1 (cr [] p0)))
 have nk:Dis qd qq:=dl (ofr pd) (sl _ (kp _ pj.1 (cr [] p0)))
 have nl:Dis qd qr:=dl (ofr pd) (sl _ (kp _ pk.1 (cr [] p0)))
 have nm:Dis qd qt:=dl (ofr pd) (sl _ (kp _ pm.1 (cr [] p0)))
 have p1h:Dis qd [q2]:=dl (ofr pd) (one_lt (Row.lt (kr ps (cr [] p0))))
 replace pd:=OE.low (G:=[]) pd (hB.trans (cr [] p0)).size
 have p6g:Dis qe [b1]:=dl (ofr pe) (one_lt (Row.lt (kr hr4 (cr [] p0))))
 have p6h:Dis qe q3:=dl (ofr pe) (sl _ (kp _ p1.1 (cr [] p0)))
 have p6i:Dis qe q4:=dl (ofr pe) (sl _ (kp _ p2.1 (cr [] p0)))
 have p6j:Dis qe q5:=dl (ofr pe) (sl _ (kp _ p3.1 (cr [] p0)))
 have p6k:Dis qe q6:=dl (ofr pe) (sl _ (kp _ p4.1 (cr [] p0)))
 have p6l:Dis qe jk:=dl (ofr pe) (sl _ (kp _ p6.1 (cr [] p0)))
 have p6m:Dis qe jl:=dl (ofr pe) (sl _ (kp _ p7.1 (cr [] p0)))
 have p6n:Dis qe jm:=dl (ofr pe) (sl _ (kp _ p8.1 (cr [] p0)))
 have p6o:Dis qe jn:=dl (ofr pe) (sl _ (kp _ p9.1 (cr [] p0)))
 have p1i:Dis qe jo:=dl (ofr pe) (sl _ (kp _ pa.1 (cr [] p0)))
 have p6p:Dis qe [q1]:=dl (ofr pe) (one_lt (Row.lt (kr ph (cr [] p0))))
 have p04:Dis qe qp:=dl (ofr pe) (sl _ (kp _ pi.1 (cr [] p0)))
 have p05:Dis qe qq:=dl (ofr pe) (sl _ (kp _ pj.1 (cr [] p0)))
 have p06:Dis qe qr:=dl (ofr pe) (sl _ (kp _ pk.1 (cr [] p0)))
 have p07:Dis qe qt:=dl (ofr pe) (sl _ (kp _ pm.1 (cr [] p0)))
 have p6q:Dis qe [q2]:=dl (ofr pe) (one_lt (Row.lt (kr ps (cr [] p0))))
 replace pe:=OE.low (G:=[]) pe (hB.trans (cr [] p0)).size
 have p6r:Dis qf [b1]:=dl (ofr pf) (one_lt (Row.lt (kr hr4 (cr [] p0))))
 have p6s:Dis qf q3:=dl (ofr pf) (sl _ (kp _ p1.1 (cr [] p0)))
 have p6t:Dis qf q4:=dl (ofr pf) (sl _ (kp _ p2.1 (cr [] p0)))
 have p1j:Dis qf q5:=dl (ofr pf) (sl _ (kp _ p3.1 (cr [] p0)))
 have p6u:Dis qf q6:=dl (ofr pf) (sl _ (kp _ p4.1 (cr [] p0)))
 have p6v:Dis qf jk:=dl (ofr pf) (sl _ (kp _ p6.1 (cr [] p0)))
 have p6w:Dis qf jl:=dl (ofr pf) (sl _ (kp _ p7.1 (cr [] p0)))
 have p6x:Dis qf jm:=dl (ofr pf) (sl _ (kp _ p8.1 (cr [] p0)))
 have p6y:Dis qf jn:=dl (ofr pf) (sl _ (kp _ p9.1 (cr [] p0)))
 have p6z:Dis qf jo:=dl (ofr pf) (sl _ (kp _ pa.1 (cr [] p0)))
 have p70:Dis qf [q1]:=dl (ofr pf) (one_lt (Row.lt (kr ph (cr [] p0))))
 have p08:Dis qf qp:=dl (ofr pf) (sl _ (kp _ pi.1 (cr [] p0)))
 have p09:Dis qf qq:=dl (ofr pf) (sl _ (kp _ pj.1 (cr [] p0)))
 have nn:Dis qf qr:=dl (ofr pf) (sl _ (kp _ pk.1 (cr [] p0)))
 have p0a:Dis qf qt:=dl (ofr pf) (sl _ (kp _ pm.1 (cr [] p0)))
 have p71:Dis qf [q2]:=dl (ofr pf) (one_lt (Row.lt (kr ps (cr [] p0))))
 replace pf:=OE.low (G:=[]) pf (hB.trans (cr [] p0)).size
 have p72:Dis qh [b1]:=dl (ofr pg) (one_lt (Row.lt (kr hr4 (cr [] p0))))
 have p73:Dis qh q3:=dl (ofr pg) (sl _ (kp _ p1.1 (cr [] p0)))
 have p74:Dis qh q4:=dl (ofr pg) (sl _ (kp _ p2.1 (cr [] p0)))
 have p75:Dis qh q5:=dl (ofr pg) (sl _ (kp _ p3.1 (cr [] p0)))
 have p76:Dis qh q6:=dl (ofr pg) (sl _ (kp _ p4.1 (cr [] p0)))
 have p77:Dis qh jk:=dl (ofr pg) (sl _ (kp _ p6.1 (cr [] p0)))
 have p78:Dis qh jl:=dl (ofr pg) (sl _ (kp _ p7.1 (cr [] p0)))
 have p1k:Dis qh jm:=dl (ofr pg) (sl _ (kp _ p8.1 (cr [] p0)))
 have p79:Dis qh jn:=dl (ofr pg) (sl _ (kp _ p9.1 (cr [] p0)))
 have p7a:Dis qh jo:=dl (ofr pg) (sl _ (kp _ pa.1 (cr [] p0)))
 have p7b:Dis qh [q1]:=dl (ofr pg) (one_lt (Row.lt (kr ph (cr [] p0))))
 have p0b:Dis qh qp:=dl (ofr pg) (sl _ (kp _ pi.1 (cr [] p0)))
 have p0c:Dis qh qq:=dl (ofr pg) (sl _ (kp _ pj.1 (cr [] p0)))
 have p0d:Dis qh qr:=dl (ofr pg) (sl _ (kp _ pk.1 (cr [] p0)))
 have p0e:Dis qh qt:=dl (ofr pg) (sl _ (kp _ pm.1 (cr [] p0)))
 have p7c:Dis qh [q2]:=dl (ofr pg) (one_lt (Row.lt (kr ps (cr [] p0))))
 replace pg:=OE.low (G:=[]) pg (hB.trans (cr [] p0)).size
 have jc:=(cr [] p0).trans p5t
 replace hr4:=kr hr4 jc
 replace p1:=ko p1 jc
 replace p2:=ko p2 jc
 replace p3:=ko p3 jc
 replace p4:=ko p4 jc
 replace p6:=ko p6 jc
 replace p7:=ko p7 jc
 replace p8:=ko p8 jc
 replace p9:=ko p9 jc
 replace pa:=ko pa jc
 replace ph:=kr ph jc
 replace pi:=ko pi jc
 replace pj:=ko pj jc
 replace pk:=ko pk jc
 replace pm:=ko pm jc
 replace ps:=kr ps jc
 replace hB:=(hB.trans jc)
 refine wv (v:=.tuple #[.agg #[.int .i64 (y215.1.Shape.Objects),v219,v222,v225,v228,v231],.int .i64 (y215.2)]) rfl (om _) ?_
 refine wv (v:=.agg #[.int .i64 (y215.1.Shape.Objects),v219,v222,v225,v228,v231]) rfl (op_extract rfl rfl) ?_
 refine wv (v:=.int .i64 (y215.2)) rfl (op_extract rfl rfl) ?_
 refine WL.alloc info30 zr30 fun q0 k0 p1l no qy=>?_
 replace no:Row k0 q0 [.int .i64 ((0:Int)),.slice none 0 0,.slice none 0 0,.slice none 0 0,.slice none 0 0,.slice none 0 0] 30:=no
 have p7d:w.heap.size≤q0:=Nat.le_trans (hB.trans (cr [] qu)).size qy
 have p7e:Dis [q0] [b1]:=dl (onw qy) (one_lt (Row.lt (kr hr4 (cr [] qu))))
 have p7f:Dis [q0] q3:=dl (onw qy) (sl _ (kp _ p1.1 (cr [] qu)))
 have p7g:Dis [q0] q4:=dl (onw qy) (sl _ (kp _ p2.1 (cr [] qu)))
 have p7h:Dis [q0] q5:=dl (onw qy) (sl _ (kp _ p3.1 (cr [] qu)))
 have p7i:Dis [q0] q6:=dl (onw qy) (sl _ (kp _ p4.1 (cr [] qu)))
 have p7j:Dis [q0] jk:=dl (onw qy) (sl _ (kp _ p6.1 (cr [] qu)))
 have p7k:Dis [q0] jl:=dl (onw qy) (sl _ (kp _ p7.1 (cr [] qu)))
 have p7l:Dis [q0] jm:=dl (onw qy) (sl _ (kp _ p8.1 (cr [] qu)))
 have p7m:Dis [q0] jn:=dl (onw qy) (sl _ (kp _ p9.1 (cr [] qu)))
 have p7n:Dis [q0] jo:=dl (onw qy) (sl _ (kp _ pa.1 (cr [] qu)))
 have p7o:Dis [q0] [q1]:=dl (onw qy) (one_lt (Row.lt (kr ph (cr [] qu))))
 have p2x:Dis [q0] qp:=dl (onw qy) (sl _ (kp _ pi.1 (cr [] qu)))
 have p2y:Dis [q0] qq:=dl (onw qy) (sl _ (kp _ pj.1 (cr [] qu)))
 have p2z:Dis [q0] qr:=dl (onw qy) (sl _ (kp _ pk.1 (cr [] qu)))
 have p30:Dis [q0] qt:=dl (onw qy) (sl _ (kp _ pm.1 (cr [] qu)))
 have p7p:Dis [q0] [q2]:=dl (onw qy) (one_lt (Row.lt (kr ps (cr [] qu))))
 have p31:Dis [q0] qc:=dl (onw qy) (sl _ (kp _ pc.1 (cr [] qu)))
 have p32:Dis [q0] qd:=dl (onw qy) (sl _ (kp _ pd.1 (cr [] qu)))
 have p33:Dis [q0] qe:=dl (onw qy) (sl _ (kp _ pe.1 (cr [] qu)))
 have p34:Dis [q0] qf:=dl (onw qy) (sl _ (kp _ pf.1 (cr [] qu)))
 have p35:Dis [q0] qh:=dl (onw qy) (sl _ (kp _ pg.1 (cr [] qu)))
 have qz:=(cr [] qu).trans p1l
 replace hr4:=kr hr4 qz
 replace p1:=ko p1 qz
 replace p2:=ko p2 qz
 replace p3:=ko p3 qz
 replace p4:=ko p4 qz
 replace p6:=ko p6 qz
 replace p7:=ko p7 qz
 replace p8:=ko p8 qz
 replace p9:=ko p9 qz
 replace pa:=ko pa qz
 replace ph:=kr ph qz
 replace pi:=ko pi qz
 replace pj:=ko pj qz
 replace pk:=ko pk qz
 replace pm:=ko pm qz
 replace ps:=kr ps qz
 replace pc:=ko pc qz
 replace pd:=ko pd qz
 replace pe:=ko pe qz
 replace pf:=ko pf qz
 replace pg:=ko pg qz
 replace hB:=(hB.trans qz)
 refine WL.storeAll (us:=[.int .i64 (y215.1.Shape.Objects),v219,v222,v225,v228,v231]) info30 (by rw [sz30]; rfl) (kr no (cr [] k0)) rfl rfl rfl (by intro u hu; simp only [List.mem_cons,List.mem_nil_iff,or_false] at hu; rcases hu with rfl | rfl | rfl | rfl | rfl | rfl <;> first | exact rfl | exact (STy.one _ pc.1 _ (ms rfl)) | exact (STy.one _ pd.1 _ (ms rfl)) | exact (STy.one _ pe.1 _ (ms rfl)) | exact (STy.one _ pf.1 _ (ms rfl)) | exact (STy.one _ pg.1 _ (ms rfl))) fun p36 p7q qi=>?_
 replace qi:Row p36 q0 [.int .i64 (y215.1.Shape.Objects),v219,v222,v225,v228,v231] 30:=qi
 have j0:=((cr [] k0).nil (G:=[q0])).trans p7q
 replace hr4:=Row.keep hr4 j0 ((p7e).symm _ (ms rfl))
 replace p1:=okp p1 j0 (p7f).symm
 replace p2:=okp p2 j0 (p7g).symm
 replace p3:=okp p3 j0 (p7h).symm
 replace p4:=okp p4 j0 (p7i).symm
 replace p6:=okp p6 j0 (p7j).symm
 replace p7:=okp p7 j0 (p7k).symm
 replace p8:=okp p8 j0 (p7l).symm
 replace p9:=okp p9 j0 (p7m).symm
 replace pa:=okp pa j0 (p7n).symm
 replace ph:=Row.keep ph j0 ((p7o).symm _ (ms rfl))
 replace pi:=okp pi j0 (p2x).symm
 replace pj:=okp pj j0 (p2y).symm
 replace pk:=okp pk j0 (p2z).symm
 replace pm:=okp pm j0 (p30).symm
 replace ps:=Row.keep ps j0 ((p7p).symm _ (ms rfl))
 replace pc:=okp pc j0 (p31).symm
 replace pd:=okp pd j0 (p32).symm
 replace pe:=okp pe j0 (p33).symm
 replace pf:=okp pf j0 (p34).symm
 replace pg:=okp pg j0 (p35).symm
 replace hB:=hB.then j0 (one_then p7d)
 refine wv (v:=.int .i64 (y215.2)) rfl (oa _) ?_
 refine anz ?_
 refine wq ?_
 refine wq ?_
 refine Wq rfl (cr [] p36) ?_
 obtain ⟨g357,hm358,ho⟩:=bs ho
 refine QL.meet (fun r=>∃ F,r=updL F [(1,.pointer (some (⟨b1,0,none⟩))),(4,.pointer (some (⟨q1,0,none⟩))),(5,.int .i64 (y46.2)),(6,.pointer (some (⟨q2,0,none⟩))),(7,.pointer (some (⟨q0,0,none⟩))),(8,.int .i64 (y215.2)),(40,.bool (g357))]) ?_ ?_
 skip
 refine qv (v:=.agg #[.int .i64 (y215.1.Shape.Objects),v219,v222,v225,v228,v231]) rfl (fun _ hC=>op_loadAgg u30 rfl info30 (by rw [sz30]; rfl) rfl (kr qi hC).at) ?_
 refine qv (v:=.agg #[.int .i64 (y46.1.Shape.Objects),v50,v53,v56,v59,v62]) rfl (fun _ hC=>op_loadAgg u30 rfl info30 (by rw [sz30]; rfl) rfl (kr ph hC).at) ?_
 obtain ⟨y359,p7r,hm358⟩:=bs hm358
 refine QL.call (v:=.bool (y359)) rfl (fun _ _=>op_callF Tryz.func19 rfl rfl) (fun _ hC=>(laws_eqTopology_calls ((Le.own (Le.refl _) 2).le (kp _ pc.1 hC)) ((Le.own (Le.refl _) 2).le (kp _ pd.1 hC)) ((Le.own (Le.refl _) 2).le (kp _ pe.1 hC)) ((Le.own (Le.own (Le.refl _) 2) 22).le (kp _ pf.1 hC)) ((Le.own (Le.own (Le.own (Le.refl _) 2) 22) 23).le (kp _ pg.1 hC)) ((Le.own (Le.refl _) 2).le (kp _ p6.1 hC)) ((Le.own (Le.refl _) 2).le (kp _ p7.1 hC)) ((Le.own (Le.refl _) 2).le (kp _ p8.1 hC)) ((Le.own (Le.own (Le.refl _) 2) 22).le (kp _ p9.1 hC)) ((Le.own (Le.own (Le.own (Le.refl _) 2) 22) 23).le (kp _ pa.1 hC)) p7r).mono fun _ _ h=>⟨h.1,hC.trans h.2⟩) ?_
 refine qv (v:=.bool (!(y359))) rfl (fun _ _=>op_not rfl) ?_
 refine qv (v:=.bool (!(y359))) rfl (fun _ _=>om _) ?_
 rcases Bool.eq_false_or_eq_true (!(y359)) with kh | kh
 rw [kh] at hm358
 refine qs rfl (congrArg some kh) rfl ?_
 refine qs rfl (congrArg some kh) rfl ?_
 refine qs rfl (congrArg some kh) rfl ?_
 refine qv (v:=.bool (true)) rfl (fun _ _=>op_pickT rfl kh) ?_
 cases hm358
 exact fr ⟨rfl,rfl,rfl,rfl,rfl,rfl,rfl,trivial⟩
 rw [kh] at hm358
 refine qg (v:=.int .i64 (y215.2)) rfl (congrArg some kh) (fun _ _=>om _) ?_
 refine qg (v:=.int .i64 (y46.2)) rfl (congrArg some kh) (fun _ _=>om _) ?_
 refine qg (v:=.bool ((y215.2) != (y46.2))) rfl (congrArg some kh) (fun _ _=>op_bin rfl rfl bin_neq) ?_
 refine qv (v:=.bool ((y215.2) != (y46.2))) rfl (fun _ _=>op_pickF rfl kh) ?_
 cases hm358
 exact fr ⟨rfl,rfl,rfl,rfl,rfl,rfl,rfl,trivial⟩
 rintro _ ⟨F,rfl⟩
 intro p0o pn
 refine anz ?_
 refine W_cond (b:=g357) rfl ?_ ?_
 intro p1s
 rw [p1s] at ho
 refine wq ?_
 refine Wq rfl pn ?_
 refine qv (v:=.bool (false)) rfl (fun _ _=>oa _) ?_
 intro pc1 p7s
 refine anz ?_
 cases ho
 exact W_ret ⟨_,res_1 Tryz.results4,rfl,(hB.trans p7s)⟩
 intro p1s
 rw [p1s] at ho
 refine W_skip ?_
 refine anz ?_
 refine wq ?_
 refine wq ?_
 obtain ⟨y367,p7t,ho⟩:=bs ho
 refine W_any (m:=3) (U:=[[],[],[]]) (S:=[⟨true,pl fun _ _ u=>u=(.agg #[.int .i64 (y122.Objects),v126,v129,v132,v135]:Value)⟩,⟨true,pl fun _ _ u=>u=(.agg #[.int .i64 (x0.Objects),z6,z7,z9,z8]:Value)⟩,⟨true,pl (fun f w v=>∃ (v369:Value) (j1:List Nat) (v372:Value) (j2:List Nat) (v375:Value) (j3:List Nat) (v378:Value) (j4:List Nat),v = .agg #[.int .i64 (y367.Objects),v369,v372,v375,v378]∧f=(j1++(j2++(j3++j4)))∧(sOwn 2 (sInt .i64)).rep w.heap [v369] (y367.From) j1∧(sOwn 2 (sInt .i64)).rep w.heap [v372] (y367.To) j2∧(sOwn 2 (sInt .i64)).rep w.heap [v375] (y367.Identity) j3∧(sOwn 22 (sOwn 2 (sInt .i64))).rep w.heap [v378] (y367.Composites) j4∧List.Nodup ((j1++(j2++(j3++j4)))))⟩]) (Z:=[]) hmix rfl (by decide) (by decide +kernel) (fun _ _ _ h=>np_out h) (by decide) rfl (by decide +kernel) (stable_all <| stable_cons stable_val (stable_cons stable_val (stable_cons (stable_pl <| by rintro f F w w' v hC hn ⟨v369,j1,v372,j2,v375,j3,v378,j4,e1_,e2_,ho371,ho374,ho377,ho380,hnd⟩; exact ⟨v369,j1,v372,j2,v375,j3,v378,j4,e1_,e2_,STy.keep _ ho371 hC (fun b hb=>hn b (by rw [e2_]; simp [hb])),STy.keep _ ho374 hC (fun b hb=>hn b (by rw [e2_]; simp [hb])),STy.keep _ ho377 hC (fun b hb=>hn b (by rw [e2_]; simp [hb])),STy.keep _ ho380 hC (fun b hb=>hn b (by rw [e2_]; simp [hb])),hnd⟩) ( stable_nil)))) ?_ ?_
 refine owes_cons ?_ ( owes_cons ?_ ( owes_cons ?_ ( owes_nil)))
 refine Owes.val rfl rfl rfl ?_
 intro g r wr hCr H hot
 have hC:=pn.trans hCr
 obtain ⟨F,rfl⟩:=fr (r:=r) (l:=[(6,.pointer (some (⟨q2,0,none⟩)))]) ⟨(hot 6 (by decide)),trivial⟩
 exact op_loadAgg u27z rfl info27 (by rw [sz27]; rfl) rfl (kr ps hC).at
 refine Owes.val rfl rfl rfl ?_
 intro g r wr hCr H hot
 have hC:=pn.trans hCr
 obtain ⟨F,rfl⟩:=fr (r:=r) (l:=[(1,.pointer (some (⟨b1,0,none⟩)))]) ⟨(hot 1 (by decide)),trivial⟩
 exact op_loadAgg u25z rfl info25 (by rw [sz25]; rfl) rfl (kr hr4 hC).at
 refine Owes.mem rfl rfl rfl ?_
 intro g r wr hCr H hot
 have hC:=pn.trans hCr
 obtain ⟨F,rfl⟩:=fr (r:=r) (l:=[(42,.agg #[.int .i64 (x0.Objects),z6,z7,z9,z8])]) ⟨(H 1 (by decide +kernel) 42 rfl),trivial⟩
 exact OpW.callV (op_callF Tryz.func17 rfl rfl) (laws_toCategory_calls (kp _ za (hB.trans hC)) (kp _ zb (hB.trans hC)) (kp _ zd (hB.trans hC)) (kp _ zc (hB.trans hC)) p7t) fun e w' ⟨v369,j1,v372,j2,v375,j3,v378,j4,he,hC',qk,ql,qm,qn,d0_1,d0_2,d0_3,d1_2,d1_3,d2_3⟩=>⟨_,he,hC',(j1++(j2++(j3++j4))),(fun b hb=>(List.mem_append.1 hb).elim (fun hb=>⟨ofr qk b hb,sl _ qk.1 b hb⟩) (fun hb=>(List.mem_append.1 hb).elim (fun hb=>⟨ofr ql b hb,sl _ ql.1 b hb⟩) (fun hb=>(List.mem_append.1 hb).elim (fun hb=>⟨ofr qm b hb,sl _ qm.1 b hb⟩) (fun hb=>⟨ofr qn b hb,sl _ qn.1 b hb⟩)))),v369,j1,v372,j2,v375,j3,v378,j4,rfl,rfl,qk.1,ql.1,qm.1,qn.1,(nodup_app qk.2.1 (nodup_app ql.2.1 (nodup_app qm.2.1 qn.2.1 d2_3) (dis_appR d1_2 d1_3)) (dis_appR d0_1 (dis_appR d0_2 d0_3)))⟩
 rintro g r jj ⟨p7u,hdone,hot,hfresh,hdis⟩
 obtain ⟨v369,j1,v372,j2,v375,j3,v378,j4,hvo371,hgo371,qk,ql,qm,qn,hno371⟩:=hdone 2 (by decide) (by decide) 43 rfl
 have hfo371:=hfresh 2 (by decide)
 have hdd:=hdis
 obtain ⟨F,rfl⟩:=fr (r:=r) (l:=[(1,.pointer (some (⟨b1,0,none⟩))),(4,.pointer (some (⟨q1,0,none⟩))),(5,.int .i64 (y46.2)),(6,.pointer (some (⟨q2,0,none⟩))),(7,.pointer (some (⟨q0,0,none⟩))),(8,.int .i64 (y215.2)),(41,.agg #[.int .i64 (y122.Objects),v126,v129,v132,v135]),(43,.agg #[.int .i64 (y367.Objects),v369,v372,v375,v378])]) ⟨(hot 1 (by decide)),(hot 4 (by decide)),(hot 5 (by decide)),(hot 6 (by decide)),(hot 7 (by decide)),(hot 8 (by decide)),(hdone 0 (by decide) (by decide) 41 rfl),hvo371,trivial⟩
 have kn : ∀ b∈j1,p0o.heap.size≤b:=fun b hb=>(hfo371 b (show b∈g 2 from (show ∀ b∈j1,b∈g 2 from (fun b hb=>(by rw [hgo371]; simp [hb]))) b hb)).1
 replace qk:OE [] w.heap.size jj (sOwn 2 (sInt .i64)) [v369] (y367.From) j1:=⟨qk,(List.nodup_append.1 hno371).1,fun b hb=>.inr (Nat.le_trans (hB.trans pn).size (kn b hb))⟩
 have p7v:Dis j1 qp:=dl kn (sl _ (kp _ pi.1 pn))
 have p7w:Dis j1 qq:=dl kn (sl _ (kp _ pj.1 pn))
 have p7x:Dis j1 qr:=dl kn (sl _ (kp _ pk.1 pn))
 have p7y:Dis j1 qt:=dl kn (sl _ (kp _ pm.1 pn))
 have p7z:Dis j1 qc:=dl kn (sl _ (kp _ pc.1 pn))
 have p80:Dis j1 qd:=dl kn (sl _ (kp _ pd.1 pn))
 have p81:Dis j1 qe:=dl kn (sl _ (kp _ pe.1 pn))
 have p82:Dis j1 qf:=dl kn (sl _ (kp _ pf.1 pn))
 have p83:Dis j1 qh:=dl kn (sl _ (kp _ pg.1 pn))
 have kq : ∀ b∈j2,p0o.heap.size≤b:=fun b hb=>(hfo371 b (show b∈g 2 from (show ∀ b∈j2,b∈g 2 from (fun b hb=>(by rw [hgo371]; simp [hb]))) b hb)).1
 replace ql:OE [] w.heap.size jj (sOwn 2 (sInt .i64)) [v372] (y367.To) j2:=⟨ql,(List.nodup_append.1 (List.nodup_append.1 hno371).2.1).1,fun b hb=>.inr (Nat.le_trans (hB.trans pn).size (kq b hb))⟩
 have p84:Dis j2 qp:=dl kq (sl _ (kp _ pi.1 pn))
 have p85:Dis j2 qq:=dl kq (sl _ (kp _ pj.1 pn))
 have p86:Dis j2 qr:=dl kq (sl _ (kp _ pk.1 pn))
 have p87:Dis j2 qt:=dl kq (sl _ (kp _ pm.1 pn))
 have p88:Dis j2 qc:=dl kq (sl _ (kp _ pc.1 pn))
 have p89:Dis j2 qd:=dl kq (sl _ (kp _ pd.1 pn))
 have p8a:Dis j2 qe:=dl kq (sl _ (kp _ pe.1 pn))
 have p8b:Dis j2 qf:=dl kq (sl _ (kp _ pf.1 pn))
 have p8c:Dis j2 qh:=dl kq (sl _ (kp _ pg.1 pn))
 have ks : ∀ b∈j3,p0o.heap.size≤b:=fun b hb=>(hfo371 b (show b∈g 2 from (show ∀ b∈j3,b∈g 2 from (fun b hb=>(by rw [hgo371]; simp [hb]))) b hb)).1
 replace qm:OE [] w.heap.size jj (sOwn 2 (sInt .i64)) [v375] (y367.Identity) j3:=⟨qm,(List.nodup_append.1 (List.nodup_append.1 (List.nodup_append.1 hno371).2.1).2.1).1,fun b hb=>.inr (Nat.le_trans (hB.trans pn).size (ks b hb))⟩
 have p8d:Dis j3 qp:=dl ks (sl _ (kp _ pi.1 pn))
 have p8e:Dis j3 qq:=dl ks (sl _ (kp _ pj.1 pn))
 have p8f:Dis j3 qr:=dl ks (sl _ (kp _ pk.1 pn))
 have p8g:Dis j3 qt:=dl ks (sl _ (kp _ pm.1 pn))
 have p8h:Dis j3 qc:=dl ks (sl _ (kp _ pc.1 pn))
 have p8i:Dis j3 qd:=dl ks (sl _ (kp _ pd.1 pn))
 have p8j:Dis j3 qe:=dl ks (sl _ (kp _ pe.1 pn))
 have p8k:Dis j3 qf:=dl ks (sl _ (kp _ pf.1 pn))
 have p8l:Dis j3 qh:=dl ks (sl _ (kp _ pg.1 pn))
 have kt : ∀ b∈j4,p0o.heap.size≤b:=fun b hb=>(hfo371 b (show b∈g 2 from (show ∀ b∈j4,b∈g 2 from (fun b hb=>(by rw [hgo371]; simp [hb]))) b hb)).1
 replace qn:OE [] w.heap.size jj (sOwn 22 (sOwn 2 (sInt .i64))) [v378] (y367.Composites) j4:=⟨qn,(List.nodup_append.1 (List.nodup_append.1 (List.nodup_append.1 hno371).2.1).2.1).2.1,fun b hb=>.inr (Nat.le_trans (hB.trans pn).size (kt b hb))⟩
 have p8m:Dis j4 qp:=dl kt (sl _ (kp _ pi.1 pn))
 have p8n:Dis j4 qq:=dl kt (sl _ (kp _ pj.1 pn))
 have p8o:Dis j4 qr:=dl kt (sl _ (kp _ pk.1 pn))
 have p8p:Dis j4 qt:=dl kt (sl _ (kp _ pm.1 pn))
 have p8q:Dis j4 qc:=dl kt (sl _ (kp _ pc.1 pn))
 have p8r:Dis j4 qd:=dl kt (sl _ (kp _ pd.1 pn))
 have p8s:Dis j4 qe:=dl kt (sl _ (kp _ pe.1 pn))
 have p8t:Dis j4 qf:=dl kt (sl _ (kp _ pf.1 pn))
 have p8u:Dis j4 qh:=dl kt (sl _ (kp _ pg.1 pn))
 have qw:=(pn.trans p7u)
 replace hr4:=kr hr4 qw
 replace p1:=ko p1 qw
 replace p2:=ko p2 qw
 replace p3:=ko p3 qw
 replace p4:=ko p4 qw
 replace p6:=ko p6 qw
 replace p7:=ko p7 qw
 replace p8:=ko p8 qw
 replace p9:=ko p9 qw
 replace pa:=ko pa qw
 replace ph:=kr ph qw
 replace pi:=ko pi qw
 replace pj:=ko pj qw
 replace pk:=ko pk qw
 replace pm:=ko pm qw
 replace ps:=kr ps qw
 replace pc:=ko pc qw
 replace pd:=ko pd qw
 replace pe:=ko pe qw
 replace pf:=ko pf qw
 replace pg:=ko pg qw
 replace qi:=kr qi qw
 replace hB:=(hB.trans qw)
 obtain ⟨y476,p8v,ho⟩:=bs ho
 refine WL.call rfl (op_callF Tryz.func20 rfl rfl) (laws_eqCategory_calls ((Le.own (Le.refl _) 2).le (kp _ pi.1 (cr [] jj))) ((Le.own (Le.refl _) 2).le (kp _ pj.1 (cr [] jj))) ((Le.own (Le.refl _) 2).le (kp _ pk.1 (cr [] jj))) ((Le.own (Le.own (Le.refl _) 2) 22).le (kp _ pm.1 (cr [] jj))) ((Le.own (Le.refl _) 2).le (kp _ qk.1 (cr [] jj))) ((Le.own (Le.refl _) 2).le (kp _ ql.1 (cr [] jj))) ((Le.own (Le.refl _) 2).le (kp _ qm.1 (cr [] jj))) ((Le.own (Le.own (Le.refl _) 2) 22).le (kp _ qn.1 (cr [] jj))) p8v) ?_
 rintro _ pc2 ⟨rfl,p37⟩
 refine ⟨_,rfl,?_⟩
 refine wv (v:=.bool (!(y476))) rfl (op_not rfl) ?_
 refine anz ?_
 refine W_cond (b:=!(y476)) rfl ?_ ?_
 intro p1t
 rw [p1t] at ho
 refine wq ?_
 refine Wq rfl ((cr [] jj).trans p37) ?_
 refine qv (v:=.bool (false)) rfl (fun _ _=>oa _) ?_
 intro pc3 p8w
 refine anz ?_
 cases ho
 exact W_ret ⟨_,res_1 Tryz.results4,rfl,(hB.trans p8w)⟩
 intro p1t
 rw [p1t] at ho
 refine W_skip ?_
 refine anz ?_
 refine wq ?_
 refine Wq rfl ((cr [] jj).trans p37) ?_
 refine qv (v:=.int .i64 ((1:Int))) rfl (fun _ _=>oa _) ?_
 intro qj p38
 refine anz ?_
 refine wq ?_
 refine W_region rfl ?_
 refine wv (v:=.agg #[.int .i64 (y122.Objects),v126,v129,v132,v135]) rfl (op_loadAgg u27z rfl info27 (by rw [sz27]; rfl) rfl (kr ps p38).at) ?_
 refine wv (v:=.int .i64 ((1:Int))) rfl (om _) ?_
 have q9:=p38.trans (cr [] qj)
 replace hr4:=kr hr4 q9
 replace p1:=ko p1 q9
 replace p2:=ko p2 q9
 replace p3:=ko p3 q9
 replace p4:=ko p4 q9
 replace p6:=ko p6 q9
 replace p7:=ko p7 q9
 replace p8:=ko p8 q9
 replace p9:=ko p9 q9
 replace pa:=ko pa q9
 replace ph:=kr ph q9
 replace pi:=ko pi q9
 replace pj:=ko pj q9
 replace pk:=ko pk q9
 replace pm:=ko pm q9
 replace ps:=kr ps q9
 replace pc:=ko pc q9
 replace pd:=ko pd q9
 replace pe:=ko pe q9
 replace pf:=ko pf q9
 replace pg:=ko pg q9
 replace qi:=kr qi q9
 replace qk:=ko qk q9
 replace ql:=ko ql q9
 replace qm:=ko qm q9
 replace qn:=ko qn q9
 replace hB:=(hB.trans q9)
 obtain ⟨y486,p8x,ho⟩:=bs ho
 refine WL.call rfl (op_callF Tryz.func21 rfl rfl) (laws_markCategory_calls (OE.give (B':=qj.heap.size) pi fun _ h=>h) (OE.give (B':=qj.heap.size) pj fun _ h=>h) (OE.give (B':=qj.heap.size) pk fun _ h=>h) (OE.give (B':=qj.heap.size) pm fun _ h=>h) nr ns nt nu nv nw p8x) ?_
 rintro _ p8y ⟨gc,gd,ge,gf,rfl,p8z,j7,j8,j9,ja,pc4,pc5,pc6,pc7,pc8,pc9⟩
 refine ⟨_,rfl,?_⟩
 have p90:Dis gc qc:=dis_back j7 (da (p00).symm (da (p01).symm (da (p02).symm (p03).symm))) (sl _ (kp _ pc.1 (cr [] qj)))
 have p91:Dis gc qd:=dis_back j7 (da (nj).symm (da (nk).symm (da (nl).symm (nm).symm))) (sl _ (kp _ pd.1 (cr [] qj)))
 have p92:Dis gc qe:=dis_back j7 (da (p04).symm (da (p05).symm (da (p06).symm (p07).symm))) (sl _ (kp _ pe.1 (cr [] qj)))
 have p93:Dis gc qf:=dis_back j7 (da (p08).symm (da (p09).symm (da (nn).symm (p0a).symm))) (sl _ (kp _ pf.1 (cr [] qj)))
 have p94:Dis gc qh:=dis_back j7 (da (p0b).symm (da (p0c).symm (da (p0d).symm (p0e).symm))) (sl _ (kp _ pg.1 (cr [] qj)))
 have p95:Dis gd qc:=dis_back j8 (da (p00).symm (da (p01).symm (da (p02).symm (p03).symm))) (sl _ (kp _ pc.1 (cr [] qj)))
 have p96:Dis gd qd:=dis_back j8 (da (nj).symm (da (nk).symm (da (nl).symm (nm).symm))) (sl _ (kp _ pd.1 (cr [] qj)))
 have p97:Dis gd qe:=dis_back j8 (da (p04).symm (da (p05).symm (da (p06).symm (p07).symm))) (sl _ (kp _ pe.1 (cr [] qj)))
 have p98:Dis gd qf:=dis_back j8 (da (p08).symm (da (p09).symm (da (nn).symm (p0a).symm))) (sl _ (kp _ pf.1 (cr [] qj)))
 have p99:Dis gd qh:=dis_back j8 (da (p0b).symm (da (p0c).symm (da (p0d).symm (p0e).symm))) (sl _ (kp _ pg.1 (cr [] qj)))
 have p9a:Dis ge qc:=dis_back j9 (da (p00).symm (da (p01).symm (da (p02).symm (p03).symm))) (sl _ (kp _ pc.1 (cr [] qj)))
 have p9b:Dis ge qd:=dis_back j9 (da (nj).symm (da (nk).symm (da (nl).symm (nm).symm))) (sl _ (kp _ pd.1 (cr [] qj)))
 have p9c:Dis ge qe:=dis_back j9 (da (p04).symm (da (p05).symm (da (p06).symm (p07).symm))) (sl _ (kp _ pe.1 (cr [] qj)))
 have p9d:Dis ge qf:=dis_back j9 (da (p08).symm (da (p09).symm (da (nn).symm (p0a).symm))) (sl _ (kp _ pf.1 (cr [] qj)))
 have p9e:Dis ge qh:=dis_back j9 (da (p0b).symm (da (p0c).symm (da (p0d).symm (p0e).symm))) (sl _ (kp _ pg.1 (cr [] qj)))
 have p9f:Dis gf qc:=dis_back ja (da (p00).symm (da (p01).symm (da (p02).symm (p03).symm))) (sl _ (kp _ pc.1 (cr [] qj)))
 have p9g:Dis gf qd:=dis_back ja (da (nj).symm (da (nk).symm (da (nl).symm (nm).symm))) (sl _ (kp _ pd.1 (cr [] qj)))
 have p9h:Dis gf qe:=dis_back ja (da (p04).symm (da (p05).symm (da (p06).symm (p07).symm))) (sl _ (kp _ pe.1 (cr [] qj)))
 have p9i:Dis gf qf:=dis_back ja (da (p08).symm (da (p09).symm (da (nn).symm (p0a).symm))) (sl _ (kp _ pf.1 (cr [] qj)))
 have p9j:Dis gf qh:=dis_back ja (da (p0b).symm (da (p0c).symm (da (p0d).symm (p0e).symm))) (sl _ (kp _ pg.1 (cr [] qj)))
 replace j7:=OE.back j7 (low_app pi.2.2 (low_app pj.2.2 (low_app pk.2.2 pm.2.2))) hB.size
 replace j8:=OE.back j8 (low_app pi.2.2 (low_app pj.2.2 (low_app pk.2.2 pm.2.2))) hB.size
 replace j9:=OE.back j9 (low_app pi.2.2 (low_app pj.2.2 (low_app pk.2.2 pm.2.2))) hB.size
 replace ja:=OE.back ja (low_app pi.2.2 (low_app pj.2.2 (low_app pk.2.2 pm.2.2))) hB.size
 have qx:=((cr [] qj).nil (G:=(qp++(qq++(qr++qt))))).trans p8z
 replace hr4:=Row.keep hr4 qx ((Dis.symm (da gj (da gu (da nx n8)))) _ (ms rfl))
 replace p1:=okp p1 qx (Dis.symm (da gk (da gv (da ny g6))))
 replace p2:=okp p2 qx (Dis.symm (da gl (da gw (da nz n9))))
 replace p3:=okp p3 qx (Dis.symm (da gm (da gx (da g0 g7))))
 replace p4:=okp p4 qx (Dis.symm (da gn (da p57 (da g1 na))))
 replace p6:=okp p6 qx (Dis.symm (da go (da p58 (da g2 g8))))
 replace p7:=okp p7 qx (Dis.symm (da gp (da p59 (da g3 nb))))
 replace p8:=okp p8 qx (Dis.symm (da gq (da p5a (da n6 g9))))
 replace p9:=okp p9 qx (Dis.symm (da gr (da p5b (da g4 nc))))
 replace pa:=okp pa qx (Dis.symm (da gs (da p5c (da n7 ga))))
 replace ph:=Row.keep ph qx ((Dis.symm (da gt (da p5d (da g5 nd)))) _ (ms rfl))
 replace ps:=Row.keep ps qx ((Dis.symm (da (p2t).symm (da (p2u).symm (da (p2v).symm (p2w).symm)))) _ (ms rfl))
 replace pc:=okp pc qx (Dis.symm (da (p00).symm (da (p01).symm (da (p02).symm (p03).symm))))
 replace pd:=okp pd qx (Dis.symm (da (nj).symm (da (nk).symm (da (nl).symm (nm).symm))))
 replace pe:=okp pe qx (Dis.symm (da (p04).symm (da (p05).symm (da (p06).symm (p07).symm))))
 replace pf:=okp pf qx (Dis.symm (da (p08).symm (da (p09).symm (da (nn).symm (p0a).symm))))
 replace pg:=okp pg qx (Dis.symm (da (p0b).symm (da (p0c).symm (da (p0d).symm (p0e).symm))))
 replace qi:=Row.keep qi qx ((Dis.symm (da (p2x).symm (da (p2y).symm (da (p2z).symm (p30).symm)))) _ (ms rfl))
 replace qk:=okp qk qx (Dis.symm (da (p7v).symm (da (p7w).symm (da (p7x).symm (p7y).symm))))
 replace ql:=okp ql qx (Dis.symm (da (p84).symm (da (p85).symm (da (p86).symm (p87).symm))))
 replace qm:=okp qm qx (Dis.symm (da (p8d).symm (da (p8e).symm (da (p8f).symm (p8g).symm))))
 replace qn:=okp qn qx (Dis.symm (da (p8m).symm (da (p8n).symm (da (p8o).symm (p8p).symm))))
 replace hB:=hB.then qx (low_app pi.2.2 (low_app pj.2.2 (low_app pk.2.2 pm.2.2)))
 refine wv (v:=.int .i64 (y486.1)) rfl (oa _) ?_
 refine anz ?_
 refine wq ?_
 refine wq ?_
 refine Wq rfl (cr [] p8y) ?_
 obtain ⟨g593,hm594,ho⟩:=bs ho
 refine QL.meet (fun r=>∃ F,r=updL F [(1,.pointer (some (⟨b1,0,none⟩))),(4,.pointer (some (⟨q1,0,none⟩))),(5,.int .i64 (y46.2)),(7,.pointer (some (⟨q0,0,none⟩))),(61,.bool (g593))]) ?_ ?_
 skip
 refine qv (v:=.int .i64 (y486.1)) rfl (fun _ _=>om _) ?_
 refine qv (v:=.bool (decide (y486.1 < (0:Int)))) rfl (fun _ _=>op_bin rfl rfl bin_lss) ?_
 refine qv (v:=.bool (decide (y486.1 < (0:Int)))) rfl (fun _ _=>om _) ?_
 rcases Bool.eq_false_or_eq_true (decide (y486.1 < (0:Int))) with jp | jp
 rw [jp] at hm594
 refine qs rfl (congrArg some jp) rfl ?_
 refine qs rfl (congrArg some jp) rfl ?_
 refine qs rfl (congrArg some jp) rfl ?_
 refine qs rfl (congrArg some jp) rfl ?_
 refine qv (v:=.bool (true)) rfl (fun _ _=>op_pickT rfl jp) ?_
 refine qv (v:=.bool (true)) rfl (fun _ _=>om _) ?_
 refine qs rfl (congrArg some rfl) rfl ?_
 refine qs rfl (congrArg some rfl) rfl ?_
 refine qs rfl (congrArg some rfl) rfl ?_
 refine qv (v:=.bool (true)) rfl (fun _ _=>op_pickT rfl rfl) ?_
 cases hm594
 exact fr ⟨rfl,rfl,rfl,rfl,rfl,trivial⟩
 rw [jp] at hm594
 refine qg (v:=.agg #[.int .i64 (y215.1.Shape.Objects),v219,v222,v225,v228,v231]) rfl (congrArg some jp) (fun _ hC=>op_loadAgg u30 rfl info30 (by rw [sz30]; rfl) rfl (kr qi hC).at) ?_
 refine qg (v:=.agg #[.int .i64 (y46.1.Shape.Objects),v50,v53,v56,v59,v62]) rfl (congrArg some jp) (fun _ hC=>op_loadAgg u30 rfl info30 (by rw [sz30]; rfl) rfl (kr ph hC).at) ?_
 obtain ⟨y596,p9k,hm594⟩:=bs hm594
 refine QL.callG (v:=.bool (y596)) rfl (congrArg some jp) (fun _ _=>op_callF Tryz.func19 rfl rfl) (fun _ hC=>(laws_eqTopology_calls ((Le.own (Le.refl _) 2).le (kp _ pc.1 hC)) ((Le.own (Le.refl _) 2).le (kp _ pd.1 hC)) ((Le.own (Le.refl _) 2).le (kp _ pe.1 hC)) ((Le.own (Le.own (Le.refl _) 2) 22).le (kp _ pf.1 hC)) ((Le.own (Le.own (Le.own (Le.refl _) 2) 22) 23).le (kp _ pg.1 hC)) ((Le.own (Le.refl _) 2).le (kp _ p6.1 hC)) ((Le.own (Le.refl _) 2).le (kp _ p7.1 hC)) ((Le.own (Le.refl _) 2).le (kp _ p8.1 hC)) ((Le.own (Le.own (Le.refl _) 2) 22).le (kp _ p9.1 hC)) ((Le.own (Le.own (Le.own (Le.refl _) 2) 22) 23).le (kp _ pa.1 hC)) p9k).mono fun _ _ h=>⟨h.1,hC.trans h.2⟩) ?_
 refine qg (v:=.bool (!(y596))) rfl (congrArg some jp) (fun _ _=>op_not rfl) ?_
 refine qv (v:=.bool (!(y596))) rfl (fun _ _=>op_pickF rfl jp) ?_
 refine qv (v:=.bool (!(y596))) rfl (fun _ _=>om _) ?_
 rcases Bool.eq_false_or_eq_true (!(y596)) with ki | ki
 rw [ki] at hm594
 refine qs rfl (congrArg some ki) rfl ?_
 refine qs rfl (congrArg some ki) rfl ?_
 refine qs rfl (congrArg some ki) rfl ?_
 refine qv (v:=.bool (true)) rfl (fun _ _=>op_pickT rfl ki) ?_
 cases hm594
 exact fr ⟨rfl,rfl,rfl,rfl,rfl,trivial⟩
 rw [ki] at hm594
 refine qg (v:=.int .i64 (y215.2)) rfl (congrArg some ki) (fun _ _=>om _) ?_
 refine qg (v:=.int .i64 (y46.2)) rfl (congrArg some ki) (fun _ _=>om _) ?_
 refine qg (v:=.bool ((y215.2) != (y46.2))) rfl (congrArg some ki) (fun _ _=>op_bin rfl rfl bin_neq) ?_
 refine qv (v:=.bool ((y215.2) != (y46.2))) rfl (fun _ _=>op_pickF rfl ki) ?_
 cases hm594
 exact fr ⟨rfl,rfl,rfl,rfl,rfl,trivial⟩
 rintro _ ⟨F,rfl⟩
 intro pca p39
 refine anz ?_
 refine W_cond (b:=g593) rfl ?_ ?_
 intro p1u
 rw [p1u] at ho
 refine wq ?_
 refine Wq rfl p39 ?_
 refine qv (v:=.bool (false)) rfl (fun _ _=>oa _) ?_
 intro pcb p9l
 refine anz ?_
 cases ho
 exact W_ret ⟨_,res_1 Tryz.results4,rfl,(hB.trans p9l)⟩
 intro p1u
 rw [p1u] at ho
 refine W_skip ?_
 refine anz ?_
 refine wq ?_
 refine Wq rfl p39 ?_
 refine qv (v:=.int .i64 ((1:Int))) rfl (fun _ _=>oa _) ?_
 intro nq p3a
 refine anz ?_
 refine wq ?_
 refine W_region rfl ?_
 refine wv (v:=.agg #[.int .i64 (y215.1.Shape.Objects),v219,v222,v225,v228,v231]) rfl (op_loadAgg u30 rfl info30 (by rw [sz30]; rfl) rfl (kr qi p3a).at) ?_
 refine wv (v:=.int .i64 ((1:Int))) rfl (om _) ?_
 have qa:=p3a.trans (cr [] nq)
 replace hr4:=kr hr4 qa
 replace p1:=ko p1 qa
 replace p2:=ko p2 qa
 replace p3:=ko p3 qa
 replace p4:=ko p4 qa
 replace p6:=ko p6 qa
 replace p7:=ko p7 qa
 replace p8:=ko p8 qa
 replace p9:=ko p9 qa
 replace pa:=ko pa qa
 replace ph:=kr ph qa
 replace ps:=kr ps qa
 replace pc:=ko pc qa
 replace pd:=ko pd qa
 replace pe:=ko pe qa
 replace pf:=ko pf qa
 replace pg:=ko pg qa
 replace qi:=kr qi qa
 replace qk:=ko qk qa
 replace ql:=ko ql qa
 replace qm:=ko qm qa
 replace qn:=ko qn qa
 replace j7:=ko j7 qa
 replace j8:=ko j8 qa
 replace j9:=ko j9 qa
 replace ja:=ko ja qa
 replace hB:=(hB.trans qa)
 obtain ⟨y607,p9m,ho⟩:=bs ho
 refine WL.call rfl (op_callF Tryz.func22 rfl rfl) (laws_markTopology_calls (OE.give (B':=nq.heap.size) pc fun _ h=>h) (OE.give (B':=nq.heap.size) pd fun _ h=>h) (OE.give (B':=nq.heap.size) pe fun _ h=>h) (OE.give (B':=nq.heap.size) pf fun _ h=>h) (OE.give (B':=nq.heap.size) pg fun _ h=>h) p16 p17 p18 p19 p1a p5u p5v p5w p5x p5y p9m) ?_
 rintro _ p9n ⟨p9o,p9p,p9q,p9r,p9s,rfl,p9t,jq,jr,js,jt,ju,pcc,pcd,pce,pcf,pcg,pch,pci,pcj,pck,pcl⟩
 refine ⟨_,rfl,?_⟩
 replace jq:=OE.back jq (low_app pc.2.2 (low_app pd.2.2 (low_app pe.2.2 (low_app pf.2.2 pg.2.2)))) hB.size
 replace jr:=OE.back jr (low_app pc.2.2 (low_app pd.2.2 (low_app pe.2.2 (low_app pf.2.2 pg.2.2)))) hB.size
 replace js:=OE.back js (low_app pc.2.2 (low_app pd.2.2 (low_app pe.2.2 (low_app pf.2.2 pg.2.2)))) hB.size
 replace jt:=OE.back jt (low_app pc.2.2 (low_app pd.2.2 (low_app pe.2.2 (low_app pf.2.2 pg.2.2)))) hB.size
 replace ju:=OE.back ju (low_app pc.2.2 (low_app pd.2.2 (low_app pe.2.2 (low_app pf.2.2 pg.2.2)))) hB.size
 have j5:=((cr [] nq).nil (G:=(qc++(qd++(qe++(qf++qh)))))).trans p9t
 replace hr4:=Row.keep hr4 j5 ((Dis.symm (da p5z (da p6b (da p6g (da p6r p72))))) _ (ms rfl))
 replace p1:=okp p1 j5 (Dis.symm (da p60 (da p6c (da p6h (da p6s p73)))))
 replace p2:=okp p2 j5 (Dis.symm (da p61 (da p6d (da p6i (da p6t p74)))))
 replace p3:=okp p3 j5 (Dis.symm (da p62 (da p6e (da p6j (da p1j p75)))))
 replace p4:=okp p4 j5 (Dis.symm (da p63 (da p6f (da p6k (da p6u p76)))))
 replace p6:=okp p6 j5 (Dis.symm (da p64 (da p1b (da p6l (da p6v p77)))))
 replace p7:=okp p7 j5 (Dis.symm (da p65 (da p1c (da p6m (da p6w p78)))))
 replace p8:=okp p8 j5 (Dis.symm (da p66 (da p1d (da p6n (da p6x p1k)))))
 replace p9:=okp p9 j5 (Dis.symm (da p67 (da p1e (da p6o (da p6y p79)))))
 replace pa:=okp pa j5 (Dis.symm (da p68 (da p1f (da p1i (da p6z p7a)))))
 replace ph:=Row.keep ph j5 ((Dis.symm (da p69 (da p1g (da p6p (da p70 p7b))))) _ (ms rfl))
 replace ps:=Row.keep ps j5 ((Dis.symm (da p6a (da p1h (da p6q (da p71 p7c))))) _ (ms rfl))
 replace qi:=Row.keep qi j5 ((Dis.symm (da (p31).symm (da (p32).symm (da (p33).symm (da (p34).symm (p35).symm))))) _ (ms rfl))
 replace qk:=okp qk j5 (Dis.symm (da (p7z).symm (da (p80).symm (da (p81).symm (da (p82).symm (p83).symm)))))
 replace ql:=okp ql j5 (Dis.symm (da (p88).symm (da (p89).symm (da (p8a).symm (da (p8b).symm (p8c).symm)))))
 replace qm:=okp qm j5 (Dis.symm (da (p8h).symm (da (p8i).symm (da (p8j).symm (da (p8k).symm (p8l).symm)))))
 replace qn:=okp qn j5 (Dis.symm (da (p8q).symm (da (p8r).symm (da (p8s).symm (da (p8t).symm (p8u).symm)))))
 replace j7:=okp j7 j5 (Dis.symm (da (p90).symm (da (p91).symm (da (p92).symm (da (p93).symm (p94).symm)))))
 replace j8:=okp j8 j5 (Dis.symm (da (p95).symm (da (p96).symm (da (p97).symm (da (p98).symm (p99).symm)))))
 replace j9:=okp j9 j5 (Dis.symm (da (p9a).symm (da (p9b).symm (da (p9c).symm (da (p9d).symm (p9e).symm)))))
 replace ja:=okp ja j5 (Dis.symm (da (p9f).symm (da (p9g).symm (da (p9h).symm (da (p9i).symm (p9j).symm)))))
 replace hB:=hB.then j5 (low_app pc.2.2 (low_app pd.2.2 (low_app pe.2.2 (low_app pf.2.2 pg.2.2))))
 refine wv (v:=.int .i64 (y607.1)) rfl (oa _) ?_
 refine anz ?_
 refine wq ?_
 refine Wq rfl (cr [] p9n) ?_
 refine qv (v:=.int .i64 ((1:Int))) rfl (fun _ _=>oa _) ?_
 intro pcm p9u
 refine anz ?_
 refine wq ?_
 refine Wq rfl p9u ?_
 refine qv (v:=.agg #[.int .i64 (y215.1.Shape.Objects),v219,v222,v225,v228,v231]) rfl (fun _ hC=>op_loadAgg u30 rfl info30 (by rw [sz30]; rfl) rfl (kr qi hC).at) ?_
 refine qv (v:=.int .i64 ((1:Int))) rfl (fun _ _=>om _) ?_
 obtain ⟨y739,p9v,ho⟩:=bs ho
 refine QL.call (v:=.int .i64 (y739)) rfl (fun _ _=>op_callF Tryz.func23 rfl rfl) (fun _ hC=>(laws_heldTopology_calls (x0:=(MTopology.mk (MCategory.mk y215.1.Shape.Objects y607.2.1 y607.2.2.1 y607.2.2.2.1 y607.2.2.2.2.1) y607.2.2.2.2.2)) ((Le.own (Le.refl _) 2).le (kp _ jq.1 hC)) ((Le.own (Le.refl _) 2).le (kp _ jr.1 hC)) ((Le.own (Le.refl _) 2).le (kp _ js.1 hC)) ((Le.own (Le.own (Le.refl _) 2) 22).le (kp _ jt.1 hC)) ((Le.own (Le.own (Le.own (Le.refl _) 2) 22) 23).le (kp _ ju.1 hC)) p9v).mono fun _ _ h=>⟨h.1,hC.trans h.2⟩) ?_
 refine qv (v:=.int .i64 (y739)) rfl (fun _ _=>oa _) ?_
 intro pcn p9w
 refine anz ?_
 refine wq ?_
 refine wq ?_
 refine Wq rfl p9w ?_
 refine qv (v:=.int .i64 (y739)) rfl (fun _ _=>om _) ?_
 refine qv (v:=.bool (decide (y739 < (0:Int)))) rfl (fun _ _=>op_bin rfl rfl bin_lss) ?_
 intro pco p3b
 refine anz ?_
 refine W_cond (b:=decide (y739 < (0:Int))) rfl ?_ ?_
 intro p1v
 rw [p1v] at ho
 refine wq ?_
 refine Wq rfl p3b ?_
 refine qv (v:=.bool (false)) rfl (fun _ _=>oa _) ?_
 intro pcp p9x
 refine anz ?_
 cases ho
 exact W_ret ⟨_,res_1 Tryz.results4,rfl,(hB.trans p9x)⟩
 intro p1v
 rw [p1v] at ho
 refine W_skip ?_
 refine anz ?_
 refine wq ?_
 refine wq ?_
 refine Wq rfl p3b ?_
 refine qv (v:=.int .i64 (y739)) rfl (fun _ _=>om _) ?_
 refine qv (v:=.int .i64 (y607.1)) rfl (fun _ _=>om _) ?_
 refine qv (v:=.bool ((y739) != (y607.1))) rfl (fun _ _=>op_bin rfl rfl bin_neq) ?_
 intro pcq kj
 refine anz ?_
 refine W_cond (b:=(y739) != (y607.1)) rfl ?_ ?_
 intro p1w
 rw [p1w] at ho
 refine wq ?_
 refine Wq rfl kj ?_
 refine qv (v:=.bool (false)) rfl (fun _ _=>oa _) ?_
 intro pcr p9y
 refine anz ?_
 cases ho
 exact W_ret ⟨_,res_1 Tryz.results4,rfl,(hB.trans p9y)⟩
 intro p1w
 rw [p1w] at ho
 refine W_skip ?_
 refine anz ?_
 refine wq ?_
 refine W_region rfl ?_
 refine wv (v:=.agg #[.int .i64 (x0.Objects),z6,z7,z9,z8]) rfl (op_loadAgg u25z rfl info25 (by rw [sz25]; rfl) rfl (kr hr4 kj).at) ?_
 obtain ⟨y753,p9z,ho⟩:=bs ho
 refine WL.call rfl (op_callF Tryz.func17 rfl rfl) (laws_toCategory_calls (kp _ za (hB.trans kj)) (kp _ zb (hB.trans kj)) (kp _ zd (hB.trans kj)) (kp _ zc (hB.trans kj)) p9z) ?_
 rintro _ ku ⟨v757,pa0,v760,pa1,v763,pa2,v766,pa3,rfl,pa4,kv,kw,kx,ky,pcs,pct,pcu,pcv,pcw,pcx⟩
 refine ⟨_,rfl,?_⟩
 replace kv:=OE.low (G:=[]) kv (hB.trans kj).size
 replace kw:=OE.low (G:=[]) kw (hB.trans kj).size
 replace kx:=OE.low (G:=[]) kx (hB.trans kj).size
 replace ky:=OE.low (G:=[]) ky (hB.trans kj).size
 have qb:=kj.trans pa4
 replace hr4:=kr hr4 qb
 replace p1:=ko p1 qb
 replace p2:=ko p2 qb
 replace p3:=ko p3 qb
 replace p4:=ko p4 qb
 replace p6:=ko p6 qb
 replace p7:=ko p7 qb
 replace p8:=ko p8 qb
 replace p9:=ko p9 qb
 replace pa:=ko pa qb
 replace ph:=kr ph qb
 replace ps:=kr ps qb
 replace qi:=kr qi qb
 replace qk:=ko qk qb
 replace ql:=ko ql qb
 replace qm:=ko qm qb
 replace qn:=ko qn qb
 replace j7:=ko j7 qb
 replace j8:=ko j8 qb
 replace j9:=ko j9 qb
 replace ja:=ko ja qb
 replace jq:=ko jq qb
 replace jr:=ko jr qb
 replace js:=ko js qb
 replace jt:=ko jt qb
 replace ju:=ko ju qb
 replace hB:=(hB.trans qb)
 obtain ⟨y880,pa5,ho⟩:=bs ho
 refine WL.call rfl (op_callF Tryz.func25 rfl rfl) (impl_GreatestTopology_calls ((Le.own (Le.refl _) 2).le (kp _ kv.1 (cr [] ku))) ((Le.own (Le.refl _) 2).le (kp _ kw.1 (cr [] ku))) ((Le.own (Le.refl _) 2).le (kp _ kx.1 (cr [] ku))) ((Le.own (Le.own (Le.refl _) 2) 22).le (kp _ ky.1 (cr [] ku))) pa5) ?_
 rintro _ pq ⟨v884,pa6,v887,pa7,v890,pa8,v893,pa9,v896,paa,rfl,pab,n0,n1,n2,n3,n4,pcy,pcz,pd0,pd1,pd2,pd3,pd4,pd5,pd6,pd7⟩
 refine ⟨_,rfl,?_⟩
 replace n0:=OE.low (G:=[]) n0 (hB.trans (cr [] ku)).size
 replace n1:=OE.low (G:=[]) n1 (hB.trans (cr [] ku)).size
 replace n2:=OE.low (G:=[]) n2 (hB.trans (cr [] ku)).size
 replace n3:=OE.low (G:=[]) n3 (hB.trans (cr [] ku)).size
 replace n4:=OE.low (G:=[]) n4 (hB.trans (cr [] ku)).size
 have pz:=(cr [] ku).trans pab
 replace hr4:=kr hr4 pz
 replace p1:=ko p1 pz
 replace p2:=ko p2 pz
 replace p3:=ko p3 pz
 replace p4:=ko p4 pz
 replace p6:=ko p6 pz
 replace p7:=ko p7 pz
 replace p8:=ko p8 pz
 replace p9:=ko p9 pz
 replace pa:=ko pa pz
 replace ph:=kr ph pz
 replace ps:=kr ps pz
 replace qi:=kr qi pz
 replace qk:=ko qk pz
 replace ql:=ko ql pz
 replace qm:=ko qm pz
 replace qn:=ko qn pz
 replace j7:=ko j7 pz
 replace j8:=ko j8 pz
 replace j9:=ko j9 pz
 replace ja:=ko ja pz
 replace jq:=ko jq pz
 replace jr:=ko jr pz
 replace js:=ko js pz
 replace jt:=ko jt pz
 replace ju:=ko ju pz
 replace kv:=ko kv pz
 replace kw:=ko kw pz
 replace kx:=ko kx pz
 replace ky:=ko ky pz
 replace hB:=(hB.trans pz)
 refine wv (v:=.tuple #[.agg #[.int .i64 (y880.1.Shape.Objects),v884,v887,v890,v893,v896],.int .i64 (y880.2)]) rfl (om _) ?_
 refine wv (v:=.agg #[.int .i64 (y880.1.Shape.Objects),v884,v887,v890,v893,v896]) rfl (op_extract rfl rfl) ?_
 refine wv (v:=.int .i64 (y880.2)) rfl (op_extract rfl rfl) ?_
 refine WL.alloc info30 zr30 fun po p1x pac p1y pt=>?_
 replace p1y:Row p1x po [.int .i64 ((0:Int)),.slice none 0 0,.slice none 0 0,.slice none 0 0,.slice none 0 0,.slice none 0 0] 30:=p1y
 have pad:w.heap.size≤po:=Nat.le_trans (hB.trans (cr [] pq)).size pt
 have pae:Dis [po] [b1]:=dl (onw pt) (one_lt (Row.lt (kr hr4 (cr [] pq))))
 have paf:Dis [po] q3:=dl (onw pt) (sl _ (kp _ p1.1 (cr [] pq)))
 have pag:Dis [po] q4:=dl (onw pt) (sl _ (kp _ p2.1 (cr [] pq)))
 have pah:Dis [po] q5:=dl (onw pt) (sl _ (kp _ p3.1 (cr [] pq)))
 have pai:Dis [po] q6:=dl (onw pt) (sl _ (kp _ p4.1 (cr [] pq)))
 have paj:Dis [po] jk:=dl (onw pt) (sl _ (kp _ p6.1 (cr [] pq)))
 have pak:Dis [po] jl:=dl (onw pt) (sl _ (kp _ p7.1 (cr [] pq)))
 have pal:Dis [po] jm:=dl (onw pt) (sl _ (kp _ p8.1 (cr [] pq)))
 have pam:Dis [po] jn:=dl (onw pt) (sl _ (kp _ p9.1 (cr [] pq)))
 have pan:Dis [po] jo:=dl (onw pt) (sl _ (kp _ pa.1 (cr [] pq)))
 have pao:Dis [po] [q1]:=dl (onw pt) (one_lt (Row.lt (kr ph (cr [] pq))))
 have pap:Dis [po] [q2]:=dl (onw pt) (one_lt (Row.lt (kr ps (cr [] pq))))
 have paq:Dis [po] [q0]:=dl (onw pt) (one_lt (Row.lt (kr qi (cr [] pq))))
 have par:Dis [po] j1:=dl (onw pt) (sl _ (kp _ qk.1 (cr [] pq)))
 have pas:Dis [po] j2:=dl (onw pt) (sl _ (kp _ ql.1 (cr [] pq)))
 have pat:Dis [po] j3:=dl (onw pt) (sl _ (kp _ qm.1 (cr [] pq)))
 have pau:Dis [po] j4:=dl (onw pt) (sl _ (kp _ qn.1 (cr [] pq)))
 have pav:Dis [po] gc:=dl (onw pt) (sl _ (kp _ j7.1 (cr [] pq)))
 have paw:Dis [po] gd:=dl (onw pt) (sl _ (kp _ j8.1 (cr [] pq)))
 have pax:Dis [po] ge:=dl (onw pt) (sl _ (kp _ j9.1 (cr [] pq)))
 have pay:Dis [po] gf:=dl (onw pt) (sl _ (kp _ ja.1 (cr [] pq)))
 have paz:Dis [po] p9o:=dl (onw pt) (sl _ (kp _ jq.1 (cr [] pq)))
 have pb0:Dis [po] p9p:=dl (onw pt) (sl _ (kp _ jr.1 (cr [] pq)))
 have pb1:Dis [po] p9q:=dl (onw pt) (sl _ (kp _ js.1 (cr [] pq)))
 have pb2:Dis [po] p9r:=dl (onw pt) (sl _ (kp _ jt.1 (cr [] pq)))
 have pb3:Dis [po] p9s:=dl (onw pt) (sl _ (kp _ ju.1 (cr [] pq)))
 have pb4:Dis [po] pa0:=dl (onw pt) (sl _ (kp _ kv.1 (cr [] pq)))
 have pb5:Dis [po] pa1:=dl (onw pt) (sl _ (kp _ kw.1 (cr [] pq)))
 have pb6:Dis [po] pa2:=dl (onw pt) (sl _ (kp _ kx.1 (cr [] pq)))
 have pb7:Dis [po] pa3:=dl (onw pt) (sl _ (kp _ ky.1 (cr [] pq)))
 have pb8:Dis [po] pa6:=dl (onw pt) (sl _ (kp _ n0.1 (cr [] pq)))
 have pb9:Dis [po] pa7:=dl (onw pt) (sl _ (kp _ n1.1 (cr [] pq)))
 have pba:Dis [po] pa8:=dl (onw pt) (sl _ (kp _ n2.1 (cr [] pq)))
 have pbb:Dis [po] pa9:=dl (onw pt) (sl _ (kp _ n3.1 (cr [] pq)))
 have pbc:Dis [po] paa:=dl (onw pt) (sl _ (kp _ n4.1 (cr [] pq)))
 have pu:=(cr [] pq).trans pac
 replace hr4:=kr hr4 pu
 replace p1:=ko p1 pu
 replace p2:=ko p2 pu
 replace p3:=ko p3 pu
 replace p4:=ko p4 pu
 replace p6:=ko p6 pu
 replace p7:=ko p7 pu
 replace p8:=ko p8 pu
 replace p9:=ko p9 pu
 replace pa:=ko pa pu
 replace ph:=kr ph pu
 replace ps:=kr ps pu
 replace qi:=kr qi pu
 replace qk:=ko qk pu
 replace ql:=ko ql pu
 replace qm:=ko qm pu
 replace qn:=ko qn pu
 replace j7:=ko j7 pu
 replace j8:=ko j8 pu
 replace j9:=ko j9 pu
 replace ja:=ko ja pu
 replace jq:=ko jq pu
 replace jr:=ko jr pu
 replace js:=ko js pu
 replace jt:=ko jt pu
 replace ju:=ko ju pu
 replace kv:=ko kv pu
 replace kw:=ko kw pu
 replace kx:=ko kx pu
 replace ky:=ko ky pu
 replace n0:=ko n0 pu
 replace n1:=ko n1 pu
 replace n2:=ko n2 pu
 replace n3:=ko n3 pu
 replace n4:=ko n4 pu
 replace hB:=(hB.trans pu)
 refine WL.storeAll (us:=[.int .i64 (y880.1.Shape.Objects),v884,v887,v890,v893,v896]) info30 (by rw [sz30]; rfl) (kr p1y (cr [] p1x)) rfl rfl rfl (by intro u hu; simp only [List.mem_cons,List.mem_nil_iff,or_false] at hu; rcases hu with rfl | rfl | rfl | rfl | rfl | rfl <;> first | exact rfl | exact (STy.one _ n0.1 _ (ms rfl)) | exact (STy.one _ n1.1 _ (ms rfl)) | exact (STy.one _ n2.1 _ (ms rfl)) | exact (STy.one _ n3.1 _ (ms rfl)) | exact (STy.one _ n4.1 _ (ms rfl))) fun p3c pbd p1z=>?_
 replace p1z:Row p3c po [.int .i64 (y880.1.Shape.Objects),v884,v887,v890,v893,v896] 30:=p1z
 have pv:=((cr [] p1x).nil (G:=[po])).trans pbd
 replace hr4:=Row.keep hr4 pv ((pae).symm _ (ms rfl))
 replace p1:=okp p1 pv (paf).symm
 replace p2:=okp p2 pv (pag).symm
 replace p3:=okp p3 pv (pah).symm
 replace p4:=okp p4 pv (pai).symm
 replace p6:=okp p6 pv (paj).symm
 replace p7:=okp p7 pv (pak).symm
 replace p8:=okp p8 pv (pal).symm
 replace p9:=okp p9 pv (pam).symm
 replace pa:=okp pa pv (pan).symm
 replace ph:=Row.keep ph pv ((pao).symm _ (ms rfl))
 replace ps:=Row.keep ps pv ((pap).symm _ (ms rfl))
 replace qi:=Row.keep qi pv ((paq).symm _ (ms rfl))
 replace qk:=okp qk pv (par).symm
 replace ql:=okp ql pv (pas).symm
 replace qm:=okp qm pv (pat).symm
 replace qn:=okp qn pv (pau).symm
 replace j7:=okp j7 pv (pav).symm
 replace j8:=okp j8 pv (paw).symm
 replace j9:=okp j9 pv (pax).symm
 replace ja:=okp ja pv (pay).symm
 replace jq:=okp jq pv (paz).symm
 replace jr:=okp jr pv (pb0).symm
 replace js:=okp js pv (pb1).symm
 replace jt:=okp jt pv (pb2).symm
 replace ju:=okp ju pv (pb3).symm
 replace kv:=okp kv pv (pb4).symm
 replace kw:=okp kw pv (pb5).symm
 replace kx:=okp kx pv (pb6).symm
 replace ky:=okp ky pv (pb7).symm
 replace n0:=okp n0 pv (pb8).symm
 replace n1:=okp n1 pv (pb9).symm
 replace n2:=okp n2 pv (pba).symm
 replace n3:=okp n3 pv (pbb).symm
 replace n4:=okp n4 pv (pbc).symm
 replace hB:=hB.then pv (one_then pad)
 refine wv (v:=.int .i64 (y880.2)) rfl (oa _) ?_
 refine anz ?_
 refine wq ?_
 refine wq ?_
 refine Wq rfl (cr [] p3c) ?_
 obtain ⟨g1106,hm1107,ho⟩:=bs ho
 refine QL.meet (fun r=>∃ F,r=updL F [(7,.pointer (some (⟨q0,0,none⟩))),(10,.int .i64 (y607.1)),(87,.bool (g1106))]) ?_ ?_
 skip
 refine qv (v:=.agg #[.int .i64 (y880.1.Shape.Objects),v884,v887,v890,v893,v896]) rfl (fun _ hC=>op_loadAgg u30 rfl info30 (by rw [sz30]; rfl) rfl (kr p1z hC).at) ?_
 refine qv (v:=.agg #[.int .i64 (y46.1.Shape.Objects),v50,v53,v56,v59,v62]) rfl (fun _ hC=>op_loadAgg u30 rfl info30 (by rw [sz30]; rfl) rfl (kr ph hC).at) ?_
 obtain ⟨y1108,pbe,hm1107⟩:=bs hm1107
 refine QL.call (v:=.bool (y1108)) rfl (fun _ _=>op_callF Tryz.func19 rfl rfl) (fun _ hC=>(laws_eqTopology_calls ((Le.own (Le.refl _) 2).le (kp _ n0.1 hC)) ((Le.own (Le.refl _) 2).le (kp _ n1.1 hC)) ((Le.own (Le.refl _) 2).le (kp _ n2.1 hC)) ((Le.own (Le.own (Le.refl _) 2) 22).le (kp _ n3.1 hC)) ((Le.own (Le.own (Le.own (Le.refl _) 2) 22) 23).le (kp _ n4.1 hC)) ((Le.own (Le.refl _) 2).le (kp _ p6.1 hC)) ((Le.own (Le.refl _) 2).le (kp _ p7.1 hC)) ((Le.own (Le.refl _) 2).le (kp _ p8.1 hC)) ((Le.own (Le.own (Le.refl _) 2) 22).le (kp _ p9.1 hC)) ((Le.own (Le.own (Le.own (Le.refl _) 2) 22) 23).le (kp _ pa.1 hC)) pbe).mono fun _ _ h=>⟨h.1,hC.trans h.2⟩) ?_
 refine qv (v:=.bool (!(y1108))) rfl (fun _ _=>op_not rfl) ?_
 refine qv (v:=.bool (!(y1108))) rfl (fun _ _=>om _) ?_
 rcases Bool.eq_false_or_eq_true (!(y1108)) with kk | kk
 rw [kk] at hm1107
 refine qs rfl (congrArg some kk) rfl ?_
 refine qs rfl (congrArg some kk) rfl ?_
 refine qs rfl (congrArg some kk) rfl ?_
 refine qv (v:=.bool (true)) rfl (fun _ _=>op_pickT rfl kk) ?_
 cases hm1107
 exact fr ⟨rfl,rfl,rfl,trivial⟩
 rw [kk] at hm1107
 refine qg (v:=.int .i64 (y880.2)) rfl (congrArg some kk) (fun _ _=>om _) ?_
 refine qg (v:=.int .i64 (y46.2)) rfl (congrArg some kk) (fun _ _=>om _) ?_
 refine qg (v:=.bool ((y880.2) != (y46.2))) rfl (congrArg some kk) (fun _ _=>op_bin rfl rfl bin_neq) ?_
 refine qv (v:=.bool ((y880.2) != (y46.2))) rfl (fun _ _=>op_pickF rfl kk) ?_
 cases hm1107
 exact fr ⟨rfl,rfl,rfl,trivial⟩
 rintro _ ⟨F,rfl⟩
 intro pd8 p3d
 refine anz ?_
 refine W_cond (b:=g1106) rfl ?_ ?_
 intro p20
 rw [p20] at ho
 refine wq ?_
 refine Wq rfl p3d ?_
 refine qv (v:=.bool (false)) rfl (fun _ _=>oa _) ?_
 intro pd9 pbf
 refine anz ?_
 cases ho
 exact W_ret ⟨_,res_1 Tryz.results4,rfl,(hB.trans pbf)⟩
 intro p20
 rw [p20] at ho
 refine W_skip ?_
 refine anz ?_
 refine wq ?_
 refine Wq rfl p3d ?_
 refine qv (v:=.int .i64 ((1:Int))) rfl (fun _ _=>oa _) ?_
 intro pda pbg
 refine anz ?_
 refine wq ?_
 refine Wq rfl pbg ?_
 refine qv (v:=.agg #[.int .i64 (y215.1.Shape.Objects),v219,v222,v225,v228,v231]) rfl (fun _ hC=>op_loadAgg u30 rfl info30 (by rw [sz30]; rfl) rfl (kr qi hC).at) ?_
 refine qv (v:=.int .i64 ((1:Int))) rfl (fun _ _=>om _) ?_
 obtain ⟨y1118,pbh,ho⟩:=bs ho
 refine QL.call (v:=.int .i64 (y1118)) rfl (fun _ _=>op_callF Tryz.func23 rfl rfl) (fun _ hC=>(laws_heldTopology_calls (x0:=(MTopology.mk (MCategory.mk y215.1.Shape.Objects y607.2.1 y607.2.2.1 y607.2.2.2.1 y607.2.2.2.2.1) y607.2.2.2.2.2)) ((Le.own (Le.refl _) 2).le (kp _ jq.1 hC)) ((Le.own (Le.refl _) 2).le (kp _ jr.1 hC)) ((Le.own (Le.refl _) 2).le (kp _ js.1 hC)) ((Le.own (Le.own (Le.refl _) 2) 22).le (kp _ jt.1 hC)) ((Le.own (Le.own (Le.own (Le.refl _) 2) 22) 23).le (kp _ ju.1 hC)) pbh).mono fun _ _ h=>⟨h.1,hC.trans h.2⟩) ?_
 refine qv (v:=.int .i64 (y1118)) rfl (fun _ _=>oa _) ?_
 intro pdb pbi
 refine anz ?_
 refine wq ?_
 refine wq ?_
 refine Wq rfl pbi ?_
 refine qv (v:=.int .i64 (y1118)) rfl (fun _ _=>om _) ?_
 refine qv (v:=.bool (decide (y1118 < (0:Int)))) rfl (fun _ _=>op_bin rfl rfl bin_lss) ?_
 intro pdc p3e
 refine anz ?_
 refine W_cond (b:=decide (y1118 < (0:Int))) rfl ?_ ?_
 intro p21
 rw [p21] at ho
 refine wq ?_
 refine Wq rfl p3e ?_
 refine qv (v:=.bool (false)) rfl (fun _ _=>oa _) ?_
 intro pdd pbj
 refine anz ?_
 cases ho
 exact W_ret ⟨_,res_1 Tryz.results4,rfl,(hB.trans pbj)⟩
 intro p21
 rw [p21] at ho
 refine W_skip ?_
 refine anz ?_
 refine wq ?_
 refine wq ?_
 refine Wq rfl p3e ?_
 refine qv (v:=.int .i64 (y1118)) rfl (fun _ _=>om _) ?_
 refine qv (v:=.int .i64 (y607.1)) rfl (fun _ _=>om _) ?_
 refine qv (v:=.bool ((y1118) != (y607.1))) rfl (fun _ _=>op_bin rfl rfl bin_neq) ?_
 intro pde p3f
 refine anz ?_
 refine W_cond (b:=(y1118) != (y607.1)) rfl ?_ ?_
 intro p22
 rw [p22] at ho
 refine wq ?_
 refine Wq rfl p3f ?_
 refine qv (v:=.bool (false)) rfl (fun _ _=>oa _) ?_
 intro pdf pbk
 refine anz ?_
 cases ho
 exact W_ret ⟨_,res_1 Tryz.results4,rfl,(hB.trans pbk)⟩
 intro p22
 rw [p22] at ho
 refine W_skip ?_
 refine anz ?_
 refine wq ?_
 refine Wq rfl p3f ?_
 refine qv (v:=.bool (true)) rfl (fun _ _=>oa _) ?_
 intro pdg pbl
 refine anz ?_
 cases ho
 exact W_ret ⟨_,res_1 Tryz.results4,rfl,(hB.trans pbl)⟩
end Go.Proofs.YtfbijbginbjecaaGreat
