/- Walks, printed by a program: that a call of each function computes what its model says. No condition beside those that each theorem names. -/
import Derived.Test.YtcmckiiafgcmjaaGreatTy
import Derived.Test.YtcmckiiafgcmjaaGreatMo
namespace Go.Proofs.YtcmckiiafgcmjaaGreat
open Go Go.Li
set_option linter.unusedVariables false
set_option maxHeartbeats 4000000
set_option maxRecDepth 100000
abbrev laws_szInt64S_post (w:World) (x:(Int)) (e:Ending) (w':World):Prop:=e = .returned (.int .i64 x)∧Chg [] w w'
abbrev laws_szInt64S_T (w:World):=Tm Tryz.prog Tryz.f98 12 (laws_szInt64S_post w)
theorem laws_szInt64S_calls {w:World} {x0:(List Int)} {v_x0:Value} {f_x0:List Nat} {x1:Int} (h_x0:(sImm (sInt .i64)).rep w.heap [v_x0] x0 f_x0) {y:(Int)} (hm:laws_szInt64S x0 x1=some y) :
  Calls Tryz.prog 98 #[v_x0,.int .i64 (x1)] w (laws_szInt64S_post w y):=by
 refine Cm (S:=Unit) Tryz.func98 rfl Tryz.ntmps98 rfl hm fun o ho hB=>?_
 clear hm
 refine wq <| Wq rfl (cr [] w) <| Qa (Ai rfl) <| fun wd1 hC2=>anz <| wq <| Wq rfl hC2 <| Qa (Mi rfl) <| Qa (Mv v_x0 rfl) <| Qa (Ln sl22 (kB h_x0 hB) rfl) <| Qa (Bs rfl rfl) <| Qa (Ai rfl) <| fun wd3 hC4=>anz <| wq <| wq <| ?_
 refine Wq rfl hC4 <| Qa (Mi rfl) <| Qa (Bl rfl rfl) <| fun wd5 hC6=>anz <| W_cond (b:=decide (w64 (x1 - (x0.length:Int)) < (0:Int))) rfl ?_ ?_
 intro hb7
 rw [hb7] at ho
 refine wq <| Wq rfl hC6 <| Qa (Ai rfl) <| fun wd8 hC9=>anz <| ?_
 cases ho
 exact W_ret ⟨_,res_1 Tryz.results98,rfl,(hB.trans hC9)⟩
 intro hb7
 rw [hb7] at ho
 refine W_skip <| anz <| wq <| Wq rfl hC6 <| Qa (Mi rfl) <| Qa (Ai rfl) <| fun qc ph=>anz <| ?_
 cases ho
 exact W_ret ⟨_,res_1 Tryz.results98,rfl,(hB.trans ph)⟩

abbrev laws_szInt64SS_post (w:World) (x:(Int)) (e:Ending) (w':World):Prop:=e = .returned (.int .i64 x)∧Chg [] w w'
abbrev laws_szInt64SS_T (w:World):=Tm Tryz.prog Tryz.f99 27 (laws_szInt64SS_post w)
theorem laws_szInt64SS_calls {w:World} {x0:(List (List Int))} {v_x0:Value} {f_x0:List Nat} {x1:Int} (h_x0:(sImm (sImm (sInt .i64))).rep w.heap [v_x0] x0 f_x0) {y:(Int)} (hm:laws_szInt64SS x0 x1=some y) :
  Calls Tryz.prog 99 #[v_x0,.int .i64 (x1)] w (laws_szInt64SS_post w y):=by
 refine Cm (S:=Unit) Tryz.func99 rfl Tryz.ntmps99 rfl hm fun o ho hB=>?_
 clear hm
 refine wq <| Wq rfl (cr [] w) <| Qa (Ai rfl) <| fun wd1 hC2=>anz <| wq <| Wq rfl hC2 <| Qa (Mi rfl) <| Qa (Mv v_x0 rfl) <| Qa (Ln sl23 (kB h_x0 hB) rfl) <| Qa (Bs rfl rfl) <| Qa (Ai rfl) <| fun wd3 hC4=>anz <| wq <| wq <| ?_
 refine Wq rfl hC4 <| Qa (Mi rfl) <| Qa (Bl rfl rfl) <| fun wd5 hC6=>anz <| W_cond (b:=decide (w64 (x1 - (x0.length:Int)) < (0:Int))) rfl ?_ ?_
 intro hb7
 rw [hb7] at ho
 refine wq <| Wq rfl hC6 <| Qa (Ai rfl) <| fun wd8 hC9=>anz <| ?_
 cases ho
 exact W_ret ⟨_,res_1 Tryz.results99,rfl,(hB.trans hC9)⟩
 intro hb7
 rw [hb7] at ho
 refine W_skip <| anz <| wq <| wq <| Wq rfl hC6 <| Qa (Ai rfl) <| fun qc ph=>anz <| Wf (S1:=Int×Int) (fun s r w'=>match s with | (s0_1,s0_5)=>Chg [] w w'∧∃ F,r=updL F [(0,v_x0),(1,.int .i64 (s0_1)),(5,.int .i64 (s0_5))]) (laws_szInt64SS_T w) ho ⟨(hB.trans ph),fe rfl⟩ ?_ ?_
 rintro ⟨s0_1,s0_5⟩ _ qs ⟨hB,F,rfl⟩ o ho
 replace ho:laws_szInt64SS_L0 x0 s0_1 s0_5=some o:=ho
 unfold laws_szInt64SS_L0 at ho
 refine wq <| wq <| Wq rfl (cr [] qs) <| Qa (Mi rfl) <| Qa (Mv v_x0 rfl) <| Qa (Ln sl23 (kB h_x0 hB) rfl) <| Qa (Bl rfl rfl) <| fun qt pk=>anz <| W_cond (b:=decide (s0_5 < (x0.length:Int))) rfl ?_ ?_
 intro p6
 rw [p6] at ho
 refine W_skip <| anz <| wq <| W_block <| wq <| Wq rfl pk <| Qa (Mv v_x0 rfl) <| Qa (Mi rfl) <| ?_
 obtain ⟨e16,hx17e,ho⟩:=bs ho
 have hx17:=idx_some hx17e
 refine Qa (Ix sl23 (kB h_x0 hB) hx17 rfl rfl rfl) <| ?_
 obtain ⟨u18,fu19,hu20,k7,hs22⟩:=one_get rfl h_x0 hx17.1 hx17.2
 refine Qa (Ld na22 (hB.cell0 hu20) rfl) <| Qa (Mi rfl) <| ?_
 obtain ⟨y23,k8,ho⟩:=bs ho
 refine Qc Tryz.func98 rfl rfl (fun _ hC=>laws_szInt64S_calls (kp _ k7 (hB.trans hC)) k8) <| Qa (Ai rfl) <| fun q9 pu=>anz <| wq <| Wq rfl pu <| Qa (Mi rfl) <| Qa (Bl rfl rfl) <| fun qd pi=>anz <| W_cond (b:=decide (y23 < (0:Int))) rfl ?_ ?_
 intro p9
 rw [p9] at ho
 refine wq <| Wq rfl pi <| Qa (Ai rfl) <| fun k9 qe=>anz <| ?_
 cases ho
 exact W_ret ⟨_,res_1 Tryz.results99,rfl,(hB.trans qe)⟩
 intro p9
 rw [p9] at ho
 refine W_skip <| inBlk_n <| anz <| Wq rfl pi <| Qa (Mi rfl) <| Qa (Ba rfl rfl) <| Qa (Ai rfl) <| fun np j5=>?_
 cases ho
 exact ⟨(hB.trans j5),fe rfl⟩
 intro p6
 rw [p6] at ho
 refine W_exit <| andThen_x <| ?_
 cases ho
 exact ⟨rfl,⟨(hB.trans pk),fe rfl⟩⟩
 rintro ⟨s0_1,s0_5⟩ _ jt ⟨hB,F,rfl⟩ ho
 dsimp only at ho
 refine anz <| wq <| Wq rfl (cr [] jt) <| Qa (Mi rfl) <| Qa (Ai rfl) <| fun ka ql=>anz <| ?_
 cases ho
 exact W_ret ⟨_,res_1 Tryz.results99,rfl,(hB.trans ql)⟩

abbrev laws_szCategory_post (w:World) (x:(Int)) (e:Ending) (w':World):Prop:=e = .returned (.int .i64 x)∧Chg [] w w'
abbrev laws_szCategory_T (w:World):=Tm Tryz.prog Tryz.f37 30 (laws_szCategory_post w)
theorem laws_szCategory_calls {w:World} {x0:MCategory} {z2:Value} {zf:List Nat} {z1:Value} {zg:List Nat} {z7:Value} {zh:List Nat} {z6:Value} {zi:List Nat} {x1:Int} (za:(sImm (sInt .i64)).rep w.heap [z2] x0.From zf) (zb:(sImm (sInt .i64)).rep w.heap [z1] x0.To zg) (zd:(sImm (sInt .i64)).rep w.heap [z7] x0.Identity zh) (zc:(sImm (sImm (sInt .i64))).rep w.heap [z6] x0.Composites zi) {y:(Int)} (hm:laws_szCategory x0 x1=some y) :
  Calls Tryz.prog 37 #[.agg #[.int .i64 (x0.Objects),z2,z1,z7,z6],.int .i64 (x1)] w (laws_szCategory_post w y):=by
 refine Cm (S:=Unit) Tryz.func37 rfl Tryz.ntmps37 rfl hm fun o ho hB=>?_
 clear hm
 refine wq <| W_region rfl <| WL.box fun b1 wd2 hC3 hr4 hl5=>?_
 replace hr4:Row wd2 b1 [.int .i64 (x0.Objects),z2,z1,z7,z6] 25:=hr4
 replace hB:=(hB.trans hC3)
 refine Wb (Ai rfl) <| anz <| wq <| Wq rfl (cr [] wd2) <| Qa (Fr fa25_1 rfl) <| Qa (Lr na22 hr4 rfl rfl) <| Qa (Mi rfl) <| ?_
 obtain ⟨y8,hy9,ho⟩:=bs ho
 refine Qc Tryz.func98 rfl rfl (fun _ hC=>laws_szInt64S_calls (kp _ za (hB.trans hC)) hy9) <| Qa (Ai rfl) <| fun qc ph=>anz <| wq <| wq <| Wq rfl ph <| Qa (Mi rfl) <| Qa (Bl rfl rfl) <| fun qs je=>anz <| W_cond (b:=decide (y8 < (0:Int))) rfl ?_ ?_
 intro pl
 rw [pl] at ho
 refine wq <| Wq rfl je <| Qa (Ai rfl) <| fun jf p8=>anz <| ?_
 cases ho
 exact W_ret ⟨_,res_1 Tryz.results37,rfl,(hB.trans p8)⟩
 intro pl
 rw [pl] at ho
 refine W_skip <| anz <| wq <| Wq rfl je <| Qa (Fr fa25_2 rfl) <| Qa (Lr na22 hr4 rfl rfl) <| Qa (Mi rfl) <| ?_
 obtain ⟨y17,kb,ho⟩:=bs ho
 refine Qc Tryz.func98 rfl rfl (fun _ hC=>laws_szInt64S_calls (kp _ zb (hB.trans hC)) kb) <| Qa (Ai rfl) <| fun ju qf=>anz <| wq <| wq <| Wq rfl qf <| Qa (Mi rfl) <| Qa (Bl rfl rfl) <| fun qa pg=>anz <| W_cond (b:=decide (y17 < (0:Int))) rfl ?_ ?_
 intro q1
 rw [q1] at ho
 refine wq <| Wq rfl pg <| Qa (Ai rfl) <| fun kc qm=>anz <| ?_
 cases ho
 exact W_ret ⟨_,res_1 Tryz.results37,rfl,(hB.trans qm)⟩
 intro q1
 rw [q1] at ho
 refine W_skip <| anz <| wq <| Wq rfl pg <| Qa (Fr fa25_3 rfl) <| Qa (Lr na22 hr4 rfl rfl) <| Qa (Mi rfl) <| ?_
 obtain ⟨y26,p0d,ho⟩:=bs ho
 refine Qc Tryz.func98 rfl rfl (fun _ hC=>laws_szInt64S_calls (kp _ zd (hB.trans hC)) p0d) <| Qa (Ai rfl) <| fun nq j6=>anz <| wq <| wq <| Wq rfl j6 <| Qa (Mi rfl) <| Qa (Bl rfl rfl) <| fun k9 qe=>anz <| W_cond (b:=decide (y26 < (0:Int))) rfl ?_ ?_
 intro qu
 rw [qu] at ho
 refine wq <| Wq rfl qe <| Qa (Ai rfl) <| fun p0e kd=>anz <| ?_
 cases ho
 exact W_ret ⟨_,res_1 Tryz.results37,rfl,(hB.trans kd)⟩
 intro qu
 rw [qu] at ho
 refine W_skip <| anz <| wq <| Wq rfl qe <| Qa (Fr fa25_4 rfl) <| Qa (Lr na23 hr4 rfl rfl) <| Qa (Mi rfl) <| ?_
 obtain ⟨y35,p0f,ho⟩:=bs ho
 refine Qc Tryz.func99 rfl rfl (fun _ hC=>laws_szInt64SS_calls (kp _ zc (hB.trans hC)) p0f) <| Qa (Ai rfl) <| fun ke jv=>anz <| wq <| wq <| Wq rfl jv <| Qa (Mi rfl) <| Qa (Bl rfl rfl) <| fun nr ns=>anz <| W_cond (b:=decide (y35 < (0:Int))) rfl ?_ ?_
 intro kf
 rw [kf] at ho
 refine wq <| Wq rfl ns <| Qa (Ai rfl) <| fun p2m p0g=>anz <| ?_
 cases ho
 exact W_ret ⟨_,res_1 Tryz.results37,rfl,(hB.trans p0g)⟩
 intro kf
 rw [kf] at ho
 refine W_skip <| anz <| wq <| Wq rfl ns <| Qa (Mi rfl) <| Qa (Ai rfl) <| fun p2n p0h=>anz <| ?_
 cases ho
 exact W_ret ⟨_,res_1 Tryz.results37,rfl,(hB.trans p0h)⟩

abbrev laws_szInt64SSS_post (w:World) (x:(Int)) (e:Ending) (w':World):Prop:=e = .returned (.int .i64 x)∧Chg [] w w'
abbrev laws_szInt64SSS_T (w:World):=Tm Tryz.prog Tryz.f69 27 (laws_szInt64SSS_post w)
theorem laws_szInt64SSS_calls {w:World} {x0:(List (List (List Int)))} {v_x0:Value} {f_x0:List Nat} {x1:Int} (h_x0:(sImm (sImm (sImm (sInt .i64)))).rep w.heap [v_x0] x0 f_x0) {y:(Int)} (hm:laws_szInt64SSS x0 x1=some y) :
  Calls Tryz.prog 69 #[v_x0,.int .i64 (x1)] w (laws_szInt64SSS_post w y):=by
 refine Cm (S:=Unit) Tryz.func69 rfl Tryz.ntmps69 rfl hm fun o ho hB=>?_
 clear hm
 refine wq <| Wq rfl (cr [] w) <| Qa (Ai rfl) <| fun wd1 hC2=>anz <| wq <| Wq rfl hC2 <| Qa (Mi rfl) <| Qa (Mv v_x0 rfl) <| Qa (Ln sl26 (kB h_x0 hB) rfl) <| Qa (Bs rfl rfl) <| Qa (Ai rfl) <| fun wd3 hC4=>anz <| wq <| wq <| ?_
 refine Wq rfl hC4 <| Qa (Mi rfl) <| Qa (Bl rfl rfl) <| fun wd5 hC6=>anz <| W_cond (b:=decide (w64 (x1 - (x0.length:Int)) < (0:Int))) rfl ?_ ?_
 intro hb7
 rw [hb7] at ho
 refine wq <| Wq rfl hC6 <| Qa (Ai rfl) <| fun wd8 hC9=>anz <| ?_
 cases ho
 exact W_ret ⟨_,res_1 Tryz.results69,rfl,(hB.trans hC9)⟩
 intro hb7
 rw [hb7] at ho
 refine W_skip <| anz <| wq <| wq <| Wq rfl hC6 <| Qa (Ai rfl) <| fun qc ph=>anz <| Wf (S1:=Int×Int) (fun s r w'=>match s with | (s0_1,s0_5)=>Chg [] w w'∧∃ F,r=updL F [(0,v_x0),(1,.int .i64 (s0_1)),(5,.int .i64 (s0_5))]) (laws_szInt64SSS_T w) ho ⟨(hB.trans ph),fe rfl⟩ ?_ ?_
 rintro ⟨s0_1,s0_5⟩ _ qs ⟨hB,F,rfl⟩ o ho
 replace ho:laws_szInt64SSS_L0 x0 s0_1 s0_5=some o:=ho
 unfold laws_szInt64SSS_L0 at ho
 refine wq <| wq <| Wq rfl (cr [] qs) <| Qa (Mi rfl) <| Qa (Mv v_x0 rfl) <| Qa (Ln sl26 (kB h_x0 hB) rfl) <| Qa (Bl rfl rfl) <| fun qt pk=>anz <| W_cond (b:=decide (s0_5 < (x0.length:Int))) rfl ?_ ?_
 intro p6
 rw [p6] at ho
 refine W_skip <| anz <| wq <| W_block <| wq <| Wq rfl pk <| Qa (Mv v_x0 rfl) <| Qa (Mi rfl) <| ?_
 obtain ⟨e16,hx17e,ho⟩:=bs ho
 have hx17:=idx_some hx17e
 refine Qa (Ix sl26 (kB h_x0 hB) hx17 rfl rfl rfl) <| ?_
 obtain ⟨u18,fu19,hu20,k7,hs22⟩:=one_get rfl h_x0 hx17.1 hx17.2
 refine Qa (Ld na23 (hB.cell0 hu20) rfl) <| Qa (Mi rfl) <| ?_
 obtain ⟨y23,k8,ho⟩:=bs ho
 refine Qc Tryz.func99 rfl rfl (fun _ hC=>laws_szInt64SS_calls (kp _ k7 (hB.trans hC)) k8) <| Qa (Ai rfl) <| fun q9 pu=>anz <| wq <| Wq rfl pu <| Qa (Mi rfl) <| Qa (Bl rfl rfl) <| fun qd pi=>anz <| W_cond (b:=decide (y23 < (0:Int))) rfl ?_ ?_
 intro p9
 rw [p9] at ho
 refine wq <| Wq rfl pi <| Qa (Ai rfl) <| fun k9 qe=>anz <| ?_
 cases ho
 exact W_ret ⟨_,res_1 Tryz.results69,rfl,(hB.trans qe)⟩
 intro p9
 rw [p9] at ho
 refine W_skip <| inBlk_n <| anz <| Wq rfl pi <| Qa (Mi rfl) <| Qa (Ba rfl rfl) <| Qa (Ai rfl) <| fun np j5=>?_
 cases ho
 exact ⟨(hB.trans j5),fe rfl⟩
 intro p6
 rw [p6] at ho
 refine W_exit <| andThen_x <| ?_
 cases ho
 exact ⟨rfl,⟨(hB.trans pk),fe rfl⟩⟩
 rintro ⟨s0_1,s0_5⟩ _ jt ⟨hB,F,rfl⟩ ho
 dsimp only at ho
 refine anz <| wq <| Wq rfl (cr [] jt) <| Qa (Mi rfl) <| Qa (Ai rfl) <| fun ka ql=>anz <| ?_
 cases ho
 exact W_ret ⟨_,res_1 Tryz.results69,rfl,(hB.trans ql)⟩

abbrev laws_szTopology_post (w:World) (x:(Int)) (e:Ending) (w':World):Prop:=e = .returned (.int .i64 x)∧Chg [] w w'
abbrev laws_szTopology_T (w:World):=Tm Tryz.prog Tryz.f15 18 (laws_szTopology_post w)
theorem laws_szTopology_calls {w:World} {x0:MTopology} {zk:Value} {zo:List Nat} {zl:Value} {zp:List Nat} {zm:Value} {zq:List Nat} {zn:Value} {zr:List Nat} {ze:Value} {z8:List Nat} {x1:Int} (zu:(sImm (sInt .i64)).rep w.heap [zk] x0.Shape.From zo) (zv:(sImm (sInt .i64)).rep w.heap [zl] x0.Shape.To zp) (zw:(sImm (sInt .i64)).rep w.heap [zm] x0.Shape.Identity zq) (zx:(sImm (sImm (sInt .i64))).rep w.heap [zn] x0.Shape.Composites zr) (zj:(sImm (sImm (sImm (sInt .i64)))).rep w.heap [ze] x0.Covers z8) {y:(Int)} (hm:laws_szTopology x0 x1=some y) :
  Calls Tryz.prog 15 #[.agg #[.int .i64 (x0.Shape.Objects),zk,zl,zm,zn,ze],.int .i64 (x1)] w (laws_szTopology_post w y):=by
 refine Cm (S:=Unit) Tryz.func15 rfl Tryz.ntmps15 rfl hm fun o ho hB=>?_
 clear hm
 refine wq <| W_region rfl <| WL.box fun b1 wd2 hC3 hr4 hl5=>?_
 replace hr4:Row wd2 b1 [.int .i64 (x0.Shape.Objects),zk,zl,zm,zn,ze] 28:=hr4
 replace hB:=(hB.trans hC3)
 refine Wb (Ai rfl) <| anz <| wq <| Wq rfl (cr [] wd2) <| Qa (Fr fa28_0 rfl) <| ?_
 refine qv (v:=.agg #[.int .i64 (x0.Shape.Objects),zk,zl,zm,zn]) rfl (fun _ hC=>op_loadAgg (cs:=[.int .i64 (x0.Shape.Objects),zk,zl,zm,zn]) Tryz.underlying25 rfl info25 (by rw [sz25]; rfl) rfl (At.sub (kr hr4 hC).at 0 5)) ?_
 refine Qa (Mi rfl) <| ?_
 obtain ⟨y8,hy9,ho⟩:=bs ho
 refine Qc Tryz.func37 rfl rfl (fun _ hC=>laws_szCategory_calls (kp _ zu (hB.trans hC)) (kp _ zv (hB.trans hC)) (kp _ zw (hB.trans hC)) (kp _ zx (hB.trans hC)) hy9) <| Qa (Ai rfl) <| fun qc ph=>anz <| wq <| wq <| Wq rfl ph <| Qa (Mi rfl) <| Qa (Bl rfl rfl) <| fun qs je=>anz <| W_cond (b:=decide (y8 < (0:Int))) rfl ?_ ?_
 intro pl
 rw [pl] at ho
 refine wq <| Wq rfl je <| Qa (Ai rfl) <| fun jf p8=>anz <| ?_
 cases ho
 exact W_ret ⟨_,res_1 Tryz.results15,rfl,(hB.trans p8)⟩
 intro pl
 rw [pl] at ho
 refine W_skip <| anz <| wq <| Wq rfl je <| Qa (Fr fa28_1 rfl) <| Qa (Lr na26 hr4 rfl rfl) <| Qa (Mi rfl) <| ?_
 obtain ⟨y17,kb,ho⟩:=bs ho
 refine Qc Tryz.func69 rfl rfl (fun _ hC=>laws_szInt64SSS_calls (kp _ zj (hB.trans hC)) kb) <| Qa (Ai rfl) <| fun ju qf=>anz <| wq <| wq <| Wq rfl qf <| Qa (Mi rfl) <| Qa (Bl rfl rfl) <| fun qa pg=>anz <| W_cond (b:=decide (y17 < (0:Int))) rfl ?_ ?_
 intro q1
 rw [q1] at ho
 refine wq <| Wq rfl pg <| Qa (Ai rfl) <| fun kc qm=>anz <| ?_
 cases ho
 exact W_ret ⟨_,res_1 Tryz.results15,rfl,(hB.trans qm)⟩
 intro q1
 rw [q1] at ho
 refine W_skip <| anz <| wq <| Wq rfl pg <| Qa (Mi rfl) <| Qa (Ai rfl) <| fun jw jg=>anz <| ?_
 cases ho
 exact W_ret ⟨_,res_1 Tryz.results15,rfl,(hB.trans jg)⟩

abbrev laws_toInt64S_post (w:World) (x:((List Int))) (e:Ending) (w':World):Prop:=∃ (v0:Value) (f0:List Nat),e = .returned (v0)∧Chg [] w w'∧OE [] w.heap.size w' (sOwn 2 (sInt .i64)) [v0] x f0
abbrev laws_toInt64S_T (w:World):=Tm Tryz.prog Tryz.f21 22 (laws_toInt64S_post w)
theorem laws_toInt64S_calls {w:World} {x0:(List Int)} {v_x0:Value} {f_x0:List Nat} (h_x0:(sImm (sInt .i64)).rep w.heap [v_x0] x0 f_x0) {y:((List Int))} (hm:laws_toInt64S x0=some y) :
  Calls Tryz.prog 21 #[v_x0] w (laws_toInt64S_post w y):=by
 refine Cm (S:=Unit) Tryz.func21 rfl Tryz.ntmps21 rfl hm fun o ho hB=>?_
 clear hm
 refine wq <| Wq rfl (cr [] w) <| Qa (As rfl) <| fun wd1 hC2=>anz <| wq <| W_region rfl <| Wb (Mv v_x0 rfl) <| Wa hC2 (Ln sl22 (kB h_x0 hB) rfl) <| ?_
 obtain ⟨n3,hn4,ho⟩:=bs ho
 obtain ⟨hn4a,hn4b,hn4c⟩:=mk_some hn4
 refine WL.make (z0:=(0:Int)) (sInt .i64) u22z info2 zr2 sz2 rfl rfl (fun _=>⟨rfl,rfl⟩) (congrArg (Value.int .i64) hn4a) (congrArg (Value.int .i64) hn4a) (by rw [by2]; exact hn4b) hn4c fun v5 wd6 f7 hC8 o9=>?_
 replace o9:=OE.low (G:=[]) o9 (hB.trans hC2).size
 have jh:=hC2.trans hC8
 replace hB:=(hB.trans jh)
 refine Wb (Av v5 rfl) <| anz <| wq <| wq <| Wq rfl (cr [] wd6) <| Qa (Ai rfl) <| fun jx pm=>anz <| Wf (S1:=Int×(List Int)) (fun s r w'=>match s with | (s0_4,s0_o9)=>Chg [] w w'∧OE [] w.heap.size w' (sOwn 2 (sInt .i64)) [v5] (s0_o9) f7∧∃ F,r=updL F [(0,v_x0),(3,v5),(4,.int .i64 (s0_4))]) (laws_toInt64S_T w) ho ⟨(hB.trans pm),(ko o9 pm),fe rfl⟩ ?_ ?_
 rintro ⟨s0_4,s0_o9⟩ _ qt ⟨hB,o9,F,rfl⟩ o ho
 replace ho:laws_toInt64S_L0 x0 s0_4 s0_o9=some o:=ho
 unfold laws_toInt64S_L0 at ho
 refine wq <| wq <| Wq rfl (cr [] qt) <| Qa (Mi rfl) <| Qa (Mv v_x0 rfl) <| Qa (Ln sl22 (kB h_x0 hB) rfl) <| Qa (Bl rfl rfl) <| fun ji qg=>anz <| W_cond (b:=decide (s0_4 < (x0.length:Int))) rfl ?_ ?_
 intro kg
 rw [kg] at ho
 refine W_skip <| anz <| wq <| W_block <| W_region rfl <| Wb (Mv v5 rfl) <| Wb (Mi rfl) <| Wb (Mv v_x0 rfl) <| Wb (Mi rfl) <| ?_
 obtain ⟨e17,hx18e,ho⟩:=bs ho
 have hx18:=idx_some hx18e
 refine Wa qg (Ix sl22 (kB h_x0 hB) hx18 rfl rfl rfl) <| Wa qg (Ei na2 (kB h_x0 hB) hx18 rfl) <| ?_
 obtain ⟨e19,hx20e,ho⟩:=bs ho
 have hx20:=idx_some hx20e
 refine Wa qg (Ix sl22 ((Le.own (Le.refl _) 2).le o9.1) hx20 rfl rfl rfl) <| WL.storeEl (z':=e17) _ _ sInt_nofp rfl info2 sz2 (ko o9 qg) hx20.2 rfl rfl ⟨rfl,rfl⟩ fun qa pg o23=>?_
 have p0j:=(qg.nil (G:=f7)).trans pg
 replace hB:=hB.then p0j o9.2.2
 refine inBlk_n <| anz <| Wq rfl (cr [] qa) <| Qa (Mi rfl) <| Qa (Ba rfl rfl) <| Qa (Ai rfl) <| fun q9 pu=>?_
 cases ho
 exact ⟨(hB.trans pu),(ko o23 pu),fe rfl⟩
 intro kg
 rw [kg] at ho
 refine W_exit <| andThen_x <| ?_
 cases ho
 exact ⟨rfl,⟨(hB.trans qg),(ko o9 qg),fe rfl⟩⟩
 rintro ⟨s0_4,s0_o9⟩ _ qd ⟨hB,o9,F,rfl⟩ ho
 dsimp only at ho
 refine anz <| wq <| Wq rfl (cr [] qd) <| Qa (Mv v5 rfl) <| Qa (Av v5 rfl) <| fun nq j6=>anz <| ?_
 cases ho
 exact W_ret ⟨_,res_1 Tryz.results21,_,_,rfl,(hB.trans j6),(ko o9 j6)⟩

abbrev laws_toInt64SS_post (w:World) (x:((List (List Int)))) (e:Ending) (w':World):Prop:=∃ (v0:Value) (f0:List Nat),e = .returned (v0)∧Chg [] w w'∧OE [] w.heap.size w' (sOwn 22 (sOwn 2 (sInt .i64))) [v0] x f0
abbrev laws_toInt64SS_T (w:World):=Tm Tryz.prog Tryz.f102 23 (laws_toInt64SS_post w)
theorem laws_toInt64SS_calls {w:World} {x0:(List (List Int))} {v_x0:Value} {f_x0:List Nat} (h_x0:(sImm (sImm (sInt .i64))).rep w.heap [v_x0] x0 f_x0) {y:((List (List Int)))} (hm:laws_toInt64SS x0=some y) :
  Calls Tryz.prog 102 #[v_x0] w (laws_toInt64SS_post w y):=by
 refine Cm (S:=Unit) Tryz.func102 rfl Tryz.ntmps102 rfl hm fun o ho hB=>?_
 clear hm
 refine wq <| Wq rfl (cr [] w) <| Qa (As rfl) <| fun wd1 hC2=>anz <| wq <| W_region rfl <| Wb (Mv v_x0 rfl) <| Wa hC2 (Ln sl23 (kB h_x0 hB) rfl) <| ?_
 obtain ⟨n3,hn4,ho⟩:=bs ho
 obtain ⟨hn4a,hn4b,hn4c⟩:=mk_some hn4
 refine WL.make (z0:=[]) (sOwn 2 (sInt .i64)) u23z info22 zr22 sz22 rfl rfl (fun _=>nil_own) (congrArg (Value.int .i64) hn4a) (congrArg (Value.int .i64) hn4a) (by rw [by22]; exact hn4b) hn4c fun v5 wd6 f7 hC8 o9=>?_
 replace o9:=OE.low (G:=[]) o9 (hB.trans hC2).size
 have jh:=hC2.trans hC8
 replace hB:=(hB.trans jh)
 refine Wb (Av v5 rfl) <| anz <| wq <| wq <| Wq rfl (cr [] wd6) <| Qa (Ai rfl) <| fun jx pm=>anz <| Wf (S1:=Int×(List (List Int))) (fun s r w'=>match s with | (s0_4,s0_o9)=>∃ (qw:List Nat),Chg [] w w'∧OE [] w.heap.size w' (sOwn 22 (sOwn 2 (sInt .i64))) [v5] (s0_o9) qw∧∃ F,r=updL F [(0,v_x0),(3,v5),(4,.int .i64 (s0_4))]) (laws_toInt64SS_T w) ho ⟨_,(hB.trans pm),(ko o9 pm),fe rfl⟩ ?_ ?_
 rintro ⟨s0_4,s0_o9⟩ _ ji ⟨qw,hB,o9,F,rfl⟩ o ho
 replace ho:laws_toInt64SS_L0 x0 s0_4 s0_o9=some o:=ho
 unfold laws_toInt64SS_L0 at ho
 refine wq <| wq <| Wq rfl (cr [] ji) <| Qa (Mi rfl) <| Qa (Mv v_x0 rfl) <| Qa (Ln sl23 (kB h_x0 hB) rfl) <| Qa (Bl rfl rfl) <| fun jf p8=>anz <| W_cond (b:=decide (s0_4 < (x0.length:Int))) rfl ?_ ?_
 intro q2
 rw [q2] at ho
 refine W_skip <| anz <| wq <| W_block <| W_region rfl <| Wb (Mv v5 rfl) <| Wb (Mi rfl) <| Wb (Mv v_x0 rfl) <| Wb (Mi rfl) <| ?_
 obtain ⟨e18,hx19e,ho⟩:=bs ho
 have hx19:=idx_some hx19e
 refine Wa p8 (Ix sl23 (kB h_x0 hB) hx19 rfl rfl rfl) <| ?_
 obtain ⟨u20,fu21,hu22,kh,hs24⟩:=one_get rfl h_x0 hx19.1 hx19.2
 refine Wa p8 (Ld na22 (hB.cell0 hu22) rfl) <| ?_
 obtain ⟨y25,jj,ho⟩:=bs ho
 refine WL.call rfl (op_callF Tryz.func21 rfl rfl) (laws_toInt64S_calls (kp _ kh (hB.trans p8)) jj) <| ?_
 rintro _ qd ⟨v29,nt,rfl,pi,p7⟩
 refine ⟨_,rfl,?_⟩
 have ki:=dl (ofr p7) (sl _ (kp _ o9.1 p8))
 replace p7:=OE.low (G:=[]) p7 (hB.trans p8).size
 have jk:=p8.trans pi
 replace o9:=ko o9 jk
 replace hB:=(hB.trans jk)
 obtain ⟨e34,hx35e,ho⟩:=bs ho
 have hx35:=idx_some hx35e
 refine Wb (Ix sl23 ((Le.own (Le.own (Le.refl _) 2) 22).le o9.1) hx35 rfl rfl rfl) <| WL.storeOwn (z':=y25) _ _ rfl info22 sz22 o9 hx35.2 rfl rfl p7.1 p7.2.1 p7.2.2 ki fun kj nu kk kl hs40=>?_
 replace hB:=hB.then kk o9.2.2
 refine inBlk_n <| anz <| Wq rfl (cr [] kj) <| Qa (Mi rfl) <| Qa (Ba rfl rfl) <| Qa (Ai rfl) <| fun p0k jl=>?_
 cases ho
 exact ⟨_,(hB.trans jl),(ko kl jl),fe rfl⟩
 intro q2
 rw [q2] at ho
 refine W_exit <| andThen_x <| ?_
 cases ho
 exact ⟨rfl,⟨_,(hB.trans p8),(ko o9 p8),fe rfl⟩⟩
 rintro ⟨s0_4,s0_o9⟩ _ jy ⟨qw,hB,o9,F,rfl⟩ ho
 dsimp only at ho
 refine anz <| wq <| Wq rfl (cr [] jy) <| Qa (Mv v5 rfl) <| Qa (Av v5 rfl) <| fun nv q3=>anz <| ?_
 cases ho
 exact W_ret ⟨_,res_1 Tryz.results102,_,_,rfl,(hB.trans q3),(ko o9 q3)⟩

abbrev laws_toCategory_post (w:World) (x:(MCategory)) (e:Ending) (w':World):Prop:=∃ (v0:Value) (f0:List Nat) (v1:Value) (f1:List Nat) (v2:Value) (f2:List Nat) (v3:Value) (f3:List Nat),e = .returned (.agg #[.int .i64 x.Objects,v0,v1,v2,v3])∧Chg [] w w'∧OE [] w.heap.size w' (sOwn 2 (sInt .i64)) [v0] x.From f0∧OE [] w.heap.size w' (sOwn 2 (sInt .i64)) [v1] x.To f1∧OE [] w.heap.size w' (sOwn 2 (sInt .i64)) [v2] x.Identity f2∧OE [] w.heap.size w' (sOwn 22 (sOwn 2 (sInt .i64))) [v3] x.Composites f3∧Dis f0 f1∧Dis f0 f2∧Dis f0 f3∧Dis f1 f2∧Dis f1 f3∧Dis f2 f3
abbrev laws_toCategory_T (w:World):=Tm Tryz.prog Tryz.f39 24 (laws_toCategory_post w)
theorem laws_toCategory_calls {w:World} {x0:MCategory} {z2:Value} {zf:List Nat} {z1:Value} {zg:List Nat} {z7:Value} {zh:List Nat} {z6:Value} {zi:List Nat} (za:(sImm (sInt .i64)).rep w.heap [z2] x0.From zf) (zb:(sImm (sInt .i64)).rep w.heap [z1] x0.To zg) (zd:(sImm (sInt .i64)).rep w.heap [z7] x0.Identity zh) (zc:(sImm (sImm (sInt .i64))).rep w.heap [z6] x0.Composites zi) {y:(MCategory)} (hm:laws_toCategory x0=some y) :
  Calls Tryz.prog 39 #[.agg #[.int .i64 (x0.Objects),z2,z1,z7,z6]] w (laws_toCategory_post w y):=by
 refine Cm (S:=Unit) Tryz.func39 rfl Tryz.ntmps39 rfl hm fun o ho hB=>?_
 clear hm
 refine wq <| W_region rfl <| WL.box fun b1 wd2 hC3 hr4 hl5=>?_
 replace hr4:Row wd2 b1 [.int .i64 (x0.Objects),z2,z1,z7,z6] 25:=hr4
 replace hB:=(hB.trans hC3)
 refine WL.alloc info32 zr32 fun b8 wd9 qn p2 km=>?_
 replace p2:Row wd9 b8 [.int .i64 ((0:Int)),.slice none 0 0,.slice none 0 0,.slice none 0 0,.slice none 0 0] 32:=p2
 have kn:w.heap.size≤b8:=Nat.le_trans hB.size km
 replace hr4:=kr hr4 qn
 replace hB:=(hB.trans qn)
 refine anz <| wq <| W_region rfl <| WL.alloc info32 zr32 fun py jm q4 pw qx=>?_
 replace pw:Row jm py [.int .i64 ((0:Int)),.slice none 0 0,.slice none 0 0,.slice none 0 0,.slice none 0 0] 32:=pw
 have qo:w.heap.size≤py:=Nat.le_trans hB.size qx
 have qp:=dl (onw qx) (one_lt (Row.lt hr4))
 have qb:=dl (onw qx) (one_lt (Row.lt p2))
 replace hr4:=kr hr4 q4
 replace p2:=kr p2 q4
 replace hB:=(hB.trans q4)
 refine anz <| wq <| W_region rfl <| Wb (Fr fa25_0 rfl) <| Wb (Lr na2 hr4 rfl rfl) <| Wb (Fr fa32_0 rfl) <| WL.storeRow (j:=0) info2 sz2 pw (Nat.le_of_ble_eq_true rfl) rfl rfl rfl fun q9 pu qh=>?_
 replace qh:Row q9 py [.int .i64 (x0.Objects),.slice none 0 0,.slice none 0 0,.slice none 0 0,.slice none 0 0] 32:=qh
 replace hr4:=Row.keep hr4 pu ((qp).symm _ (ms rfl))
 replace p2:=Row.keep p2 pu ((qb).symm _ (ms rfl))
 replace hB:=hB.then pu (one_then qo)
 refine anz <| wq <| W_region rfl <| Wb (Fr fa25_1 rfl) <| Wb (Lr na22 hr4 rfl rfl) <| ?_
 obtain ⟨y29,p0l,ho⟩:=bs ho
 refine WL.call rfl (op_callF Tryz.func21 rfl rfl) (laws_toInt64S_calls (kp _ za hB) p0l) <| ?_
 rintro _ nw ⟨v33,f34,rfl,j7,pd⟩
 refine ⟨_,rfl,?_⟩
 have kq:=dl (ofr pd) (one_lt (Row.lt p2))
 have jz:=dl (ofr pd) (one_lt (Row.lt qh))
 replace pd:=OE.low (G:=[]) pd hB.size
 replace hr4:=kr hr4 j7
 replace p2:=kr p2 j7
 replace qh:=kr qh j7
 replace hB:=(hB.trans j7)
 refine Wb (Fr fa32_1 rfl) <| WL.storeRow (j:=1) info22 sz22 qh (Nat.le_of_ble_eq_true rfl) rfl rfl (STy.one _ pd.1 _ (ms rfl)) fun k0 qq j8=>?_
 replace j8:Row k0 py [.int .i64 (x0.Objects),v33,.slice none 0 0,.slice none 0 0,.slice none 0 0] 32:=j8
 replace hr4:=Row.keep hr4 qq ((qp).symm _ (ms rfl))
 replace p2:=Row.keep p2 qq ((qb).symm _ (ms rfl))
 replace pd:=okp pd qq jz
 replace hB:=hB.then qq (one_then qo)
 refine anz <| wq <| W_region rfl <| Wb (Fr fa25_2 rfl) <| Wb (Lr na22 hr4 rfl rfl) <| ?_
 obtain ⟨y44,p0m,ho⟩:=bs ho
 refine WL.call rfl (op_callF Tryz.func21 rfl rfl) (laws_toInt64S_calls (kp _ zb hB) p0m) <| ?_
 rintro _ nv ⟨v48,f49,rfl,q3,pf⟩
 refine ⟨_,rfl,?_⟩
 have k1:=dl (ofr pf) (one_lt (Row.lt p2))
 have d53:=dl (ofr pf) (sl _ pd.1)
 have jn:=dl (ofr pf) (one_lt (Row.lt j8))
 replace pf:=OE.low (G:=[]) pf hB.size
 replace hr4:=kr hr4 q3
 replace p2:=kr p2 q3
 replace pd:=ko pd q3
 replace j8:=kr j8 q3
 replace hB:=(hB.trans q3)
 refine Wb (Fr fa32_2 rfl) <| WL.storeRow (j:=2) info22 sz22 j8 (Nat.le_of_ble_eq_true rfl) rfl rfl (STy.one _ pf.1 _ (ms rfl)) fun ks pz j9=>?_
 replace j9:Row ks py [.int .i64 (x0.Objects),v33,v48,.slice none 0 0,.slice none 0 0] 32:=j9
 replace hr4:=Row.keep hr4 pz ((qp).symm _ (ms rfl))
 replace p2:=Row.keep p2 pz ((qb).symm _ (ms rfl))
 replace pd:=okp pd pz jz
 replace pf:=okp pf pz jn
 replace hB:=hB.then pz (one_then qo)
 refine anz <| wq <| W_region rfl <| Wb (Fr fa25_3 rfl) <| Wb (Lr na22 hr4 rfl rfl) <| ?_
 obtain ⟨y60,p0o,ho⟩:=bs ho
 refine WL.call rfl (op_callF Tryz.func21 rfl rfl) (laws_toInt64S_calls (kp _ zd hB) p0o) <| ?_
 rintro _ nx ⟨v64,f65,rfl,px,pj⟩
 refine ⟨_,rfl,?_⟩
 have d68:=dl (ofr pj) (one_lt (Row.lt p2))
 have d69:=dl (ofr pj) (sl _ pd.1)
 have d70:=dl (ofr pj) (sl _ pf.1)
 have ny:=dl (ofr pj) (one_lt (Row.lt j9))
 replace pj:=OE.low (G:=[]) pj hB.size
 replace hr4:=kr hr4 px
 replace p2:=kr p2 px
 replace pd:=ko pd px
 replace pf:=ko pf px
 replace j9:=kr j9 px
 replace hB:=(hB.trans px)
 refine Wb (Fr fa32_3 rfl) <| WL.storeRow (j:=3) info22 sz22 j9 (Nat.le_of_ble_eq_true rfl) rfl rfl (STy.one _ pj.1 _ (ms rfl)) fun p0s ja jb=>?_
 replace jb:Row p0s py [.int .i64 (x0.Objects),v33,v48,v64,.slice none 0 0] 32:=jb
 replace hr4:=Row.keep hr4 ja ((qp).symm _ (ms rfl))
 replace p2:=Row.keep p2 ja ((qb).symm _ (ms rfl))
 replace pd:=okp pd ja jz
 replace pf:=okp pf ja jn
 replace pj:=okp pj ja ny
 replace hB:=hB.then ja (one_then qo)
 refine anz <| wq <| W_region rfl <| Wb (Fr fa25_4 rfl) <| Wb (Lr na23 hr4 rfl rfl) <| ?_
 obtain ⟨y77,p0t,ho⟩:=bs ho
 refine WL.call rfl (op_callF Tryz.func102 rfl rfl) (laws_toInt64SS_calls (kp _ zc hB) p0t) <| ?_
 rintro _ nz ⟨v81,f82,rfl,pn,pv⟩
 refine ⟨_,rfl,?_⟩
 have d85:=dl (ofr pv) (one_lt (Row.lt p2))
 have d86:=dl (ofr pv) (sl _ pd.1)
 have d87:=dl (ofr pv) (sl _ pf.1)
 have d88:=dl (ofr pv) (sl _ pj.1)
 have d89:=dl (ofr pv) (one_lt (Row.lt jb))
 replace pv:=OE.low (G:=[]) pv hB.size
 replace hr4:=kr hr4 pn
 replace p2:=kr p2 pn
 replace pd:=ko pd pn
 replace pf:=ko pf pn
 replace pj:=ko pj pn
 replace jb:=kr jb pn
 replace hB:=(hB.trans pn)
 refine Wb (Fr fa32_4 rfl) <| WL.storeRow (j:=4) info23 sz23 jb (Nat.le_of_ble_eq_true rfl) rfl rfl (STy.one _ pv.1 _ (ms rfl)) fun p0z qy jo=>?_
 replace jo:Row p0z py [.int .i64 (x0.Objects),v33,v48,v64,v81] 32:=jo
 replace hr4:=Row.keep hr4 qy ((qp).symm _ (ms rfl))
 replace p2:=Row.keep p2 qy ((qb).symm _ (ms rfl))
 replace pd:=okp pd qy jz
 replace pf:=okp pf qy jn
 replace pj:=okp pj qy ny
 replace pv:=okp pv qy d89
 replace hB:=hB.then qy (one_then qo)
 refine anz <| wq <| W_region rfl <| Wb (Lg ag32 jo.at rfl rfl) <| WL.storeAll (us:=[.int .i64 (x0.Objects),v33,v48,v64,v81]) info32 (by rw [sz32]; rfl) p2 rfl rfl rfl (by intro u hu; simp only [List.mem_cons,List.mem_nil_iff,or_false] at hu; rcases hu with rfl | rfl | rfl | rfl | rfl <;> first | exact rfl | exact (STy.one _ pd.1 _ (ms rfl)) | exact (STy.one _ pf.1 _ (ms rfl)) | exact (STy.one _ pj.1 _ (ms rfl)) | exact (STy.one _ pv.1 _ (ms rfl))) fun kt q5 ku=>?_
 replace ku:Row kt b8 [.int .i64 (x0.Objects),v33,v48,v64,v81] 32:=ku
 replace pd:=okp pd q5 kq
 replace pf:=okp pf q5 k1
 replace pj:=okp pj q5 d68
 replace pv:=okp pv q5 d85
 replace jo:=Row.keep jo q5 (qb _ (ms rfl))
 replace hB:=hB.then q5 (one_then kn)
 refine anz <| ?_
 cases ho
 exact W_ret ⟨_,res_c Tryz.results39 u32 rfl info32 (by rw [sz32]; rfl) rfl ku.at,_,_,_,_,_,_,_,_,rfl,hB,pd,pf,pj,pv,((d53).symm),((d69).symm),((d86).symm),((d70).symm),((d87).symm),((d88).symm)⟩

abbrev laws_toInt64SSS_post (w:World) (x:((List (List (List Int))))) (e:Ending) (w':World):Prop:=∃ (v0:Value) (f0:List Nat),e = .returned (v0)∧Chg [] w w'∧OE [] w.heap.size w' (sOwn 23 (sOwn 22 (sOwn 2 (sInt .i64)))) [v0] x f0
abbrev laws_toInt64SSS_T (w:World):=Tm Tryz.prog Tryz.f72 23 (laws_toInt64SSS_post w)
theorem laws_toInt64SSS_calls {w:World} {x0:(List (List (List Int)))} {v_x0:Value} {f_x0:List Nat} (h_x0:(sImm (sImm (sImm (sInt .i64)))).rep w.heap [v_x0] x0 f_x0) {y:((List (List (List Int))))} (hm:laws_toInt64SSS x0=some y) :
  Calls Tryz.prog 72 #[v_x0] w (laws_toInt64SSS_post w y):=by
 refine Cm (S:=Unit) Tryz.func72 rfl Tryz.ntmps72 rfl hm fun o ho hB=>?_
 clear hm
 refine wq <| Wq rfl (cr [] w) <| Qa (As rfl) <| fun wd1 hC2=>anz <| wq <| W_region rfl <| Wb (Mv v_x0 rfl) <| Wa hC2 (Ln sl26 (kB h_x0 hB) rfl) <| ?_
 obtain ⟨n3,hn4,ho⟩:=bs ho
 obtain ⟨hn4a,hn4b,hn4c⟩:=mk_some hn4
 refine WL.make (z0:=[]) (sOwn 22 (sOwn 2 (sInt .i64))) u26z info23 zr23 sz23 rfl rfl (fun _=>nil_own) (congrArg (Value.int .i64) hn4a) (congrArg (Value.int .i64) hn4a) (by rw [by23]; exact hn4b) hn4c fun v5 wd6 f7 hC8 o9=>?_
 replace o9:=OE.low (G:=[]) o9 (hB.trans hC2).size
 have jh:=hC2.trans hC8
 replace hB:=(hB.trans jh)
 refine Wb (Av v5 rfl) <| anz <| wq <| wq <| Wq rfl (cr [] wd6) <| Qa (Ai rfl) <| fun jx pm=>anz <| Wf (S1:=Int×(List (List (List Int)))) (fun s r w'=>match s with | (s0_4,s0_o9)=>∃ (qw:List Nat),Chg [] w w'∧OE [] w.heap.size w' (sOwn 23 (sOwn 22 (sOwn 2 (sInt .i64)))) [v5] (s0_o9) qw∧∃ F,r=updL F [(0,v_x0),(3,v5),(4,.int .i64 (s0_4))]) (laws_toInt64SSS_T w) ho ⟨_,(hB.trans pm),(ko o9 pm),fe rfl⟩ ?_ ?_
 rintro ⟨s0_4,s0_o9⟩ _ ji ⟨qw,hB,o9,F,rfl⟩ o ho
 replace ho:laws_toInt64SSS_L0 x0 s0_4 s0_o9=some o:=ho
 unfold laws_toInt64SSS_L0 at ho
 refine wq <| wq <| Wq rfl (cr [] ji) <| Qa (Mi rfl) <| Qa (Mv v_x0 rfl) <| Qa (Ln sl26 (kB h_x0 hB) rfl) <| Qa (Bl rfl rfl) <| fun jf p8=>anz <| W_cond (b:=decide (s0_4 < (x0.length:Int))) rfl ?_ ?_
 intro q2
 rw [q2] at ho
 refine W_skip <| anz <| wq <| W_block <| W_region rfl <| Wb (Mv v5 rfl) <| Wb (Mi rfl) <| Wb (Mv v_x0 rfl) <| Wb (Mi rfl) <| ?_
 obtain ⟨e18,hx19e,ho⟩:=bs ho
 have hx19:=idx_some hx19e
 refine Wa p8 (Ix sl26 (kB h_x0 hB) hx19 rfl rfl rfl) <| ?_
 obtain ⟨u20,fu21,hu22,kh,hs24⟩:=one_get rfl h_x0 hx19.1 hx19.2
 refine Wa p8 (Ld na23 (hB.cell0 hu22) rfl) <| ?_
 obtain ⟨y25,jj,ho⟩:=bs ho
 refine WL.call rfl (op_callF Tryz.func102 rfl rfl) (laws_toInt64SS_calls (kp _ kh (hB.trans p8)) jj) <| ?_
 rintro _ qd ⟨v29,nt,rfl,pi,p7⟩
 refine ⟨_,rfl,?_⟩
 have ki:=dl (ofr p7) (sl _ (kp _ o9.1 p8))
 replace p7:=OE.low (G:=[]) p7 (hB.trans p8).size
 have jk:=p8.trans pi
 replace o9:=ko o9 jk
 replace hB:=(hB.trans jk)
 obtain ⟨e34,hx35e,ho⟩:=bs ho
 have hx35:=idx_some hx35e
 refine Wb (Ix sl26 ((Le.own (Le.own (Le.own (Le.refl _) 2) 22) 23).le o9.1) hx35 rfl rfl rfl) <| WL.storeOwn (z':=y25) _ _ rfl info23 sz23 o9 hx35.2 rfl rfl p7.1 p7.2.1 p7.2.2 ki fun kj nu kk kl hs40=>?_
 replace hB:=hB.then kk o9.2.2
 refine inBlk_n <| anz <| Wq rfl (cr [] kj) <| Qa (Mi rfl) <| Qa (Ba rfl rfl) <| Qa (Ai rfl) <| fun p0k jl=>?_
 cases ho
 exact ⟨_,(hB.trans jl),(ko kl jl),fe rfl⟩
 intro q2
 rw [q2] at ho
 refine W_exit <| andThen_x <| ?_
 cases ho
 exact ⟨rfl,⟨_,(hB.trans p8),(ko o9 p8),fe rfl⟩⟩
 rintro ⟨s0_4,s0_o9⟩ _ jy ⟨qw,hB,o9,F,rfl⟩ ho
 dsimp only at ho
 refine anz <| wq <| Wq rfl (cr [] jy) <| Qa (Mv v5 rfl) <| Qa (Av v5 rfl) <| fun nv q3=>anz <| ?_
 cases ho
 exact W_ret ⟨_,res_1 Tryz.results72,_,_,rfl,(hB.trans q3),(ko o9 q3)⟩

abbrev laws_toTopology_post (w:World) (x:(MTopology)) (e:Ending) (w':World):Prop:=∃ (v0:Value) (f0:List Nat) (v1:Value) (f1:List Nat) (v2:Value) (f2:List Nat) (v3:Value) (f3:List Nat) (v4:Value) (f4:List Nat),e = .returned (.agg #[.int .i64 x.Shape.Objects,v0,v1,v2,v3,v4])∧Chg [] w w'∧OE [] w.heap.size w' (sOwn 2 (sInt .i64)) [v0] x.Shape.From f0∧OE [] w.heap.size w' (sOwn 2 (sInt .i64)) [v1] x.Shape.To f1∧OE [] w.heap.size w' (sOwn 2 (sInt .i64)) [v2] x.Shape.Identity f2∧OE [] w.heap.size w' (sOwn 22 (sOwn 2 (sInt .i64))) [v3] x.Shape.Composites f3∧OE [] w.heap.size w' (sOwn 23 (sOwn 22 (sOwn 2 (sInt .i64)))) [v4] x.Covers f4∧Dis f0 f1∧Dis f0 f2∧Dis f0 f3∧Dis f0 f4∧Dis f1 f2∧Dis f1 f3∧Dis f1 f4∧Dis f2 f3∧Dis f2 f4∧Dis f3 f4
abbrev laws_toTopology_T (w:World):=Tm Tryz.prog Tryz.f17 13 (laws_toTopology_post w)
theorem laws_toTopology_calls {w:World} {x0:MTopology} {zk:Value} {zo:List Nat} {zl:Value} {zp:List Nat} {zm:Value} {zq:List Nat} {zn:Value} {zr:List Nat} {ze:Value} {z8:List Nat} (zu:(sImm (sInt .i64)).rep w.heap [zk] x0.Shape.From zo) (zv:(sImm (sInt .i64)).rep w.heap [zl] x0.Shape.To zp) (zw:(sImm (sInt .i64)).rep w.heap [zm] x0.Shape.Identity zq) (zx:(sImm (sImm (sInt .i64))).rep w.heap [zn] x0.Shape.Composites zr) (zj:(sImm (sImm (sImm (sInt .i64)))).rep w.heap [ze] x0.Covers z8) {y:(MTopology)} (hm:laws_toTopology x0=some y) :
  Calls Tryz.prog 17 #[.agg #[.int .i64 (x0.Shape.Objects),zk,zl,zm,zn,ze]] w (laws_toTopology_post w y):=by
 refine Cm (S:=Unit) Tryz.func17 rfl Tryz.ntmps17 rfl hm fun o ho hB=>?_
 clear hm
 refine wq <| W_region rfl <| WL.box fun b1 wd2 hC3 hr4 hl5=>?_
 replace hr4:Row wd2 b1 [.int .i64 (x0.Shape.Objects),zk,zl,zm,zn,ze] 28:=hr4
 replace hB:=(hB.trans hC3)
 refine WL.alloc info34 zr34 fun b8 wd9 qn p2 km=>?_
 replace p2:Row wd9 b8 [.int .i64 ((0:Int)),.slice none 0 0,.slice none 0 0,.slice none 0 0,.slice none 0 0,.slice none 0 0] 34:=p2
 have kn:w.heap.size≤b8:=Nat.le_trans hB.size km
 replace hr4:=kr hr4 qn
 replace hB:=(hB.trans qn)
 refine anz <| wq <| W_region rfl <| WL.alloc info34 zr34 fun py jm q4 pw qx=>?_
 replace pw:Row jm py [.int .i64 ((0:Int)),.slice none 0 0,.slice none 0 0,.slice none 0 0,.slice none 0 0,.slice none 0 0] 34:=pw
 have qo:w.heap.size≤py:=Nat.le_trans hB.size qx
 have qp:=dl (onw qx) (one_lt (Row.lt hr4))
 have qb:=dl (onw qx) (one_lt (Row.lt p2))
 replace hr4:=kr hr4 q4
 replace p2:=kr p2 q4
 replace hB:=(hB.trans q4)
 refine anz <| wq <| W_region rfl <| Wb (Fr fa28_0 rfl) <| ?_
 refine WL.val (v:=.agg #[.int .i64 (x0.Shape.Objects),zk,zl,zm,zn]) rfl (op_loadAgg (cs:=[.int .i64 (x0.Shape.Objects),zk,zl,zm,zn]) Tryz.underlying25 rfl info25 (by rw [sz25]; rfl) rfl (At.sub hr4.at 0 5)) ?_
 obtain ⟨y25,jj,ho⟩:=bs ho
 refine WL.call rfl (op_callF Tryz.func39 rfl rfl) (laws_toCategory_calls (kp _ zu hB) (kp _ zv hB) (kp _ zw hB) (kp _ zx hB) jj) <| ?_
 rintro _ qd ⟨v29,nt,v32,f33,v35,f36,v38,nu,rfl,pi,p7,po,pp,pq,d41,d42,d43,d44,d45,d46⟩
 refine ⟨_,rfl,?_⟩
 have d48:=dl (ofr p7) (one_lt (Row.lt p2))
 have g0:=dl (ofr p7) (one_lt (Row.lt pw))
 replace p7:=OE.low (G:=[]) p7 hB.size
 have d51:=dl (ofr po) (one_lt (Row.lt p2))
 have k1:=dl (ofr po) (one_lt (Row.lt pw))
 replace po:=OE.low (G:=[]) po hB.size
 have jn:=dl (ofr pp) (one_lt (Row.lt p2))
 have g1:=dl (ofr pp) (one_lt (Row.lt pw))
 replace pp:=OE.low (G:=[]) pp hB.size
 have d57:=dl (ofr pq) (one_lt (Row.lt p2))
 have g2:=dl (ofr pq) (one_lt (Row.lt pw))
 replace pq:=OE.low (G:=[]) pq hB.size
 replace hr4:=kr hr4 pi
 replace p2:=kr p2 pi
 replace pw:=kr pw pi
 replace hB:=(hB.trans pi)
 refine Wb (Fr fa34_0 rfl) <| WL.storeSeg (us:=[.int .i64 (y25.Objects),v29,v32,v35,v38]) (off:=0) info32 (by rw [sz32]; rfl) pw (Nat.le_of_ble_eq_true rfl) rfl rfl (by intro u hu; simp only [List.mem_cons,List.mem_nil_iff,or_false] at hu; rcases hu with rfl | rfl | rfl | rfl | rfl <;> first | exact rfl | exact (STy.one _ p7.1 _ (ms rfl)) | exact (STy.one _ po.1 _ (ms rfl)) | exact (STy.one _ pp.1 _ (ms rfl)) | exact (STy.one _ pq.1 _ (ms rfl))) fun p19 qz qi=>?_
 replace qi:Row p19 py [.int .i64 (y25.Objects),v29,v32,v35,v38,.slice none 0 0] 34:=qi
 replace hr4:=Row.keep hr4 qz ((qp).symm _ (ms rfl))
 replace p2:=Row.keep p2 qz ((qb).symm _ (ms rfl))
 replace p7:=okp p7 qz g0
 replace po:=okp po qz k1
 replace pp:=okp pp qz g1
 replace pq:=okp pq qz g2
 replace hB:=hB.then qz (one_then qo)
 refine anz <| wq <| W_region rfl <| Wb (Fr fa28_1 rfl) <| Wb (Lr na26 hr4 rfl rfl) <| ?_
 obtain ⟨y64,p1a,ho⟩:=bs ho
 refine WL.call rfl (op_callF Tryz.func72 rfl rfl) (laws_toInt64SSS_calls (kp _ zj hB) p1a) <| ?_
 rintro _ g4 ⟨v68,f69,rfl,qr,pr⟩
 refine ⟨_,rfl,?_⟩
 have d72:=dl (ofr pr) (one_lt (Row.lt p2))
 have d73:=dl (ofr pr) (sl _ p7.1)
 have d74:=dl (ofr pr) (sl _ po.1)
 have d75:=dl (ofr pr) (sl _ pp.1)
 have d76:=dl (ofr pr) (sl _ pq.1)
 have d77:=dl (ofr pr) (one_lt (Row.lt qi))
 replace pr:=OE.low (G:=[]) pr hB.size
 replace hr4:=kr hr4 qr
 replace p2:=kr p2 qr
 replace p7:=ko p7 qr
 replace po:=ko po qr
 replace pp:=ko pp qr
 replace pq:=ko pq qr
 replace qi:=kr qi qr
 replace hB:=(hB.trans qr)
 refine Wb (Fr fa34_1 rfl) <| WL.storeRow (j:=5) info26 sz26 qi (Nat.le_of_ble_eq_true rfl) rfl rfl (STy.one _ pr.1 _ (ms rfl)) fun nz pn jp=>?_
 replace jp:Row nz py [.int .i64 (y25.Objects),v29,v32,v35,v38,v68] 34:=jp
 replace hr4:=Row.keep hr4 pn ((qp).symm _ (ms rfl))
 replace p2:=Row.keep p2 pn ((qb).symm _ (ms rfl))
 replace p7:=okp p7 pn g0
 replace po:=okp po pn k1
 replace pp:=okp pp pn g1
 replace pq:=okp pq pn g2
 replace pr:=okp pr pn d77
 replace hB:=hB.then pn (one_then qo)
 refine anz <| wq <| W_region rfl <| Wb (Lg ag34 jp.at rfl rfl) <| WL.storeAll (us:=[.int .i64 (y25.Objects),v29,v32,v35,v38,v68]) info34 (by rw [sz34]; rfl) p2 rfl rfl rfl (by intro u hu; simp only [List.mem_cons,List.mem_nil_iff,or_false] at hu; rcases hu with rfl | rfl | rfl | rfl | rfl | rfl <;> first | exact rfl | exact (STy.one _ p7.1 _ (ms rfl)) | exact (STy.one _ po.1 _ (ms rfl)) | exact (STy.one _ pp.1 _ (ms rfl)) | exact (STy.one _ pq.1 _ (ms rfl)) | exact (STy.one _ pr.1 _ (ms rfl))) fun g5 q6 kv=>?_
 replace kv:Row g5 b8 [.int .i64 (y25.Objects),v29,v32,v35,v38,v68] 34:=kv
 replace p7:=okp p7 q6 d48
 replace po:=okp po q6 d51
 replace pp:=okp pp q6 jn
 replace pq:=okp pq q6 d57
 replace pr:=okp pr q6 d72
 replace jp:=Row.keep jp q6 (qb _ (ms rfl))
 replace hB:=hB.then q6 (one_then kn)
 refine anz <| ?_
 cases ho
 exact W_ret ⟨_,res_c Tryz.results17 u34z rfl info34 (by rw [sz34]; rfl) rfl kv.at,_,_,_,_,_,_,_,_,_,_,rfl,hB,p7,po,pp,pq,pr,(d41),(d42),(d43),((d73).symm),(d44),(d45),((d74).symm),(d46),((d75).symm),((d76).symm)⟩

abbrev spec_l01In_post (w:World) (x:(Bool)) (e:Ending) (w':World):Prop:=e = .returned (.bool x)∧Chg [] w w'
abbrev spec_l01In_T (w:World):=Tm Tryz.prog Tryz.f217 15 (spec_l01In_post w)
theorem spec_l01In_calls {w:World} {x0:Int} {x1:Int} {x2:Int}  {y:(Bool)} (hm:spec_l01In x0 x1 x2=some y) :
  Calls Tryz.prog 217 #[.int .i64 (x0),.int .i64 (x1),.int .i64 (x2)] w (spec_l01In_post w y):=by
 refine Cm (S:=Unit) Tryz.func217 rfl Tryz.ntmps217 rfl hm fun o ho hB=>?_
 clear hm
 refine wq <| Wq rfl (cr [] w) <| Qa (Ab rfl) <| fun wd1 hC2=>anz <| wq <| Wq rfl hC2 <| ?_
 obtain ⟨g3,hm4,ho⟩:=bs ho
 refine QL.meet (fun r=>∃ F,r=updL F [(6,.bool (g3))]) ?_ ?_
 skip
 refine Qa (Mi rfl) <| Qa (Mi rfl) <| Qa (Bh rfl rfl) <| Qa (Mb rfl) <| ?_
 rcases Bool.eq_false_or_eq_true (decide (x0 ≥ x1)) with hb5 | hb5
 rw [hb5] at hm4
 refine Qg rfl hb5 (Mi rfl) <| Qg rfl hb5 (Mi rfl) <| Qg rfl hb5 (Bk rfl rfl) <| Qa (PTb rfl hb5 rfl) <| Qa (Ab rfl) <| ?_
 cases hm4
 exact fe rfl
 rw [hb5] at hm4
 refine Sk rfl hb5 rfl <| Sk rfl hb5 rfl <| Sk rfl hb5 rfl <| Qa (PFb rfl hb5 rfl) <| Qa (Ab rfl) <| ?_
 cases hm4
 exact fe rfl
 rintro _ ⟨F,rfl⟩
 refine fun wd6 hC7=>anz <| ?_
 cases ho
 exact W_ret ⟨_,res_1 Tryz.results217,rfl,(hB.trans hC7)⟩

abbrev spec_l01Map_post (w:World) (x:(Bool)) (e:Ending) (w':World):Prop:=e = .returned (.bool x)∧Chg [] w w'
abbrev spec_l01Map_T (w:World):=Tm Tryz.prog Tryz.f140 25 (spec_l01Map_post w)
theorem spec_l01Map_calls {w:World} {x0:Int} {x1:(List Int)} {v_x1:Value} {f_x1:List Nat} (h_x1:(sImm (sInt .i64)).rep w.heap [v_x1] x1 f_x1) {y:(Bool)} (hm:spec_l01Map x0 x1=some y) :
  Calls Tryz.prog 140 #[.int .i64 (x0),v_x1] w (spec_l01Map_post w y):=by
 refine Cm (S:=Unit) Tryz.func140 rfl Tryz.ntmps140 rfl hm fun o ho hB=>?_
 clear hm
 refine wq <| Wq rfl (cr [] w) <| Qa (Ab rfl) <| fun wd1 hC2=>anz <| wq <| wq <| Wq rfl hC2 <| Qa (Ai rfl) <| fun wd3 hC4=>anz <| Wf (S1:=Int) (fun (s0_5:Int) r w'=>Chg [] w w'∧∃ F,r=updL F [(0,.int .i64 (x0)),(1,v_x1),(5,.int .i64 (s0_5))]) (spec_l01Map_T w) ho ⟨(hB.trans hC4),fe rfl⟩ ?_ ?_
 rintro s0_5 _ wd5 ⟨hB,F,rfl⟩ o ho
 replace ho:spec_l01Map_L0 x0 x1 s0_5=some o:=ho
 unfold spec_l01Map_L0 at ho
 refine wq <| wq <| Wq rfl (cr [] wd5) <| Qa (Mi rfl) <| Qa (Mv v_x1 rfl) <| Qa (Ln sl22 (kB h_x1 hB) rfl) <| Qa (Bl rfl rfl) <| fun wd6 hC7=>anz <| W_cond (b:=decide (s0_5 < (x1.length:Int))) rfl ?_ ?_
 intro hb8
 rw [hb8] at ho
 refine W_skip <| anz <| wq <| W_block <| wq <| Wq rfl hC7 <| ?_
 obtain ⟨g9,hm10,ho⟩:=bs ho
 refine QL.meet (fun r=>∃ F,r=updL F [(0,.int .i64 (x0)),(1,v_x1),(5,.int .i64 (s0_5)),(24,.bool (g9))]) ?_ ?_
 skip
 refine Qa (Mv v_x1 rfl) <| Qa (Mi rfl) <| ?_
 obtain ⟨e11,hx12e,hm10⟩:=bs hm10
 have hx12:=idx_some hx12e
 refine Qa (Ix sl22 (kB h_x1 hB) hx12 rfl rfl rfl) <| Qa (Ei na2 (kB h_x1 hB) hx12 rfl) <| Qa (Bl rfl rfl) <| Qa (Mb rfl) <| ?_
 rcases Bool.eq_false_or_eq_true (decide (e11 < (0:Int))) with pe | pe
 rw [pe] at hm10
 refine Sk rfl pe rfl <| Sk rfl pe rfl <| Sk rfl pe rfl <| Sk rfl pe rfl <| Sk rfl pe rfl <| Sk rfl pe rfl <| Qa (PTb rfl pe rfl) <| ?_
 cases hm10
 exact fe rfl
 rw [pe] at hm10
 refine Qg rfl pe (Mv v_x1 rfl) <| Qg rfl pe (Mi rfl) <| ?_
 obtain ⟨e14,hx15e,hm10⟩:=bs hm10
 have hx15:=idx_some hx15e
 refine Qg rfl pe (Ix sl22 (kB h_x1 hB) hx15 rfl rfl rfl) <| Qg rfl pe (Ei na2 (kB h_x1 hB) hx15 rfl) <| Qg rfl pe (Mi rfl) <| Qg rfl pe (Bh rfl rfl) <| Qa (PFb rfl pe rfl) <| ?_
 cases hm10
 exact fe rfl
 rintro _ ⟨F,rfl⟩
 refine fun k2 q7=>anz <| W_cond (b:=g9) rfl ?_ ?_
 intro pa
 rw [pa] at ho
 refine wq <| Wq rfl q7 <| Qa (Ab rfl) <| fun ju qf=>anz <| ?_
 cases ho
 exact W_ret ⟨_,res_1 Tryz.results140,rfl,(hB.trans qf)⟩
 intro pa
 rw [pa] at ho
 refine W_skip <| inBlk_n <| anz <| Wq rfl q7 <| Qa (Mi rfl) <| Qa (Ba rfl rfl) <| Qa (Ai rfl) <| fun qa pg=>?_
 cases ho
 exact ⟨(hB.trans pg),fe rfl⟩
 intro hb8
 rw [hb8] at ho
 refine W_exit <| andThen_x <| ?_
 cases ho
 exact ⟨rfl,⟨(hB.trans hC7),fe rfl⟩⟩
 rintro s0_5 _ jq ⟨hB,F,rfl⟩ ho
 refine anz <| wq <| Wq rfl (cr [] jq) <| Qa (Ab rfl) <| fun kc qm=>anz <| ?_
 cases ho
 exact W_ret ⟨_,res_1 Tryz.results140,rfl,(hB.trans qm)⟩

abbrev spec_l02Ends_post (w:World) (x:(Bool)) (e:Ending) (w':World):Prop:=e = .returned (.bool x)∧Chg [] w w'
abbrev spec_l02Ends_T (w:World):=Tm Tryz.prog Tryz.f218 16 (spec_l02Ends_post w)
theorem spec_l02Ends_calls {w:World} {x0:(List Int)} {v_x0:Value} {f_x0:List Nat} {x1:Int} {x2:Int} (h_x0:(sImm (sInt .i64)).rep w.heap [v_x0] x0 f_x0) {y:(Bool)} (hm:spec_l02Ends x0 x1 x2=some y) :
  Calls Tryz.prog 218 #[v_x0,.int .i64 (x1),.int .i64 (x2)] w (spec_l02Ends_post w y):=by
 refine Cm (S:=Unit) Tryz.func218 rfl Tryz.ntmps218 rfl hm fun o ho hB=>?_
 clear hm
 refine wq <| Wq rfl (cr [] w) <| Qa (Ab rfl) <| fun wd1 hC2=>anz <| wq <| Wq rfl hC2 <| ?_
 obtain ⟨g3,hm4,ho⟩:=bs ho
 refine QL.meet (fun r=>∃ F,r=updL F [(6,.bool (g3))]) ?_ ?_
 skip
 refine Qa (Mv v_x0 rfl) <| Qa (Ln sl22 (kB h_x0 hB) rfl) <| Qa (Mi rfl) <| Qa (Be rfl rfl) <| Qa (Mb rfl) <| ?_
 rcases Bool.eq_false_or_eq_true (((x0.length:Int)) == x1) with hb5 | hb5
 rw [hb5] at hm4
 refine Qg rfl hb5 (Mi rfl) <| Qg rfl hb5 (Mv v_x0 rfl) <| ?_
 obtain ⟨y6,hy7,hm4⟩:=bs hm4
 refine Qcg rfl hb5 Tryz.func140 rfl rfl (fun _ hC=>spec_l01Map_calls (kp _ h_x0 (hB.trans hC)) hy7) <| Qa (PTb rfl hb5 rfl) <| Qa (Ab rfl) <| ?_
 cases hm4
 exact fe rfl
 rw [hb5] at hm4
 refine Sk rfl hb5 rfl <| Sk rfl hb5 rfl <| Sk rfl hb5 rfl <| Qa (PFb rfl hb5 rfl) <| Qa (Ab rfl) <| ?_
 cases hm4
 exact fe rfl
 rintro _ ⟨F,rfl⟩
 refine fun wd8 hC9=>anz <| ?_
 cases ho
 exact W_ret ⟨_,res_1 Tryz.results218,rfl,(hB.trans hC9)⟩

abbrev spec_IsShape_post (w:World) (x:(Bool)) (e:Ending) (w':World):Prop:=e = .returned (.bool x)∧Chg [] w w'
abbrev spec_IsShape_T (w:World):=Tm Tryz.prog Tryz.f179 159 (spec_IsShape_post w)
theorem spec_IsShape_calls {w:World} {x0:MCategory} {z2:Value} {zf:List Nat} {z1:Value} {zg:List Nat} {z7:Value} {zh:List Nat} {z6:Value} {zi:List Nat} (za:(sImm (sInt .i64)).rep w.heap [z2] x0.From zf) (zb:(sImm (sInt .i64)).rep w.heap [z1] x0.To zg) (zd:(sImm (sInt .i64)).rep w.heap [z7] x0.Identity zh) (zc:(sImm (sImm (sInt .i64))).rep w.heap [z6] x0.Composites zi) {y:(Bool)} (hm:spec_IsShape x0=some y) :
  Calls Tryz.prog 179 #[.agg #[.int .i64 (x0.Objects),z2,z1,z7,z6]] w (spec_IsShape_post w y):=by
 refine Cm (S:=Unit) Tryz.func179 rfl Tryz.ntmps179 rfl hm fun o ho hB=>?_
 clear hm
 refine wq <| W_region rfl <| WL.box fun b1 wd2 hC3 hr4 hl5=>?_
 replace hr4:Row wd2 b1 [.int .i64 (x0.Objects),z2,z1,z7,z6] 32:=hr4
 replace hB:=(hB.trans hC3)
 refine Wb (Ab rfl) <| anz <| wq <| Wq rfl (cr [] wd2) <| Qa (Fr fa32_1 rfl) <| Qa (Lr na22 hr4 rfl rfl) <| Qa (Ln sl22 (kB za hB) rfl) <| Qa (Ai rfl) <| fun wd8 hC9=>anz <| wq <| wq <| Wq rfl hC9 <| ?_
 obtain ⟨g10,hm11,ho⟩:=bs ho
 refine QL.meet (fun r=>∃ F,r=updL F [(1,.pointer (some (⟨b1,0,none⟩))),(3,.int .i64 ((x0.From.length:Int))),(43,.bool (g10))]) ?_ ?_
 skip
 refine Qa (Fr fa32_0 rfl) <| Qa (Lr na2 hr4 rfl rfl) <| ?_
 obtain ⟨y12,p1h,hm11⟩:=bs hm11
 refine Qc Tryz.func217 rfl rfl (fun _ hC=>spec_l01In_calls  p1h) <| Qa (Nt rfl) <| Qa (Mb rfl) <| ?_
 rcases Bool.eq_false_or_eq_true (!(y12)) with pl | pl
 rw [pl] at hm11
 refine Sk rfl pl rfl <| Sk rfl pl rfl <| Qa (PTb rfl pl rfl) <| Qa (Mb rfl) <| Sk rfl rfl rfl <| Sk rfl rfl rfl <| Sk rfl rfl rfl <| Sk rfl rfl rfl <| Sk rfl rfl rfl <| Sk rfl rfl rfl <| Sk rfl rfl rfl <| Qa (PTb rfl rfl rfl) <| Qa (Mb rfl) <| Sk rfl rfl rfl <| Sk rfl rfl rfl <| Sk rfl rfl rfl <| ?_
 refine Sk rfl rfl rfl <| Sk rfl rfl rfl <| Sk rfl rfl rfl <| Sk rfl rfl rfl <| Qa (PTb rfl rfl rfl) <| Qa (Mb rfl) <| Sk rfl rfl rfl <| Sk rfl rfl rfl <| Sk rfl rfl rfl <| Sk rfl rfl rfl <| Sk rfl rfl rfl <| Qa (PTb rfl rfl rfl) <| ?_
 cases hm11
 exact fe rfl
 rw [pl] at hm11
 refine Qg rfl pl (Mi rfl) <| Qg rfl pl (Bg rfl rfl) <| Qa (PFb rfl pl rfl) <| Qa (Mb rfl) <| ?_
 rcases Bool.eq_false_or_eq_true (decide ((x0.From.length:Int) > (40:Int))) with p6 | p6
 rw [p6] at hm11
 refine Sk rfl p6 rfl <| Sk rfl p6 rfl <| Sk rfl p6 rfl <| Sk rfl p6 rfl <| Sk rfl p6 rfl <| Sk rfl p6 rfl <| Sk rfl p6 rfl <| Qa (PTb rfl p6 rfl) <| Qa (Mb rfl) <| Sk rfl rfl rfl <| Sk rfl rfl rfl <| Sk rfl rfl rfl <| Sk rfl rfl rfl <| Sk rfl rfl rfl <| Sk rfl rfl rfl <| Sk rfl rfl rfl <| ?_
 refine Qa (PTb rfl rfl rfl) <| Qa (Mb rfl) <| Sk rfl rfl rfl <| Sk rfl rfl rfl <| Sk rfl rfl rfl <| Sk rfl rfl rfl <| Sk rfl rfl rfl <| Qa (PTb rfl rfl rfl) <| ?_
 cases hm11
 exact fe rfl
 rw [p6] at hm11
 refine Qg rfl p6 (Fr fa32_1 rfl) <| Qg rfl p6 (Lr na22 hr4 rfl rfl) <| Qg rfl p6 (Mi rfl) <| Qg rfl p6 (Fr fa32_0 rfl) <| Qg rfl p6 (Lr na2 hr4 rfl rfl) <| ?_
 obtain ⟨y16,kw,hm11⟩:=bs hm11
 refine Qcg rfl p6 Tryz.func218 rfl rfl (fun _ hC=>spec_l02Ends_calls (kp _ za (hB.trans hC)) kw) <| Qg rfl p6 (Nt rfl) <| Qa (PFb rfl p6 rfl) <| Qa (Mb rfl) <| ?_
 rcases Bool.eq_false_or_eq_true (!(y16)) with pa | pa
 rw [pa] at hm11
 refine Sk rfl pa rfl <| Sk rfl pa rfl <| Sk rfl pa rfl <| Sk rfl pa rfl <| Sk rfl pa rfl <| Sk rfl pa rfl <| Sk rfl pa rfl <| Qa (PTb rfl pa rfl) <| Qa (Mb rfl) <| Sk rfl rfl rfl <| Sk rfl rfl rfl <| Sk rfl rfl rfl <| Sk rfl rfl rfl <| Sk rfl rfl rfl <| Qa (PTb rfl rfl rfl) <| ?_
 cases hm11
 exact fe rfl
 rw [pa] at hm11
 refine Qg rfl pa (Fr fa32_2 rfl) <| Qg rfl pa (Lr na22 hr4 rfl rfl) <| Qg rfl pa (Mi rfl) <| Qg rfl pa (Fr fa32_0 rfl) <| Qg rfl pa (Lr na2 hr4 rfl rfl) <| ?_
 obtain ⟨y19,p1i,hm11⟩:=bs hm11
 refine Qcg rfl pa Tryz.func218 rfl rfl (fun _ hC=>spec_l02Ends_calls (kp _ zb (hB.trans hC)) p1i) <| Qg rfl pa (Nt rfl) <| Qa (PFb rfl pa rfl) <| Qa (Mb rfl) <| ?_
 rcases Bool.eq_false_or_eq_true (!(y19)) with ps | ps
 rw [ps] at hm11
 refine Sk rfl ps rfl <| Sk rfl ps rfl <| Sk rfl ps rfl <| Sk rfl ps rfl <| Sk rfl ps rfl <| Qa (PTb rfl ps rfl) <| ?_
 cases hm11
 exact fe rfl
 rw [ps] at hm11
 refine Qg rfl ps (Fr fa32_4 rfl) <| Qg rfl ps (Lr na23 hr4 rfl rfl) <| Qg rfl ps (Ln sl23 (kB zc hB) rfl) <| Qg rfl ps (Mi rfl) <| Qg rfl ps (Bn rfl rfl) <| Qa (PFb rfl ps rfl) <| ?_
 cases hm11
 exact fe rfl
 rintro _ ⟨F,rfl⟩
 refine fun kx j0=>anz <| W_cond (b:=g10) rfl ?_ ?_
 intro j1
 rw [j1] at ho
 refine wq <| Wq rfl j0 <| Qa (Ab rfl) <| fun q9 pu=>anz <| ?_
 cases ho
 exact W_ret ⟨_,res_1 Tryz.results179,rfl,(hB.trans pu)⟩
 intro j1
 rw [j1] at ho
 refine W_skip <| anz <| wq <| wq <| Wq rfl j0 <| ?_
 obtain ⟨g27,hm28,ho⟩:=bs ho
 refine QL.meet (fun r=>∃ F,r=updL F [(1,.pointer (some (⟨b1,0,none⟩))),(3,.int .i64 ((x0.From.length:Int))),(56,.bool (g27))]) ?_ ?_
 skip
 refine Qa (Fr fa32_3 rfl) <| Qa (Lr na22 hr4 rfl rfl) <| Qa (Ln sl22 (kB zd hB) rfl) <| Qa (Fr fa32_0 rfl) <| Qa (Lr na2 hr4 rfl rfl) <| Qa (Bn rfl rfl) <| Qa (Mb rfl) <| ?_
 rcases Bool.eq_false_or_eq_true (((x0.Identity.length:Int)) != (x0.Objects)) with p9 | p9
 rw [p9] at hm28
 refine Sk rfl p9 rfl <| Sk rfl p9 rfl <| Sk rfl p9 rfl <| Sk rfl p9 rfl <| Sk rfl p9 rfl <| Qa (PTb rfl p9 rfl) <| ?_
 cases hm28
 exact fe rfl
 rw [p9] at hm28
 refine Qg rfl p9 (Mi rfl) <| Qg rfl p9 (Fr fa32_3 rfl) <| Qg rfl p9 (Lr na22 hr4 rfl rfl) <| ?_
 obtain ⟨y30,p1j,hm28⟩:=bs hm28
 refine Qcg rfl p9 Tryz.func140 rfl rfl (fun _ hC=>spec_l01Map_calls (kp _ zd (hB.trans hC)) p1j) <| Qg rfl p9 (Nt rfl) <| Qa (PFb rfl p9 rfl) <| ?_
 cases hm28
 exact fe rfl
 rintro _ ⟨F,rfl⟩
 refine fun np j5=>anz <| W_cond (b:=g27) rfl ?_ ?_
 intro ky
 rw [ky] at ho
 refine wq <| Wq rfl j5 <| Qa (Ab rfl) <| fun ka ql=>anz <| ?_
 cases ho
 exact W_ret ⟨_,res_1 Tryz.results179,rfl,(hB.trans ql)⟩
 intro ky
 rw [ky] at ho
 refine W_skip <| anz <| wq <| wq <| Wq rfl j5 <| Qa (Ai rfl) <| fun ke jv=>anz <| Wf (S1:=Int) (fun (s0_4:Int) r w'=>Chg [] w w'∧Row w' b1 [.int .i64 (x0.Objects),z2,z1,z7,z6] 32∧∃ F,r=updL F [(1,.pointer (some (⟨b1,0,none⟩))),(3,.int .i64 ((x0.From.length:Int))),(4,.int .i64 (s0_4))]) (spec_IsShape_T w) ho ⟨(hB.trans jv),(kr hr4 jv),fe rfl⟩ ?_ ?_
 rintro s0_4 _ nr ⟨hB,hr4,F,rfl⟩ o ho
 replace ho:spec_IsShape_L0 x0 s0_4=some o:=ho
 unfold spec_IsShape_L0 at ho
 refine wq <| wq <| Wq rfl (cr [] nr) <| Qa (Mi rfl) <| Qa (Fr fa32_0 rfl) <| Qa (Lr na2 hr4 rfl rfl) <| Qa (Bl rfl rfl) <| fun k0 qq=>anz <| W_cond (b:=decide (s0_4 < x0.Objects)) rfl ?_ ?_
 intro kz
 rw [kz] at ho
 refine W_skip <| anz <| wq <| W_block <| wq <| Wqd rfl (by kernel_rfl) qq <| ?_
 obtain ⟨g43,hm44,ho⟩:=bs ho
 refine QL.meet (fun r=>∃ F,r=updL F [(1,.pointer (some (⟨b1,0,none⟩))),(3,.int .i64 ((x0.From.length:Int))),(4,.int .i64 (s0_4)),(86,.bool (g43))]) ?_ ?_
 skip
 refine Qa (Fr fa32_1 rfl) <| Qa (Lr na22 hr4 rfl rfl) <| Qa (Fr fa32_3 rfl) <| Qa (Lr na22 hr4 rfl rfl) <| Qa (Mi rfl) <| ?_
 obtain ⟨e45,hx46e,hm44⟩:=bs hm44
 have hx46:=idx_some hx46e
 refine Qa (Ix sl22 (kB zd hB) hx46 rfl rfl rfl) <| Qa (Ei na2 (kB zd hB) hx46 rfl) <| ?_
 obtain ⟨e47,hx48e,hm44⟩:=bs hm44
 have hx48:=idx_some hx48e
 refine Qa (Ix sl22 (kB za hB) hx48 rfl rfl rfl) <| Qa (Ei na2 (kB za hB) hx48 rfl) <| Qa (Mi rfl) <| Qa (Bn rfl rfl) <| Qa (Mb rfl) <| ?_
 rcases Bool.eq_false_or_eq_true (e47 != s0_4) with p1 | p1
 rw [p1] at hm44
 refine Sk rfl p1 rfl <| Sk rfl p1 rfl <| Sk rfl p1 rfl <| Sk rfl p1 rfl <| Sk rfl p1 rfl <| Sk rfl p1 rfl <| Sk rfl p1 rfl <| Sk rfl p1 rfl <| Sk rfl p1 rfl <| Sk rfl p1 rfl <| Sk rfl p1 rfl <| Qa (PTb rfl p1 rfl) <| ?_
 cases hm44
 exact fe rfl
 rw [p1] at hm44
 refine Qg rfl p1 (Fr fa32_2 rfl) <| Qg rfl p1 (Lr na22 hr4 rfl rfl) <| Qg rfl p1 (Fr fa32_3 rfl) <| Qg rfl p1 (Lr na22 hr4 rfl rfl) <| Qg rfl p1 (Mi rfl) <| ?_
 obtain ⟨e50,hx51e,hm44⟩:=bs hm44
 have hx51:=idx_some hx51e
 refine Qg rfl p1 (Ix sl22 (kB zd hB) hx51 rfl rfl rfl) <| Qg rfl p1 (Ei na2 (kB zd hB) hx51 rfl) <| ?_
 obtain ⟨e52,hx53e,hm44⟩:=bs hm44
 have hx53:=idx_some hx53e
 refine Qg rfl p1 (Ix sl22 (kB zb hB) hx53 rfl rfl rfl) <| Qg rfl p1 (Ei na2 (kB zb hB) hx53 rfl) <| Qg rfl p1 (Mi rfl) <| Qg rfl p1 (Bn rfl rfl) <| Qa (PFb rfl p1 rfl) <| ?_
 cases hm44
 exact fe rfl
 rintro _ ⟨F,rfl⟩
 refine fun g7 ga=>anz <| W_cond (b:=g43) rfl ?_ ?_
 intro p3
 rw [p3] at ho
 refine wq <| Wq rfl ga <| Qa (Ab rfl) <| fun p2v p1k=>anz <| ?_
 cases ho
 exact W_ret ⟨_,res_1 Tryz.results179,rfl,(hB.trans p1k)⟩
 intro p3
 rw [p3] at ho
 refine W_skip <| inBlk_n <| anz <| Wq rfl ga <| Qa (Mi rfl) <| Qa (Ba rfl rfl) <| Qa (Ai rfl) <| fun gb j2=>?_
 cases ho
 exact ⟨(hB.trans j2),(kr hr4 j2),fe rfl⟩
 intro kz
 rw [kz] at ho
 refine W_exit <| andThen_x <| ?_
 cases ho
 exact ⟨rfl,⟨(hB.trans qq),(kr hr4 qq),fe rfl⟩⟩
 rintro s0_4 _ k3 ⟨hB,hr4,F,rfl⟩ ho
 refine anz <| wq <| wq <| Wq rfl (cr [] k3) <| Qa (Ai rfl) <| fun nx px=>anz <| Wf (S1:=Int) (fun (s1_5:Int) r w'=>Chg [] w w'∧Row w' b1 [.int .i64 (x0.Objects),z2,z1,z7,z6] 32∧∃ F,r=updL F [(1,.pointer (some (⟨b1,0,none⟩))),(3,.int .i64 ((x0.From.length:Int))),(5,.int .i64 (s1_5))]) (spec_IsShape_T w) ho ⟨(hB.trans px),(kr hr4 px),fe rfl⟩ ?_ ?_
 rintro s1_5 _ gc ⟨hB,hr4,F,rfl⟩ o ho
 replace ho:spec_IsShape_L1 x0 s1_5=some o:=ho
 unfold spec_IsShape_L1 at ho
 refine wq <| wq <| Wq rfl (cr [] gc) <| Qa (Mi rfl) <| Qa (Mi rfl) <| Qa (Bl rfl rfl) <| fun p2w n0=>anz <| W_cond (b:=decide (s1_5 < (x0.From.length:Int))) rfl ?_ ?_
 intro n1
 rw [n1] at ho
 refine W_skip <| anz <| wq <| W_block <| wq <| wq <| Wq rfl n0 <| Qa (Fr fa32_4 rfl) <| Qa (Lr na23 hr4 rfl rfl) <| Qa (Mi rfl) <| ?_
 obtain ⟨e68,hx69e,ho⟩:=bs ho
 have hx69:=idx_some hx69e
 refine Qa (Ix sl23 (kB zc hB) hx69 rfl rfl rfl) <| ?_
 obtain ⟨u70,fu71,hu72,p1l,hs74⟩:=one_get rfl zc hx69.1 hx69.2
 refine Qa (Ld na22 (hB.cell0 hu72) rfl) <| Qa (Ln sl22 (kB p1l hB) rfl) <| Qa (Mi rfl) <| Qa (Bn rfl rfl) <| fun p2x gd=>anz <| W_cond (b:=((e68.length:Int)) != ((x0.From.length:Int))) rfl ?_ ?_
 intro n2
 rw [n2] at ho
 refine wq <| Wq rfl gd <| Qa (Ab rfl) <| fun p2y p1m=>anz <| ?_
 cases ho
 exact W_ret ⟨_,res_1 Tryz.results179,rfl,(hB.trans p1m)⟩
 intro n2
 rw [n2] at ho
 refine W_skip <| anz <| wq <| Wq rfl gd <| Qa (Ai rfl) <| fun p2z ge=>anz <| Wf (S1:=Int) (fun (s2_6:Int) r w'=>Chg [] w w'∧Row w' b1 [.int .i64 (x0.Objects),z2,z1,z7,z6] 32∧∃ F,r=updL F [(1,.pointer (some (⟨b1,0,none⟩))),(3,.int .i64 ((x0.From.length:Int))),(5,.int .i64 (s1_5)),(6,.int .i64 (s2_6))]) (spec_IsShape_T w) ho ⟨(hB.trans ge),(kr hr4 ge),fe rfl⟩ ?_ ?_
 rintro s2_6 _ p1n ⟨hB,hr4,F,rfl⟩ o ho
 replace ho:spec_IsShape_L2 x0 s1_5 s2_6=some o:=ho
 unfold spec_IsShape_L2 at ho
 refine wq <| wq <| Wq rfl (cr [] p1n) <| Qa (Mi rfl) <| Qa (Mi rfl) <| Qa (Bl rfl rfl) <| fun g5 q6=>anz <| W_cond (b:=decide (s2_6 < (x0.From.length:Int))) rfl ?_ ?_
 intro n4
 rw [n4] at ho
 refine W_skip <| anz <| wq <| W_block <| wq <| Wq rfl q6 <| Qa (Fr fa32_4 rfl) <| Qa (Lr na23 hr4 rfl rfl) <| Qa (Mi rfl) <| ?_
 obtain ⟨e86,hx87e,ho⟩:=bs ho
 have hx87:=idx_some hx87e
 refine Qa (Ix sl23 (kB zc hB) hx87 rfl rfl rfl) <| ?_
 obtain ⟨u88,fu89,hu90,gf,hs92⟩:=one_get rfl zc hx87.1 hx87.2
 refine Qa (Ld na22 (hB.cell0 hu90) rfl) <| Qa (Mi rfl) <| ?_
 obtain ⟨e93,hx94e,ho⟩:=bs ho
 have hx94:=idx_some hx94e
 refine Qa (Ix sl22 (kB gf hB) hx94 rfl rfl rfl) <| Qa (Ei na2 (kB gf hB) hx94 rfl) <| Qa (Ai rfl) <| fun kt q5=>anz <| wq <| wq <| Wqd rfl (by kernel_rfl) q5 <| Qa (Fr fa32_2 rfl) <| Qa (Lr na22 hr4 rfl rfl) <| Qa (Mi rfl) <| ?_
 obtain ⟨e97,hx98e,ho⟩:=bs ho
 have hx98:=idx_some hx98e
 refine Qa (Ix sl22 (kB zb hB) hx98 rfl rfl rfl) <| Qa (Ei na2 (kB zb hB) hx98 rfl) <| Qa (Fr fa32_1 rfl) <| Qa (Lr na22 hr4 rfl rfl) <| Qa (Mi rfl) <| ?_
 obtain ⟨e99,hx100e,ho⟩:=bs ho
 have hx100:=idx_some hx100e
 refine Qa (Ix sl22 (kB za hB) hx100 rfl rfl rfl) <| Qa (Ei na2 (kB za hB) hx100 rfl) <| Qa (Bn rfl rfl) <| fun p30 gg=>anz <| W_cond (b:=(e97) != (e99)) rfl ?_ ?_
 intro n5
 rw [n5] at ho
 refine wq <| wq <| Wq rfl gg <| Qa (Mi rfl) <| Qa (Bn rfl rfl) <| fun p31 gh=>anz <| W_cond (b:=(e93) != ((-1:Int))) rfl ?_ ?_
 intro n6
 rw [n6] at ho
 refine wq <| Wq rfl gh <| Qa (Ab rfl) <| fun p32 p1o=>anz <| ?_
 cases ho
 exact W_ret ⟨_,res_1 Tryz.results179,rfl,(hB.trans p1o)⟩
 intro n6
 rw [n6] at ho
 refine W_skip <| anz <| W_exit <| andThen_x <| inBlk_x <| anz <| Wq rfl gh <| Qa (Mi rfl) <| Qa (Ba rfl rfl) <| Qa (Ai rfl) <| fun p33 gi=>?_
 cases ho
 exact ⟨(hB.trans gi),(kr hr4 gi),fe rfl⟩
 intro n5
 rw [n5] at ho
 refine W_skip <| anz <| wq <| Wqd rfl (by kernel_rfl) gg <| ?_
 obtain ⟨g111,hm112,ho⟩:=bs ho
 refine QL.meet (fun r=>∃ F,r=updL F [(1,.pointer (some (⟨b1,0,none⟩))),(3,.int .i64 ((x0.From.length:Int))),(5,.int .i64 (s1_5)),(6,.int .i64 (s2_6)),(158,.bool (g111))]) ?_ ?_
 skip
 refine Qa (Mi rfl) <| Qa (Bl rfl rfl) <| Qa (Mb rfl) <| ?_
 rcases Bool.eq_false_or_eq_true (decide (e93 < (0:Int))) with q8 | q8
 rw [q8] at hm112
 refine Sk rfl q8 rfl <| Sk rfl q8 rfl <| Sk rfl q8 rfl <| Qa (PTb rfl q8 rfl) <| Qa (Mb rfl) <| Sk rfl rfl rfl <| Sk rfl rfl rfl <| Sk rfl rfl rfl <| Sk rfl rfl rfl <| Sk rfl rfl rfl <| Sk rfl rfl rfl <| Sk rfl rfl rfl <| Sk rfl rfl rfl <| Sk rfl rfl rfl <| Sk rfl rfl rfl <| Sk rfl rfl rfl <| ?_
 refine Qa (PTb rfl rfl rfl) <| Qa (Mb rfl) <| Sk rfl rfl rfl <| Sk rfl rfl rfl <| Sk rfl rfl rfl <| Sk rfl rfl rfl <| Sk rfl rfl rfl <| Sk rfl rfl rfl <| Sk rfl rfl rfl <| Sk rfl rfl rfl <| Sk rfl rfl rfl <| Sk rfl rfl rfl <| Sk rfl rfl rfl <| Qa (PTb rfl rfl rfl) <| ?_
 cases hm112
 exact fe rfl
 rw [q8] at hm112
 refine Qg rfl q8 (Mi rfl) <| Qg rfl q8 (Mi rfl) <| Qg rfl q8 (Bh rfl rfl) <| Qa (PFb rfl q8 rfl) <| Qa (Mb rfl) <| ?_
 rcases Bool.eq_false_or_eq_true (decide (e93 ≥ (x0.From.length:Int))) with pb | pb
 rw [pb] at hm112
 refine Sk rfl pb rfl <| Sk rfl pb rfl <| Sk rfl pb rfl <| Sk rfl pb rfl <| Sk rfl pb rfl <| Sk rfl pb rfl <| Sk rfl pb rfl <| Sk rfl pb rfl <| Sk rfl pb rfl <| Sk rfl pb rfl <| Sk rfl pb rfl <| Qa (PTb rfl pb rfl) <| Qa (Mb rfl) <| Sk rfl rfl rfl <| Sk rfl rfl rfl <| Sk rfl rfl rfl <| ?_
 refine Sk rfl rfl rfl <| Sk rfl rfl rfl <| Sk rfl rfl rfl <| Sk rfl rfl rfl <| Sk rfl rfl rfl <| Sk rfl rfl rfl <| Sk rfl rfl rfl <| Sk rfl rfl rfl <| Qa (PTb rfl rfl rfl) <| ?_
 cases hm112
 exact fe rfl
 rw [pb] at hm112
 refine Qg rfl pb (Fr fa32_1 rfl) <| Qg rfl pb (Lr na22 hr4 rfl rfl) <| Qg rfl pb (Mi rfl) <| ?_
 obtain ⟨e115,hx116e,hm112⟩:=bs hm112
 have hx116:=idx_some hx116e
 refine Qg rfl pb (Ix sl22 (kB za hB) hx116 rfl rfl rfl) <| Qg rfl pb (Ei na2 (kB za hB) hx116 rfl) <| Qg rfl pb (Fr fa32_1 rfl) <| Qg rfl pb (Lr na22 hr4 rfl rfl) <| Qg rfl pb (Mi rfl) <| ?_
 obtain ⟨e117,hx118e,hm112⟩:=bs hm112
 have hx118:=idx_some hx118e
 refine Qg rfl pb (Ix sl22 (kB za hB) hx118 rfl rfl rfl) <| Qg rfl pb (Ei na2 (kB za hB) hx118 rfl) <| Qg rfl pb (Bn rfl rfl) <| Qa (PFb rfl pb rfl) <| Qa (Mb rfl) <| ?_
 rcases Bool.eq_false_or_eq_true (e115 != e117) with pc | pc
 rw [pc] at hm112
 refine Sk rfl pc rfl <| Sk rfl pc rfl <| Sk rfl pc rfl <| Sk rfl pc rfl <| Sk rfl pc rfl <| Sk rfl pc rfl <| Sk rfl pc rfl <| Sk rfl pc rfl <| Sk rfl pc rfl <| Sk rfl pc rfl <| Sk rfl pc rfl <| Qa (PTb rfl pc rfl) <| ?_
 cases hm112
 exact fe rfl
 rw [pc] at hm112
 refine Qg rfl pc (Fr fa32_2 rfl) <| Qg rfl pc (Lr na22 hr4 rfl rfl) <| Qg rfl pc (Mi rfl) <| ?_
 obtain ⟨e120,hx121e,hm112⟩:=bs hm112
 have hx121:=idx_some hx121e
 refine Qg rfl pc (Ix sl22 (kB zb hB) hx121 rfl rfl rfl) <| Qg rfl pc (Ei na2 (kB zb hB) hx121 rfl) <| Qg rfl pc (Fr fa32_2 rfl) <| Qg rfl pc (Lr na22 hr4 rfl rfl) <| Qg rfl pc (Mi rfl) <| ?_
 obtain ⟨e122,hx123e,hm112⟩:=bs hm112
 have hx123:=idx_some hx123e
 refine Qg rfl pc (Ix sl22 (kB zb hB) hx123 rfl rfl rfl) <| Qg rfl pc (Ei na2 (kB zb hB) hx123 rfl) <| Qg rfl pc (Bn rfl rfl) <| Qa (PFb rfl pc rfl) <| ?_
 cases hm112
 exact fe rfl
 rintro _ ⟨F,rfl⟩
 refine fun p34 gj=>anz <| W_cond (b:=g111) rfl ?_ ?_
 intro n7
 rw [n7] at ho
 refine wq <| Wq rfl gj <| Qa (Ab rfl) <| fun p35 p1p=>anz <| ?_
 cases ho
 exact W_ret ⟨_,res_1 Tryz.results179,rfl,(hB.trans p1p)⟩
 intro n7
 rw [n7] at ho
 refine W_skip <| inBlk_n <| anz <| Wq rfl gj <| Qa (Mi rfl) <| Qa (Ba rfl rfl) <| Qa (Ai rfl) <| fun p36 gk=>?_
 cases ho
 exact ⟨(hB.trans gk),(kr hr4 gk),fe rfl⟩
 intro n4
 rw [n4] at ho
 refine W_exit <| andThen_x <| ?_
 cases ho
 exact ⟨rfl,⟨(hB.trans q6),(kr hr4 q6),fe rfl⟩⟩
 rintro s2_6 _ gl ⟨hB,hr4,F,rfl⟩ ho
 refine inBlk_n <| anz <| Wq rfl (cr [] gl) <| Qa (Mi rfl) <| Qa (Ba rfl rfl) <| Qa (Ai rfl) <| fun p37 gm=>?_
 cases ho
 exact ⟨(hB.trans gm),(kr hr4 gm),fe rfl⟩
 intro n1
 rw [n1] at ho
 refine W_exit <| andThen_x <| ?_
 cases ho
 exact ⟨rfl,⟨(hB.trans n0),(kr hr4 n0),fe rfl⟩⟩
 rintro s1_5 _ gn ⟨hB,hr4,F,rfl⟩ ho
 refine anz <| wq <| Wq rfl (cr [] gn) <| Qa (Ab rfl) <| fun p38 p1q=>anz <| ?_
 cases ho
 exact W_ret ⟨_,res_1 Tryz.results179,rfl,(hB.trans p1q)⟩

abbrev spec_l02Fault_post (w:World) (x:(Int×Int×Int×Int)) (e:Ending) (w':World):Prop:=e = .returned (.tuple #[.int .i64 x.1,.int .i64 x.2.1,.int .i64 x.2.2.1,.int .i64 x.2.2.2])∧Chg [] w w'
abbrev spec_l02Fault_T (w:World):=Tm Tryz.prog Tryz.f180 131 (spec_l02Fault_post w)
theorem spec_l02Fault_calls {w:World} {x0:MCategory} {z2:Value} {zf:List Nat} {z1:Value} {zg:List Nat} {z7:Value} {zh:List Nat} {z6:Value} {zi:List Nat} (za:(sImm (sInt .i64)).rep w.heap [z2] x0.From zf) (zb:(sImm (sInt .i64)).rep w.heap [z1] x0.To zg) (zd:(sImm (sInt .i64)).rep w.heap [z7] x0.Identity zh) (zc:(sImm (sImm (sInt .i64))).rep w.heap [z6] x0.Composites zi) {y:(Int×Int×Int×Int)} (hm:spec_l02Fault x0=some y) :
  Calls Tryz.prog 180 #[.agg #[.int .i64 (x0.Objects),z2,z1,z7,z6]] w (spec_l02Fault_post w y):=by
 refine Cm (S:=Unit) Tryz.func180 rfl Tryz.ntmps180 rfl hm fun o ho hB=>?_
 clear hm
 refine wq <| W_region rfl <| WL.box fun b1 wd2 hC3 hr4 hl5=>?_
 replace hr4:Row wd2 b1 [.int .i64 (x0.Objects),z2,z1,z7,z6] 32:=hr4
 replace hB:=(hB.trans hC3)
 refine Wb (Ai rfl) <| Wb (Ai rfl) <| Wb (Ai rfl) <| Wb (Ai rfl) <| anz <| wq <| Wq rfl (cr [] wd2) <| Qa (Fr fa32_1 rfl) <| Qa (Lr na22 hr4 rfl rfl) <| Qa (Ln sl22 (kB za hB) rfl) <| Qa (Ai rfl) <| fun wd8 hC9=>anz <| wq <| wq <| Wq rfl hC9 <| ?_
 refine Qa (Ai rfl) <| fun qc ph=>anz <| Wf (S1:=Int) (fun (s0_7:Int) r w'=>Chg [] w w'∧Row w' b1 [.int .i64 (x0.Objects),z2,z1,z7,z6] 32∧∃ F,r=updL F [(1,.pointer (some (⟨b1,0,none⟩))),(6,.int .i64 ((x0.From.length:Int))),(7,.int .i64 (s0_7))]) (spec_l02Fault_T w) ho ⟨(hB.trans ph),(kr hr4 ph),fe rfl⟩ ?_ ?_
 rintro s0_7 _ qs ⟨hB,hr4,F,rfl⟩ o ho
 replace ho:spec_l02Fault_L0 x0 s0_7=some o:=ho
 unfold spec_l02Fault_L0 at ho
 refine wq <| wq <| Wq rfl (cr [] qs) <| Qa (Mi rfl) <| Qa (Mi rfl) <| Qa (Bl rfl rfl) <| fun qt pk=>anz <| W_cond (b:=decide (s0_7 < (x0.From.length:Int))) rfl ?_ ?_
 intro p6
 rw [p6] at ho
 refine W_skip <| anz <| wq <| W_block <| wq <| Wqd rfl (by kernel_rfl) pk <| ?_
 obtain ⟨g16,hm17,ho⟩:=bs ho
 refine QL.meet (fun r=>∃ F,r=updL F [(1,.pointer (some (⟨b1,0,none⟩))),(6,.int .i64 ((x0.From.length:Int))),(7,.int .i64 (s0_7)),(56,.bool (g16))]) ?_ ?_
 skip
 refine Qa (Fr fa32_4 rfl) <| Qa (Lr na23 hr4 rfl rfl) <| Qa (Fr fa32_3 rfl) <| Qa (Lr na22 hr4 rfl rfl) <| Qa (Fr fa32_1 rfl) <| Qa (Lr na22 hr4 rfl rfl) <| Qa (Mi rfl) <| ?_
 obtain ⟨e18,hx19e,hm17⟩:=bs hm17
 have hx19:=idx_some hx19e
 refine Qa (Ix sl22 (kB za hB) hx19 rfl rfl rfl) <| Qa (Ei na2 (kB za hB) hx19 rfl) <| ?_
 obtain ⟨e20,hx21e,hm17⟩:=bs hm17
 have hx21:=idx_some hx21e
 refine Qa (Ix sl22 (kB zd hB) hx21 rfl rfl rfl) <| Qa (Ei na2 (kB zd hB) hx21 rfl) <| ?_
 obtain ⟨e22,hx23e,hm17⟩:=bs hm17
 have hx23:=idx_some hx23e
 refine Qa (Ix sl23 (kB zc hB) hx23 rfl rfl rfl) <| ?_
 obtain ⟨u24,fu25,hu26,qh,hs28⟩:=one_get rfl zc hx23.1 hx23.2
 refine Qa (Ld na22 (hB.cell0 hu26) rfl) <| Qa (Mi rfl) <| ?_
 obtain ⟨e29,hx30e,hm17⟩:=bs hm17
 have hx30:=idx_some hx30e
 refine Qa (Ix sl22 (kB qh hB) hx30 rfl rfl rfl) <| Qa (Ei na2 (kB qh hB) hx30 rfl) <| Qa (Mi rfl) <| Qa (Bn rfl rfl) <| Qa (Mb rfl) <| ?_
 rcases Bool.eq_false_or_eq_true (e29 != s0_7) with p4 | p4
 rw [p4] at hm17
 refine Sk rfl p4 rfl <| Sk rfl p4 rfl <| Sk rfl p4 rfl <| Sk rfl p4 rfl <| Sk rfl p4 rfl <| Sk rfl p4 rfl <| Sk rfl p4 rfl <| Sk rfl p4 rfl <| Sk rfl p4 rfl <| Sk rfl p4 rfl <| Sk rfl p4 rfl <| Sk rfl p4 rfl <| Sk rfl p4 rfl <| Sk rfl p4 rfl <| Sk rfl p4 rfl <| Sk rfl p4 rfl <| ?_
 refine Sk rfl p4 rfl <| Sk rfl p4 rfl <| Qa (PTb rfl p4 rfl) <| ?_
 cases hm17
 exact fe rfl
 rw [p4] at hm17
 refine Qg rfl p4 (Fr fa32_4 rfl) <| Qg rfl p4 (Lr na23 hr4 rfl rfl) <| Qg rfl p4 (Mi rfl) <| ?_
 obtain ⟨e32,hx33e,hm17⟩:=bs hm17
 have hx33:=idx_some hx33e
 refine Qg rfl p4 (Ix sl23 (kB zc hB) hx33 rfl rfl rfl) <| ?_
 obtain ⟨u34,fu35,hu36,go,hs38⟩:=one_get rfl zc hx33.1 hx33.2
 refine Qg rfl p4 (Ld na22 (hB.cell0 hu36) rfl) <| Qg rfl p4 (Fr fa32_3 rfl) <| Qg rfl p4 (Lr na22 hr4 rfl rfl) <| Qg rfl p4 (Fr fa32_2 rfl) <| Qg rfl p4 (Lr na22 hr4 rfl rfl) <| Qg rfl p4 (Mi rfl) <| ?_
 obtain ⟨e39,hx40e,hm17⟩:=bs hm17
 have hx40:=idx_some hx40e
 refine Qg rfl p4 (Ix sl22 (kB zb hB) hx40 rfl rfl rfl) <| Qg rfl p4 (Ei na2 (kB zb hB) hx40 rfl) <| ?_
 obtain ⟨e41,hx42e,hm17⟩:=bs hm17
 have hx42:=idx_some hx42e
 refine Qg rfl p4 (Ix sl22 (kB zd hB) hx42 rfl rfl rfl) <| Qg rfl p4 (Ei na2 (kB zd hB) hx42 rfl) <| ?_
 obtain ⟨e43,hx44e,hm17⟩:=bs hm17
 have hx44:=idx_some hx44e
 refine Qg rfl p4 (Ix sl22 (kB go hB) hx44 rfl rfl rfl) <| Qg rfl p4 (Ei na2 (kB go hB) hx44 rfl) <| Qg rfl p4 (Mi rfl) <| Qg rfl p4 (Bn rfl rfl) <| Qa (PFb rfl p4 rfl) <| ?_
 cases hm17
 exact fe rfl
 rintro _ ⟨F,rfl⟩
 refine fun jy gp=>anz <| W_cond (b:=g16) rfl ?_ ?_
 intro n8
 rw [n8] at ho
 refine wq <| Wq rfl gp <| Qa (Mi rfl) <| Qa (Ai rfl) <| Qa (Ai rfl) <| Qa (Ai rfl) <| Qa (Ai rfl) <| fun p39 p1r=>anz <| ?_
 cases ho
 exact W_ret ⟨_,res_4 Tryz.results180,rfl,(hB.trans p1r)⟩
 intro n8
 rw [n8] at ho
 refine W_skip <| inBlk_n <| anz <| Wq rfl gp <| Qa (Mi rfl) <| Qa (Ba rfl rfl) <| Qa (Ai rfl) <| fun p1s jc=>?_
 cases ho
 exact ⟨(hB.trans jc),(kr hr4 jc),fe rfl⟩
 intro p6
 rw [p6] at ho
 refine W_exit <| andThen_x <| ?_
 cases ho
 exact ⟨rfl,⟨(hB.trans pk),(kr hr4 pk),fe rfl⟩⟩
 rintro s0_7 _ gq ⟨hB,hr4,F,rfl⟩ ho
 refine anz <| wq <| wq <| Wq rfl (cr [] gq) <| Qa (Ai rfl) <| fun p3a gr=>anz <| Wf (S1:=Int) (fun (s1_8:Int) r w'=>Chg [] w w'∧Row w' b1 [.int .i64 (x0.Objects),z2,z1,z7,z6] 32∧∃ F,r=updL F [(1,.pointer (some (⟨b1,0,none⟩))),(6,.int .i64 ((x0.From.length:Int))),(8,.int .i64 (s1_8))]) (spec_l02Fault_T w) ho ⟨(hB.trans gr),(kr hr4 gr),fe rfl⟩ ?_ ?_
 rintro s1_8 _ gs ⟨hB,hr4,F,rfl⟩ o ho
 replace ho:spec_l02Fault_L1 x0 s1_8=some o:=ho
 unfold spec_l02Fault_L1 at ho
 refine wq <| wq <| Wq rfl (cr [] gs) <| Qa (Mi rfl) <| Qa (Mi rfl) <| Qa (Bl rfl rfl) <| fun ks pz=>anz <| W_cond (b:=decide (s1_8 < (x0.From.length:Int))) rfl ?_ ?_
 intro j3
 rw [j3] at ho
 refine W_skip <| anz <| wq <| W_block <| wq <| Wq rfl pz <| Qa (Ai rfl) <| fun gb j2=>anz <| Wf (S1:=Int) (fun (s2_9:Int) r w'=>Chg [] w w'∧Row w' b1 [.int .i64 (x0.Objects),z2,z1,z7,z6] 32∧∃ F,r=updL F [(1,.pointer (some (⟨b1,0,none⟩))),(6,.int .i64 ((x0.From.length:Int))),(8,.int .i64 (s1_8)),(9,.int .i64 (s2_9))]) (spec_l02Fault_T w) ho ⟨(hB.trans j2),(kr hr4 j2),fe rfl⟩ ?_ ?_
 rintro s2_9 _ k3 ⟨hB,hr4,F,rfl⟩ o ho
 replace ho:spec_l02Fault_L2 x0 s1_8 s2_9=some o:=ho
 unfold spec_l02Fault_L2 at ho
 refine wq <| wq <| Wq rfl (cr [] k3) <| Qa (Mi rfl) <| Qa (Mi rfl) <| Qa (Bl rfl rfl) <| fun nx px=>anz <| W_cond (b:=decide (s2_9 < (x0.From.length:Int))) rfl ?_ ?_
 intro n9
 rw [n9] at ho
 refine W_skip <| anz <| wq <| W_block <| wq <| wq <| Wqd rfl (by kernel_rfl) px <| Qa (Fr fa32_2 rfl) <| Qa (Lr na22 hr4 rfl rfl) <| Qa (Mi rfl) <| ?_
 obtain ⟨e65,hx66e,ho⟩:=bs ho
 have hx66:=idx_some hx66e
 refine Qa (Ix sl22 (kB zb hB) hx66 rfl rfl rfl) <| Qa (Ei na2 (kB zb hB) hx66 rfl) <| Qa (Fr fa32_1 rfl) <| Qa (Lr na22 hr4 rfl rfl) <| Qa (Mi rfl) <| ?_
 obtain ⟨e67,hx68e,ho⟩:=bs ho
 have hx68:=idx_some hx68e
 refine Qa (Ix sl22 (kB za hB) hx68 rfl rfl rfl) <| Qa (Ei na2 (kB za hB) hx68 rfl) <| Qa (Bn rfl rfl) <| fun p3b gt=>anz <| W_cond (b:=(e65) != (e67)) rfl ?_ ?_
 intro na
 rw [na] at ho
 refine W_exit <| andThen_x <| inBlk_x <| anz <| Wq rfl gt <| Qa (Mi rfl) <| Qa (Ba rfl rfl) <| Qa (Ai rfl) <| fun p3c gu=>?_
 cases ho
 exact ⟨(hB.trans gu),(kr hr4 gu),fe rfl⟩
 intro na
 rw [na] at ho
 refine W_skip <| anz <| wq <| Wq rfl gt <| Qa (Ai rfl) <| fun p3d gv=>anz <| Wf (S1:=Int) (fun (s3_10:Int) r w'=>Chg [] w w'∧Row w' b1 [.int .i64 (x0.Objects),z2,z1,z7,z6] 32∧∃ F,r=updL F [(1,.pointer (some (⟨b1,0,none⟩))),(6,.int .i64 ((x0.From.length:Int))),(8,.int .i64 (s1_8)),(9,.int .i64 (s2_9)),(10,.int .i64 (s3_10))]) (spec_l02Fault_T w) ho ⟨(hB.trans gv),(kr hr4 gv),fe rfl⟩ ?_ ?_
 rintro s3_10 _ p1t ⟨hB,hr4,F,rfl⟩ o ho
 replace ho:spec_l02Fault_L3 x0 s1_8 s2_9 s3_10=some o:=ho
 unfold spec_l02Fault_L3 at ho
 refine wq <| wq <| Wq rfl (cr [] p1t) <| Qa (Mi rfl) <| Qa (Mi rfl) <| Qa (Bl rfl rfl) <| fun p3e nb=>anz <| W_cond (b:=decide (s3_10 < (x0.From.length:Int))) rfl ?_ ?_
 intro nc
 rw [nc] at ho
 refine W_skip <| anz <| wq <| W_block <| wq <| Wqd rfl (by kernel_rfl) nb <| ?_
 obtain ⟨g80,hm81,ho⟩:=bs ho
 refine QL.meet (fun r=>∃ F,r=updL F [(1,.pointer (some (⟨b1,0,none⟩))),(6,.int .i64 ((x0.From.length:Int))),(8,.int .i64 (s1_8)),(9,.int .i64 (s2_9)),(10,.int .i64 (s3_10)),(127,.bool (g80))]) ?_ ?_
 skip
 refine Qa (Fr fa32_2 rfl) <| Qa (Lr na22 hr4 rfl rfl) <| Qa (Mi rfl) <| ?_
 obtain ⟨e82,hx83e,hm81⟩:=bs hm81
 have hx83:=idx_some hx83e
 refine Qa (Ix sl22 (kB zb hB) hx83 rfl rfl rfl) <| Qa (Ei na2 (kB zb hB) hx83 rfl) <| Qa (Fr fa32_1 rfl) <| Qa (Lr na22 hr4 rfl rfl) <| Qa (Mi rfl) <| ?_
 obtain ⟨e84,hx85e,hm81⟩:=bs hm81
 have hx85:=idx_some hx85e
 refine Qa (Ix sl22 (kB za hB) hx85 rfl rfl rfl) <| Qa (Ei na2 (kB za hB) hx85 rfl) <| Qa (Be rfl rfl) <| Qa (Mb rfl) <| ?_
 rcases Bool.eq_false_or_eq_true (e82 == e84) with p0 | p0
 rw [p0] at hm81
 refine Qg rfl p0 (Fr fa32_4 rfl) <| Qg rfl p0 (Lr na23 hr4 rfl rfl) <| Qg rfl p0 (Fr fa32_4 rfl) <| Qg rfl p0 (Lr na23 hr4 rfl rfl) <| Qg rfl p0 (Mi rfl) <| ?_
 obtain ⟨e87,hx88e,hm81⟩:=bs hm81
 have hx88:=idx_some hx88e
 refine Qg rfl p0 (Ix sl23 (kB zc hB) hx88 rfl rfl rfl) <| ?_
 obtain ⟨u89,fu90,hu91,gw,hs93⟩:=one_get rfl zc hx88.1 hx88.2
 refine Qg rfl p0 (Ld na22 (hB.cell0 hu91) rfl) <| Qg rfl p0 (Mi rfl) <| ?_
 obtain ⟨e94,hx95e,hm81⟩:=bs hm81
 have hx95:=idx_some hx95e
 refine Qg rfl p0 (Ix sl22 (kB gw hB) hx95 rfl rfl rfl) <| Qg rfl p0 (Ei na2 (kB gw hB) hx95 rfl) <| ?_
 obtain ⟨e96,hx97e,hm81⟩:=bs hm81
 have hx97:=idx_some hx97e
 refine Qg rfl p0 (Ix sl23 (kB zc hB) hx97 rfl rfl rfl) <| ?_
 obtain ⟨u98,fu99,hu100,gx,hs102⟩:=one_get rfl zc hx97.1 hx97.2
 refine Qg rfl p0 (Ld na22 (hB.cell0 hu100) rfl) <| Qg rfl p0 (Mi rfl) <| ?_
 obtain ⟨e103,hx104e,hm81⟩:=bs hm81
 have hx104:=idx_some hx104e
 refine Qg rfl p0 (Ix sl22 (kB gx hB) hx104 rfl rfl rfl) <| Qg rfl p0 (Ei na2 (kB gx hB) hx104 rfl) <| Qg rfl p0 (Fr fa32_4 rfl) <| Qg rfl p0 (Lr na23 hr4 rfl rfl) <| Qg rfl p0 (Mi rfl) <| ?_
 obtain ⟨e105,hx106e,hm81⟩:=bs hm81
 have hx106:=idx_some hx106e
 refine Qg rfl p0 (Ix sl23 (kB zc hB) hx106 rfl rfl rfl) <| ?_
 obtain ⟨u107,fu108,hu109,gy,hs111⟩:=one_get rfl zc hx106.1 hx106.2
 refine Qg rfl p0 (Ld na22 (hB.cell0 hu109) rfl) <| Qg rfl p0 (Fr fa32_4 rfl) <| Qg rfl p0 (Lr na23 hr4 rfl rfl) <| Qg rfl p0 (Mi rfl) <| ?_
 obtain ⟨e112,hx113e,hm81⟩:=bs hm81
 have hx113:=idx_some hx113e
 refine Qg rfl p0 (Ix sl23 (kB zc hB) hx113 rfl rfl rfl) <| ?_
 obtain ⟨u114,fu115,hu116,gz,hs118⟩:=one_get rfl zc hx113.1 hx113.2
 refine Qg rfl p0 (Ld na22 (hB.cell0 hu116) rfl) <| Qg rfl p0 (Mi rfl) <| ?_
 obtain ⟨e119,hx120e,hm81⟩:=bs hm81
 have hx120:=idx_some hx120e
 refine Qg rfl p0 (Ix sl22 (kB gz hB) hx120 rfl rfl rfl) <| Qg rfl p0 (Ei na2 (kB gz hB) hx120 rfl) <| ?_
 obtain ⟨e121,hx122e,hm81⟩:=bs hm81
 have hx122:=idx_some hx122e
 refine Qg rfl p0 (Ix sl22 (kB gy hB) hx122 rfl rfl rfl) <| Qg rfl p0 (Ei na2 (kB gy hB) hx122 rfl) <| Qg rfl p0 (Bn rfl rfl) <| Qa (PTb rfl p0 rfl) <| ?_
 cases hm81
 exact fe rfl
 rw [p0] at hm81
 refine Sk rfl p0 rfl <| Sk rfl p0 rfl <| Sk rfl p0 rfl <| Sk rfl p0 rfl <| Sk rfl p0 rfl <| Sk rfl p0 rfl <| Sk rfl p0 rfl <| Sk rfl p0 rfl <| Sk rfl p0 rfl <| Sk rfl p0 rfl <| Sk rfl p0 rfl <| Sk rfl p0 rfl <| Sk rfl p0 rfl <| Sk rfl p0 rfl <| Sk rfl p0 rfl <| Sk rfl p0 rfl <| ?_
 refine Sk rfl p0 rfl <| Sk rfl p0 rfl <| Sk rfl p0 rfl <| Sk rfl p0 rfl <| Sk rfl p0 rfl <| Sk rfl p0 rfl <| Sk rfl p0 rfl <| Sk rfl p0 rfl <| Sk rfl p0 rfl <| Sk rfl p0 rfl <| Sk rfl p0 rfl <| Sk rfl p0 rfl <| Sk rfl p0 rfl <| Sk rfl p0 rfl <| Sk rfl p0 rfl <| Qa (PFb rfl p0 rfl) <| ?_
 cases hm81
 exact fe rfl
 rintro _ ⟨F,rfl⟩
 refine fun p3f p00=>anz <| W_cond (b:=g80) rfl ?_ ?_
 intro nd
 rw [nd] at ho
 refine wq <| Wq rfl p00 <| Qa (Mi rfl) <| Qa (Mi rfl) <| Qa (Mi rfl) <| Qa (Ai rfl) <| Qa (Ai rfl) <| Qa (Ai rfl) <| Qa (Ai rfl) <| fun p3g p1u=>anz <| ?_
 cases ho
 exact W_ret ⟨_,res_4 Tryz.results180,rfl,(hB.trans p1u)⟩
 intro nd
 rw [nd] at ho
 refine W_skip <| inBlk_n <| anz <| Wq rfl p00 <| Qa (Mi rfl) <| Qa (Ba rfl rfl) <| Qa (Ai rfl) <| fun p3h p01=>?_
 cases ho
 exact ⟨(hB.trans p01),(kr hr4 p01),fe rfl⟩
 intro nc
 rw [nc] at ho
 refine W_exit <| andThen_x <| ?_
 cases ho
 exact ⟨rfl,⟨(hB.trans nb),(kr hr4 nb),fe rfl⟩⟩
 rintro s3_10 _ p1v ⟨hB,hr4,F,rfl⟩ ho
 refine inBlk_n <| anz <| Wq rfl (cr [] p1v) <| Qa (Mi rfl) <| Qa (Ba rfl rfl) <| Qa (Ai rfl) <| fun gl p02=>?_
 cases ho
 exact ⟨(hB.trans p02),(kr hr4 p02),fe rfl⟩
 intro n9
 rw [n9] at ho
 refine W_exit <| andThen_x <| ?_
 cases ho
 exact ⟨rfl,⟨(hB.trans px),(kr hr4 px),fe rfl⟩⟩
 rintro s2_9 _ p1w ⟨hB,hr4,F,rfl⟩ ho
 refine inBlk_n <| anz <| Wq rfl (cr [] p1w) <| Qa (Mi rfl) <| Qa (Ba rfl rfl) <| Qa (Ai rfl) <| fun gn p03=>?_
 cases ho
 exact ⟨(hB.trans p03),(kr hr4 p03),fe rfl⟩
 intro j3
 rw [j3] at ho
 refine W_exit <| andThen_x <| ?_
 cases ho
 exact ⟨rfl,⟨(hB.trans pz),(kr hr4 pz),fe rfl⟩⟩
 rintro s1_8 _ p1x ⟨hB,hr4,F,rfl⟩ ho
 refine anz <| wq <| Wq rfl (cr [] p1x) <| Qa (Ai rfl) <| Qa (Ai rfl) <| Qa (Ai rfl) <| Qa (Ai rfl) <| fun p3i p1y=>anz <| ?_
 cases ho
 exact W_ret ⟨_,res_4 Tryz.results180,rfl,(hB.trans p1y)⟩

abbrev spec_l02Is_post (w:World) (x:(Bool)) (e:Ending) (w':World):Prop:=e = .returned (.bool x)∧Chg [] w w'
abbrev spec_l02Is_T (w:World):=Tm Tryz.prog Tryz.f117 19 (spec_l02Is_post w)
theorem spec_l02Is_calls {w:World} {x0:MCategory} {z2:Value} {zf:List Nat} {z1:Value} {zg:List Nat} {z7:Value} {zh:List Nat} {z6:Value} {zi:List Nat} (za:(sImm (sInt .i64)).rep w.heap [z2] x0.From zf) (zb:(sImm (sInt .i64)).rep w.heap [z1] x0.To zg) (zd:(sImm (sInt .i64)).rep w.heap [z7] x0.Identity zh) (zc:(sImm (sImm (sInt .i64))).rep w.heap [z6] x0.Composites zi) {y:(Bool)} (hm:spec_l02Is x0=some y) :
  Calls Tryz.prog 117 #[.agg #[.int .i64 (x0.Objects),z2,z1,z7,z6]] w (spec_l02Is_post w y):=by
 refine Cm (S:=Unit) Tryz.func117 rfl Tryz.ntmps117 rfl hm fun o ho hB=>?_
 clear hm
 refine wq <| W_region rfl <| WL.box fun b1 wd2 hC3 hr4 hl5=>?_
 replace hr4:Row wd2 b1 [.int .i64 (x0.Objects),z2,z1,z7,z6] 32:=hr4
 replace hB:=(hB.trans hC3)
 refine Wb (Ab rfl) <| anz <| wq <| wq <| Wq rfl (cr [] wd2) <| Qa (Lg ag32 hr4.at rfl rfl) <| ?_
 obtain ⟨y8,hy9,ho⟩:=bs ho
 refine Qc Tryz.func179 rfl rfl (fun _ hC=>spec_IsShape_calls (kp _ za (hB.trans hC)) (kp _ zb (hB.trans hC)) (kp _ zd (hB.trans hC)) (kp _ zc (hB.trans hC)) hy9) <| Qa (Nt rfl) <| fun qc ph=>anz <| W_cond (b:=!(y8)) rfl ?_ ?_
 intro p5
 rw [p5] at ho
 refine wq <| Wq rfl ph <| Qa (Ab rfl) <| fun qt pk=>anz <| ?_
 cases ho
 exact W_ret ⟨_,res_1 Tryz.results117,rfl,(hB.trans pk)⟩
 intro p5
 rw [p5] at ho
 refine W_skip <| anz <| wq <| Wq rfl ph <| Qa (Lg ag32 hr4.at rfl rfl) <| ?_
 obtain ⟨y15,p1z,ho⟩:=bs ho
 refine Qc Tryz.func180 rfl rfl (fun _ hC=>spec_l02Fault_calls (kp _ za (hB.trans hC)) (kp _ zb (hB.trans hC)) (kp _ zd (hB.trans hC)) (kp _ zc (hB.trans hC)) p1z) <| Qa (Mt rfl) <| Qa (Exi rfl rfl) <| Qa (Exi rfl rfl) <| Qa (Exi rfl rfl) <| Qa (Exi rfl rfl) <| Qa (Ai rfl) <| Qa (Ai rfl) <| Qa (Ai rfl) <| Qa (Ai rfl) <| fun jm q4=>anz <| wq <| Wq rfl q4 <| Qa (Mi rfl) <| Qa (Be rfl rfl) <| ?_
 refine Qa (Ab rfl) <| fun ju qf=>anz <| ?_
 cases ho
 exact W_ret ⟨_,res_1 Tryz.results117,rfl,(hB.trans qf)⟩

abbrev spec_l02Rises_post (w:World) (x:(Bool)) (e:Ending) (w':World):Prop:=e = .returned (.bool x)∧Chg [] w w'
abbrev spec_l02Rises_T (w:World):=Tm Tryz.prog Tryz.f139 20 (spec_l02Rises_post w)
theorem spec_l02Rises_calls {w:World} {x0:(List Int)} {v_x0:Value} {f_x0:List Nat} (h_x0:(sImm (sInt .i64)).rep w.heap [v_x0] x0 f_x0) {y:(Bool)} (hm:spec_l02Rises x0=some y) :
  Calls Tryz.prog 139 #[v_x0] w (spec_l02Rises_post w y):=by
 refine Cm (S:=Unit) Tryz.func139 rfl Tryz.ntmps139 rfl hm fun o ho hB=>?_
 clear hm
 refine wq <| Wq rfl (cr [] w) <| Qa (Ab rfl) <| fun wd1 hC2=>anz <| wq <| wq <| Wq rfl hC2 <| Qa (Ai rfl) <| fun wd3 hC4=>anz <| Wf (S1:=Int) (fun (s0_3:Int) r w'=>Chg [] w w'∧∃ F,r=updL F [(0,v_x0),(3,.int .i64 (s0_3))]) (spec_l02Rises_T w) ho ⟨(hB.trans hC4),fe rfl⟩ ?_ ?_
 rintro s0_3 _ wd5 ⟨hB,F,rfl⟩ o ho
 replace ho:spec_l02Rises_L0 x0 s0_3=some o:=ho
 unfold spec_l02Rises_L0 at ho
 refine wq <| wq <| Wq rfl (cr [] wd5) <| Qa (Mi rfl) <| Qa (Mv v_x0 rfl) <| Qa (Ln sl22 (kB h_x0 hB) rfl) <| Qa (Bl rfl rfl) <| fun wd6 hC7=>anz <| W_cond (b:=decide (s0_3 < (x0.length:Int))) rfl ?_ ?_
 intro hb8
 rw [hb8] at ho
 refine W_skip <| anz <| wq <| W_block <| wq <| Wqd rfl (by kernel_rfl) hC7 <| Qa (Mv v_x0 rfl) <| Qa (Mi rfl) <| ?_
 obtain ⟨e9,hx10e,ho⟩:=bs ho
 have hx10:=idx_some hx10e
 refine Qa (Ix sl22 (kB h_x0 hB) hx10 rfl rfl rfl) <| Qa (Ei na2 (kB h_x0 hB) hx10 rfl) <| Qa (Mv v_x0 rfl) <| Qa (Mi rfl) <| Qa (Bs rfl rfl) <| ?_
 obtain ⟨e11,hx12e,ho⟩:=bs ho
 have hx12:=idx_some hx12e
 refine Qa (Ix sl22 (kB h_x0 hB) hx12 rfl rfl rfl) <| Qa (Ei na2 (kB h_x0 hB) hx12 rfl) <| Qa (Bk rfl rfl) <| fun qt pk=>anz <| W_cond (b:=decide (e9≤e11)) rfl ?_ ?_
 intro p6
 rw [p6] at ho
 refine wq <| Wq rfl pk <| Qa (Ab rfl) <| fun k2 q7=>anz <| ?_
 cases ho
 exact W_ret ⟨_,res_1 Tryz.results139,rfl,(hB.trans q7)⟩
 intro p6
 rw [p6] at ho
 refine W_skip <| inBlk_n <| anz <| Wq rfl pk <| Qa (Mi rfl) <| Qa (Ba rfl rfl) <| Qa (Ai rfl) <| fun jd q0=>?_
 cases ho
 exact ⟨(hB.trans q0),fe rfl⟩
 intro hb8
 rw [hb8] at ho
 refine W_exit <| andThen_x <| ?_
 cases ho
 exact ⟨rfl,⟨(hB.trans hC7),fe rfl⟩⟩
 rintro s0_3 _ k4 ⟨hB,F,rfl⟩ ho
 refine anz <| wq <| Wq rfl (cr [] k4) <| Qa (Ab rfl) <| fun qa pg=>anz <| ?_
 cases ho
 exact W_ret ⟨_,res_1 Tryz.results139,rfl,(hB.trans pg)⟩

abbrev spec_l02Then_post (w:World) (x:(Int)) (e:Ending) (w':World):Prop:=e = .returned (.int .i64 x)∧Chg [] w w'
abbrev spec_l02Then_T (w:World):=Tm Tryz.prog Tryz.f142 15 (spec_l02Then_post w)
theorem spec_l02Then_calls {w:World} {x0:MCategory} {z2:Value} {zf:List Nat} {z1:Value} {zg:List Nat} {z7:Value} {zh:List Nat} {z6:Value} {zi:List Nat} {x1:Int} {x2:Int} (za:(sImm (sInt .i64)).rep w.heap [z2] x0.From zf) (zb:(sImm (sInt .i64)).rep w.heap [z1] x0.To zg) (zd:(sImm (sInt .i64)).rep w.heap [z7] x0.Identity zh) (zc:(sImm (sImm (sInt .i64))).rep w.heap [z6] x0.Composites zi) {y:(Int)} (hm:spec_l02Then x0 x1 x2=some y) :
  Calls Tryz.prog 142 #[.agg #[.int .i64 (x0.Objects),z2,z1,z7,z6],.int .i64 (x1),.int .i64 (x2)] w (spec_l02Then_post w y):=by
 refine Cm (S:=Unit) Tryz.func142 rfl Tryz.ntmps142 rfl hm fun o ho hB=>?_
 clear hm
 refine wq <| W_region rfl <| WL.box fun b1 wd2 hC3 hr4 hl5=>?_
 replace hr4:Row wd2 b1 [.int .i64 (x0.Objects),z2,z1,z7,z6] 32:=hr4
 replace hB:=(hB.trans hC3)
 refine Wb (Ai rfl) <| anz <| wq <| Wq rfl (cr [] wd2) <| Qa (Fr fa32_4 rfl) <| Qa (Lr na23 hr4 rfl rfl) <| Qa (Mi rfl) <| ?_
 obtain ⟨e8,hx9e,ho⟩:=bs ho
 have hx9:=idx_some hx9e
 refine Qa (Ix sl23 (kB zc hB) hx9 rfl rfl rfl) <| ?_
 obtain ⟨u10,fu11,hu12,p04,hs14⟩:=one_get rfl zc hx9.1 hx9.2
 refine Qa (Ld na22 (hB.cell0 hu12) rfl) <| Qa (Mi rfl) <| ?_
 obtain ⟨e15,hx16e,ho⟩:=bs ho
 have hx16:=idx_some hx16e
 refine Qa (Ix sl22 (kB p04 hB) hx16 rfl rfl rfl) <| Qa (Ei na2 (kB p04 hB) hx16 rfl) <| Qa (Ai rfl) <| fun jm q4=>anz <| ?_
 cases ho
 exact W_ret ⟨_,res_1 Tryz.results142,rfl,(hB.trans q4)⟩

abbrev spec_l01Has_post (w:World) (x:(Bool)) (e:Ending) (w':World):Prop:=e = .returned (.bool x)∧Chg [] w w'
abbrev spec_l01Has_T (w:World):=Tm Tryz.prog Tryz.f141 18 (spec_l01Has_post w)
theorem spec_l01Has_calls {w:World} {x0:(List Int)} {v_x0:Value} {f_x0:List Nat} {x1:Int} (h_x0:(sImm (sInt .i64)).rep w.heap [v_x0] x0 f_x0) {y:(Bool)} (hm:spec_l01Has x0 x1=some y) :
  Calls Tryz.prog 141 #[v_x0,.int .i64 (x1)] w (spec_l01Has_post w y):=by
 refine Cm (S:=Unit) Tryz.func141 rfl Tryz.ntmps141 rfl hm fun o ho hB=>?_
 clear hm
 refine wq <| Wq rfl (cr [] w) <| Qa (Ab rfl) <| fun wd1 hC2=>anz <| wq <| wq <| Wq rfl hC2 <| Qa (Ai rfl) <| fun wd3 hC4=>anz <| Wf (S1:=Int) (fun (s0_5:Int) r w'=>Chg [] w w'∧∃ F,r=updL F [(0,v_x0),(1,.int .i64 (x1)),(5,.int .i64 (s0_5))]) (spec_l01Has_T w) ho ⟨(hB.trans hC4),fe rfl⟩ ?_ ?_
 rintro s0_5 _ wd5 ⟨hB,F,rfl⟩ o ho
 replace ho:spec_l01Has_L0 x0 x1 s0_5=some o:=ho
 unfold spec_l01Has_L0 at ho
 refine wq <| wq <| Wq rfl (cr [] wd5) <| Qa (Mi rfl) <| Qa (Mv v_x0 rfl) <| Qa (Ln sl22 (kB h_x0 hB) rfl) <| Qa (Bl rfl rfl) <| fun wd6 hC7=>anz <| W_cond (b:=decide (s0_5 < (x0.length:Int))) rfl ?_ ?_
 intro hb8
 rw [hb8] at ho
 refine W_skip <| anz <| wq <| W_block <| wq <| Wq rfl hC7 <| Qa (Mv v_x0 rfl) <| Qa (Mi rfl) <| ?_
 obtain ⟨e9,hx10e,ho⟩:=bs ho
 have hx10:=idx_some hx10e
 refine Qa (Ix sl22 (kB h_x0 hB) hx10 rfl rfl rfl) <| Qa (Ei na2 (kB h_x0 hB) hx10 rfl) <| Qa (Mi rfl) <| Qa (Be rfl rfl) <| fun jx pm=>anz <| W_cond (b:=(e9) == (x1)) rfl ?_ ?_
 intro pe
 rw [pe] at ho
 refine wq <| Wq rfl pm <| Qa (Ab rfl) <| fun ji qg=>anz <| ?_
 cases ho
 exact W_ret ⟨_,res_1 Tryz.results141,rfl,(hB.trans qg)⟩
 intro pe
 rw [pe] at ho
 refine W_skip <| inBlk_n <| anz <| Wq rfl pm <| Qa (Mi rfl) <| Qa (Ba rfl rfl) <| Qa (Ai rfl) <| fun k2 q7=>?_
 cases ho
 exact ⟨(hB.trans q7),fe rfl⟩
 intro hb8
 rw [hb8] at ho
 refine W_exit <| andThen_x <| ?_
 cases ho
 exact ⟨rfl,⟨(hB.trans hC7),fe rfl⟩⟩
 rintro s0_5 _ jd ⟨hB,F,rfl⟩ ho
 refine anz <| wq <| Wq rfl (cr [] jd) <| Qa (Ab rfl) <| fun ju qf=>anz <| ?_
 cases ho
 exact W_ret ⟨_,res_1 Tryz.results141,rfl,(hB.trans qf)⟩

abbrev spec_l25Sieve_post (w:World) (x:(Bool)) (e:Ending) (w':World):Prop:=e = .returned (.bool x)∧Chg [] w w'
abbrev spec_l25Sieve_T (w:World):=Tm Tryz.prog Tryz.f77 69 (spec_l25Sieve_post w)
theorem spec_l25Sieve_calls {w:World} {x0:MCategory} {z2:Value} {zf:List Nat} {z1:Value} {zg:List Nat} {z7:Value} {zh:List Nat} {z6:Value} {zi:List Nat} {x1:Int} {x2:(List Int)} {v_x2:Value} {f_x2:List Nat} (za:(sImm (sInt .i64)).rep w.heap [z2] x0.From zf) (zb:(sImm (sInt .i64)).rep w.heap [z1] x0.To zg) (zd:(sImm (sInt .i64)).rep w.heap [z7] x0.Identity zh) (zc:(sImm (sImm (sInt .i64))).rep w.heap [z6] x0.Composites zi) (h_x2:(sImm (sInt .i64)).rep w.heap [v_x2] x2 f_x2) {y:(Bool)} (hm:spec_l25Sieve x0 x1 x2=some y) :
  Calls Tryz.prog 77 #[.agg #[.int .i64 (x0.Objects),z2,z1,z7,z6],.int .i64 (x1),v_x2] w (spec_l25Sieve_post w y):=by
 refine Cm (S:=Unit) Tryz.func77 rfl Tryz.ntmps77 rfl hm fun o ho hB=>?_
 clear hm
 refine wq <| W_region rfl <| WL.box fun b1 wd2 hC3 hr4 hl5=>?_
 replace hr4:Row wd2 b1 [.int .i64 (x0.Objects),z2,z1,z7,z6] 32:=hr4
 replace hB:=(hB.trans hC3)
 refine Wb (Ab rfl) <| anz <| wq <| wq <| Wq rfl (cr [] wd2) <| ?_
 obtain ⟨g8,hm9,ho⟩:=bs ho
 refine QL.meet (fun r=>∃ F,r=updL F [(1,.int .i64 (x1)),(2,v_x2),(3,.pointer (some (⟨b1,0,none⟩))),(19,.bool (g8))]) ?_ ?_
 skip
 refine Qa (Mv v_x2 rfl) <| ?_
 obtain ⟨y10,ne,hm9⟩:=bs hm9
 refine Qc Tryz.func139 rfl rfl (fun _ hC=>spec_l02Rises_calls (kp _ h_x2 (hB.trans hC)) ne) <| Qa (Nt rfl) <| Qa (Mb rfl) <| ?_
 rcases Bool.eq_false_or_eq_true (!(y10)) with p5 | p5
 rw [p5] at hm9
 refine Sk rfl p5 rfl <| Sk rfl p5 rfl <| Sk rfl p5 rfl <| Sk rfl p5 rfl <| Sk rfl p5 rfl <| Sk rfl p5 rfl <| Qa (PTb rfl p5 rfl) <| ?_
 cases hm9
 exact fe rfl
 rw [p5] at hm9
 refine Qg rfl p5 (Fr fa32_1 rfl) <| Qg rfl p5 (Lr na22 hr4 rfl rfl) <| Qg rfl p5 (Ln sl22 (kB za hB) rfl) <| Qg rfl p5 (Mv v_x2 rfl) <| ?_
 obtain ⟨y13,p20,hm9⟩:=bs hm9
 refine Qcg rfl p5 Tryz.func140 rfl rfl (fun _ hC=>spec_l01Map_calls (kp _ h_x2 (hB.trans hC)) p20) <| Qg rfl p5 (Nt rfl) <| Qa (PFb rfl p5 rfl) <| ?_
 cases hm9
 exact fe rfl
 rintro _ ⟨F,rfl⟩
 refine fun jf p8=>anz <| W_cond (b:=g8) rfl ?_ ?_
 intro q2
 rw [q2] at ho
 refine wq <| Wq rfl p8 <| Qa (Ab rfl) <| fun jd q0=>anz <| ?_
 cases ho
 exact W_ret ⟨_,res_1 Tryz.results77,rfl,(hB.trans q0)⟩
 intro q2
 rw [q2] at ho
 refine W_skip <| anz <| wq <| wq <| Wq rfl p8 <| Qa (Ai rfl) <| fun k4 p05=>anz <| Wf (S1:=Int) (fun (s0_7:Int) r w'=>Chg [] w w'∧Row w' b1 [.int .i64 (x0.Objects),z2,z1,z7,z6] 32∧∃ F,r=updL F [(1,.int .i64 (x1)),(2,v_x2),(3,.pointer (some (⟨b1,0,none⟩))),(7,.int .i64 (s0_7))]) (spec_l25Sieve_T w) ho ⟨(hB.trans p05),(kr hr4 p05),fe rfl⟩ ?_ ?_
 rintro s0_7 _ kx ⟨hB,hr4,F,rfl⟩ o ho
 replace ho:spec_l25Sieve_L0 x0 x1 x2 s0_7=some o:=ho
 unfold spec_l25Sieve_L0 at ho
 refine wq <| wq <| Wq rfl (cr [] kx) <| Qa (Mi rfl) <| Qa (Mv v_x2 rfl) <| Qa (Ln sl22 (kB h_x2 hB) rfl) <| Qa (Bl rfl rfl) <| fun jq qj=>anz <| W_cond (b:=decide (s0_7 < (x2.length:Int))) rfl ?_ ?_
 intro nf
 rw [nf] at ho
 refine W_skip <| anz <| wq <| W_block <| wq <| wq <| Wqd rfl (by kernel_rfl) qj <| Qa (Fr fa32_1 rfl) <| Qa (Lr na22 hr4 rfl rfl) <| Qa (Mv v_x2 rfl) <| Qa (Mi rfl) <| ?_
 obtain ⟨e26,hx27e,ho⟩:=bs ho
 have hx27:=idx_some hx27e
 refine Qa (Ix sl22 (kB h_x2 hB) hx27 rfl rfl rfl) <| Qa (Ei na2 (kB h_x2 hB) hx27 rfl) <| ?_
 obtain ⟨e28,hx29e,ho⟩:=bs ho
 have hx29:=idx_some hx29e
 refine Qa (Ix sl22 (kB za hB) hx29 rfl rfl rfl) <| Qa (Ei na2 (kB za hB) hx29 rfl) <| Qa (Mi rfl) <| Qa (Bn rfl rfl) <| fun k9 qe=>anz <| W_cond (b:=(e28) != (x1)) rfl ?_ ?_
 intro qu
 rw [qu] at ho
 refine wq <| Wq rfl qe <| Qa (Ab rfl) <| fun p0e kd=>anz <| ?_
 cases ho
 exact W_ret ⟨_,res_1 Tryz.results77,rfl,(hB.trans kd)⟩
 intro qu
 rw [qu] at ho
 refine W_skip <| anz <| wq <| Wq rfl qe <| Qa (Ai rfl) <| fun ka ql=>anz <| Wf (S1:=Int) (fun (s1_8:Int) r w'=>Chg [] w w'∧Row w' b1 [.int .i64 (x0.Objects),z2,z1,z7,z6] 32∧∃ F,r=updL F [(1,.int .i64 (x1)),(2,v_x2),(3,.pointer (some (⟨b1,0,none⟩))),(7,.int .i64 (s0_7)),(8,.int .i64 (s1_8))]) (spec_l25Sieve_T w) ho ⟨(hB.trans ql),(kr hr4 ql),fe rfl⟩ ?_ ?_
 rintro s1_8 _ ke ⟨hB,hr4,F,rfl⟩ o ho
 replace ho:spec_l25Sieve_L1 x0 x2 s0_7 s1_8=some o:=ho
 unfold spec_l25Sieve_L1 at ho
 refine wq <| wq <| Wq rfl (cr [] ke) <| Qa (Mi rfl) <| Qa (Fr fa32_1 rfl) <| Qa (Lr na22 hr4 rfl rfl) <| Qa (Ln sl22 (kB za hB) rfl) <| Qa (Bl rfl rfl) <| fun p3j ng=>anz <| W_cond (b:=decide (s1_8 < (x0.From.length:Int))) rfl ?_ ?_
 intro nh
 rw [nh] at ho
 refine W_skip <| anz <| wq <| W_block <| wq <| Wqd rfl (by kernel_rfl) ng <| ?_
 obtain ⟨g41,hm42,ho⟩:=bs ho
 refine QL.meet (fun r=>∃ F,r=updL F [(1,.int .i64 (x1)),(2,v_x2),(3,.pointer (some (⟨b1,0,none⟩))),(7,.int .i64 (s0_7)),(8,.int .i64 (s1_8)),(68,.bool (g41))]) ?_ ?_
 skip
 refine Qa (Fr fa32_2 rfl) <| Qa (Lr na22 hr4 rfl rfl) <| Qa (Mv v_x2 rfl) <| Qa (Mi rfl) <| ?_
 obtain ⟨e43,hx44e,hm42⟩:=bs hm42
 have hx44:=idx_some hx44e
 refine Qa (Ix sl22 (kB h_x2 hB) hx44 rfl rfl rfl) <| Qa (Ei na2 (kB h_x2 hB) hx44 rfl) <| ?_
 obtain ⟨e45,hx46e,hm42⟩:=bs hm42
 have hx46:=idx_some hx46e
 refine Qa (Ix sl22 (kB zb hB) hx46 rfl rfl rfl) <| Qa (Ei na2 (kB zb hB) hx46 rfl) <| Qa (Fr fa32_1 rfl) <| Qa (Lr na22 hr4 rfl rfl) <| Qa (Mi rfl) <| ?_
 obtain ⟨e47,hx48e,hm42⟩:=bs hm42
 have hx48:=idx_some hx48e
 refine Qa (Ix sl22 (kB za hB) hx48 rfl rfl rfl) <| Qa (Ei na2 (kB za hB) hx48 rfl) <| Qa (Be rfl rfl) <| Qa (Mb rfl) <| ?_
 rcases Bool.eq_false_or_eq_true (e45 == e47) with p1 | p1
 rw [p1] at hm42
 refine Qg rfl p1 (Mv v_x2 rfl) <| Qg rfl p1 (Lg ag32 hr4.at rfl rfl) <| Qg rfl p1 (Mv v_x2 rfl) <| Qg rfl p1 (Mi rfl) <| ?_
 obtain ⟨e50,hx51e,hm42⟩:=bs hm42
 have hx51:=idx_some hx51e
 refine Qg rfl p1 (Ix sl22 (kB h_x2 hB) hx51 rfl rfl rfl) <| Qg rfl p1 (Ei na2 (kB h_x2 hB) hx51 rfl) <| Qg rfl p1 (Mi rfl) <| ?_
 obtain ⟨y52,p21,hm42⟩:=bs hm42
 refine Qcg rfl p1 Tryz.func142 rfl rfl (fun _ hC=>spec_l02Then_calls (kp _ za (hB.trans hC)) (kp _ zb (hB.trans hC)) (kp _ zd (hB.trans hC)) (kp _ zc (hB.trans hC)) p21) <| ?_
 obtain ⟨y54,p22,hm42⟩:=bs hm42
 refine Qcg rfl p1 Tryz.func141 rfl rfl (fun _ hC=>spec_l01Has_calls (kp _ h_x2 (hB.trans hC)) p22) <| Qg rfl p1 (Nt rfl) <| Qa (PTb rfl p1 rfl) <| ?_
 cases hm42
 exact fe rfl
 rw [p1] at hm42
 refine Sk rfl p1 rfl <| Sk rfl p1 rfl <| Sk rfl p1 rfl <| Sk rfl p1 rfl <| Sk rfl p1 rfl <| Sk rfl p1 rfl <| Sk rfl p1 rfl <| Sk rfl p1 rfl <| Sk rfl p1 rfl <| Sk rfl p1 rfl <| Qa (PFb rfl p1 rfl) <| ?_
 cases hm42
 exact fe rfl
 rintro _ ⟨F,rfl⟩
 refine fun ks pz=>anz <| W_cond (b:=g41) rfl ?_ ?_
 intro j3
 rw [j3] at ho
 refine wq <| Wq rfl pz <| Qa (Ab rfl) <| fun gb j2=>anz <| ?_
 cases ho
 exact W_ret ⟨_,res_1 Tryz.results77,rfl,(hB.trans j2)⟩
 intro j3
 rw [j3] at ho
 refine W_skip <| inBlk_n <| anz <| Wq rfl pz <| Qa (Mi rfl) <| Qa (Ba rfl rfl) <| Qa (Ai rfl) <| fun k3 p06=>?_
 cases ho
 exact ⟨(hB.trans p06),(kr hr4 p06),fe rfl⟩
 intro nh
 rw [nh] at ho
 refine W_exit <| andThen_x <| ?_
 cases ho
 exact ⟨rfl,⟨(hB.trans ng),(kr hr4 ng),fe rfl⟩⟩
 rintro s1_8 _ p23 ⟨hB,hr4,F,rfl⟩ ho
 refine inBlk_n <| anz <| Wq rfl (cr [] p23) <| Qa (Mi rfl) <| Qa (Ba rfl rfl) <| Qa (Ai rfl) <| fun gc p07=>?_
 cases ho
 exact ⟨(hB.trans p07),(kr hr4 p07),fe rfl⟩
 intro nf
 rw [nf] at ho
 refine W_exit <| andThen_x <| ?_
 cases ho
 exact ⟨rfl,⟨(hB.trans qj),(kr hr4 qj),fe rfl⟩⟩
 rintro s0_7 _ g4 ⟨hB,hr4,F,rfl⟩ ho
 refine anz <| wq <| Wq rfl (cr [] g4) <| Qa (Ab rfl) <| fun p3k p24=>anz <| ?_
 cases ho
 exact W_ret ⟨_,res_1 Tryz.results77,rfl,(hB.trans p24)⟩

abbrev spec_l01Less_post (w:World) (x:(Bool)) (e:Ending) (w':World):Prop:=e = .returned (.bool x)∧Chg [] w w'
abbrev spec_l01Less_T (w:World):=Tm Tryz.prog Tryz.f138 41 (spec_l01Less_post w)
theorem spec_l01Less_calls {w:World} {x0:(List Int)} {v_x0:Value} {f_x0:List Nat} {x1:(List Int)} {v_x1:Value} {f_x1:List Nat} (h_x0:(sImm (sInt .i64)).rep w.heap [v_x0] x0 f_x0) (h_x1:(sImm (sInt .i64)).rep w.heap [v_x1] x1 f_x1) {y:(Bool)} (hm:spec_l01Less x0 x1=some y) :
  Calls Tryz.prog 138 #[v_x0,v_x1] w (spec_l01Less_post w y):=by
 refine Cm (S:=Unit) Tryz.func138 rfl Tryz.ntmps138 rfl hm fun o ho hB=>?_
 clear hm
 refine wq <| Wq rfl (cr [] w) <| Qa (Ab rfl) <| fun wd1 hC2=>anz <| wq <| wq <| Wq rfl hC2 <| Qa (Ai rfl) <| fun wd3 hC4=>anz <| Wf (S1:=Int) (fun (s0_5:Int) r w'=>Chg [] w w'∧∃ F,r=updL F [(0,v_x0),(1,v_x1),(5,.int .i64 (s0_5))]) (spec_l01Less_T w) ho ⟨(hB.trans hC4),fe rfl⟩ ?_ ?_
 rintro s0_5 _ wd5 ⟨hB,F,rfl⟩ o ho
 replace ho:spec_l01Less_L0 x0 x1 s0_5=some o:=ho
 unfold spec_l01Less_L0 at ho
 refine wq <| wq <| Wq rfl (cr [] wd5) <| ?_
 obtain ⟨g6,hm7,ho⟩:=bs ho
 refine QL.meet (fun r=>∃ F,r=updL F [(0,v_x0),(1,v_x1),(5,.int .i64 (s0_5)),(15,.bool (g6))]) ?_ ?_
 skip
 refine Qa (Mi rfl) <| Qa (Mv v_x0 rfl) <| Qa (Ln sl22 (kB h_x0 hB) rfl) <| Qa (Bl rfl rfl) <| Qa (Mb rfl) <| ?_
 rcases Bool.eq_false_or_eq_true (decide (s0_5 < (x0.length:Int))) with hb8 | hb8
 rw [hb8] at hm7
 refine Qg rfl hb8 (Mi rfl) <| Qg rfl hb8 (Mv v_x1 rfl) <| Qg rfl hb8 (Ln sl22 (kB h_x1 hB) rfl) <| Qg rfl hb8 (Bl rfl rfl) <| Qa (PTb rfl hb8 rfl) <| ?_
 cases hm7
 exact fe rfl
 rw [hb8] at hm7
 refine Sk rfl hb8 rfl <| Sk rfl hb8 rfl <| Sk rfl hb8 rfl <| Sk rfl hb8 rfl <| Qa (PFb rfl hb8 rfl) <| ?_
 cases hm7
 exact fe rfl
 rintro _ ⟨F,rfl⟩
 refine fun wd9 qn=>anz <| W_cond (b:=g6) rfl ?_ ?_
 intro ni
 rw [ni] at ho
 refine W_skip <| anz <| wq <| W_block <| wq <| Wqd rfl (by kernel_rfl) qn <| Qa (Mv v_x0 rfl) <| Qa (Mi rfl) <| ?_
 obtain ⟨e12,hx13e,ho⟩:=bs ho
 have hx13:=idx_some hx13e
 refine Qa (Ix sl22 (kB h_x0 hB) hx13 rfl rfl rfl) <| Qa (Ei na2 (kB h_x0 hB) hx13 rfl) <| Qa (Mv v_x1 rfl) <| Qa (Mi rfl) <| ?_
 obtain ⟨e14,hx15e,ho⟩:=bs ho
 have hx15:=idx_some hx15e
 refine Qa (Ix sl22 (kB h_x1 hB) hx15 rfl rfl rfl) <| Qa (Ei na2 (kB h_x1 hB) hx15 rfl) <| Qa (Bn rfl rfl) <| fun k2 q7=>anz <| W_cond (b:=(e12) != (e14)) rfl ?_ ?_
 intro pa
 rw [pa] at ho
 refine wq <| Wqd rfl (by kernel_rfl) q7 <| Qa (Mv v_x0 rfl) <| Qa (Mi rfl) <| ?_
 obtain ⟨e19,hx20e,ho⟩:=bs ho
 have hx20:=idx_some hx20e
 refine Qa (Ix sl22 (kB h_x0 hB) hx20 rfl rfl rfl) <| Qa (Ei na2 (kB h_x0 hB) hx20 rfl) <| Qa (Mv v_x1 rfl) <| Qa (Mi rfl) <| ?_
 obtain ⟨e21,hx22e,ho⟩:=bs ho
 have hx22:=idx_some hx22e
 refine Qa (Ix sl22 (kB h_x1 hB) hx22 rfl rfl rfl) <| Qa (Ei na2 (kB h_x1 hB) hx22 rfl) <| Qa (Bl rfl rfl) <| Qa (Ab rfl) <| fun jq qj=>anz <| ?_
 cases ho
 exact W_ret ⟨_,res_1 Tryz.results138,rfl,(hB.trans qj)⟩
 intro pa
 rw [pa] at ho
 refine W_skip <| inBlk_n <| anz <| Wq rfl q7 <| Qa (Mi rfl) <| Qa (Ba rfl rfl) <| Qa (Ai rfl) <| fun q9 pu=>?_
 cases ho
 exact ⟨(hB.trans pu),fe rfl⟩
 intro ni
 rw [ni] at ho
 refine W_exit <| andThen_x <| ?_
 cases ho
 exact ⟨rfl,⟨(hB.trans qn),fe rfl⟩⟩
 rintro s0_5 _ qd ⟨hB,F,rfl⟩ ho
 refine anz <| wq <| Wq rfl (cr [] qd) <| Qa (Mv v_x0 rfl) <| Qa (Ln sl22 (kB h_x0 hB) rfl) <| Qa (Mv v_x1 rfl) <| Qa (Ln sl22 (kB h_x1 hB) rfl) <| Qa (Bl rfl rfl) <| Qa (Ab rfl) <| fun nq j6=>anz <| ?_
 cases ho
 exact W_ret ⟨_,res_1 Tryz.results138,rfl,(hB.trans j6)⟩

abbrev spec_l27Shape_post (w:World) (x:(Bool)) (e:Ending) (w':World):Prop:=e = .returned (.bool x)∧Chg [] w w'
abbrev spec_l27Shape_T (w:World):=Tm Tryz.prog Tryz.f75 73 (spec_l27Shape_post w)
theorem spec_l27Shape_calls {w:World} {x0:MTopology} {zk:Value} {zo:List Nat} {zl:Value} {zp:List Nat} {zm:Value} {zq:List Nat} {zn:Value} {zr:List Nat} {ze:Value} {z8:List Nat} (zu:(sImm (sInt .i64)).rep w.heap [zk] x0.Shape.From zo) (zv:(sImm (sInt .i64)).rep w.heap [zl] x0.Shape.To zp) (zw:(sImm (sInt .i64)).rep w.heap [zm] x0.Shape.Identity zq) (zx:(sImm (sImm (sInt .i64))).rep w.heap [zn] x0.Shape.Composites zr) (zj:(sImm (sImm (sImm (sInt .i64)))).rep w.heap [ze] x0.Covers z8) {y:(Bool)} (hm:spec_l27Shape x0=some y) :
  Calls Tryz.prog 75 #[.agg #[.int .i64 (x0.Shape.Objects),zk,zl,zm,zn,ze]] w (spec_l27Shape_post w y):=by
 refine Cm (S:=Unit) Tryz.func75 rfl Tryz.ntmps75 rfl hm fun o ho hB=>?_
 clear hm
 refine wq <| W_region rfl <| WL.box fun b1 wd2 hC3 hr4 hl5=>?_
 replace hr4:Row wd2 b1 [.int .i64 (x0.Shape.Objects),zk,zl,zm,zn,ze] 34:=hr4
 replace hB:=(hB.trans hC3)
 refine Wb (Ab rfl) <| anz <| wq <| wq <| Wq rfl (cr [] wd2) <| ?_
 obtain ⟨g8,hm9,ho⟩:=bs ho
 refine QL.meet (fun r=>∃ F,r=updL F [(1,.pointer (some (⟨b1,0,none⟩))),(17,.bool (g8))]) ?_ ?_
 skip
 refine Qa (Fr fa34_0 rfl) <| ?_
 refine qv (v:=.agg #[.int .i64 (x0.Shape.Objects),zk,zl,zm,zn]) rfl (fun _ hC=>op_loadAgg (cs:=[.int .i64 (x0.Shape.Objects),zk,zl,zm,zn]) u32 rfl info32 (by rw [sz32]; rfl) rfl (At.sub (kr hr4 hC).at 0 5)) ?_
 obtain ⟨y10,ne,hm9⟩:=bs hm9
 refine Qc Tryz.func117 rfl rfl (fun _ hC=>spec_l02Is_calls (kp _ zu (hB.trans hC)) (kp _ zv (hB.trans hC)) (kp _ zw (hB.trans hC)) (kp _ zx (hB.trans hC)) ne) <| Qa (Nt rfl) <| Qa (Mb rfl) <| ?_
 rcases Bool.eq_false_or_eq_true (!(y10)) with p5 | p5
 rw [p5] at hm9
 refine Sk rfl p5 rfl <| Sk rfl p5 rfl <| Sk rfl p5 rfl <| Sk rfl p5 rfl <| Sk rfl p5 rfl <| Sk rfl p5 rfl <| Sk rfl p5 rfl <| Qa (PTb rfl p5 rfl) <| ?_
 cases hm9
 exact fe rfl
 rw [p5] at hm9
 refine Qg rfl p5 (Fr fa34_1 rfl) <| Qg rfl p5 (Lr na26 hr4 rfl rfl) <| Qg rfl p5 (Ln sl26 (kB zj hB) rfl) <| Qg rfl p5 (Fr fa34_0 rfl) <| Qg rfl p5 (Fr fa32_0 rfl) <| Qg rfl p5 (Lr na2 hr4 rfl rfl) <| Qg rfl p5 (Bn rfl rfl) <| Qa (PFb rfl p5 rfl) <| ?_
 cases hm9
 exact fe rfl
 rintro _ ⟨F,rfl⟩
 refine fun qt pk=>anz <| W_cond (b:=g8) rfl ?_ ?_
 intro p6
 rw [p6] at ho
 refine wq <| Wq rfl pk <| Qa (Ab rfl) <| fun k2 q7=>anz <| ?_
 cases ho
 exact W_ret ⟨_,res_1 Tryz.results75,rfl,(hB.trans q7)⟩
 intro p6
 rw [p6] at ho
 refine W_skip <| anz <| wq <| wq <| Wq rfl pk <| Qa (Ai rfl) <| fun jd q0=>anz <| Wf (S1:=Int) (fun (s0_3:Int) r w'=>Chg [] w w'∧Row w' b1 [.int .i64 (x0.Shape.Objects),zk,zl,zm,zn,ze] 34∧∃ F,r=updL F [(1,.pointer (some (⟨b1,0,none⟩))),(3,.int .i64 (s0_3))]) (spec_l27Shape_T w) ho ⟨(hB.trans q0),(kr hr4 q0),fe rfl⟩ ?_ ?_
 rintro s0_3 _ k4 ⟨hB,hr4,F,rfl⟩ o ho
 replace ho:spec_l27Shape_L0 x0 s0_3=some o:=ho
 unfold spec_l27Shape_L0 at ho
 refine wq <| wq <| Wq rfl (cr [] k4) <| Qa (Mi rfl) <| Qa (Fr fa34_1 rfl) <| Qa (Lr na26 hr4 rfl rfl) <| Qa (Ln sl26 (kB zj hB) rfl) <| Qa (Bl rfl rfl) <| fun qa pg=>anz <| W_cond (b:=decide (s0_3 < (x0.Covers.length:Int))) rfl ?_ ?_
 intro q1
 rw [q1] at ho
 refine W_skip <| anz <| wq <| W_block <| wq <| Wq rfl pg <| Qa (Ai rfl) <| fun kc qm=>anz <| Wf (S1:=Int) (fun (s1_4:Int) r w'=>Chg [] w w'∧Row w' b1 [.int .i64 (x0.Shape.Objects),zk,zl,zm,zn,ze] 34∧∃ F,r=updL F [(1,.pointer (some (⟨b1,0,none⟩))),(3,.int .i64 (s0_3)),(4,.int .i64 (s1_4))]) (spec_l27Shape_T w) ho ⟨(hB.trans qm),(kr hr4 qm),fe rfl⟩ ?_ ?_
 rintro s1_4 _ jw ⟨hB,hr4,F,rfl⟩ o ho
 replace ho:spec_l27Shape_L1 x0 s0_3 s1_4=some o:=ho
 unfold spec_l27Shape_L1 at ho
 refine wq <| wq <| Wq rfl (cr [] jw) <| Qa (Mi rfl) <| Qa (Fr fa34_1 rfl) <| Qa (Lr na26 hr4 rfl rfl) <| Qa (Mi rfl) <| ?_
 obtain ⟨e27,hx28e,ho⟩:=bs ho
 have hx28:=idx_some hx28e
 refine Qa (Ix sl26 (kB zj hB) hx28 rfl rfl rfl) <| ?_
 obtain ⟨u29,fu30,hu31,p25,hs33⟩:=one_get rfl zj hx28.1 hx28.2
 refine Qa (Ld na23 (hB.cell0 hu31) rfl) <| Qa (Ln sl23 (kB p25 hB) rfl) <| Qa (Bl rfl rfl) <| fun jt nj=>anz <| W_cond (b:=decide (s1_4 < (e27.length:Int))) rfl ?_ ?_
 intro nk
 rw [nk] at ho
 refine W_skip <| anz <| wq <| W_block <| wq <| Wqd rfl (by kernel_rfl) nj <| ?_
 obtain ⟨g37,hm38,ho⟩:=bs ho
 refine QL.meet (fun r=>∃ F,r=updL F [(1,.pointer (some (⟨b1,0,none⟩))),(3,.int .i64 (s0_3)),(4,.int .i64 (s1_4)),(72,.bool (g37))]) ?_ ?_
 skip
 refine Qa (Fr fa34_0 rfl) <| ?_
 refine qv (v:=.agg #[.int .i64 (x0.Shape.Objects),zk,zl,zm,zn]) rfl (fun _ hC=>op_loadAgg (cs:=[.int .i64 (x0.Shape.Objects),zk,zl,zm,zn]) u32 rfl info32 (by rw [sz32]; rfl) rfl (At.sub (kr hr4 hC).at 0 5)) ?_
 refine Qa (Mi rfl) <| Qa (Fr fa34_1 rfl) <| Qa (Lr na26 hr4 rfl rfl) <| Qa (Mi rfl) <| ?_
 obtain ⟨e39,hx40e,hm38⟩:=bs hm38
 have hx40:=idx_some hx40e
 refine Qa (Ix sl26 (kB zj hB) hx40 rfl rfl rfl) <| ?_
 obtain ⟨u41,fu42,hu43,p08,hs45⟩:=one_get rfl zj hx40.1 hx40.2
 refine Qa (Ld na23 (hB.cell0 hu43) rfl) <| Qa (Mi rfl) <| ?_
 obtain ⟨e46,hx47e,hm38⟩:=bs hm38
 have hx47:=idx_some hx47e
 refine Qa (Ix sl23 (kB p08 hB) hx47 rfl rfl rfl) <| ?_
 obtain ⟨u48,fu49,hu50,p26,hs52⟩:=one_get rfl p08 hx47.1 hx47.2
 refine Qa (Ld na22 (hB.cell0 hu50) rfl) <| ?_
 obtain ⟨y53,p27,hm38⟩:=bs hm38
 refine Qc Tryz.func77 rfl rfl (fun _ hC=>spec_l25Sieve_calls (kp _ zu (hB.trans hC)) (kp _ zv (hB.trans hC)) (kp _ zw (hB.trans hC)) (kp _ zx (hB.trans hC)) (kp _ p26 (hB.trans hC)) p27) <| Qa (Nt rfl) <| Qa (Mb rfl) <| ?_
 rcases Bool.eq_false_or_eq_true (!(y53)) with pt | pt
 rw [pt] at hm38
 refine Sk rfl pt rfl <| Sk rfl pt rfl <| Sk rfl pt rfl <| QL.skipN rfl rfl <| QL.skipN rfl rfl <| QL.skipN rfl rfl <| QL.skipN rfl rfl <| QL.skipN rfl rfl <| QL.skipN rfl rfl <| QL.skipN rfl rfl <| QL.skipN rfl rfl <| QL.skipN rfl rfl <| QL.skipN rfl rfl <| QL.skipN rfl rfl <| QL.skipN rfl rfl <| QL.skipN rfl rfl <| ?_
 refine QL.skipN rfl rfl <| QL.skipN rfl rfl <| QL.skipN rfl rfl <| QL.skipN rfl rfl <| QL.skipN rfl rfl <| QL.skipN rfl rfl <| Sk rfl pt rfl <| Qa (PTb rfl pt rfl) <| ?_
 cases hm38
 exact fe rfl
 rw [pt] at hm38
 refine Qg rfl pt (Mi rfl) <| Qg rfl pt (Bg rfl rfl) <| Qg rfl pt (Mb rfl) <| ?_
 rcases Bool.eq_false_or_eq_true (decide (s1_4 > (0:Int))) with p3 | p3
 rw [p3] at hm38
 refine Qg rfl p3 (Fr fa34_1 rfl) <| Qg rfl p3 (Lr na26 hr4 rfl rfl) <| Qg rfl p3 (Mi rfl) <| ?_
 obtain ⟨e57,hx58e,hm38⟩:=bs hm38
 have hx58:=idx_some hx58e
 refine Qg rfl p3 (Ix sl26 (kB zj hB) hx58 rfl rfl rfl) <| ?_
 obtain ⟨u59,fu60,hu61,qi,hs63⟩:=one_get rfl zj hx58.1 hx58.2
 refine Qg rfl p3 (Ld na23 (hB.cell0 hu61) rfl) <| Qg rfl p3 (Mi rfl) <| Qg rfl p3 (Bs rfl rfl) <| ?_
 obtain ⟨e64,hx65e,hm38⟩:=bs hm38
 have hx65:=idx_some hx65e
 refine Qg rfl p3 (Ix sl23 (kB qi hB) hx65 rfl rfl rfl) <| ?_
 obtain ⟨u66,fu67,hu68,p28,hs70⟩:=one_get rfl qi hx65.1 hx65.2
 refine Qg rfl p3 (Ld na22 (hB.cell0 hu68) rfl) <| Qg rfl p3 (Fr fa34_1 rfl) <| Qg rfl p3 (Lr na26 hr4 rfl rfl) <| Qg rfl p3 (Mi rfl) <| ?_
 obtain ⟨e71,hx72e,hm38⟩:=bs hm38
 have hx72:=idx_some hx72e
 refine Qg rfl p3 (Ix sl26 (kB zj hB) hx72 rfl rfl rfl) <| ?_
 obtain ⟨u73,fu74,hu75,p09,hs77⟩:=one_get rfl zj hx72.1 hx72.2
 refine Qg rfl p3 (Ld na23 (hB.cell0 hu75) rfl) <| Qg rfl p3 (Mi rfl) <| ?_
 obtain ⟨e78,hx79e,hm38⟩:=bs hm38
 have hx79:=idx_some hx79e
 refine Qg rfl p3 (Ix sl23 (kB p09 hB) hx79 rfl rfl rfl) <| ?_
 obtain ⟨u80,fu81,hu82,p29,hs84⟩:=one_get rfl p09 hx79.1 hx79.2
 refine Qg rfl p3 (Ld na22 (hB.cell0 hu82) rfl) <| ?_
 obtain ⟨y85,p2a,hm38⟩:=bs hm38
 refine Qcg rfl p3 Tryz.func138 rfl rfl (fun _ hC=>spec_l01Less_calls (kp _ p28 (hB.trans hC)) (kp _ p29 (hB.trans hC)) p2a) <| Qg rfl p3 (Nt rfl) <| Qg rfl pt (PTb rfl p3 rfl) <| Qa (PFb rfl pt rfl) <| ?_
 cases hm38
 exact fe rfl
 rw [p3] at hm38
 refine Sk rfl p3 rfl <| Sk rfl p3 rfl <| Sk rfl p3 rfl <| Sk rfl p3 rfl <| Sk rfl p3 rfl <| Sk rfl p3 rfl <| Sk rfl p3 rfl <| Sk rfl p3 rfl <| Sk rfl p3 rfl <| Sk rfl p3 rfl <| Sk rfl p3 rfl <| Sk rfl p3 rfl <| Sk rfl p3 rfl <| Sk rfl p3 rfl <| Sk rfl p3 rfl <| Sk rfl p3 rfl <| ?_
 refine Sk rfl p3 rfl <| Sk rfl p3 rfl <| Sk rfl p3 rfl <| Qg rfl pt (PFb rfl p3 rfl) <| Qa (PFb rfl pt rfl) <| ?_
 cases hm38
 exact fe rfl
 rintro _ ⟨F,rfl⟩
 refine fun p3l p0a=>anz <| W_cond (b:=g37) rfl ?_ ?_
 intro nl
 rw [nl] at ho
 refine wq <| Wq rfl p0a <| Qa (Ab rfl) <| fun p3m p2b=>anz <| ?_
 cases ho
 exact W_ret ⟨_,res_1 Tryz.results75,rfl,(hB.trans p2b)⟩
 intro nl
 rw [nl] at ho
 refine W_skip <| inBlk_n <| anz <| Wq rfl p0a <| Qa (Mi rfl) <| Qa (Ba rfl rfl) <| Qa (Ai rfl) <| fun p3n p0b=>?_
 cases ho
 exact ⟨(hB.trans p0b),(kr hr4 p0b),fe rfl⟩
 intro nk
 rw [nk] at ho
 refine W_exit <| andThen_x <| ?_
 cases ho
 exact ⟨rfl,⟨(hB.trans nj),(kr hr4 nj),fe rfl⟩⟩
 rintro s1_4 _ p2c ⟨hB,hr4,F,rfl⟩ ho
 refine inBlk_n <| anz <| Wq rfl (cr [] p2c) <| Qa (Mi rfl) <| Qa (Ba rfl rfl) <| Qa (Ai rfl) <| fun kt q5=>?_
 cases ho
 exact ⟨(hB.trans q5),(kr hr4 q5),fe rfl⟩
 intro q1
 rw [q1] at ho
 refine W_exit <| andThen_x <| ?_
 cases ho
 exact ⟨rfl,⟨(hB.trans pg),(kr hr4 pg),fe rfl⟩⟩
 rintro s0_3 _ p2d ⟨hB,hr4,F,rfl⟩ ho
 refine anz <| wq <| Wq rfl (cr [] p2d) <| Qa (Ab rfl) <| fun p3o p2e=>anz <| ?_
 cases ho
 exact W_ret ⟨_,res_1 Tryz.results75,rfl,(hB.trans p2e)⟩

abbrev spec_l25Out_post (w:World) (x:((List Int))) (e:Ending) (w':World):Prop:=∃ (v0:Value) (f0:List Nat),e = .returned (v0)∧Chg [] w w'∧OE [] w.heap.size w' (sOwn 2 (sInt .i64)) [v0] x f0
abbrev spec_l25Out_T (w:World):=Tm Tryz.prog Tryz.f143 27 (spec_l25Out_post w)
theorem spec_l25Out_calls {w:World} {x0:MCategory} {z2:Value} {zf:List Nat} {z1:Value} {zg:List Nat} {z7:Value} {zh:List Nat} {z6:Value} {zi:List Nat} {x1:Int} (za:(sImm (sInt .i64)).rep w.heap [z2] x0.From zf) (zb:(sImm (sInt .i64)).rep w.heap [z1] x0.To zg) (zd:(sImm (sInt .i64)).rep w.heap [z7] x0.Identity zh) (zc:(sImm (sImm (sInt .i64))).rep w.heap [z6] x0.Composites zi) {y:((List Int))} (hm:spec_l25Out x0 x1=some y) :
  Calls Tryz.prog 143 #[.agg #[.int .i64 (x0.Objects),z2,z1,z7,z6],.int .i64 (x1)] w (spec_l25Out_post w y):=by
 refine Cm (S:=Unit) Tryz.func143 rfl Tryz.ntmps143 rfl hm fun o ho hB=>?_
 clear hm
 refine wq <| W_region rfl <| WL.box fun b1 wd2 hC3 hr4 hl5=>?_
 replace hr4:Row wd2 b1 [.int .i64 (x0.Objects),z2,z1,z7,z6] 32:=hr4
 replace hB:=(hB.trans hC3)
 refine Wb (As rfl) <| anz <| wq <| W_region rfl <| WL.lit0 (sInt .i64) u22z info2 fun v8 wd9 f10 ph k5=>?_
 have d13:=dl (ofr k5) (one_lt (Row.lt hr4))
 replace k5:=OE.low (G:=[]) k5 hB.size
 replace hr4:=kr hr4 ph
 replace hB:=(hB.trans ph)
 refine Wb (Av v8 rfl) <| anz <| wq <| wq <| Wq rfl (cr [] wd9) <| Qa (Ai rfl) <| fun jf p8=>anz <| Wf (S1:=(List Int)×Int) (fun s r w'=>match s with | (s0_5,s0_6)=>∃ (v17:Value) (k6:List Nat),Chg [] w w'∧Row w' b1 [.int .i64 (x0.Objects),z2,z1,z7,z6] 32∧OE [] w.heap.size w' (sOwn 2 (sInt .i64)) [v17] (s0_5) k6∧Dis [b1] k6∧∃ F,r=updL F [(1,.int .i64 (x1)),(2,.pointer (some (⟨b1,0,none⟩))),(5,v17),(6,.int .i64 (s0_6))]) (spec_l25Out_T w) ho ⟨_,_,(hB.trans p8),(kr hr4 p8),(ko k5 p8),((d13).symm),fe rfl⟩ ?_ ?_
 rintro ⟨s0_5,s0_6⟩ _ qa ⟨v17,k6,hB,hr4,qk,jr,F,rfl⟩ o ho
 replace ho:spec_l25Out_L0 x0 x1 s0_5 s0_6=some o:=ho
 unfold spec_l25Out_L0 at ho
 refine wq <| wq <| Wq rfl (cr [] qa) <| Qa (Mi rfl) <| Qa (Fr fa32_1 rfl) <| Qa (Lr na22 hr4 rfl rfl) <| Qa (Ln sl22 (kB za hB) rfl) <| Qa (Bl rfl rfl) <| fun kx j0=>anz <| W_cond (b:=decide (s0_6 < (x0.From.length:Int))) rfl ?_ ?_
 intro j1
 rw [j1] at ho
 refine W_skip <| anz <| wq <| W_block <| wq <| Wq rfl j0 <| Qa (Fr fa32_1 rfl) <| Qa (Lr na22 hr4 rfl rfl) <| Qa (Mi rfl) <| ?_
 obtain ⟨e25,hx26e,ho⟩:=bs ho
 have hx26:=idx_some hx26e
 refine Qa (Ix sl22 (kB za hB) hx26 rfl rfl rfl) <| Qa (Ei na2 (kB za hB) hx26 rfl) <| Qa (Mi rfl) <| Qa (Be rfl rfl) <| fun qd pi=>anz <| W_cond (b:=(e25) == (x1)) rfl ?_ ?_
 intro p9
 rw [p9] at ho
 refine W_region rfl <| Wb (Mv v17 rfl) <| Wb (Mi rfl) <| WL.lit1 u22z info2 zr2 sz2 rfl fun b30 nw j7 js p2h=>?_
 replace js:Row nw b30 [.int .i64 (s0_6)] 2:=js
 have kq:=dl (onw p2h) (sl _ (kp _ qk.1 pi))
 have nm:=pi.trans j7
 replace hr4:=kr hr4 nm
 replace qk:=ko qk nm
 replace hB:=(hB.trans nm)
 obtain ⟨n45,hn46,ho⟩:=bs ho
 have hn46a:=fits_some hn46
 refine WL.append1 (E:=(sInt .i64)) _ _ u22z info2 zr2 sz2 rfl rfl rfl qk rfl js ⟨rfl,rfl⟩ List.nodup_nil (fun _ h=>nomatch h) (fun _ h=>nomatch h) (by rw [by2]; exact hn46a.1) hn46a.2 hB.size fun v39 k0 f41 nn o43 hs44=>?_
 have d47:=dis_upd hs44 (jr).symm (fun _ h=>nomatch h) (one_lt (Row.lt hr4))
 replace hr4:=Row.keep hr4 nn (jr _ (ms rfl))
 replace js:=Row.keep js nn (kq _ (ms rfl))
 replace hB:=hB.then nn qk.2.2
 refine Wb (Av v39 rfl) <| inBlk_n <| anz <| Wq rfl (cr [] k0) <| Qa (Mi rfl) <| Qa (Ba rfl rfl) <| Qa (Ai rfl) <| fun p1s jc=>?_
 cases ho
 exact ⟨_,_,(hB.trans jc),(kr hr4 jc),(ko o43 jc),((d47).symm),fe rfl⟩
 intro p9
 rw [p9] at ho
 refine W_skip <| inBlk_n <| anz <| Wq rfl pi <| Qa (Mi rfl) <| Qa (Ba rfl rfl) <| Qa (Ai rfl) <| fun gq no=>?_
 cases ho
 exact ⟨_,_,(hB.trans no),(kr hr4 no),(ko qk no),jr,fe rfl⟩
 intro j1
 rw [j1] at ho
 refine W_exit <| andThen_x <| ?_
 cases ho
 exact ⟨rfl,⟨_,_,(hB.trans j0),(kr hr4 j0),(ko qk j0),jr,fe rfl⟩⟩
 rintro ⟨s0_5,s0_6⟩ _ g7 ⟨v17,k6,hB,hr4,qk,jr,F,rfl⟩ ho
 dsimp only at ho
 refine anz <| wq <| Wq rfl (cr [] g7) <| Qa (Mv v17 rfl) <| Qa (Av v17 rfl) <| fun gs p0c=>anz <| ?_
 cases ho
 exact W_ret ⟨_,res_1 Tryz.results143,_,_,rfl,(hB.trans p0c),(ko qk p0c)⟩

abbrev spec_l01Same_post (w:World) (x:(Bool)) (e:Ending) (w':World):Prop:=e = .returned (.bool x)∧Chg [] w w'
abbrev spec_l01Same_T (w:World):=Tm Tryz.prog Tryz.f88 26 (spec_l01Same_post w)
theorem spec_l01Same_calls {w:World} {x0:(List Int)} {v_x0:Value} {f_x0:List Nat} {x1:(List Int)} {v_x1:Value} {f_x1:List Nat} (h_x0:(sImm (sInt .i64)).rep w.heap [v_x0] x0 f_x0) (h_x1:(sImm (sInt .i64)).rep w.heap [v_x1] x1 f_x1) {y:(Bool)} (hm:spec_l01Same x0 x1=some y) :
  Calls Tryz.prog 88 #[v_x0,v_x1] w (spec_l01Same_post w y):=by
 refine Cm (S:=Unit) Tryz.func88 rfl Tryz.ntmps88 rfl hm fun o ho hB=>?_
 clear hm
 refine wq <| Wq rfl (cr [] w) <| Qa (Ab rfl) <| fun wd1 hC2=>anz <| wq <| wq <| Wq rfl hC2 <| Qa (Mv v_x0 rfl) <| Qa (Ln sl22 (kB h_x0 hB) rfl) <| Qa (Mv v_x1 rfl) <| Qa (Ln sl22 (kB h_x1 hB) rfl) <| Qa (Bn rfl rfl) <| fun wd3 hC4=>anz <| W_cond (b:=((x0.length:Int)) != ((x1.length:Int))) rfl ?_ ?_
 intro hb5
 rw [hb5] at ho
 refine wq <| Wq rfl hC4 <| Qa (Ab rfl) <| fun wd6 hC7=>anz <| ?_
 cases ho
 exact W_ret ⟨_,res_1 Tryz.results88,rfl,(hB.trans hC7)⟩
 intro hb5
 rw [hb5] at ho
 refine W_skip <| anz <| wq <| wq <| Wq rfl hC4 <| Qa (Ai rfl) <| fun wd8 hC9=>anz <| Wf (S1:=Int) (fun (s0_5:Int) r w'=>Chg [] w w'∧∃ F,r=updL F [(0,v_x0),(1,v_x1),(5,.int .i64 (s0_5))]) (spec_l01Same_T w) ho ⟨(hB.trans hC9),fe rfl⟩ ?_ ?_
 rintro s0_5 _ qc ⟨hB,F,rfl⟩ o ho
 replace ho:spec_l01Same_L0 x0 x1 s0_5=some o:=ho
 unfold spec_l01Same_L0 at ho
 refine wq <| wq <| Wq rfl (cr [] qc) <| Qa (Mi rfl) <| Qa (Mv v_x0 rfl) <| Qa (Ln sl22 (kB h_x0 hB) rfl) <| Qa (Bl rfl rfl) <| fun jx pm=>anz <| W_cond (b:=decide (s0_5 < (x0.length:Int))) rfl ?_ ?_
 intro pe
 rw [pe] at ho
 refine W_skip <| anz <| wq <| W_block <| wq <| Wqd rfl (by kernel_rfl) pm <| Qa (Mv v_x0 rfl) <| Qa (Mi rfl) <| ?_
 obtain ⟨e14,hx15e,ho⟩:=bs ho
 have hx15:=idx_some hx15e
 refine Qa (Ix sl22 (kB h_x0 hB) hx15 rfl rfl rfl) <| Qa (Ei na2 (kB h_x0 hB) hx15 rfl) <| Qa (Mv v_x1 rfl) <| Qa (Mi rfl) <| ?_
 obtain ⟨e16,hx17e,ho⟩:=bs ho
 have hx17:=idx_some hx17e
 refine Qa (Ix sl22 (kB h_x1 hB) hx17 rfl rfl rfl) <| Qa (Ei na2 (kB h_x1 hB) hx17 rfl) <| Qa (Bn rfl rfl) <| fun jd q0=>anz <| W_cond (b:=(e14) != (e16)) rfl ?_ ?_
 intro j4
 rw [j4] at ho
 refine wq <| Wq rfl q0 <| Qa (Ab rfl) <| fun qa pg=>anz <| ?_
 cases ho
 exact W_ret ⟨_,res_1 Tryz.results88,rfl,(hB.trans pg)⟩
 intro j4
 rw [j4] at ho
 refine W_skip <| inBlk_n <| anz <| Wq rfl q0 <| Qa (Mi rfl) <| Qa (Ba rfl rfl) <| Qa (Ai rfl) <| fun jq qj=>?_
 cases ho
 exact ⟨(hB.trans qj),fe rfl⟩
 intro pe
 rw [pe] at ho
 refine W_exit <| andThen_x <| ?_
 cases ho
 exact ⟨rfl,⟨(hB.trans pm),fe rfl⟩⟩
 rintro s0_5 _ q9 ⟨hB,F,rfl⟩ ho
 refine anz <| wq <| Wq rfl (cr [] q9) <| Qa (Ab rfl) <| fun jw jg=>anz <| ?_
 cases ho
 exact W_ret ⟨_,res_1 Tryz.results88,rfl,(hB.trans jg)⟩

abbrev spec_l05Place_post (w:World) (x:(Int)) (e:Ending) (w':World):Prop:=e = .returned (.int .i64 x)∧Chg [] w w'
abbrev spec_l05Place_T (w:World):=Tm Tryz.prog Tryz.f172 19 (spec_l05Place_post w)
theorem spec_l05Place_calls {w:World} {x0:(List (List Int))} {v_x0:Value} {f_x0:List Nat} {x1:(List Int)} {v_x1:Value} {f_x1:List Nat} (h_x0:(sImm (sImm (sInt .i64))).rep w.heap [v_x0] x0 f_x0) (h_x1:(sImm (sInt .i64)).rep w.heap [v_x1] x1 f_x1) {y:(Int)} (hm:spec_l05Place x0 x1=some y) :
  Calls Tryz.prog 172 #[v_x0,v_x1] w (spec_l05Place_post w y):=by
 refine Cm (S:=Unit) Tryz.func172 rfl Tryz.ntmps172 rfl hm fun o ho hB=>?_
 clear hm
 refine wq <| Wq rfl (cr [] w) <| Qa (Ai rfl) <| fun wd1 hC2=>anz <| wq <| wq <| Wq rfl hC2 <| Qa (Ai rfl) <| fun wd3 hC4=>anz <| Wf (S1:=Int) (fun (s0_5:Int) r w'=>Chg [] w w'∧∃ F,r=updL F [(0,v_x0),(1,v_x1),(5,.int .i64 (s0_5))]) (spec_l05Place_T w) ho ⟨(hB.trans hC4),fe rfl⟩ ?_ ?_
 rintro s0_5 _ wd5 ⟨hB,F,rfl⟩ o ho
 replace ho:spec_l05Place_L0 x0 x1 s0_5=some o:=ho
 unfold spec_l05Place_L0 at ho
 refine wq <| wq <| Wq rfl (cr [] wd5) <| Qa (Mi rfl) <| Qa (Mv v_x0 rfl) <| Qa (Ln sl23 (kB h_x0 hB) rfl) <| Qa (Bl rfl rfl) <| fun wd6 hC7=>anz <| W_cond (b:=decide (s0_5 < (x0.length:Int))) rfl ?_ ?_
 intro hb8
 rw [hb8] at ho
 refine W_skip <| anz <| wq <| W_block <| wq <| Wq rfl hC7 <| Qa (Mv v_x0 rfl) <| Qa (Mi rfl) <| ?_
 obtain ⟨e9,hx10e,ho⟩:=bs ho
 have hx10:=idx_some hx10e
 refine Qa (Ix sl23 (kB h_x0 hB) hx10 rfl rfl rfl) <| ?_
 obtain ⟨u11,fu12,hu13,p2k,hs15⟩:=one_get rfl h_x0 hx10.1 hx10.2
 refine Qa (Ld na22 (hB.cell0 hu13) rfl) <| Qa (Mv v_x1 rfl) <| ?_
 obtain ⟨y16,kw,ho⟩:=bs ho
 refine Qc Tryz.func88 rfl rfl (fun _ hC=>spec_l01Same_calls (kp _ p2k (hB.trans hC)) (kp _ h_x1 (hB.trans hC)) kw) <| fun jd q0=>anz <| W_cond (b:=y16) rfl ?_ ?_
 intro j4
 rw [j4] at ho
 refine wq <| Wq rfl q0 <| Qa (Mi rfl) <| Qa (Ai rfl) <| fun qa pg=>anz <| ?_
 cases ho
 exact W_ret ⟨_,res_1 Tryz.results172,rfl,(hB.trans pg)⟩
 intro j4
 rw [j4] at ho
 refine W_skip <| inBlk_n <| anz <| Wq rfl q0 <| Qa (Mi rfl) <| Qa (Ba rfl rfl) <| Qa (Ai rfl) <| fun jq qj=>?_
 cases ho
 exact ⟨(hB.trans qj),fe rfl⟩
 intro hb8
 rw [hb8] at ho
 refine W_exit <| andThen_x <| ?_
 cases ho
 exact ⟨rfl,⟨(hB.trans hC7),fe rfl⟩⟩
 rintro s0_5 _ q9 ⟨hB,F,rfl⟩ ho
 refine anz <| wq <| Wq rfl (cr [] q9) <| Qa (Ai rfl) <| fun jw jg=>anz <| ?_
 cases ho
 exact W_ret ⟨_,res_1 Tryz.results172,rfl,(hB.trans jg)⟩

abbrev spec_l01Own_post (w:World) (x:((List Int))) (e:Ending) (w':World):Prop:=∃ (v0:Value) (f0:List Nat),e = .returned (v0)∧Chg [] w w'∧OE [] w.heap.size w' (sOwn 2 (sInt .i64)) [v0] x f0
abbrev spec_l01Own_T (w:World):=Tm Tryz.prog Tryz.f89 6 (spec_l01Own_post w)
theorem spec_l01Own_calls {w:World} {x0:(List Int)} {v_x0:Value} {f_x0:List Nat} (h_x0:(sImm (sInt .i64)).rep w.heap [v_x0] x0 f_x0) {y:((List Int))} (hm:spec_l01Own x0=some y) :
  Calls Tryz.prog 89 #[v_x0] w (spec_l01Own_post w y):=by
 refine Cm (S:=Unit) Tryz.func89 rfl Tryz.ntmps89 rfl hm fun o ho hB=>?_
 clear hm
 refine wq <| Wq rfl (cr [] w) <| Qa (As rfl) <| fun wd1 hC2=>anz <| wq <| W_region rfl <| WL.lit0 (sInt .i64) u22z info2 fun v3 wd4 f5 hC6 o7=>?_
 replace o7:=OE.low (G:=[]) o7 (hB.trans hC2).size
 have hT8:=hC2.trans hC6
 replace hB:=(hB.trans hT8)
 refine Wb (Mv v_x0 rfl) <| ?_
 obtain ⟨n15,hn16,ho⟩:=bs ho
 have hn16a:=fits_some hn16
 refine WL.appendS (E:=(sInt .i64)) _ _ sInt_nofp u22z info2 zr2 sz2 rfl rfl rfl o7 rfl (kp _ h_x0 hB) (by rw [by2]; exact hn16a.1) hn16a.2 hB.size fun v9 qc f11 pm o13 hs14=>?_
 replace hB:=hB.then pm o7.2.2
 refine Wb (Av v9 rfl) <| anz <| ?_
 cases ho
 exact W_ret ⟨_,res_1 Tryz.results89,_,_,rfl,hB,o13⟩
end Go.Proofs.YtcmckiiafgcmjaaGreat
