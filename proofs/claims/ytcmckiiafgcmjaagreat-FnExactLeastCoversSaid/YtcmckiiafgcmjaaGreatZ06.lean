/- Walks, printed by a program: that a call of each function computes what its model says. No condition beside those that each theorem names. -/
import Derived.Test.YtcmckiiafgcmjaaGreatTy
import Derived.Test.YtcmckiiafgcmjaaGreatMo
import Derived.Test.YtcmckiiafgcmjaaGreatZ00
import Derived.Test.YtcmckiiafgcmjaaGreatZ03
import Derived.Test.YtcmckiiafgcmjaaGreatZ05
namespace Go.Proofs.YtcmckiiafgcmjaaGreat
open Go Go.Li
set_option linter.unusedVariables false
set_option maxHeartbeats 4000000
set_option maxRecDepth 100000
abbrev laws_markInt64SSS_post (v_x0:Value) (f_x0:List Nat) (w:World) (x:(Int×(List (List (List Int))))) (e:Ending) (w':World):Prop:=∃ (f0:List Nat),e = .returned (.int .i64 x.1)∧Chg f_x0 w w'∧OE f_x0 w.heap.size w' (sOwn 23 (sOwn 22 (sOwn 2 (sInt .i64)))) [v_x0] x.2 f0
abbrev laws_markInt64SSS_T (v_x0:Value) (f_x0:List Nat) (w:World):=Tm Tryz.prog Tryz.f85 19 (laws_markInt64SSS_post v_x0 f_x0 w)
theorem laws_markInt64SSS_calls {w:World} {x0:(List (List (List Int)))} {v_x0:Value} {f_x0:List Nat} {x1:Int} (o_x0:OE f_x0 w.heap.size w (sOwn 23 (sOwn 22 (sOwn 2 (sInt .i64)))) [v_x0] x0 f_x0) {y:(Int×(List (List (List Int))))} (hm:laws_markInt64SSS x0 x1=some y) :
  Calls Tryz.prog 85 #[v_x0,.int .i64 (x1)] w (laws_markInt64SSS_post v_x0 f_x0 w y):=by
 refine Cm (S:=Unit) Tryz.func85 rfl Tryz.ntmps85 rfl hm fun o ho hB=>?_
 clear hm
 have hB:Chg f_x0 w w:=cr _ _
 replace o_x0:OE f_x0 w.heap.size w (sOwn 23 (sOwn 22 (sOwn 2 (sInt .i64)))) [v_x0] x0 f_x0:=OE.give o_x0 fun b hb=>by simp [hb]
 refine wq <| Wq rfl (cr [] w) <| Qa (Ai rfl) <| fun wd1 hC2=>anz <| wq <| wq <| Wq rfl hC2 <| Qa (Ai rfl) <| fun wd3 hC4=>anz <| Wf (S1:=Int×Int×(List (List (List Int)))) (fun s r w'=>match s with | (s0_1,s0_5,s0_o_x0)=>∃ (f5:List Nat),Chg f_x0 w w'∧OE f_x0 w.heap.size w' (sOwn 23 (sOwn 22 (sOwn 2 (sInt .i64)))) [v_x0] (s0_o_x0) f5∧∃ F,r=updL F [(0,v_x0),(1,.int .i64 (s0_1)),(5,.int .i64 (s0_5))]) (laws_markInt64SSS_T v_x0 f_x0 w) ho ⟨_,(hB.trans (Chg.nil hC4)),(ko o_x0 hC4),fe rfl⟩ ?_ ?_
 rintro ⟨s0_1,s0_5,s0_o_x0⟩ _ wd6 ⟨f5,hB,o_x0,F,rfl⟩ o ho
 replace ho:laws_markInt64SSS_L0 s0_1 s0_5 s0_o_x0=some o:=ho
 unfold laws_markInt64SSS_L0 at ho
 refine wq <| wq <| Wq rfl (cr [] wd6) <| Qa (Mi rfl) <| Qa (Mv v_x0 rfl) <| Qa (Ln sl26 ((Le.own (Le.own (Le.own (Le.refl _) 2) 22) 23).le o_x0.1) rfl) <| Qa (Bl rfl rfl) <| fun wd7 hC8=>anz <| W_cond (b:=decide (s0_5 < (s0_o_x0.length:Int))) rfl ?_ ?_
 intro hb9
 rw [hb9] at ho
 refine W_skip <| anz <| wq <| W_block <| W_region rfl <| Wb (Mv v_x0 rfl) <| Wb (Mi rfl) <| ?_
 obtain ⟨e10,hx11e,ho⟩:=bs ho
 have hx11:=idx_some hx11e
 refine Wa hC8 (Ix sl26 ((Le.own (Le.own (Le.own (Le.refl _) 2) 22) 23).le o_x0.1) hx11 rfl rfl rfl) <| ?_
 obtain ⟨u12,fu13,hu14,p37,hs16⟩:=one_get rfl ((Le.own (Le.own (Le.own (Le.refl _) 2) 22) 23).le o_x0.1) hx11.1 hx11.2
 refine Wa hC8 (Ld na23 hu14 rfl) <| Wb (Mi rfl) <| ?_
 have nh:=hC8.trans (cr [] wd7)
 replace hu14:=nh.cell0 hu14
 replace p37:=kp _ p37 nh
 replace o_x0:=ko o_x0 nh
 replace hB:=(hB.trans (Chg.nil nh))
 obtain ⟨k18,p4,hk20,hf21⟩:=own_focus rfl hB.size o_x0 hx11.2 hu14
 obtain ⟨y22,p4b,ho⟩:=bs ho
 refine WL.call rfl (op_callF Tryz.func30 rfl rfl) (laws_markInt64SS_calls (OE.give (B':=wd7.heap.size) p4 fun _ h=>h) p4b) <| ?_
 rintro _ g8 ⟨f26,rfl,p38,qu⟩
 refine ⟨_,rfl,?_⟩
 obtain ⟨f28,j7,hs30⟩:=hf21 _ _ _ p38 qu
 replace hB:=hB.then p38 (fun b hb=>o_x0.2.2 b (hk20 b hb))
 refine Wb (Ai rfl) <| inBlk_n <| anz <| Wq rfl (cr [] g8) <| Qa (Mi rfl) <| Qa (Ba rfl rfl) <| Qa (Ai rfl) <| fun p9u p39=>?_
 cases ho
 exact ⟨_,(hB.trans (Chg.nil p39)),(ko j7 p39),fe rfl⟩
 intro hb9
 rw [hb9] at ho
 refine W_exit <| andThen_x <| ?_
 cases ho
 exact ⟨rfl,⟨_,(hB.trans (Chg.nil hC8)),(ko o_x0 hC8),fe rfl⟩⟩
 rintro ⟨s0_1,s0_5,s0_o_x0⟩ _ p3a ⟨f5,hB,o_x0,F,rfl⟩ ho
 dsimp only at ho
 refine anz <| wq <| Wq rfl (cr [] p3a) <| Qa (Mi rfl) <| Qa (Ai rfl) <| fun p9v p3b=>anz <| ?_
 cases ho
 exact W_ret ⟨_,res_1 Tryz.results85,_,rfl,(hB.trans (Chg.nil p3b)),(ko o_x0 p3b)⟩

abbrev laws_markTopology_post (zk:Value) (zo:List Nat) (zl:Value) (zp:List Nat) (zm:Value) (zq:List Nat) (zn:Value) (zr:List Nat) (zj:Value) (zd:List Nat) (w:World) (x:(Int×(List Int)×(List Int)×(List Int)×(List (List Int))×(List (List (List Int))))) (e:Ending) (w':World):Prop:=∃ (f0:List Nat) (f1:List Nat) (f2:List Nat) (f3:List Nat) (f4:List Nat),e = .returned (.int .i64 x.1)∧Chg (zo++(zp++(zq++(zr++zd)))) w w'∧OE (zo++(zp++(zq++(zr++zd)))) w.heap.size w' (sOwn 2 (sInt .i64)) [zk] x.2.1 f0∧OE (zo++(zp++(zq++(zr++zd)))) w.heap.size w' (sOwn 2 (sInt .i64)) [zl] x.2.2.1 f1∧OE (zo++(zp++(zq++(zr++zd)))) w.heap.size w' (sOwn 2 (sInt .i64)) [zm] x.2.2.2.1 f2∧OE (zo++(zp++(zq++(zr++zd)))) w.heap.size w' (sOwn 22 (sOwn 2 (sInt .i64))) [zn] x.2.2.2.2.1 f3∧OE (zo++(zp++(zq++(zr++zd)))) w.heap.size w' (sOwn 23 (sOwn 22 (sOwn 2 (sInt .i64)))) [zj] x.2.2.2.2.2 f4∧Dis f0 f1∧Dis f0 f2∧Dis f0 f3∧Dis f0 f4∧Dis f1 f2∧Dis f1 f3∧Dis f1 f4∧Dis f2 f3∧Dis f2 f4∧Dis f3 f4
abbrev laws_markTopology_T (zk:Value) (zo:List Nat) (zl:Value) (zp:List Nat) (zm:Value) (zq:List Nat) (zn:Value) (zr:List Nat) (zj:Value) (zd:List Nat) (w:World):=Tm Tryz.prog Tryz.f24 14 (laws_markTopology_post zk zo zl zp zm zq zn zr zj zd w)
theorem laws_markTopology_calls {w:World} {x0:MTopology} {zk:Value} {zo:List Nat} {zl:Value} {zp:List Nat} {zm:Value} {zq:List Nat} {zn:Value} {zr:List Nat} {zj:Value} {zd:List Nat} {x1:Int} (o_x0_Shape_From:OE zo w.heap.size w (sOwn 2 (sInt .i64)) [zk] x0.Shape.From zo) (o_x0_Shape_To:OE zp w.heap.size w (sOwn 2 (sInt .i64)) [zl] x0.Shape.To zp) (o_x0_Shape_Identity:OE zq w.heap.size w (sOwn 2 (sInt .i64)) [zm] x0.Shape.Identity zq) (o_x0_Shape_Composites:OE zr w.heap.size w (sOwn 22 (sOwn 2 (sInt .i64))) [zn] x0.Shape.Composites zr) (o_x0_Covers:OE zd w.heap.size w (sOwn 23 (sOwn 22 (sOwn 2 (sInt .i64)))) [zj] x0.Covers zd) (d_0_1:Dis zo zp) (d_0_2:Dis zo zq) (d_0_3:Dis zo zr) (d_0_4:Dis zo zd) (d_1_2:Dis zp zq) (d_1_3:Dis zp zr) (d_1_4:Dis zp zd) (d_2_3:Dis zq zr) (d_2_4:Dis zq zd) (d_3_4:Dis zr zd) {y:(Int×(List Int)×(List Int)×(List Int)×(List (List Int))×(List (List (List Int))))} (hm:laws_markTopology x0 x1=some y) :
  Calls Tryz.prog 24 #[.agg #[.int .i64 (x0.Shape.Objects),zk,zl,zm,zn,zj],.int .i64 (x1)] w (laws_markTopology_post zk zo zl zp zm zq zn zr zj zd w y):=by
 refine Cm (S:=Unit) Tryz.func24 rfl Tryz.ntmps24 rfl hm fun o ho hB=>?_
 clear hm
 have hB:Chg (zo++(zp++(zq++(zr++zd)))) w w:=cr _ _
 replace o_x0_Shape_From:OE (zo++(zp++(zq++(zr++zd)))) w.heap.size w (sOwn 2 (sInt .i64)) [zk] x0.Shape.From zo:=OE.give o_x0_Shape_From fun b hb=>by simp [hb]
 replace o_x0_Shape_To:OE (zo++(zp++(zq++(zr++zd)))) w.heap.size w (sOwn 2 (sInt .i64)) [zl] x0.Shape.To zp:=OE.give o_x0_Shape_To fun b hb=>by simp [hb]
 replace o_x0_Shape_Identity:OE (zo++(zp++(zq++(zr++zd)))) w.heap.size w (sOwn 2 (sInt .i64)) [zm] x0.Shape.Identity zq:=OE.give o_x0_Shape_Identity fun b hb=>by simp [hb]
 replace o_x0_Shape_Composites:OE (zo++(zp++(zq++(zr++zd)))) w.heap.size w (sOwn 22 (sOwn 2 (sInt .i64))) [zn] x0.Shape.Composites zr:=OE.give o_x0_Shape_Composites fun b hb=>by simp [hb]
 replace o_x0_Covers:OE (zo++(zp++(zq++(zr++zd)))) w.heap.size w (sOwn 23 (sOwn 22 (sOwn 2 (sInt .i64)))) [zj] x0.Covers zd:=OE.give o_x0_Covers fun b hb=>by simp [hb]
 refine wq <| W_region rfl <| WL.box fun b1 wd2 hC3 hr4 hl5=>?_
 replace hr4:Row wd2 b1 [.int .i64 (x0.Shape.Objects),zk,zl,zm,zn,zj] 34:=hr4
 have d7:=dl (onw hl5) (sl _ o_x0_Shape_From.1)
 have d8:=dl (onw hl5) (sl _ o_x0_Shape_To.1)
 have d9:=dl (onw hl5) (sl _ o_x0_Shape_Identity.1)
 have d10:=dl (onw hl5) (sl _ o_x0_Shape_Composites.1)
 have d11:=dl (onw hl5) (sl _ o_x0_Covers.1)
 replace o_x0_Shape_From:=ko o_x0_Shape_From hC3
 replace o_x0_Shape_To:=ko o_x0_Shape_To hC3
 replace o_x0_Shape_Identity:=ko o_x0_Shape_Identity hC3
 replace o_x0_Shape_Composites:=ko o_x0_Shape_Composites hC3
 replace o_x0_Covers:=ko o_x0_Covers hC3
 replace hB:=(hB.trans (Chg.nil hC3))
 refine Wb (Ai rfl) <| anz <| wq <| W_region rfl <| Wb (Fr fa34_0 rfl) <| ?_
 refine WL.val (v:=.agg #[.int .i64 (x0.Shape.Objects),zk,zl,zm,zn]) rfl (op_loadAgg (cs:=[.int .i64 (x0.Shape.Objects),zk,zl,zm,zn]) u32 rfl info32 (by rw [sz32]; rfl) rfl (At.sub hr4.at 0 5)) ?_
 refine Wb (Mi rfl) <| ?_
 obtain ⟨y13,p4f,ho⟩:=bs ho
 refine WL.call rfl (op_callF Tryz.func43 rfl rfl) (laws_markCategory_calls (OE.give (B':=wd2.heap.size) o_x0_Shape_From fun _ h=>h) (OE.give (B':=wd2.heap.size) o_x0_Shape_To fun _ h=>h) (OE.give (B':=wd2.heap.size) o_x0_Shape_Identity fun _ h=>h) (OE.give (B':=wd2.heap.size) o_x0_Shape_Composites fun _ h=>h) d_0_1 d_0_2 d_0_3 d_1_2 d_1_3 d_2_3 p4f) <| ?_
 rintro _ p3c ⟨f17,j8,f21,f23,rfl,k9,jl,p6,jm,jn,d25,d26,d27,g9,d29,d30⟩
 refine ⟨_,rfl,?_⟩
 have d31:=dis_back jl (da d_0_4 (da d_1_4 (da d_2_4 d_3_4))) (sl _ o_x0_Covers.1)
 have ni:=dis_back p6 (da d_0_4 (da d_1_4 (da d_2_4 d_3_4))) (sl _ o_x0_Covers.1)
 have d35:=dis_back jm (da d_0_4 (da d_1_4 (da d_2_4 d_3_4))) (sl _ o_x0_Covers.1)
 have d37:=dis_back jn (da d_0_4 (da d_1_4 (da d_2_4 d_3_4))) (sl _ o_x0_Covers.1)
 replace jl:=OE.back jl (low_app o_x0_Shape_From.2.2 (low_app o_x0_Shape_To.2.2 (low_app o_x0_Shape_Identity.2.2 o_x0_Shape_Composites.2.2))) hB.size
 replace p6:=OE.back p6 (low_app o_x0_Shape_From.2.2 (low_app o_x0_Shape_To.2.2 (low_app o_x0_Shape_Identity.2.2 o_x0_Shape_Composites.2.2))) hB.size
 replace jm:=OE.back jm (low_app o_x0_Shape_From.2.2 (low_app o_x0_Shape_To.2.2 (low_app o_x0_Shape_Identity.2.2 o_x0_Shape_Composites.2.2))) hB.size
 replace jn:=OE.back jn (low_app o_x0_Shape_From.2.2 (low_app o_x0_Shape_To.2.2 (low_app o_x0_Shape_Identity.2.2 o_x0_Shape_Composites.2.2))) hB.size
 have ga:=((cr [] wd2).nil (G:=(zo++(zp++(zq++zr))))).trans k9
 replace o_x0_Covers:=okp o_x0_Covers ga (Dis.symm (da d_0_4 (da d_1_4 (da d_2_4 d_3_4))))
 replace hr4:=Row.keep hr4 ga ((Dis.symm (da (d7).symm (da (d8).symm (da (d9).symm (d10).symm)))) _ (ms rfl))
 replace hB:=hB.then ga (low_app o_x0_Shape_From.2.2 (low_app o_x0_Shape_To.2.2 (low_app o_x0_Shape_Identity.2.2 o_x0_Shape_Composites.2.2)))
 refine Wb (Ai rfl) <| anz <| wq <| W_region rfl <| Wb (Fr fa34_1 rfl) <| Wb (Lr na26 hr4 rfl rfl) <| Wb (Mi rfl) <| ?_
 obtain ⟨y40,p4l,ho⟩:=bs ho
 refine WL.call rfl (op_callF Tryz.func85 rfl rfl) (laws_markInt64SSS_calls (OE.give (B':=p3c.heap.size) o_x0_Covers fun _ h=>h) p4l) <| ?_
 rintro _ gb ⟨f44,rfl,jt,jo⟩
 refine ⟨_,rfl,?_⟩
 have d47:=dis_back jo (d31).symm (sl _ jl.1)
 have d48:=dis_back jo (ni).symm (sl _ p6.1)
 have jp:=dis_back jo (d35).symm (sl _ jm.1)
 have ka:=dis_back jo (d37).symm (sl _ jn.1)
 replace jo:=OE.back jo o_x0_Covers.2.2 hB.size
 replace hr4:=Row.keep hr4 jt ((Dis.symm (d11).symm) _ (ms rfl))
 replace jl:=okp jl jt (Dis.symm (d31).symm)
 replace p6:=okp p6 jt (Dis.symm (ni).symm)
 replace jm:=okp jm jt (Dis.symm (d35).symm)
 replace jn:=okp jn jt (Dis.symm (d37).symm)
 replace hB:=hB.then jt o_x0_Covers.2.2
 refine Wb (Ai rfl) <| anz <| wq <| Wq rfl (cr [] gb) <| Qa (Mi rfl) <| Qa (Ai rfl) <| fun pa0 ju=>anz <| ?_
 cases ho
 exact W_ret ⟨_,res_1 Tryz.results24,_,_,_,_,_,rfl,(hB.trans (Chg.nil ju)),(ko jl ju),(ko p6 ju),(ko jm ju),(ko jn ju),(ko jo ju),d25,d26,d27,((d47).symm),g9,d29,((d48).symm),d30,((jp).symm),((ka).symm)⟩

abbrev laws_heldInt64S_post (w:World) (x:(Int)) (e:Ending) (w':World):Prop:=e = .returned (.int .i64 x)∧Chg [] w w'
abbrev laws_heldInt64S_T (w:World):=Tm Tryz.prog Tryz.f26 21 (laws_heldInt64S_post w)
theorem laws_heldInt64S_calls {w:World} {x0:(List Int)} {v_x0:Value} {f_x0:List Nat} {x1:Int} (h_x0:(sImm (sInt .i64)).rep w.heap [v_x0] x0 f_x0) {y:(Int)} (hm:laws_heldInt64S x0 x1=some y) :
  Calls Tryz.prog 26 #[v_x0,.int .i64 (x1)] w (laws_heldInt64S_post w y):=by
 refine Cm (S:=Unit) Tryz.func26 rfl Tryz.ntmps26 rfl hm fun o ho hB=>?_
 clear hm
 refine wq <| Wq rfl (cr [] w) <| Qa (Ai rfl) <| fun wd1 hC2=>anz <| wq <| wq <| Wq rfl hC2 <| Qa (Ai rfl) <| fun wd3 hC4=>anz <| Wf (S1:=Int×Int) (fun s r w'=>match s with | (s0_1,s0_5)=>Chg [] w w'∧∃ F,r=updL F [(0,v_x0),(1,.int .i64 (s0_1)),(5,.int .i64 (s0_5))]) (laws_heldInt64S_T w) ho ⟨(hB.trans hC4),fe rfl⟩ ?_ ?_
 rintro ⟨s0_1,s0_5⟩ _ wd5 ⟨hB,F,rfl⟩ o ho
 replace ho:laws_heldInt64S_L0 x0 s0_1 s0_5=some o:=ho
 unfold laws_heldInt64S_L0 at ho
 refine wq <| wq <| Wq rfl (cr [] wd5) <| Qa (Mi rfl) <| Qa (Mv v_x0 rfl) <| Qa (Ln sl22 (kB h_x0 hB) rfl) <| Qa (Bl rfl rfl) <| fun wd6 hC7=>anz <| W_cond (b:=decide (s0_5 < (x0.length:Int))) rfl ?_ ?_
 intro hb8
 rw [hb8] at ho
 refine W_skip <| anz <| wq <| W_block <| wq <| wq <| Wq rfl hC7 <| Qa (Mv v_x0 rfl) <| Qa (Mi rfl) <| ?_
 obtain ⟨e9,hx10e,ho⟩:=bs ho
 have hx10:=idx_some hx10e
 refine Qa (Ix sl22 (kB h_x0 hB) hx10 rfl rfl rfl) <| Qa (Ei na2 (kB h_x0 hB) hx10 rfl) <| Qa (Mi rfl) <| Qa (Bn rfl rfl) <| fun p4m kb=>anz <| W_cond (b:=(e9) != (s0_1)) rfl ?_ ?_
 intro gc
 rw [gc] at ho
 refine wq <| Wq rfl kb <| Qa (Ai rfl) <| fun p4n pt=>anz <| ?_
 cases ho
 exact W_ret ⟨_,res_1 Tryz.results26,rfl,(hB.trans pt)⟩
 intro gc
 rw [gc] at ho
 refine W_skip <| anz <| Wq rfl kb <| Qa (Mi rfl) <| Qa (Ba rfl rfl) <| Qa (Ai rfl) <| fun pa1 p4o=>inBlk_n <| anz <| Wq rfl p4o <| Qa (Mi rfl) <| Qa (Ba rfl rfl) <| Qa (Ai rfl) <| fun p3i j9=>?_
 cases ho
 exact ⟨(hB.trans j9),fe rfl⟩
 intro hb8
 rw [hb8] at ho
 refine W_exit <| andThen_x <| ?_
 cases ho
 exact ⟨rfl,⟨(hB.trans hC7),fe rfl⟩⟩
 rintro ⟨s0_1,s0_5⟩ _ p3j ⟨hB,F,rfl⟩ ho
 dsimp only at ho
 refine anz <| wq <| Wq rfl (cr [] p3j) <| Qa (Mi rfl) <| Qa (Ai rfl) <| fun nj kc=>anz <| ?_
 cases ho
 exact W_ret ⟨_,res_1 Tryz.results26,rfl,(hB.trans kc)⟩

abbrev spec_l27Least_post (w:World) (x:((List (List Int)))) (e:Ending) (w':World):Prop:=∃ (v0:Value) (f0:List Nat),e = .returned (v0)∧Chg [] w w'∧OE [] w.heap.size w' (sOwn 22 (sOwn 2 (sInt .i64))) [v0] x f0
abbrev spec_l27Least_T (w:World):=Tm Tryz.prog Tryz.f86 68 (spec_l27Least_post w)
theorem spec_l27Least_calls {w:World} {x0:MTopology} {zk:Value} {zo:List Nat} {zl:Value} {zp:List Nat} {zm:Value} {zq:List Nat} {zn:Value} {zr:List Nat} {zj:Value} {zd:List Nat} (zt:(sImm (sInt .i64)).rep w.heap [zk] x0.Shape.From zo) (zu:(sImm (sInt .i64)).rep w.heap [zl] x0.Shape.To zp) (zv:(sImm (sInt .i64)).rep w.heap [zm] x0.Shape.Identity zq) (zw:(sImm (sImm (sInt .i64))).rep w.heap [zn] x0.Shape.Composites zr) (zi:(sImm (sImm (sImm (sInt .i64)))).rep w.heap [zj] x0.Covers zd) {y:((List (List Int)))} (hm:spec_l27Least x0=some y) :
  Calls Tryz.prog 86 #[.agg #[.int .i64 (x0.Shape.Objects),zk,zl,zm,zn,zj]] w (spec_l27Least_post w y):=by
 refine Cm (S:=Unit) Tryz.func86 rfl Tryz.ntmps86 rfl hm fun o ho hB=>?_
 clear hm
 refine wq <| W_region rfl <| WL.box fun b1 wd2 hC3 hr4 hl5=>?_
 replace hr4:Row wd2 b1 [.int .i64 (x0.Shape.Objects),zk,zl,zm,zn,zj] 34:=hr4
 replace hB:=(hB.trans hC3)
 refine Wb (As rfl) <| anz <| wq <| W_region rfl <| WL.lit0 (sOwn 2 (sInt .i64)) u23z info22 fun v8 wd9 f10 qv nk=>?_
 have d13:=dl (ofr nk) (one_lt (Row.lt hr4))
 replace nk:=OE.low (G:=[]) nk hB.size
 replace hr4:=kr hr4 qv
 replace hB:=(hB.trans qv)
 refine Wb (Av v8 rfl) <| anz <| wq <| wq <| Wq rfl (cr [] wd9) <| Qa (Ai rfl) <| fun p3c k9=>anz <| Wf (S1:=(List (List Int))×Int) (fun s r w'=>match s with | (s0_3,s0_4)=>∃ (v17:Value) (qj:List Nat),Chg [] w w'∧Row w' b1 [.int .i64 (x0.Shape.Objects),zk,zl,zm,zn,zj] 34∧OE [] w.heap.size w' (sOwn 22 (sOwn 2 (sInt .i64))) [v17] (s0_3) qj∧Dis [b1] qj∧∃ F,r=updL F [(1,.pointer (some (⟨b1,0,none⟩))),(3,v17),(4,.int .i64 (s0_4))]) (spec_l27Least_T w) ho ⟨_,_,(hB.trans k9),(kr hr4 k9),(ko nk k9),((d13).symm),fe rfl⟩ ?_ ?_
 rintro ⟨s0_3,s0_4⟩ _ nj ⟨v17,qj,hB,hr4,p4,gd,F,rfl⟩ o ho
 replace ho:spec_l27Least_L0 x0 s0_3 s0_4=some o:=ho
 unfold spec_l27Least_L0 at ho
 refine wq <| wq <| Wq rfl (cr [] nj) <| Qa (Mi rfl) <| Qa (Fr fa34_1 rfl) <| Qa (Lr na26 hr4 rfl rfl) <| Qa (Ln sl26 (kB zi hB) rfl) <| Qa (Bl rfl rfl) <| fun p3k qk=>anz <| W_cond (b:=decide (s0_4 < (x0.Covers.length:Int))) rfl ?_ ?_
 intro ge
 rw [ge] at ho
 refine W_skip <| anz <| wq <| W_block <| wq <| W_region rfl <| Wb (Fr fa34_0 rfl) <| ?_
 refine WL.val (v:=.agg #[.int .i64 (x0.Shape.Objects),zk,zl,zm,zn]) rfl (op_loadAgg (cs:=[.int .i64 (x0.Shape.Objects),zk,zl,zm,zn]) u32 rfl info32 (by rw [sz32]; rfl) rfl (At.sub (kr hr4 qk).at 0 5)) ?_
 refine Wb (Mi rfl) <| ?_
 obtain ⟨y25,p4q,ho⟩:=bs ho
 refine WL.call rfl (op_callF Tryz.func143 rfl rfl) (spec_l25Out_calls (kp _ zt (hB.trans qk)) (kp _ zu (hB.trans qk)) (kp _ zv (hB.trans qk)) (kp _ zw (hB.trans qk)) p4q) <| ?_
 rintro _ p3l ⟨v29,j2,rfl,p4r,p2⟩
 refine ⟨_,rfl,?_⟩
 have nl:=dl (ofr p2) (one_lt (Row.lt (kr hr4 qk)))
 have ni:=dl (ofr p2) (sl _ (kp _ p4.1 qk))
 replace p2:=OE.low (G:=[]) p2 (hB.trans qk).size
 have gf:=qk.trans p4r
 replace hr4:=kr hr4 gf
 replace p4:=ko p4 gf
 replace hB:=(hB.trans gf)
 refine Wb (Av v29 rfl) <| anz <| wq <| W_region rfl <| WL.lit0 (sInt .i64) u22z info2 fun v35 p4s f37 nm jv=>?_
 have d40:=dl (ofr jv) (one_lt (Row.lt hr4))
 have j3:=dl (ofr jv) (sl _ p4.1)
 have gg:=dl (ofr jv) (sl _ p2.1)
 replace jv:=OE.low (G:=[]) jv hB.size
 replace hr4:=kr hr4 nm
 replace p4:=ko p4 nm
 replace p2:=ko p2 nm
 replace hB:=(hB.trans nm)
 refine Wb (Av v35 rfl) <| anz <| wq <| wq <| Wq rfl (cr [] p4s) <| Qa (Ai rfl) <| fun pa4 kd=>anz <| Wf (S1:=(List Int)×Int) (fun s r w'=>match s with | (s1_6,s1_7)=>∃ (v46:Value) (qw:List Nat),Chg [] w w'∧Row w' b1 [.int .i64 (x0.Shape.Objects),zk,zl,zm,zn,zj] 34∧OE [] w.heap.size w' (sOwn 22 (sOwn 2 (sInt .i64))) [v17] (s0_3) qj∧OE [] w.heap.size w' (sOwn 2 (sInt .i64)) [v29] (y25) j2∧OE [] w.heap.size w' (sOwn 2 (sInt .i64)) [v46] (s1_6) qw∧Dis [b1] qj∧Dis [b1] j2∧Dis [b1] qw∧Dis qj j2∧Dis qj qw∧Dis j2 qw∧∃ F,r=updL F [(1,.pointer (some (⟨b1,0,none⟩))),(3,v17),(4,.int .i64 (s0_4)),(5,v29),(6,v46),(7,.int .i64 (s1_7))]) (spec_l27Least_T w) ho ⟨_,_,(hB.trans kd),(kr hr4 kd),(ko p4 kd),(ko p2 kd),(ko jv kd),(gd),((nl).symm),((d40).symm),((ni).symm),((j3).symm),((gg).symm),fe rfl⟩ ?_ ?_
 rintro ⟨s1_6,s1_7⟩ _ p4t ⟨v46,qw,hB,hr4,p4,p2,po,jp,ka,nn,gh,ke,gi,F,rfl⟩ o ho
 replace ho:spec_l27Least_L1 x0 s0_4 y25 s1_6 s1_7=some o:=ho
 unfold spec_l27Least_L1 at ho
 refine wq <| wq <| Wq rfl (cr [] p4t) <| Qa (Mi rfl) <| Qa (Mv v29 rfl) <| Qa (Ln sl22 ((Le.own (Le.refl _) 2).le p2.1) rfl) <| Qa (Bl rfl rfl) <| fun p4u q0=>anz <| W_cond (b:=decide (s1_7 < (y25.length:Int))) rfl ?_ ?_
 intro gj
 rw [gj] at ho
 refine W_skip <| anz <| wq <| W_block <| wq <| Wq rfl q0 <| Qa (Ab rfl) <| fun pa5 p4v=>anz <| wq <| wq <| Wq rfl p4v <| Qa (Ai rfl) <| fun pa6 kf=>anz <| Wf (S1:=Bool×Int) (fun s r w'=>match s with | (s2_8,s2_9)=>Chg [] w w'∧Row w' b1 [.int .i64 (x0.Shape.Objects),zk,zl,zm,zn,zj] 34∧OE [] w.heap.size w' (sOwn 22 (sOwn 2 (sInt .i64))) [v17] (s0_3) qj∧OE [] w.heap.size w' (sOwn 2 (sInt .i64)) [v29] (y25) j2∧OE [] w.heap.size w' (sOwn 2 (sInt .i64)) [v46] (s1_6) qw∧Dis [b1] qj∧Dis [b1] j2∧Dis [b1] qw∧Dis qj j2∧Dis qj qw∧Dis j2 qw∧∃ F,r=updL F [(1,.pointer (some (⟨b1,0,none⟩))),(3,v17),(4,.int .i64 (s0_4)),(5,v29),(6,v46),(7,.int .i64 (s1_7)),(8,.bool (s2_8)),(9,.int .i64 (s2_9))]) (spec_l27Least_T w) ho ⟨(hB.trans kf),(kr hr4 kf),(ko p4 kf),(ko p2 kf),(ko po kf),(jp),(ka),(nn),(gh),(ke),(gi),fe rfl⟩ ?_ ?_
 rintro ⟨s2_8,s2_9⟩ _ p4w ⟨hB,hr4,p4,p2,po,jw,kg,jx,kh,jy,jz,F,rfl⟩ o ho
 replace ho:spec_l27Least_L2 x0 s0_4 y25 s1_7 s2_8 s2_9=some o:=ho
 unfold spec_l27Least_L2 at ho
 refine wq <| wq <| Wq rfl (cr [] p4w) <| Qa (Mi rfl) <| Qa (Fr fa34_1 rfl) <| Qa (Lr na26 hr4 rfl rfl) <| Qa (Mi rfl) <| ?_
 obtain ⟨e70,hx71e,ho⟩:=bs ho
 have hx71:=idx_some hx71e
 refine Qa (Ix sl26 (kB zi hB) hx71 rfl rfl rfl) <| ?_
 obtain ⟨u72,fu73,hu74,p4x,hs76⟩:=one_get rfl zi hx71.1 hx71.2
 refine Qa (Ld na23 (hB.cell0 hu74) rfl) <| Qa (Ln sl23 (kB p4x hB) rfl) <| Qa (Bl rfl rfl) <| fun pa7 k0=>anz <| W_cond (b:=decide (s2_9 < (e70.length:Int))) rfl ?_ ?_
 intro gk
 rw [gk] at ho
 refine W_skip <| anz <| wq <| W_block <| Wqd rfl (by kernel_rfl) k0 <| ?_
 obtain ⟨g80,hm81,ho⟩:=bs ho
 refine QL.meet (fun r=>∃ F,r=updL F [(1,.pointer (some (⟨b1,0,none⟩))),(3,v17),(4,.int .i64 (s0_4)),(5,v29),(6,v46),(7,.int .i64 (s1_7)),(8,.bool (g80)),(9,.int .i64 (s2_9))]) ?_ ?_
 skip
 refine Qa (Mb rfl) <| Qa (Mb rfl) <| ?_
 rcases Bool.eq_false_or_eq_true s2_8 with p5 | p5
 rw [p5] at hm81
 refine Qg rfl p5 (Fr fa34_1 rfl) <| Qg rfl p5 (Lr na26 hr4 rfl rfl) <| Qg rfl p5 (Mi rfl) <| ?_
 obtain ⟨e83,hx84e,hm81⟩:=bs hm81
 have hx84:=idx_some hx84e
 refine Qg rfl p5 (Ix sl26 (kB zi hB) hx84 rfl rfl rfl) <| ?_
 obtain ⟨u85,fu86,hu87,p3n,hs89⟩:=one_get rfl zi hx84.1 hx84.2
 refine Qg rfl p5 (Ld na23 (hB.cell0 hu87) rfl) <| Qg rfl p5 (Mi rfl) <| ?_
 obtain ⟨e90,hx91e,hm81⟩:=bs hm81
 have hx91:=idx_some hx91e
 refine Qg rfl p5 (Ix sl23 (kB p3n hB) hx91 rfl rfl rfl) <| ?_
 obtain ⟨u92,fu93,hu94,p4y,hs96⟩:=one_get rfl p3n hx91.1 hx91.2
 refine Qg rfl p5 (Ld na22 (hB.cell0 hu94) rfl) <| Qg rfl p5 (Mv v29 rfl) <| Qg rfl p5 (Mi rfl) <| ?_
 obtain ⟨e97,hx98e,hm81⟩:=bs hm81
 have hx98:=idx_some hx98e
 refine Qg rfl p5 (Ix sl22 ((Le.own (Le.refl _) 2).le p2.1) hx98 rfl rfl rfl) <| Qg rfl p5 (Ei na2 ((Le.own (Le.refl _) 2).le p2.1) hx98 rfl) <| ?_
 obtain ⟨y99,p4z,hm81⟩:=bs hm81
 refine Qcg rfl p5 Tryz.func141 rfl rfl (fun _ hC=>spec_l01Has_calls (kp _ p4y (hB.trans hC)) p4z) <| Qa (PTb rfl p5 rfl) <| Qa (Ab rfl) <| ?_
 cases hm81
 exact fe rfl
 rw [p5] at hm81
 refine Sk rfl p5 rfl <| Sk rfl p5 rfl <| Sk rfl p5 rfl <| Sk rfl p5 rfl <| Sk rfl p5 rfl <| Sk rfl p5 rfl <| Sk rfl p5 rfl <| Sk rfl p5 rfl <| Sk rfl p5 rfl <| Sk rfl p5 rfl <| Sk rfl p5 rfl <| Sk rfl p5 rfl <| Sk rfl p5 rfl <| Qa (PFb rfl p5 rfl) <| Qa (Ab rfl) <| ?_
 cases hm81
 exact fe rfl
 rintro _ ⟨F,rfl⟩
 refine fun pa8 p50=>inBlk_n <| anz <| Wq rfl p50 <| Qa (Mi rfl) <| Qa (Ba rfl rfl) <| Qa (Ai rfl) <| fun p51 ja=>?_
 cases ho
 exact ⟨(hB.trans ja),(kr hr4 ja),(ko p4 ja),(ko p2 ja),(ko po ja),jw,kg,jx,kh,jy,jz,fe rfl⟩
 intro gk
 rw [gk] at ho
 refine W_exit <| andThen_x <| ?_
 cases ho
 exact ⟨rfl,⟨(hB.trans k0),(kr hr4 k0),(ko p4 k0),(ko p2 k0),(ko po k0),jw,kg,jx,kh,jy,jz,fe rfl⟩⟩
 rintro ⟨s2_8,s2_9⟩ _ p52 ⟨hB,hr4,p4,p2,po,jw,kg,jx,kh,jy,jz,F,rfl⟩ ho
 dsimp only at ho
 refine anz <| wq <| Wq rfl (cr [] p52) <| Qa (Mb rfl) <| fun pa9 ki=>anz <| W_cond (b:=s2_8) rfl ?_ ?_
 intro gl
 rw [gl] at ho
 refine W_region rfl <| Wb (Mv v46 rfl) <| Wb (Mv v29 rfl) <| Wb (Mi rfl) <| ?_
 obtain ⟨e109,hx110e,ho⟩:=bs ho
 have hx110:=idx_some hx110e
 refine Wa ki (Ix sl22 ((Le.own (Le.refl _) 2).le p2.1) hx110 rfl rfl rfl) <| Wa ki (Ei na2 ((Le.own (Le.refl _) 2).le p2.1) hx110 rfl) <| WL.lit1 u22z info2 zr2 sz2 rfl fun p53 p54 p55 kj p56=>?_
 replace kj:Row p54 p53 [.int .i64 (e109)] 2:=kj
 have k1:=dl (onw p56) (sl _ (kp _ po.1 ki))
 have jb:=ki.trans p55
 replace hr4:=kr hr4 jb
 replace p4:=ko p4 jb
 replace p2:=ko p2 jb
 replace po:=ko po jb
 replace hB:=(hB.trans jb)
 obtain ⟨n128,hn129,ho⟩:=bs ho
 have hn129a:=fits_some hn129
 refine WL.append1 (E:=(sInt .i64)) _ _ u22z info2 zr2 sz2 rfl rfl rfl po rfl kj ⟨rfl,rfl⟩ List.nodup_nil (fun _ h=>nomatch h) (fun _ h=>nomatch h) (by rw [by2]; exact hn129a.1) hn129a.2 hB.size fun v122 p57 paa kk p58 hs127=>?_
 have gm:=dis_upd hs127 (jx).symm (fun _ h=>nomatch h) (one_lt (Row.lt hr4))
 have gn:=dis_upd hs127 (jy).symm (fun _ h=>nomatch h) (sl _ p4.1)
 have go:=dis_upd hs127 (jz).symm (fun _ h=>nomatch h) (sl _ p2.1)
 replace hr4:=Row.keep hr4 kk (jx _ (ms rfl))
 replace p4:=okp p4 kk jy
 replace p2:=okp p2 kk jz
 replace kj:=Row.keep kj kk (k1 _ (ms rfl))
 replace hB:=hB.then kk po.2.2
 refine Wb (Av v122 rfl) <| inBlk_n <| anz <| Wq rfl (cr [] p57) <| Qa (Mi rfl) <| Qa (Ba rfl rfl) <| Qa (Ai rfl) <| fun pab kl=>?_
 cases ho
 exact ⟨_,_,(hB.trans kl),(kr hr4 kl),(ko p4 kl),(ko p2 kl),(ko p58 kl),jw,kg,((gm).symm),kh,((gn).symm),((go).symm),fe rfl⟩
 intro gl
 rw [gl] at ho
 refine W_skip <| inBlk_n <| anz <| Wq rfl ki <| Qa (Mi rfl) <| Qa (Ba rfl rfl) <| Qa (Ai rfl) <| fun pac km=>?_
 cases ho
 exact ⟨_,_,(hB.trans km),(kr hr4 km),(ko p4 km),(ko p2 km),(ko po km),jw,kg,jx,kh,jy,jz,fe rfl⟩
 intro gj
 rw [gj] at ho
 refine W_exit <| andThen_x <| ?_
 cases ho
 exact ⟨rfl,⟨_,_,(hB.trans q0),(kr hr4 q0),(ko p4 q0),(ko p2 q0),(ko po q0),jp,ka,nn,gh,ke,gi,fe rfl⟩⟩
 rintro ⟨s1_6,s1_7⟩ _ pad ⟨v46,qw,hB,hr4,p4,p2,po,jp,ka,nn,gh,ke,gi,F,rfl⟩ ho
 dsimp only at ho
 refine anz <| W_region rfl <| Wb (Mv v17 rfl) <| Wb (Mv v46 rfl) <| WL.lit1 u23z info22 zr22 sz22 (STy.one _ po.1 _ (ms rfl)) fun p59 p5a no kn p5b=>?_
 replace kn:Row p5a p59 [v46] 22:=kn
 have p5c:=dl (onw p5b) (sl _ p4.1)
 replace hr4:=kr hr4 no
 replace p4:=ko p4 no
 replace po:=ko po no
 replace hB:=(hB.trans no)
 obtain ⟨n156,hn157,ho⟩:=bs ho
 have hn157a:=fits_some hn157
 refine WL.append1 (E:=(sOwn 2 (sInt .i64))) _ _ u23z info22 zr22 sz22 rfl rfl rfl p4 rfl kn po.1 po.2.1 po.2.2 (ke).symm (by rw [by22]; exact hn157a.1) hn157a.2 hB.size fun v150 p5d pae gp p5e hs155=>?_
 have gq:=dis_upd hs155 (jp).symm (nn).symm (one_lt (Row.lt hr4))
 replace hr4:=Row.keep hr4 gp (jp _ (ms rfl))
 replace kn:=Row.keep kn gp (p5c _ (ms rfl))
 replace hB:=hB.then gp p4.2.2
 refine Wb (Av v150 rfl) <| inBlk_n <| anz <| Wq rfl (cr [] p5d) <| Qa (Mi rfl) <| Qa (Ba rfl rfl) <| Qa (Ai rfl) <| fun paf gr=>?_
 cases ho
 exact ⟨_,_,(hB.trans gr),(kr hr4 gr),(ko p5e gr),((gq).symm),fe rfl⟩
 intro ge
 rw [ge] at ho
 refine W_exit <| andThen_x <| ?_
 cases ho
 exact ⟨rfl,⟨_,_,(hB.trans qk),(kr hr4 qk),(ko p4 qk),gd,fe rfl⟩⟩
 rintro ⟨s0_3,s0_4⟩ _ p5f ⟨v17,qj,hB,hr4,p4,gd,F,rfl⟩ ho
 dsimp only at ho
 refine anz <| wq <| Wq rfl (cr [] p5f) <| Qa (Mv v17 rfl) <| Qa (Av v17 rfl) <| fun pag p3o=>anz <| ?_
 cases ho
 exact W_ret ⟨_,res_1 Tryz.results86,_,_,rfl,(hB.trans p3o),(ko p4 p3o)⟩

abbrev spec_LeastCovers_post (w:World) (x:((List (List Int))×Int)) (e:Ending) (w':World):Prop:=∃ (v0:Value) (f0:List Nat),e = .returned (.tuple #[v0,.int .i64 x.2])∧Chg [] w w'∧OE [] w.heap.size w' (sOwn 22 (sOwn 2 (sInt .i64))) [v0] x.1 f0
abbrev spec_LeastCovers_T (w:World):=Tm Tryz.prog Tryz.f27 18 (spec_LeastCovers_post w)
theorem spec_LeastCovers_calls {w:World} {x0:MTopology} {zk:Value} {zo:List Nat} {zl:Value} {zp:List Nat} {zm:Value} {zq:List Nat} {zn:Value} {zr:List Nat} {zj:Value} {zd:List Nat} (zt:(sImm (sInt .i64)).rep w.heap [zk] x0.Shape.From zo) (zu:(sImm (sInt .i64)).rep w.heap [zl] x0.Shape.To zp) (zv:(sImm (sInt .i64)).rep w.heap [zm] x0.Shape.Identity zq) (zw:(sImm (sImm (sInt .i64))).rep w.heap [zn] x0.Shape.Composites zr) (zi:(sImm (sImm (sImm (sInt .i64)))).rep w.heap [zj] x0.Covers zd) {y:((List (List Int))×Int)} (hm:spec_LeastCovers x0=some y) :
  Calls Tryz.prog 27 #[.agg #[.int .i64 (x0.Shape.Objects),zk,zl,zm,zn,zj]] w (spec_LeastCovers_post w y):=by
 refine Cm (S:=Unit) Tryz.func27 rfl Tryz.ntmps27 rfl hm fun o ho hB=>?_
 clear hm
 refine wq <| W_region rfl <| WL.box fun b1 wd2 hC3 hr4 hl5=>?_
 replace hr4:Row wd2 b1 [.int .i64 (x0.Shape.Objects),zk,zl,zm,zn,zj] 34:=hr4
 replace hB:=(hB.trans hC3)
 refine Wb (As rfl) <| Wb (Ai rfl) <| anz <| wq <| W_region rfl <| Wb (Lg ag34 hr4.at rfl rfl) <| ?_
 obtain ⟨y8,hy9,ho⟩:=bs ho
 refine WL.call rfl (op_callF Tryz.func78 rfl rfl) (spec_l27Code_calls (kp _ zt hB) (kp _ zu hB) (kp _ zv hB) (kp _ zw hB) (kp _ zi hB) hy9) <| ?_
 rintro _ gs ⟨v12,f13,v15,f16,v18,j8,v21,f22,v24,gt,v27,f28,v30,f31,v33,f34,rfl,qv,k2,pam,k3,p3p,p6,pan,k4,pao,k5,pap,j7,paq,k6,par,jq,gg,d48,ke,d57,d60,d62,jw⟩
 refine ⟨_,rfl,?_⟩
 replace jq:=OE.low (G:=[]) jq hB.size
 replace hr4:=kr hr4 qv
 replace hB:=(hB.trans qv)
 refine Wb (Mt rfl) <| Wb (Ex (.agg #[.int .i64 (y8.1.C.Objects),v12,v15,v18,v21,v24,v27,v30]) rfl rfl) <| Wb (Ex v33 rfl rfl) <| Wb (Exi rfl rfl) <| WL.alloc info96 zr96 fun gu p5g q1 gv qx=>?_
 replace gv:Row p5g gu [.int .i64 ((0:Int)),.slice none 0 0,.slice none 0 0,.slice none 0 0,.slice none 0 0,.slice none 0 0,.slice none 0 0,.slice none 0 0] 96:=gv
 have p5h:w.heap.size≤gu:=Nat.le_trans hB.size qx
 have kq:=dl (onw qx) (one_lt (Row.lt hr4))
 have jr:=dl (onw qx) (sl _ k2)
 have ks:=dl (onw qx) (sl _ k3)
 have kt:=dl (onw qx) (sl _ p6)
 have ku:=dl (onw qx) (sl _ k4)
 have kv:=dl (onw qx) (sl _ k5)
 have kw:=dl (onw qx) (sl _ j7)
 have kx:=dl (onw qx) (sl _ k6)
 have ky:=dl (onw qx) (sl _ jq.1)
 replace k2:=kp _ k2 q1
 replace k3:=kp _ k3 q1
 replace p6:=kp _ p6 q1
 replace k4:=kp _ k4 q1
 replace k5:=kp _ k5 q1
 replace j7:=kp _ j7 q1
 replace k6:=kp _ k6 q1
 replace hr4:=kr hr4 q1
 replace jq:=ko jq q1
 replace hB:=(hB.trans q1)
 refine WL.storeAll (us:=[.int .i64 (y8.1.C.Objects),v12,v15,v18,v21,v24,v27,v30]) info96 (by rw [sz96]; rfl) gv rfl rfl rfl (by intro u hu; simp only [List.mem_cons,List.mem_nil_iff,or_false] at hu; rcases hu with rfl | rfl | rfl | rfl | rfl | rfl | rfl | rfl <;> first | exact rfl | exact (STy.one _ k2 _ (ms rfl)) | exact (STy.one _ k3 _ (ms rfl)) | exact (STy.one _ p6 _ (ms rfl)) | exact (STy.one _ k4 _ (ms rfl)) | exact (STy.one _ k5 _ (ms rfl)) | exact (STy.one _ j7 _ (ms rfl)) | exact (STy.one _ k6 _ (ms rfl))) fun p3q qy p3r=>?_
 replace p3r:Row p3q gu [.int .i64 (y8.1.C.Objects),v12,v15,v18,v21,v24,v27,v30] 96:=p3r
 replace k2:=STy.keep _ k2 qy (jr).symm
 replace k3:=STy.keep _ k3 qy (ks).symm
 replace p6:=STy.keep _ p6 qy (kt).symm
 replace k4:=STy.keep _ k4 qy (ku).symm
 replace k5:=STy.keep _ k5 qy (kv).symm
 replace j7:=STy.keep _ j7 qy (kw).symm
 replace k6:=STy.keep _ k6 qy (kx).symm
 replace hr4:=Row.keep hr4 qy ((kq).symm _ (ms rfl))
 replace jq:=okp jq qy (ky).symm
 replace hB:=hB.then qy (one_then p5h)
 refine Wb (Av v33 rfl) <| Wb (Ai rfl) <| anz <| wq <| wq <| Wq rfl (cr [] p3q) <| Qa (Mi rfl) <| Qa (Bn rfl rfl) <| fun pav j4=>anz <| W_cond (b:=(y8.2.2) != ((0:Int))) rfl ?_ ?_
 intro gw
 rw [gw] at ho
 refine wq <| Wq rfl j4 <| Qa (Mi rfl) <| Qa (As rfl) <| Qa (Ai rfl) <| fun paw p5i=>anz <| ?_
 cases ho
 exact W_ret ⟨_,res_2 Tryz.results27,_,_,rfl,(hB.trans p5i),nil_OE⟩
 intro gw
 rw [gw] at ho
 refine W_skip <| anz <| wq <| W_region rfl <| Wa j4 (Lg ag34 hr4.at rfl rfl) <| ?_
 obtain ⟨y113,p5j,ho⟩:=bs ho
 refine WL.call rfl (op_callF Tryz.func86 rfl rfl) (spec_l27Least_calls (kp _ zt (hB.trans j4)) (kp _ zu (hB.trans j4)) (kp _ zv (hB.trans j4)) (kp _ zw (hB.trans j4)) (kp _ zi (hB.trans j4)) p5j) <| ?_
 rintro _ pax ⟨v117,pay,rfl,p5k,gx⟩
 refine ⟨_,rfl,?_⟩
 replace gx:=OE.low (G:=[]) gx (hB.trans j4).size
 have jb:=j4.trans p5k
 replace hr4:=kr hr4 jb
 replace hB:=(hB.trans jb)
 refine Wb (Av v117 rfl) <| Wb (Ai rfl) <| anz <| ?_
 cases ho
 exact W_ret ⟨_,res_2 Tryz.results27,_,_,rfl,hB,gx⟩

abbrev impl_coverage_least_post (w:World) (x:((List Int))) (e:Ending) (w':World):Prop:=∃ (v0:Value) (f0:List Nat),e = .returned (v0)∧Chg [] w w'∧OE [] w.heap.size w' (sOwn 2 (sInt .i64)) [v0] x f0
abbrev impl_coverage_least_T (w:World):=Tm Tryz.prog Tryz.f87 66 (impl_coverage_least_post w)
theorem impl_coverage_least_calls {w:World} {x0:MCoverage} {p_x0:Addr} {p_x0_Classifier:Addr} {z1h:Value} {z1t:List Nat} {z1i:Value} {z1u:List Nat} {z1j:Value} {z1v:List Nat} {z1k:Value} {z1w:List Nat} {z1l:Value} {z1x:List Nat} {z1d:Value} {z1y:List Nat} {z1f:Value} {z20:List Nat} {p_x0_C:Addr} {zy:Value} {z19:List Nat} {zx:Value} {z1a:List Nat} {z10:Value} {z1b:List Nat} {z11:Value} {z1c:List Nat} {zj:Value} {zd:List Nat} {p_x0_Count:Addr} {x1:Int} (z1m:(sImm (sInt .i64)).rep w.heap [z1h] x0.Classifier.Sets.Shape.From z1t) (z1n:(sImm (sInt .i64)).rep w.heap [z1i] x0.Classifier.Sets.Shape.To z1u) (z1o:(sImm (sInt .i64)).rep w.heap [z1j] x0.Classifier.Sets.Shape.Identity z1v) (z1p:(sImm (sImm (sInt .i64))).rep w.heap [z1k] x0.Classifier.Sets.Shape.Composites z1w) (z1q:(sImm (sInt .i64)).rep w.heap [z1l] x0.Classifier.Sets.Sizes z1x) (z1g:(sImm (sImm (sInt .i64))).rep w.heap [z1d] x0.Classifier.Sets.Actions z1y) (z1e:(sImm (sImm (sImm (sInt .i64)))).rep w.heap [z1f] x0.Classifier.Sieves z20) (a_x0_Classifier:At w p_x0_Classifier [.int .i64 (x0.Classifier.Sets.Shape.Objects),z1h,z1i,z1j,z1k,z1l,z1d,z1f]) (z13:(sImm (sInt .i64)).rep w.heap [zy] x0.C.From z19) (z12:(sImm (sInt .i64)).rep w.heap [zx] x0.C.To z1a) (z17:(sImm (sInt .i64)).rep w.heap [z10] x0.C.Identity z1b) (z18:(sImm (sImm (sInt .i64))).rep w.heap [z11] x0.C.Composites z1c) (a_x0_C:At w p_x0_C [.int .i64 (x0.C.Objects),zy,zx,z10,z11]) (zi:(sImm (sImm sBool)).rep w.heap [zj] x0.Covers zd) (a_x0_Count:At w p_x0_Count [.int .i64 (x0.Count)]) (a_x0:At w p_x0 [.pointer (some (p_x0_Classifier)),.pointer (some (p_x0_C)),zj,.pointer (some (p_x0_Count))]) {y:((List Int))} (hm:impl_coverage_least x0 x1=some y) :
  Calls Tryz.prog 87 #[.pointer (some (p_x0)),.int .i64 (x1)] w (impl_coverage_least_post w y):=by
 refine Cm (S:=Unit) Tryz.func87 rfl Tryz.ntmps87 rfl hm fun o ho hB=>?_
 clear hm
 refine wq <| Wq rfl (cr [] w) <| Qa (As rfl) <| fun wd1 hC2=>anz <| wq <| W_region rfl <| WL.lit0 (sInt .i64) u114z info2 fun v3 wd4 f5 hC6 o7=>?_
 replace o7:=OE.low (G:=[]) o7 (hB.trans hC2).size
 have hT8:=hC2.trans hC6
 replace hB:=(hB.trans hT8)
 refine Wb (Av v3 rfl) <| anz <| wq <| wq <| W_region rfl <| Wb (Mp rfl) <| Wb (Nk rfl) <| Wb (Fp fa144_1 rfl) <| Wb (La na131 (At.keep0 a_x0 hB) rfl rfl) <| Wb (Mi rfl) <| ?_
 obtain ⟨y9,p5l,ho⟩:=bs ho
 refine WL.call rfl (op_callF Tryz.func148 rfl rfl) (impl_Category_outOf_calls (kp _ z13 hB) (kp _ z12 hB) (kp _ z17 hB) (kp _ z18 hB) (At.keep0 a_x0_C hB) p5l) <| ?_
 rintro _ p4m ⟨v13,np,rfl,kb,pc⟩
 refine ⟨_,rfl,?_⟩
 have d16:=dl (ofr pc) (sl _ o7.1)
 replace pc:=OE.low (G:=[]) pc hB.size
 replace o7:=ko o7 kb
 replace hB:=(hB.trans kb)
 refine Wb (Ln sl22 ((Le.own (Le.refl _) 2).le pc.1) rfl) <| Wb (Mi rfl) <| anz <| Wf (S1:=(List Int)×Int) (fun s r w'=>match s with | (s0_5,s0_19)=>∃ (v18:Value) (j8:List Nat),Chg [] w w'∧OE [] w.heap.size w' (sOwn 2 (sInt .i64)) [v13] (y9) np∧OE [] w.heap.size w' (sOwn 2 (sInt .i64)) [v18] (s0_5) j8∧Dis np j8∧∃ F,r=updL F [(0,.pointer (some (p_x0))),(1,.int .i64 (x1)),(5,v18),(17,v13),(18,.int .i64 ((y9.length:Int))),(19,.int .i64 (s0_19))]) (impl_coverage_least_T w) ho ⟨_,_,hB,pc,o7,(d16),fe rfl⟩ ?_ ?_
 rintro ⟨s0_5,s0_19⟩ _ p3k ⟨v18,j8,hB,pc,p6,gy,F,rfl⟩ o ho
 replace ho:impl_coverage_least_L0 x0 x1 y9 s0_5 s0_19=some o:=ho
 unfold impl_coverage_least_L0 at ho
 refine wq <| Wq rfl (cr [] p3k) <| Qa (Bl rfl rfl) <| fun p5n k7=>anz <| wq <| W_cond (b:=decide (s0_19 < (y9.length:Int))) rfl ?_ ?_
 intro gz
 rw [gz] at ho
 refine W_skip <| anz <| wq <| W_block <| wq <| Wq rfl k7 <| ?_
 obtain ⟨e26,hx27e,ho⟩:=bs ho
 have hx27:=idx_some hx27e
 refine Qa (Ix sl22 ((Le.own (Le.refl _) 2).le pc.1) hx27 rfl rfl rfl) <| Qa (Ei na2 ((Le.own (Le.refl _) 2).le pc.1) hx27 rfl) <| Qa (Ai rfl) <| fun p5o p00=>anz <| wq <| Wq rfl p00 <| Qa (Ab rfl) <| fun p5p kz=>anz <| wq <| wq <| Wq rfl kz <| Qa (Mp rfl) <| Qa (Nk rfl) <| Qa (Fp fa144_2 rfl) <| ?_
 refine Qa (La na97 (At.keep0 a_x0 hB) rfl rfl) <| Qa (Mi rfl) <| ?_
 obtain ⟨e32,hx33e,ho⟩:=bs ho
 have hx33:=idx_some hx33e
 refine Qa (Ix sl97 (kB zi hB) hx33 rfl rfl rfl) <| ?_
 obtain ⟨u34,fu35,hu36,p01,hs38⟩:=one_get rfl zi hx33.1 hx33.2
 refine Qa (Ld na138 (hB.cell0 hu36) rfl) <| Qa (Ln sl138 (kB p01 hB) rfl) <| Qa (Mi rfl) <| fun paz p02=>anz <| Wf (S1:=Bool×Int) (fun s r w'=>match s with | (s1_8,s1_31)=>Chg [] w w'∧OE [] w.heap.size w' (sOwn 2 (sInt .i64)) [v13] (y9) np∧OE [] w.heap.size w' (sOwn 2 (sInt .i64)) [v18] (s0_5) j8∧Dis np j8∧∃ F,r=updL F [(0,.pointer (some (p_x0))),(1,.int .i64 (x1)),(5,v18),(7,.int .i64 (e26)),(8,.bool (s1_8)),(17,v13),(18,.int .i64 ((y9.length:Int))),(19,.int .i64 (s0_19)),(29,u34),(30,.int .i64 ((e32.length:Int))),(31,.int .i64 (s1_31))]) (impl_coverage_least_T w) ho ⟨(hB.trans p02),(ko pc p02),(ko p6 p02),(gy),fe rfl⟩ ?_ ?_
 rintro ⟨s1_8,s1_31⟩ _ gb ⟨hB,pc,p6,j3,F,rfl⟩ o ho
 replace ho:impl_coverage_least_L1 x0 x1 e26 e32 s1_8 s1_31=some o:=ho
 unfold impl_coverage_least_L1 at ho
 refine wq <| Wq rfl (cr [] gb) <| Qa (Bl rfl rfl) <| fun pb0 nq=>anz <| wq <| W_cond (b:=decide (s1_31 < (e32.length:Int))) rfl ?_ ?_
 intro p03
 rw [p03] at ho
 refine W_skip <| anz <| wq <| W_block <| wq <| Wq rfl nq <| Qa (Mi rfl) <| ?_
 obtain ⟨e46,hx47e,ho⟩:=bs ho
 have hx47:=idx_some hx47e
 refine Qa (Ix sl138 (kB p01 hB) hx47 rfl rfl rfl) <| Qa (Eb na4 (kB p01 hB) hx47 rfl) <| Qa (Ai rfl) <| Qa (Ab rfl) <| fun pb1 p5q=>anz <| Wq rfl p5q <| ?_
 obtain ⟨g50,hm51,ho⟩:=bs ho
 refine QL.meet (fun r=>∃ F,r=updL F [(0,.pointer (some (p_x0))),(1,.int .i64 (x1)),(5,v18),(7,.int .i64 (e26)),(8,.bool (g50)),(17,v13),(18,.int .i64 ((y9.length:Int))),(19,.int .i64 (s0_19)),(29,u34),(30,.int .i64 ((e32.length:Int))),(31,.int .i64 (s1_31))]) ?_ ?_
 skip
 refine Qa (Mb rfl) <| Qa (Mb rfl) <| ?_
 rcases Bool.eq_false_or_eq_true s1_8 with pu | pu
 rw [pu] at hm51
 refine Qg rfl pu (Mb rfl) <| Qg rfl pu (Nt rfl) <| Qg rfl pu (Mb rfl) <| ?_
 rcases Bool.eq_false_or_eq_true (!(e46)) with p1 | p1
 rw [p1] at hm51
 refine Sk rfl p1 rfl <| Sk rfl p1 rfl <| Sk rfl p1 rfl <| Sk rfl p1 rfl <| Sk rfl p1 rfl <| Sk rfl p1 rfl <| Sk rfl p1 rfl <| Sk rfl p1 rfl <| Sk rfl p1 rfl <| Sk rfl p1 rfl <| Sk rfl p1 rfl <| Sk rfl p1 rfl <| Sk rfl p1 rfl <| Sk rfl p1 rfl <| Sk rfl p1 rfl <| Qg rfl pu (PTb rfl p1 rfl) <| ?_
 refine Qa (PTb rfl pu rfl) <| Qa (Ab rfl) <| ?_
 cases hm51
 exact fe rfl
 rw [p1] at hm51
 refine Qg rfl p1 (Mp rfl) <| Qg rfl p1 (Nk rfl) <| Qg rfl p1 (F0 fa144_0 rfl) <| Qg rfl p1 (Lb na141 (At.keep0 a_x0 hB) rfl rfl) <| Qg rfl p1 (Nk rfl) <| Qg rfl p1 (Fp fa151_1 rfl) <| Qg rfl p1 (La na149 (At.keep0 a_x0_Classifier hB) rfl rfl) <| Qg rfl p1 (Mi rfl) <| ?_
 obtain ⟨e54,hx55e,hm51⟩:=bs hm51
 have hx55:=idx_some hx55e
 refine Qg rfl p1 (Ix sl149 (kB z1e hB) hx55 rfl rfl rfl) <| ?_
 obtain ⟨u56,fu57,hu58,p3s,hs60⟩:=one_get rfl z1e hx55.1 hx55.2
 refine Qg rfl p1 (Ld na118 (hB.cell0 hu58) rfl) <| Qg rfl p1 (Mi rfl) <| ?_
 obtain ⟨e61,hx62e,hm51⟩:=bs hm51
 have hx62:=idx_some hx62e
 refine Qg rfl p1 (Ix sl118 (kB p3s hB) hx62 rfl rfl rfl) <| ?_
 obtain ⟨u63,fu64,hu65,p5r,hs67⟩:=one_get rfl p3s hx62.1 hx62.2
 refine Qg rfl p1 (Ld na114 (hB.cell0 hu65) rfl) <| Qg rfl p1 (Mi rfl) <| ?_
 obtain ⟨y68,p04,hm51⟩:=bs hm51
 refine Qcg rfl p1 Tryz.func149 rfl rfl (fun _ hC=>impl_has_calls (kp _ p5r (hB.trans hC)) p04) <| Qg rfl pu (PFb rfl p1 rfl) <| Qa (PTb rfl pu rfl) <| Qa (Ab rfl) <| ?_
 cases hm51
 exact fe rfl
 rw [pu] at hm51
 refine Sk rfl pu rfl <| Sk rfl pu rfl <| Sk rfl pu rfl <| QL.skipN rfl rfl <| QL.skipN rfl rfl <| QL.skipN rfl rfl <| QL.skipN rfl rfl <| QL.skipN rfl rfl <| QL.skipN rfl rfl <| QL.skipN rfl rfl <| QL.skipN rfl rfl <| QL.skipN rfl rfl <| QL.skipN rfl rfl <| QL.skipN rfl rfl <| QL.skipN rfl rfl <| QL.skipN rfl rfl <| ?_
 refine QL.skipN rfl rfl <| QL.skipN rfl rfl <| Sk rfl pu rfl <| Qa (PFb rfl pu rfl) <| Qa (Ab rfl) <| ?_
 cases hm51
 exact fe rfl
 rintro _ ⟨F,rfl⟩
 refine fun p5s n0=>inBlk_n <| anz <| Wq rfl n0 <| Qa (Ba rfl rfl) <| Qa (Mi rfl) <| fun pb2 p05=>?_
 cases ho
 exact ⟨(hB.trans p05),(ko pc p05),(ko p6 p05),j3,fe rfl⟩
 intro p03
 rw [p03] at ho
 refine W_exit <| andThen_x <| ?_
 cases ho
 exact ⟨rfl,⟨(hB.trans nq),(ko pc nq),(ko p6 nq),j3,fe rfl⟩⟩
 rintro ⟨s1_8,s1_31⟩ _ p5t ⟨hB,pc,p6,j3,F,rfl⟩ ho
 dsimp only at ho
 refine anz <| wq <| Wq rfl (cr [] p5t) <| Qa (Mb rfl) <| fun pb3 p06=>anz <| W_cond (b:=s1_8) rfl ?_ ?_
 intro p07
 rw [p07] at ho
 refine W_region rfl <| Wb (Mv v18 rfl) <| Wb (Mi rfl) <| WL.lit1 u114z info2 zr2 sz2 rfl fun b78 p5v p5w n1 p5x=>?_
 replace n1:Row p5v b78 [.int .i64 (e26)] 2:=n1
 have d85:=dl (onw p5x) (sl _ (kp _ p6.1 p06))
 have p09:=p06.trans p5w
 replace pc:=ko pc p09
 replace p6:=ko p6 p09
 replace hB:=(hB.trans p09)
 obtain ⟨n93,hn94,ho⟩:=bs ho
 have hn94a:=fits_some hn94
 refine WL.append1 (E:=(sInt .i64)) _ _ u114z info2 zr2 sz2 rfl rfl rfl p6 rfl n1 ⟨rfl,rfl⟩ List.nodup_nil (fun _ h=>nomatch h) (fun _ h=>nomatch h) (by rw [by2]; exact hn94a.1) hn94a.2 hB.size fun v87 p5y f89 q1 o91 hs92=>?_
 have jr:=dis_upd hs92 (j3).symm (fun _ h=>nomatch h) (sl _ pc.1)
 replace pc:=okp pc q1 j3
 replace n1:=Row.keep n1 q1 (d85 _ (ms rfl))
 replace hB:=hB.then q1 p6.2.2
 refine Wb (Av v87 rfl) <| inBlk_n <| anz <| Wq rfl (cr [] p5y) <| Qa (Ba rfl rfl) <| Qa (Mi rfl) <| fun pb5 p0a=>?_
 cases ho
 exact ⟨_,_,(hB.trans p0a),(ko pc p0a),(ko o91 p0a),((jr).symm),fe rfl⟩
 intro p07
 rw [p07] at ho
 refine W_skip <| inBlk_n <| anz <| Wq rfl p06 <| Qa (Ba rfl rfl) <| Qa (Mi rfl) <| fun pb6 p0b=>?_
 cases ho
 exact ⟨_,_,(hB.trans p0b),(ko pc p0b),(ko p6 p0b),j3,fe rfl⟩
 intro gz
 rw [gz] at ho
 refine W_exit <| andThen_x <| ?_
 cases ho
 exact ⟨rfl,⟨_,_,(hB.trans k7),(ko pc k7),(ko p6 k7),gy,fe rfl⟩⟩
 rintro ⟨s0_5,s0_19⟩ _ p60 ⟨v18,j8,hB,pc,p6,gy,F,rfl⟩ ho
 dsimp only at ho
 refine anz <| wq <| Wq rfl (cr [] p60) <| Qa (Mv v18 rfl) <| Qa (Av v18 rfl) <| fun p51 ja=>anz <| ?_
 cases ho
 exact W_ret ⟨_,res_1 Tryz.results87,_,_,rfl,(hB.trans ja),(ko p6 ja)⟩

abbrev impl_LeastCovers_post (w:World) (x:((List (List Int))×Int)) (e:Ending) (w':World):Prop:=∃ (v0:Value) (f0:List Nat),e = .returned (.tuple #[v0,.int .i64 x.2])∧Chg [] w w'∧OE [] w.heap.size w' (sOwn 22 (sOwn 2 (sInt .i64))) [v0] x.1 f0
abbrev impl_LeastCovers_T (w:World):=Tm Tryz.prog Tryz.f28 30 (impl_LeastCovers_post w)
theorem impl_LeastCovers_calls {w:World} {x0:MTopology} {zk:Value} {zo:List Nat} {zl:Value} {zp:List Nat} {zm:Value} {zq:List Nat} {zn:Value} {zr:List Nat} {zj:Value} {zd:List Nat} (zt:(sImm (sInt .i64)).rep w.heap [zk] x0.Shape.From zo) (zu:(sImm (sInt .i64)).rep w.heap [zl] x0.Shape.To zp) (zv:(sImm (sInt .i64)).rep w.heap [zm] x0.Shape.Identity zq) (zw:(sImm (sImm (sInt .i64))).rep w.heap [zn] x0.Shape.Composites zr) (zi:(sImm (sImm (sImm (sInt .i64)))).rep w.heap [zj] x0.Covers zd) {y:((List (List Int))×Int)} (hm:impl_LeastCovers x0=some y) :
  Calls Tryz.prog 28 #[.agg #[.int .i64 (x0.Shape.Objects),zk,zl,zm,zn,zj]] w (impl_LeastCovers_post w y):=by
 refine Cm (S:=Unit) Tryz.func28 rfl Tryz.ntmps28 rfl hm fun o ho hB=>?_
 clear hm
 refine wq <| W_region rfl <| WL.box fun b1 wd2 hC3 hr4 hl5=>?_
 replace hr4:Row wd2 b1 [.int .i64 (x0.Shape.Objects),zk,zl,zm,zn,zj] 34:=hr4
 replace hB:=(hB.trans hC3)
 refine Wb (As rfl) <| Wb (Ai rfl) <| anz <| wq <| W_region rfl <| ?_
 obtain ⟨y8,hy9,ho⟩:=bs ho
 refine WL.call rfl (op_callF Tryz.func73 rfl rfl) (impl_topologyCode_calls (kp _ zt hB) (kp _ zu hB) (kp _ zv hB) (kp _ zw hB) (kp _ zi hB) hr4.at hy9) <| ?_
 rintro _ gs ⟨v13,rfl,qv,hp12⟩
 refine ⟨_,rfl,?_⟩
 rcases hq15:y8.1 with _ | m16
 rw [hq15] at hp12 ho
 try dsimp only at hp12
 try dsimp only at ho
 obtain rfl:=hp12
 replace hr4:=kr hr4 qv
 replace hB:=(hB.trans qv)
 refine Wb (Mt rfl) <| Wb (Ex (.pointer none) rfl rfl) <| Wb (Exi rfl rfl) <| Wb (Av (.pointer none) rfl) <| Wb (Ai rfl) <| anz <| wq <| wq <| Wq rfl (cr [] gs) <| Qa (Mi rfl) <| Qa (Bn rfl rfl) <| fun p3i j9=>anz <| W_cond (b:=(y8.2) != ((0:Int))) rfl ?_ ?_
 intro p0c
 rw [p0c] at ho
 refine wq <| Wq rfl j9 <| Qa (Mi rfl) <| Qa (As rfl) <| Qa (Ai rfl) <| fun nj kc=>anz <| ?_
 cases ho
 exact W_ret ⟨_,res_2 Tryz.results28,_,_,rfl,(hB.trans kc),nil_OE⟩
 intro p0c
 rw [p0c] at ho
 refine W_skip <| anz <| wq <| W_region rfl <| WL.lit0 (sOwn 2 (sInt .i64)) u23z info22 fun v23 g8 gt p0d qu=>?_
 have g9:=dl (ofr qu) (one_lt (Row.lt (kr hr4 j9)))
 replace qu:=OE.low (G:=[]) qu (hB.trans j9).size
 have p3t:=j9.trans p0d
 replace hr4:=kr hr4 p3t
 replace hB:=(hB.trans p3t)
 refine Wb (Av v23 rfl) <| anz <| wq <| wq <| Wq rfl (cr [] g8) <| Qa (Ai rfl) <| fun p5p kz=>anz <| Wf (S1:=Unit) (fun (_:Unit) r w'=>Chg [] w w'∧Row w' b1 [.int .i64 (x0.Shape.Objects),zk,zl,zm,zn,zj] 34∧OE [] w.heap.size w' (sOwn 22 (sOwn 2 (sInt .i64))) [v23] (([]:(List (List Int)))) gt∧Dis [b1] gt∧∃ F,r=updL F [(1,.pointer (some (⟨b1,0,none⟩))),(4,.pointer none),(6,v23),(7,.int .i64 ((0:Int)))]) (impl_LeastCovers_T w) ho ⟨(hB.trans kz),(kr hr4 kz),(ko qu kz),((g9).symm),fe rfl⟩ ?_ ?_
 rintro _ _ p61 ⟨hB,hr4,qu,nl,F,rfl⟩ o ho
 replace ho:impl_LeastCovers_L0 x0=some o:=ho
 unfold impl_LeastCovers_L0 at ho
 refine wq <| wq <| Wq rfl (cr [] p61) <| Qa (Mi rfl) <| Qa (Fr fa34_0 rfl) <| Qa (Fr fa32_0 rfl) <| Qa (Lr na2 hr4 rfl rfl) <| Qa (Bl rfl rfl) <| fun p3a p0e=>anz <| W_cond (b:=decide ((0:Int) < x0.Shape.Objects)) rfl ?_ ?_
 intro p0f
 rw [p0f] at ho
 refine W_skip <| anz <| wq <| W_block <| W_region rfl <| Wb (Mv v23 rfl) <| Wb (Mv (.pointer none) rfl) <| Wb (Mi rfl) <| ?_
 cases ho
 intro p0f
 rw [p0f] at ho
 refine W_exit <| andThen_x <| ?_
 cases ho
 exact ⟨rfl,⟨(hB.trans p0e),(kr hr4 p0e),(ko qu p0e),nl,fe rfl⟩⟩
 rintro _ _ p62 ⟨hB,hr4,qu,nl,F,rfl⟩ ho
 refine anz <| wq <| Wq rfl (cr [] p62) <| Qa (Mv v23 rfl) <| Qa (Av v23 rfl) <| Qa (Ai rfl) <| fun pb7 p3u=>anz <| ?_
 cases ho
 exact W_ret ⟨_,res_2 Tryz.results28,_,_,rfl,(hB.trans p3u),(ko qu p3u)⟩
 rw [hq15] at hp12 ho
 try dsimp only at hp12
 try dsimp only at ho
 obtain ⟨pv,q2,v44,q7,v47,q8,v50,q9,v53,qa,v56,qb,v59,qc,v62,qd,v66,qe,q3,rfl,pf,pg,ph,pi,pj,pk,pm,pp,p3p,pn,pq,p63,pr,p64,d73,d74,d75,d76,d77,d78,d79,d80,d81,d82,d83,d84,d85,d86,d87,d88,d89,d90,d91,d92,d93,kq,jr,ks,kt,ku,kv,kw,kx,ky,p0n,p0o,p0p,p0q,p6i,p6j,p6k,p6l,p6m,p6n,p6o,p0r,p0s,nr,ns,nt,nu,k1,p6p,p6q,p6r,p6s,p6t,p6u,p6v⟩:=hp12
 have p6w:=dl (ofr pf) (one_lt (Row.lt hr4))
 replace pf:=OE.low (G:=[]) pf hB.size
 have p6x:=dl (ofr pg) (one_lt (Row.lt hr4))
 replace pg:=OE.low (G:=[]) pg hB.size
 have gm:=dl (ofr ph) (one_lt (Row.lt hr4))
 replace ph:=OE.low (G:=[]) ph hB.size
 have gn:=dl (ofr pi) (one_lt (Row.lt hr4))
 replace pi:=OE.low (G:=[]) pi hB.size
 have go:=dl (ofr pj) (one_lt (Row.lt hr4))
 replace pj:=OE.low (G:=[]) pj hB.size
 have p0t:=dl (ofr pk) (one_lt (Row.lt hr4))
 replace pk:=OE.low (G:=[]) pk hB.size
 have p0u:=dl (ofr pm) (one_lt (Row.lt hr4))
 replace pm:=OE.low (G:=[]) pm hB.size
 have p0v:=dl (onw p3p) (one_lt (Row.lt hr4))
 have p0w:=dl (ofr pn) (one_lt (Row.lt hr4))
 replace pn:=OE.low (G:=[]) pn hB.size
 have p0x:=dl (onw p63) (one_lt (Row.lt hr4))
 have p6y:=dl (onw p64) (one_lt (Row.lt hr4))
 replace hr4:=kr hr4 qv
 replace hB:=(hB.trans qv)
 refine Wb (Mt rfl) <| Wb (Ex (.pointer (some (⟨pv,0,none⟩))) rfl rfl) <| Wb (Exi rfl rfl) <| Wb (Ap rfl) <| Wb (Ai rfl) <| anz <| wq <| wq <| Wq rfl (cr [] gs) <| Qa (Mi rfl) <| Qa (Bn rfl rfl) <| fun pb8 pw=>anz <| W_cond (b:=(y8.2) != ((0:Int))) rfl ?_ ?_
 intro p0y
 rw [p0y] at ho
 refine wq <| Wq rfl pw <| Qa (Mi rfl) <| Qa (As rfl) <| Qa (Ai rfl) <| fun pb9 p6z=>anz <| ?_
 cases ho
 exact W_ret ⟨_,res_2 Tryz.results28,_,_,rfl,(hB.trans p6z),nil_OE⟩
 intro p0y
 rw [p0y] at ho
 refine W_skip <| anz <| wq <| W_region rfl <| WL.lit0 (sOwn 2 (sInt .i64)) u23z info22 fun v148 p70 pba p0z px=>?_
 have p71:=dl (ofr px) (one_lt (Row.lt (kr hr4 pw)))
 have p72:=dl (ofr px) (sl _ (kp _ pf.1 pw))
 have p73:=dl (ofr px) (sl _ (kp _ pg.1 pw))
 have p74:=dl (ofr px) (sl _ (kp _ ph.1 pw))
 have p75:=dl (ofr px) (sl _ (kp _ pi.1 pw))
 have gq:=dl (ofr px) (sl _ (kp _ pj.1 pw))
 have p76:=dl (ofr px) (sl _ (kp _ pk.1 pw))
 have p77:=dl (ofr px) (sl _ (kp _ pm.1 pw))
 have p78:=dl (ofr px) (one_lt (Row.lt (kr pp pw)))
 have p79:=dl (ofr px) (sl _ (kp _ pn.1 pw))
 have p7a:=dl (ofr px) (one_lt (Row.lt (kr pq pw)))
 have p7b:=dl (ofr px) (one_lt (Row.lt (kr pr pw)))
 replace px:=OE.low (G:=[]) px (hB.trans pw).size
 have qf:=pw.trans p0z
 replace hr4:=kr hr4 qf
 replace pf:=ko pf qf
 replace pg:=ko pg qf
 replace ph:=ko ph qf
 replace pi:=ko pi qf
 replace pj:=ko pj qf
 replace pk:=ko pk qf
 replace pm:=ko pm qf
 replace pp:=kr pp qf
 replace pn:=ko pn qf
 replace pq:=kr pq qf
 replace pr:=kr pr qf
 replace hB:=(hB.trans qf)
 refine Wb (Av v148 rfl) <| anz <| wq <| wq <| Wq rfl (cr [] p70) <| Qa (Ai rfl) <| fun pbb q4=>anz <| Wf (S1:=(List (List Int))×Int) (fun s r w'=>match s with | (s1_6,s1_7)=>∃ (v168:Value) (py:List Nat),Chg [] w w'∧Row w' b1 [.int .i64 (x0.Shape.Objects),zk,zl,zm,zn,zj] 34∧OE [] w.heap.size w' (sOwn 2 (sInt .i64)) [v44] (m16.Classifier.Sets.Shape.From) q7∧OE [] w.heap.size w' (sOwn 2 (sInt .i64)) [v47] (m16.Classifier.Sets.Shape.To) q8∧OE [] w.heap.size w' (sOwn 2 (sInt .i64)) [v50] (m16.Classifier.Sets.Shape.Identity) q9∧OE [] w.heap.size w' (sOwn 22 (sOwn 2 (sInt .i64))) [v53] (m16.Classifier.Sets.Shape.Composites) qa∧OE [] w.heap.size w' (sOwn 2 (sInt .i64)) [v56] (m16.Classifier.Sets.Sizes) qb∧OE [] w.heap.size w' (sOwn 22 (sOwn 2 (sInt .i64))) [v59] (m16.Classifier.Sets.Actions) qc∧OE [] w.heap.size w' (sOwn 118 (sOwn 114 (sOwn 2 (sInt .i64)))) [v62] (m16.Classifier.Sieves) qd∧Row w' q2 [.int .i64 (m16.Classifier.Sets.Shape.Objects),v44,v47,v50,v53,v56,v59,v62] 151∧OE [] w.heap.size w' (sOwn 138 (sOwn 4 sBool)) [v66] (m16.Covers) qe∧Row w' q3 [.int .i64 (m16.Count)] 197∧Row w' pv [.pointer (some (⟨q2,0,none⟩)),.pointer (some (((⟨b1,0,none⟩ : Addr).add 0))),v66,.pointer (some (⟨q3,0,none⟩))] 144∧OE [] w.heap.size w' (sOwn 22 (sOwn 2 (sInt .i64))) [v168] (s1_6) py∧Dis [b1] q7∧Dis [b1] q8∧Dis [b1] q9∧Dis [b1] qa∧Dis [b1] qb∧Dis [b1] qc∧Dis [b1] qd∧Dis [b1] [q2]∧Dis [b1] qe∧Dis [b1] [q3]∧Dis [b1] [pv]∧Dis [b1] py∧Dis q7 q8∧Dis q7 q9∧Dis q7 qa∧Dis q7 qb∧Dis q7 qc∧Dis q7 qd∧Dis q7 [q2]∧Dis q7 qe∧Dis q7 [q3]∧Dis q7 [pv]∧Dis q7 py∧Dis q8 q9∧Dis q8 qa∧Dis q8 qb∧Dis q8 qc∧Dis q8 qd∧Dis q8 [q2]∧Dis q8 qe∧Dis q8 [q3]∧Dis q8 [pv]∧Dis q8 py∧Dis q9 qa∧Dis q9 qb∧Dis q9 qc∧Dis q9 qd∧Dis q9 [q2]∧Dis q9 qe∧Dis q9 [q3]∧Dis q9 [pv]∧Dis q9 py∧Dis qa qb∧Dis qa qc∧Dis qa qd∧Dis qa [q2]∧Dis qa qe∧Dis qa [q3]∧Dis qa [pv]∧Dis qa py∧Dis qb qc∧Dis qb qd∧Dis qb [q2]∧Dis qb qe∧Dis qb [q3]∧Dis qb [pv]∧Dis qb py∧Dis qc qd∧Dis qc [q2]∧Dis qc qe∧Dis qc [q3]∧Dis qc [pv]∧Dis qc py∧Dis qd [q2]∧Dis qd qe∧Dis qd [q3]∧Dis qd [pv]∧Dis qd py∧Dis [q2] qe∧Dis [q2] [q3]∧Dis [q2] [pv]∧Dis [q2] py∧Dis qe [q3]∧Dis qe [pv]∧Dis qe py∧Dis [q3] [pv]∧Dis [q3] py∧Dis [pv] py∧∃ F,r=updL F [(1,.pointer (some (⟨b1,0,none⟩))),(4,.pointer (some (⟨pv,0,none⟩))),(6,v168),(7,.int .i64 (s1_7))]) (impl_LeastCovers_T w) ho ⟨_,_,(hB.trans q4),(kr hr4 q4),(ko pf q4),(ko pg q4),(ko ph q4),(ko pi q4),(ko pj q4),(ko pk q4),(ko pm q4),(kr pp q4),(ko pn q4),(kr pq q4),(kr pr q4),(ko px q4),((p6w).symm),((p6x).symm),((gm).symm),((gn).symm),((go).symm),((p0t).symm),((p0u).symm),((p0v).symm),((p0w).symm),((p0x).symm),((p6y).symm),((p71).symm),(d73),(d74),(d75),(d76),(d77),(d78),(d79),(d80),(d81),(d82),((p72).symm),(d83),(d84),(d85),(d86),(d87),(d88),(d89),(d90),(d91),((p73).symm),(d92),(d93),(kq),(jr),(ks),(kt),(ku),(kv),((p74).symm),(kw),(kx),(ky),(p0n),(p0o),(p0p),(p0q),((p75).symm),(p6i),(p6j),(p6k),(p6l),(p6m),(p6n),((gq).symm),(p6o),(p0r),(p0s),(nr),(ns),((p76).symm),(nt),(nu),(k1),(p6p),((p77).symm),(p6q),(p6r),(p6s),((p78).symm),(p6t),(p6u),((p79).symm),(p6v),((p7a).symm),((p7b).symm),fe rfl⟩ ?_ ?_
 rintro ⟨s1_6,s1_7⟩ _ p7c ⟨v168,py,hB,hr4,pf,pg,ph,pi,pj,pk,pm,pp,pn,pq,pr,qq,p10,p11,p12,p13,p14,p15,p16,p17,p18,p19,p1a,nv,p1b,p1c,p1d,p1e,p1f,p1g,p1h,p1i,p1j,p1k,nw,p1l,p1m,p1n,p1o,p1p,p1q,p1r,p1s,p1t,nx,p1u,p1v,p1w,p1x,p1y,p1z,p20,p21,ny,p22,p23,p24,p25,p26,p27,p28,nz,p29,p2a,p2b,p2c,p2d,p2e,g0,p2f,p2g,p2h,p2i,p2j,g1,p2k,p2l,p2m,p2n,g2,p2o,p2p,p2q,g3,p2r,p2s,g4,g5,n2,n3,F,rfl⟩ o ho
 replace ho:impl_LeastCovers_L1 x0 m16 s1_6 s1_7=some o:=ho
 unfold impl_LeastCovers_L1 at ho
 refine wq <| wq <| Wq rfl (cr [] p7c) <| Qa (Mi rfl) <| Qa (Fr fa34_0 rfl) <| Qa (Fr fa32_0 rfl) <| Qa (Lr na2 hr4 rfl rfl) <| Qa (Bl rfl rfl) <| fun pbc p0=>anz <| W_cond (b:=decide (s1_7 < x0.Shape.Objects)) rfl ?_ ?_
 intro p2t
 rw [p2t] at ho
 refine W_skip <| anz <| wq <| W_block <| W_region rfl <| Wb (Mv v168 rfl) <| Wb (Mp rfl) <| Wb (Mi rfl) <| ?_
 obtain ⟨y253,p7d,ho⟩:=bs ho
 refine WL.call rfl (op_callF Tryz.func87 rfl rfl) (impl_coverage_least_calls (x0:=(MCoverage.mk m16.Classifier x0.Shape m16.Covers m16.Count)) ((Le.own (Le.refl _) 2).le (kp _ pf.1 p0)) ((Le.own (Le.refl _) 2).le (kp _ pg.1 p0)) ((Le.own (Le.refl _) 2).le (kp _ ph.1 p0)) ((Le.own (Le.own (Le.refl _) 2) 22).le (kp _ pi.1 p0)) ((Le.own (Le.refl _) 2).le (kp _ pj.1 p0)) ((Le.own (Le.own (Le.refl _) 2) 22).le (kp _ pk.1 p0)) ((Le.own (Le.own (Le.own (Le.refl _) 2) 114) 118).le (kp _ pm.1 p0)) (kr pp p0).at (kp _ zt (hB.trans p0)) (kp _ zu (hB.trans p0)) (kp _ zv (hB.trans p0)) (kp _ zw (hB.trans p0)) (At.sub (kr hr4 p0).at 0 5) ((Le.own (Le.own (Le.refl _) 4) 138).le (kp _ pn.1 p0)) (kr pq p0).at (kr pr p0).at p7d) <| ?_
 rintro _ pbd ⟨v257,pbe,rfl,p7e,pe⟩
 refine ⟨_,rfl,?_⟩
 have p7f:=dl (ofr pe) (one_lt (Row.lt (kr hr4 p0)))
 have p7g:=dl (ofr pe) (sl _ (kp _ pf.1 p0))
 have p7h:=dl (ofr pe) (sl _ (kp _ pg.1 p0))
 have p7i:=dl (ofr pe) (sl _ (kp _ ph.1 p0))
 have p7j:=dl (ofr pe) (sl _ (kp _ pi.1 p0))
 have p7k:=dl (ofr pe) (sl _ (kp _ pj.1 p0))
 have p7l:=dl (ofr pe) (sl _ (kp _ pk.1 p0))
 have p7m:=dl (ofr pe) (sl _ (kp _ pm.1 p0))
 have p7n:=dl (ofr pe) (one_lt (Row.lt (kr pp p0)))
 have p7o:=dl (ofr pe) (sl _ (kp _ pn.1 p0))
 have p7p:=dl (ofr pe) (one_lt (Row.lt (kr pq p0)))
 have p7q:=dl (ofr pe) (one_lt (Row.lt (kr pr p0)))
 have p7r:=dl (ofr pe) (sl _ (kp _ qq.1 p0))
 replace pe:=OE.low (G:=[]) pe (hB.trans p0).size
 have q5:=p0.trans p7e
 replace hr4:=kr hr4 q5
 replace pf:=ko pf q5
 replace pg:=ko pg q5
 replace ph:=ko ph q5
 replace pi:=ko pi q5
 replace pj:=ko pj q5
 replace pk:=ko pk q5
 replace pm:=ko pm q5
 replace pp:=kr pp q5
 replace pn:=ko pn q5
 replace pq:=kr pq q5
 replace pr:=kr pr q5
 replace qq:=ko qq q5
 replace hB:=(hB.trans q5)
 refine WL.lit1 u23z info22 zr22 sz22 (STy.one _ pe.1 _ (ms rfl)) fun p7s p7t pz n4 p7u=>?_
 replace n4:Row p7t p7s [v257] 22:=n4
 have p7v:=dl (onw p7u) (sl _ qq.1)
 replace hr4:=kr hr4 pz
 replace pf:=ko pf pz
 replace pg:=ko pg pz
 replace ph:=ko ph pz
 replace pi:=ko pi pz
 replace pj:=ko pj pz
 replace pk:=ko pk pz
 replace pm:=ko pm pz
 replace pp:=kr pp pz
 replace pn:=ko pn pz
 replace pq:=kr pq pz
 replace pr:=kr pr pz
 replace qq:=ko qq pz
 replace pe:=ko pe pz
 replace hB:=(hB.trans pz)
 obtain ⟨n301,hn302,ho⟩:=bs ho
 have hn302a:=fits_some hn302
 refine WL.append1 (E:=(sOwn 2 (sInt .i64))) _ _ u23z info22 zr22 sz22 rfl rfl rfl qq rfl n4 pe.1 pe.2.1 pe.2.2 p7r (by rw [by22]; exact hn302a.1) hn302a.2 hB.size fun v295 p7w pbf q6 p7x hs300=>?_
 have p7y:=dis_upd hs300 (nv).symm p7f (one_lt (Row.lt hr4))
 have p7z:=dis_upd hs300 (nw).symm p7g (sl _ pf.1)
 have p80:=dis_upd hs300 (nx).symm p7h (sl _ pg.1)
 have p81:=dis_upd hs300 (ny).symm p7i (sl _ ph.1)
 have p82:=dis_upd hs300 (nz).symm p7j (sl _ pi.1)
 have p83:=dis_upd hs300 (g0).symm p7k (sl _ pj.1)
 have p84:=dis_upd hs300 (g1).symm p7l (sl _ pk.1)
 have p85:=dis_upd hs300 (g2).symm p7m (sl _ pm.1)
 have p86:=dis_upd hs300 (g3).symm p7n (one_lt (Row.lt pp))
 have p87:=dis_upd hs300 (g4).symm p7o (sl _ pn.1)
 have p88:=dis_upd hs300 (n2).symm p7p (one_lt (Row.lt pq))
 have p89:=dis_upd hs300 (n3).symm p7q (one_lt (Row.lt pr))
 replace hr4:=Row.keep hr4 q6 (nv _ (ms rfl))
 replace pf:=okp pf q6 nw
 replace pg:=okp pg q6 nx
 replace ph:=okp ph q6 ny
 replace pi:=okp pi q6 nz
 replace pj:=okp pj q6 g0
 replace pk:=okp pk q6 g1
 replace pm:=okp pm q6 g2
 replace pp:=Row.keep pp q6 (g3 _ (ms rfl))
 replace pn:=okp pn q6 g4
 replace pq:=Row.keep pq q6 (n2 _ (ms rfl))
 replace pr:=Row.keep pr q6 (n3 _ (ms rfl))
 replace n4:=Row.keep n4 q6 (p7v _ (ms rfl))
 replace hB:=hB.then q6 qq.2.2
 refine Wb (Av v295 rfl) <| inBlk_n <| anz <| Wq rfl (cr [] p7w) <| Qa (Mi rfl) <| Qa (Ba rfl rfl) <| Qa (Ai rfl) <| fun p8a ps=>?_
 cases ho
 exact ⟨_,_,(hB.trans ps),(kr hr4 ps),(ko pf ps),(ko pg ps),(ko ph ps),(ko pi ps),(ko pj ps),(ko pk ps),(ko pm ps),(kr pp ps),(ko pn ps),(kr pq ps),(kr pr ps),(ko p7x ps),p10,p11,p12,p13,p14,p15,p16,p17,p18,p19,p1a,((p7y).symm),p1b,p1c,p1d,p1e,p1f,p1g,p1h,p1i,p1j,p1k,((p7z).symm),p1l,p1m,p1n,p1o,p1p,p1q,p1r,p1s,p1t,((p80).symm),p1u,p1v,p1w,p1x,p1y,p1z,p20,p21,((p81).symm),p22,p23,p24,p25,p26,p27,p28,((p82).symm),p29,p2a,p2b,p2c,p2d,p2e,((p83).symm),p2f,p2g,p2h,p2i,p2j,((p84).symm),p2k,p2l,p2m,p2n,((p85).symm),p2o,p2p,p2q,((p86).symm),p2r,p2s,((p87).symm),g5,((p88).symm),((p89).symm),fe rfl⟩
 intro p2t
 rw [p2t] at ho
 refine W_exit <| andThen_x <| ?_
 cases ho
 exact ⟨rfl,⟨_,_,(hB.trans p0),(kr hr4 p0),(ko pf p0),(ko pg p0),(ko ph p0),(ko pi p0),(ko pj p0),(ko pk p0),(ko pm p0),(kr pp p0),(ko pn p0),(kr pq p0),(kr pr p0),(ko qq p0),p10,p11,p12,p13,p14,p15,p16,p17,p18,p19,p1a,nv,p1b,p1c,p1d,p1e,p1f,p1g,p1h,p1i,p1j,p1k,nw,p1l,p1m,p1n,p1o,p1p,p1q,p1r,p1s,p1t,nx,p1u,p1v,p1w,p1x,p1y,p1z,p20,p21,ny,p22,p23,p24,p25,p26,p27,p28,nz,p29,p2a,p2b,p2c,p2d,p2e,g0,p2f,p2g,p2h,p2i,p2j,g1,p2k,p2l,p2m,p2n,g2,p2o,p2p,p2q,g3,p2r,p2s,g4,g5,n2,n3,fe rfl⟩⟩
 rintro ⟨s1_6,s1_7⟩ _ p8b ⟨v168,py,hB,hr4,pf,pg,ph,pi,pj,pk,pm,pp,pn,pq,pr,qq,p10,p11,p12,p13,p14,p15,p16,p17,p18,p19,p1a,nv,p1b,p1c,p1d,p1e,p1f,p1g,p1h,p1i,p1j,p1k,nw,p1l,p1m,p1n,p1o,p1p,p1q,p1r,p1s,p1t,nx,p1u,p1v,p1w,p1x,p1y,p1z,p20,p21,ny,p22,p23,p24,p25,p26,p27,p28,nz,p29,p2a,p2b,p2c,p2d,p2e,g0,p2f,p2g,p2h,p2i,p2j,g1,p2k,p2l,p2m,p2n,g2,p2o,p2p,p2q,g3,p2r,p2s,g4,g5,n2,n3,F,rfl⟩ ho
 dsimp only at ho
 refine anz <| wq <| Wq rfl (cr [] p8b) <| Qa (Mv v168 rfl) <| Qa (Av v168 rfl) <| Qa (Ai rfl) <| fun pbg p3v=>anz <| ?_
 cases ho
 exact W_ret ⟨_,res_2 Tryz.results28,_,_,rfl,(hB.trans p3v),(ko qq p3v)⟩

abbrev laws_heldInt64SS_post (w:World) (x:(Int)) (e:Ending) (w':World):Prop:=e = .returned (.int .i64 x)∧Chg [] w w'
abbrev laws_heldInt64SS_T (w:World):=Tm Tryz.prog Tryz.f31 21 (laws_heldInt64SS_post w)
theorem laws_heldInt64SS_calls {w:World} {x0:(List (List Int))} {v_x0:Value} {f_x0:List Nat} {x1:Int} (h_x0:(sImm (sImm (sInt .i64))).rep w.heap [v_x0] x0 f_x0) {y:(Int)} (hm:laws_heldInt64SS x0 x1=some y) :
  Calls Tryz.prog 31 #[v_x0,.int .i64 (x1)] w (laws_heldInt64SS_post w y):=by
 refine Cm (S:=Unit) Tryz.func31 rfl Tryz.ntmps31 rfl hm fun o ho hB=>?_
 clear hm
 refine wq <| Wq rfl (cr [] w) <| Qa (Ai rfl) <| fun wd1 hC2=>anz <| wq <| wq <| Wq rfl hC2 <| Qa (Ai rfl) <| fun wd3 hC4=>anz <| Wf (S1:=Int×Int) (fun s r w'=>match s with | (s0_1,s0_5)=>Chg [] w w'∧∃ F,r=updL F [(0,v_x0),(1,.int .i64 (s0_1)),(5,.int .i64 (s0_5))]) (laws_heldInt64SS_T w) ho ⟨(hB.trans hC4),fe rfl⟩ ?_ ?_
 rintro ⟨s0_1,s0_5⟩ _ wd5 ⟨hB,F,rfl⟩ o ho
 replace ho:laws_heldInt64SS_L0 x0 s0_1 s0_5=some o:=ho
 unfold laws_heldInt64SS_L0 at ho
 refine wq <| wq <| Wq rfl (cr [] wd5) <| Qa (Mi rfl) <| Qa (Mv v_x0 rfl) <| Qa (Ln sl23 (kB h_x0 hB) rfl) <| Qa (Bl rfl rfl) <| fun wd6 hC7=>anz <| W_cond (b:=decide (s0_5 < (x0.length:Int))) rfl ?_ ?_
 intro hb8
 rw [hb8] at ho
 refine W_skip <| anz <| wq <| W_block <| wq <| Wq rfl hC7 <| Qa (Mv v_x0 rfl) <| Qa (Mi rfl) <| ?_
 obtain ⟨e9,hx10e,ho⟩:=bs ho
 have hx10:=idx_some hx10e
 refine Qa (Ix sl23 (kB h_x0 hB) hx10 rfl rfl rfl) <| ?_
 obtain ⟨u11,fu12,hu13,p8c,hs15⟩:=one_get rfl h_x0 hx10.1 hx10.2
 refine Qa (Ld na22 (hB.cell0 hu13) rfl) <| Qa (Mi rfl) <| ?_
 obtain ⟨y16,p8d,ho⟩:=bs ho
 refine Qc Tryz.func26 rfl rfl (fun _ hC=>laws_heldInt64S_calls (kp _ p8c (hB.trans hC)) p8d) <| Qa (Ai rfl) <| fun p3i j9=>anz <| wq <| Wq rfl j9 <| Qa (Mi rfl) <| Qa (Bl rfl rfl) <| fun p3j p3w=>anz <| W_cond (b:=decide (y16 < (0:Int))) rfl ?_ ?_
 intro p2u
 rw [p2u] at ho
 refine wq <| Wq rfl p3w <| Qa (Ai rfl) <| fun p5n k7=>anz <| ?_
 cases ho
 exact W_ret ⟨_,res_1 Tryz.results31,rfl,(hB.trans k7)⟩
 intro p2u
 rw [p2u] at ho
 refine W_skip <| inBlk_n <| anz <| Wq rfl p3w <| Qa (Mi rfl) <| Qa (Ba rfl rfl) <| Qa (Ai rfl) <| fun pbh p0d=>?_
 cases ho
 exact ⟨(hB.trans p0d),fe rfl⟩
 intro hb8
 rw [hb8] at ho
 refine W_exit <| andThen_x <| ?_
 cases ho
 exact ⟨rfl,⟨(hB.trans hC7),fe rfl⟩⟩
 rintro ⟨s0_1,s0_5⟩ _ p3l ⟨hB,F,rfl⟩ ho
 dsimp only at ho
 refine anz <| wq <| Wq rfl (cr [] p3l) <| Qa (Mi rfl) <| Qa (Ai rfl) <| fun p5o p00=>anz <| ?_
 cases ho
 exact W_ret ⟨_,res_1 Tryz.results31,rfl,(hB.trans p00)⟩

abbrev laws_FnExactLeastCovers_post (w:World) (x:(Bool)) (e:Ending) (w':World):Prop:=e = .returned (.bool x)∧Chg [] w w'
abbrev laws_FnExactLeastCovers_T (w:World):=Tm Tryz.prog Tryz.f5 96 (laws_FnExactLeastCovers_post w)
theorem laws_FnExactLeastCovers_calls {w:World} {x0:MTopology} {zk:Value} {zo:List Nat} {zl:Value} {zp:List Nat} {zm:Value} {zq:List Nat} {zn:Value} {zr:List Nat} {zj:Value} {zd:List Nat} (zt:(sImm (sInt .i64)).rep w.heap [zk] x0.Shape.From zo) (zu:(sImm (sInt .i64)).rep w.heap [zl] x0.Shape.To zp) (zv:(sImm (sInt .i64)).rep w.heap [zm] x0.Shape.Identity zq) (zw:(sImm (sImm (sInt .i64))).rep w.heap [zn] x0.Shape.Composites zr) (zi:(sImm (sImm (sImm (sInt .i64)))).rep w.heap [zj] x0.Covers zd) {y:(Bool)} (hm:laws_FnExactLeastCovers x0=some y) :
  Calls Tryz.prog 5 #[.agg #[.int .i64 (x0.Shape.Objects),zk,zl,zm,zn,zj]] w (laws_FnExactLeastCovers_post w y):=by
 refine Cm (S:=Unit) Tryz.func5 rfl Tryz.ntmps5 rfl hm fun o ho hB=>?_
 clear hm
 refine wq <| W_region rfl <| WL.box fun b1 wd2 hC3 hr4 hl5=>?_
 replace hr4:Row wd2 b1 [.int .i64 (x0.Shape.Objects),zk,zl,zm,zn,zj] 28:=hr4
 replace hB:=(hB.trans hC3)
 refine Wb (Ab rfl) <| anz <| wq <| Wq rfl (cr [] wd2) <| Qa (Ai rfl) <| fun wd8 hC9=>anz <| wq <| Wq rfl hC9 <| Qa (Lg ag28 hr4.at rfl rfl) <| Qa (Mi rfl) <| ?_
 obtain ⟨y10,p8e,ho⟩:=bs ho
 refine Qc Tryz.func15 rfl rfl (fun _ hC=>laws_szTopology_calls (kp _ zt (hB.trans hC)) (kp _ zu (hB.trans hC)) (kp _ zv (hB.trans hC)) (kp _ zw (hB.trans hC)) (kp _ zi (hB.trans hC)) p8e) <| Qa (Ai rfl) <| fun pbi p8f=>anz <| wq <| wq <| Wq rfl p8f <| Qa (Mi rfl) <| Qa (Bl rfl rfl) <| fun p4n pt=>anz <| W_cond (b:=decide (y10 < (0:Int))) rfl ?_ ?_
 intro p2v
 rw [p2v] at ho
 refine wq <| Wq rfl pt <| Qa (Ab rfl) <| fun pbj p8g=>anz <| ?_
 cases ho
 exact W_ret ⟨_,res_1 Tryz.results5,rfl,(hB.trans p8g)⟩
 intro p2v
 rw [p2v] at ho
 refine W_skip <| anz <| wq <| W_region rfl <| Wa pt (Lg ag28 hr4.at rfl rfl) <| ?_
 obtain ⟨y19,p8h,ho⟩:=bs ho
 refine WL.call rfl (op_callF Tryz.func17 rfl rfl) (laws_toTopology_calls (kp _ zt (hB.trans pt)) (kp _ zu (hB.trans pt)) (kp _ zv (hB.trans pt)) (kp _ zw (hB.trans pt)) (kp _ zi (hB.trans pt)) p8h) <| ?_
 rintro _ nj ⟨v23,f24,v26,f27,v29,j2,v32,f33,v35,f36,rfl,kc,n5,n6,p2,n7,n8,d38,d39,d40,j3,gg,d43,d44,d45,d46,d47⟩
 refine ⟨_,rfl,?_⟩
 replace n5:=OE.low (G:=[]) n5 (hB.trans pt).size
 replace n6:=OE.low (G:=[]) n6 (hB.trans pt).size
 replace p2:=OE.low (G:=[]) p2 (hB.trans pt).size
 replace n7:=OE.low (G:=[]) n7 (hB.trans pt).size
 replace n8:=OE.low (G:=[]) n8 (hB.trans pt).size
 have p3x:=pt.trans kc
 replace hr4:=kr hr4 p3x
 replace hB:=(hB.trans p3x)
 obtain ⟨y54,p8i,ho⟩:=bs ho
 refine WL.call rfl (op_callF Tryz.func27 rfl rfl) (spec_LeastCovers_calls ((Le.own (Le.refl _) 2).le n5.1) ((Le.own (Le.refl _) 2).le n6.1) ((Le.own (Le.refl _) 2).le p2.1) ((Le.own (Le.own (Le.refl _) 2) 22).le n7.1) ((Le.own (Le.own (Le.own (Le.refl _) 2) 22) 23).le n8.1) p8i) <| ?_
 rintro _ p4u ⟨v58,f59,rfl,q0,p3⟩
 refine ⟨_,rfl,?_⟩
 replace p3:=OE.low (G:=[]) p3 hB.size
 replace hr4:=kr hr4 q0
 replace n5:=ko n5 q0
 replace n6:=ko n6 q0
 replace p2:=ko p2 q0
 replace n7:=ko n7 q0
 replace n8:=ko n8 q0
 replace hB:=(hB.trans q0)
 refine Wb (Mt rfl) <| Wb (Ex v58 rfl rfl) <| Wb (Exi rfl rfl) <| Wb (Av v58 rfl) <| Wb (Ai rfl) <| anz <| wq <| W_region rfl <| Wb (Lg ag28 hr4.at rfl rfl) <| ?_
 obtain ⟨y68,p04,ho⟩:=bs ho
 refine WL.call rfl (op_callF Tryz.func17 rfl rfl) (laws_toTopology_calls (kp _ zt hB) (kp _ zu hB) (kp _ zv hB) (kp _ zw hB) (kp _ zi hB) p04) <| ?_
 rintro _ p5s ⟨v72,f73,v75,f76,v78,f79,v81,f82,v84,f85,rfl,n0,p7,p8,p9,pa,pb,d87,d88,d89,d90,d91,d92,d93,kq,jr,ks⟩
 refine ⟨_,rfl,?_⟩
 have kt:=dl (ofr p7) (one_lt (Row.lt hr4))
 have ku:=dl (ofr p7) (sl _ p3.1)
 replace p7:=OE.low (G:=[]) p7 hB.size
 have kv:=dl (ofr p8) (one_lt (Row.lt hr4))
 have kw:=dl (ofr p8) (sl _ p3.1)
 replace p8:=OE.low (G:=[]) p8 hB.size
 have kx:=dl (ofr p9) (one_lt (Row.lt hr4))
 have ky:=dl (ofr p9) (sl _ p3.1)
 replace p9:=OE.low (G:=[]) p9 hB.size
 have p0n:=dl (ofr pa) (one_lt (Row.lt hr4))
 have p0o:=dl (ofr pa) (sl _ p3.1)
 replace pa:=OE.low (G:=[]) pa hB.size
 have p0p:=dl (ofr pb) (one_lt (Row.lt hr4))
 have p0q:=dl (ofr pb) (sl _ p3.1)
 replace pb:=OE.low (G:=[]) pb hB.size
 replace hr4:=kr hr4 n0
 replace p3:=ko p3 n0
 replace hB:=(hB.trans n0)
 refine WL.alloc info34 zr34 fun k8 p8o jc p2w jd=>?_
 replace p2w:Row p8o k8 [.int .i64 ((0:Int)),.slice none 0 0,.slice none 0 0,.slice none 0 0,.slice none 0 0,.slice none 0 0] 34:=p2w
 have p8p:w.heap.size≤k8:=Nat.le_trans hB.size jd
 have p0r:=dl (onw jd) (one_lt (Row.lt hr4))
 have p0s:=dl (onw jd) (sl _ p3.1)
 have nr:=dl (onw jd) (sl _ p7.1)
 have ns:=dl (onw jd) (sl _ p8.1)
 have nt:=dl (onw jd) (sl _ p9.1)
 have nu:=dl (onw jd) (sl _ pa.1)
 have k1:=dl (onw jd) (sl _ pb.1)
 replace hr4:=kr hr4 jc
 replace p3:=ko p3 jc
 replace p7:=ko p7 jc
 replace p8:=ko p8 jc
 replace p9:=ko p9 jc
 replace pa:=ko pa jc
 replace pb:=ko pb jc
 replace hB:=(hB.trans jc)
 refine WL.storeAll (us:=[.int .i64 (y68.Shape.Objects),v72,v75,v78,v81,v84]) info34 (by rw [sz34]; rfl) p2w rfl rfl rfl (by intro u hu; simp only [List.mem_cons,List.mem_nil_iff,or_false] at hu; rcases hu with rfl | rfl | rfl | rfl | rfl | rfl <;> first | exact rfl | exact (STy.one _ p7.1 _ (ms rfl)) | exact (STy.one _ p8.1 _ (ms rfl)) | exact (STy.one _ p9.1 _ (ms rfl)) | exact (STy.one _ pa.1 _ (ms rfl)) | exact (STy.one _ pb.1 _ (ms rfl))) fun p8q je qg=>?_
 replace qg:Row p8q k8 [.int .i64 (y68.Shape.Objects),v72,v75,v78,v81,v84] 34:=qg
 replace hr4:=Row.keep hr4 je ((p0r).symm _ (ms rfl))
 replace p3:=okp p3 je (p0s).symm
 replace p7:=okp p7 je (nr).symm
 replace p8:=okp p8 je (ns).symm
 replace p9:=okp p9 je (nt).symm
 replace pa:=okp pa je (nu).symm
 replace pb:=okp pb je (k1).symm
 replace hB:=hB.then je (one_then p8p)
 refine anz <| wq <| W_region rfl <| Wb (Lg ag34 qg.at rfl rfl) <| ?_
 obtain ⟨y126,p8r,ho⟩:=bs ho
 refine WL.call rfl (op_callF Tryz.func28 rfl rfl) (impl_LeastCovers_calls ((Le.own (Le.refl _) 2).le p7.1) ((Le.own (Le.refl _) 2).le p8.1) ((Le.own (Le.refl _) 2).le p9.1) ((Le.own (Le.own (Le.refl _) 2) 22).le pa.1) ((Le.own (Le.own (Le.own (Le.refl _) 2) 22) 23).le pb.1) p8r) <| ?_
 rintro _ p8s ⟨v130,pbv,rfl,j5,pd⟩
 refine ⟨_,rfl,?_⟩
 have p0t:=dl (ofr pd) (one_lt (Row.lt hr4))
 have p0u:=dl (ofr pd) (sl _ p3.1)
 have p0v:=dl (ofr pd) (sl _ p7.1)
 have p8t:=dl (ofr pd) (sl _ p8.1)
 have p0w:=dl (ofr pd) (sl _ p9.1)
 have p0x:=dl (ofr pd) (sl _ pa.1)
 have p8u:=dl (ofr pd) (sl _ pb.1)
 replace pd:=OE.low (G:=[]) pd hB.size
 replace hr4:=kr hr4 j5
 replace p3:=ko p3 j5
 replace p7:=ko p7 j5
 replace p8:=ko p8 j5
 replace p9:=ko p9 j5
 replace pa:=ko pa j5
 replace pb:=ko pb j5
 replace qg:=kr qg j5
 replace hB:=(hB.trans j5)
 refine Wb (Mt rfl) <| Wb (Ex v130 rfl rfl) <| Wb (Exi rfl rfl) <| Wb (Av v130 rfl) <| Wb (Ai rfl) <| anz <| wq <| wq <| Wq rfl (cr [] p8s) <| ?_
 obtain ⟨g142,hm143,ho⟩:=bs ho
 refine QL.meet (fun r=>∃ F,r=updL F [(1,.pointer (some (⟨b1,0,none⟩))),(4,v58),(5,.int .i64 (y54.2)),(6,.pointer (some (⟨k8,0,none⟩))),(7,v130),(8,.int .i64 (y126.2)),(40,.bool (g142))]) ?_ ?_
 skip
 refine Qa (Mv v130 rfl) <| Qa (Mv v58 rfl) <| ?_
 obtain ⟨y144,p8v,hm143⟩:=bs hm143
 refine Qc Tryz.func29 rfl rfl (fun _ hC=>laws_eqInt64SS_calls ((Le.own (Le.own (Le.refl _) 2) 22).le (kp _ pd.1 hC)) ((Le.own (Le.own (Le.refl _) 2) 22).le (kp _ p3.1 hC)) p8v) <| Qa (Nt rfl) <| Qa (Mb rfl) <| ?_
 rcases Bool.eq_false_or_eq_true (!(y144)) with qr | qr
 rw [qr] at hm143
 refine Sk rfl qr rfl <| Sk rfl qr rfl <| Sk rfl qr rfl <| Qa (PTb rfl qr rfl) <| ?_
 cases hm143
 exact fe rfl
 rw [qr] at hm143
 refine Qg rfl qr (Mi rfl) <| Qg rfl qr (Mi rfl) <| Qg rfl qr (Bn rfl rfl) <| Qa (PFb rfl qr rfl) <| ?_
 cases hm143
 exact fe rfl
 rintro _ ⟨F,rfl⟩
 refine fun n9 qz=>anz <| W_cond (b:=g142) rfl ?_ ?_
 intro p2x
 rw [p2x] at ho
 refine wq <| Wq rfl qz <| Qa (Ab rfl) <| fun pbw p0z=>anz <| ?_
 cases ho
 exact W_ret ⟨_,res_1 Tryz.results5,rfl,(hB.trans p0z)⟩
 intro p2x
 rw [p2x] at ho
 refine W_skip <| anz <| wq <| wq <| ?_
 obtain ⟨y152,p8w,ho⟩:=bs ho
 refine W_any (m:=3) (U:=.replicate 3 []) (S:=[sV (.agg #[.int .i64 (y68.Shape.Objects),v72,v75,v78,v81,v84]),sV (.agg #[.int .i64 (x0.Shape.Objects),zk,zl,zm,zn,zj]),⟨true,pl (fun f w v=>∃ (v154:Value) (ql:List Nat) (v157:Value) (qm:List Nat) (v160:Value) (qn:List Nat) (v163:Value) (qo:List Nat) (v166:Value) (qp:List Nat),v = .agg #[.int .i64 (y152.Shape.Objects),v154,v157,v160,v163,v166]∧f=(ql++(qm++(qn++(qo++qp))))∧(sOwn 2 (sInt .i64)).rep w.heap [v154] (y152.Shape.From) ql∧(sOwn 2 (sInt .i64)).rep w.heap [v157] (y152.Shape.To) qm∧(sOwn 2 (sInt .i64)).rep w.heap [v160] (y152.Shape.Identity) qn∧(sOwn 22 (sOwn 2 (sInt .i64))).rep w.heap [v163] (y152.Shape.Composites) qo∧(sOwn 23 (sOwn 22 (sOwn 2 (sInt .i64)))).rep w.heap [v166] (y152.Covers) qp∧List.Nodup ((ql++(qm++(qn++(qo++qp))))))⟩]) (Z:=[]) hmix rfl (by decide) (by decide +kernel) (fun _ _ _ h=>np_out h) (by decide) rfl (by decide +kernel) (stable_all <| stable_cons stable_val (stable_cons stable_val (stable_cons (stable_pl <| by rintro f F w w' v hC hn ⟨v154,ql,v157,qm,v160,qn,v163,qo,v166,qp,e1_,e2_,ho156,ho159,ho162,ho165,ho168,hnd⟩; exact ⟨v154,ql,v157,qm,v160,qn,v163,qo,v166,qp,e1_,e2_,STy.keep _ ho156 hC (fun b hb=>hn b (by rw [e2_]; simp [hb])),STy.keep _ ho159 hC (fun b hb=>hn b (by rw [e2_]; simp [hb])),STy.keep _ ho162 hC (fun b hb=>hn b (by rw [e2_]; simp [hb])),STy.keep _ ho165 hC (fun b hb=>hn b (by rw [e2_]; simp [hb])),STy.keep _ ho168 hC (fun b hb=>hn b (by rw [e2_]; simp [hb])),hnd⟩) ( stable_nil)))) ?_ ?_
 refine owes_cons ?_ <| owes_cons ?_ <| owes_cons ?_ <| owes_nil
 exact Oh rfl rfl rfl [(6,.pointer (some (⟨k8,0,none⟩)))] qz rfl rfl fun _=>Lg ag34 qg.at rfl rfl
 exact Oh rfl rfl rfl [(1,.pointer (some (⟨b1,0,none⟩)))] qz rfl rfl fun _=>Lg ag28 hr4.at rfl rfl
 refine Owes.mem rfl rfl rfl <| fun g r wr hCr H hot=>?_
 have hC:=qz.trans hCr
 obtain ⟨F,rfl⟩:=fr (r:=r) (l:=[(42,.agg #[.int .i64 (x0.Shape.Objects),zk,zl,zm,zn,zj])]) ⟨(H 1 (by decide +kernel) 42 rfl),trivial⟩
 exact OpW.callV (op_callF Tryz.func17 rfl rfl) (laws_toTopology_calls (kp _ zt (hB.trans hC)) (kp _ zu (hB.trans hC)) (kp _ zv (hB.trans hC)) (kp _ zw (hB.trans hC)) (kp _ zi (hB.trans hC)) p8w) fun e w' ⟨v154,ql,v157,qm,v160,qn,v163,qo,v166,qp,he,hC',jf,jg,jh,ji,jj,d0_1,d0_2,d0_3,d0_4,d1_2,d1_3,d1_4,d2_3,d2_4,d3_4⟩=>⟨_,he,hC',(ql++(qm++(qn++(qo++qp)))),(fun b hb=>(List.mem_append.1 hb).elim (fun hb=>⟨ofr jf b hb,sl _ jf.1 b hb⟩) (fun hb=>(List.mem_append.1 hb).elim (fun hb=>⟨ofr jg b hb,sl _ jg.1 b hb⟩) (fun hb=>(List.mem_append.1 hb).elim (fun hb=>⟨ofr jh b hb,sl _ jh.1 b hb⟩) (fun hb=>(List.mem_append.1 hb).elim (fun hb=>⟨ofr ji b hb,sl _ ji.1 b hb⟩) (fun hb=>⟨ofr jj b hb,sl _ jj.1 b hb⟩))))),v154,ql,v157,qm,v160,qn,v163,qo,v166,qp,rfl,rfl,jf.1,jg.1,jh.1,ji.1,jj.1,(nodup_app jf.2.1 (nodup_app jg.2.1 (nodup_app jh.2.1 (nodup_app ji.2.1 jj.2.1 d3_4) (dis_appR d2_3 d2_4)) (dis_appR d1_2 (dis_appR d1_3 d1_4))) (dis_appR d0_1 (dis_appR d0_2 (dis_appR d0_3 d0_4))))⟩
 rintro g r na ⟨p8x,hdone,hot,hfresh,hdis⟩
 obtain ⟨v154,ql,v157,qm,v160,qn,v163,qo,v166,qp,hvo156,hgo156,jf,jg,jh,ji,jj,hno156⟩:=hdone 2 (by decide) (by decide) 43 rfl
 have hfo156:=hfresh 2 (by decide)
 have hdd:=hdis
 obtain ⟨F,rfl⟩:=fw hdone hot [(1,.pointer (some (⟨b1,0,none⟩))),(4,v58),(5,.int .i64 (y54.2)),(6,.pointer (some (⟨k8,0,none⟩))),(7,v130),(8,.int .i64 (y126.2))] [(41,.agg #[.int .i64 (y68.Shape.Objects),v72,v75,v78,v81,v84])] [0] rfl rfl rfl rfl (z:=[(43,.agg #[.int .i64 (y152.Shape.Objects),v154,v157,v160,v163,v166])]) ⟨hvo156,trivial⟩
 have p8y : ∀ b∈ql,n9.heap.size≤b:=fun b hb=>(hfo156 b (show b∈g 2 from (show ∀ b∈ql,b∈g 2 from (fun b hb=>(by rw [hgo156]; simp [hb]))) b hb)).1
 replace jf:OE [] w.heap.size na (sOwn 2 (sInt .i64)) [v154] (y152.Shape.From) ql:=⟨jf,(List.nodup_append.1 hno156).1,fun b hb=>.inr (Nat.le_trans (hB.trans qz).size (p8y b hb))⟩
 have p8z : ∀ b∈qm,n9.heap.size≤b:=fun b hb=>(hfo156 b (show b∈g 2 from (show ∀ b∈qm,b∈g 2 from (fun b hb=>(by rw [hgo156]; simp [hb]))) b hb)).1
 replace jg:OE [] w.heap.size na (sOwn 2 (sInt .i64)) [v157] (y152.Shape.To) qm:=⟨jg,(List.nodup_append.1 (List.nodup_append.1 hno156).2.1).1,fun b hb=>.inr (Nat.le_trans (hB.trans qz).size (p8z b hb))⟩
 have p90 : ∀ b∈qn,n9.heap.size≤b:=fun b hb=>(hfo156 b (show b∈g 2 from (show ∀ b∈qn,b∈g 2 from (fun b hb=>(by rw [hgo156]; simp [hb]))) b hb)).1
 replace jh:OE [] w.heap.size na (sOwn 2 (sInt .i64)) [v160] (y152.Shape.Identity) qn:=⟨jh,(List.nodup_append.1 (List.nodup_append.1 (List.nodup_append.1 hno156).2.1).2.1).1,fun b hb=>.inr (Nat.le_trans (hB.trans qz).size (p90 b hb))⟩
 have p91 : ∀ b∈qo,n9.heap.size≤b:=fun b hb=>(hfo156 b (show b∈g 2 from (show ∀ b∈qo,b∈g 2 from (fun b hb=>(by rw [hgo156]; simp [hb]))) b hb)).1
 replace ji:OE [] w.heap.size na (sOwn 22 (sOwn 2 (sInt .i64))) [v163] (y152.Shape.Composites) qo:=⟨ji,(List.nodup_append.1 (List.nodup_append.1 (List.nodup_append.1 (List.nodup_append.1 hno156).2.1).2.1).2.1).1,fun b hb=>.inr (Nat.le_trans (hB.trans qz).size (p91 b hb))⟩
 have p92 : ∀ b∈qp,n9.heap.size≤b:=fun b hb=>(hfo156 b (show b∈g 2 from (show ∀ b∈qp,b∈g 2 from (fun b hb=>(by rw [hgo156]; simp [hb]))) b hb)).1
 replace jj:OE [] w.heap.size na (sOwn 23 (sOwn 22 (sOwn 2 (sInt .i64)))) [v166] (y152.Covers) qp:=⟨jj,(List.nodup_append.1 (List.nodup_append.1 (List.nodup_append.1 (List.nodup_append.1 hno156).2.1).2.1).2.1).2.1,fun b hb=>.inr (Nat.le_trans (hB.trans qz).size (p92 b hb))⟩
 have j0:=(qz.trans p8x)
 replace hr4:=kr hr4 j0
 replace p3:=ko p3 j0
 replace p7:=ko p7 j0
 replace p8:=ko p8 j0
 replace p9:=ko p9 j0
 replace pa:=ko pa j0
 replace pb:=ko pb j0
 replace qg:=kr qg j0
 replace pd:=ko pd j0
 replace hB:=(hB.trans j0)
 obtain ⟨y222,p93,ho⟩:=bs ho
 refine WL.call rfl (op_callF Tryz.func19 rfl rfl) (laws_eqTopology_calls ((Le.own (Le.refl _) 2).le p7.1) ((Le.own (Le.refl _) 2).le p8.1) ((Le.own (Le.refl _) 2).le p9.1) ((Le.own (Le.own (Le.refl _) 2) 22).le pa.1) ((Le.own (Le.own (Le.own (Le.refl _) 2) 22) 23).le pb.1) ((Le.own (Le.refl _) 2).le jf.1) ((Le.own (Le.refl _) 2).le jg.1) ((Le.own (Le.refl _) 2).le jh.1) ((Le.own (Le.own (Le.refl _) 2) 22).le ji.1) ((Le.own (Le.own (Le.own (Le.refl _) 2) 22) 23).le jj.1) p93) <| ?_
 rintro _ pbx ⟨rfl,p3y⟩
 refine ⟨_,rfl,?_⟩
 refine Wb (Nt rfl) <| anz <| W_cond (b:=!(y222)) rfl ?_ ?_
 intro p2y
 rw [p2y] at ho
 refine wq <| Wq rfl p3y <| Qa (Ab rfl) <| fun pby p94=>anz <| ?_
 cases ho
 exact W_ret ⟨_,res_1 Tryz.results5,rfl,(hB.trans p94)⟩
 intro p2y
 rw [p2y] at ho
 refine W_skip <| anz <| wq <| Wq rfl p3y <| Qa (Ai rfl) <| fun js p3z=>anz <| wq <| W_region rfl <| Wa p3z (Lg ag34 qg.at rfl rfl) <| Wb (Mi rfl) <| ?_
 have j1:=p3z.trans (cr [] js)
 replace hr4:=kr hr4 j1
 replace p3:=ko p3 j1
 replace p7:=ko p7 j1
 replace p8:=ko p8 j1
 replace p9:=ko p9 j1
 replace pa:=ko pa j1
 replace pb:=ko pb j1
 replace qg:=kr qg j1
 replace pd:=ko pd j1
 replace hB:=(hB.trans j1)
 obtain ⟨y232,p95,ho⟩:=bs ho
 refine WL.call rfl (op_callF Tryz.func24 rfl rfl) (laws_markTopology_calls (OE.give (B':=js.heap.size) p7 fun _ h=>h) (OE.give (B':=js.heap.size) p8 fun _ h=>h) (OE.give (B':=js.heap.size) p9 fun _ h=>h) (OE.give (B':=js.heap.size) pa fun _ h=>h) (OE.give (B':=js.heap.size) pb fun _ h=>h) d87 d88 d89 d90 d91 d92 d93 kq jr ks p95) <| ?_
 rintro _ p96 ⟨pbz,pc0,pc1,pc2,pc3,rfl,p97,p40,p41,p42,p43,p44,g5,n2,n3,pc4,pc5,pc6,pc7,pc8,pc9,pca⟩
 refine ⟨_,rfl,?_⟩
 replace p40:=OE.back p40 (low_app p7.2.2 (low_app p8.2.2 (low_app p9.2.2 (low_app pa.2.2 pb.2.2)))) hB.size
 replace p41:=OE.back p41 (low_app p7.2.2 (low_app p8.2.2 (low_app p9.2.2 (low_app pa.2.2 pb.2.2)))) hB.size
 replace p42:=OE.back p42 (low_app p7.2.2 (low_app p8.2.2 (low_app p9.2.2 (low_app pa.2.2 pb.2.2)))) hB.size
 replace p43:=OE.back p43 (low_app p7.2.2 (low_app p8.2.2 (low_app p9.2.2 (low_app pa.2.2 pb.2.2)))) hB.size
 replace p44:=OE.back p44 (low_app p7.2.2 (low_app p8.2.2 (low_app p9.2.2 (low_app pa.2.2 pb.2.2)))) hB.size
 have nb:=((cr [] js).nil (G:=(f73++(f76++(f79++(f82++f85)))))).trans p97
 replace hr4:=Row.keep hr4 nb ((Dis.symm (da kt (da kv (da kx (da p0n p0p))))) _ (ms rfl))
 replace p3:=okp p3 nb (Dis.symm (da ku (da kw (da ky (da p0o p0q)))))
 replace qg:=Row.keep qg nb ((Dis.symm (da (nr).symm (da (ns).symm (da (nt).symm (da (nu).symm (k1).symm))))) _ (ms rfl))
 replace pd:=okp pd nb (Dis.symm (da (p0v).symm (da (p8t).symm (da (p0w).symm (da (p0x).symm (p8u).symm)))))
 replace hB:=hB.then nb (low_app p7.2.2 (low_app p8.2.2 (low_app p9.2.2 (low_app pa.2.2 pb.2.2))))
 refine Wb (Ai rfl) <| anz <| wq <| wq <| Wq rfl (cr [] p96) <| ?_
 obtain ⟨g277,hm278,ho⟩:=bs ho
 refine QL.meet (fun r=>∃ F,r=updL F [(1,.pointer (some (⟨b1,0,none⟩))),(4,v58),(5,.int .i64 (y54.2)),(7,v130),(61,.bool (g277))]) ?_ ?_
 skip
 refine Qa (Mi rfl) <| Qa (Bl rfl rfl) <| Qa (Mb rfl) <| ?_
 rcases Bool.eq_false_or_eq_true (decide (y232.1 < (0:Int))) with qh | qh
 rw [qh] at hm278
 refine Sk rfl qh rfl <| Sk rfl qh rfl <| Sk rfl qh rfl <| Sk rfl qh rfl <| Qa (PTb rfl qh rfl) <| Qa (Mb rfl) <| Sk rfl rfl rfl <| Sk rfl rfl rfl <| Sk rfl rfl rfl <| Qa (PTb rfl rfl rfl) <| ?_
 cases hm278
 exact fe rfl
 rw [qh] at hm278
 refine Qg rfl qh (Mv v130 rfl) <| Qg rfl qh (Mv v58 rfl) <| ?_
 obtain ⟨y280,p98,hm278⟩:=bs hm278
 refine Qcg rfl qh Tryz.func29 rfl rfl (fun _ hC=>laws_eqInt64SS_calls ((Le.own (Le.own (Le.refl _) 2) 22).le (kp _ pd.1 hC)) ((Le.own (Le.own (Le.refl _) 2) 22).le (kp _ p3.1 hC)) p98) <| Qg rfl qh (Nt rfl) <| Qa (PFb rfl qh rfl) <| Qa (Mb rfl) <| ?_
 rcases Bool.eq_false_or_eq_true (!(y280)) with qs | qs
 rw [qs] at hm278
 refine Sk rfl qs rfl <| Sk rfl qs rfl <| Sk rfl qs rfl <| Qa (PTb rfl qs rfl) <| ?_
 cases hm278
 exact fe rfl
 rw [qs] at hm278
 refine Qg rfl qs (Mi rfl) <| Qg rfl qs (Mi rfl) <| Qg rfl qs (Bn rfl rfl) <| Qa (PFb rfl qs rfl) <| ?_
 cases hm278
 exact fe rfl
 rintro _ ⟨F,rfl⟩
 refine fun pcb p45=>anz <| W_cond (b:=g277) rfl ?_ ?_
 intro p2z
 rw [p2z] at ho
 refine wq <| Wq rfl p45 <| Qa (Ab rfl) <| fun pcc p99=>anz <| ?_
 cases ho
 exact W_ret ⟨_,res_1 Tryz.results5,rfl,(hB.trans p99)⟩
 intro p2z
 rw [p2z] at ho
 refine W_skip <| anz <| wq <| Wq rfl p45 <| Qa (Ai rfl) <| fun p46 p9a=>anz <| wq <| W_region rfl <| Wb (Mv v130 rfl) <| Wb (Mi rfl) <| ?_
 have g6:=p9a.trans (cr [] p46)
 replace hr4:=kr hr4 g6
 replace p3:=ko p3 g6
 replace pd:=ko pd g6
 replace hB:=(hB.trans g6)
 obtain ⟨y291,p9b,ho⟩:=bs ho
 refine WL.call rfl (op_callF Tryz.func30 rfl rfl) (laws_markInt64SS_calls (OE.give (B':=p46.heap.size) pd fun _ h=>h) p9b) <| ?_
 rintro _ p9c ⟨pcd,rfl,p30,jk⟩
 refine ⟨_,rfl,?_⟩
 replace jk:=OE.back jk pd.2.2 hB.size
 replace hr4:=Row.keep hr4 p30 ((Dis.symm p0t) _ (ms rfl))
 replace p3:=okp p3 p30 (Dis.symm p0u)
 replace hB:=hB.then p30 pd.2.2
 refine Wb (Ai rfl) <| anz <| wq <| Wq rfl (cr [] p9c) <| Qa (Ai rfl) <| fun pce p9d=>anz <| wq <| Wq rfl p9d <| Qa (Mv v130 rfl) <| Qa (Mi rfl) <| ?_
 obtain ⟨y302,p9e,ho⟩:=bs ho
 refine Qc Tryz.func31 rfl rfl (fun _ hC=>laws_heldInt64SS_calls ((Le.own (Le.own (Le.refl _) 2) 22).le (kp _ jk.1 hC)) p9e) <| Qa (Ai rfl) <| fun pcf p9f=>anz <| wq <| wq <| Wq rfl p9f <| Qa (Mi rfl) <| Qa (Bl rfl rfl) <| fun pcg p47=>anz <| W_cond (b:=decide (y302 < (0:Int))) rfl ?_ ?_
 intro p31
 rw [p31] at ho
 refine wq <| Wq rfl p47 <| Qa (Ab rfl) <| fun pch p9g=>anz <| ?_
 cases ho
 exact W_ret ⟨_,res_1 Tryz.results5,rfl,(hB.trans p9g)⟩
 intro p31
 rw [p31] at ho
 refine W_skip <| anz <| wq <| wq <| Wq rfl p47 <| Qa (Mi rfl) <| Qa (Mi rfl) <| Qa (Bn rfl rfl) <| fun pci qi=>anz <| W_cond (b:=(y302) != (y291.1)) rfl ?_ ?_
 intro p32
 rw [p32] at ho
 refine wq <| Wq rfl qi <| Qa (Ab rfl) <| fun pcj p9h=>anz <| ?_
 cases ho
 exact W_ret ⟨_,res_1 Tryz.results5,rfl,(hB.trans p9h)⟩
 intro p32
 rw [p32] at ho
 refine W_skip <| anz <| wq <| W_region rfl <| Wa qi (Lg ag28 hr4.at rfl rfl) <| ?_
 obtain ⟨y316,p9i,ho⟩:=bs ho
 refine WL.call rfl (op_callF Tryz.func17 rfl rfl) (laws_toTopology_calls (kp _ zt (hB.trans qi)) (kp _ zu (hB.trans qi)) (kp _ zv (hB.trans qi)) (kp _ zw (hB.trans qi)) (kp _ zi (hB.trans qi)) p9i) <| ?_
 rintro _ p8a ⟨v320,pck,v323,pcl,v326,pcm,v329,pcn,v332,pco,rfl,ps,nc,nd,ne,nf,ng,pcp,pcq,pcr,pcs,pct,pcu,pcv,pcw,pcx,pcy⟩
 refine ⟨_,rfl,?_⟩
 replace nc:=OE.low (G:=[]) nc (hB.trans qi).size
 replace nd:=OE.low (G:=[]) nd (hB.trans qi).size
 replace ne:=OE.low (G:=[]) ne (hB.trans qi).size
 replace nf:=OE.low (G:=[]) nf (hB.trans qi).size
 replace ng:=OE.low (G:=[]) ng (hB.trans qi).size
 have g7:=qi.trans ps
 replace hr4:=kr hr4 g7
 replace p3:=ko p3 g7
 replace jk:=ko jk g7
 replace hB:=(hB.trans g7)
 obtain ⟨y361,p9j,ho⟩:=bs ho
 refine WL.call rfl (op_callF Tryz.func28 rfl rfl) (impl_LeastCovers_calls ((Le.own (Le.refl _) 2).le nc.1) ((Le.own (Le.refl _) 2).le nd.1) ((Le.own (Le.refl _) 2).le ne.1) ((Le.own (Le.own (Le.refl _) 2) 22).le nf.1) ((Le.own (Le.own (Le.own (Le.refl _) 2) 22) 23).le ng.1) p9j) <| ?_
 rintro _ p9k ⟨v365,pcz,rfl,j6,p33⟩
 refine ⟨_,rfl,?_⟩
 replace p33:=OE.low (G:=[]) p33 hB.size
 replace hr4:=kr hr4 j6
 replace p3:=ko p3 j6
 replace jk:=ko jk j6
 replace nc:=ko nc j6
 replace nd:=ko nd j6
 replace ne:=ko ne j6
 replace nf:=ko nf j6
 replace ng:=ko ng j6
 replace hB:=(hB.trans j6)
 refine Wb (Mt rfl) <| Wb (Ex v365 rfl rfl) <| Wb (Exi rfl rfl) <| Wb (Av v365 rfl) <| Wb (Ai rfl) <| anz <| wq <| wq <| Wq rfl (cr [] p9k) <| ?_
 obtain ⟨g377,hm378,ho⟩:=bs ho
 refine QL.meet (fun r=>∃ F,r=updL F [(7,v130),(10,.int .i64 (y291.1)),(87,.bool (g377))]) ?_ ?_
 skip
 refine Qa (Mv v365 rfl) <| Qa (Mv v58 rfl) <| ?_
 obtain ⟨y379,p9l,hm378⟩:=bs hm378
 refine Qc Tryz.func29 rfl rfl (fun _ hC=>laws_eqInt64SS_calls ((Le.own (Le.own (Le.refl _) 2) 22).le (kp _ p33.1 hC)) ((Le.own (Le.own (Le.refl _) 2) 22).le (kp _ p3.1 hC)) p9l) <| Qa (Nt rfl) <| Qa (Mb rfl) <| ?_
 rcases Bool.eq_false_or_eq_true (!(y379)) with qt | qt
 rw [qt] at hm378
 refine Sk rfl qt rfl <| Sk rfl qt rfl <| Sk rfl qt rfl <| Qa (PTb rfl qt rfl) <| ?_
 cases hm378
 exact fe rfl
 rw [qt] at hm378
 refine Qg rfl qt (Mi rfl) <| Qg rfl qt (Mi rfl) <| Qg rfl qt (Bn rfl rfl) <| Qa (PFb rfl qt rfl) <| ?_
 cases hm378
 exact fe rfl
 rintro _ ⟨F,rfl⟩
 refine fun pd0 p48=>anz <| W_cond (b:=g377) rfl ?_ ?_
 intro p34
 rw [p34] at ho
 refine wq <| Wq rfl p48 <| Qa (Ab rfl) <| fun pd1 p9m=>anz <| ?_
 cases ho
 exact W_ret ⟨_,res_1 Tryz.results5,rfl,(hB.trans p9m)⟩
 intro p34
 rw [p34] at ho
 refine W_skip <| anz <| wq <| Wq rfl p48 <| Qa (Ai rfl) <| fun pd2 p9n=>anz <| wq <| Wq rfl p9n <| Qa (Mv v130 rfl) <| Qa (Mi rfl) <| ?_
 obtain ⟨y389,p9o,ho⟩:=bs ho
 refine Qc Tryz.func31 rfl rfl (fun _ hC=>laws_heldInt64SS_calls ((Le.own (Le.own (Le.refl _) 2) 22).le (kp _ jk.1 hC)) p9o) <| Qa (Ai rfl) <| fun pd3 p9p=>anz <| wq <| wq <| Wq rfl p9p <| Qa (Mi rfl) <| Qa (Bl rfl rfl) <| fun pd4 p49=>anz <| W_cond (b:=decide (y389 < (0:Int))) rfl ?_ ?_
 intro p35
 rw [p35] at ho
 refine wq <| Wq rfl p49 <| Qa (Ab rfl) <| fun pd5 p9q=>anz <| ?_
 cases ho
 exact W_ret ⟨_,res_1 Tryz.results5,rfl,(hB.trans p9q)⟩
 intro p35
 rw [p35] at ho
 refine W_skip <| anz <| wq <| wq <| Wq rfl p49 <| Qa (Mi rfl) <| Qa (Mi rfl) <| Qa (Bn rfl rfl) <| fun pd6 p4a=>anz <| W_cond (b:=(y389) != (y291.1)) rfl ?_ ?_
 intro p36
 rw [p36] at ho
 refine wq <| Wq rfl p4a <| Qa (Ab rfl) <| fun pd7 p9r=>anz <| ?_
 cases ho
 exact W_ret ⟨_,res_1 Tryz.results5,rfl,(hB.trans p9r)⟩
 intro p36
 rw [p36] at ho
 refine W_skip <| anz <| wq <| Wq rfl p4a <| Qa (Ab rfl) <| fun pd8 p9s=>anz <| ?_
 cases ho
 exact W_ret ⟨_,res_1 Tryz.results5,rfl,(hB.trans p9s)⟩
end Go.Proofs.YtcmckiiafgcmjaaGreat
