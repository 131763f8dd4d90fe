/- Walks, printed by a program: what each function computes (a model on plain data), and that a call computes it. No condition beside those that each theorem names. -/
import Derived.Test.YtfbijbginbjecaaGreatTy
import Derived.Test.YtfbijbginbjecaaGreatZ00
import Derived.Test.YtfbijbginbjecaaGreatZ01
import Derived.Test.YtfbijbginbjecaaGreatZ02
namespace Go.Proofs.YtfbijbginbjecaaGreat
open Go Go.Li
set_option linter.unusedVariables false
set_option maxHeartbeats 4000000
set_option maxRecDepth 100000
noncomputable def spec_l27Category_L0 (y33:ML27Table×Bool) (s0_7:(List (List Bool))) (s0_8:Int):Option (Out ((List (List Bool))×Int) (ML27Table×(List (List Bool))×Int)):=
 (bif decide (s0_8 < (y33.1.Lists.length:Int)) then ((idx y33.1.Lists (s0_8))>>=fun e192=>((mk 1 ((e192.length:Int)))>>=fun n199=>((fits 24 (s0_7.length + 1))>>=fun n241=>(some (Out.norm (s0_7++[List.replicate n199 false],w64 (s0_8 + (1:Int)))))))) else (some (Out.exit 0 (s0_7,s0_8))))
noncomputable def spec_l27Category (x0:MCategory):Option (ML27Table×(List (List Bool))×Int):=
 retM (S:=Unit) ((spec_l02Is x0)>>=fun y24=>(bif !(y24) then (some (Out.ret (((ML27Table.mk (MCategory.mk ((0:Int)) ([]) ([]) ([]) ([])) ([]) ([]) ([])),([]),((1:Int)))))) else ((spec_l27Make x0)>>=fun y33=>(bif !(y33.2) then (some (Out.ret (((ML27Table.mk (MCategory.mk ((0:Int)) ([]) ([]) ([]) ([])) ([]) ([]) ([])),([]),((3:Int)))))) else (lbind (blockM 0 (loopM (fun s=>spec_l27Category_L0 y33 s.1 s.2) (([]:(List (List Bool))),(0:Int)))) (fun (s0_7,s0_8)=>(some (Out.ret ((y33.1,s0_7,((0:Int))))))))))))
abbrev spec_l27Category_post (zh:List Nat) (zg:List Nat) (zf:List Nat) (ze:List Nat) (w:World) (x:(ML27Table×(List (List Bool))×Int)) (e:Ending) (w':World):Prop:=∃ (v0:Value) (f0:List Nat) (v1:Value) (f1:List Nat) (v2:Value) (f2:List Nat) (v3:Value) (f3:List Nat) (v4:Value) (f4:List Nat) (v5:Value) (f5:List Nat) (v6:Value) (f6:List Nat) (v7:Value) (f7:List Nat),e = .returned (.tuple #[.agg #[.int .i64 x.1.C.Objects,v0,v1,v2,v3,v4,v5,v6],v7,.int .i64 x.2.2])∧Chg [] w w'∧(sImm (sInt .i64)).rep w'.heap [v0] x.1.C.From f0∧(∀ b∈f0,b∈(zh++(zg++(zf++ze))) ∨ w.heap.size≤b)∧(sImm (sInt .i64)).rep w'.heap [v1] x.1.C.To f1∧(∀ b∈f1,b∈(zh++(zg++(zf++ze))) ∨ w.heap.size≤b)∧(sImm (sInt .i64)).rep w'.heap [v2] x.1.C.Identity f2∧(∀ b∈f2,b∈(zh++(zg++(zf++ze))) ∨ w.heap.size≤b)∧(sImm (sImm (sInt .i64))).rep w'.heap [v3] x.1.C.Composites f3∧(∀ b∈f3,b∈(zh++(zg++(zf++ze))) ∨ w.heap.size≤b)∧(sImm (sImm (sImm (sInt .i64)))).rep w'.heap [v4] x.1.Lists f4∧(∀ b∈f4,b∈(zh++(zg++(zf++ze))) ∨ w.heap.size≤b)∧(sImm (sImm (sInt .i64))).rep w'.heap [v5] x.1.Pulls f5∧(∀ b∈f5,b∈(zh++(zg++(zf++ze))) ∨ w.heap.size≤b)∧(sImm (sInt .i64)).rep w'.heap [v6] x.1.Tops f6∧(∀ b∈f6,b∈(zh++(zg++(zf++ze))) ∨ w.heap.size≤b)∧OE [] w.heap.size w' (sOwn 82 (sOwn 4 sBool)) [v7] x.2.1 f7∧Dis f0 f7∧Dis f1 f7∧Dis f2 f7∧Dis f3 f7∧Dis f4 f7∧Dis f5 f7∧Dis f6 f7
abbrev spec_l27Category_T (zh:List Nat) (zg:List Nat) (zf:List Nat) (ze:List Nat) (w:World) (x:(ML27Table×(List (List Bool))×Int)) (r:Nat→Value) (w':World):Prop:=∃ v,(∀ a:Act,a.tmps.size=41→rho a=r→(results Tryz.f62 a.tmps).run Tryz.prog w' = .ok v w')∧spec_l27Category_post zh zg zf ze w x (.returned v) w'
theorem spec_l27Category_calls {w:World} {x0:MCategory} {z6:Value} {zh:List Nat} {z7:Value} {zg:List Nat} {z9:Value} {zf:List Nat} {z8:Value} {ze:List Nat} (za:(sImm (sInt .i64)).rep w.heap [z6] x0.From zh) (zb:(sImm (sInt .i64)).rep w.heap [z7] x0.To zg) (zd:(sImm (sInt .i64)).rep w.heap [z9] x0.Identity zf) (zc:(sImm (sImm (sInt .i64))).rep w.heap [z8] x0.Composites ze) {y:(ML27Table×(List (List Bool))×Int)} (hm:spec_l27Category x0=some y) :
  Calls Tryz.prog 62 #[.agg #[.int .i64 (x0.Objects),z6,z7,z9,z8]] w (spec_l27Category_post zh zg zf ze w y):=by
 refine calls_of_M (S:=Unit) (args:=[.agg #[.int .i64 (x0.Objects),z6,z7,z9,z8]]) Tryz.func62 rfl Tryz.ntmps62 (Nat.le_of_ble_eq_true rfl) (retM_some hm) ?_
 clear hm
 intro o ho
 have hB:Chg [] w w:=cr _ _
 refine wq ?_
 refine W_region rfl ?_
 refine WL.box fun b1 wd2 hC3 hr4 hl5=>?_
 replace hr4:Row wd2 b1 [.int .i64 (x0.Objects),z6,z7,z9,z8] 27:=hr4
 have hT11:=(cr [] w).trans hC3
 replace za:=kp _ za hT11
 replace zb:=kp _ zb hT11
 replace zd:=kp _ zd hT11
 replace zc:=kp _ zc hT11
 replace hB:=(hB.trans hT11)
 refine WL.alloc info78 zr78 fun b12 wd13 hC14 hr15 hl16=>?_
 replace hr15:Row wd13 b12 [.int .i64 ((0:Int)),.slice none 0 0,.slice none 0 0,.slice none 0 0,.slice none 0 0,.slice none 0 0,.slice none 0 0,.slice none 0 0] 78:=hr15
 have lo17:w.heap.size≤b12:=Nat.le_trans (hB.trans (cr [] wd2)).size hl16
 have d18:Dis [b12] zh:=dl (onw hl16) (sl _ (kp _ za (cr [] wd2)))
 have d19:Dis [b12] zg:=dl (onw hl16) (sl _ (kp _ zb (cr [] wd2)))
 have d20:Dis [b12] zf:=dl (onw hl16) (sl _ (kp _ zd (cr [] wd2)))
 have d21:Dis [b12] ze:=dl (onw hl16) (sl _ (kp _ zc (cr [] wd2)))
 have d22:Dis [b12] [b1]:=dl (onw hl16) (one_lt (Row.lt (kr hr4 (cr [] wd2))))
 have hT23:=(cr [] wd2).trans hC14
 replace za:=kp _ za hT23
 replace zb:=kp _ zb hT23
 replace zd:=kp _ zd hT23
 replace zc:=kp _ zc hT23
 replace hr4:=kr hr4 hT23
 replace hB:=(hB.trans hT23)
 refine wv (v:=.slice none 0 0) rfl (oa _) ?_
 refine wv (v:=.int .i64 ((0:Int))) rfl (oa _) ?_
 refine anz ?_
 refine wq ?_
 refine wq ?_
 refine Wq rfl (cr [] wd13) ?_
 refine qv (v:=.agg #[.int .i64 (x0.Objects),z6,z7,z9,z8]) rfl (fun _ hC=>op_loadAgg u27z rfl info27 (by rw [sz27]; rfl) rfl (kr hr4 hC).at) ?_
 obtain ⟨y24,hy25,ho⟩:=bs ho
 refine QL.call (v:=.bool (y24)) rfl (fun _ _=>op_callF Tryz.func113 rfl rfl) (fun _ hC=>(spec_l02Is_calls (kp _ za hC) (kp _ zb hC) (kp _ zd hC) (kp _ zc hC) hy25).mono fun _ _ h=>⟨h.1,hC.trans h.2⟩) ?_
 refine qv (v:=.bool (!(y24))) rfl (fun _ _=>op_not rfl) ?_
 intro wd26 hC27
 refine anz ?_
 refine W_cond (b:=!(y24)) rfl ?_ ?_
 intro hb28
 rw [hb28] at ho
 refine wq ?_
 refine W_region rfl ?_
 refine wv (v:=.agg #[.int .i64 ((0:Int)),.slice none 0 0,.slice none 0 0,.slice none 0 0,.slice none 0 0,.slice none 0 0,.slice none 0 0,.slice none 0 0]) rfl (op_build (bld78_)) ?_
 refine WL.storeAll (us:=[.int .i64 ((0:Int)),.slice none 0 0,.slice none 0 0,.slice none 0 0,.slice none 0 0,.slice none 0 0,.slice none 0 0,.slice none 0 0]) info78 (by rw [sz78]; rfl) (kr hr15 hC27) rfl rfl rfl (by intro u hu; simp only [List.mem_cons,List.mem_nil_iff,or_false] at hu; rcases hu with rfl | rfl | rfl | rfl | rfl | rfl | rfl | rfl <;> first | exact rfl) fun wd29 hC30 hr31=>?_
 replace hr31:Row wd29 b12 [.int .i64 ((0:Int)),.slice none 0 0,.slice none 0 0,.slice none 0 0,.slice none 0 0,.slice none 0 0,.slice none 0 0,.slice none 0 0] 78:=hr31
 have hT32:=(hC27.nil (G:=[b12])).trans hC30
 replace za:=STy.keep _ za hT32 (d18).symm
 replace zb:=STy.keep _ zb hT32 (d19).symm
 replace zd:=STy.keep _ zd hT32 (d20).symm
 replace zc:=STy.keep _ zc hT32 (d21).symm
 replace hr4:=Row.keep hr4 hT32 ((d22).symm _ (ms rfl))
 replace hB:=hB.then hT32 (one_then lo17)
 refine wv (v:=.slice none 0 0) rfl (oa _) ?_
 refine wv (v:=.int .i64 ((1:Int))) rfl (oa _) ?_
 refine anz ?_
 cases ho
 exact W_ret ⟨_,res_c2 Tryz.results62 u78 rfl info78 (by rw [sz78]; rfl) rfl (kr hr31 (cr [] wd29)).at,_,_,_,_,_,_,_,_,_,_,_,_,_,_,_,_,rfl,(hB.trans (cr [] wd29)),nil_imm,(fun _ h=>nomatch h),nil_imm,(fun _ h=>nomatch h),nil_imm,(fun _ h=>nomatch h),nil_imm,(fun _ h=>nomatch h),nil_imm,(fun _ h=>nomatch h),nil_imm,(fun _ h=>nomatch h),nil_imm,(fun _ h=>nomatch h),nil_OE,(fun _ h=>nomatch h),(fun _ h=>nomatch h),(fun _ h=>nomatch h),(fun _ h=>nomatch h),(fun _ h=>nomatch h),(fun _ h=>nomatch h),(fun _ h=>nomatch h)⟩
 intro hb28
 rw [hb28] at ho
 refine W_skip ?_
 refine anz ?_
 refine wq ?_
 refine W_region rfl ?_
 refine wv (v:=.agg #[.int .i64 (x0.Objects),z6,z7,z9,z8]) rfl (op_loadAgg u27z rfl info27 (by rw [sz27]; rfl) rfl (kr hr4 hC27).at) ?_
 obtain ⟨y33,hy34,ho⟩:=bs ho
 refine WL.call rfl (op_callF Tryz.func124 rfl rfl) (spec_l27Make_calls (kp _ za hC27) (kp _ zb hC27) (kp _ zd hC27) (kp _ zc hC27) hy34) ?_
 rintro _ wd35 ⟨v37,f38,v40,f41,v43,f44,v46,f47,v49,f50,v52,f53,v55,f56,rfl,hC36,o39,lo79,o42,lo80,o45,lo81,o48,lo82,o51,lo83,o54,lo84,o57,lo85⟩
 refine ⟨_,rfl,?_⟩
 have d87:Dis f38 [b12]:=dis_out lo79 (da (d18).symm (da (d19).symm (da (d20).symm (d21).symm))) (one_lt (Row.lt (kr hr15 hC27)))
 have lo88 : ∀ b∈f38,b∈(zh++(zg++(zf++ze))) ∨ w.heap.size≤b:=low_out lo79 (low_app (fun b hb=>.inl (by simp [hb])) (low_app (fun b hb=>.inl (by simp [hb])) (low_app (fun b hb=>.inl (by simp [hb])) (fun b hb=>.inl (by simp [hb]))))) (hB.trans hC27).size
 have d90:Dis f41 [b12]:=dis_out lo80 (da (d18).symm (da (d19).symm (da (d20).symm (d21).symm))) (one_lt (Row.lt (kr hr15 hC27)))
 have lo91 : ∀ b∈f41,b∈(zh++(zg++(zf++ze))) ∨ w.heap.size≤b:=low_out lo80 (low_app (fun b hb=>.inl (by simp [hb])) (low_app (fun b hb=>.inl (by simp [hb])) (low_app (fun b hb=>.inl (by simp [hb])) (fun b hb=>.inl (by simp [hb]))))) (hB.trans hC27).size
 have d93:Dis f44 [b12]:=dis_out lo81 (da (d18).symm (da (d19).symm (da (d20).symm (d21).symm))) (one_lt (Row.lt (kr hr15 hC27)))
 have lo94 : ∀ b∈f44,b∈(zh++(zg++(zf++ze))) ∨ w.heap.size≤b:=low_out lo81 (low_app (fun b hb=>.inl (by simp [hb])) (low_app (fun b hb=>.inl (by simp [hb])) (low_app (fun b hb=>.inl (by simp [hb])) (fun b hb=>.inl (by simp [hb]))))) (hB.trans hC27).size
 have d96:Dis f47 [b12]:=dis_out lo82 (da (d18).symm (da (d19).symm (da (d20).symm (d21).symm))) (one_lt (Row.lt (kr hr15 hC27)))
 have lo97 : ∀ b∈f47,b∈(zh++(zg++(zf++ze))) ∨ w.heap.size≤b:=low_out lo82 (low_app (fun b hb=>.inl (by simp [hb])) (low_app (fun b hb=>.inl (by simp [hb])) (low_app (fun b hb=>.inl (by simp [hb])) (fun b hb=>.inl (by simp [hb]))))) (hB.trans hC27).size
 have d99:Dis f50 [b12]:=dis_out lo83 (da (d18).symm (da (d19).symm (da (d20).symm (d21).symm))) (one_lt (Row.lt (kr hr15 hC27)))
 have lo100 : ∀ b∈f50,b∈(zh++(zg++(zf++ze))) ∨ w.heap.size≤b:=low_out lo83 (low_app (fun b hb=>.inl (by simp [hb])) (low_app (fun b hb=>.inl (by simp [hb])) (low_app (fun b hb=>.inl (by simp [hb])) (fun b hb=>.inl (by simp [hb]))))) (hB.trans hC27).size
 have d102:Dis f53 [b12]:=dis_out lo84 (da (d18).symm (da (d19).symm (da (d20).symm (d21).symm))) (one_lt (Row.lt (kr hr15 hC27)))
 have lo103 : ∀ b∈f53,b∈(zh++(zg++(zf++ze))) ∨ w.heap.size≤b:=low_out lo84 (low_app (fun b hb=>.inl (by simp [hb])) (low_app (fun b hb=>.inl (by simp [hb])) (low_app (fun b hb=>.inl (by simp [hb])) (fun b hb=>.inl (by simp [hb]))))) (hB.trans hC27).size
 have d105:Dis f56 [b12]:=dis_out lo85 (da (d18).symm (da (d19).symm (da (d20).symm (d21).symm))) (one_lt (Row.lt (kr hr15 hC27)))
 have lo106 : ∀ b∈f56,b∈(zh++(zg++(zf++ze))) ∨ w.heap.size≤b:=low_out lo85 (low_app (fun b hb=>.inl (by simp [hb])) (low_app (fun b hb=>.inl (by simp [hb])) (low_app (fun b hb=>.inl (by simp [hb])) (fun b hb=>.inl (by simp [hb]))))) (hB.trans hC27).size
 have hT107:=hC27.trans hC36
 replace za:=kp _ za hT107
 replace zb:=kp _ zb hT107
 replace zd:=kp _ zd hT107
 replace zc:=kp _ zc hT107
 replace hr4:=kr hr4 hT107
 replace hr15:=kr hr15 hT107
 replace hB:=(hB.trans hT107)
 refine wv (v:=.tuple #[.agg #[.int .i64 (y33.1.C.Objects),v37,v40,v43,v46,v49,v52,v55],.bool (y33.2)]) rfl (om _) ?_
 refine wv (v:=.agg #[.int .i64 (y33.1.C.Objects),v37,v40,v43,v46,v49,v52,v55]) rfl (op_extract rfl rfl) ?_
 refine wv (v:=.bool (y33.2)) rfl (op_extract rfl rfl) ?_
 refine WL.alloc info78 zr78 fun b108 wd109 hC110 hr111 hl112=>?_
 replace hr111:Row wd109 b108 [.int .i64 ((0:Int)),.slice none 0 0,.slice none 0 0,.slice none 0 0,.slice none 0 0,.slice none 0 0,.slice none 0 0,.slice none 0 0] 78:=hr111
 have lo113:w.heap.size≤b108:=Nat.le_trans (hB.trans (cr [] wd35)).size hl112
 have d114:Dis [b108] zh:=dl (onw hl112) (sl _ (kp _ za (cr [] wd35)))
 have d115:Dis [b108] zg:=dl (onw hl112) (sl _ (kp _ zb (cr [] wd35)))
 have d116:Dis [b108] zf:=dl (onw hl112) (sl _ (kp _ zd (cr [] wd35)))
 have d117:Dis [b108] ze:=dl (onw hl112) (sl _ (kp _ zc (cr [] wd35)))
 have d118:Dis [b108] [b1]:=dl (onw hl112) (one_lt (Row.lt (kr hr4 (cr [] wd35))))
 have d119:Dis [b108] [b12]:=dl (onw hl112) (one_lt (Row.lt (kr hr15 (cr [] wd35))))
 have d120:Dis [b108] f38:=dl (onw hl112) (sl _ (kp _ o39 (cr [] wd35)))
 have d121:Dis [b108] f41:=dl (onw hl112) (sl _ (kp _ o42 (cr [] wd35)))
 have d122:Dis [b108] f44:=dl (onw hl112) (sl _ (kp _ o45 (cr [] wd35)))
 have d123:Dis [b108] f47:=dl (onw hl112) (sl _ (kp _ o48 (cr [] wd35)))
 have d124:Dis [b108] f50:=dl (onw hl112) (sl _ (kp _ o51 (cr [] wd35)))
 have d125:Dis [b108] f53:=dl (onw hl112) (sl _ (kp _ o54 (cr [] wd35)))
 have d126:Dis [b108] f56:=dl (onw hl112) (sl _ (kp _ o57 (cr [] wd35)))
 have hT127:=(cr [] wd35).trans hC110
 replace za:=kp _ za hT127
 replace zb:=kp _ zb hT127
 replace zd:=kp _ zd hT127
 replace zc:=kp _ zc hT127
 replace o39:=kp _ o39 hT127
 replace o42:=kp _ o42 hT127
 replace o45:=kp _ o45 hT127
 replace o48:=kp _ o48 hT127
 replace o51:=kp _ o51 hT127
 replace o54:=kp _ o54 hT127
 replace o57:=kp _ o57 hT127
 replace hr4:=kr hr4 hT127
 replace hr15:=kr hr15 hT127
 replace hB:=(hB.trans hT127)
 refine WL.storeAll (us:=[.int .i64 (y33.1.C.Objects),v37,v40,v43,v46,v49,v52,v55]) info78 (by rw [sz78]; rfl) (kr hr111 (cr [] wd109)) rfl rfl rfl (by intro u hu; simp only [List.mem_cons,List.mem_nil_iff,or_false] at hu; rcases hu with rfl | rfl | rfl | rfl | rfl | rfl | rfl | rfl <;> first | exact rfl | exact (STy.one _ o39 _ (ms rfl)) | exact (STy.one _ o42 _ (ms rfl)) | exact (STy.one _ o45 _ (ms rfl)) | exact (STy.one _ o48 _ (ms rfl)) | exact (STy.one _ o51 _ (ms rfl)) | exact (STy.one _ o54 _ (ms rfl)) | exact (STy.one _ o57 _ (ms rfl))) fun wd128 hC129 hr130=>?_
 replace hr130:Row wd128 b108 [.int .i64 (y33.1.C.Objects),v37,v40,v43,v46,v49,v52,v55] 78:=hr130
 have hT131:=((cr [] wd109).nil (G:=[b108])).trans hC129
 replace za:=STy.keep _ za hT131 (d114).symm
 replace zb:=STy.keep _ zb hT131 (d115).symm
 replace zd:=STy.keep _ zd hT131 (d116).symm
 replace zc:=STy.keep _ zc hT131 (d117).symm
 replace o39:=STy.keep _ o39 hT131 (d120).symm
 replace o42:=STy.keep _ o42 hT131 (d121).symm
 replace o45:=STy.keep _ o45 hT131 (d122).symm
 replace o48:=STy.keep _ o48 hT131 (d123).symm
 replace o51:=STy.keep _ o51 hT131 (d124).symm
 replace o54:=STy.keep _ o54 hT131 (d125).symm
 replace o57:=STy.keep _ o57 hT131 (d126).symm
 replace hr4:=Row.keep hr4 hT131 ((d118).symm _ (ms rfl))
 replace hr15:=Row.keep hr15 hT131 ((d119).symm _ (ms rfl))
 replace hB:=hB.then hT131 (one_then lo113)
 refine wv (v:=.bool (y33.2)) rfl (oa _) ?_
 refine anz ?_
 refine wq ?_
 refine wq ?_
 refine Wq rfl (cr [] wd128) ?_
 refine qv (v:=.bool (y33.2)) rfl (fun _ _=>om _) ?_
 refine qv (v:=.bool (!(y33.2))) rfl (fun _ _=>op_not rfl) ?_
 intro wd132 hC133
 refine anz ?_
 refine W_cond (b:=!(y33.2)) rfl ?_ ?_
 intro hb134
 rw [hb134] at ho
 refine wq ?_
 refine W_region rfl ?_
 refine wv (v:=.agg #[.int .i64 ((0:Int)),.slice none 0 0,.slice none 0 0,.slice none 0 0,.slice none 0 0,.slice none 0 0,.slice none 0 0,.slice none 0 0]) rfl (op_build (bld78_)) ?_
 refine WL.storeAll (us:=[.int .i64 ((0:Int)),.slice none 0 0,.slice none 0 0,.slice none 0 0,.slice none 0 0,.slice none 0 0,.slice none 0 0,.slice none 0 0]) info78 (by rw [sz78]; rfl) (kr hr15 hC133) rfl rfl rfl (by intro u hu; simp only [List.mem_cons,List.mem_nil_iff,or_false] at hu; rcases hu with rfl | rfl | rfl | rfl | rfl | rfl | rfl | rfl <;> first | exact rfl) fun wd135 hC136 hr137=>?_
 replace hr137:Row wd135 b12 [.int .i64 ((0:Int)),.slice none 0 0,.slice none 0 0,.slice none 0 0,.slice none 0 0,.slice none 0 0,.slice none 0 0,.slice none 0 0] 78:=hr137
 have hT138:=(hC133.nil (G:=[b12])).trans hC136
 replace za:=STy.keep _ za hT138 (d18).symm
 replace zb:=STy.keep _ zb hT138 (d19).symm
 replace zd:=STy.keep _ zd hT138 (d20).symm
 replace zc:=STy.keep _ zc hT138 (d21).symm
 replace o39:=STy.keep _ o39 hT138 d87
 replace o42:=STy.keep _ o42 hT138 d90
 replace o45:=STy.keep _ o45 hT138 d93
 replace o48:=STy.keep _ o48 hT138 d96
 replace o51:=STy.keep _ o51 hT138 d99
 replace o54:=STy.keep _ o54 hT138 d102
 replace o57:=STy.keep _ o57 hT138 d105
 replace hr4:=Row.keep hr4 hT138 ((d22).symm _ (ms rfl))
 replace hr130:=Row.keep hr130 hT138 (d119 _ (ms rfl))
 replace hB:=hB.then hT138 (one_then lo17)
 refine wv (v:=.slice none 0 0) rfl (oa _) ?_
 refine wv (v:=.int .i64 ((3:Int))) rfl (oa _) ?_
 refine anz ?_
 cases ho
 exact W_ret ⟨_,res_c2 Tryz.results62 u78 rfl info78 (by rw [sz78]; rfl) rfl (kr hr137 (cr [] wd135)).at,_,_,_,_,_,_,_,_,_,_,_,_,_,_,_,_,rfl,(hB.trans (cr [] wd135)),nil_imm,(fun _ h=>nomatch h),nil_imm,(fun _ h=>nomatch h),nil_imm,(fun _ h=>nomatch h),nil_imm,(fun _ h=>nomatch h),nil_imm,(fun _ h=>nomatch h),nil_imm,(fun _ h=>nomatch h),nil_imm,(fun _ h=>nomatch h),nil_OE,(fun _ h=>nomatch h),(fun _ h=>nomatch h),(fun _ h=>nomatch h),(fun _ h=>nomatch h),(fun _ h=>nomatch h),(fun _ h=>nomatch h),(fun _ h=>nomatch h)⟩
 intro hb134
 rw [hb134] at ho
 refine W_skip ?_
 refine anz ?_
 refine wq ?_
 refine W_region rfl ?_
 refine WL.lit0 (sOwn 4 sBool) u79 info82 fun v139 wd140 f141 hC142 o143=>?_
 have d149:Dis f141 [b12]:=dl (ofr o143) (one_lt (Row.lt (kr hr15 hC133)))
 have d150:Dis f141 f38:=dl (ofr o143) (sl _ (kp _ o39 hC133))
 have d151:Dis f141 f41:=dl (ofr o143) (sl _ (kp _ o42 hC133))
 have d152:Dis f141 f44:=dl (ofr o143) (sl _ (kp _ o45 hC133))
 have d153:Dis f141 f47:=dl (ofr o143) (sl _ (kp _ o48 hC133))
 have d154:Dis f141 f50:=dl (ofr o143) (sl _ (kp _ o51 hC133))
 have d155:Dis f141 f53:=dl (ofr o143) (sl _ (kp _ o54 hC133))
 have d156:Dis f141 f56:=dl (ofr o143) (sl _ (kp _ o57 hC133))
 have d157:Dis f141 [b108]:=dl (ofr o143) (one_lt (Row.lt (kr hr130 hC133)))
 replace o143:=OE.low (G:=[]) o143 (hB.trans hC133).size
 have hT158:=hC133.trans hC142
 replace za:=kp _ za hT158
 replace zb:=kp _ zb hT158
 replace zd:=kp _ zd hT158
 replace zc:=kp _ zc hT158
 replace o39:=kp _ o39 hT158
 replace o42:=kp _ o42 hT158
 replace o45:=kp _ o45 hT158
 replace o48:=kp _ o48 hT158
 replace o51:=kp _ o51 hT158
 replace o54:=kp _ o54 hT158
 replace o57:=kp _ o57 hT158
 replace hr4:=kr hr4 hT158
 replace hr15:=kr hr15 hT158
 replace hr130:=kr hr130 hT158
 replace hB:=(hB.trans hT158)
 refine wv (v:=v139) rfl (oa _) ?_
 refine anz ?_
 refine wq ?_
 refine wq ?_
 refine Wq rfl (cr [] wd140) ?_
 refine qv (v:=.int .i64 ((0:Int))) rfl (fun _ _=>oa _) ?_
 intro wd159 hC160
 refine anz ?_
 refine W_for (S1:=(List (List Bool))×Int) (fun s r w'=>match s with | (s0_7,s0_8)=>∃ (v161:Value) (f162:List Nat),Chg [] w w'∧Row w' b12 [.int .i64 ((0:Int)),.slice none 0 0,.slice none 0 0,.slice none 0 0,.slice none 0 0,.slice none 0 0,.slice none 0 0,.slice none 0 0] 78∧(sImm (sInt .i64)).rep w'.heap [v37] (y33.1.C.From) f38∧(sImm (sInt .i64)).rep w'.heap [v40] (y33.1.C.To) f41∧(sImm (sInt .i64)).rep w'.heap [v43] (y33.1.C.Identity) f44∧(sImm (sImm (sInt .i64))).rep w'.heap [v46] (y33.1.C.Composites) f47∧(sImm (sImm (sImm (sInt .i64)))).rep w'.heap [v49] (y33.1.Lists) f50∧(sImm (sImm (sInt .i64))).rep w'.heap [v52] (y33.1.Pulls) f53∧(sImm (sInt .i64)).rep w'.heap [v55] (y33.1.Tops) f56∧Row w' b108 [.int .i64 (y33.1.C.Objects),v37,v40,v43,v46,v49,v52,v55] 78∧OE [] w.heap.size w' (sOwn 82 (sOwn 4 sBool)) [v161] (s0_7) f162∧Dis [b12] f38∧Dis [b12] f41∧Dis [b12] f44∧Dis [b12] f47∧Dis [b12] f50∧Dis [b12] f53∧Dis [b12] f56∧Dis [b12] [b108]∧Dis [b12] f162∧Dis f38 [b108]∧Dis f38 f162∧Dis f41 [b108]∧Dis f41 f162∧Dis f44 [b108]∧Dis f44 f162∧Dis f47 [b108]∧Dis f47 f162∧Dis f50 [b108]∧Dis f50 f162∧Dis f53 [b108]∧Dis f53 f162∧Dis f56 [b108]∧Dis f56 f162∧Dis [b108] f162∧∃ F,r=updL F [(2,.pointer (some (⟨b12,0,none⟩))),(5,.pointer (some (⟨b108,0,none⟩))),(7,v161),(8,.int .i64 (s0_8))]) (T:=spec_l27Category_T zh zg zf ze w) ho ⟨_,_,(hB.trans hC160),(kr hr15 hC160),(kp _ o39 hC160),(kp _ o42 hC160),(kp _ o45 hC160),(kp _ o48 hC160),(kp _ o51 hC160),(kp _ o54 hC160),(kp _ o57 hC160),(kr hr130 hC160),(ko o143 hC160),((d87).symm),((d90).symm),((d93).symm),((d96).symm),((d99).symm),((d102).symm),((d105).symm),((d119).symm),((d149).symm),((d120).symm),((d150).symm),((d121).symm),((d151).symm),((d122).symm),((d152).symm),((d123).symm),((d153).symm),((d124).symm),((d154).symm),((d125).symm),((d155).symm),((d126).symm),((d156).symm),((d157).symm),fr ⟨rfl,rfl,rfl,rfl,trivial⟩⟩ ?_ ?_ ?_
 intro x r w' ho hx; subst ho; exact hx
 rintro ⟨s0_7,s0_8⟩ _ wd188 ⟨v161,f162,hB,hr15,o39,o42,o45,o48,o51,o54,o57,hr130,o163,d164,d165,d166,d167,d168,d169,d170,d171,d172,d173,d174,d175,d176,d177,d178,d179,d180,d181,d182,d183,d184,d185,d186,d187,F,rfl⟩ o ho
 replace ho:spec_l27Category_L0 y33 s0_7 s0_8=some o:=ho
 unfold spec_l27Category_L0 at ho
 refine wq ?_
 refine wq ?_
 refine Wq rfl (cr [] wd188) ?_
 refine qv (v:=.int .i64 (s0_8)) rfl (fun _ _=>om _) ?_
 refine qv (v:=.pointer (some (⟨b108,5,none⟩))) rfl (fun _ _=>op_fieldAddrR u78 rfl info28 ne28 rfl rfl) ?_
 refine qv (v:=v49) rfl (fun _ hC=>oldz u28 rfl rfl ((kr hr130 hC).at.cell (j:=5) rfl)) ?_
 refine qv (v:=.int .i64 ((y33.1.Lists.length:Int))) rfl (fun _ hC=>op_lenI u28 (kp _ o51 hC)) ?_
 refine qv (v:=.bool (decide (s0_8 < (y33.1.Lists.length:Int)))) rfl (fun _ _=>op_bin rfl rfl bin_lss) ?_
 intro wd189 hC190
 refine anz ?_
 refine W_cond (b:=decide (s0_8 < (y33.1.Lists.length:Int))) rfl ?_ ?_
 intro hb191
 rw [hb191] at ho
 refine W_skip ?_
 refine anz ?_
 refine wq ?_
 refine W_block ?_
 refine W_region rfl ?_
 refine wv (v:=v161) rfl (om _) ?_
 refine wv (v:=.pointer (some (⟨b108,5,none⟩))) rfl (op_fieldAddrR u78 rfl info28 ne28 rfl rfl) ?_
 refine wv (v:=v49) rfl (oldz u28 rfl rfl ((kr hr130 hC190).at.cell (j:=5) rfl)) ?_
 refine wv (v:=.int .i64 (s0_8)) rfl (om _) ?_
 obtain ⟨e192,hx193e,ho⟩:=bs ho
 have hx193:=idx_some hx193e
 refine wv (v:=.pointer (some (elA (v49) 1 (s0_8)))) rfl (op_indexI u28 info23 sz23 rfl (kp _ o51 hC190) rfl hx193.1 hx193.2) ?_
 obtain ⟨u194,fu195,hu196,hr197,hs198⟩:=one_get rfl o51 hx193.1 hx193.2
 refine wv (v:=u194) rfl (oldz u23z rfl rfl (hC190.cell0 hu196)) ?_
 refine wv (v:=.int .i64 ((e192.length:Int))) rfl (op_lenI u23z (kp _ hr197 hC190)) ?_
 obtain ⟨n199,hn200,ho⟩:=bs ho
 obtain ⟨hn200a,hn200b,hn200c⟩:=mk_some hn200
 refine WL.make (z0:=false) sBool u82 info4 zr4 sz4 rfl rfl (fun _=>⟨rfl,rfl⟩) (congrArg (Value.int .i64) hn200a) (congrArg (Value.int .i64) hn200a) (by rw [by4]; exact hn200b) hn200c fun v201 wd202 f203 hC204 o205=>?_
 have d206:Dis f203 [b12]:=dl (ofr o205) (one_lt (Row.lt (kr hr15 hC190)))
 have d207:Dis f203 f38:=dl (ofr o205) (sl _ (kp _ o39 hC190))
 have d208:Dis f203 f41:=dl (ofr o205) (sl _ (kp _ o42 hC190))
 have d209:Dis f203 f44:=dl (ofr o205) (sl _ (kp _ o45 hC190))
 have d210:Dis f203 f47:=dl (ofr o205) (sl _ (kp _ o48 hC190))
 have d211:Dis f203 f50:=dl (ofr o205) (sl _ (kp _ o51 hC190))
 have d212:Dis f203 f53:=dl (ofr o205) (sl _ (kp _ o54 hC190))
 have d213:Dis f203 f56:=dl (ofr o205) (sl _ (kp _ o57 hC190))
 have d214:Dis f203 [b108]:=dl (ofr o205) (one_lt (Row.lt (kr hr130 hC190)))
 have d215:Dis f203 f162:=dl (ofr o205) (sl _ (kp _ o163.1 hC190))
 replace o205:=OE.low (G:=[]) o205 (hB.trans hC190).size
 have hT216:=hC190.trans hC204
 replace o39:=kp _ o39 hT216
 replace o42:=kp _ o42 hT216
 replace o45:=kp _ o45 hT216
 replace o48:=kp _ o48 hT216
 replace o51:=kp _ o51 hT216
 replace o54:=kp _ o54 hT216
 replace o57:=kp _ o57 hT216
 replace hu196:=hT216.cell0 hu196
 replace hr197:=kp _ hr197 hT216
 replace hr15:=kr hr15 hT216
 replace hr130:=kr hr130 hT216
 replace o163:=ko o163 hT216
 replace hB:=(hB.trans hT216)
 refine WL.lit1 u79 info82 zr82 sz82 (STy.one _ o205.1 _ (ms rfl)) fun b217 wd218 hC219 hr220 hl221=>?_
 replace hr220:Row wd218 b217 [v201] 82:=hr220
 have d232:Dis [b217] f162:=dl (onw hl221) (sl _ (kp _ o163.1 (cr [] wd202)))
 have hT234:=(cr [] wd202).trans hC219
 replace o39:=kp _ o39 hT234
 replace o42:=kp _ o42 hT234
 replace o45:=kp _ o45 hT234
 replace o48:=kp _ o48 hT234
 replace o51:=kp _ o51 hT234
 replace o54:=kp _ o54 hT234
 replace o57:=kp _ o57 hT234
 replace hu196:=hT234.cell0 hu196
 replace hr197:=kp _ hr197 hT234
 replace hr15:=kr hr15 hT234
 replace hr130:=kr hr130 hT234
 replace o163:=ko o163 hT234
 replace o205:=ko o205 hT234
 replace hB:=(hB.trans hT234)
 obtain ⟨n241,hn242,ho⟩:=bs ho
 have hn242a:=fits_some hn242
 refine WL.append1 (E:=(sOwn 4 sBool)) _ _ u79 info82 zr82 sz82 rfl rfl rfl (ko o163 (cr [] wd218)) rfl (kr hr220 (cr [] wd218)) (kp _ o205.1 (cr [] wd218)) o205.2.1 o205.2.2 d215 (by rw [by82]; exact hn242a.1) hn242a.2 (hB.trans (cr [] wd218)).size fun v235 wd236 f237 hC238 o239 hs240=>?_
 have d243:Dis f237 [b12]:=dis_upd hs240 (d172).symm d206 (one_lt (Row.lt (kr hr15 (cr [] wd218))))
 have d244:Dis f237 f38:=dis_upd hs240 (d174).symm d207 (sl _ (kp _ o39 (cr [] wd218)))
 have d245:Dis f237 f41:=dis_upd hs240 (d176).symm d208 (sl _ (kp _ o42 (cr [] wd218)))
 have d246:Dis f237 f44:=dis_upd hs240 (d178).symm d209 (sl _ (kp _ o45 (cr [] wd218)))
 have d247:Dis f237 f47:=dis_upd hs240 (d180).symm d210 (sl _ (kp _ o48 (cr [] wd218)))
 have d248:Dis f237 f50:=dis_upd hs240 (d182).symm d211 (sl _ (kp _ o51 (cr [] wd218)))
 have d249:Dis f237 f53:=dis_upd hs240 (d184).symm d212 (sl _ (kp _ o54 (cr [] wd218)))
 have d250:Dis f237 f56:=dis_upd hs240 (d186).symm d213 (sl _ (kp _ o57 (cr [] wd218)))
 have d251:Dis f237 [b108]:=dis_upd hs240 (d187).symm d214 (one_lt (Row.lt (kr hr130 (cr [] wd218))))
 have hT254:=((cr [] wd218).nil (G:=f162)).trans hC238
 replace o39:=STy.keep _ o39 hT254 d174
 replace o42:=STy.keep _ o42 hT254 d176
 replace o45:=STy.keep _ o45 hT254 d178
 replace o48:=STy.keep _ o48 hT254 d180
 replace o51:=STy.keep _ o51 hT254 d182
 replace o54:=STy.keep _ o54 hT254 d184
 replace o57:=STy.keep _ o57 hT254 d186
 replace hr197:=STy.keep _ hr197 hT254 (fun b hb=>d182 b (hs198 b hb))
 replace hr15:=Row.keep hr15 hT254 (d172 _ (ms rfl))
 replace hr130:=Row.keep hr130 hT254 (d187 _ (ms rfl))
 replace hr220:=Row.keep hr220 hT254 (d232 _ (ms rfl))
 replace hB:=hB.then hT254 o163.2.2
 refine wv (v:=v235) rfl (oa _) ?_
 refine inBlk_n ?_
 refine anz ?_
 refine Wq rfl (cr [] wd236) ?_
 refine qv (v:=.int .i64 (s0_8)) rfl (fun _ _=>om _) ?_
 refine qv (v:=.int .i64 (w64 (s0_8 + (1:Int)))) rfl (fun _ _=>op_bin rfl rfl bin_add) ?_
 refine qv (v:=.int .i64 (w64 (s0_8 + (1:Int)))) rfl (fun _ _=>oa _) ?_
 intro wd255 hC256
 cases ho
 exact ⟨_,_,(hB.trans hC256),(kr hr15 hC256),(kp _ o39 hC256),(kp _ o42 hC256),(kp _ o45 hC256),(kp _ o48 hC256),(kp _ o51 hC256),(kp _ o54 hC256),(kp _ o57 hC256),(kr hr130 hC256),(ko o239 hC256),(d164),(d165),(d166),(d167),(d168),(d169),(d170),(d171),((d243).symm),(d173),((d244).symm),(d175),((d245).symm),(d177),((d246).symm),(d179),((d247).symm),(d181),((d248).symm),(d183),((d249).symm),(d185),((d250).symm),((d251).symm),fr ⟨rfl,rfl,rfl,rfl,trivial⟩⟩
 intro hb191
 rw [hb191] at ho
 refine W_exit ?_
 refine andThen_x ?_
 cases ho
 exact ⟨rfl,⟨_,_,(hB.trans hC190),(kr hr15 hC190),(kp _ o39 hC190),(kp _ o42 hC190),(kp _ o45 hC190),(kp _ o48 hC190),(kp _ o51 hC190),(kp _ o54 hC190),(kp _ o57 hC190),(kr hr130 hC190),(ko o163 hC190),(d164),(d165),(d166),(d167),(d168),(d169),(d170),(d171),(d172),(d173),(d174),(d175),(d176),(d177),(d178),(d179),(d180),(d181),(d182),(d183),(d184),(d185),(d186),(d187),fr ⟨rfl,rfl,rfl,rfl,trivial⟩⟩⟩
 rintro ⟨s0_7,s0_8⟩ _ wd257 ⟨v161,f162,hB,hr15,o39,o42,o45,o48,o51,o54,o57,hr130,o163,d164,d165,d166,d167,d168,d169,d170,d171,d172,d173,d174,d175,d176,d177,d178,d179,d180,d181,d182,d183,d184,d185,d186,d187,F,rfl⟩ ho
 dsimp only at ho
 refine anz ?_
 refine wq ?_
 refine W_region rfl ?_
 refine wv (v:=.agg #[.int .i64 (y33.1.C.Objects),v37,v40,v43,v46,v49,v52,v55]) rfl (op_loadAgg u78 rfl info78 (by rw [sz78]; rfl) rfl (kr hr130 (cr [] wd257)).at) ?_
 refine wv (v:=v161) rfl (om _) ?_
 refine WL.storeAll (us:=[.int .i64 (y33.1.C.Objects),v37,v40,v43,v46,v49,v52,v55]) info78 (by rw [sz78]; rfl) (kr hr15 (cr [] wd257)) rfl rfl rfl (by intro u hu; simp only [List.mem_cons,List.mem_nil_iff,or_false] at hu; rcases hu with rfl | rfl | rfl | rfl | rfl | rfl | rfl | rfl <;> first | exact rfl | exact (STy.one _ o39 _ (ms rfl)) | exact (STy.one _ o42 _ (ms rfl)) | exact (STy.one _ o45 _ (ms rfl)) | exact (STy.one _ o48 _ (ms rfl)) | exact (STy.one _ o51 _ (ms rfl)) | exact (STy.one _ o54 _ (ms rfl)) | exact (STy.one _ o57 _ (ms rfl))) fun wd258 hC259 hr260=>?_
 replace hr260:Row wd258 b12 [.int .i64 (y33.1.C.Objects),v37,v40,v43,v46,v49,v52,v55] 78:=hr260
 have hT261:=((cr [] wd257).nil (G:=[b12])).trans hC259
 replace o39:=STy.keep _ o39 hT261 (d164).symm
 replace o42:=STy.keep _ o42 hT261 (d165).symm
 replace o45:=STy.keep _ o45 hT261 (d166).symm
 replace o48:=STy.keep _ o48 hT261 (d167).symm
 replace o51:=STy.keep _ o51 hT261 (d168).symm
 replace o54:=STy.keep _ o54 hT261 (d169).symm
 replace o57:=STy.keep _ o57 hT261 (d170).symm
 replace hr130:=Row.keep hr130 hT261 ((d171).symm _ (ms rfl))
 replace o163:=okp o163 hT261 (d172).symm
 replace hB:=hB.then hT261 (one_then lo17)
 refine wv (v:=v161) rfl (oa _) ?_
 refine wv (v:=.int .i64 ((0:Int))) rfl (oa _) ?_
 refine anz ?_
 cases ho
 exact W_ret ⟨_,res_c2 Tryz.results62 u78 rfl info78 (by rw [sz78]; rfl) rfl (kr hr260 (cr [] wd258)).at,_,_,_,_,_,_,_,_,_,_,_,_,_,_,_,_,rfl,(hB.trans (cr [] wd258)),(kp _ o39 (cr [] wd258)),lo88,(kp _ o42 (cr [] wd258)),lo91,(kp _ o45 (cr [] wd258)),lo94,(kp _ o48 (cr [] wd258)),lo97,(kp _ o51 (cr [] wd258)),lo100,(kp _ o54 (cr [] wd258)),lo103,(kp _ o57 (cr [] wd258)),lo106,(ko o163 (cr [] wd258)),d174,d176,d178,d180,d182,d184,d186⟩

noncomputable def spec_l27Covers_L1 (x0:ML27Table) (x1:(List (List Bool))) (s0_6:Int) (s1_7:(List (List Int))) (s1_8:Int):Option (Out ((List (List Int))×Int) (MTopology)):=
 ((idx x1 (s0_6))>>=fun e170=>(bif decide (s1_8 < (e170.length:Int)) then ((idx x1 (s0_6))>>=fun e180=>((idx e180 (s1_8))>>=fun e187=>(bif e187 then ((idx x0.Lists (s0_6))>>=fun e192=>((idx e192 (s1_8))>>=fun e199=>((spec_l01Own e199)>>=fun y206=>((fits 24 (s1_7.length + 1))>>=fun n246=>(some (Out.norm (s1_7++[y206],w64 (s1_8 + (1:Int))))))))) else (some (Out.norm (s1_7,w64 (s1_8 + (1:Int)))))))) else (some (Out.exit 2 (s1_7,s1_8)))))
noncomputable def spec_l27Covers_L0 (x0:ML27Table) (x1:(List (List Bool))) (s0_6:Int) (s0_b59_5:(List (List (List Int)))):Option (Out (Int×(List (List (List Int)))) (MTopology)):=
 (bif decide (s0_6 < (x1.length:Int)) then (lbind (blockM 2 (loopM (fun s=>spec_l27Covers_L1 x0 x1 s0_6 s.1 s.2) (([]:(List (List Int))),(0:Int)))) (fun (s1_7,s1_8)=>((fits 24 (s0_b59_5.length + 1))>>=fun n286=>(some (Out.norm (w64 (s0_6 + (1:Int)),s0_b59_5++[s1_7])))))) else (some (Out.exit 0 (s0_6,s0_b59_5))))
noncomputable def spec_l27Covers (x0:ML27Table) (x1:(List (List Bool))):Option (MTopology):=
 retM (S:=Unit) ((spec_l02Own x0.C)>>=fun y16=>(lbind (blockM 0 (loopM (fun s=>spec_l27Covers_L0 x0 x1 s.1 s.2) ((0:Int),([]:(List (List (List Int))))))) (fun (s0_6,s0_b59_5)=>(some (Out.ret ((MTopology.mk y16 s0_b59_5)))))))
abbrev spec_l27Covers_post (w:World) (x:(MTopology)) (e:Ending) (w':World):Prop:=∃ (v0:Value) (f0:List Nat) (v1:Value) (f1:List Nat) (v2:Value) (f2:List Nat) (v3:Value) (f3:List Nat) (v4:Value) (f4:List Nat),e = .returned (.agg #[.int .i64 x.Shape.Objects,v0,v1,v2,v3,v4])∧Chg [] w w'∧OE [] w.heap.size w' (sOwn 2 (sInt .i64)) [v0] x.Shape.From f0∧OE [] w.heap.size w' (sOwn 2 (sInt .i64)) [v1] x.Shape.To f1∧OE [] w.heap.size w' (sOwn 2 (sInt .i64)) [v2] x.Shape.Identity f2∧OE [] w.heap.size w' (sOwn 22 (sOwn 2 (sInt .i64))) [v3] x.Shape.Composites f3∧OE [] w.heap.size w' (sOwn 23 (sOwn 22 (sOwn 2 (sInt .i64)))) [v4] x.Covers f4∧Dis f0 f1∧Dis f0 f2∧Dis f0 f3∧Dis f0 f4∧Dis f1 f2∧Dis f1 f3∧Dis f1 f4∧Dis f2 f3∧Dis f2 f4∧Dis f3 f4
abbrev spec_l27Covers_T (w:World) (x:(MTopology)) (r:Nat→Value) (w':World):Prop:=∃ v,(∀ a:Act,a.tmps.size=56→rho a=r→(results Tryz.f63 a.tmps).run Tryz.prog w' = .ok v w')∧spec_l27Covers_post w x (.returned v) w'
theorem spec_l27Covers_calls {w:World} {x0:ML27Table} {zt:Value} {z14:List Nat} {zu:Value} {z15:List Nat} {zv:Value} {z16:List Nat} {zw:Value} {z17:List Nat} {z19:Value} {z2u:List Nat} {z1q:Value} {z2v:List Nat} {z1r:Value} {z2w:List Nat} {x1:(List (List Bool))} {v_x1:Value} {f_x1:List Nat} (zx:(sImm (sInt .i64)).rep w.heap [zt] x0.C.From z14) (zy:(sImm (sInt .i64)).rep w.heap [zu] x0.C.To z15) (z10:(sImm (sInt .i64)).rep w.heap [zv] x0.C.Identity z16) (z11:(sImm (sImm (sInt .i64))).rep w.heap [zw] x0.C.Composites z17) (z2f:(sImm (sImm (sImm (sInt .i64)))).rep w.heap [z19] x0.Lists z2u) (z3n:(sImm (sImm (sInt .i64))).rep w.heap [z1q] x0.Pulls z2v) (z3o:(sImm (sInt .i64)).rep w.heap [z1r] x0.Tops z2w) (h_x1:(sImm (sImm sBool)).rep w.heap [v_x1] x1 f_x1) {y:(MTopology)} (hm:spec_l27Covers x0 x1=some y) :
  Calls Tryz.prog 63 #[.agg #[.int .i64 (x0.C.Objects),zt,zu,zv,zw,z19,z1q,z1r],v_x1] w (spec_l27Covers_post w y):=by
 refine calls_of_M (S:=Unit) (args:=[.agg #[.int .i64 (x0.C.Objects),zt,zu,zv,zw,z19,z1q,z1r],v_x1]) Tryz.func63 rfl Tryz.ntmps63 (Nat.le_of_ble_eq_true rfl) (retM_some hm) ?_
 clear hm
 intro o ho
 have hB:Chg [] w w:=cr _ _
 refine wq ?_
 refine W_region rfl ?_
 refine WL.box fun b1 wd2 hC3 hr4 hl5=>?_
 replace hr4:Row wd2 b1 [.int .i64 (x0.C.Objects),zt,zu,zv,zw,z19,z1q,z1r] 78:=hr4
 have hT7:=(cr [] w).trans hC3
 replace hB:=(hB.trans hT7)
 refine WL.alloc info30 zr30 fun b8 wd9 hC10 hr11 hl12=>?_
 replace hr11:Row wd9 b8 [.int .i64 ((0:Int)),.slice none 0 0,.slice none 0 0,.slice none 0 0,.slice none 0 0,.slice none 0 0] 30:=hr11
 have lo13:w.heap.size≤b8:=Nat.le_trans (hB.trans (cr [] wd2)).size hl12
 have d14:Dis [b8] [b1]:=dl (onw hl12) (one_lt (Row.lt (kr hr4 (cr [] wd2))))
 have hT15:=(cr [] wd2).trans hC10
 replace hr4:=kr hr4 hT15
 replace hB:=(hB.trans hT15)
 refine anz ?_
 refine wq ?_
 refine W_region rfl ?_
 refine wv (v:=.pointer (some (⟨b1,0,none⟩))) rfl (op_fieldAddrR u78 rfl info27 ne27 rfl rfl) ?_
 refine wv (v:=.agg #[.int .i64 (x0.C.Objects),zt,zu,zv,zw]) rfl (op_loadAgg (cs:=[.int .i64 (x0.C.Objects),zt,zu,zv,zw]) u27z rfl info27 (by rw [sz27]; rfl) rfl (At.sub (kr hr4 (cr [] wd9)).at 0 5)) ?_
 obtain ⟨y16,hy17,ho⟩:=bs ho
 refine WL.call rfl (op_callF Tryz.func125 rfl rfl) (spec_l02Own_calls (kp _ zx (hB.trans (cr [] wd9))) (kp _ zy (hB.trans (cr [] wd9))) (kp _ z10 (hB.trans (cr [] wd9))) (kp _ z11 (hB.trans (cr [] wd9))) hy17) ?_
 rintro _ wd18 ⟨v20,f21,v23,f24,v26,f27,v29,f30,rfl,hC19,o22,o25,o28,o31,d32,d33,d34,d35,d36,d37⟩
 refine ⟨_,rfl,?_⟩
 have d38:Dis f21 [b1]:=dl (ofr o22) (one_lt (Row.lt (kr hr4 (cr [] wd9))))
 have d39:Dis f21 [b8]:=dl (ofr o22) (one_lt (Row.lt (kr hr11 (cr [] wd9))))
 replace o22:=OE.low (G:=[]) o22 (hB.trans (cr [] wd9)).size
 have d40:Dis f24 [b1]:=dl (ofr o25) (one_lt (Row.lt (kr hr4 (cr [] wd9))))
 have d41:Dis f24 [b8]:=dl (ofr o25) (one_lt (Row.lt (kr hr11 (cr [] wd9))))
 replace o25:=OE.low (G:=[]) o25 (hB.trans (cr [] wd9)).size
 have d42:Dis f27 [b1]:=dl (ofr o28) (one_lt (Row.lt (kr hr4 (cr [] wd9))))
 have d43:Dis f27 [b8]:=dl (ofr o28) (one_lt (Row.lt (kr hr11 (cr [] wd9))))
 replace o28:=OE.low (G:=[]) o28 (hB.trans (cr [] wd9)).size
 have d44:Dis f30 [b1]:=dl (ofr o31) (one_lt (Row.lt (kr hr4 (cr [] wd9))))
 have d45:Dis f30 [b8]:=dl (ofr o31) (one_lt (Row.lt (kr hr11 (cr [] wd9))))
 replace o31:=OE.low (G:=[]) o31 (hB.trans (cr [] wd9)).size
 have hT46:=(cr [] wd9).trans hC19
 replace hr4:=kr hr4 hT46
 replace hr11:=kr hr11 hT46
 replace hB:=(hB.trans hT46)
 refine WL.lit0 (sOwn 22 (sOwn 2 (sInt .i64))) u28 info23 fun v47 wd48 f49 hC50 o51=>?_
 have d52:Dis f49 [b1]:=dl (ofr o51) (one_lt (Row.lt (kr hr4 (cr [] wd18))))
 have d53:Dis f49 [b8]:=dl (ofr o51) (one_lt (Row.lt (kr hr11 (cr [] wd18))))
 have d54:Dis f49 f21:=dl (ofr o51) (sl _ (kp _ o22.1 (cr [] wd18)))
 have d55:Dis f49 f24:=dl (ofr o51) (sl _ (kp _ o25.1 (cr [] wd18)))
 have d56:Dis f49 f27:=dl (ofr o51) (sl _ (kp _ o28.1 (cr [] wd18)))
 have d57:Dis f49 f30:=dl (ofr o51) (sl _ (kp _ o31.1 (cr [] wd18)))
 replace o51:=OE.low (G:=[]) o51 (hB.trans (cr [] wd18)).size
 have hT58:=(cr [] wd18).trans hC50
 replace hr4:=kr hr4 hT58
 replace hr11:=kr hr11 hT58
 replace o22:=ko o22 hT58
 replace o25:=ko o25 hT58
 replace o28:=ko o28 hT58
 replace o31:=ko o31 hT58
 replace hB:=(hB.trans hT58)
 refine wv (v:=.agg #[.int .i64 (y16.Objects),v20,v23,v26,v29,v47]) rfl (op_build (bld30_0_1 rfl (STy.one _ o22.1 _ (ms rfl)) (STy.one _ o25.1 _ (ms rfl)) (STy.one _ o28.1 _ (ms rfl)) (STy.one _ o31.1 _ (ms rfl)) (STy.one _ o51.1 _ (ms rfl)))) ?_
 refine WL.alloc info30 zr30 fun b59 wd60 hC61 hr62 hl63=>?_
 replace hr62:Row wd60 b59 [.int .i64 ((0:Int)),.slice none 0 0,.slice none 0 0,.slice none 0 0,.slice none 0 0,.slice none 0 0] 30:=hr62
 have lo64:w.heap.size≤b59:=Nat.le_trans (hB.trans (cr [] wd48)).size hl63
 have d65:Dis [b59] [b1]:=dl (onw hl63) (one_lt (Row.lt (kr hr4 (cr [] wd48))))
 have d66:Dis [b59] [b8]:=dl (onw hl63) (one_lt (Row.lt (kr hr11 (cr [] wd48))))
 have d67:Dis [b59] f21:=dl (onw hl63) (sl _ (kp _ o22.1 (cr [] wd48)))
 have d68:Dis [b59] f24:=dl (onw hl63) (sl _ (kp _ o25.1 (cr [] wd48)))
 have d69:Dis [b59] f27:=dl (onw hl63) (sl _ (kp _ o28.1 (cr [] wd48)))
 have d70:Dis [b59] f30:=dl (onw hl63) (sl _ (kp _ o31.1 (cr [] wd48)))
 have d71:Dis [b59] f49:=dl (onw hl63) (sl _ (kp _ o51.1 (cr [] wd48)))
 have hT72:=(cr [] wd48).trans hC61
 replace hr4:=kr hr4 hT72
 replace hr11:=kr hr11 hT72
 replace o22:=ko o22 hT72
 replace o25:=ko o25 hT72
 replace o28:=ko o28 hT72
 replace o31:=ko o31 hT72
 replace o51:=ko o51 hT72
 replace hB:=(hB.trans hT72)
 refine WL.storeAll (us:=[.int .i64 (y16.Objects),v20,v23,v26,v29,v47]) info30 (by rw [sz30]; rfl) (kr hr62 (cr [] wd60)) rfl rfl rfl (by intro u hu; simp only [List.mem_cons,List.mem_nil_iff,or_false] at hu; rcases hu with rfl | rfl | rfl | rfl | rfl | rfl <;> first | exact rfl | exact (STy.one _ o22.1 _ (ms rfl)) | exact (STy.one _ o25.1 _ (ms rfl)) | exact (STy.one _ o28.1 _ (ms rfl)) | exact (STy.one _ o31.1 _ (ms rfl)) | exact (STy.one _ o51.1 _ (ms rfl))) fun wd73 hC74 hr75=>?_
 replace hr75:Row wd73 b59 [.int .i64 (y16.Objects),v20,v23,v26,v29,v47] 30:=hr75
 have hT76:=((cr [] wd60).nil (G:=[b59])).trans hC74
 replace hr4:=Row.keep hr4 hT76 ((d65).symm _ (ms rfl))
 replace hr11:=Row.keep hr11 hT76 ((d66).symm _ (ms rfl))
 replace o22:=okp o22 hT76 (d67).symm
 replace o25:=okp o25 hT76 (d68).symm
 replace o28:=okp o28 hT76 (d69).symm
 replace o31:=okp o31 hT76 (d70).symm
 replace o51:=okp o51 hT76 (d71).symm
 replace hB:=hB.then hT76 (one_then lo64)
 refine anz ?_
 refine wq ?_
 refine wq ?_
 refine Wq rfl (cr [] wd73) ?_
 refine qv (v:=.int .i64 ((0:Int))) rfl (fun _ _=>oa _) ?_
 intro wd77 hC78
 refine anz ?_
 refine W_for (S1:=Int×(List (List (List Int)))) (fun s r w'=>match s with | (s0_6,s0_b59_5)=>∃ (v79:Value) (f80:List Nat),Chg [] w w'∧Row w' b1 [.int .i64 (x0.C.Objects),zt,zu,zv,zw,z19,z1q,z1r] 78∧Row w' b8 [.int .i64 ((0:Int)),.slice none 0 0,.slice none 0 0,.slice none 0 0,.slice none 0 0,.slice none 0 0] 30∧OE [] w.heap.size w' (sOwn 2 (sInt .i64)) [v20] (y16.From) f21∧OE [] w.heap.size w' (sOwn 2 (sInt .i64)) [v23] (y16.To) f24∧OE [] w.heap.size w' (sOwn 2 (sInt .i64)) [v26] (y16.Identity) f27∧OE [] w.heap.size w' (sOwn 22 (sOwn 2 (sInt .i64))) [v29] (y16.Composites) f30∧Row w' b59 [.int .i64 (y16.Objects),v20,v23,v26,v29,v79] 30∧OE [] w.heap.size w' (sOwn 23 (sOwn 22 (sOwn 2 (sInt .i64)))) [v79] (s0_b59_5) f80∧Dis [b1] [b8]∧Dis [b1] f21∧Dis [b1] f24∧Dis [b1] f27∧Dis [b1] f30∧Dis [b1] [b59]∧Dis [b1] f80∧Dis [b8] f21∧Dis [b8] f24∧Dis [b8] f27∧Dis [b8] f30∧Dis [b8] [b59]∧Dis [b8] f80∧Dis f21 f24∧Dis f21 f27∧Dis f21 f30∧Dis f21 [b59]∧Dis f21 f80∧Dis f24 f27∧Dis f24 f30∧Dis f24 [b59]∧Dis f24 f80∧Dis f27 f30∧Dis f27 [b59]∧Dis f27 f80∧Dis f30 [b59]∧Dis f30 f80∧Dis [b59] f80∧∃ F,r=updL F [(1,v_x1),(2,.pointer (some (⟨b1,0,none⟩))),(4,.pointer (some (⟨b8,0,none⟩))),(5,.pointer (some (⟨b59,0,none⟩))),(6,.int .i64 (s0_6))]) (T:=spec_l27Covers_T w) ho ⟨_,_,(hB.trans hC78),(kr hr4 hC78),(kr hr11 hC78),(ko o22 hC78),(ko o25 hC78),(ko o28 hC78),(ko o31 hC78),(kr hr75 hC78),(ko o51 hC78),((d14).symm),((d38).symm),((d40).symm),((d42).symm),((d44).symm),((d65).symm),((d52).symm),((d39).symm),((d41).symm),((d43).symm),((d45).symm),((d66).symm),((d53).symm),(d32),(d33),(d34),((d67).symm),((d54).symm),(d35),(d36),((d68).symm),((d55).symm),(d37),((d69).symm),((d56).symm),((d70).symm),((d57).symm),(d71),fr ⟨rfl,rfl,rfl,rfl,rfl,trivial⟩⟩ ?_ ?_ ?_
 intro x r w' ho hx; subst ho; exact hx
 rintro ⟨s0_6,s0_b59_5⟩ _ wd110 ⟨v79,f80,hB,hr4,hr11,o22,o25,o28,o31,hr75,o81,d82,d83,d84,d85,d86,d87,d88,d89,d90,d91,d92,d93,d94,d95,d96,d97,d98,d99,d100,d101,d102,d103,d104,d105,d106,d107,d108,d109,F,rfl⟩ o ho
 replace ho:spec_l27Covers_L0 x0 x1 s0_6 s0_b59_5=some o:=ho
 unfold spec_l27Covers_L0 at ho
 refine wq ?_
 refine wq ?_
 refine Wq rfl (cr [] wd110) ?_
 refine qv (v:=.int .i64 (s0_6)) rfl (fun _ _=>om _) ?_
 refine qv (v:=v_x1) rfl (fun _ _=>om _) ?_
 refine qv (v:=.int .i64 ((x1.length:Int))) rfl (fun _ hC=>op_lenI u79 (kp _ h_x1 (hB.trans hC))) ?_
 refine qv (v:=.bool (decide (s0_6 < (x1.length:Int)))) rfl (fun _ _=>op_bin rfl rfl bin_lss) ?_
 intro wd111 hC112
 refine anz ?_
 refine W_cond (b:=decide (s0_6 < (x1.length:Int))) rfl ?_ ?_
 intro hb113
 rw [hb113] at ho
 refine W_skip ?_
 refine anz ?_
 refine wq ?_
 refine W_block ?_
 refine wq ?_
 refine W_region rfl ?_
 refine WL.lit0 (sOwn 2 (sInt .i64)) u23z info22 fun v114 wd115 f116 hC117 o118=>?_
 have d119:Dis f116 [b1]:=dl (ofr o118) (one_lt (Row.lt (kr hr4 hC112)))
 have d120:Dis f116 [b8]:=dl (ofr o118) (one_lt (Row.lt (kr hr11 hC112)))
 have d121:Dis f116 f21:=dl (ofr o118) (sl _ (kp _ o22.1 hC112))
 have d122:Dis f116 f24:=dl (ofr o118) (sl _ (kp _ o25.1 hC112))
 have d123:Dis f116 f27:=dl (ofr o118) (sl _ (kp _ o28.1 hC112))
 have d124:Dis f116 f30:=dl (ofr o118) (sl _ (kp _ o31.1 hC112))
 have d125:Dis f116 [b59]:=dl (ofr o118) (one_lt (Row.lt (kr hr75 hC112)))
 have d126:Dis f116 f80:=dl (ofr o118) (sl _ (kp _ o81.1 hC112))
 replace o118:=OE.low (G:=[]) o118 (hB.trans hC112).size
 have hT127:=hC112.trans hC117
 replace hr4:=kr hr4 hT127
 replace hr11:=kr hr11 hT127
 replace o22:=ko o22 hT127
 replace o25:=ko o25 hT127
 replace o28:=ko o28 hT127
 replace o31:=ko o31 hT127
 replace hr75:=kr hr75 hT127
 replace o81:=ko o81 hT127
 replace hB:=(hB.trans hT127)
 refine wv (v:=v114) rfl (oa _) ?_
 refine anz ?_
 refine wq ?_
 refine wq ?_
 refine Wq rfl (cr [] wd115) ?_
 refine qv (v:=.int .i64 ((0:Int))) rfl (fun _ _=>oa _) ?_
 intro wd128 hC129
 refine anz ?_
 refine W_for (S1:=(List (List Int))×Int) (fun s r w'=>match s with | (s1_7,s1_8)=>∃ (v130:Value) (f131:List Nat),Chg [] w w'∧Row w' b1 [.int .i64 (x0.C.Objects),zt,zu,zv,zw,z19,z1q,z1r] 78∧Row w' b8 [.int .i64 ((0:Int)),.slice none 0 0,.slice none 0 0,.slice none 0 0,.slice none 0 0,.slice none 0 0] 30∧OE [] w.heap.size w' (sOwn 2 (sInt .i64)) [v20] (y16.From) f21∧OE [] w.heap.size w' (sOwn 2 (sInt .i64)) [v23] (y16.To) f24∧OE [] w.heap.size w' (sOwn 2 (sInt .i64)) [v26] (y16.Identity) f27∧OE [] w.heap.size w' (sOwn 22 (sOwn 2 (sInt .i64))) [v29] (y16.Composites) f30∧Row w' b59 [.int .i64 (y16.Objects),v20,v23,v26,v29,v79] 30∧OE [] w.heap.size w' (sOwn 23 (sOwn 22 (sOwn 2 (sInt .i64)))) [v79] (s0_b59_5) f80∧OE [] w.heap.size w' (sOwn 22 (sOwn 2 (sInt .i64))) [v130] (s1_7) f131∧Dis [b1] [b8]∧Dis [b1] f21∧Dis [b1] f24∧Dis [b1] f27∧Dis [b1] f30∧Dis [b1] [b59]∧Dis [b1] f80∧Dis [b1] f131∧Dis [b8] f21∧Dis [b8] f24∧Dis [b8] f27∧Dis [b8] f30∧Dis [b8] [b59]∧Dis [b8] f80∧Dis [b8] f131∧Dis f21 f24∧Dis f21 f27∧Dis f21 f30∧Dis f21 [b59]∧Dis f21 f80∧Dis f21 f131∧Dis f24 f27∧Dis f24 f30∧Dis f24 [b59]∧Dis f24 f80∧Dis f24 f131∧Dis f27 f30∧Dis f27 [b59]∧Dis f27 f80∧Dis f27 f131∧Dis f30 [b59]∧Dis f30 f80∧Dis f30 f131∧Dis [b59] f80∧Dis [b59] f131∧Dis f80 f131∧∃ F,r=updL F [(1,v_x1),(2,.pointer (some (⟨b1,0,none⟩))),(4,.pointer (some (⟨b8,0,none⟩))),(5,.pointer (some (⟨b59,0,none⟩))),(6,.int .i64 (s0_6)),(7,v130),(8,.int .i64 (s1_8))]) (T:=spec_l27Covers_T w) ho ⟨_,_,(hB.trans hC129),(kr hr4 hC129),(kr hr11 hC129),(ko o22 hC129),(ko o25 hC129),(ko o28 hC129),(ko o31 hC129),(kr hr75 hC129),(ko o81 hC129),(ko o118 hC129),(d82),(d83),(d84),(d85),(d86),(d87),(d88),((d119).symm),(d89),(d90),(d91),(d92),(d93),(d94),((d120).symm),(d95),(d96),(d97),(d98),(d99),((d121).symm),(d100),(d101),(d102),(d103),((d122).symm),(d104),(d105),(d106),((d123).symm),(d107),(d108),((d124).symm),(d109),((d125).symm),((d126).symm),fr ⟨rfl,rfl,rfl,rfl,rfl,rfl,rfl,trivial⟩⟩ ?_ ?_ ?_
 intro x r w' ho hx; subst ho; exact hx
 rintro ⟨s1_7,s1_8⟩ _ wd169 ⟨v130,f131,hB,hr4,hr11,o22,o25,o28,o31,hr75,o81,o132,d133,d134,d135,d136,d137,d138,d139,d140,d141,d142,d143,d144,d145,d146,d147,d148,d149,d150,d151,d152,d153,d154,d155,d156,d157,d158,d159,d160,d161,d162,d163,d164,d165,d166,d167,d168,F,rfl⟩ o ho
 replace ho:spec_l27Covers_L1 x0 x1 s0_6 s1_7 s1_8=some o:=ho
 unfold spec_l27Covers_L1 at ho
 refine wq ?_
 refine wq ?_
 refine Wq rfl (cr [] wd169) ?_
 refine qv (v:=.int .i64 (s1_8)) rfl (fun _ _=>om _) ?_
 refine qv (v:=v_x1) rfl (fun _ _=>om _) ?_
 refine qv (v:=.int .i64 (s0_6)) rfl (fun _ _=>om _) ?_
 obtain ⟨e170,hx171e,ho⟩:=bs ho
 have hx171:=idx_some hx171e
 refine qv (v:=.pointer (some (elA (v_x1) 1 (s0_6)))) rfl (fun _ hC=>op_indexI u79 info82 sz82 rfl (kp _ h_x1 (hB.trans hC)) rfl hx171.1 hx171.2) ?_
 obtain ⟨u172,fu173,hu174,hr175,hs176⟩:=one_get rfl h_x1 hx171.1 hx171.2
 refine qv (v:=u172) rfl (fun _ hC=>oldz u82 rfl rfl ((hB.trans hC).cell0 hu174)) ?_
 refine qv (v:=.int .i64 ((e170.length:Int))) rfl (fun _ hC=>op_lenI u82 (kp _ hr175 (hB.trans hC))) ?_
 refine qv (v:=.bool (decide (s1_8 < (e170.length:Int)))) rfl (fun _ _=>op_bin rfl rfl bin_lss) ?_
 intro wd177 hC178
 refine anz ?_
 refine W_cond (b:=decide (s1_8 < (e170.length:Int))) rfl ?_ ?_
 intro hb179
 rw [hb179] at ho
 refine W_skip ?_
 refine anz ?_
 refine wq ?_
 refine W_block ?_
 refine wq ?_
 refine Wq rfl hC178 ?_
 refine qv (v:=v_x1) rfl (fun _ _=>om _) ?_
 refine qv (v:=.int .i64 (s0_6)) rfl (fun _ _=>om _) ?_
 obtain ⟨e180,hx181e,ho⟩:=bs ho
 have hx181:=idx_some hx181e
 refine qv (v:=.pointer (some (elA (v_x1) 1 (s0_6)))) rfl (fun _ hC=>op_indexI u79 info82 sz82 rfl (kp _ h_x1 (hB.trans hC)) rfl hx181.1 hx181.2) ?_
 obtain ⟨u182,fu183,hu184,hr185,hs186⟩:=one_get rfl h_x1 hx181.1 hx181.2
 refine qv (v:=u182) rfl (fun _ hC=>oldz u82 rfl rfl ((hB.trans hC).cell0 hu184)) ?_
 refine qv (v:=.int .i64 (s1_8)) rfl (fun _ _=>om _) ?_
 obtain ⟨e187,hx188e,ho⟩:=bs ho
 have hx188:=idx_some hx188e
 refine qv (v:=.pointer (some (elA (u182) 1 (s1_8)))) rfl (fun _ hC=>op_indexI u82 info4 sz4 rfl (kp _ hr185 (hB.trans hC)) rfl hx188.1 hx188.2) ?_
 refine qv (v:=.bool (e187)) rfl (fun _ hC=>oldz Tryz.underlying4 rfl rfl (bool_get (kp _ hr185 (hB.trans hC)) hx188.1 hx188.2)) ?_
 intro wd189 hC190
 refine anz ?_
 refine W_cond (b:=e187) rfl ?_ ?_
 intro hb191
 rw [hb191] at ho
 refine W_region rfl ?_
 refine wv (v:=v130) rfl (om _) ?_
 refine wv (v:=.pointer (some (⟨b1,5,none⟩))) rfl (op_fieldAddrR u78 rfl info28 ne28 rfl rfl) ?_
 refine wv (v:=z19) rfl (oldz u28 rfl rfl ((kr hr4 hC190).at.cell (j:=5) rfl)) ?_
 refine wv (v:=.int .i64 (s0_6)) rfl (om _) ?_
 obtain ⟨e192,hx193e,ho⟩:=bs ho
 have hx193:=idx_some hx193e
 refine wv (v:=.pointer (some (elA (z19) 1 (s0_6)))) rfl (op_indexI u28 info23 sz23 rfl (kp _ z2f (hB.trans hC190)) rfl hx193.1 hx193.2) ?_
 obtain ⟨u194,fu195,hu196,hr197,hs198⟩:=one_get rfl z2f hx193.1 hx193.2
 refine wv (v:=u194) rfl (oldz u23z rfl rfl ((hB.trans hC190).cell0 hu196)) ?_
 refine wv (v:=.int .i64 (s1_8)) rfl (om _) ?_
 obtain ⟨e199,hx200e,ho⟩:=bs ho
 have hx200:=idx_some hx200e
 refine wv (v:=.pointer (some (elA (u194) 1 (s1_8)))) rfl (op_indexI u23z info22 sz22 rfl (kp _ hr197 (hB.trans hC190)) rfl hx200.1 hx200.2) ?_
 obtain ⟨u201,fu202,hu203,hr204,hs205⟩:=one_get rfl hr197 hx200.1 hx200.2
 refine wv (v:=u201) rfl (oldz u22z rfl rfl ((hB.trans hC190).cell0 hu203)) ?_
 obtain ⟨y206,hy207,ho⟩:=bs ho
 refine WL.call rfl (op_callF Tryz.func95 rfl rfl) (spec_l01Own_calls (kp _ hr204 (hB.trans hC190)) hy207) ?_
 rintro _ wd208 ⟨v210,f211,rfl,hC209,o212⟩
 refine ⟨_,rfl,?_⟩
 have d213:Dis f211 [b1]:=dl (ofr o212) (one_lt (Row.lt (kr hr4 hC190)))
 have d214:Dis f211 [b8]:=dl (ofr o212) (one_lt (Row.lt (kr hr11 hC190)))
 have d215:Dis f211 f21:=dl (ofr o212) (sl _ (kp _ o22.1 hC190))
 have d216:Dis f211 f24:=dl (ofr o212) (sl _ (kp _ o25.1 hC190))
 have d217:Dis f211 f27:=dl (ofr o212) (sl _ (kp _ o28.1 hC190))
 have d218:Dis f211 f30:=dl (ofr o212) (sl _ (kp _ o31.1 hC190))
 have d219:Dis f211 [b59]:=dl (ofr o212) (one_lt (Row.lt (kr hr75 hC190)))
 have d220:Dis f211 f80:=dl (ofr o212) (sl _ (kp _ o81.1 hC190))
 have d221:Dis f211 f131:=dl (ofr o212) (sl _ (kp _ o132.1 hC190))
 replace o212:=OE.low (G:=[]) o212 (hB.trans hC190).size
 have hT222:=hC190.trans hC209
 replace hr4:=kr hr4 hT222
 replace hr11:=kr hr11 hT222
 replace o22:=ko o22 hT222
 replace o25:=ko o25 hT222
 replace o28:=ko o28 hT222
 replace o31:=ko o31 hT222
 replace hr75:=kr hr75 hT222
 replace o81:=ko o81 hT222
 replace o132:=ko o132 hT222
 replace hB:=(hB.trans hT222)
 refine WL.lit1 u23z info22 zr22 sz22 (STy.one _ o212.1 _ (ms rfl)) fun b223 wd224 hC225 hr226 hl227=>?_
 replace hr226:Row wd224 b223 [v210] 22:=hr226
 have d237:Dis [b223] f131:=dl (onw hl227) (sl _ (kp _ o132.1 (cr [] wd208)))
 have hT239:=(cr [] wd208).trans hC225
 replace hr4:=kr hr4 hT239
 replace hr11:=kr hr11 hT239
 replace o22:=ko o22 hT239
 replace o25:=ko o25 hT239
 replace o28:=ko o28 hT239
 replace o31:=ko o31 hT239
 replace hr75:=kr hr75 hT239
 replace o81:=ko o81 hT239
 replace o132:=ko o132 hT239
 replace o212:=ko o212 hT239
 replace hB:=(hB.trans hT239)
 obtain ⟨n246,hn247,ho⟩:=bs ho
 have hn247a:=fits_some hn247
 refine WL.append1 (E:=(sOwn 2 (sInt .i64))) _ _ u23z info22 zr22 sz22 rfl rfl rfl (ko o132 (cr [] wd224)) rfl (kr hr226 (cr [] wd224)) (kp _ o212.1 (cr [] wd224)) o212.2.1 o212.2.2 d221 (by rw [by22]; exact hn247a.1) hn247a.2 (hB.trans (cr [] wd224)).size fun v240 wd241 f242 hC243 o244 hs245=>?_
 have d248:Dis f242 [b1]:=dis_upd hs245 (d140).symm d213 (one_lt (Row.lt (kr hr4 (cr [] wd224))))
 have d249:Dis f242 [b8]:=dis_upd hs245 (d147).symm d214 (one_lt (Row.lt (kr hr11 (cr [] wd224))))
 have d250:Dis f242 f21:=dis_upd hs245 (d153).symm d215 (sl _ (kp _ o22.1 (cr [] wd224)))
 have d251:Dis f242 f24:=dis_upd hs245 (d158).symm d216 (sl _ (kp _ o25.1 (cr [] wd224)))
 have d252:Dis f242 f27:=dis_upd hs245 (d162).symm d217 (sl _ (kp _ o28.1 (cr [] wd224)))
 have d253:Dis f242 f30:=dis_upd hs245 (d165).symm d218 (sl _ (kp _ o31.1 (cr [] wd224)))
 have d254:Dis f242 [b59]:=dis_upd hs245 (d167).symm d219 (one_lt (Row.lt (kr hr75 (cr [] wd224))))
 have d255:Dis f242 f80:=dis_upd hs245 (d168).symm d220 (sl _ (kp _ o81.1 (cr [] wd224)))
 have hT258:=((cr [] wd224).nil (G:=f131)).trans hC243
 replace hr4:=Row.keep hr4 hT258 (d140 _ (ms rfl))
 replace hr11:=Row.keep hr11 hT258 (d147 _ (ms rfl))
 replace o22:=okp o22 hT258 d153
 replace o25:=okp o25 hT258 d158
 replace o28:=okp o28 hT258 d162
 replace o31:=okp o31 hT258 d165
 replace hr75:=Row.keep hr75 hT258 (d167 _ (ms rfl))
 replace o81:=okp o81 hT258 d168
 replace hr226:=Row.keep hr226 hT258 (d237 _ (ms rfl))
 replace hB:=hB.then hT258 o132.2.2
 refine wv (v:=v240) rfl (oa _) ?_
 refine inBlk_n ?_
 refine anz ?_
 refine Wq rfl (cr [] wd241) ?_
 refine qv (v:=.int .i64 (s1_8)) rfl (fun _ _=>om _) ?_
 refine qv (v:=.int .i64 (w64 (s1_8 + (1:Int)))) rfl (fun _ _=>op_bin rfl rfl bin_add) ?_
 refine qv (v:=.int .i64 (w64 (s1_8 + (1:Int)))) rfl (fun _ _=>oa _) ?_
 intro wd259 hC260
 cases ho
 exact ⟨_,_,(hB.trans hC260),(kr hr4 hC260),(kr hr11 hC260),(ko o22 hC260),(ko o25 hC260),(ko o28 hC260),(ko o31 hC260),(kr hr75 hC260),(ko o81 hC260),(ko o244 hC260),(d133),(d134),(d135),(d136),(d137),(d138),(d139),((d248).symm),(d141),(d142),(d143),(d144),(d145),(d146),((d249).symm),(d148),(d149),(d150),(d151),(d152),((d250).symm),(d154),(d155),(d156),(d157),((d251).symm),(d159),(d160),(d161),((d252).symm),(d163),(d164),((d253).symm),(d166),((d254).symm),((d255).symm),fr ⟨rfl,rfl,rfl,rfl,rfl,rfl,rfl,trivial⟩⟩
 intro hb191
 rw [hb191] at ho
 refine W_skip ?_
 refine inBlk_n ?_
 refine anz ?_
 refine Wq rfl hC190 ?_
 refine qv (v:=.int .i64 (s1_8)) rfl (fun _ _=>om _) ?_
 refine qv (v:=.int .i64 (w64 (s1_8 + (1:Int)))) rfl (fun _ _=>op_bin rfl rfl bin_add) ?_
 refine qv (v:=.int .i64 (w64 (s1_8 + (1:Int)))) rfl (fun _ _=>oa _) ?_
 intro wd261 hC262
 cases ho
 exact ⟨_,_,(hB.trans hC262),(kr hr4 hC262),(kr hr11 hC262),(ko o22 hC262),(ko o25 hC262),(ko o28 hC262),(ko o31 hC262),(kr hr75 hC262),(ko o81 hC262),(ko o132 hC262),(d133),(d134),(d135),(d136),(d137),(d138),(d139),(d140),(d141),(d142),(d143),(d144),(d145),(d146),(d147),(d148),(d149),(d150),(d151),(d152),(d153),(d154),(d155),(d156),(d157),(d158),(d159),(d160),(d161),(d162),(d163),(d164),(d165),(d166),(d167),(d168),fr ⟨rfl,rfl,rfl,rfl,rfl,rfl,rfl,trivial⟩⟩
 intro hb179
 rw [hb179] at ho
 refine W_exit ?_
 refine andThen_x ?_
 cases ho
 exact ⟨rfl,⟨_,_,(hB.trans hC178),(kr hr4 hC178),(kr hr11 hC178),(ko o22 hC178),(ko o25 hC178),(ko o28 hC178),(ko o31 hC178),(kr hr75 hC178),(ko o81 hC178),(ko o132 hC178),(d133),(d134),(d135),(d136),(d137),(d138),(d139),(d140),(d141),(d142),(d143),(d144),(d145),(d146),(d147),(d148),(d149),(d150),(d151),(d152),(d153),(d154),(d155),(d156),(d157),(d158),(d159),(d160),(d161),(d162),(d163),(d164),(d165),(d166),(d167),(d168),fr ⟨rfl,rfl,rfl,rfl,rfl,rfl,rfl,trivial⟩⟩⟩
 rintro ⟨s1_7,s1_8⟩ _ wd263 ⟨v130,f131,hB,hr4,hr11,o22,o25,o28,o31,hr75,o81,o132,d133,d134,d135,d136,d137,d138,d139,d140,d141,d142,d143,d144,d145,d146,d147,d148,d149,d150,d151,d152,d153,d154,d155,d156,d157,d158,d159,d160,d161,d162,d163,d164,d165,d166,d167,d168,F,rfl⟩ ho
 dsimp only at ho
 refine anz ?_
 refine W_region rfl ?_
 refine wv (v:=.pointer (some (⟨b59,5,none⟩))) rfl (op_fieldAddrR u30 rfl info28 ne28 rfl rfl) ?_
 refine wv (v:=v79) rfl (oldz u28 rfl rfl ((kr hr75 (cr [] wd263)).at.cell (j:=5) rfl)) ?_
 refine wv (v:=v130) rfl (om _) ?_
 refine WL.lit1 u28 info23 zr23 sz23 (STy.one _ o132.1 _ (ms rfl)) fun b264 wd265 hC266 hr267 hl268=>?_
 replace hr267:Row wd265 b264 [v130] 23:=hr267
 have d276:Dis [b264] [b59]:=dl (onw hl268) (one_lt (Row.lt (kr hr75 (cr [] wd263))))
 have d277:Dis [b264] f80:=dl (onw hl268) (sl _ (kp _ o81.1 (cr [] wd263)))
 have hT279:=(cr [] wd263).trans hC266
 replace hr4:=kr hr4 hT279
 replace hr11:=kr hr11 hT279
 replace o22:=ko o22 hT279
 replace o25:=ko o25 hT279
 replace o28:=ko o28 hT279
 replace o31:=ko o31 hT279
 replace hr75:=kr hr75 hT279
 replace o81:=ko o81 hT279
 replace o132:=ko o132 hT279
 replace hB:=(hB.trans hT279)
 obtain ⟨n286,hn287,ho⟩:=bs ho
 have hn287a:=fits_some hn287
 refine WL.append1 (E:=(sOwn 22 (sOwn 2 (sInt .i64)))) _ _ u28 info23 zr23 sz23 rfl rfl rfl (ko o81 (cr [] wd265)) rfl (kr hr267 (cr [] wd265)) (kp _ o132.1 (cr [] wd265)) o132.2.1 o132.2.2 (d168).symm (by rw [by23]; exact hn287a.1) hn287a.2 (hB.trans (cr [] wd265)).size fun v280 wd281 f282 hC283 o284 hs285=>?_
 have d288:Dis f282 [b1]:=dis_upd hs285 (d139).symm (d140).symm (one_lt (Row.lt (kr hr4 (cr [] wd265))))
 have d289:Dis f282 [b8]:=dis_upd hs285 (d146).symm (d147).symm (one_lt (Row.lt (kr hr11 (cr [] wd265))))
 have d290:Dis f282 f21:=dis_upd hs285 (d152).symm (d153).symm (sl _ (kp _ o22.1 (cr [] wd265)))
 have d291:Dis f282 f24:=dis_upd hs285 (d157).symm (d158).symm (sl _ (kp _ o25.1 (cr [] wd265)))
 have d292:Dis f282 f27:=dis_upd hs285 (d161).symm (d162).symm (sl _ (kp _ o28.1 (cr [] wd265)))
 have d293:Dis f282 f30:=dis_upd hs285 (d164).symm (d165).symm (sl _ (kp _ o31.1 (cr [] wd265)))
 have d294:Dis f282 [b59]:=dis_upd hs285 (d166).symm (d167).symm (one_lt (Row.lt (kr hr75 (cr [] wd265))))
 have hT297:=((cr [] wd265).nil (G:=f80)).trans hC283
 replace hr4:=Row.keep hr4 hT297 (d139 _ (ms rfl))
 replace hr11:=Row.keep hr11 hT297 (d146 _ (ms rfl))
 replace o22:=okp o22 hT297 d152
 replace o25:=okp o25 hT297 d157
 replace o28:=okp o28 hT297 d161
 replace o31:=okp o31 hT297 d164
 replace hr75:=Row.keep hr75 hT297 (d166 _ (ms rfl))
 replace hr267:=Row.keep hr267 hT297 (d277 _ (ms rfl))
 replace hB:=hB.then hT297 o81.2.2
 refine wv (v:=.pointer (some (⟨b59,5,none⟩))) rfl (op_fieldAddrR u30 rfl info28 ne28 rfl rfl) ?_
 refine WL.storeRow (j:=5) info28 sz28 (kr hr75 (cr [] wd281)) (Nat.le_of_ble_eq_true rfl) rfl rfl (STy.one _ o284.1 _ (ms rfl)) fun wd298 hC299 hr300=>?_
 replace hr300:Row wd298 b59 [.int .i64 (y16.Objects),v20,v23,v26,v29,v280] 30:=hr300
 have hT301:=((cr [] wd281).nil (G:=[b59])).trans hC299
 replace hr4:=Row.keep hr4 hT301 (d138 _ (ms rfl))
 replace hr11:=Row.keep hr11 hT301 (d145 _ (ms rfl))
 replace o22:=okp o22 hT301 d151
 replace o25:=okp o25 hT301 d156
 replace o28:=okp o28 hT301 d160
 replace o31:=okp o31 hT301 d163
 replace hr267:=Row.keep hr267 hT301 (d276 _ (ms rfl))
 replace o284:=okp o284 hT301 d294
 replace hB:=hB.then hT301 (one_then lo64)
 refine inBlk_n ?_
 refine anz ?_
 refine Wq rfl (cr [] wd298) ?_
 refine qv (v:=.int .i64 (s0_6)) rfl (fun _ _=>om _) ?_
 refine qv (v:=.int .i64 (w64 (s0_6 + (1:Int)))) rfl (fun _ _=>op_bin rfl rfl bin_add) ?_
 refine qv (v:=.int .i64 (w64 (s0_6 + (1:Int)))) rfl (fun _ _=>oa _) ?_
 intro wd302 hC303
 cases ho
 exact ⟨_,_,(hB.trans hC303),(kr hr4 hC303),(kr hr11 hC303),(ko o22 hC303),(ko o25 hC303),(ko o28 hC303),(ko o31 hC303),(kr hr300 hC303),(ko o284 hC303),(d133),(d134),(d135),(d136),(d137),(d138),((d288).symm),(d141),(d142),(d143),(d144),(d145),((d289).symm),(d148),(d149),(d150),(d151),((d290).symm),(d154),(d155),(d156),((d291).symm),(d159),(d160),((d292).symm),(d163),((d293).symm),((d294).symm),fr ⟨rfl,rfl,rfl,rfl,rfl,trivial⟩⟩
 intro hb113
 rw [hb113] at ho
 refine W_exit ?_
 refine andThen_x ?_
 cases ho
 exact ⟨rfl,⟨_,_,(hB.trans hC112),(kr hr4 hC112),(kr hr11 hC112),(ko o22 hC112),(ko o25 hC112),(ko o28 hC112),(ko o31 hC112),(kr hr75 hC112),(ko o81 hC112),(d82),(d83),(d84),(d85),(d86),(d87),(d88),(d89),(d90),(d91),(d92),(d93),(d94),(d95),(d96),(d97),(d98),(d99),(d100),(d101),(d102),(d103),(d104),(d105),(d106),(d107),(d108),(d109),fr ⟨rfl,rfl,rfl,rfl,rfl,trivial⟩⟩⟩
 rintro ⟨s0_6,s0_b59_5⟩ _ wd304 ⟨v79,f80,hB,hr4,hr11,o22,o25,o28,o31,hr75,o81,d82,d83,d84,d85,d86,d87,d88,d89,d90,d91,d92,d93,d94,d95,d96,d97,d98,d99,d100,d101,d102,d103,d104,d105,d106,d107,d108,d109,F,rfl⟩ ho
 dsimp only at ho
 refine anz ?_
 refine wq ?_
 refine W_region rfl ?_
 refine wv (v:=.agg #[.int .i64 (y16.Objects),v20,v23,v26,v29,v79]) rfl (op_loadAgg u30 rfl info30 (by rw [sz30]; rfl) rfl (kr hr75 (cr [] wd304)).at) ?_
 refine WL.storeAll (us:=[.int .i64 (y16.Objects),v20,v23,v26,v29,v79]) info30 (by rw [sz30]; rfl) (kr hr11 (cr [] wd304)) rfl rfl rfl (by intro u hu; simp only [List.mem_cons,List.mem_nil_iff,or_false] at hu; rcases hu with rfl | rfl | rfl | rfl | rfl | rfl <;> first | exact rfl | exact (STy.one _ o22.1 _ (ms rfl)) | exact (STy.one _ o25.1 _ (ms rfl)) | exact (STy.one _ o28.1 _ (ms rfl)) | exact (STy.one _ o31.1 _ (ms rfl)) | exact (STy.one _ o81.1 _ (ms rfl))) fun wd305 hC306 hr307=>?_
 replace hr307:Row wd305 b8 [.int .i64 (y16.Objects),v20,v23,v26,v29,v79] 30:=hr307
 have hT308:=((cr [] wd304).nil (G:=[b8])).trans hC306
 replace hr4:=Row.keep hr4 hT308 (d82 _ (ms rfl))
 replace o22:=okp o22 hT308 (d89).symm
 replace o25:=okp o25 hT308 (d90).symm
 replace o28:=okp o28 hT308 (d91).symm
 replace o31:=okp o31 hT308 (d92).symm
 replace hr75:=Row.keep hr75 hT308 ((d93).symm _ (ms rfl))
 replace o81:=okp o81 hT308 (d94).symm
 replace hB:=hB.then hT308 (one_then lo13)
 refine anz ?_
 cases ho
 exact W_ret ⟨_,res_c Tryz.results63 u30 rfl info30 (by rw [sz30]; rfl) rfl (kr hr307 (cr [] wd305)).at,_,_,_,_,_,_,_,_,_,_,rfl,(hB.trans (cr [] wd305)),(ko o22 (cr [] wd305)),(ko o25 (cr [] wd305)),(ko o28 (cr [] wd305)),(ko o31 (cr [] wd305)),(ko o81 (cr [] wd305)),(d95),(d96),(d97),(d99),(d100),(d101),(d103),(d104),(d106),(d108)⟩

noncomputable def spec_LeastTopology_L0 (y16:ML27Table×(List (List Bool))×Int) (s0_7:Int) (s0_o43:(List (List Bool))):Option (Out (Int×(List (List Bool))) (MTopology×Int)):=
 (bif decide (s0_7 < (s0_o43.length:Int)) then ((idx s0_o43 (s0_7))>>=fun e163=>((idx y16.1.Tops (s0_7))>>=fun e170=>((idx e163 (e170))>>=fun e175=>(some (Out.norm (w64 (s0_7 + (1:Int)),s0_o43.set (s0_7).toNat (e163.set (e170).toNat (true)))))))) else (some (Out.exit 0 (s0_7,s0_o43))))
noncomputable def spec_LeastTopology (x0:MCategory):Option (MTopology×Int):=
 retM (S:=Unit) ((spec_l27Category x0)>>=fun y16=>(bif (y16.2.2) != ((0:Int)) then (some (Out.ret (((MTopology.mk (MCategory.mk ((0:Int)) ([]) ([]) ([]) ([])) ([])),y16.2.2)))) else (lbind (blockM 0 (loopM (fun s=>spec_LeastTopology_L0 y16 s.1 s.2) ((0:Int),y16.2.1))) (fun (s0_7,s0_o43)=>((spec_l27Covers y16.1 s0_o43)>>=fun y209=>(some (Out.ret ((y209,((0:Int)))))))))))
abbrev spec_LeastTopology_post (w:World) (x:(MTopology×Int)) (e:Ending) (w':World):Prop:=∃ (v0:Value) (f0:List Nat) (v1:Value) (f1:List Nat) (v2:Value) (f2:List Nat) (v3:Value) (f3:List Nat) (v4:Value) (f4:List Nat),e = .returned (.tuple #[.agg #[.int .i64 x.1.Shape.Objects,v0,v1,v2,v3,v4],.int .i64 x.2])∧Chg [] w w'∧OE [] w.heap.size w' (sOwn 2 (sInt .i64)) [v0] x.1.Shape.From f0∧OE [] w.heap.size w' (sOwn 2 (sInt .i64)) [v1] x.1.Shape.To f1∧OE [] w.heap.size w' (sOwn 2 (sInt .i64)) [v2] x.1.Shape.Identity f2∧OE [] w.heap.size w' (sOwn 22 (sOwn 2 (sInt .i64))) [v3] x.1.Shape.Composites f3∧OE [] w.heap.size w' (sOwn 23 (sOwn 22 (sOwn 2 (sInt .i64)))) [v4] x.1.Covers f4∧Dis f0 f1∧Dis f0 f2∧Dis f0 f3∧Dis f0 f4∧Dis f1 f2∧Dis f1 f3∧Dis f1 f4∧Dis f2 f3∧Dis f2 f4∧Dis f3 f4
abbrev spec_LeastTopology_T (w:World) (x:(MTopology×Int)) (r:Nat→Value) (w':World):Prop:=∃ v,(∀ a:Act,a.tmps.size=37→rho a=r→(results Tryz.f16 a.tmps).run Tryz.prog w' = .ok v w')∧spec_LeastTopology_post w x (.returned v) w'
theorem spec_LeastTopology_calls {w:World} {x0:MCategory} {z6:Value} {zh:List Nat} {z7:Value} {zg:List Nat} {z9:Value} {zf:List Nat} {z8:Value} {ze:List Nat} (za:(sImm (sInt .i64)).rep w.heap [z6] x0.From zh) (zb:(sImm (sInt .i64)).rep w.heap [z7] x0.To zg) (zd:(sImm (sInt .i64)).rep w.heap [z9] x0.Identity zf) (zc:(sImm (sImm (sInt .i64))).rep w.heap [z8] x0.Composites ze) {y:(MTopology×Int)} (hm:spec_LeastTopology x0=some y) :
  Calls Tryz.prog 16 #[.agg #[.int .i64 (x0.Objects),z6,z7,z9,z8]] w (spec_LeastTopology_post w y):=by
 refine calls_of_M (S:=Unit) (args:=[.agg #[.int .i64 (x0.Objects),z6,z7,z9,z8]]) Tryz.func16 rfl Tryz.ntmps16 (Nat.le_of_ble_eq_true rfl) (retM_some hm) ?_
 clear hm
 intro o ho
 have hB:Chg [] w w:=cr _ _
 refine wq ?_
 refine W_region rfl ?_
 refine WL.box fun b1 wd2 hC3 hr4 hl5=>?_
 replace hr4:Row wd2 b1 [.int .i64 (x0.Objects),z6,z7,z9,z8] 27:=hr4
 have hT7:=(cr [] w).trans hC3
 replace hB:=(hB.trans hT7)
 refine WL.alloc info30 zr30 fun b8 wd9 hC10 hr11 hl12=>?_
 replace hr11:Row wd9 b8 [.int .i64 ((0:Int)),.slice none 0 0,.slice none 0 0,.slice none 0 0,.slice none 0 0,.slice none 0 0] 30:=hr11
 have lo13:w.heap.size≤b8:=Nat.le_trans (hB.trans (cr [] wd2)).size hl12
 have d14:Dis [b8] [b1]:=dl (onw hl12) (one_lt (Row.lt (kr hr4 (cr [] wd2))))
 have hT15:=(cr [] wd2).trans hC10
 replace hr4:=kr hr4 hT15
 replace hB:=(hB.trans hT15)
 refine wv (v:=.int .i64 ((0:Int))) rfl (oa _) ?_
 refine anz ?_
 refine wq ?_
 refine W_region rfl ?_
 refine wv (v:=.agg #[.int .i64 (x0.Objects),z6,z7,z9,z8]) rfl (op_loadAgg u27z rfl info27 (by rw [sz27]; rfl) rfl (kr hr4 (cr [] wd9)).at) ?_
 obtain ⟨y16,hy17,ho⟩:=bs ho
 refine WL.call rfl (op_callF Tryz.func62 rfl rfl) (spec_l27Category_calls (kp _ za (hB.trans (cr [] wd9))) (kp _ zb (hB.trans (cr [] wd9))) (kp _ zd (hB.trans (cr [] wd9))) (kp _ zc (hB.trans (cr [] wd9))) hy17) ?_
 rintro _ wd18 ⟨v20,f21,v23,f24,v26,f27,v29,f30,v32,f33,v35,f36,v38,f39,v41,f42,rfl,hC19,o22,lo72,o25,lo73,o28,lo74,o31,lo75,o34,lo76,o37,lo77,o40,lo78,o43,d50,d56,d61,d65,d68,d70,d71⟩
 refine ⟨_,rfl,?_⟩
 have d81:Dis f21 [b8]:=dis_out lo72 (da (dis_par (sl _ za) (one_then lo13)) (da (dis_par (sl _ zb) (one_then lo13)) (da (dis_par (sl _ zd) (one_then lo13)) (dis_par (sl _ zc) (one_then lo13))))) (one_lt (Row.lt (kr hr11 (cr [] wd9))))
 have d84:Dis f24 [b8]:=dis_out lo73 (da (dis_par (sl _ za) (one_then lo13)) (da (dis_par (sl _ zb) (one_then lo13)) (da (dis_par (sl _ zd) (one_then lo13)) (dis_par (sl _ zc) (one_then lo13))))) (one_lt (Row.lt (kr hr11 (cr [] wd9))))
 have d87:Dis f27 [b8]:=dis_out lo74 (da (dis_par (sl _ za) (one_then lo13)) (da (dis_par (sl _ zb) (one_then lo13)) (da (dis_par (sl _ zd) (one_then lo13)) (dis_par (sl _ zc) (one_then lo13))))) (one_lt (Row.lt (kr hr11 (cr [] wd9))))
 have d90:Dis f30 [b8]:=dis_out lo75 (da (dis_par (sl _ za) (one_then lo13)) (da (dis_par (sl _ zb) (one_then lo13)) (da (dis_par (sl _ zd) (one_then lo13)) (dis_par (sl _ zc) (one_then lo13))))) (one_lt (Row.lt (kr hr11 (cr [] wd9))))
 have d93:Dis f33 [b8]:=dis_out lo76 (da (dis_par (sl _ za) (one_then lo13)) (da (dis_par (sl _ zb) (one_then lo13)) (da (dis_par (sl _ zd) (one_then lo13)) (dis_par (sl _ zc) (one_then lo13))))) (one_lt (Row.lt (kr hr11 (cr [] wd9))))
 have d96:Dis f36 [b8]:=dis_out lo77 (da (dis_par (sl _ za) (one_then lo13)) (da (dis_par (sl _ zb) (one_then lo13)) (da (dis_par (sl _ zd) (one_then lo13)) (dis_par (sl _ zc) (one_then lo13))))) (one_lt (Row.lt (kr hr11 (cr [] wd9))))
 have d99:Dis f39 [b8]:=dis_out lo78 (da (dis_par (sl _ za) (one_then lo13)) (da (dis_par (sl _ zb) (one_then lo13)) (da (dis_par (sl _ zd) (one_then lo13)) (dis_par (sl _ zc) (one_then lo13))))) (one_lt (Row.lt (kr hr11 (cr [] wd9))))
 have d102:Dis f42 [b8]:=dl (ofr o43) (one_lt (Row.lt (kr hr11 (cr [] wd9))))
 replace o43:=OE.low (G:=[]) o43 (hB.trans (cr [] wd9)).size
 have hT103:=(cr [] wd9).trans hC19
 replace hr4:=kr hr4 hT103
 replace hr11:=kr hr11 hT103
 replace hB:=(hB.trans hT103)
 refine wv (v:=.tuple #[.agg #[.int .i64 (y16.1.C.Objects),v20,v23,v26,v29,v32,v35,v38],v41,.int .i64 (y16.2.2)]) rfl (om _) ?_
 refine wv (v:=.agg #[.int .i64 (y16.1.C.Objects),v20,v23,v26,v29,v32,v35,v38]) rfl (op_extract rfl rfl) ?_
 refine wv (v:=v41) rfl (op_extract rfl rfl) ?_
 refine wv (v:=.int .i64 (y16.2.2)) rfl (op_extract rfl rfl) ?_
 refine WL.alloc info78 zr78 fun b104 wd105 hC106 hr107 hl108=>?_
 replace hr107:Row wd105 b104 [.int .i64 ((0:Int)),.slice none 0 0,.slice none 0 0,.slice none 0 0,.slice none 0 0,.slice none 0 0,.slice none 0 0,.slice none 0 0] 78:=hr107
 have lo109:w.heap.size≤b104:=Nat.le_trans (hB.trans (cr [] wd18)).size hl108
 have d110:Dis [b104] [b1]:=dl (onw hl108) (one_lt (Row.lt (kr hr4 (cr [] wd18))))
 have d111:Dis [b104] [b8]:=dl (onw hl108) (one_lt (Row.lt (kr hr11 (cr [] wd18))))
 have d112:Dis [b104] f21:=dl (onw hl108) (sl _ (kp _ o22 (cr [] wd18)))
 have d113:Dis [b104] f24:=dl (onw hl108) (sl _ (kp _ o25 (cr [] wd18)))
 have d114:Dis [b104] f27:=dl (onw hl108) (sl _ (kp _ o28 (cr [] wd18)))
 have d115:Dis [b104] f30:=dl (onw hl108) (sl _ (kp _ o31 (cr [] wd18)))
 have d116:Dis [b104] f33:=dl (onw hl108) (sl _ (kp _ o34 (cr [] wd18)))
 have d117:Dis [b104] f36:=dl (onw hl108) (sl _ (kp _ o37 (cr [] wd18)))
 have d118:Dis [b104] f39:=dl (onw hl108) (sl _ (kp _ o40 (cr [] wd18)))
 have d119:Dis [b104] f42:=dl (onw hl108) (sl _ (kp _ o43.1 (cr [] wd18)))
 have hT120:=(cr [] wd18).trans hC106
 replace o22:=kp _ o22 hT120
 replace o25:=kp _ o25 hT120
 replace o28:=kp _ o28 hT120
 replace o31:=kp _ o31 hT120
 replace o34:=kp _ o34 hT120
 replace o37:=kp _ o37 hT120
 replace o40:=kp _ o40 hT120
 replace hr4:=kr hr4 hT120
 replace hr11:=kr hr11 hT120
 replace o43:=ko o43 hT120
 replace hB:=(hB.trans hT120)
 refine WL.storeAll (us:=[.int .i64 (y16.1.C.Objects),v20,v23,v26,v29,v32,v35,v38]) info78 (by rw [sz78]; rfl) (kr hr107 (cr [] wd105)) rfl rfl rfl (by intro u hu; simp only [List.mem_cons,List.mem_nil_iff,or_false] at hu; rcases hu with rfl | rfl | rfl | rfl | rfl | rfl | rfl | rfl <;> first | exact rfl | exact (STy.one _ o22 _ (ms rfl)) | exact (STy.one _ o25 _ (ms rfl)) | exact (STy.one _ o28 _ (ms rfl)) | exact (STy.one _ o31 _ (ms rfl)) | exact (STy.one _ o34 _ (ms rfl)) | exact (STy.one _ o37 _ (ms rfl)) | exact (STy.one _ o40 _ (ms rfl))) fun wd121 hC122 hr123=>?_
 replace hr123:Row wd121 b104 [.int .i64 (y16.1.C.Objects),v20,v23,v26,v29,v32,v35,v38] 78:=hr123
 have hT124:=((cr [] wd105).nil (G:=[b104])).trans hC122
 replace o22:=STy.keep _ o22 hT124 (d112).symm
 replace o25:=STy.keep _ o25 hT124 (d113).symm
 replace o28:=STy.keep _ o28 hT124 (d114).symm
 replace o31:=STy.keep _ o31 hT124 (d115).symm
 replace o34:=STy.keep _ o34 hT124 (d116).symm
 replace o37:=STy.keep _ o37 hT124 (d117).symm
 replace o40:=STy.keep _ o40 hT124 (d118).symm
 replace hr4:=Row.keep hr4 hT124 ((d110).symm _ (ms rfl))
 replace hr11:=Row.keep hr11 hT124 ((d111).symm _ (ms rfl))
 replace o43:=okp o43 hT124 (d119).symm
 replace hB:=hB.then hT124 (one_then lo109)
 refine wv (v:=v41) rfl (oa _) ?_
 refine wv (v:=.int .i64 (y16.2.2)) rfl (oa _) ?_
 refine anz ?_
 refine wq ?_
 refine wq ?_
 refine Wq rfl (cr [] wd121) ?_
 refine qv (v:=.int .i64 (y16.2.2)) rfl (fun _ _=>om _) ?_
 refine qv (v:=.bool ((y16.2.2) != ((0:Int)))) rfl (fun _ _=>op_bin rfl rfl bin_neq) ?_
 intro wd125 hC126
 refine anz ?_
 refine W_cond (b:=(y16.2.2) != ((0:Int))) rfl ?_ ?_
 intro hb127
 rw [hb127] at ho
 refine wq ?_
 refine W_region rfl ?_
 refine wv (v:=.agg #[.int .i64 ((0:Int)),.slice none 0 0,.slice none 0 0,.slice none 0 0,.slice none 0 0,.slice none 0 0]) rfl (op_build (bld30_)) ?_
 refine wv (v:=.int .i64 (y16.2.2)) rfl (om _) ?_
 refine WL.storeAll (us:=[.int .i64 ((0:Int)),.slice none 0 0,.slice none 0 0,.slice none 0 0,.slice none 0 0,.slice none 0 0]) info30 (by rw [sz30]; rfl) (kr hr11 hC126) rfl rfl rfl (by intro u hu; simp only [List.mem_cons,List.mem_nil_iff,or_false] at hu; rcases hu with rfl | rfl | rfl | rfl | rfl | rfl <;> first | exact rfl) fun wd128 hC129 hr130=>?_
 replace hr130:Row wd128 b8 [.int .i64 ((0:Int)),.slice none 0 0,.slice none 0 0,.slice none 0 0,.slice none 0 0,.slice none 0 0] 30:=hr130
 have hT131:=(hC126.nil (G:=[b8])).trans hC129
 replace o22:=STy.keep _ o22 hT131 d81
 replace o25:=STy.keep _ o25 hT131 d84
 replace o28:=STy.keep _ o28 hT131 d87
 replace o31:=STy.keep _ o31 hT131 d90
 replace o34:=STy.keep _ o34 hT131 d93
 replace o37:=STy.keep _ o37 hT131 d96
 replace o40:=STy.keep _ o40 hT131 d99
 replace hr4:=Row.keep hr4 hT131 ((d14).symm _ (ms rfl))
 replace o43:=okp o43 hT131 d102
 replace hr123:=Row.keep hr123 hT131 (d111 _ (ms rfl))
 replace hB:=hB.then hT131 (one_then lo13)
 refine wv (v:=.int .i64 (y16.2.2)) rfl (oa _) ?_
 refine anz ?_
 cases ho
 exact W_ret ⟨_,res_c1 Tryz.results16 u30 rfl info30 (by rw [sz30]; rfl) rfl (kr hr130 (cr [] wd128)).at,_,_,_,_,_,_,_,_,_,_,rfl,(hB.trans (cr [] wd128)),nil_OE,nil_OE,nil_OE,nil_OE,nil_OE,(fun _ h=>nomatch h),(fun _ h=>nomatch h),(fun _ h=>nomatch h),(fun _ h=>nomatch h),(fun _ h=>nomatch h),(fun _ h=>nomatch h),(fun _ h=>nomatch h),(fun _ h=>nomatch h),(fun _ h=>nomatch h),(fun _ h=>nomatch h)⟩
 intro hb127
 rw [hb127] at ho
 refine W_skip ?_
 refine anz ?_
 refine wq ?_
 refine wq ?_
 refine Wq rfl hC126 ?_
 refine qv (v:=.int .i64 ((0:Int))) rfl (fun _ _=>oa _) ?_
 intro wd132 hC133
 refine anz ?_
 refine W_for (S1:=Int×(List (List Bool))) (fun s r w'=>match s with | (s0_7,s0_o43)=>∃ (f134:List Nat),Chg [] w w'∧Row w' b8 [.int .i64 ((0:Int)),.slice none 0 0,.slice none 0 0,.slice none 0 0,.slice none 0 0,.slice none 0 0] 30∧(sImm (sInt .i64)).rep w'.heap [v20] (y16.1.C.From) f21∧(sImm (sInt .i64)).rep w'.heap [v23] (y16.1.C.To) f24∧(sImm (sInt .i64)).rep w'.heap [v26] (y16.1.C.Identity) f27∧(sImm (sImm (sInt .i64))).rep w'.heap [v29] (y16.1.C.Composites) f30∧(sImm (sImm (sImm (sInt .i64)))).rep w'.heap [v32] (y16.1.Lists) f33∧(sImm (sImm (sInt .i64))).rep w'.heap [v35] (y16.1.Pulls) f36∧(sImm (sInt .i64)).rep w'.heap [v38] (y16.1.Tops) f39∧OE [] w.heap.size w' (sOwn 82 (sOwn 4 sBool)) [v41] (s0_o43) f134∧Row w' b104 [.int .i64 (y16.1.C.Objects),v20,v23,v26,v29,v32,v35,v38] 78∧Dis [b8] f21∧Dis [b8] f24∧Dis [b8] f27∧Dis [b8] f30∧Dis [b8] f33∧Dis [b8] f36∧Dis [b8] f39∧Dis [b8] f134∧Dis [b8] [b104]∧Dis f21 f134∧Dis f21 [b104]∧Dis f24 f134∧Dis f24 [b104]∧Dis f27 f134∧Dis f27 [b104]∧Dis f30 f134∧Dis f30 [b104]∧Dis f33 f134∧Dis f33 [b104]∧Dis f36 f134∧Dis f36 [b104]∧Dis f39 f134∧Dis f39 [b104]∧Dis f134 [b104]∧∃ F,r=updL F [(2,.pointer (some (⟨b8,0,none⟩))),(4,.pointer (some (⟨b104,0,none⟩))),(5,v41),(7,.int .i64 (s0_7))]) (T:=spec_LeastTopology_T w) ho ⟨_,(hB.trans hC133),(kr hr11 hC133),(kp _ o22 hC133),(kp _ o25 hC133),(kp _ o28 hC133),(kp _ o31 hC133),(kp _ o34 hC133),(kp _ o37 hC133),(kp _ o40 hC133),(ko o43 hC133),(kr hr123 hC133),((d81).symm),((d84).symm),((d87).symm),((d90).symm),((d93).symm),((d96).symm),((d99).symm),((d102).symm),((d111).symm),(d50),((d112).symm),(d56),((d113).symm),(d61),((d114).symm),(d65),((d115).symm),(d68),((d116).symm),(d70),((d117).symm),(d71),((d118).symm),((d119).symm),fr ⟨rfl,rfl,rfl,rfl,trivial⟩⟩ ?_ ?_ ?_
 intro x r w' ho hx; subst ho; exact hx
 rintro ⟨s0_7,s0_o43⟩ _ wd159 ⟨f134,hB,hr11,o22,o25,o28,o31,o34,o37,o40,o43,hr123,d135,d136,d137,d138,d139,d140,d141,d142,d143,d144,d145,d146,d147,d148,d149,d150,d151,d152,d153,d154,d155,d156,d157,d158,F,rfl⟩ o ho
 replace ho:spec_LeastTopology_L0 y16 s0_7 s0_o43=some o:=ho
 unfold spec_LeastTopology_L0 at ho
 refine wq ?_
 refine wq ?_
 refine Wq rfl (cr [] wd159) ?_
 refine qv (v:=.int .i64 (s0_7)) rfl (fun _ _=>om _) ?_
 refine qv (v:=v41) rfl (fun _ _=>om _) ?_
 refine qv (v:=.int .i64 ((s0_o43.length:Int))) rfl (fun _ hC=>op_lenI u79 ((Le.own (Le.own (Le.refl _) 4) 82).le (kp _ o43.1 hC))) ?_
 refine qv (v:=.bool (decide (s0_7 < (s0_o43.length:Int)))) rfl (fun _ _=>op_bin rfl rfl bin_lss) ?_
 intro wd160 hC161
 refine anz ?_
 refine W_cond (b:=decide (s0_7 < (s0_o43.length:Int))) rfl ?_ ?_
 intro hb162
 rw [hb162] at ho
 refine W_skip ?_
 refine anz ?_
 refine wq ?_
 refine W_block ?_
 obtain ⟨e163,hx164e,ho⟩:=bs ho
 have hx164:=idx_some hx164e
 obtain ⟨u165,fu166,hu167,hr168,hs169⟩:=one_get rfl ((Le.own (Le.own (Le.refl _) 4) 82).le o43.1) hx164.1 hx164.2
 obtain ⟨e170,hx171e,ho⟩:=bs ho
 have hx171:=idx_some hx171e
 refine W_any (m:=9) (U:=[[],[],[],[],[],[],[],[],[]]) (S:=[⟨true,pl fun _ _ u=>u=(v41:Value)⟩,⟨true,pl fun _ _ u=>u=(.int .i64 (s0_7):Value)⟩,⟨true,pl fun _ _ u=>u=(.pointer (some (elA (v41) 1 (s0_7))):Value)⟩,⟨true,pl fun _ _ u=>u=(u165:Value)⟩,⟨true,pl fun _ _ u=>u=(.pointer (some (⟨b104,7,none⟩)):Value)⟩,⟨true,pl fun _ _ u=>u=(v38:Value)⟩,⟨true,pl fun _ _ u=>u=(.int .i64 (s0_7):Value)⟩,⟨true,pl fun _ _ u=>u=(.pointer (some (elA (v38) 1 (s0_7))):Value)⟩,⟨true,pl fun _ _ u=>u=(.int .i64 (e170):Value)⟩]) (Z:=[]) hmix rfl (by decide) (by decide +kernel) (fun _ _ _ h=>np_out h) (by decide) rfl (by decide +kernel) (stable_all <| stable_cons stable_val (stable_cons stable_val (stable_cons stable_val (stable_cons stable_val (stable_cons stable_val (stable_cons stable_val (stable_cons stable_val (stable_cons stable_val (stable_cons stable_val ( stable_nil)))))))))) ?_ ?_
 refine owes_cons ?_ ( owes_cons ?_ ( owes_cons ?_ ( owes_cons ?_ ( owes_cons ?_ ( owes_cons ?_ ( owes_cons ?_ ( owes_cons ?_ ( owes_cons ?_ ( owes_nil)))))))))
 refine Owes.val rfl rfl rfl ?_
 intro g r wr hCr H hot
 have hC:=hC161.trans hCr
 obtain ⟨F,rfl⟩:=fr (r:=r) (l:=[(5,v41)]) ⟨(hot 5 (by decide)),trivial⟩
 exact om _
 refine Owes.val rfl rfl rfl ?_
 intro g r wr hCr H hot
 have hC:=hC161.trans hCr
 obtain ⟨F,rfl⟩:=fr (r:=r) (l:=[(7,.int .i64 (s0_7))]) ⟨(hot 7 (by decide)),trivial⟩
 exact om _
 refine Owes.val rfl rfl rfl ?_
 intro g r wr hCr H hot
 have hC:=hC161.trans hCr
 obtain ⟨F,rfl⟩:=fr (r:=r) (l:=[(24,v41),(25,.int .i64 (s0_7))]) ⟨(H 0 (by decide +kernel) 24 rfl),(H 1 (by decide +kernel) 25 rfl),trivial⟩
 exact op_indexI u79 info82 sz82 rfl ((Le.own (Le.own (Le.refl _) 4) 82).le (kp _ o43.1 hC)) rfl hx164.1 hx164.2
 refine Owes.val rfl rfl rfl ?_
 intro g r wr hCr H hot
 have hC:=hC161.trans hCr
 obtain ⟨F,rfl⟩:=fr (r:=r) (l:=[(26,.pointer (some (elA (v41) 1 (s0_7))))]) ⟨(H 2 (by decide +kernel) 26 rfl),trivial⟩
 exact oldz u82 rfl rfl (hC.cell0 hu167)
 refine Owes.val rfl rfl rfl ?_
 intro g r wr hCr H hot
 have hC:=hC161.trans hCr
 obtain ⟨F,rfl⟩:=fr (r:=r) (l:=[(4,.pointer (some (⟨b104,0,none⟩)))]) ⟨(hot 4 (by decide)),trivial⟩
 exact op_fieldAddrR u78 rfl info22 ne22 rfl rfl
 refine Owes.val rfl rfl rfl ?_
 intro g r wr hCr H hot
 have hC:=hC161.trans hCr
 obtain ⟨F,rfl⟩:=fr (r:=r) (l:=[(28,.pointer (some (⟨b104,7,none⟩)))]) ⟨(H 4 (by decide +kernel) 28 rfl),trivial⟩
 exact oldz u22z rfl rfl ((kr hr123 hC).at.cell (j:=7) rfl)
 refine Owes.val rfl rfl rfl ?_
 intro g r wr hCr H hot
 have hC:=hC161.trans hCr
 obtain ⟨F,rfl⟩:=fr (r:=r) (l:=[(7,.int .i64 (s0_7))]) ⟨(hot 7 (by decide)),trivial⟩
 exact om _
 refine Owes.val rfl rfl rfl ?_
 intro g r wr hCr H hot
 have hC:=hC161.trans hCr
 obtain ⟨F,rfl⟩:=fr (r:=r) (l:=[(29,v38),(30,.int .i64 (s0_7))]) ⟨(H 5 (by decide +kernel) 29 rfl),(H 6 (by decide +kernel) 30 rfl),trivial⟩
 exact op_indexI u22z info2 sz2 rfl (kp _ o40 hC) rfl hx171.1 hx171.2
 refine Owes.val rfl rfl rfl ?_
 intro g r wr hCr H hot
 have hC:=hC161.trans hCr
 obtain ⟨F,rfl⟩:=fr (r:=r) (l:=[(31,.pointer (some (elA (v38) 1 (s0_7))))]) ⟨(H 7 (by decide +kernel) 31 rfl),trivial⟩
 exact oldz u2z rfl rfl (int_get (kp _ o40 hC) hx171.1 hx171.2)
 rintro g r wd172 ⟨hC173,hdone,hot,hfresh,hdis⟩
 have hdd:=hdis
 obtain ⟨F,rfl⟩:=fr (r:=r) (l:=[(2,.pointer (some (⟨b8,0,none⟩))),(4,.pointer (some (⟨b104,0,none⟩))),(5,v41),(7,.int .i64 (s0_7)),(27,u165),(32,.int .i64 (e170))]) ⟨(hot 2 (by decide)),(hot 4 (by decide)),(hot 5 (by decide)),(hot 7 (by decide)),(hdone 3 (by decide) (by decide) 27 rfl),(hdone 8 (by decide) (by decide) 32 rfl),trivial⟩
 have hT174:=(hC161.trans hC173)
 replace hr11:=kr hr11 hT174
 replace o22:=kp _ o22 hT174
 replace o25:=kp _ o25 hT174
 replace o28:=kp _ o28 hT174
 replace o31:=kp _ o31 hT174
 replace o34:=kp _ o34 hT174
 replace o37:=kp _ o37 hT174
 replace o40:=kp _ o40 hT174
 replace o43:=ko o43 hT174
 replace hr123:=kr hr123 hT174
 replace hu167:=hT174.cell0 hu167
 replace hr168:=kp _ hr168 hT174
 replace hB:=(hB.trans hT174)
 obtain ⟨e175,hx176e,ho⟩:=bs ho
 have hx176:=idx_some hx176e
 refine wv (v:=.pointer (some (elA (u165) 1 (e170)))) rfl (op_indexI u82 info4 sz4 rfl (kp _ hr168 (cr [] wd172)) rfl hx176.1 hx176.2) ?_
 obtain ⟨k177,o178,hk179,hf180⟩:=own_focus rfl hB.size o43 hx164.2 hu167
 have d181:Dis k177 [b8]:=fun b hb=>(d142).symm b (hk179 b hb)
 have d182:Dis k177 f21:=fun b hb=>(d144).symm b (hk179 b hb)
 have d183:Dis k177 f24:=fun b hb=>(d146).symm b (hk179 b hb)
 have d184:Dis k177 f27:=fun b hb=>(d148).symm b (hk179 b hb)
 have d185:Dis k177 f30:=fun b hb=>(d150).symm b (hk179 b hb)
 have d186:Dis k177 f33:=fun b hb=>(d152).symm b (hk179 b hb)
 have d187:Dis k177 f36:=fun b hb=>(d154).symm b (hk179 b hb)
 have d188:Dis k177 f39:=fun b hb=>(d156).symm b (hk179 b hb)
 have d189:Dis k177 [b104]:=fun b hb=>d158 b (hk179 b hb)
 refine WL.storeEl (z':=true) _ _ sBool_nofp rfl info4 sz4 o178 hx176.2 rfl rfl ⟨rfl,rfl⟩ fun wd190 hC191 o192=>?_
 obtain ⟨f193,o194,hs195⟩:=hf180 _ _ _ hC191 o192
 have d196:Dis f193 [b8]:=dis_upd (k:=[]) (fun b hb=>(hs195 b hb).elim .inl fun h=>.inr (.inr h)) (d142).symm (fun _ h=>nomatch h) (one_lt (Row.lt (kr hr11 (cr [] wd172))))
 have d197:Dis f193 f21:=dis_upd (k:=[]) (fun b hb=>(hs195 b hb).elim .inl fun h=>.inr (.inr h)) (d144).symm (fun _ h=>nomatch h) (sl _ (kp _ o22 (cr [] wd172)))
 have d198:Dis f193 f24:=dis_upd (k:=[]) (fun b hb=>(hs195 b hb).elim .inl fun h=>.inr (.inr h)) (d146).symm (fun _ h=>nomatch h) (sl _ (kp _ o25 (cr [] wd172)))
 have d199:Dis f193 f27:=dis_upd (k:=[]) (fun b hb=>(hs195 b hb).elim .inl fun h=>.inr (.inr h)) (d148).symm (fun _ h=>nomatch h) (sl _ (kp _ o28 (cr [] wd172)))
 have d200:Dis f193 f30:=dis_upd (k:=[]) (fun b hb=>(hs195 b hb).elim .inl fun h=>.inr (.inr h)) (d150).symm (fun _ h=>nomatch h) (sl _ (kp _ o31 (cr [] wd172)))
 have d201:Dis f193 f33:=dis_upd (k:=[]) (fun b hb=>(hs195 b hb).elim .inl fun h=>.inr (.inr h)) (d152).symm (fun _ h=>nomatch h) (sl _ (kp _ o34 (cr [] wd172)))
 have d202:Dis f193 f36:=dis_upd (k:=[]) (fun b hb=>(hs195 b hb).elim .inl fun h=>.inr (.inr h)) (d154).symm (fun _ h=>nomatch h) (sl _ (kp _ o37 (cr [] wd172)))
 have d203:Dis f193 f39:=dis_upd (k:=[]) (fun b hb=>(hs195 b hb).elim .inl fun h=>.inr (.inr h)) (d156).symm (fun _ h=>nomatch h) (sl _ (kp _ o40 (cr [] wd172)))
 have d204:Dis f193 [b104]:=dis_upd (k:=[]) (fun b hb=>(hs195 b hb).elim .inl fun h=>.inr (.inr h)) d158 (fun _ h=>nomatch h) (one_lt (Row.lt (kr hr123 (cr [] wd172))))
 have hT205:=((cr [] wd172).nil (G:=k177)).trans hC191
 replace o22:=STy.keep _ o22 hT205 (d182).symm
 replace o25:=STy.keep _ o25 hT205 (d183).symm
 replace o28:=STy.keep _ o28 hT205 (d184).symm
 replace o31:=STy.keep _ o31 hT205 (d185).symm
 replace o34:=STy.keep _ o34 hT205 (d186).symm
 replace o37:=STy.keep _ o37 hT205 (d187).symm
 replace o40:=STy.keep _ o40 hT205 (d188).symm
 replace hr11:=Row.keep hr11 hT205 ((d181).symm _ (ms rfl))
 replace hr123:=Row.keep hr123 hT205 ((d189).symm _ (ms rfl))
 replace hB:=hB.then hT205 (fun b hb=>o43.2.2 b (hk179 b hb))
 refine inBlk_n ?_
 refine anz ?_
 refine Wq rfl (cr [] wd190) ?_
 refine qv (v:=.int .i64 (s0_7)) rfl (fun _ _=>om _) ?_
 refine qv (v:=.int .i64 (w64 (s0_7 + (1:Int)))) rfl (fun _ _=>op_bin rfl rfl bin_add) ?_
 refine qv (v:=.int .i64 (w64 (s0_7 + (1:Int)))) rfl (fun _ _=>oa _) ?_
 intro wd206 hC207
 cases ho
 exact ⟨_,(hB.trans hC207),(kr hr11 hC207),(kp _ o22 hC207),(kp _ o25 hC207),(kp _ o28 hC207),(kp _ o31 hC207),(kp _ o34 hC207),(kp _ o37 hC207),(kp _ o40 hC207),(ko o194 hC207),(kr hr123 hC207),(d135),(d136),(d137),(d138),(d139),(d140),(d141),((d196).symm),(d143),((d197).symm),(d145),((d198).symm),(d147),((d199).symm),(d149),((d200).symm),(d151),((d201).symm),(d153),((d202).symm),(d155),((d203).symm),(d157),(d204),fr ⟨rfl,rfl,rfl,rfl,trivial⟩⟩
 intro hb162
 rw [hb162] at ho
 refine W_exit ?_
 refine andThen_x ?_
 cases ho
 exact ⟨rfl,⟨_,(hB.trans hC161),(kr hr11 hC161),(kp _ o22 hC161),(kp _ o25 hC161),(kp _ o28 hC161),(kp _ o31 hC161),(kp _ o34 hC161),(kp _ o37 hC161),(kp _ o40 hC161),(ko o43 hC161),(kr hr123 hC161),(d135),(d136),(d137),(d138),(d139),(d140),(d141),(d142),(d143),(d144),(d145),(d146),(d147),(d148),(d149),(d150),(d151),(d152),(d153),(d154),(d155),(d156),(d157),(d158),fr ⟨rfl,rfl,rfl,rfl,trivial⟩⟩⟩
 rintro ⟨s0_7,s0_o43⟩ _ wd208 ⟨f134,hB,hr11,o22,o25,o28,o31,o34,o37,o40,o43,hr123,d135,d136,d137,d138,d139,d140,d141,d142,d143,d144,d145,d146,d147,d148,d149,d150,d151,d152,d153,d154,d155,d156,d157,d158,F,rfl⟩ ho
 dsimp only at ho
 refine anz ?_
 refine wq ?_
 refine W_region rfl ?_
 refine wv (v:=.agg #[.int .i64 (y16.1.C.Objects),v20,v23,v26,v29,v32,v35,v38]) rfl (op_loadAgg u78 rfl info78 (by rw [sz78]; rfl) rfl (kr hr123 (cr [] wd208)).at) ?_
 refine wv (v:=v41) rfl (om _) ?_
 obtain ⟨y209,hy210,ho⟩:=bs ho
 refine WL.call rfl (op_callF Tryz.func63 rfl rfl) (spec_l27Covers_calls (kp _ o22 (cr [] wd208)) (kp _ o25 (cr [] wd208)) (kp _ o28 (cr [] wd208)) (kp _ o31 (cr [] wd208)) (kp _ o34 (cr [] wd208)) (kp _ o37 (cr [] wd208)) (kp _ o40 (cr [] wd208)) ((Le.own (Le.own (Le.refl _) 4) 82).le (kp _ o43.1 (cr [] wd208))) hy210) ?_
 rintro _ wd211 ⟨v213,f214,v216,f217,v219,f220,v222,f223,v225,f226,rfl,hC212,o215,o218,o221,o224,o227,d228,d229,d230,d231,d232,d233,d234,d235,d236,d237⟩
 refine ⟨_,rfl,?_⟩
 have d238:Dis f214 [b8]:=dl (ofr o215) (one_lt (Row.lt (kr hr11 (cr [] wd208))))
 replace o215:=OE.low (G:=[]) o215 (hB.trans (cr [] wd208)).size
 have d248:Dis f217 [b8]:=dl (ofr o218) (one_lt (Row.lt (kr hr11 (cr [] wd208))))
 replace o218:=OE.low (G:=[]) o218 (hB.trans (cr [] wd208)).size
 have d258:Dis f220 [b8]:=dl (ofr o221) (one_lt (Row.lt (kr hr11 (cr [] wd208))))
 replace o221:=OE.low (G:=[]) o221 (hB.trans (cr [] wd208)).size
 have d268:Dis f223 [b8]:=dl (ofr o224) (one_lt (Row.lt (kr hr11 (cr [] wd208))))
 replace o224:=OE.low (G:=[]) o224 (hB.trans (cr [] wd208)).size
 have d278:Dis f226 [b8]:=dl (ofr o227) (one_lt (Row.lt (kr hr11 (cr [] wd208))))
 replace o227:=OE.low (G:=[]) o227 (hB.trans (cr [] wd208)).size
 have hT288:=(cr [] wd208).trans hC212
 replace o22:=kp _ o22 hT288
 replace o25:=kp _ o25 hT288
 replace o28:=kp _ o28 hT288
 replace o31:=kp _ o31 hT288
 replace o34:=kp _ o34 hT288
 replace o37:=kp _ o37 hT288
 replace o40:=kp _ o40 hT288
 replace hr11:=kr hr11 hT288
 replace o43:=ko o43 hT288
 replace hr123:=kr hr123 hT288
 replace hB:=(hB.trans hT288)
 refine WL.storeAll (us:=[.int .i64 (y209.Shape.Objects),v213,v216,v219,v222,v225]) info30 (by rw [sz30]; rfl) (kr hr11 (cr [] wd211)) rfl rfl rfl (by intro u hu; simp only [List.mem_cons,List.mem_nil_iff,or_false] at hu; rcases hu with rfl | rfl | rfl | rfl | rfl | rfl <;> first | exact rfl | exact (STy.one _ o215.1 _ (ms rfl)) | exact (STy.one _ o218.1 _ (ms rfl)) | exact (STy.one _ o221.1 _ (ms rfl)) | exact (STy.one _ o224.1 _ (ms rfl)) | exact (STy.one _ o227.1 _ (ms rfl))) fun wd289 hC290 hr291=>?_
 replace hr291:Row wd289 b8 [.int .i64 (y209.Shape.Objects),v213,v216,v219,v222,v225] 30:=hr291
 have hT292:=((cr [] wd211).nil (G:=[b8])).trans hC290
 replace o22:=STy.keep _ o22 hT292 (d135).symm
 replace o25:=STy.keep _ o25 hT292 (d136).symm
 replace o28:=STy.keep _ o28 hT292 (d137).symm
 replace o31:=STy.keep _ o31 hT292 (d138).symm
 replace o34:=STy.keep _ o34 hT292 (d139).symm
 replace o37:=STy.keep _ o37 hT292 (d140).symm
 replace o40:=STy.keep _ o40 hT292 (d141).symm
 replace o43:=okp o43 hT292 (d142).symm
 replace hr123:=Row.keep hr123 hT292 ((d143).symm _ (ms rfl))
 replace o215:=okp o215 hT292 d238
 replace o218:=okp o218 hT292 d248
 replace o221:=okp o221 hT292 d258
 replace o224:=okp o224 hT292 d268
 replace o227:=okp o227 hT292 d278
 replace hB:=hB.then hT292 (one_then lo13)
 refine wv (v:=.int .i64 ((0:Int))) rfl (oa _) ?_
 refine anz ?_
 cases ho
 exact W_ret ⟨_,res_c1 Tryz.results16 u30 rfl info30 (by rw [sz30]; rfl) rfl (kr hr291 (cr [] wd289)).at,_,_,_,_,_,_,_,_,_,_,rfl,(hB.trans (cr [] wd289)),(ko o215 (cr [] wd289)),(ko o218 (cr [] wd289)),(ko o221 (cr [] wd289)),(ko o224 (cr [] wd289)),(ko o227 (cr [] wd289)),(d228),(d229),(d230),(d231),(d232),(d233),(d234),(d235),(d236),(d237)⟩

noncomputable def impl_has_L0 (x0:(List Int)) (x1:Int) (s0_9:Int):Option (Out (Int) (Bool)):=
 (bif decide (s0_9 < (x0.length:Int)) then ((idx x0 (s0_9))>>=fun e9=>(bif (e9) == (x1) then (some (Out.ret (true))) else (some (Out.norm (w64 (s0_9 + (1:Int))))))) else (some (Out.exit 0 (s0_9))))
noncomputable def impl_has (x0:(List Int)) (x1:Int):Option (Bool):=
 retM (S:=Unit) (lbind (blockM 0 (loopM (impl_has_L0 x0 x1) ((0:Int)))) (fun s0_9=>(some (Out.ret (false)))))
abbrev impl_has_post (w:World) (x:(Bool)) (e:Ending) (w':World):Prop:=e = .returned (.bool x)∧Chg [] w w'
abbrev impl_has_T (w:World) (x:(Bool)) (r:Nat→Value) (w':World):Prop:=∃ v,(∀ a:Act,a.tmps.size=17→rho a=r→(results Tryz.f126 a.tmps).run Tryz.prog w' = .ok v w')∧impl_has_post w x (.returned v) w'
theorem impl_has_calls {w:World} {x0:(List Int)} {v_x0:Value} {f_x0:List Nat} {x1:Int} (h_x0:(sImm (sInt .i64)).rep w.heap [v_x0] x0 f_x0) {y:(Bool)} (hm:impl_has x0 x1=some y) :
  Calls Tryz.prog 126 #[v_x0,.int .i64 (x1)] w (impl_has_post w y):=by
 refine calls_of_M (S:=Unit) (args:=[v_x0,.int .i64 (x1)]) Tryz.func126 rfl Tryz.ntmps126 (Nat.le_of_ble_eq_true rfl) (retM_some hm) ?_
 clear hm
 intro o ho
 have hB:Chg [] w w:=cr _ _
 refine wq ?_
 refine Wq rfl (cr [] w) ?_
 refine qv (v:=.bool (false)) rfl (fun _ _=>oa _) ?_
 intro wd1 hC2
 refine anz ?_
 refine wq ?_
 refine wq ?_
 refine Wq rfl hC2 ?_
 refine qv (v:=v_x0) rfl (fun _ _=>om _) ?_
 refine qv (v:=.int .i64 ((x0.length:Int))) rfl (fun _ hC=>op_lenI u22z (kp _ h_x0 (hB.trans hC))) ?_
 refine qv (v:=.int .i64 ((0:Int))) rfl (fun _ _=>om _) ?_
 intro wd3 hC4
 refine anz ?_
 refine W_for (S1:=Int) (fun (s0_9:Int) r w'=>Chg [] w w'∧∃ F,r=updL F [(1,.int .i64 (x1)),(7,v_x0),(8,.int .i64 ((x0.length:Int))),(9,.int .i64 (s0_9))]) (T:=impl_has_T w) ho ⟨(hB.trans hC4),fr ⟨rfl,rfl,rfl,rfl,trivial⟩⟩ ?_ ?_ ?_
 intro x r w' ho hx; subst ho; exact hx
 rintro s0_9 _ wd5 ⟨hB,F,rfl⟩ o ho
 replace ho:impl_has_L0 x0 x1 s0_9=some o:=ho
 unfold impl_has_L0 at ho
 refine wq ?_
 refine Wq rfl (cr [] wd5) ?_
 refine qv (v:=.bool (decide (s0_9 < (x0.length:Int)))) rfl (fun _ _=>op_bin rfl rfl bin_lss) ?_
 intro wd6 hC7
 refine anz ?_
 refine wq ?_
 refine W_cond (b:=decide (s0_9 < (x0.length:Int))) rfl ?_ ?_
 intro hb8
 rw [hb8] at ho
 refine W_skip ?_
 refine anz ?_
 refine wq ?_
 refine W_block ?_
 refine wq ?_
 refine Wq rfl hC7 ?_
 obtain ⟨e9,hx10e,ho⟩:=bs ho
 have hx10:=idx_some hx10e
 refine qv (v:=.pointer (some (elA (v_x0) 1 (s0_9)))) rfl (fun _ hC=>op_indexI u22z info2 sz2 rfl (kp _ h_x0 (hB.trans hC)) rfl hx10.1 hx10.2) ?_
 refine qv (v:=.int .i64 (e9)) rfl (fun _ hC=>oldz u2z rfl rfl (int_get (kp _ h_x0 (hB.trans hC)) hx10.1 hx10.2)) ?_
 refine qv (v:=.int .i64 (e9)) rfl (fun _ _=>oa _) ?_
 intro wd11 hC12
 refine anz ?_
 refine wq ?_
 refine Wq rfl hC12 ?_
 refine qv (v:=.int .i64 (e9)) rfl (fun _ _=>om _) ?_
 refine qv (v:=.int .i64 (x1)) rfl (fun _ _=>om _) ?_
 refine qv (v:=.bool ((e9) == (x1))) rfl (fun _ _=>op_bin rfl rfl bin_eql) ?_
 intro wd13 hC14
 refine anz ?_
 refine W_cond (b:=(e9) == (x1)) rfl ?_ ?_
 intro hb15
 rw [hb15] at ho
 refine wq ?_
 refine Wq rfl hC14 ?_
 refine qv (v:=.bool (true)) rfl (fun _ _=>oa _) ?_
 intro wd16 hC17
 refine anz ?_
 cases ho
 exact W_ret ⟨_,res_1 Tryz.results126,rfl,(hB.trans hC17)⟩
 intro hb15
 rw [hb15] at ho
 refine W_skip ?_
 refine inBlk_n ?_
 refine anz ?_
 refine Wq rfl hC14 ?_
 refine qv (v:=.int .i64 (w64 (s0_9 + (1:Int)))) rfl (fun _ _=>op_bin rfl rfl bin_add) ?_
 refine qv (v:=.int .i64 (w64 (s0_9 + (1:Int)))) rfl (fun _ _=>om _) ?_
 intro wd18 hC19
 cases ho
 exact ⟨(hB.trans hC19),fr ⟨rfl,rfl,rfl,rfl,trivial⟩⟩
 intro hb8
 rw [hb8] at ho
 refine W_exit ?_
 refine andThen_x ?_
 cases ho
 exact ⟨rfl,⟨(hB.trans hC7),fr ⟨rfl,rfl,rfl,rfl,trivial⟩⟩⟩
 rintro s0_9 _ wd20 ⟨hB,F,rfl⟩ ho
 replace ho:=ho
 refine anz ?_
 refine wq ?_
 refine Wq rfl (cr [] wd20) ?_
 refine qv (v:=.bool (false)) rfl (fun _ _=>oa _) ?_
 intro wd21 hC22
 refine anz ?_
 cases ho
 exact W_ret ⟨_,res_1 Tryz.results126,rfl,(hB.trans hC22)⟩

noncomputable def impl_sieve_isGreatest (x0:(List Int)) (x1:MCategory) (x2:Int):Option (Bool):=
 retM (S:=Unit) ((idx x1.Identity (x2))>>=fun e3=>((impl_has x0 (e3))>>=fun y5=>(some (Out.ret (y5)))))
abbrev impl_sieve_isGreatest_post (w:World) (x:(Bool)) (e:Ending) (w':World):Prop:=e = .returned (.bool x)∧Chg [] w w'
abbrev impl_sieve_isGreatest_T (w:World) (x:(Bool)) (r:Nat→Value) (w':World):Prop:=∃ v,(∀ a:Act,a.tmps.size=16→rho a=r→(results Tryz.f67 a.tmps).run Tryz.prog w' = .ok v w')∧impl_sieve_isGreatest_post w x (.returned v) w'
theorem impl_sieve_isGreatest_calls {w:World} {x0:(List Int)} {v_x0:Value} {f_x0:List Nat} {x1:MCategory} {p_x1:Addr} {z1a:Value} {z27:List Nat} {z1b:Value} {z28:List Nat} {z12:Value} {z29:List Nat} {z1c:Value} {z2a:List Nat} {x2:Int} (h_x0:(sImm (sInt .i64)).rep w.heap [v_x0] x0 f_x0) (z2g:(sImm (sInt .i64)).rep w.heap [z1a] x1.From z27) (z2h:(sImm (sInt .i64)).rep w.heap [z1b] x1.To z28) (z25:(sImm (sInt .i64)).rep w.heap [z12] x1.Identity z29) (z2i:(sImm (sImm (sInt .i64))).rep w.heap [z1c] x1.Composites z2a) (a_x1:At w p_x1 [.int .i64 (x1.Objects),z1a,z1b,z12,z1c]) {y:(Bool)} (hm:impl_sieve_isGreatest x0 x1 x2=some y) :
  Calls Tryz.prog 67 #[v_x0,.pointer (some (p_x1)),.int .i64 (x2)] w (impl_sieve_isGreatest_post w y):=by
 refine calls_of_M (S:=Unit) (args:=[v_x0,.pointer (some (p_x1)),.int .i64 (x2)]) Tryz.func67 rfl Tryz.ntmps67 (Nat.le_of_ble_eq_true rfl) (retM_some hm) ?_
 clear hm
 intro o ho
 have hB:Chg [] w w:=cr _ _
 refine wq ?_
 refine Wq rfl (cr [] w) ?_
 refine qv (v:=.bool (false)) rfl (fun _ _=>oa _) ?_
 intro wd1 hC2
 refine anz ?_
 refine wq ?_
 refine Wq rfl hC2 ?_
 refine qv (v:=v_x0) rfl (fun _ _=>om _) ?_
 refine qv (v:=.pointer (some (p_x1))) rfl (fun _ _=>om _) ?_
 refine qv (v:=.pointer (some (p_x1))) rfl (fun _ _=>op_nilCheck rfl) ?_
 refine qv (v:=.pointer (some (p_x1.add 3))) rfl (fun _ _=>op_fieldAddrP u27z rfl info22 ne22 rfl rfl) ?_
 refine qv (v:=z12) rfl (fun _ hC=>oldz u22z rfl rfl ((At.keep0 a_x1 (hB.trans hC)).cell (j:=3) rfl)) ?_
 refine qv (v:=.int .i64 (x2)) rfl (fun _ _=>om _) ?_
 obtain ⟨e3,hx4e,ho⟩:=bs ho
 have hx4:=idx_some hx4e
 refine qv (v:=.pointer (some (elA (z12) 1 (x2)))) rfl (fun _ hC=>op_indexI u22z info2 sz2 rfl (kp _ z25 (hB.trans hC)) rfl hx4.1 hx4.2) ?_
 refine qv (v:=.int .i64 (e3)) rfl (fun _ hC=>oldz u2z rfl rfl (int_get (kp _ z25 (hB.trans hC)) hx4.1 hx4.2)) ?_
 obtain ⟨y5,hy6,ho⟩:=bs ho
 refine QL.call (v:=.bool (y5)) rfl (fun _ _=>op_callF Tryz.func126 rfl rfl) (fun _ hC=>(impl_has_calls (kp _ h_x0 (hB.trans hC)) hy6).mono fun _ _ h=>⟨h.1,hC.trans h.2⟩) ?_
 refine qv (v:=.bool (y5)) rfl (fun _ _=>oa _) ?_
 intro wd7 hC8
 refine anz ?_
 cases ho
 exact W_ret ⟨_,res_1 Tryz.results67,rfl,(hB.trans hC8)⟩

noncomputable def impl_LeastTopology_1 (x0:Int) (x1:(List Int)) (x2:MCategory):Option (Bool):=
 retM (S:=Unit) ((impl_sieve_isGreatest x1 x2 (x0))>>=fun y3=>(some (Out.ret (y3))))
abbrev impl_LeastTopology_1_post (w:World) (x:(Bool)) (e:Ending) (w':World):Prop:=e = .returned (.bool x)∧Chg [] w w'
abbrev impl_LeastTopology_1_T (w:World) (x:(Bool)) (r:Nat→Value) (w':World):Prop:=∃ v,(∀ a:Act,a.tmps.size=9→rho a=r→(results Tryz.f66 a.tmps).run Tryz.prog w' = .ok v w')∧impl_LeastTopology_1_post w x (.returned v) w'
theorem impl_LeastTopology_1_calls {w:World} {x0:Int} {x1:(List Int)} {v_x1:Value} {f_x1:List Nat} {x2:MCategory} {p_x2:Addr} {z2j:Value} {z2x:List Nat} {z2k:Value} {z2y:List Nat} {z2l:Value} {z30:List Nat} {z2m:Value} {z31:List Nat} (h_x1:(sImm (sInt .i64)).rep w.heap [v_x1] x1 f_x1) (z32:(sImm (sInt .i64)).rep w.heap [z2j] x2.From z2x) (z33:(sImm (sInt .i64)).rep w.heap [z2k] x2.To z2y) (z34:(sImm (sInt .i64)).rep w.heap [z2l] x2.Identity z30) (z35:(sImm (sImm (sInt .i64))).rep w.heap [z2m] x2.Composites z31) (a_x2:At w p_x2 [.int .i64 (x2.Objects),z2j,z2k,z2l,z2m]) {y:(Bool)} (hm:impl_LeastTopology_1 x0 x1 x2=some y) :
  Calls Tryz.prog 66 #[.int .i64 (x0),v_x1,.pointer (some (p_x2))] w (impl_LeastTopology_1_post w y):=by
 refine calls_of_M (S:=Unit) (args:=[.int .i64 (x0),v_x1,.pointer (some (p_x2))]) Tryz.func66 rfl Tryz.ntmps66 (Nat.le_of_ble_eq_true rfl) (retM_some hm) ?_
 clear hm
 intro o ho
 have hB:Chg [] w w:=cr _ _
 refine wq ?_
 refine Wq rfl (cr [] w) ?_
 refine qv (v:=.bool (false)) rfl (fun _ _=>oa _) ?_
 intro wd1 hC2
 refine anz ?_
 refine wq ?_
 refine Wq rfl hC2 ?_
 refine qv (v:=v_x1) rfl (fun _ _=>om _) ?_
 refine qv (v:=.int .i64 (x0)) rfl (fun _ _=>om _) ?_
 obtain ⟨y3,hy4,ho⟩:=bs ho
 refine QL.call (v:=.bool (y3)) rfl (fun _ _=>op_callF Tryz.func67 rfl rfl) (fun _ hC=>(impl_sieve_isGreatest_calls (kp _ h_x1 (hB.trans hC)) (kp _ z32 (hB.trans hC)) (kp _ z33 (hB.trans hC)) (kp _ z34 (hB.trans hC)) (kp _ z35 (hB.trans hC)) (At.keep0 a_x2 (hB.trans hC)) hy4).mono fun _ _ h=>⟨h.1,hC.trans h.2⟩) ?_
 refine qv (v:=.bool (y3)) rfl (fun _ _=>oa _) ?_
 intro wd5 hC6
 refine anz ?_
 cases ho
 exact W_ret ⟨_,res_1 Tryz.results66,rfl,(hB.trans hC6)⟩

noncomputable def impl_Category_arrows (x0:MCategory):Option (Int):=
 retM (S:=Unit) (some (Out.ret (((x0.From.length:Int)))))
abbrev impl_Category_arrows_post (w:World) (x:(Int)) (e:Ending) (w':World):Prop:=e = .returned (.int .i64 x)∧Chg [] w w'
abbrev impl_Category_arrows_T (w:World) (x:(Int)) (r:Nat→Value) (w':World):Prop:=∃ v,(∀ a:Act,a.tmps.size=8→rho a=r→(results Tryz.f140 a.tmps).run Tryz.prog w' = .ok v w')∧impl_Category_arrows_post w x (.returned v) w'
theorem impl_Category_arrows_calls {w:World} {x0:MCategory} {p_x0:Addr} {z6:Value} {zh:List Nat} {z7:Value} {zg:List Nat} {z9:Value} {zf:List Nat} {z8:Value} {ze:List Nat} (za:(sImm (sInt .i64)).rep w.heap [z6] x0.From zh) (zb:(sImm (sInt .i64)).rep w.heap [z7] x0.To zg) (zd:(sImm (sInt .i64)).rep w.heap [z9] x0.Identity zf) (zc:(sImm (sImm (sInt .i64))).rep w.heap [z8] x0.Composites ze) (a_x0:At w p_x0 [.int .i64 (x0.Objects),z6,z7,z9,z8]) {y:(Int)} (hm:impl_Category_arrows x0=some y) :
  Calls Tryz.prog 140 #[.pointer (some (p_x0))] w (impl_Category_arrows_post w y):=by
 refine calls_of_M (S:=Unit) (args:=[.pointer (some (p_x0))]) Tryz.func140 rfl Tryz.ntmps140 (Nat.le_of_ble_eq_true rfl) (retM_some hm) ?_
 clear hm
 intro o ho
 have hB:Chg [] w w:=cr _ _
 refine wq ?_
 refine Wq rfl (cr [] w) ?_
 refine qv (v:=.int .i64 ((0:Int))) rfl (fun _ _=>oa _) ?_
 intro wd1 hC2
 refine anz ?_
 refine wq ?_
 refine Wq rfl hC2 ?_
 refine qv (v:=.pointer (some (p_x0))) rfl (fun _ _=>om _) ?_
 refine qv (v:=.pointer (some (p_x0))) rfl (fun _ _=>op_nilCheck rfl) ?_
 refine qv (v:=.pointer (some (p_x0.add 1))) rfl (fun _ _=>op_fieldAddrP u27z rfl info22 ne22 rfl rfl) ?_
 refine qv (v:=z6) rfl (fun _ hC=>oldz u22z rfl rfl ((At.keep0 a_x0 (hB.trans hC)).cell (j:=1) rfl)) ?_
 refine qv (v:=.int .i64 ((x0.From.length:Int))) rfl (fun _ hC=>op_lenI u22z (kp _ za (hB.trans hC))) ?_
 refine qv (v:=.int .i64 ((x0.From.length:Int))) rfl (fun _ _=>oa _) ?_
 intro wd3 hC4
 refine anz ?_
 cases ho
 exact W_ret ⟨_,res_1 Tryz.results140,rfl,(hB.trans hC4)⟩

noncomputable def impl_inRange (x0:Int) (x1:Int) (x2:Int):Option (Bool):=
 retM (S:=Unit) (((bif decide (x0 ≥ x1) then (some (decide (x0≤x2))) else (some (false))))>>=fun g3=>(some (Out.ret (g3))))
abbrev impl_inRange_post (w:World) (x:(Bool)) (e:Ending) (w':World):Prop:=e = .returned (.bool x)∧Chg [] w w'
abbrev impl_inRange_T (w:World) (x:(Bool)) (r:Nat→Value) (w':World):Prop:=∃ v,(∀ a:Act,a.tmps.size=15→rho a=r→(results Tryz.f88 a.tmps).run Tryz.prog w' = .ok v w')∧impl_inRange_post w x (.returned v) w'
theorem impl_inRange_calls {w:World} {x0:Int} {x1:Int} {x2:Int}  {y:(Bool)} (hm:impl_inRange x0 x1 x2=some y) :
  Calls Tryz.prog 88 #[.int .i64 (x0),.int .i64 (x1),.int .i64 (x2)] w (impl_inRange_post w y):=by
 refine calls_of_M (S:=Unit) (args:=[.int .i64 (x0),.int .i64 (x1),.int .i64 (x2)]) Tryz.func88 rfl Tryz.ntmps88 (Nat.le_of_ble_eq_true rfl) (retM_some hm) ?_
 clear hm
 intro o ho
 have hB:Chg [] w w:=cr _ _
 refine wq ?_
 refine Wq rfl (cr [] w) ?_
 refine qv (v:=.bool (false)) rfl (fun _ _=>oa _) ?_
 intro wd1 hC2
 refine anz ?_
 refine wq ?_
 refine Wq rfl hC2 ?_
 obtain ⟨g3,hm4,ho⟩:=bs ho
 refine QL.meet (fun r=>∃ F,r=updL F [(6,.bool (g3))]) ?_ ?_
 skip
 refine qv (v:=.int .i64 (x0)) rfl (fun _ _=>om _) ?_
 refine qv (v:=.int .i64 (x1)) rfl (fun _ _=>om _) ?_
 refine qv (v:=.bool (decide (x0 ≥ x1))) rfl (fun _ _=>op_bin rfl rfl bin_geq) ?_
 refine qv (v:=.bool (decide (x0 ≥ x1))) rfl (fun _ _=>om _) ?_
 rcases Bool.eq_false_or_eq_true (decide (x0 ≥ x1)) with hb5 | hb5
 rw [hb5] at hm4
 refine qg (v:=.int .i64 (x0)) rfl (congrArg some hb5) (fun _ _=>om _) ?_
 refine qg (v:=.int .i64 (x2)) rfl (congrArg some hb5) (fun _ _=>om _) ?_
 refine qg (v:=.bool (decide (x0≤x2))) rfl (congrArg some hb5) (fun _ _=>op_bin rfl rfl bin_leq) ?_
 refine qv (v:=.bool (decide (x0≤x2))) rfl (fun _ _=>op_pickT rfl hb5) ?_
 refine qv (v:=.bool (decide (x0≤x2))) rfl (fun _ _=>oa _) ?_
 cases hm4
 exact fr ⟨rfl,trivial⟩
 rw [hb5] at hm4
 refine qs rfl (congrArg some hb5) rfl ?_
 refine qs rfl (congrArg some hb5) rfl ?_
 refine qs rfl (congrArg some hb5) rfl ?_
 refine qv (v:=.bool (false)) rfl (fun _ _=>op_pickF rfl hb5) ?_
 refine qv (v:=.bool (false)) rfl (fun _ _=>oa _) ?_
 cases hm4
 exact fr ⟨rfl,trivial⟩
 rintro _ ⟨F,rfl⟩
 intro wd6 hC7
 refine anz ?_
 cases ho
 exact W_ret ⟨_,res_1 Tryz.results88,rfl,(hB.trans hC7)⟩

noncomputable def impl_within_L0 (x0:(List Int)) (x1:Int) (s0_9:Int):Option (Out (Int) (Bool)):=
 (bif decide (s0_9 < (x0.length:Int)) then ((idx x0 (s0_9))>>=fun e9=>((impl_inRange (e9) ((0:Int)) (w64 (x1 - (1:Int))))>>=fun y13=>(bif !(y13) then (some (Out.ret (false))) else (some (Out.norm (w64 (s0_9 + (1:Int)))))))) else (some (Out.exit 0 (s0_9))))
noncomputable def impl_within (x0:(List Int)) (x1:Int):Option (Bool):=
 retM (S:=Unit) (lbind (blockM 0 (loopM (impl_within_L0 x0 x1) ((0:Int)))) (fun s0_9=>(some (Out.ret (true)))))
abbrev impl_within_post (w:World) (x:(Bool)) (e:Ending) (w':World):Prop:=e = .returned (.bool x)∧Chg [] w w'
abbrev impl_within_T (w:World) (x:(Bool)) (r:Nat→Value) (w':World):Prop:=∃ v,(∀ a:Act,a.tmps.size=19→rho a=r→(results Tryz.f139 a.tmps).run Tryz.prog w' = .ok v w')∧impl_within_post w x (.returned v) w'
theorem impl_within_calls {w:World} {x0:(List Int)} {v_x0:Value} {f_x0:List Nat} {x1:Int} (h_x0:(sImm (sInt .i64)).rep w.heap [v_x0] x0 f_x0) {y:(Bool)} (hm:impl_within x0 x1=some y) :
  Calls Tryz.prog 139 #[v_x0,.int .i64 (x1)] w (impl_within_post w y):=by
 refine calls_of_M (S:=Unit) (args:=[v_x0,.int .i64 (x1)]) Tryz.func139 rfl Tryz.ntmps139 (Nat.le_of_ble_eq_true rfl) (retM_some hm) ?_
 clear hm
 intro o ho
 have hB:Chg [] w w:=cr _ _
 refine wq ?_
 refine Wq rfl (cr [] w) ?_
 refine qv (v:=.bool (false)) rfl (fun _ _=>oa _) ?_
 intro wd1 hC2
 refine anz ?_
 refine wq ?_
 refine wq ?_
 refine Wq rfl hC2 ?_
 refine qv (v:=v_x0) rfl (fun _ _=>om _) ?_
 refine qv (v:=.int .i64 ((x0.length:Int))) rfl (fun _ hC=>op_lenI u22z (kp _ h_x0 (hB.trans hC))) ?_
 refine qv (v:=.int .i64 ((0:Int))) rfl (fun _ _=>om _) ?_
 intro wd3 hC4
 refine anz ?_
 refine W_for (S1:=Int) (fun (s0_9:Int) r w'=>Chg [] w w'∧∃ F,r=updL F [(1,.int .i64 (x1)),(7,v_x0),(8,.int .i64 ((x0.length:Int))),(9,.int .i64 (s0_9))]) (T:=impl_within_T w) ho ⟨(hB.trans hC4),fr ⟨rfl,rfl,rfl,rfl,trivial⟩⟩ ?_ ?_ ?_
 intro x r w' ho hx; subst ho; exact hx
 rintro s0_9 _ wd5 ⟨hB,F,rfl⟩ o ho
 replace ho:impl_within_L0 x0 x1 s0_9=some o:=ho
 unfold impl_within_L0 at ho
 refine wq ?_
 refine Wq rfl (cr [] wd5) ?_
 refine qv (v:=.bool (decide (s0_9 < (x0.length:Int)))) rfl (fun _ _=>op_bin rfl rfl bin_lss) ?_
 intro wd6 hC7
 refine anz ?_
 refine wq ?_
 refine W_cond (b:=decide (s0_9 < (x0.length:Int))) rfl ?_ ?_
 intro hb8
 rw [hb8] at ho
 refine W_skip ?_
 refine anz ?_
 refine wq ?_
 refine W_block ?_
 refine wq ?_
 refine Wq rfl hC7 ?_
 obtain ⟨e9,hx10e,ho⟩:=bs ho
 have hx10:=idx_some hx10e
 refine qv (v:=.pointer (some (elA (v_x0) 1 (s0_9)))) rfl (fun _ hC=>op_indexI u22z info2 sz2 rfl (kp _ h_x0 (hB.trans hC)) rfl hx10.1 hx10.2) ?_
 refine qv (v:=.int .i64 (e9)) rfl (fun _ hC=>oldz u2z rfl rfl (int_get (kp _ h_x0 (hB.trans hC)) hx10.1 hx10.2)) ?_
 refine qv (v:=.int .i64 (e9)) rfl (fun _ _=>oa _) ?_
 intro wd11 hC12
 refine anz ?_
 refine wq ?_
 refine Wq rfl hC12 ?_
 refine qv (v:=.int .i64 (e9)) rfl (fun _ _=>om _) ?_
 refine qv (v:=.int .i64 (x1)) rfl (fun _ _=>om _) ?_
 refine qv (v:=.int .i64 (w64 (x1 - (1:Int)))) rfl (fun _ _=>op_bin rfl rfl bin_sub) ?_
 obtain ⟨y13,hy14,ho⟩:=bs ho
 refine QL.call (v:=.bool (y13)) rfl (fun _ _=>op_callF Tryz.func88 rfl rfl) (fun _ hC=>(impl_inRange_calls  hy14).mono fun _ _ h=>⟨h.1,hC.trans h.2⟩) ?_
 refine qv (v:=.bool (!(y13))) rfl (fun _ _=>op_not rfl) ?_
 intro wd15 hC16
 refine anz ?_
 refine W_cond (b:=!(y13)) rfl ?_ ?_
 intro hb17
 rw [hb17] at ho
 refine wq ?_
 refine Wq rfl hC16 ?_
 refine qv (v:=.bool (false)) rfl (fun _ _=>oa _) ?_
 intro wd18 hC19
 refine anz ?_
 cases ho
 exact W_ret ⟨_,res_1 Tryz.results139,rfl,(hB.trans hC19)⟩
 intro hb17
 rw [hb17] at ho
 refine W_skip ?_
 refine inBlk_n ?_
 refine anz ?_
 refine Wq rfl hC16 ?_
 refine qv (v:=.int .i64 (w64 (s0_9 + (1:Int)))) rfl (fun _ _=>op_bin rfl rfl bin_add) ?_
 refine qv (v:=.int .i64 (w64 (s0_9 + (1:Int)))) rfl (fun _ _=>om _) ?_
 intro wd20 hC21
 cases ho
 exact ⟨(hB.trans hC21),fr ⟨rfl,rfl,rfl,rfl,trivial⟩⟩
 intro hb8
 rw [hb8] at ho
 refine W_exit ?_
 refine andThen_x ?_
 cases ho
 exact ⟨rfl,⟨(hB.trans hC7),fr ⟨rfl,rfl,rfl,rfl,trivial⟩⟩⟩
 rintro s0_9 _ wd22 ⟨hB,F,rfl⟩ ho
 replace ho:=ho
 refine anz ?_
 refine wq ?_
 refine Wq rfl (cr [] wd22) ?_
 refine qv (v:=.bool (true)) rfl (fun _ _=>oa _) ?_
 intro wd23 hC24
 refine anz ?_
 cases ho
 exact W_ret ⟨_,res_1 Tryz.results139,rfl,(hB.trans hC24)⟩

noncomputable def impl_Category_ends (x0:MCategory) (x1:Int):Option (MEnds):=
 retM (S:=Unit) ((idx x0.From (x1))>>=fun e8=>((idx x0.To (x1))>>=fun e10=>(some (Out.ret ((MEnds.mk e8 e10))))))
abbrev impl_Category_ends_post (w:World) (x:(MEnds)) (e:Ending) (w':World):Prop:=e = .returned (.agg #[.int .i64 x.From,.int .i64 x.To])∧Chg [] w w'
abbrev impl_Category_ends_T (w:World) (x:(MEnds)) (r:Nat→Value) (w':World):Prop:=∃ v,(∀ a:Act,a.tmps.size=20→rho a=r→(results Tryz.f184 a.tmps).run Tryz.prog w' = .ok v w')∧impl_Category_ends_post w x (.returned v) w'
theorem impl_Category_ends_calls {w:World} {x0:MCategory} {p_x0:Addr} {z6:Value} {zh:List Nat} {z7:Value} {zg:List Nat} {z9:Value} {zf:List Nat} {z8:Value} {ze:List Nat} {x1:Int} (za:(sImm (sInt .i64)).rep w.heap [z6] x0.From zh) (zb:(sImm (sInt .i64)).rep w.heap [z7] x0.To zg) (zd:(sImm (sInt .i64)).rep w.heap [z9] x0.Identity zf) (zc:(sImm (sImm (sInt .i64))).rep w.heap [z8] x0.Composites ze) (a_x0:At w p_x0 [.int .i64 (x0.Objects),z6,z7,z9,z8]) {y:(MEnds)} (hm:impl_Category_ends x0 x1=some y) :
  Calls Tryz.prog 184 #[.pointer (some (p_x0)),.int .i64 (x1)] w (impl_Category_ends_post w y):=by
 refine calls_of_M (S:=Unit) (args:=[.pointer (some (p_x0)),.int .i64 (x1)]) Tryz.func184 rfl Tryz.ntmps184 (Nat.le_of_ble_eq_true rfl) (retM_some hm) ?_
 clear hm
 intro o ho
 have hB:Chg [] w w:=cr _ _
 refine wq ?_
 refine W_region rfl ?_
 refine WL.alloc info196 zr196 fun b1 wd2 hC3 hr4 hl5=>?_
 replace hr4:Row wd2 b1 [.int .i64 ((0:Int)),.int .i64 ((0:Int))] 196:=hr4
 have lo6:w.heap.size≤b1:=Nat.le_trans (hB.trans (cr [] w)).size hl5
 have hT7:=(cr [] w).trans hC3
 replace hB:=(hB.trans hT7)
 refine anz ?_
 refine wq ?_
 obtain ⟨e8,hx9e,ho⟩:=bs ho
 have hx9:=idx_some hx9e
 obtain ⟨e10,hx11e,ho⟩:=bs ho
 have hx11:=idx_some hx11e
 refine W_any (m:=14) (U:=[[],[],[],[],[],[],[],[],[],[],[],[],[],[]]) (S:=[⟨true,pl fun _ _ u=>u=(.pointer (some (p_x0)):Value)⟩,⟨true,pl fun _ _ u=>u=(.pointer (some (p_x0)):Value)⟩,⟨true,pl fun _ _ u=>u=(.pointer (some (p_x0.add 1)):Value)⟩,⟨true,pl fun _ _ u=>u=(z6:Value)⟩,⟨true,pl fun _ _ u=>u=(.int .i64 (x1):Value)⟩,⟨true,pl fun _ _ u=>u=(.pointer (some (elA (z6) 1 (x1))):Value)⟩,⟨true,pl fun _ _ u=>u=(.int .i64 (e8):Value)⟩,⟨true,pl fun _ _ u=>u=(.pointer (some (p_x0)):Value)⟩,⟨true,pl fun _ _ u=>u=(.pointer (some (p_x0)):Value)⟩,⟨true,pl fun _ _ u=>u=(.pointer (some (p_x0.add 2)):Value)⟩,⟨true,pl fun _ _ u=>u=(z7:Value)⟩,⟨true,pl fun _ _ u=>u=(.int .i64 (x1):Value)⟩,⟨true,pl fun _ _ u=>u=(.pointer (some (elA (z7) 1 (x1))):Value)⟩,⟨true,pl fun _ _ u=>u=(.int .i64 (e10):Value)⟩]) (Z:=[]) hmix rfl (by decide) (by decide +kernel) (fun _ _ _ h=>np_out h) (by decide) rfl (by decide +kernel) (stable_all <| stable_cons stable_val (stable_cons stable_val (stable_cons stable_val (stable_cons stable_val (stable_cons stable_val (stable_cons stable_val (stable_cons stable_val (stable_cons stable_val (stable_cons stable_val (stable_cons stable_val (stable_cons stable_val (stable_cons stable_val (stable_cons stable_val (stable_cons stable_val ( stable_nil))))))))))))))) ?_ ?_
 refine owes_cons ?_ ( owes_cons ?_ ( owes_cons ?_ ( owes_cons ?_ ( owes_cons ?_ ( owes_cons ?_ ( owes_cons ?_ ( owes_cons ?_ ( owes_cons ?_ ( owes_cons ?_ ( owes_cons ?_ ( owes_cons ?_ ( owes_cons ?_ ( owes_cons ?_ ( owes_nil))))))))))))))
 refine Owes.val rfl rfl rfl ?_
 intro g r wr hCr H hot
 have hC:=(cr [] wd2).trans hCr
 obtain ⟨F,rfl⟩:=fr (r:=r) (l:=[(0,.pointer (some (p_x0)))]) ⟨(hot 0 (by decide)),trivial⟩
 exact om _
 refine Owes.val rfl rfl rfl ?_
 intro g r wr hCr H hot
 have hC:=(cr [] wd2).trans hCr
 obtain ⟨F,rfl⟩:=fr (r:=r) (l:=[(5,.pointer (some (p_x0)))]) ⟨(H 0 (by decide +kernel) 5 rfl),trivial⟩
 exact op_nilCheck rfl
 refine Owes.val rfl rfl rfl ?_
 intro g r wr hCr H hot
 have hC:=(cr [] wd2).trans hCr
 obtain ⟨F,rfl⟩:=fr (r:=r) (l:=[(6,.pointer (some (p_x0)))]) ⟨(H 1 (by decide +kernel) 6 rfl),trivial⟩
 exact op_fieldAddrP u27z rfl info22 ne22 rfl rfl
 refine Owes.val rfl rfl rfl ?_
 intro g r wr hCr H hot
 have hC:=(cr [] wd2).trans hCr
 obtain ⟨F,rfl⟩:=fr (r:=r) (l:=[(7,.pointer (some (p_x0.add 1)))]) ⟨(H 2 (by decide +kernel) 7 rfl),trivial⟩
 exact oldz u22z rfl rfl ((At.keep0 a_x0 (hB.trans hC)).cell (j:=1) rfl)
 refine Owes.val rfl rfl rfl ?_
 intro g r wr hCr H hot
 have hC:=(cr [] wd2).trans hCr
 obtain ⟨F,rfl⟩:=fr (r:=r) (l:=[(1,.int .i64 (x1))]) ⟨(hot 1 (by decide)),trivial⟩
 exact om _
 refine Owes.val rfl rfl rfl ?_
 intro g r wr hCr H hot
 have hC:=(cr [] wd2).trans hCr
 obtain ⟨F,rfl⟩:=fr (r:=r) (l:=[(8,z6),(9,.int .i64 (x1))]) ⟨(H 3 (by decide +kernel) 8 rfl),(H 4 (by decide +kernel) 9 rfl),trivial⟩
 exact op_indexI u22z info2 sz2 rfl (kp _ za (hB.trans hC)) rfl hx9.1 hx9.2
 refine Owes.val rfl rfl rfl ?_
 intro g r wr hCr H hot
 have hC:=(cr [] wd2).trans hCr
 obtain ⟨F,rfl⟩:=fr (r:=r) (l:=[(10,.pointer (some (elA (z6) 1 (x1))))]) ⟨(H 5 (by decide +kernel) 10 rfl),trivial⟩
 exact oldz u2z rfl rfl (int_get (kp _ za (hB.trans hC)) hx9.1 hx9.2)
 refine Owes.val rfl rfl rfl ?_
 intro g r wr hCr H hot
 have hC:=(cr [] wd2).trans hCr
 obtain ⟨F,rfl⟩:=fr (r:=r) (l:=[(0,.pointer (some (p_x0)))]) ⟨(hot 0 (by decide)),trivial⟩
 exact om _
 refine Owes.val rfl rfl rfl ?_
 intro g r wr hCr H hot
 have hC:=(cr [] wd2).trans hCr
 obtain ⟨F,rfl⟩:=fr (r:=r) (l:=[(12,.pointer (some (p_x0)))]) ⟨(H 7 (by decide +kernel) 12 rfl),trivial⟩
 exact op_nilCheck rfl
 refine Owes.val rfl rfl rfl ?_
 intro g r wr hCr H hot
 have hC:=(cr [] wd2).trans hCr
 obtain ⟨F,rfl⟩:=fr (r:=r) (l:=[(13,.pointer (some (p_x0)))]) ⟨(H 8 (by decide +kernel) 13 rfl),trivial⟩
 exact op_fieldAddrP u27z rfl info22 ne22 rfl rfl
 refine Owes.val rfl rfl rfl ?_
 intro g r wr hCr H hot
 have hC:=(cr [] wd2).trans hCr
 obtain ⟨F,rfl⟩:=fr (r:=r) (l:=[(14,.pointer (some (p_x0.add 2)))]) ⟨(H 9 (by decide +kernel) 14 rfl),trivial⟩
 exact oldz u22z rfl rfl ((At.keep0 a_x0 (hB.trans hC)).cell (j:=2) rfl)
 refine Owes.val rfl rfl rfl ?_
 intro g r wr hCr H hot
 have hC:=(cr [] wd2).trans hCr
 obtain ⟨F,rfl⟩:=fr (r:=r) (l:=[(1,.int .i64 (x1))]) ⟨(hot 1 (by decide)),trivial⟩
 exact om _
 refine Owes.val rfl rfl rfl ?_
 intro g r wr hCr H hot
 have hC:=(cr [] wd2).trans hCr
 obtain ⟨F,rfl⟩:=fr (r:=r) (l:=[(15,z7),(16,.int .i64 (x1))]) ⟨(H 10 (by decide +kernel) 15 rfl),(H 11 (by decide +kernel) 16 rfl),trivial⟩
 exact op_indexI u22z info2 sz2 rfl (kp _ zb (hB.trans hC)) rfl hx11.1 hx11.2
 refine Owes.val rfl rfl rfl ?_
 intro g r wr hCr H hot
 have hC:=(cr [] wd2).trans hCr
 obtain ⟨F,rfl⟩:=fr (r:=r) (l:=[(17,.pointer (some (elA (z7) 1 (x1))))]) ⟨(H 12 (by decide +kernel) 17 rfl),trivial⟩
 exact oldz u2z rfl rfl (int_get (kp _ zb (hB.trans hC)) hx11.1 hx11.2)
 rintro g r wd12 ⟨hC13,hdone,hot,hfresh,hdis⟩
 have hdd:=hdis
 obtain ⟨F,rfl⟩:=fr (r:=r) (l:=[(4,.pointer (some (⟨b1,0,none⟩))),(11,.int .i64 (e8)),(18,.int .i64 (e10))]) ⟨(hot 4 (by decide)),(hdone 6 (by decide) (by decide) 11 rfl),(hdone 13 (by decide) (by decide) 18 rfl),trivial⟩
 have hT14:=((cr [] wd2).trans hC13)
 replace hr4:=kr hr4 hT14
 replace hB:=(hB.trans hT14)
 refine wv (v:=.agg #[.int .i64 (e8),.int .i64 (e10)]) rfl (op_build (bld196_0_1 rfl rfl)) ?_
 refine WL.storeAll (us:=[.int .i64 (e8),.int .i64 (e10)]) info196 (by rw [sz196]; rfl) (kr hr4 (cr [] wd12)) rfl rfl rfl (by intro u hu; simp only [List.mem_cons,List.mem_nil_iff,or_false] at hu; rcases hu with rfl | rfl <;> first | exact rfl) fun wd15 hC16 hr17=>?_
 replace hr17:Row wd15 b1 [.int .i64 (e8),.int .i64 (e10)] 196:=hr17
 have hT18:=((cr [] wd12).nil (G:=[b1])).trans hC16
 replace hB:=hB.then hT18 (one_then lo6)
 refine anz ?_
 cases ho
 exact W_ret ⟨_,res_c Tryz.results184 Tryz.underlying196 rfl info196 (by rw [sz196]; rfl) rfl (kr hr17 (cr [] wd15)).at,rfl,(hB.trans (cr [] wd15))⟩
end Go.Proofs.YtfbijbginbjecaaGreat
