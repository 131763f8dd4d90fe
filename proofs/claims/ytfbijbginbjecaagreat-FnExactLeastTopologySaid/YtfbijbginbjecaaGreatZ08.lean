/- Walks, printed by a program: what each function computes (a model on plain data), and that a call computes it. No condition beside those that each theorem names. -/
import Derived.Test.YtfbijbginbjecaaGreatTy
import Derived.Test.YtfbijbginbjecaaGreatZ00
import Derived.Test.YtfbijbginbjecaaGreatZ03
import Derived.Test.YtfbijbginbjecaaGreatZ06
import Derived.Test.YtfbijbginbjecaaGreatZ07
namespace Go.Proofs.YtfbijbginbjecaaGreat
open Go Go.Li
set_option linter.unusedVariables false
set_option maxHeartbeats 4000000
set_option maxRecDepth 100000
noncomputable def laws_FnExactLeastTopology (x0:MCategory):Option (Bool):=
 retM (S:=Unit) ((laws_szCategory x0 ((1048576:Int)))>>=fun y10=>(bif decide (y10 < (0:Int)) then (some (Out.ret (true))) else ((laws_toCategory x0)>>=fun y19=>((spec_LeastTopology y19)>>=fun y46=>((laws_toCategory x0)>>=fun y122=>((impl_LeastTopology y122)>>=fun y215=>((((laws_eqTopology y215.1 y46.1)>>=fun y359=>(bif !(y359) then (some (true)) else (some ((y215.2) != (y46.2))))))>>=fun g357=>(bif g357 then (some (Out.ret (false))) else ((laws_toCategory x0)>>=fun y367=>((laws_eqCategory y122 y367)>>=fun y476=>(bif !(y476) then (some (Out.ret (false))) else ((laws_markCategory y122 ((1:Int)))>>=fun y486=>(((bif decide (y486.1 < (0:Int)) then (some (true)) else ((laws_eqTopology y215.1 y46.1)>>=fun y596=>(bif !(y596) then (some (true)) else (some ((y215.2) != (y46.2)))))))>>=fun g593=>(bif g593 then (some (Out.ret (false))) else ((laws_markTopology y215.1 ((1:Int)))>>=fun y607=>((laws_heldTopology (MTopology.mk (MCategory.mk y215.1.Shape.Objects y607.2.1 y607.2.2.1 y607.2.2.2.1 y607.2.2.2.2.1) y607.2.2.2.2.2) ((1:Int)))>>=fun y739=>(bif decide (y739 < (0:Int)) then (some (Out.ret (false))) else (bif (y739) != (y607.1) then (some (Out.ret (false))) else ((laws_toCategory x0)>>=fun y753=>((impl_LeastTopology y753)>>=fun y880=>((((laws_eqTopology y880.1 y46.1)>>=fun y1108=>(bif !(y1108) then (some (true)) else (some ((y880.2) != (y46.2))))))>>=fun g1106=>(bif g1106 then (some (Out.ret (false))) else ((laws_heldTopology (MTopology.mk (MCategory.mk y215.1.Shape.Objects y607.2.1 y607.2.2.1 y607.2.2.2.1 y607.2.2.2.2.1) y607.2.2.2.2.2) ((1:Int)))>>=fun y1118=>(bif decide (y1118 < (0:Int)) then (some (Out.ret (false))) else (bif (y1118) != (y607.1) then (some (Out.ret (false))) else (some (Out.ret (true))))))))))))))))))))))))))))
abbrev laws_FnExactLeastTopology_post (w:World) (x:(Bool)) (e:Ending) (w':World):Prop:=e = .returned (.bool x)∧Chg [] w w'
abbrev laws_FnExactLeastTopology_T (w:World) (x:(Bool)) (r:Nat→Value) (w':World):Prop:=∃ v,(∀ a:Act,a.tmps.size=96→rho a=r→(results Tryz.f3 a.tmps).run Tryz.prog w' = .ok v w')∧laws_FnExactLeastTopology_post w x (.returned v) w'
theorem laws_FnExactLeastTopology_calls {w:World} {x0:MCategory} {z6:Value} {zh:List Nat} {z7:Value} {zg:List Nat} {z9:Value} {zf:List Nat} {z8:Value} {ze:List Nat} (za:(sImm (sInt .i64)).rep w.heap [z6] x0.From zh) (zb:(sImm (sInt .i64)).rep w.heap [z7] x0.To zg) (zd:(sImm (sInt .i64)).rep w.heap [z9] x0.Identity zf) (zc:(sImm (sImm (sInt .i64))).rep w.heap [z8] x0.Composites ze) {y:(Bool)} (hm:laws_FnExactLeastTopology x0=some y) :
  Calls Tryz.prog 3 #[.agg #[.int .i64 (x0.Objects),z6,z7,z9,z8]] w (laws_FnExactLeastTopology_post w y):=by
 refine calls_of_M (S:=Unit) (args:=[.agg #[.int .i64 (x0.Objects),z6,z7,z9,z8]]) Tryz.func3 rfl Tryz.ntmps3 (Nat.le_of_ble_eq_true rfl) (retM_some hm) ?_
 clear hm
 intro o ho
 have hB:Chg [] w w:=cr _ _
 refine wq ?_
 refine W_region rfl ?_
 refine WL.box fun b1 wd2 hC3 hr4 hl5=>?_
 replace hr4:Row wd2 b1 [.int .i64 (x0.Objects),z6,z7,z9,z8] 25:=hr4
 have hT7:=(cr [] w).trans hC3
 replace hB:=(hB.trans hT7)
 refine wv (v:=.bool (false)) rfl (oa _) ?_
 refine anz ?_
 refine wq ?_
 refine Wq rfl (cr [] wd2) ?_
 refine qv (v:=.int .i64 ((1048576:Int))) rfl (fun _ _=>oa _) ?_
 intro wd8 hC9
 refine anz ?_
 refine wq ?_
 refine Wq rfl hC9 ?_
 refine qv (v:=.agg #[.int .i64 (x0.Objects),z6,z7,z9,z8]) rfl (fun _ hC=>op_loadAgg u25z rfl info25 (by rw [sz25]; rfl) rfl (kr hr4 hC).at) ?_
 refine qv (v:=.int .i64 ((1048576:Int))) rfl (fun _ _=>om _) ?_
 obtain ⟨y10,hy11,ho⟩:=bs ho
 refine QL.call (v:=.int .i64 (y10)) rfl (fun _ _=>op_callF Tryz.func15 rfl rfl) (fun _ hC=>(laws_szCategory_calls (kp _ za (hB.trans hC)) (kp _ zb (hB.trans hC)) (kp _ zd (hB.trans hC)) (kp _ zc (hB.trans hC)) hy11).mono fun _ _ h=>⟨h.1,hC.trans h.2⟩) ?_
 refine qv (v:=.int .i64 (y10)) rfl (fun _ _=>oa _) ?_
 intro wd12 hC13
 refine anz ?_
 refine wq ?_
 refine wq ?_
 refine Wq rfl hC13 ?_
 refine qv (v:=.int .i64 (y10)) rfl (fun _ _=>om _) ?_
 refine qv (v:=.bool (decide (y10 < (0:Int)))) rfl (fun _ _=>op_bin rfl rfl bin_lss) ?_
 intro wd14 hC15
 refine anz ?_
 refine W_cond (b:=decide (y10 < (0:Int))) rfl ?_ ?_
 intro hb16
 rw [hb16] at ho
 refine wq ?_
 refine Wq rfl hC15 ?_
 refine qv (v:=.bool (true)) rfl (fun _ _=>oa _) ?_
 intro wd17 hC18
 refine anz ?_
 cases ho
 exact W_ret ⟨_,res_1 Tryz.results3,rfl,(hB.trans hC18)⟩
 intro hb16
 rw [hb16] at ho
 refine W_skip ?_
 refine anz ?_
 refine wq ?_
 refine W_region rfl ?_
 refine wv (v:=.agg #[.int .i64 (x0.Objects),z6,z7,z9,z8]) rfl (op_loadAgg u25z rfl info25 (by rw [sz25]; rfl) rfl (kr hr4 hC15).at) ?_
 obtain ⟨y19,hy20,ho⟩:=bs ho
 refine WL.call rfl (op_callF Tryz.func17 rfl rfl) (laws_toCategory_calls (kp _ za (hB.trans hC15)) (kp _ zb (hB.trans hC15)) (kp _ zd (hB.trans hC15)) (kp _ zc (hB.trans hC15)) hy20) ?_
 rintro _ wd21 ⟨v23,f24,v26,f27,v29,f30,v32,f33,rfl,hC22,o25,o28,o31,o34,d35,d36,d37,d38,d39,d40⟩
 refine ⟨_,rfl,?_⟩
 replace o25:=OE.low (G:=[]) o25 (hB.trans hC15).size
 replace o28:=OE.low (G:=[]) o28 (hB.trans hC15).size
 replace o31:=OE.low (G:=[]) o31 (hB.trans hC15).size
 replace o34:=OE.low (G:=[]) o34 (hB.trans hC15).size
 have hT45:=hC15.trans hC22
 replace hr4:=kr hr4 hT45
 replace hB:=(hB.trans hT45)
 obtain ⟨y46,hy47,ho⟩:=bs ho
 refine WL.call rfl (op_callF Tryz.func16 rfl rfl) (spec_LeastTopology_calls ((Le.own (Le.refl _) 2).le (kp _ o25.1 (cr [] wd21))) ((Le.own (Le.refl _) 2).le (kp _ o28.1 (cr [] wd21))) ((Le.own (Le.refl _) 2).le (kp _ o31.1 (cr [] wd21))) ((Le.own (Le.own (Le.refl _) 2) 22).le (kp _ o34.1 (cr [] wd21))) hy47) ?_
 rintro _ wd48 ⟨v50,f51,v53,f54,v56,f57,v59,f60,v62,f63,rfl,hC49,o52,o55,o58,o61,o64,d65,d66,d67,d68,d69,d70,d71,d72,d73,d74⟩
 refine ⟨_,rfl,?_⟩
 replace o52:=OE.low (G:=[]) o52 (hB.trans (cr [] wd21)).size
 replace o55:=OE.low (G:=[]) o55 (hB.trans (cr [] wd21)).size
 replace o58:=OE.low (G:=[]) o58 (hB.trans (cr [] wd21)).size
 replace o61:=OE.low (G:=[]) o61 (hB.trans (cr [] wd21)).size
 replace o64:=OE.low (G:=[]) o64 (hB.trans (cr [] wd21)).size
 have hT100:=(cr [] wd21).trans hC49
 replace hr4:=kr hr4 hT100
 replace o25:=ko o25 hT100
 replace o28:=ko o28 hT100
 replace o31:=ko o31 hT100
 replace o34:=ko o34 hT100
 replace hB:=(hB.trans hT100)
 refine wv (v:=.tuple #[.agg #[.int .i64 (y46.1.Shape.Objects),v50,v53,v56,v59,v62],.int .i64 (y46.2)]) rfl (om _) ?_
 refine wv (v:=.agg #[.int .i64 (y46.1.Shape.Objects),v50,v53,v56,v59,v62]) rfl (op_extract rfl rfl) ?_
 refine wv (v:=.int .i64 (y46.2)) rfl (op_extract rfl rfl) ?_
 refine WL.alloc info30 zr30 fun b101 wd102 hC103 hr104 hl105=>?_
 replace hr104:Row wd102 b101 [.int .i64 ((0:Int)),.slice none 0 0,.slice none 0 0,.slice none 0 0,.slice none 0 0,.slice none 0 0] 30:=hr104
 have lo106:w.heap.size≤b101:=Nat.le_trans (hB.trans (cr [] wd48)).size hl105
 have d107:Dis [b101] [b1]:=dl (onw hl105) (one_lt (Row.lt (kr hr4 (cr [] wd48))))
 have d108:Dis [b101] f24:=dl (onw hl105) (sl _ (kp _ o25.1 (cr [] wd48)))
 have d109:Dis [b101] f27:=dl (onw hl105) (sl _ (kp _ o28.1 (cr [] wd48)))
 have d110:Dis [b101] f30:=dl (onw hl105) (sl _ (kp _ o31.1 (cr [] wd48)))
 have d111:Dis [b101] f33:=dl (onw hl105) (sl _ (kp _ o34.1 (cr [] wd48)))
 have d112:Dis [b101] f51:=dl (onw hl105) (sl _ (kp _ o52.1 (cr [] wd48)))
 have d113:Dis [b101] f54:=dl (onw hl105) (sl _ (kp _ o55.1 (cr [] wd48)))
 have d114:Dis [b101] f57:=dl (onw hl105) (sl _ (kp _ o58.1 (cr [] wd48)))
 have d115:Dis [b101] f60:=dl (onw hl105) (sl _ (kp _ o61.1 (cr [] wd48)))
 have d116:Dis [b101] f63:=dl (onw hl105) (sl _ (kp _ o64.1 (cr [] wd48)))
 have hT117:=(cr [] wd48).trans hC103
 replace hr4:=kr hr4 hT117
 replace o25:=ko o25 hT117
 replace o28:=ko o28 hT117
 replace o31:=ko o31 hT117
 replace o34:=ko o34 hT117
 replace o52:=ko o52 hT117
 replace o55:=ko o55 hT117
 replace o58:=ko o58 hT117
 replace o61:=ko o61 hT117
 replace o64:=ko o64 hT117
 replace hB:=(hB.trans hT117)
 refine WL.storeAll (us:=[.int .i64 (y46.1.Shape.Objects),v50,v53,v56,v59,v62]) info30 (by rw [sz30]; rfl) (kr hr104 (cr [] wd102)) rfl rfl rfl (by intro u hu; simp only [List.mem_cons,List.mem_nil_iff,or_false] at hu; rcases hu with rfl | rfl | rfl | rfl | rfl | rfl <;> first | exact rfl | exact (STy.one _ o52.1 _ (ms rfl)) | exact (STy.one _ o55.1 _ (ms rfl)) | exact (STy.one _ o58.1 _ (ms rfl)) | exact (STy.one _ o61.1 _ (ms rfl)) | exact (STy.one _ o64.1 _ (ms rfl))) fun wd118 hC119 hr120=>?_
 replace hr120:Row wd118 b101 [.int .i64 (y46.1.Shape.Objects),v50,v53,v56,v59,v62] 30:=hr120
 have hT121:=((cr [] wd102).nil (G:=[b101])).trans hC119
 replace hr4:=Row.keep hr4 hT121 ((d107).symm _ (ms rfl))
 replace o25:=okp o25 hT121 (d108).symm
 replace o28:=okp o28 hT121 (d109).symm
 replace o31:=okp o31 hT121 (d110).symm
 replace o34:=okp o34 hT121 (d111).symm
 replace o52:=okp o52 hT121 (d112).symm
 replace o55:=okp o55 hT121 (d113).symm
 replace o58:=okp o58 hT121 (d114).symm
 replace o61:=okp o61 hT121 (d115).symm
 replace o64:=okp o64 hT121 (d116).symm
 replace hB:=hB.then hT121 (one_then lo106)
 refine wv (v:=.int .i64 (y46.2)) rfl (oa _) ?_
 refine anz ?_
 refine wq ?_
 refine W_region rfl ?_
 refine wv (v:=.agg #[.int .i64 (x0.Objects),z6,z7,z9,z8]) rfl (op_loadAgg u25z rfl info25 (by rw [sz25]; rfl) rfl (kr hr4 (cr [] wd118)).at) ?_
 obtain ⟨y122,hy123,ho⟩:=bs ho
 refine WL.call rfl (op_callF Tryz.func17 rfl rfl) (laws_toCategory_calls (kp _ za (hB.trans (cr [] wd118))) (kp _ zb (hB.trans (cr [] wd118))) (kp _ zd (hB.trans (cr [] wd118))) (kp _ zc (hB.trans (cr [] wd118))) hy123) ?_
 rintro _ wd124 ⟨v126,f127,v129,f130,v132,f133,v135,f136,rfl,hC125,o128,o131,o134,o137,d138,d139,d140,d141,d142,d143⟩
 refine ⟨_,rfl,?_⟩
 have d144:Dis f127 [b1]:=dl (ofr o128) (one_lt (Row.lt (kr hr4 (cr [] wd118))))
 have d145:Dis f127 f24:=dl (ofr o128) (sl _ (kp _ o25.1 (cr [] wd118)))
 have d146:Dis f127 f27:=dl (ofr o128) (sl _ (kp _ o28.1 (cr [] wd118)))
 have d147:Dis f127 f30:=dl (ofr o128) (sl _ (kp _ o31.1 (cr [] wd118)))
 have d148:Dis f127 f33:=dl (ofr o128) (sl _ (kp _ o34.1 (cr [] wd118)))
 have d149:Dis f127 f51:=dl (ofr o128) (sl _ (kp _ o52.1 (cr [] wd118)))
 have d150:Dis f127 f54:=dl (ofr o128) (sl _ (kp _ o55.1 (cr [] wd118)))
 have d151:Dis f127 f57:=dl (ofr o128) (sl _ (kp _ o58.1 (cr [] wd118)))
 have d152:Dis f127 f60:=dl (ofr o128) (sl _ (kp _ o61.1 (cr [] wd118)))
 have d153:Dis f127 f63:=dl (ofr o128) (sl _ (kp _ o64.1 (cr [] wd118)))
 have d154:Dis f127 [b101]:=dl (ofr o128) (one_lt (Row.lt (kr hr120 (cr [] wd118))))
 replace o128:=OE.low (G:=[]) o128 (hB.trans (cr [] wd118)).size
 have d155:Dis f130 [b1]:=dl (ofr o131) (one_lt (Row.lt (kr hr4 (cr [] wd118))))
 have d156:Dis f130 f24:=dl (ofr o131) (sl _ (kp _ o25.1 (cr [] wd118)))
 have d157:Dis f130 f27:=dl (ofr o131) (sl _ (kp _ o28.1 (cr [] wd118)))
 have d158:Dis f130 f30:=dl (ofr o131) (sl _ (kp _ o31.1 (cr [] wd118)))
 have d159:Dis f130 f33:=dl (ofr o131) (sl _ (kp _ o34.1 (cr [] wd118)))
 have d160:Dis f130 f51:=dl (ofr o131) (sl _ (kp _ o52.1 (cr [] wd118)))
 have d161:Dis f130 f54:=dl (ofr o131) (sl _ (kp _ o55.1 (cr [] wd118)))
 have d162:Dis f130 f57:=dl (ofr o131) (sl _ (kp _ o58.1 (cr [] wd118)))
 have d163:Dis f130 f60:=dl (ofr o131) (sl _ (kp _ o61.1 (cr [] wd118)))
 have d164:Dis f130 f63:=dl (ofr o131) (sl _ (kp _ o64.1 (cr [] wd118)))
 have d165:Dis f130 [b101]:=dl (ofr o131) (one_lt (Row.lt (kr hr120 (cr [] wd118))))
 replace o131:=OE.low (G:=[]) o131 (hB.trans (cr [] wd118)).size
 have d166:Dis f133 [b1]:=dl (ofr o134) (one_lt (Row.lt (kr hr4 (cr [] wd118))))
 have d167:Dis f133 f24:=dl (ofr o134) (sl _ (kp _ o25.1 (cr [] wd118)))
 have d168:Dis f133 f27:=dl (ofr o134) (sl _ (kp _ o28.1 (cr [] wd118)))
 have d169:Dis f133 f30:=dl (ofr o134) (sl _ (kp _ o31.1 (cr [] wd118)))
 have d170:Dis f133 f33:=dl (ofr o134) (sl _ (kp _ o34.1 (cr [] wd118)))
 have d171:Dis f133 f51:=dl (ofr o134) (sl _ (kp _ o52.1 (cr [] wd118)))
 have d172:Dis f133 f54:=dl (ofr o134) (sl _ (kp _ o55.1 (cr [] wd118)))
 have d173:Dis f133 f57:=dl (ofr o134) (sl _ (kp _ o58.1 (cr [] wd118)))
 have d174:Dis f133 f60:=dl (ofr o134) (sl _ (kp _ o61.1 (cr [] wd118)))
 have d175:Dis f133 f63:=dl (ofr o134) (sl _ (kp _ o64.1 (cr [] wd118)))
 have d176:Dis f133 [b101]:=dl (ofr o134) (one_lt (Row.lt (kr hr120 (cr [] wd118))))
 replace o134:=OE.low (G:=[]) o134 (hB.trans (cr [] wd118)).size
 have d177:Dis f136 [b1]:=dl (ofr o137) (one_lt (Row.lt (kr hr4 (cr [] wd118))))
 have d178:Dis f136 f24:=dl (ofr o137) (sl _ (kp _ o25.1 (cr [] wd118)))
 have d179:Dis f136 f27:=dl (ofr o137) (sl _ (kp _ o28.1 (cr [] wd118)))
 have d180:Dis f136 f30:=dl (ofr o137) (sl _ (kp _ o31.1 (cr [] wd118)))
 have d181:Dis f136 f33:=dl (ofr o137) (sl _ (kp _ o34.1 (cr [] wd118)))
 have d182:Dis f136 f51:=dl (ofr o137) (sl _ (kp _ o52.1 (cr [] wd118)))
 have d183:Dis f136 f54:=dl (ofr o137) (sl _ (kp _ o55.1 (cr [] wd118)))
 have d184:Dis f136 f57:=dl (ofr o137) (sl _ (kp _ o58.1 (cr [] wd118)))
 have d185:Dis f136 f60:=dl (ofr o137) (sl _ (kp _ o61.1 (cr [] wd118)))
 have d186:Dis f136 f63:=dl (ofr o137) (sl _ (kp _ o64.1 (cr [] wd118)))
 have d187:Dis f136 [b101]:=dl (ofr o137) (one_lt (Row.lt (kr hr120 (cr [] wd118))))
 replace o137:=OE.low (G:=[]) o137 (hB.trans (cr [] wd118)).size
 have hT188:=(cr [] wd118).trans hC125
 replace hr4:=kr hr4 hT188
 replace o25:=ko o25 hT188
 replace o28:=ko o28 hT188
 replace o31:=ko o31 hT188
 replace o34:=ko o34 hT188
 replace o52:=ko o52 hT188
 replace o55:=ko o55 hT188
 replace o58:=ko o58 hT188
 replace o61:=ko o61 hT188
 replace o64:=ko o64 hT188
 replace hr120:=kr hr120 hT188
 replace hB:=(hB.trans hT188)
 refine WL.alloc info27 zr27 fun b189 wd190 hC191 hr192 hl193=>?_
 replace hr192:Row wd190 b189 [.int .i64 ((0:Int)),.slice none 0 0,.slice none 0 0,.slice none 0 0,.slice none 0 0] 27:=hr192
 have lo194:w.heap.size≤b189:=Nat.le_trans (hB.trans (cr [] wd124)).size hl193
 have d195:Dis [b189] [b1]:=dl (onw hl193) (one_lt (Row.lt (kr hr4 (cr [] wd124))))
 have d196:Dis [b189] f24:=dl (onw hl193) (sl _ (kp _ o25.1 (cr [] wd124)))
 have d197:Dis [b189] f27:=dl (onw hl193) (sl _ (kp _ o28.1 (cr [] wd124)))
 have d198:Dis [b189] f30:=dl (onw hl193) (sl _ (kp _ o31.1 (cr [] wd124)))
 have d199:Dis [b189] f33:=dl (onw hl193) (sl _ (kp _ o34.1 (cr [] wd124)))
 have d200:Dis [b189] f51:=dl (onw hl193) (sl _ (kp _ o52.1 (cr [] wd124)))
 have d201:Dis [b189] f54:=dl (onw hl193) (sl _ (kp _ o55.1 (cr [] wd124)))
 have d202:Dis [b189] f57:=dl (onw hl193) (sl _ (kp _ o58.1 (cr [] wd124)))
 have d203:Dis [b189] f60:=dl (onw hl193) (sl _ (kp _ o61.1 (cr [] wd124)))
 have d204:Dis [b189] f63:=dl (onw hl193) (sl _ (kp _ o64.1 (cr [] wd124)))
 have d205:Dis [b189] [b101]:=dl (onw hl193) (one_lt (Row.lt (kr hr120 (cr [] wd124))))
 have d206:Dis [b189] f127:=dl (onw hl193) (sl _ (kp _ o128.1 (cr [] wd124)))
 have d207:Dis [b189] f130:=dl (onw hl193) (sl _ (kp _ o131.1 (cr [] wd124)))
 have d208:Dis [b189] f133:=dl (onw hl193) (sl _ (kp _ o134.1 (cr [] wd124)))
 have d209:Dis [b189] f136:=dl (onw hl193) (sl _ (kp _ o137.1 (cr [] wd124)))
 have hT210:=(cr [] wd124).trans hC191
 replace hr4:=kr hr4 hT210
 replace o25:=ko o25 hT210
 replace o28:=ko o28 hT210
 replace o31:=ko o31 hT210
 replace o34:=ko o34 hT210
 replace o52:=ko o52 hT210
 replace o55:=ko o55 hT210
 replace o58:=ko o58 hT210
 replace o61:=ko o61 hT210
 replace o64:=ko o64 hT210
 replace hr120:=kr hr120 hT210
 replace o128:=ko o128 hT210
 replace o131:=ko o131 hT210
 replace o134:=ko o134 hT210
 replace o137:=ko o137 hT210
 replace hB:=(hB.trans hT210)
 refine WL.storeAll (us:=[.int .i64 (y122.Objects),v126,v129,v132,v135]) info27 (by rw [sz27]; rfl) (kr hr192 (cr [] wd190)) rfl rfl rfl (by intro u hu; simp only [List.mem_cons,List.mem_nil_iff,or_false] at hu; rcases hu with rfl | rfl | rfl | rfl | rfl <;> first | exact rfl | exact (STy.one _ o128.1 _ (ms rfl)) | exact (STy.one _ o131.1 _ (ms rfl)) | exact (STy.one _ o134.1 _ (ms rfl)) | exact (STy.one _ o137.1 _ (ms rfl))) fun wd211 hC212 hr213=>?_
 replace hr213:Row wd211 b189 [.int .i64 (y122.Objects),v126,v129,v132,v135] 27:=hr213
 have hT214:=((cr [] wd190).nil (G:=[b189])).trans hC212
 replace hr4:=Row.keep hr4 hT214 ((d195).symm _ (ms rfl))
 replace o25:=okp o25 hT214 (d196).symm
 replace o28:=okp o28 hT214 (d197).symm
 replace o31:=okp o31 hT214 (d198).symm
 replace o34:=okp o34 hT214 (d199).symm
 replace o52:=okp o52 hT214 (d200).symm
 replace o55:=okp o55 hT214 (d201).symm
 replace o58:=okp o58 hT214 (d202).symm
 replace o61:=okp o61 hT214 (d203).symm
 replace o64:=okp o64 hT214 (d204).symm
 replace hr120:=Row.keep hr120 hT214 ((d205).symm _ (ms rfl))
 replace o128:=okp o128 hT214 (d206).symm
 replace o131:=okp o131 hT214 (d207).symm
 replace o134:=okp o134 hT214 (d208).symm
 replace o137:=okp o137 hT214 (d209).symm
 replace hB:=hB.then hT214 (one_then lo194)
 refine anz ?_
 refine wq ?_
 refine W_region rfl ?_
 refine wv (v:=.agg #[.int .i64 (y122.Objects),v126,v129,v132,v135]) rfl (op_loadAgg u27z rfl info27 (by rw [sz27]; rfl) rfl (kr hr213 (cr [] wd211)).at) ?_
 obtain ⟨y215,hy216,ho⟩:=bs ho
 refine WL.call rfl (op_callF Tryz.func18 rfl rfl) (impl_LeastTopology_calls ((Le.own (Le.refl _) 2).le (kp _ o128.1 (cr [] wd211))) ((Le.own (Le.refl _) 2).le (kp _ o131.1 (cr [] wd211))) ((Le.own (Le.refl _) 2).le (kp _ o134.1 (cr [] wd211))) ((Le.own (Le.own (Le.refl _) 2) 22).le (kp _ o137.1 (cr [] wd211))) hy216) ?_
 rintro _ wd217 ⟨v219,f220,v222,f223,v225,f226,v228,f229,v231,f232,rfl,hC218,o221,o224,o227,o230,o233,d234,d235,d236,d237,d238,d239,d240,d241,d242,d243⟩
 refine ⟨_,rfl,?_⟩
 have d244:Dis f220 [b1]:=dl (ofr o221) (one_lt (Row.lt (kr hr4 (cr [] wd211))))
 have d245:Dis f220 f24:=dl (ofr o221) (sl _ (kp _ o25.1 (cr [] wd211)))
 have d246:Dis f220 f27:=dl (ofr o221) (sl _ (kp _ o28.1 (cr [] wd211)))
 have d247:Dis f220 f30:=dl (ofr o221) (sl _ (kp _ o31.1 (cr [] wd211)))
 have d248:Dis f220 f33:=dl (ofr o221) (sl _ (kp _ o34.1 (cr [] wd211)))
 have d249:Dis f220 f51:=dl (ofr o221) (sl _ (kp _ o52.1 (cr [] wd211)))
 have d250:Dis f220 f54:=dl (ofr o221) (sl _ (kp _ o55.1 (cr [] wd211)))
 have d251:Dis f220 f57:=dl (ofr o221) (sl _ (kp _ o58.1 (cr [] wd211)))
 have d252:Dis f220 f60:=dl (ofr o221) (sl _ (kp _ o61.1 (cr [] wd211)))
 have d253:Dis f220 f63:=dl (ofr o221) (sl _ (kp _ o64.1 (cr [] wd211)))
 have d254:Dis f220 [b101]:=dl (ofr o221) (one_lt (Row.lt (kr hr120 (cr [] wd211))))
 have d255:Dis f220 f127:=dl (ofr o221) (sl _ (kp _ o128.1 (cr [] wd211)))
 have d256:Dis f220 f130:=dl (ofr o221) (sl _ (kp _ o131.1 (cr [] wd211)))
 have d257:Dis f220 f133:=dl (ofr o221) (sl _ (kp _ o134.1 (cr [] wd211)))
 have d258:Dis f220 f136:=dl (ofr o221) (sl _ (kp _ o137.1 (cr [] wd211)))
 have d259:Dis f220 [b189]:=dl (ofr o221) (one_lt (Row.lt (kr hr213 (cr [] wd211))))
 replace o221:=OE.low (G:=[]) o221 (hB.trans (cr [] wd211)).size
 have d260:Dis f223 [b1]:=dl (ofr o224) (one_lt (Row.lt (kr hr4 (cr [] wd211))))
 have d261:Dis f223 f24:=dl (ofr o224) (sl _ (kp _ o25.1 (cr [] wd211)))
 have d262:Dis f223 f27:=dl (ofr o224) (sl _ (kp _ o28.1 (cr [] wd211)))
 have d263:Dis f223 f30:=dl (ofr o224) (sl _ (kp _ o31.1 (cr [] wd211)))
 have d264:Dis f223 f33:=dl (ofr o224) (sl _ (kp _ o34.1 (cr [] wd211)))
 have d265:Dis f223 f51:=dl (ofr o224) (sl _ (kp _ o52.1 (cr [] wd211)))
 have d266:Dis f223 f54:=dl (ofr o224) (sl _ (kp _ o55.1 (cr [] wd211)))
 have d267:Dis f223 f57:=dl (ofr o224) (sl _ (kp _ o58.1 (cr [] wd211)))
 have d268:Dis f223 f60:=dl (ofr o224) (sl _ (kp _ o61.1 (cr [] wd211)))
 have d269:Dis f223 f63:=dl (ofr o224) (sl _ (kp _ o64.1 (cr [] wd211)))
 have d270:Dis f223 [b101]:=dl (ofr o224) (one_lt (Row.lt (kr hr120 (cr [] wd211))))
 have d271:Dis f223 f127:=dl (ofr o224) (sl _ (kp _ o128.1 (cr [] wd211)))
 have d272:Dis f223 f130:=dl (ofr o224) (sl _ (kp _ o131.1 (cr [] wd211)))
 have d273:Dis f223 f133:=dl (ofr o224) (sl _ (kp _ o134.1 (cr [] wd211)))
 have d274:Dis f223 f136:=dl (ofr o224) (sl _ (kp _ o137.1 (cr [] wd211)))
 have d275:Dis f223 [b189]:=dl (ofr o224) (one_lt (Row.lt (kr hr213 (cr [] wd211))))
 replace o224:=OE.low (G:=[]) o224 (hB.trans (cr [] wd211)).size
 have d276:Dis f226 [b1]:=dl (ofr o227) (one_lt (Row.lt (kr hr4 (cr [] wd211))))
 have d277:Dis f226 f24:=dl (ofr o227) (sl _ (kp _ o25.1 (cr [] wd211)))
 have d278:Dis f226 f27:=dl (ofr o227) (sl _ (kp _ o28.1 (cr [] wd211)))
 have d279:Dis f226 f30:=dl (ofr o227) (sl _ (kp _ o31.1 (cr [] wd211)))
 have d280:Dis f226 f33:=dl (ofr o227) (sl _ (kp _ o34.1 (cr [] wd211)))
 have d281:Dis f226 f51:=dl (ofr o227) (sl _ (kp _ o52.1 (cr [] wd211)))
 have d282:Dis f226 f54:=dl (ofr o227) (sl _ (kp _ o55.1 (cr [] wd211)))
 have d283:Dis f226 f57:=dl (ofr o227) (sl _ (kp _ o58.1 (cr [] wd211)))
 have d284:Dis f226 f60:=dl (ofr o227) (sl _ (kp _ o61.1 (cr [] wd211)))
 have d285:Dis f226 f63:=dl (ofr o227) (sl _ (kp _ o64.1 (cr [] wd211)))
 have d286:Dis f226 [b101]:=dl (ofr o227) (one_lt (Row.lt (kr hr120 (cr [] wd211))))
 have d287:Dis f226 f127:=dl (ofr o227) (sl _ (kp _ o128.1 (cr [] wd211)))
 have d288:Dis f226 f130:=dl (ofr o227) (sl _ (kp _ o131.1 (cr [] wd211)))
 have d289:Dis f226 f133:=dl (ofr o227) (sl _ (kp _ o134.1 (cr [] wd211)))
 have d290:Dis f226 f136:=dl (ofr o227) (sl _ (kp _ o137.1 (cr [] wd211)))
 have d291:Dis f226 [b189]:=dl (ofr o227) (one_lt (Row.lt (kr hr213 (cr [] wd211))))
 replace o227:=OE.low (G:=[]) o227 (hB.trans (cr [] wd211)).size
 have d292:Dis f229 [b1]:=dl (ofr o230) (one_lt (Row.lt (kr hr4 (cr [] wd211))))
 have d293:Dis f229 f24:=dl (ofr o230) (sl _ (kp _ o25.1 (cr [] wd211)))
 have d294:Dis f229 f27:=dl (ofr o230) (sl _ (kp _ o28.1 (cr [] wd211)))
 have d295:Dis f229 f30:=dl (ofr o230) (sl _ (kp _ o31.1 (cr [] wd211)))
 have d296:Dis f229 f33:=dl (ofr o230) (sl _ (kp _ o34.1 (cr [] wd211)))
 have d297:Dis f229 f51:=dl (ofr o230) (sl _ (kp _ o52.1 (cr [] wd211)))
 have d298:Dis f229 f54:=dl (ofr o230) (sl _ (kp _ o55.1 (cr [] wd211)))
 have d299:Dis f229 f57:=dl (ofr o230) (sl _ (kp _ o58.1 (cr [] wd211)))
 have d300:Dis f229 f60:=dl (ofr o230) (sl _ (kp _ o61.1 (cr [] wd211)))
 have d301:Dis f229 f63:=dl (ofr o230) (sl _ (kp _ o64.1 (cr [] wd211)))
 have d302:Dis f229 [b101]:=dl (ofr o230) (one_lt (Row.lt (kr hr120 (cr [] wd211))))
 have d303:Dis f229 f127:=dl (ofr o230) (sl _ (kp _ o128.1 (cr [] wd211)))
 have d304:Dis f229 f130:=dl (ofr o230) (sl _ (kp _ o131.1 (cr [] wd211)))
 have d305:Dis f229 f133:=dl (ofr o230) (sl _ (kp _ o134.1 (cr [] wd211)))
 have d306:Dis f229 f136:=dl (ofr o230) (sl _ (kp _ o137.1 (cr [] wd211)))
 have d307:Dis f229 [b189]:=dl (ofr o230) (one_lt (Row.lt (kr hr213 (cr [] wd211))))
 replace o230:=OE.low (G:=[]) o230 (hB.trans (cr [] wd211)).size
 have d308:Dis f232 [b1]:=dl (ofr o233) (one_lt (Row.lt (kr hr4 (cr [] wd211))))
 have d309:Dis f232 f24:=dl (ofr o233) (sl _ (kp _ o25.1 (cr [] wd211)))
 have d310:Dis f232 f27:=dl (ofr o233) (sl _ (kp _ o28.1 (cr [] wd211)))
 have d311:Dis f232 f30:=dl (ofr o233) (sl _ (kp _ o31.1 (cr [] wd211)))
 have d312:Dis f232 f33:=dl (ofr o233) (sl _ (kp _ o34.1 (cr [] wd211)))
 have d313:Dis f232 f51:=dl (ofr o233) (sl _ (kp _ o52.1 (cr [] wd211)))
 have d314:Dis f232 f54:=dl (ofr o233) (sl _ (kp _ o55.1 (cr [] wd211)))
 have d315:Dis f232 f57:=dl (ofr o233) (sl _ (kp _ o58.1 (cr [] wd211)))
 have d316:Dis f232 f60:=dl (ofr o233) (sl _ (kp _ o61.1 (cr [] wd211)))
 have d317:Dis f232 f63:=dl (ofr o233) (sl _ (kp _ o64.1 (cr [] wd211)))
 have d318:Dis f232 [b101]:=dl (ofr o233) (one_lt (Row.lt (kr hr120 (cr [] wd211))))
 have d319:Dis f232 f127:=dl (ofr o233) (sl _ (kp _ o128.1 (cr [] wd211)))
 have d320:Dis f232 f130:=dl (ofr o233) (sl _ (kp _ o131.1 (cr [] wd211)))
 have d321:Dis f232 f133:=dl (ofr o233) (sl _ (kp _ o134.1 (cr [] wd211)))
 have d322:Dis f232 f136:=dl (ofr o233) (sl _ (kp _ o137.1 (cr [] wd211)))
 have d323:Dis f232 [b189]:=dl (ofr o233) (one_lt (Row.lt (kr hr213 (cr [] wd211))))
 replace o233:=OE.low (G:=[]) o233 (hB.trans (cr [] wd211)).size
 have hT324:=(cr [] wd211).trans hC218
 replace hr4:=kr hr4 hT324
 replace o25:=ko o25 hT324
 replace o28:=ko o28 hT324
 replace o31:=ko o31 hT324
 replace o34:=ko o34 hT324
 replace o52:=ko o52 hT324
 replace o55:=ko o55 hT324
 replace o58:=ko o58 hT324
 replace o61:=ko o61 hT324
 replace o64:=ko o64 hT324
 replace hr120:=kr hr120 hT324
 replace o128:=ko o128 hT324
 replace o131:=ko o131 hT324
 replace o134:=ko o134 hT324
 replace o137:=ko o137 hT324
 replace hr213:=kr hr213 hT324
 replace hB:=(hB.trans hT324)
 refine wv (v:=.tuple #[.agg #[.int .i64 (y215.1.Shape.Objects),v219,v222,v225,v228,v231],.int .i64 (y215.2)]) rfl (om _) ?_
 refine wv (v:=.agg #[.int .i64 (y215.1.Shape.Objects),v219,v222,v225,v228,v231]) rfl (op_extract rfl rfl) ?_
 refine wv (v:=.int .i64 (y215.2)) rfl (op_extract rfl rfl) ?_
 refine WL.alloc info30 zr30 fun b325 wd326 hC327 hr328 hl329=>?_
 replace hr328:Row wd326 b325 [.int .i64 ((0:Int)),.slice none 0 0,.slice none 0 0,.slice none 0 0,.slice none 0 0,.slice none 0 0] 30:=hr328
 have lo330:w.heap.size≤b325:=Nat.le_trans (hB.trans (cr [] wd217)).size hl329
 have d331:Dis [b325] [b1]:=dl (onw hl329) (one_lt (Row.lt (kr hr4 (cr [] wd217))))
 have d332:Dis [b325] f24:=dl (onw hl329) (sl _ (kp _ o25.1 (cr [] wd217)))
 have d333:Dis [b325] f27:=dl (onw hl329) (sl _ (kp _ o28.1 (cr [] wd217)))
 have d334:Dis [b325] f30:=dl (onw hl329) (sl _ (kp _ o31.1 (cr [] wd217)))
 have d335:Dis [b325] f33:=dl (onw hl329) (sl _ (kp _ o34.1 (cr [] wd217)))
 have d336:Dis [b325] f51:=dl (onw hl329) (sl _ (kp _ o52.1 (cr [] wd217)))
 have d337:Dis [b325] f54:=dl (onw hl329) (sl _ (kp _ o55.1 (cr [] wd217)))
 have d338:Dis [b325] f57:=dl (onw hl329) (sl _ (kp _ o58.1 (cr [] wd217)))
 have d339:Dis [b325] f60:=dl (onw hl329) (sl _ (kp _ o61.1 (cr [] wd217)))
 have d340:Dis [b325] f63:=dl (onw hl329) (sl _ (kp _ o64.1 (cr [] wd217)))
 have d341:Dis [b325] [b101]:=dl (onw hl329) (one_lt (Row.lt (kr hr120 (cr [] wd217))))
 have d342:Dis [b325] f127:=dl (onw hl329) (sl _ (kp _ o128.1 (cr [] wd217)))
 have d343:Dis [b325] f130:=dl (onw hl329) (sl _ (kp _ o131.1 (cr [] wd217)))
 have d344:Dis [b325] f133:=dl (onw hl329) (sl _ (kp _ o134.1 (cr [] wd217)))
 have d345:Dis [b325] f136:=dl (onw hl329) (sl _ (kp _ o137.1 (cr [] wd217)))
 have d346:Dis [b325] [b189]:=dl (onw hl329) (one_lt (Row.lt (kr hr213 (cr [] wd217))))
 have d347:Dis [b325] f220:=dl (onw hl329) (sl _ (kp _ o221.1 (cr [] wd217)))
 have d348:Dis [b325] f223:=dl (onw hl329) (sl _ (kp _ o224.1 (cr [] wd217)))
 have d349:Dis [b325] f226:=dl (onw hl329) (sl _ (kp _ o227.1 (cr [] wd217)))
 have d350:Dis [b325] f229:=dl (onw hl329) (sl _ (kp _ o230.1 (cr [] wd217)))
 have d351:Dis [b325] f232:=dl (onw hl329) (sl _ (kp _ o233.1 (cr [] wd217)))
 have hT352:=(cr [] wd217).trans hC327
 replace hr4:=kr hr4 hT352
 replace o25:=ko o25 hT352
 replace o28:=ko o28 hT352
 replace o31:=ko o31 hT352
 replace o34:=ko o34 hT352
 replace o52:=ko o52 hT352
 replace o55:=ko o55 hT352
 replace o58:=ko o58 hT352
 replace o61:=ko o61 hT352
 replace o64:=ko o64 hT352
 replace hr120:=kr hr120 hT352
 replace o128:=ko o128 hT352
 replace o131:=ko o131 hT352
 replace o134:=ko o134 hT352
 replace o137:=ko o137 hT352
 replace hr213:=kr hr213 hT352
 replace o221:=ko o221 hT352
 replace o224:=ko o224 hT352
 replace o227:=ko o227 hT352
 replace o230:=ko o230 hT352
 replace o233:=ko o233 hT352
 replace hB:=(hB.trans hT352)
 refine WL.storeAll (us:=[.int .i64 (y215.1.Shape.Objects),v219,v222,v225,v228,v231]) info30 (by rw [sz30]; rfl) (kr hr328 (cr [] wd326)) rfl rfl rfl (by intro u hu; simp only [List.mem_cons,List.mem_nil_iff,or_false] at hu; rcases hu with rfl | rfl | rfl | rfl | rfl | rfl <;> first | exact rfl | exact (STy.one _ o221.1 _ (ms rfl)) | exact (STy.one _ o224.1 _ (ms rfl)) | exact (STy.one _ o227.1 _ (ms rfl)) | exact (STy.one _ o230.1 _ (ms rfl)) | exact (STy.one _ o233.1 _ (ms rfl))) fun wd353 hC354 hr355=>?_
 replace hr355:Row wd353 b325 [.int .i64 (y215.1.Shape.Objects),v219,v222,v225,v228,v231] 30:=hr355
 have hT356:=((cr [] wd326).nil (G:=[b325])).trans hC354
 replace hr4:=Row.keep hr4 hT356 ((d331).symm _ (ms rfl))
 replace o25:=okp o25 hT356 (d332).symm
 replace o28:=okp o28 hT356 (d333).symm
 replace o31:=okp o31 hT356 (d334).symm
 replace o34:=okp o34 hT356 (d335).symm
 replace o52:=okp o52 hT356 (d336).symm
 replace o55:=okp o55 hT356 (d337).symm
 replace o58:=okp o58 hT356 (d338).symm
 replace o61:=okp o61 hT356 (d339).symm
 replace o64:=okp o64 hT356 (d340).symm
 replace hr120:=Row.keep hr120 hT356 ((d341).symm _ (ms rfl))
 replace o128:=okp o128 hT356 (d342).symm
 replace o131:=okp o131 hT356 (d343).symm
 replace o134:=okp o134 hT356 (d344).symm
 replace o137:=okp o137 hT356 (d345).symm
 replace hr213:=Row.keep hr213 hT356 ((d346).symm _ (ms rfl))
 replace o221:=okp o221 hT356 (d347).symm
 replace o224:=okp o224 hT356 (d348).symm
 replace o227:=okp o227 hT356 (d349).symm
 replace o230:=okp o230 hT356 (d350).symm
 replace o233:=okp o233 hT356 (d351).symm
 replace hB:=hB.then hT356 (one_then lo330)
 refine wv (v:=.int .i64 (y215.2)) rfl (oa _) ?_
 refine anz ?_
 refine wq ?_
 refine wq ?_
 refine Wq rfl (cr [] wd353) ?_
 obtain ⟨g357,hm358,ho⟩:=bs ho
 refine QL.meet (fun r=>∃ F,r=updL F [(1,.pointer (some (⟨b1,0,none⟩))),(4,.pointer (some (⟨b101,0,none⟩))),(5,.int .i64 (y46.2)),(6,.pointer (some (⟨b189,0,none⟩))),(7,.pointer (some (⟨b325,0,none⟩))),(8,.int .i64 (y215.2)),(40,.bool (g357))]) ?_ ?_
 skip
 refine qv (v:=.agg #[.int .i64 (y215.1.Shape.Objects),v219,v222,v225,v228,v231]) rfl (fun _ hC=>op_loadAgg u30 rfl info30 (by rw [sz30]; rfl) rfl (kr hr355 hC).at) ?_
 refine qv (v:=.agg #[.int .i64 (y46.1.Shape.Objects),v50,v53,v56,v59,v62]) rfl (fun _ hC=>op_loadAgg u30 rfl info30 (by rw [sz30]; rfl) rfl (kr hr120 hC).at) ?_
 obtain ⟨y359,hy360,hm358⟩:=bs hm358
 refine QL.call (v:=.bool (y359)) rfl (fun _ _=>op_callF Tryz.func19 rfl rfl) (fun _ hC=>(laws_eqTopology_calls ((Le.own (Le.refl _) 2).le (kp _ o221.1 hC)) ((Le.own (Le.refl _) 2).le (kp _ o224.1 hC)) ((Le.own (Le.refl _) 2).le (kp _ o227.1 hC)) ((Le.own (Le.own (Le.refl _) 2) 22).le (kp _ o230.1 hC)) ((Le.own (Le.own (Le.own (Le.refl _) 2) 22) 23).le (kp _ o233.1 hC)) ((Le.own (Le.refl _) 2).le (kp _ o52.1 hC)) ((Le.own (Le.refl _) 2).le (kp _ o55.1 hC)) ((Le.own (Le.refl _) 2).le (kp _ o58.1 hC)) ((Le.own (Le.own (Le.refl _) 2) 22).le (kp _ o61.1 hC)) ((Le.own (Le.own (Le.own (Le.refl _) 2) 22) 23).le (kp _ o64.1 hC)) hy360).mono fun _ _ h=>⟨h.1,hC.trans h.2⟩) ?_
 refine qv (v:=.bool (!(y359))) rfl (fun _ _=>op_not rfl) ?_
 refine qv (v:=.bool (!(y359))) rfl (fun _ _=>om _) ?_
 rcases Bool.eq_false_or_eq_true (!(y359)) with hb361 | hb361
 rw [hb361] at hm358
 refine qs rfl (congrArg some hb361) rfl ?_
 refine qs rfl (congrArg some hb361) rfl ?_
 refine qs rfl (congrArg some hb361) rfl ?_
 refine qv (v:=.bool (true)) rfl (fun _ _=>op_pickT rfl hb361) ?_
 cases hm358
 exact fr ⟨rfl,rfl,rfl,rfl,rfl,rfl,rfl,trivial⟩
 rw [hb361] at hm358
 refine qg (v:=.int .i64 (y215.2)) rfl (congrArg some hb361) (fun _ _=>om _) ?_
 refine qg (v:=.int .i64 (y46.2)) rfl (congrArg some hb361) (fun _ _=>om _) ?_
 refine qg (v:=.bool ((y215.2) != (y46.2))) rfl (congrArg some hb361) (fun _ _=>op_bin rfl rfl bin_neq) ?_
 refine qv (v:=.bool ((y215.2) != (y46.2))) rfl (fun _ _=>op_pickF rfl hb361) ?_
 cases hm358
 exact fr ⟨rfl,rfl,rfl,rfl,rfl,rfl,rfl,trivial⟩
 rintro _ ⟨F,rfl⟩
 intro wd362 hC363
 refine anz ?_
 refine W_cond (b:=g357) rfl ?_ ?_
 intro hb364
 rw [hb364] at ho
 refine wq ?_
 refine Wq rfl hC363 ?_
 refine qv (v:=.bool (false)) rfl (fun _ _=>oa _) ?_
 intro wd365 hC366
 refine anz ?_
 cases ho
 exact W_ret ⟨_,res_1 Tryz.results3,rfl,(hB.trans hC366)⟩
 intro hb364
 rw [hb364] at ho
 refine W_skip ?_
 refine anz ?_
 refine wq ?_
 refine wq ?_
 obtain ⟨y367,hy368,ho⟩:=bs ho
 refine W_any (m:=3) (U:=[[],[],[]]) (S:=[⟨true,pl fun _ _ u=>u=(.agg #[.int .i64 (y122.Objects),v126,v129,v132,v135]:Value)⟩,⟨true,pl fun _ _ u=>u=(.agg #[.int .i64 (x0.Objects),z6,z7,z9,z8]:Value)⟩,⟨true,pl (fun f w v=>∃ (v369:Value) (f370:List Nat) (v372:Value) (f373:List Nat) (v375:Value) (f376:List Nat) (v378:Value) (f379:List Nat),v = .agg #[.int .i64 (y367.Objects),v369,v372,v375,v378]∧f=(f370++(f373++(f376++f379)))∧(sOwn 2 (sInt .i64)).rep w.heap [v369] (y367.From) f370∧(sOwn 2 (sInt .i64)).rep w.heap [v372] (y367.To) f373∧(sOwn 2 (sInt .i64)).rep w.heap [v375] (y367.Identity) f376∧(sOwn 22 (sOwn 2 (sInt .i64))).rep w.heap [v378] (y367.Composites) f379∧List.Nodup ((f370++(f373++(f376++f379)))))⟩]) (Z:=[]) hmix rfl (by decide) (by decide +kernel) (fun _ _ _ h=>np_out h) (by decide) rfl (by decide +kernel) (stable_all <| stable_cons stable_val (stable_cons stable_val (stable_cons (stable_pl <| by rintro f F w w' v hC hn ⟨v369,f370,v372,f373,v375,f376,v378,f379,e1_,e2_,ho371,ho374,ho377,ho380,hnd⟩; exact ⟨v369,f370,v372,f373,v375,f376,v378,f379,e1_,e2_,STy.keep _ ho371 hC (fun b hb=>hn b (by rw [e2_]; simp [hb])),STy.keep _ ho374 hC (fun b hb=>hn b (by rw [e2_]; simp [hb])),STy.keep _ ho377 hC (fun b hb=>hn b (by rw [e2_]; simp [hb])),STy.keep _ ho380 hC (fun b hb=>hn b (by rw [e2_]; simp [hb])),hnd⟩) ( stable_nil)))) ?_ ?_
 refine owes_cons ?_ ( owes_cons ?_ ( owes_cons ?_ ( owes_nil)))
 refine Owes.val rfl rfl rfl ?_
 intro g r wr hCr H hot
 have hC:=hC363.trans hCr
 obtain ⟨F,rfl⟩:=fr (r:=r) (l:=[(6,.pointer (some (⟨b189,0,none⟩)))]) ⟨(hot 6 (by decide)),trivial⟩
 exact op_loadAgg u27z rfl info27 (by rw [sz27]; rfl) rfl (kr hr213 hC).at
 refine Owes.val rfl rfl rfl ?_
 intro g r wr hCr H hot
 have hC:=hC363.trans hCr
 obtain ⟨F,rfl⟩:=fr (r:=r) (l:=[(1,.pointer (some (⟨b1,0,none⟩)))]) ⟨(hot 1 (by decide)),trivial⟩
 exact op_loadAgg u25z rfl info25 (by rw [sz25]; rfl) rfl (kr hr4 hC).at
 refine Owes.mem rfl rfl rfl ?_
 intro g r wr hCr H hot
 have hC:=hC363.trans hCr
 obtain ⟨F,rfl⟩:=fr (r:=r) (l:=[(42,.agg #[.int .i64 (x0.Objects),z6,z7,z9,z8])]) ⟨(H 1 (by decide +kernel) 42 rfl),trivial⟩
 exact OpW.callV (op_callF Tryz.func17 rfl rfl) (laws_toCategory_calls (kp _ za (hB.trans hC)) (kp _ zb (hB.trans hC)) (kp _ zd (hB.trans hC)) (kp _ zc (hB.trans hC)) hy368) fun e w' ⟨v369,f370,v372,f373,v375,f376,v378,f379,he,hC',o371,o374,o377,o380,d0_1,d0_2,d0_3,d1_2,d1_3,d2_3⟩=>⟨_,he,hC',(f370++(f373++(f376++f379))),(fun b hb=>(List.mem_append.1 hb).elim (fun hb=>⟨ofr o371 b hb,sl _ o371.1 b hb⟩) (fun hb=>(List.mem_append.1 hb).elim (fun hb=>⟨ofr o374 b hb,sl _ o374.1 b hb⟩) (fun hb=>(List.mem_append.1 hb).elim (fun hb=>⟨ofr o377 b hb,sl _ o377.1 b hb⟩) (fun hb=>⟨ofr o380 b hb,sl _ o380.1 b hb⟩)))),v369,f370,v372,f373,v375,f376,v378,f379,rfl,rfl,o371.1,o374.1,o377.1,o380.1,(nodup_app o371.2.1 (nodup_app o374.2.1 (nodup_app o377.2.1 o380.2.1 d2_3) (dis_appR d1_2 d1_3)) (dis_appR d0_1 (dis_appR d0_2 d0_3)))⟩
 rintro g r wd381 ⟨hC382,hdone,hot,hfresh,hdis⟩
 obtain ⟨v369,f370,v372,f373,v375,f376,v378,f379,hvo371,hgo371,o371,o374,o377,o380,hno371⟩:=hdone 2 (by decide) (by decide) 43 rfl
 have hfo371:=hfresh 2 (by decide)
 have hdd:=hdis
 obtain ⟨F,rfl⟩:=fr (r:=r) (l:=[(1,.pointer (some (⟨b1,0,none⟩))),(4,.pointer (some (⟨b101,0,none⟩))),(5,.int .i64 (y46.2)),(6,.pointer (some (⟨b189,0,none⟩))),(7,.pointer (some (⟨b325,0,none⟩))),(8,.int .i64 (y215.2)),(41,.agg #[.int .i64 (y122.Objects),v126,v129,v132,v135]),(43,.agg #[.int .i64 (y367.Objects),v369,v372,v375,v378])]) ⟨(hot 1 (by decide)),(hot 4 (by decide)),(hot 5 (by decide)),(hot 6 (by decide)),(hot 7 (by decide)),(hot 8 (by decide)),(hdone 0 (by decide) (by decide) 41 rfl),hvo371,trivial⟩
 have lo383 : ∀ b∈f370,wd362.heap.size≤b:=fun b hb=>(hfo371 b (show b∈g 2 from (show ∀ b∈f370,b∈g 2 from (fun b hb=>(by rw [hgo371]; simp [hb]))) b hb)).1
 replace o371:OE [] w.heap.size wd381 (sOwn 2 (sInt .i64)) [v369] (y367.From) f370:=⟨o371,(List.nodup_append.1 hno371).1,fun b hb=>.inr (Nat.le_trans (hB.trans hC363).size (lo383 b hb))⟩
 have d395:Dis f370 f127:=dl lo383 (sl _ (kp _ o128.1 hC363))
 have d396:Dis f370 f130:=dl lo383 (sl _ (kp _ o131.1 hC363))
 have d397:Dis f370 f133:=dl lo383 (sl _ (kp _ o134.1 hC363))
 have d398:Dis f370 f136:=dl lo383 (sl _ (kp _ o137.1 hC363))
 have d400:Dis f370 f220:=dl lo383 (sl _ (kp _ o221.1 hC363))
 have d401:Dis f370 f223:=dl lo383 (sl _ (kp _ o224.1 hC363))
 have d402:Dis f370 f226:=dl lo383 (sl _ (kp _ o227.1 hC363))
 have d403:Dis f370 f229:=dl lo383 (sl _ (kp _ o230.1 hC363))
 have d404:Dis f370 f232:=dl lo383 (sl _ (kp _ o233.1 hC363))
 have lo406 : ∀ b∈f373,wd362.heap.size≤b:=fun b hb=>(hfo371 b (show b∈g 2 from (show ∀ b∈f373,b∈g 2 from (fun b hb=>(by rw [hgo371]; simp [hb]))) b hb)).1
 replace o374:OE [] w.heap.size wd381 (sOwn 2 (sInt .i64)) [v372] (y367.To) f373:=⟨o374,(List.nodup_append.1 (List.nodup_append.1 hno371).2.1).1,fun b hb=>.inr (Nat.le_trans (hB.trans hC363).size (lo406 b hb))⟩
 have d418:Dis f373 f127:=dl lo406 (sl _ (kp _ o128.1 hC363))
 have d419:Dis f373 f130:=dl lo406 (sl _ (kp _ o131.1 hC363))
 have d420:Dis f373 f133:=dl lo406 (sl _ (kp _ o134.1 hC363))
 have d421:Dis f373 f136:=dl lo406 (sl _ (kp _ o137.1 hC363))
 have d423:Dis f373 f220:=dl lo406 (sl _ (kp _ o221.1 hC363))
 have d424:Dis f373 f223:=dl lo406 (sl _ (kp _ o224.1 hC363))
 have d425:Dis f373 f226:=dl lo406 (sl _ (kp _ o227.1 hC363))
 have d426:Dis f373 f229:=dl lo406 (sl _ (kp _ o230.1 hC363))
 have d427:Dis f373 f232:=dl lo406 (sl _ (kp _ o233.1 hC363))
 have lo429 : ∀ b∈f376,wd362.heap.size≤b:=fun b hb=>(hfo371 b (show b∈g 2 from (show ∀ b∈f376,b∈g 2 from (fun b hb=>(by rw [hgo371]; simp [hb]))) b hb)).1
 replace o377:OE [] w.heap.size wd381 (sOwn 2 (sInt .i64)) [v375] (y367.Identity) f376:=⟨o377,(List.nodup_append.1 (List.nodup_append.1 (List.nodup_append.1 hno371).2.1).2.1).1,fun b hb=>.inr (Nat.le_trans (hB.trans hC363).size (lo429 b hb))⟩
 have d441:Dis f376 f127:=dl lo429 (sl _ (kp _ o128.1 hC363))
 have d442:Dis f376 f130:=dl lo429 (sl _ (kp _ o131.1 hC363))
 have d443:Dis f376 f133:=dl lo429 (sl _ (kp _ o134.1 hC363))
 have d444:Dis f376 f136:=dl lo429 (sl _ (kp _ o137.1 hC363))
 have d446:Dis f376 f220:=dl lo429 (sl _ (kp _ o221.1 hC363))
 have d447:Dis f376 f223:=dl lo429 (sl _ (kp _ o224.1 hC363))
 have d448:Dis f376 f226:=dl lo429 (sl _ (kp _ o227.1 hC363))
 have d449:Dis f376 f229:=dl lo429 (sl _ (kp _ o230.1 hC363))
 have d450:Dis f376 f232:=dl lo429 (sl _ (kp _ o233.1 hC363))
 have lo452 : ∀ b∈f379,wd362.heap.size≤b:=fun b hb=>(hfo371 b (show b∈g 2 from (show ∀ b∈f379,b∈g 2 from (fun b hb=>(by rw [hgo371]; simp [hb]))) b hb)).1
 replace o380:OE [] w.heap.size wd381 (sOwn 22 (sOwn 2 (sInt .i64))) [v378] (y367.Composites) f379:=⟨o380,(List.nodup_append.1 (List.nodup_append.1 (List.nodup_append.1 hno371).2.1).2.1).2.1,fun b hb=>.inr (Nat.le_trans (hB.trans hC363).size (lo452 b hb))⟩
 have d464:Dis f379 f127:=dl lo452 (sl _ (kp _ o128.1 hC363))
 have d465:Dis f379 f130:=dl lo452 (sl _ (kp _ o131.1 hC363))
 have d466:Dis f379 f133:=dl lo452 (sl _ (kp _ o134.1 hC363))
 have d467:Dis f379 f136:=dl lo452 (sl _ (kp _ o137.1 hC363))
 have d469:Dis f379 f220:=dl lo452 (sl _ (kp _ o221.1 hC363))
 have d470:Dis f379 f223:=dl lo452 (sl _ (kp _ o224.1 hC363))
 have d471:Dis f379 f226:=dl lo452 (sl _ (kp _ o227.1 hC363))
 have d472:Dis f379 f229:=dl lo452 (sl _ (kp _ o230.1 hC363))
 have d473:Dis f379 f232:=dl lo452 (sl _ (kp _ o233.1 hC363))
 have hT475:=(hC363.trans hC382)
 replace hr4:=kr hr4 hT475
 replace o25:=ko o25 hT475
 replace o28:=ko o28 hT475
 replace o31:=ko o31 hT475
 replace o34:=ko o34 hT475
 replace o52:=ko o52 hT475
 replace o55:=ko o55 hT475
 replace o58:=ko o58 hT475
 replace o61:=ko o61 hT475
 replace o64:=ko o64 hT475
 replace hr120:=kr hr120 hT475
 replace o128:=ko o128 hT475
 replace o131:=ko o131 hT475
 replace o134:=ko o134 hT475
 replace o137:=ko o137 hT475
 replace hr213:=kr hr213 hT475
 replace o221:=ko o221 hT475
 replace o224:=ko o224 hT475
 replace o227:=ko o227 hT475
 replace o230:=ko o230 hT475
 replace o233:=ko o233 hT475
 replace hr355:=kr hr355 hT475
 replace hB:=(hB.trans hT475)
 obtain ⟨y476,hy477,ho⟩:=bs ho
 refine WL.call rfl (op_callF Tryz.func20 rfl rfl) (laws_eqCategory_calls ((Le.own (Le.refl _) 2).le (kp _ o128.1 (cr [] wd381))) ((Le.own (Le.refl _) 2).le (kp _ o131.1 (cr [] wd381))) ((Le.own (Le.refl _) 2).le (kp _ o134.1 (cr [] wd381))) ((Le.own (Le.own (Le.refl _) 2) 22).le (kp _ o137.1 (cr [] wd381))) ((Le.own (Le.refl _) 2).le (kp _ o371.1 (cr [] wd381))) ((Le.own (Le.refl _) 2).le (kp _ o374.1 (cr [] wd381))) ((Le.own (Le.refl _) 2).le (kp _ o377.1 (cr [] wd381))) ((Le.own (Le.own (Le.refl _) 2) 22).le (kp _ o380.1 (cr [] wd381))) hy477) ?_
 rintro _ wd478 ⟨rfl,hC479⟩
 refine ⟨_,rfl,?_⟩
 refine wv (v:=.bool (!(y476))) rfl (op_not rfl) ?_
 refine anz ?_
 refine W_cond (b:=!(y476)) rfl ?_ ?_
 intro hb480
 rw [hb480] at ho
 refine wq ?_
 refine Wq rfl ((cr [] wd381).trans hC479) ?_
 refine qv (v:=.bool (false)) rfl (fun _ _=>oa _) ?_
 intro wd481 hC482
 refine anz ?_
 cases ho
 exact W_ret ⟨_,res_1 Tryz.results3,rfl,(hB.trans hC482)⟩
 intro hb480
 rw [hb480] at ho
 refine W_skip ?_
 refine anz ?_
 refine wq ?_
 refine Wq rfl ((cr [] wd381).trans hC479) ?_
 refine qv (v:=.int .i64 ((1:Int))) rfl (fun _ _=>oa _) ?_
 intro wd483 hC484
 refine anz ?_
 refine wq ?_
 refine W_region rfl ?_
 refine wv (v:=.agg #[.int .i64 (y122.Objects),v126,v129,v132,v135]) rfl (op_loadAgg u27z rfl info27 (by rw [sz27]; rfl) rfl (kr hr213 hC484).at) ?_
 refine wv (v:=.int .i64 ((1:Int))) rfl (om _) ?_
 have hT485:=hC484.trans (cr [] wd483)
 replace hr4:=kr hr4 hT485
 replace o25:=ko o25 hT485
 replace o28:=ko o28 hT485
 replace o31:=ko o31 hT485
 replace o34:=ko o34 hT485
 replace o52:=ko o52 hT485
 replace o55:=ko o55 hT485
 replace o58:=ko o58 hT485
 replace o61:=ko o61 hT485
 replace o64:=ko o64 hT485
 replace hr120:=kr hr120 hT485
 replace o128:=ko o128 hT485
 replace o131:=ko o131 hT485
 replace o134:=ko o134 hT485
 replace o137:=ko o137 hT485
 replace hr213:=kr hr213 hT485
 replace o221:=ko o221 hT485
 replace o224:=ko o224 hT485
 replace o227:=ko o227 hT485
 replace o230:=ko o230 hT485
 replace o233:=ko o233 hT485
 replace hr355:=kr hr355 hT485
 replace o371:=ko o371 hT485
 replace o374:=ko o374 hT485
 replace o377:=ko o377 hT485
 replace o380:=ko o380 hT485
 replace hB:=(hB.trans hT485)
 obtain ⟨y486,hy487,ho⟩:=bs ho
 refine WL.call rfl (op_callF Tryz.func21 rfl rfl) (laws_markCategory_calls (OE.give (B':=wd483.heap.size) o128 fun _ h=>h) (OE.give (B':=wd483.heap.size) o131 fun _ h=>h) (OE.give (B':=wd483.heap.size) o134 fun _ h=>h) (OE.give (B':=wd483.heap.size) o137 fun _ h=>h) d138 d139 d140 d141 d142 d143 hy487) ?_
 rintro _ wd488 ⟨f490,f492,f494,f496,rfl,hC489,o491,o493,o495,o497,d498,d499,d500,d501,d502,d503⟩
 refine ⟨_,rfl,?_⟩
 have d516:Dis f490 f220:=dis_back o491 (da (d255).symm (da (d256).symm (da (d257).symm (d258).symm))) (sl _ (kp _ o221.1 (cr [] wd483)))
 have d517:Dis f490 f223:=dis_back o491 (da (d271).symm (da (d272).symm (da (d273).symm (d274).symm))) (sl _ (kp _ o224.1 (cr [] wd483)))
 have d518:Dis f490 f226:=dis_back o491 (da (d287).symm (da (d288).symm (da (d289).symm (d290).symm))) (sl _ (kp _ o227.1 (cr [] wd483)))
 have d519:Dis f490 f229:=dis_back o491 (da (d303).symm (da (d304).symm (da (d305).symm (d306).symm))) (sl _ (kp _ o230.1 (cr [] wd483)))
 have d520:Dis f490 f232:=dis_back o491 (da (d319).symm (da (d320).symm (da (d321).symm (d322).symm))) (sl _ (kp _ o233.1 (cr [] wd483)))
 have d538:Dis f492 f220:=dis_back o493 (da (d255).symm (da (d256).symm (da (d257).symm (d258).symm))) (sl _ (kp _ o221.1 (cr [] wd483)))
 have d539:Dis f492 f223:=dis_back o493 (da (d271).symm (da (d272).symm (da (d273).symm (d274).symm))) (sl _ (kp _ o224.1 (cr [] wd483)))
 have d540:Dis f492 f226:=dis_back o493 (da (d287).symm (da (d288).symm (da (d289).symm (d290).symm))) (sl _ (kp _ o227.1 (cr [] wd483)))
 have d541:Dis f492 f229:=dis_back o493 (da (d303).symm (da (d304).symm (da (d305).symm (d306).symm))) (sl _ (kp _ o230.1 (cr [] wd483)))
 have d542:Dis f492 f232:=dis_back o493 (da (d319).symm (da (d320).symm (da (d321).symm (d322).symm))) (sl _ (kp _ o233.1 (cr [] wd483)))
 have d560:Dis f494 f220:=dis_back o495 (da (d255).symm (da (d256).symm (da (d257).symm (d258).symm))) (sl _ (kp _ o221.1 (cr [] wd483)))
 have d561:Dis f494 f223:=dis_back o495 (da (d271).symm (da (d272).symm (da (d273).symm (d274).symm))) (sl _ (kp _ o224.1 (cr [] wd483)))
 have d562:Dis f494 f226:=dis_back o495 (da (d287).symm (da (d288).symm (da (d289).symm (d290).symm))) (sl _ (kp _ o227.1 (cr [] wd483)))
 have d563:Dis f494 f229:=dis_back o495 (da (d303).symm (da (d304).symm (da (d305).symm (d306).symm))) (sl _ (kp _ o230.1 (cr [] wd483)))
 have d564:Dis f494 f232:=dis_back o495 (da (d319).symm (da (d320).symm (da (d321).symm (d322).symm))) (sl _ (kp _ o233.1 (cr [] wd483)))
 have d582:Dis f496 f220:=dis_back o497 (da (d255).symm (da (d256).symm (da (d257).symm (d258).symm))) (sl _ (kp _ o221.1 (cr [] wd483)))
 have d583:Dis f496 f223:=dis_back o497 (da (d271).symm (da (d272).symm (da (d273).symm (d274).symm))) (sl _ (kp _ o224.1 (cr [] wd483)))
 have d584:Dis f496 f226:=dis_back o497 (da (d287).symm (da (d288).symm (da (d289).symm (d290).symm))) (sl _ (kp _ o227.1 (cr [] wd483)))
 have d585:Dis f496 f229:=dis_back o497 (da (d303).symm (da (d304).symm (da (d305).symm (d306).symm))) (sl _ (kp _ o230.1 (cr [] wd483)))
 have d586:Dis f496 f232:=dis_back o497 (da (d319).symm (da (d320).symm (da (d321).symm (d322).symm))) (sl _ (kp _ o233.1 (cr [] wd483)))
 replace o491:=OE.back o491 (low_app o128.2.2 (low_app o131.2.2 (low_app o134.2.2 o137.2.2))) hB.size
 replace o493:=OE.back o493 (low_app o128.2.2 (low_app o131.2.2 (low_app o134.2.2 o137.2.2))) hB.size
 replace o495:=OE.back o495 (low_app o128.2.2 (low_app o131.2.2 (low_app o134.2.2 o137.2.2))) hB.size
 replace o497:=OE.back o497 (low_app o128.2.2 (low_app o131.2.2 (low_app o134.2.2 o137.2.2))) hB.size
 have hT592:=((cr [] wd483).nil (G:=(f127++(f130++(f133++f136))))).trans hC489
 replace hr4:=Row.keep hr4 hT592 ((Dis.symm (da d144 (da d155 (da d166 d177)))) _ (ms rfl))
 replace o25:=okp o25 hT592 (Dis.symm (da d145 (da d156 (da d167 d178))))
 replace o28:=okp o28 hT592 (Dis.symm (da d146 (da d157 (da d168 d179))))
 replace o31:=okp o31 hT592 (Dis.symm (da d147 (da d158 (da d169 d180))))
 replace o34:=okp o34 hT592 (Dis.symm (da d148 (da d159 (da d170 d181))))
 replace o52:=okp o52 hT592 (Dis.symm (da d149 (da d160 (da d171 d182))))
 replace o55:=okp o55 hT592 (Dis.symm (da d150 (da d161 (da d172 d183))))
 replace o58:=okp o58 hT592 (Dis.symm (da d151 (da d162 (da d173 d184))))
 replace o61:=okp o61 hT592 (Dis.symm (da d152 (da d163 (da d174 d185))))
 replace o64:=okp o64 hT592 (Dis.symm (da d153 (da d164 (da d175 d186))))
 replace hr120:=Row.keep hr120 hT592 ((Dis.symm (da d154 (da d165 (da d176 d187)))) _ (ms rfl))
 replace hr213:=Row.keep hr213 hT592 ((Dis.symm (da (d206).symm (da (d207).symm (da (d208).symm (d209).symm)))) _ (ms rfl))
 replace o221:=okp o221 hT592 (Dis.symm (da (d255).symm (da (d256).symm (da (d257).symm (d258).symm))))
 replace o224:=okp o224 hT592 (Dis.symm (da (d271).symm (da (d272).symm (da (d273).symm (d274).symm))))
 replace o227:=okp o227 hT592 (Dis.symm (da (d287).symm (da (d288).symm (da (d289).symm (d290).symm))))
 replace o230:=okp o230 hT592 (Dis.symm (da (d303).symm (da (d304).symm (da (d305).symm (d306).symm))))
 replace o233:=okp o233 hT592 (Dis.symm (da (d319).symm (da (d320).symm (da (d321).symm (d322).symm))))
 replace hr355:=Row.keep hr355 hT592 ((Dis.symm (da (d342).symm (da (d343).symm (da (d344).symm (d345).symm)))) _ (ms rfl))
 replace o371:=okp o371 hT592 (Dis.symm (da (d395).symm (da (d396).symm (da (d397).symm (d398).symm))))
 replace o374:=okp o374 hT592 (Dis.symm (da (d418).symm (da (d419).symm (da (d420).symm (d421).symm))))
 replace o377:=okp o377 hT592 (Dis.symm (da (d441).symm (da (d442).symm (da (d443).symm (d444).symm))))
 replace o380:=okp o380 hT592 (Dis.symm (da (d464).symm (da (d465).symm (da (d466).symm (d467).symm))))
 replace hB:=hB.then hT592 (low_app o128.2.2 (low_app o131.2.2 (low_app o134.2.2 o137.2.2)))
 refine wv (v:=.int .i64 (y486.1)) rfl (oa _) ?_
 refine anz ?_
 refine wq ?_
 refine wq ?_
 refine Wq rfl (cr [] wd488) ?_
 obtain ⟨g593,hm594,ho⟩:=bs ho
 refine QL.meet (fun r=>∃ F,r=updL F [(1,.pointer (some (⟨b1,0,none⟩))),(4,.pointer (some (⟨b101,0,none⟩))),(5,.int .i64 (y46.2)),(7,.pointer (some (⟨b325,0,none⟩))),(61,.bool (g593))]) ?_ ?_
 skip
 refine qv (v:=.int .i64 (y486.1)) rfl (fun _ _=>om _) ?_
 refine qv (v:=.bool (decide (y486.1 < (0:Int)))) rfl (fun _ _=>op_bin rfl rfl bin_lss) ?_
 refine qv (v:=.bool (decide (y486.1 < (0:Int)))) rfl (fun _ _=>om _) ?_
 rcases Bool.eq_false_or_eq_true (decide (y486.1 < (0:Int))) with hb595 | hb595
 rw [hb595] at hm594
 refine qs rfl (congrArg some hb595) rfl ?_
 refine qs rfl (congrArg some hb595) rfl ?_
 refine qs rfl (congrArg some hb595) rfl ?_
 refine qs rfl (congrArg some hb595) rfl ?_
 refine qv (v:=.bool (true)) rfl (fun _ _=>op_pickT rfl hb595) ?_
 refine qv (v:=.bool (true)) rfl (fun _ _=>om _) ?_
 refine qs rfl (congrArg some rfl) rfl ?_
 refine qs rfl (congrArg some rfl) rfl ?_
 refine qs rfl (congrArg some rfl) rfl ?_
 refine qv (v:=.bool (true)) rfl (fun _ _=>op_pickT rfl rfl) ?_
 cases hm594
 exact fr ⟨rfl,rfl,rfl,rfl,rfl,trivial⟩
 rw [hb595] at hm594
 refine qg (v:=.agg #[.int .i64 (y215.1.Shape.Objects),v219,v222,v225,v228,v231]) rfl (congrArg some hb595) (fun _ hC=>op_loadAgg u30 rfl info30 (by rw [sz30]; rfl) rfl (kr hr355 hC).at) ?_
 refine qg (v:=.agg #[.int .i64 (y46.1.Shape.Objects),v50,v53,v56,v59,v62]) rfl (congrArg some hb595) (fun _ hC=>op_loadAgg u30 rfl info30 (by rw [sz30]; rfl) rfl (kr hr120 hC).at) ?_
 obtain ⟨y596,hy597,hm594⟩:=bs hm594
 refine QL.callG (v:=.bool (y596)) rfl (congrArg some hb595) (fun _ _=>op_callF Tryz.func19 rfl rfl) (fun _ hC=>(laws_eqTopology_calls ((Le.own (Le.refl _) 2).le (kp _ o221.1 hC)) ((Le.own (Le.refl _) 2).le (kp _ o224.1 hC)) ((Le.own (Le.refl _) 2).le (kp _ o227.1 hC)) ((Le.own (Le.own (Le.refl _) 2) 22).le (kp _ o230.1 hC)) ((Le.own (Le.own (Le.own (Le.refl _) 2) 22) 23).le (kp _ o233.1 hC)) ((Le.own (Le.refl _) 2).le (kp _ o52.1 hC)) ((Le.own (Le.refl _) 2).le (kp _ o55.1 hC)) ((Le.own (Le.refl _) 2).le (kp _ o58.1 hC)) ((Le.own (Le.own (Le.refl _) 2) 22).le (kp _ o61.1 hC)) ((Le.own (Le.own (Le.own (Le.refl _) 2) 22) 23).le (kp _ o64.1 hC)) hy597).mono fun _ _ h=>⟨h.1,hC.trans h.2⟩) ?_
 refine qg (v:=.bool (!(y596))) rfl (congrArg some hb595) (fun _ _=>op_not rfl) ?_
 refine qv (v:=.bool (!(y596))) rfl (fun _ _=>op_pickF rfl hb595) ?_
 refine qv (v:=.bool (!(y596))) rfl (fun _ _=>om _) ?_
 rcases Bool.eq_false_or_eq_true (!(y596)) with hb598 | hb598
 rw [hb598] at hm594
 refine qs rfl (congrArg some hb598) rfl ?_
 refine qs rfl (congrArg some hb598) rfl ?_
 refine qs rfl (congrArg some hb598) rfl ?_
 refine qv (v:=.bool (true)) rfl (fun _ _=>op_pickT rfl hb598) ?_
 cases hm594
 exact fr ⟨rfl,rfl,rfl,rfl,rfl,trivial⟩
 rw [hb598] at hm594
 refine qg (v:=.int .i64 (y215.2)) rfl (congrArg some hb598) (fun _ _=>om _) ?_
 refine qg (v:=.int .i64 (y46.2)) rfl (congrArg some hb598) (fun _ _=>om _) ?_
 refine qg (v:=.bool ((y215.2) != (y46.2))) rfl (congrArg some hb598) (fun _ _=>op_bin rfl rfl bin_neq) ?_
 refine qv (v:=.bool ((y215.2) != (y46.2))) rfl (fun _ _=>op_pickF rfl hb598) ?_
 cases hm594
 exact fr ⟨rfl,rfl,rfl,rfl,rfl,trivial⟩
 rintro _ ⟨F,rfl⟩
 intro wd599 hC600
 refine anz ?_
 refine W_cond (b:=g593) rfl ?_ ?_
 intro hb601
 rw [hb601] at ho
 refine wq ?_
 refine Wq rfl hC600 ?_
 refine qv (v:=.bool (false)) rfl (fun _ _=>oa _) ?_
 intro wd602 hC603
 refine anz ?_
 cases ho
 exact W_ret ⟨_,res_1 Tryz.results3,rfl,(hB.trans hC603)⟩
 intro hb601
 rw [hb601] at ho
 refine W_skip ?_
 refine anz ?_
 refine wq ?_
 refine Wq rfl hC600 ?_
 refine qv (v:=.int .i64 ((1:Int))) rfl (fun _ _=>oa _) ?_
 intro wd604 hC605
 refine anz ?_
 refine wq ?_
 refine W_region rfl ?_
 refine wv (v:=.agg #[.int .i64 (y215.1.Shape.Objects),v219,v222,v225,v228,v231]) rfl (op_loadAgg u30 rfl info30 (by rw [sz30]; rfl) rfl (kr hr355 hC605).at) ?_
 refine wv (v:=.int .i64 ((1:Int))) rfl (om _) ?_
 have hT606:=hC605.trans (cr [] wd604)
 replace hr4:=kr hr4 hT606
 replace o25:=ko o25 hT606
 replace o28:=ko o28 hT606
 replace o31:=ko o31 hT606
 replace o34:=ko o34 hT606
 replace o52:=ko o52 hT606
 replace o55:=ko o55 hT606
 replace o58:=ko o58 hT606
 replace o61:=ko o61 hT606
 replace o64:=ko o64 hT606
 replace hr120:=kr hr120 hT606
 replace hr213:=kr hr213 hT606
 replace o221:=ko o221 hT606
 replace o224:=ko o224 hT606
 replace o227:=ko o227 hT606
 replace o230:=ko o230 hT606
 replace o233:=ko o233 hT606
 replace hr355:=kr hr355 hT606
 replace o371:=ko o371 hT606
 replace o374:=ko o374 hT606
 replace o377:=ko o377 hT606
 replace o380:=ko o380 hT606
 replace o491:=ko o491 hT606
 replace o493:=ko o493 hT606
 replace o495:=ko o495 hT606
 replace o497:=ko o497 hT606
 replace hB:=(hB.trans hT606)
 obtain ⟨y607,hy608,ho⟩:=bs ho
 refine WL.call rfl (op_callF Tryz.func22 rfl rfl) (laws_markTopology_calls (OE.give (B':=wd604.heap.size) o221 fun _ h=>h) (OE.give (B':=wd604.heap.size) o224 fun _ h=>h) (OE.give (B':=wd604.heap.size) o227 fun _ h=>h) (OE.give (B':=wd604.heap.size) o230 fun _ h=>h) (OE.give (B':=wd604.heap.size) o233 fun _ h=>h) d234 d235 d236 d237 d238 d239 d240 d241 d242 d243 hy608) ?_
 rintro _ wd609 ⟨f611,f613,f615,f617,f619,rfl,hC610,o612,o614,o616,o618,o620,d621,d622,d623,d624,d625,d626,d627,d628,d629,d630⟩
 refine ⟨_,rfl,?_⟩
 replace o612:=OE.back o612 (low_app o221.2.2 (low_app o224.2.2 (low_app o227.2.2 (low_app o230.2.2 o233.2.2)))) hB.size
 replace o614:=OE.back o614 (low_app o221.2.2 (low_app o224.2.2 (low_app o227.2.2 (low_app o230.2.2 o233.2.2)))) hB.size
 replace o616:=OE.back o616 (low_app o221.2.2 (low_app o224.2.2 (low_app o227.2.2 (low_app o230.2.2 o233.2.2)))) hB.size
 replace o618:=OE.back o618 (low_app o221.2.2 (low_app o224.2.2 (low_app o227.2.2 (low_app o230.2.2 o233.2.2)))) hB.size
 replace o620:=OE.back o620 (low_app o221.2.2 (low_app o224.2.2 (low_app o227.2.2 (low_app o230.2.2 o233.2.2)))) hB.size
 have hT736:=((cr [] wd604).nil (G:=(f220++(f223++(f226++(f229++f232)))))).trans hC610
 replace hr4:=Row.keep hr4 hT736 ((Dis.symm (da d244 (da d260 (da d276 (da d292 d308))))) _ (ms rfl))
 replace o25:=okp o25 hT736 (Dis.symm (da d245 (da d261 (da d277 (da d293 d309)))))
 replace o28:=okp o28 hT736 (Dis.symm (da d246 (da d262 (da d278 (da d294 d310)))))
 replace o31:=okp o31 hT736 (Dis.symm (da d247 (da d263 (da d279 (da d295 d311)))))
 replace o34:=okp o34 hT736 (Dis.symm (da d248 (da d264 (da d280 (da d296 d312)))))
 replace o52:=okp o52 hT736 (Dis.symm (da d249 (da d265 (da d281 (da d297 d313)))))
 replace o55:=okp o55 hT736 (Dis.symm (da d250 (da d266 (da d282 (da d298 d314)))))
 replace o58:=okp o58 hT736 (Dis.symm (da d251 (da d267 (da d283 (da d299 d315)))))
 replace o61:=okp o61 hT736 (Dis.symm (da d252 (da d268 (da d284 (da d300 d316)))))
 replace o64:=okp o64 hT736 (Dis.symm (da d253 (da d269 (da d285 (da d301 d317)))))
 replace hr120:=Row.keep hr120 hT736 ((Dis.symm (da d254 (da d270 (da d286 (da d302 d318))))) _ (ms rfl))
 replace hr213:=Row.keep hr213 hT736 ((Dis.symm (da d259 (da d275 (da d291 (da d307 d323))))) _ (ms rfl))
 replace hr355:=Row.keep hr355 hT736 ((Dis.symm (da (d347).symm (da (d348).symm (da (d349).symm (da (d350).symm (d351).symm))))) _ (ms rfl))
 replace o371:=okp o371 hT736 (Dis.symm (da (d400).symm (da (d401).symm (da (d402).symm (da (d403).symm (d404).symm)))))
 replace o374:=okp o374 hT736 (Dis.symm (da (d423).symm (da (d424).symm (da (d425).symm (da (d426).symm (d427).symm)))))
 replace o377:=okp o377 hT736 (Dis.symm (da (d446).symm (da (d447).symm (da (d448).symm (da (d449).symm (d450).symm)))))
 replace o380:=okp o380 hT736 (Dis.symm (da (d469).symm (da (d470).symm (da (d471).symm (da (d472).symm (d473).symm)))))
 replace o491:=okp o491 hT736 (Dis.symm (da (d516).symm (da (d517).symm (da (d518).symm (da (d519).symm (d520).symm)))))
 replace o493:=okp o493 hT736 (Dis.symm (da (d538).symm (da (d539).symm (da (d540).symm (da (d541).symm (d542).symm)))))
 replace o495:=okp o495 hT736 (Dis.symm (da (d560).symm (da (d561).symm (da (d562).symm (da (d563).symm (d564).symm)))))
 replace o497:=okp o497 hT736 (Dis.symm (da (d582).symm (da (d583).symm (da (d584).symm (da (d585).symm (d586).symm)))))
 replace hB:=hB.then hT736 (low_app o221.2.2 (low_app o224.2.2 (low_app o227.2.2 (low_app o230.2.2 o233.2.2))))
 refine wv (v:=.int .i64 (y607.1)) rfl (oa _) ?_
 refine anz ?_
 refine wq ?_
 refine Wq rfl (cr [] wd609) ?_
 refine qv (v:=.int .i64 ((1:Int))) rfl (fun _ _=>oa _) ?_
 intro wd737 hC738
 refine anz ?_
 refine wq ?_
 refine Wq rfl hC738 ?_
 refine qv (v:=.agg #[.int .i64 (y215.1.Shape.Objects),v219,v222,v225,v228,v231]) rfl (fun _ hC=>op_loadAgg u30 rfl info30 (by rw [sz30]; rfl) rfl (kr hr355 hC).at) ?_
 refine qv (v:=.int .i64 ((1:Int))) rfl (fun _ _=>om _) ?_
 obtain ⟨y739,hy740,ho⟩:=bs ho
 refine QL.call (v:=.int .i64 (y739)) rfl (fun _ _=>op_callF Tryz.func23 rfl rfl) (fun _ hC=>(laws_heldTopology_calls (x0:=(MTopology.mk (MCategory.mk y215.1.Shape.Objects y607.2.1 y607.2.2.1 y607.2.2.2.1 y607.2.2.2.2.1) y607.2.2.2.2.2)) ((Le.own (Le.refl _) 2).le (kp _ o612.1 hC)) ((Le.own (Le.refl _) 2).le (kp _ o614.1 hC)) ((Le.own (Le.refl _) 2).le (kp _ o616.1 hC)) ((Le.own (Le.own (Le.refl _) 2) 22).le (kp _ o618.1 hC)) ((Le.own (Le.own (Le.own (Le.refl _) 2) 22) 23).le (kp _ o620.1 hC)) hy740).mono fun _ _ h=>⟨h.1,hC.trans h.2⟩) ?_
 refine qv (v:=.int .i64 (y739)) rfl (fun _ _=>oa _) ?_
 intro wd741 hC742
 refine anz ?_
 refine wq ?_
 refine wq ?_
 refine Wq rfl hC742 ?_
 refine qv (v:=.int .i64 (y739)) rfl (fun _ _=>om _) ?_
 refine qv (v:=.bool (decide (y739 < (0:Int)))) rfl (fun _ _=>op_bin rfl rfl bin_lss) ?_
 intro wd743 hC744
 refine anz ?_
 refine W_cond (b:=decide (y739 < (0:Int))) rfl ?_ ?_
 intro hb745
 rw [hb745] at ho
 refine wq ?_
 refine Wq rfl hC744 ?_
 refine qv (v:=.bool (false)) rfl (fun _ _=>oa _) ?_
 intro wd746 hC747
 refine anz ?_
 cases ho
 exact W_ret ⟨_,res_1 Tryz.results3,rfl,(hB.trans hC747)⟩
 intro hb745
 rw [hb745] at ho
 refine W_skip ?_
 refine anz ?_
 refine wq ?_
 refine wq ?_
 refine Wq rfl hC744 ?_
 refine qv (v:=.int .i64 (y739)) rfl (fun _ _=>om _) ?_
 refine qv (v:=.int .i64 (y607.1)) rfl (fun _ _=>om _) ?_
 refine qv (v:=.bool ((y739) != (y607.1))) rfl (fun _ _=>op_bin rfl rfl bin_neq) ?_
 intro wd748 hC749
 refine anz ?_
 refine W_cond (b:=(y739) != (y607.1)) rfl ?_ ?_
 intro hb750
 rw [hb750] at ho
 refine wq ?_
 refine Wq rfl hC749 ?_
 refine qv (v:=.bool (false)) rfl (fun _ _=>oa _) ?_
 intro wd751 hC752
 refine anz ?_
 cases ho
 exact W_ret ⟨_,res_1 Tryz.results3,rfl,(hB.trans hC752)⟩
 intro hb750
 rw [hb750] at ho
 refine W_skip ?_
 refine anz ?_
 refine wq ?_
 refine W_region rfl ?_
 refine wv (v:=.agg #[.int .i64 (x0.Objects),z6,z7,z9,z8]) rfl (op_loadAgg u25z rfl info25 (by rw [sz25]; rfl) rfl (kr hr4 hC749).at) ?_
 obtain ⟨y753,hy754,ho⟩:=bs ho
 refine WL.call rfl (op_callF Tryz.func17 rfl rfl) (laws_toCategory_calls (kp _ za (hB.trans hC749)) (kp _ zb (hB.trans hC749)) (kp _ zd (hB.trans hC749)) (kp _ zc (hB.trans hC749)) hy754) ?_
 rintro _ wd755 ⟨v757,f758,v760,f761,v763,f764,v766,f767,rfl,hC756,o759,o762,o765,o768,d769,d770,d771,d772,d773,d774⟩
 refine ⟨_,rfl,?_⟩
 replace o759:=OE.low (G:=[]) o759 (hB.trans hC749).size
 replace o762:=OE.low (G:=[]) o762 (hB.trans hC749).size
 replace o765:=OE.low (G:=[]) o765 (hB.trans hC749).size
 replace o768:=OE.low (G:=[]) o768 (hB.trans hC749).size
 have hT879:=hC749.trans hC756
 replace hr4:=kr hr4 hT879
 replace o25:=ko o25 hT879
 replace o28:=ko o28 hT879
 replace o31:=ko o31 hT879
 replace o34:=ko o34 hT879
 replace o52:=ko o52 hT879
 replace o55:=ko o55 hT879
 replace o58:=ko o58 hT879
 replace o61:=ko o61 hT879
 replace o64:=ko o64 hT879
 replace hr120:=kr hr120 hT879
 replace hr213:=kr hr213 hT879
 replace hr355:=kr hr355 hT879
 replace o371:=ko o371 hT879
 replace o374:=ko o374 hT879
 replace o377:=ko o377 hT879
 replace o380:=ko o380 hT879
 replace o491:=ko o491 hT879
 replace o493:=ko o493 hT879
 replace o495:=ko o495 hT879
 replace o497:=ko o497 hT879
 replace o612:=ko o612 hT879
 replace o614:=ko o614 hT879
 replace o616:=ko o616 hT879
 replace o618:=ko o618 hT879
 replace o620:=ko o620 hT879
 replace hB:=(hB.trans hT879)
 obtain ⟨y880,hy881,ho⟩:=bs ho
 refine WL.call rfl (op_callF Tryz.func18 rfl rfl) (impl_LeastTopology_calls ((Le.own (Le.refl _) 2).le (kp _ o759.1 (cr [] wd755))) ((Le.own (Le.refl _) 2).le (kp _ o762.1 (cr [] wd755))) ((Le.own (Le.refl _) 2).le (kp _ o765.1 (cr [] wd755))) ((Le.own (Le.own (Le.refl _) 2) 22).le (kp _ o768.1 (cr [] wd755))) hy881) ?_
 rintro _ wd882 ⟨v884,f885,v887,f888,v890,f891,v893,f894,v896,f897,rfl,hC883,o886,o889,o892,o895,o898,d899,d900,d901,d902,d903,d904,d905,d906,d907,d908⟩
 refine ⟨_,rfl,?_⟩
 replace o886:=OE.low (G:=[]) o886 (hB.trans (cr [] wd755)).size
 replace o889:=OE.low (G:=[]) o889 (hB.trans (cr [] wd755)).size
 replace o892:=OE.low (G:=[]) o892 (hB.trans (cr [] wd755)).size
 replace o895:=OE.low (G:=[]) o895 (hB.trans (cr [] wd755)).size
 replace o898:=OE.low (G:=[]) o898 (hB.trans (cr [] wd755)).size
 have hT1059:=(cr [] wd755).trans hC883
 replace hr4:=kr hr4 hT1059
 replace o25:=ko o25 hT1059
 replace o28:=ko o28 hT1059
 replace o31:=ko o31 hT1059
 replace o34:=ko o34 hT1059
 replace o52:=ko o52 hT1059
 replace o55:=ko o55 hT1059
 replace o58:=ko o58 hT1059
 replace o61:=ko o61 hT1059
 replace o64:=ko o64 hT1059
 replace hr120:=kr hr120 hT1059
 replace hr213:=kr hr213 hT1059
 replace hr355:=kr hr355 hT1059
 replace o371:=ko o371 hT1059
 replace o374:=ko o374 hT1059
 replace o377:=ko o377 hT1059
 replace o380:=ko o380 hT1059
 replace o491:=ko o491 hT1059
 replace o493:=ko o493 hT1059
 replace o495:=ko o495 hT1059
 replace o497:=ko o497 hT1059
 replace o612:=ko o612 hT1059
 replace o614:=ko o614 hT1059
 replace o616:=ko o616 hT1059
 replace o618:=ko o618 hT1059
 replace o620:=ko o620 hT1059
 replace o759:=ko o759 hT1059
 replace o762:=ko o762 hT1059
 replace o765:=ko o765 hT1059
 replace o768:=ko o768 hT1059
 replace hB:=(hB.trans hT1059)
 refine wv (v:=.tuple #[.agg #[.int .i64 (y880.1.Shape.Objects),v884,v887,v890,v893,v896],.int .i64 (y880.2)]) rfl (om _) ?_
 refine wv (v:=.agg #[.int .i64 (y880.1.Shape.Objects),v884,v887,v890,v893,v896]) rfl (op_extract rfl rfl) ?_
 refine wv (v:=.int .i64 (y880.2)) rfl (op_extract rfl rfl) ?_
 refine WL.alloc info30 zr30 fun b1060 wd1061 hC1062 hr1063 hl1064=>?_
 replace hr1063:Row wd1061 b1060 [.int .i64 ((0:Int)),.slice none 0 0,.slice none 0 0,.slice none 0 0,.slice none 0 0,.slice none 0 0] 30:=hr1063
 have lo1065:w.heap.size≤b1060:=Nat.le_trans (hB.trans (cr [] wd882)).size hl1064
 have d1066:Dis [b1060] [b1]:=dl (onw hl1064) (one_lt (Row.lt (kr hr4 (cr [] wd882))))
 have d1067:Dis [b1060] f24:=dl (onw hl1064) (sl _ (kp _ o25.1 (cr [] wd882)))
 have d1068:Dis [b1060] f27:=dl (onw hl1064) (sl _ (kp _ o28.1 (cr [] wd882)))
 have d1069:Dis [b1060] f30:=dl (onw hl1064) (sl _ (kp _ o31.1 (cr [] wd882)))
 have d1070:Dis [b1060] f33:=dl (onw hl1064) (sl _ (kp _ o34.1 (cr [] wd882)))
 have d1071:Dis [b1060] f51:=dl (onw hl1064) (sl _ (kp _ o52.1 (cr [] wd882)))
 have d1072:Dis [b1060] f54:=dl (onw hl1064) (sl _ (kp _ o55.1 (cr [] wd882)))
 have d1073:Dis [b1060] f57:=dl (onw hl1064) (sl _ (kp _ o58.1 (cr [] wd882)))
 have d1074:Dis [b1060] f60:=dl (onw hl1064) (sl _ (kp _ o61.1 (cr [] wd882)))
 have d1075:Dis [b1060] f63:=dl (onw hl1064) (sl _ (kp _ o64.1 (cr [] wd882)))
 have d1076:Dis [b1060] [b101]:=dl (onw hl1064) (one_lt (Row.lt (kr hr120 (cr [] wd882))))
 have d1077:Dis [b1060] [b189]:=dl (onw hl1064) (one_lt (Row.lt (kr hr213 (cr [] wd882))))
 have d1078:Dis [b1060] [b325]:=dl (onw hl1064) (one_lt (Row.lt (kr hr355 (cr [] wd882))))
 have d1079:Dis [b1060] f370:=dl (onw hl1064) (sl _ (kp _ o371.1 (cr [] wd882)))
 have d1080:Dis [b1060] f373:=dl (onw hl1064) (sl _ (kp _ o374.1 (cr [] wd882)))
 have d1081:Dis [b1060] f376:=dl (onw hl1064) (sl _ (kp _ o377.1 (cr [] wd882)))
 have d1082:Dis [b1060] f379:=dl (onw hl1064) (sl _ (kp _ o380.1 (cr [] wd882)))
 have d1083:Dis [b1060] f490:=dl (onw hl1064) (sl _ (kp _ o491.1 (cr [] wd882)))
 have d1084:Dis [b1060] f492:=dl (onw hl1064) (sl _ (kp _ o493.1 (cr [] wd882)))
 have d1085:Dis [b1060] f494:=dl (onw hl1064) (sl _ (kp _ o495.1 (cr [] wd882)))
 have d1086:Dis [b1060] f496:=dl (onw hl1064) (sl _ (kp _ o497.1 (cr [] wd882)))
 have d1087:Dis [b1060] f611:=dl (onw hl1064) (sl _ (kp _ o612.1 (cr [] wd882)))
 have d1088:Dis [b1060] f613:=dl (onw hl1064) (sl _ (kp _ o614.1 (cr [] wd882)))
 have d1089:Dis [b1060] f615:=dl (onw hl1064) (sl _ (kp _ o616.1 (cr [] wd882)))
 have d1090:Dis [b1060] f617:=dl (onw hl1064) (sl _ (kp _ o618.1 (cr [] wd882)))
 have d1091:Dis [b1060] f619:=dl (onw hl1064) (sl _ (kp _ o620.1 (cr [] wd882)))
 have d1092:Dis [b1060] f758:=dl (onw hl1064) (sl _ (kp _ o759.1 (cr [] wd882)))
 have d1093:Dis [b1060] f761:=dl (onw hl1064) (sl _ (kp _ o762.1 (cr [] wd882)))
 have d1094:Dis [b1060] f764:=dl (onw hl1064) (sl _ (kp _ o765.1 (cr [] wd882)))
 have d1095:Dis [b1060] f767:=dl (onw hl1064) (sl _ (kp _ o768.1 (cr [] wd882)))
 have d1096:Dis [b1060] f885:=dl (onw hl1064) (sl _ (kp _ o886.1 (cr [] wd882)))
 have d1097:Dis [b1060] f888:=dl (onw hl1064) (sl _ (kp _ o889.1 (cr [] wd882)))
 have d1098:Dis [b1060] f891:=dl (onw hl1064) (sl _ (kp _ o892.1 (cr [] wd882)))
 have d1099:Dis [b1060] f894:=dl (onw hl1064) (sl _ (kp _ o895.1 (cr [] wd882)))
 have d1100:Dis [b1060] f897:=dl (onw hl1064) (sl _ (kp _ o898.1 (cr [] wd882)))
 have hT1101:=(cr [] wd882).trans hC1062
 replace hr4:=kr hr4 hT1101
 replace o25:=ko o25 hT1101
 replace o28:=ko o28 hT1101
 replace o31:=ko o31 hT1101
 replace o34:=ko o34 hT1101
 replace o52:=ko o52 hT1101
 replace o55:=ko o55 hT1101
 replace o58:=ko o58 hT1101
 replace o61:=ko o61 hT1101
 replace o64:=ko o64 hT1101
 replace hr120:=kr hr120 hT1101
 replace hr213:=kr hr213 hT1101
 replace hr355:=kr hr355 hT1101
 replace o371:=ko o371 hT1101
 replace o374:=ko o374 hT1101
 replace o377:=ko o377 hT1101
 replace o380:=ko o380 hT1101
 replace o491:=ko o491 hT1101
 replace o493:=ko o493 hT1101
 replace o495:=ko o495 hT1101
 replace o497:=ko o497 hT1101
 replace o612:=ko o612 hT1101
 replace o614:=ko o614 hT1101
 replace o616:=ko o616 hT1101
 replace o618:=ko o618 hT1101
 replace o620:=ko o620 hT1101
 replace o759:=ko o759 hT1101
 replace o762:=ko o762 hT1101
 replace o765:=ko o765 hT1101
 replace o768:=ko o768 hT1101
 replace o886:=ko o886 hT1101
 replace o889:=ko o889 hT1101
 replace o892:=ko o892 hT1101
 replace o895:=ko o895 hT1101
 replace o898:=ko o898 hT1101
 replace hB:=(hB.trans hT1101)
 refine WL.storeAll (us:=[.int .i64 (y880.1.Shape.Objects),v884,v887,v890,v893,v896]) info30 (by rw [sz30]; rfl) (kr hr1063 (cr [] wd1061)) rfl rfl rfl (by intro u hu; simp only [List.mem_cons,List.mem_nil_iff,or_false] at hu; rcases hu with rfl | rfl | rfl | rfl | rfl | rfl <;> first | exact rfl | exact (STy.one _ o886.1 _ (ms rfl)) | exact (STy.one _ o889.1 _ (ms rfl)) | exact (STy.one _ o892.1 _ (ms rfl)) | exact (STy.one _ o895.1 _ (ms rfl)) | exact (STy.one _ o898.1 _ (ms rfl))) fun wd1102 hC1103 hr1104=>?_
 replace hr1104:Row wd1102 b1060 [.int .i64 (y880.1.Shape.Objects),v884,v887,v890,v893,v896] 30:=hr1104
 have hT1105:=((cr [] wd1061).nil (G:=[b1060])).trans hC1103
 replace hr4:=Row.keep hr4 hT1105 ((d1066).symm _ (ms rfl))
 replace o25:=okp o25 hT1105 (d1067).symm
 replace o28:=okp o28 hT1105 (d1068).symm
 replace o31:=okp o31 hT1105 (d1069).symm
 replace o34:=okp o34 hT1105 (d1070).symm
 replace o52:=okp o52 hT1105 (d1071).symm
 replace o55:=okp o55 hT1105 (d1072).symm
 replace o58:=okp o58 hT1105 (d1073).symm
 replace o61:=okp o61 hT1105 (d1074).symm
 replace o64:=okp o64 hT1105 (d1075).symm
 replace hr120:=Row.keep hr120 hT1105 ((d1076).symm _ (ms rfl))
 replace hr213:=Row.keep hr213 hT1105 ((d1077).symm _ (ms rfl))
 replace hr355:=Row.keep hr355 hT1105 ((d1078).symm _ (ms rfl))
 replace o371:=okp o371 hT1105 (d1079).symm
 replace o374:=okp o374 hT1105 (d1080).symm
 replace o377:=okp o377 hT1105 (d1081).symm
 replace o380:=okp o380 hT1105 (d1082).symm
 replace o491:=okp o491 hT1105 (d1083).symm
 replace o493:=okp o493 hT1105 (d1084).symm
 replace o495:=okp o495 hT1105 (d1085).symm
 replace o497:=okp o497 hT1105 (d1086).symm
 replace o612:=okp o612 hT1105 (d1087).symm
 replace o614:=okp o614 hT1105 (d1088).symm
 replace o616:=okp o616 hT1105 (d1089).symm
 replace o618:=okp o618 hT1105 (d1090).symm
 replace o620:=okp o620 hT1105 (d1091).symm
 replace o759:=okp o759 hT1105 (d1092).symm
 replace o762:=okp o762 hT1105 (d1093).symm
 replace o765:=okp o765 hT1105 (d1094).symm
 replace o768:=okp o768 hT1105 (d1095).symm
 replace o886:=okp o886 hT1105 (d1096).symm
 replace o889:=okp o889 hT1105 (d1097).symm
 replace o892:=okp o892 hT1105 (d1098).symm
 replace o895:=okp o895 hT1105 (d1099).symm
 replace o898:=okp o898 hT1105 (d1100).symm
 replace hB:=hB.then hT1105 (one_then lo1065)
 refine wv (v:=.int .i64 (y880.2)) rfl (oa _) ?_
 refine anz ?_
 refine wq ?_
 refine wq ?_
 refine Wq rfl (cr [] wd1102) ?_
 obtain ⟨g1106,hm1107,ho⟩:=bs ho
 refine QL.meet (fun r=>∃ F,r=updL F [(7,.pointer (some (⟨b325,0,none⟩))),(10,.int .i64 (y607.1)),(87,.bool (g1106))]) ?_ ?_
 skip
 refine qv (v:=.agg #[.int .i64 (y880.1.Shape.Objects),v884,v887,v890,v893,v896]) rfl (fun _ hC=>op_loadAgg u30 rfl info30 (by rw [sz30]; rfl) rfl (kr hr1104 hC).at) ?_
 refine qv (v:=.agg #[.int .i64 (y46.1.Shape.Objects),v50,v53,v56,v59,v62]) rfl (fun _ hC=>op_loadAgg u30 rfl info30 (by rw [sz30]; rfl) rfl (kr hr120 hC).at) ?_
 obtain ⟨y1108,hy1109,hm1107⟩:=bs hm1107
 refine QL.call (v:=.bool (y1108)) rfl (fun _ _=>op_callF Tryz.func19 rfl rfl) (fun _ hC=>(laws_eqTopology_calls ((Le.own (Le.refl _) 2).le (kp _ o886.1 hC)) ((Le.own (Le.refl _) 2).le (kp _ o889.1 hC)) ((Le.own (Le.refl _) 2).le (kp _ o892.1 hC)) ((Le.own (Le.own (Le.refl _) 2) 22).le (kp _ o895.1 hC)) ((Le.own (Le.own (Le.own (Le.refl _) 2) 22) 23).le (kp _ o898.1 hC)) ((Le.own (Le.refl _) 2).le (kp _ o52.1 hC)) ((Le.own (Le.refl _) 2).le (kp _ o55.1 hC)) ((Le.own (Le.refl _) 2).le (kp _ o58.1 hC)) ((Le.own (Le.own (Le.refl _) 2) 22).le (kp _ o61.1 hC)) ((Le.own (Le.own (Le.own (Le.refl _) 2) 22) 23).le (kp _ o64.1 hC)) hy1109).mono fun _ _ h=>⟨h.1,hC.trans h.2⟩) ?_
 refine qv (v:=.bool (!(y1108))) rfl (fun _ _=>op_not rfl) ?_
 refine qv (v:=.bool (!(y1108))) rfl (fun _ _=>om _) ?_
 rcases Bool.eq_false_or_eq_true (!(y1108)) with hb1110 | hb1110
 rw [hb1110] at hm1107
 refine qs rfl (congrArg some hb1110) rfl ?_
 refine qs rfl (congrArg some hb1110) rfl ?_
 refine qs rfl (congrArg some hb1110) rfl ?_
 refine qv (v:=.bool (true)) rfl (fun _ _=>op_pickT rfl hb1110) ?_
 cases hm1107
 exact fr ⟨rfl,rfl,rfl,trivial⟩
 rw [hb1110] at hm1107
 refine qg (v:=.int .i64 (y880.2)) rfl (congrArg some hb1110) (fun _ _=>om _) ?_
 refine qg (v:=.int .i64 (y46.2)) rfl (congrArg some hb1110) (fun _ _=>om _) ?_
 refine qg (v:=.bool ((y880.2) != (y46.2))) rfl (congrArg some hb1110) (fun _ _=>op_bin rfl rfl bin_neq) ?_
 refine qv (v:=.bool ((y880.2) != (y46.2))) rfl (fun _ _=>op_pickF rfl hb1110) ?_
 cases hm1107
 exact fr ⟨rfl,rfl,rfl,trivial⟩
 rintro _ ⟨F,rfl⟩
 intro wd1111 hC1112
 refine anz ?_
 refine W_cond (b:=g1106) rfl ?_ ?_
 intro hb1113
 rw [hb1113] at ho
 refine wq ?_
 refine Wq rfl hC1112 ?_
 refine qv (v:=.bool (false)) rfl (fun _ _=>oa _) ?_
 intro wd1114 hC1115
 refine anz ?_
 cases ho
 exact W_ret ⟨_,res_1 Tryz.results3,rfl,(hB.trans hC1115)⟩
 intro hb1113
 rw [hb1113] at ho
 refine W_skip ?_
 refine anz ?_
 refine wq ?_
 refine Wq rfl hC1112 ?_
 refine qv (v:=.int .i64 ((1:Int))) rfl (fun _ _=>oa _) ?_
 intro wd1116 hC1117
 refine anz ?_
 refine wq ?_
 refine Wq rfl hC1117 ?_
 refine qv (v:=.agg #[.int .i64 (y215.1.Shape.Objects),v219,v222,v225,v228,v231]) rfl (fun _ hC=>op_loadAgg u30 rfl info30 (by rw [sz30]; rfl) rfl (kr hr355 hC).at) ?_
 refine qv (v:=.int .i64 ((1:Int))) rfl (fun _ _=>om _) ?_
 obtain ⟨y1118,hy1119,ho⟩:=bs ho
 refine QL.call (v:=.int .i64 (y1118)) rfl (fun _ _=>op_callF Tryz.func23 rfl rfl) (fun _ hC=>(laws_heldTopology_calls (x0:=(MTopology.mk (MCategory.mk y215.1.Shape.Objects y607.2.1 y607.2.2.1 y607.2.2.2.1 y607.2.2.2.2.1) y607.2.2.2.2.2)) ((Le.own (Le.refl _) 2).le (kp _ o612.1 hC)) ((Le.own (Le.refl _) 2).le (kp _ o614.1 hC)) ((Le.own (Le.refl _) 2).le (kp _ o616.1 hC)) ((Le.own (Le.own (Le.refl _) 2) 22).le (kp _ o618.1 hC)) ((Le.own (Le.own (Le.own (Le.refl _) 2) 22) 23).le (kp _ o620.1 hC)) hy1119).mono fun _ _ h=>⟨h.1,hC.trans h.2⟩) ?_
 refine qv (v:=.int .i64 (y1118)) rfl (fun _ _=>oa _) ?_
 intro wd1120 hC1121
 refine anz ?_
 refine wq ?_
 refine wq ?_
 refine Wq rfl hC1121 ?_
 refine qv (v:=.int .i64 (y1118)) rfl (fun _ _=>om _) ?_
 refine qv (v:=.bool (decide (y1118 < (0:Int)))) rfl (fun _ _=>op_bin rfl rfl bin_lss) ?_
 intro wd1122 hC1123
 refine anz ?_
 refine W_cond (b:=decide (y1118 < (0:Int))) rfl ?_ ?_
 intro hb1124
 rw [hb1124] at ho
 refine wq ?_
 refine Wq rfl hC1123 ?_
 refine qv (v:=.bool (false)) rfl (fun _ _=>oa _) ?_
 intro wd1125 hC1126
 refine anz ?_
 cases ho
 exact W_ret ⟨_,res_1 Tryz.results3,rfl,(hB.trans hC1126)⟩
 intro hb1124
 rw [hb1124] at ho
 refine W_skip ?_
 refine anz ?_
 refine wq ?_
 refine wq ?_
 refine Wq rfl hC1123 ?_
 refine qv (v:=.int .i64 (y1118)) rfl (fun _ _=>om _) ?_
 refine qv (v:=.int .i64 (y607.1)) rfl (fun _ _=>om _) ?_
 refine qv (v:=.bool ((y1118) != (y607.1))) rfl (fun _ _=>op_bin rfl rfl bin_neq) ?_
 intro wd1127 hC1128
 refine anz ?_
 refine W_cond (b:=(y1118) != (y607.1)) rfl ?_ ?_
 intro hb1129
 rw [hb1129] at ho
 refine wq ?_
 refine Wq rfl hC1128 ?_
 refine qv (v:=.bool (false)) rfl (fun _ _=>oa _) ?_
 intro wd1130 hC1131
 refine anz ?_
 cases ho
 exact W_ret ⟨_,res_1 Tryz.results3,rfl,(hB.trans hC1131)⟩
 intro hb1129
 rw [hb1129] at ho
 refine W_skip ?_
 refine anz ?_
 refine wq ?_
 refine Wq rfl hC1128 ?_
 refine qv (v:=.bool (true)) rfl (fun _ _=>oa _) ?_
 intro wd1132 hC1133
 refine anz ?_
 cases ho
 exact W_ret ⟨_,res_1 Tryz.results3,rfl,(hB.trans hC1133)⟩
end Go.Proofs.YtfbijbginbjecaaGreat
