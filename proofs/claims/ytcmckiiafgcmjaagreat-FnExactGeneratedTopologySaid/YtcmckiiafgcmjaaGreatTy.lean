/- Closed facts on types; the structs of the models. No condition. -/
import Derived.Test.YtcmckiiafgcmjaaGreatLm
import Derived.Test.YtcmckiiafgcmjaaGreatChecked
import Derived.KernelRfl
namespace Go.Proofs.YtcmckiiafgcmjaaGreat
open Go Go.Li
set_option linter.unusedVariables false
set_option maxRecDepth 100000
theorem hmix : Tryz.prog.follows .mixedOrders = true := by kernel_rfl
theorem Wq {n id : Nat} {Q : Exit → (Nat → Value) → World → Prop} {r : Nat → Value} {w0 w : World} {l : List Oper} (hd : dstOk n l = true) (hC : Chg [] w0 w) (h : QL Tryz.prog (Chg [] w0) l l r fun r' => ∀ w', Chg [] w0 w' → Q .normal r' w') : W Tryz.prog n (.region id l.toArray false) Q r w :=
  W_quiet hmix hd (fun h => nomatch h) hC (hC.trans (Chg.drew _ _)) h
theorem Wqd {n id : Nat} {Q : Exit → (Nat → Value) → World → Prop} {r : Nat → Value} {w0 w : World} {l : List Oper} (hd : dstOk n l = true) (hB : Region.lexB .any l.toArray = true) (hC : Chg [] w0 w) (h : QL Tryz.prog (Chg [] w0) l l r fun r' => ∀ w', Chg [] w0 w' → Q .normal r' w') : W Tryz.prog n (.region id l.toArray true) Q r w :=
  W_quiet hmix hd (fun _ => hB) hC (hC.trans (Chg.drew _ _)) h
noncomputable def i2 : TypeInfo := (Tryz.prog.info? 2).getD default
theorem info2 : Tryz.prog.info? 2 = some i2 := by kernel_rfl
theorem sz2 : i2.size = 1 := by kernel_rfl
theorem ne2 : i2.size ≠ 0 := by rw [sz2]; decide
theorem zr2 : i2.zero = some (.int .i64 0) := by kernel_rfl
theorem by2 : i2.bytes = 8 := by kernel_rfl
noncomputable def i4 : TypeInfo := (Tryz.prog.info? 4).getD default
theorem info4 : Tryz.prog.info? 4 = some i4 := by kernel_rfl
theorem sz4 : i4.size = 1 := by kernel_rfl
theorem ne4 : i4.size ≠ 0 := by rw [sz4]; decide
theorem zr4 : i4.zero = some (.bool false) := by kernel_rfl
theorem by4 : i4.bytes = 1 := by kernel_rfl
noncomputable def i22 : TypeInfo := (Tryz.prog.info? 22).getD default
theorem info22 : Tryz.prog.info? 22 = some i22 := by kernel_rfl
theorem sz22 : i22.size = 1 := by kernel_rfl
theorem ne22 : i22.size ≠ 0 := by rw [sz22]; decide
theorem zr22 : i22.zero = some (.slice none 0 0) := by kernel_rfl
theorem by22 : i22.bytes = 24 := by kernel_rfl
noncomputable def i23 : TypeInfo := (Tryz.prog.info? 23).getD default
theorem info23 : Tryz.prog.info? 23 = some i23 := by kernel_rfl
theorem sz23 : i23.size = 1 := by kernel_rfl
theorem ne23 : i23.size ≠ 0 := by rw [sz23]; decide
theorem zr23 : i23.zero = some (.slice none 0 0) := by kernel_rfl
theorem by23 : i23.bytes = 24 := by kernel_rfl
noncomputable def i24 : TypeInfo := (Tryz.prog.info? 24).getD default
theorem info24 : Tryz.prog.info? 24 = some i24 := by kernel_rfl
theorem sz24 : i24.size = 5 := by kernel_rfl
theorem ne24 : i24.size ≠ 0 := by rw [sz24]; decide
theorem zr24 : i24.zero = some (.agg #[.int .i64 ((0 : Int)), .slice none 0 0, .slice none 0 0, .slice none 0 0, .slice none 0 0]) := by kernel_rfl
noncomputable def i25 : TypeInfo := (Tryz.prog.info? 25).getD default
theorem info25 : Tryz.prog.info? 25 = some i25 := by kernel_rfl
theorem sz25 : i25.size = 5 := by kernel_rfl
theorem ne25 : i25.size ≠ 0 := by rw [sz25]; decide
theorem zr25 : i25.zero = some (.agg #[.int .i64 ((0 : Int)), .slice none 0 0, .slice none 0 0, .slice none 0 0, .slice none 0 0]) := by kernel_rfl
noncomputable def i26 : TypeInfo := (Tryz.prog.info? 26).getD default
theorem info26 : Tryz.prog.info? 26 = some i26 := by kernel_rfl
theorem sz26 : i26.size = 1 := by kernel_rfl
theorem ne26 : i26.size ≠ 0 := by rw [sz26]; decide
theorem zr26 : i26.zero = some (.slice none 0 0) := by kernel_rfl
theorem by26 : i26.bytes = 24 := by kernel_rfl
noncomputable def i27 : TypeInfo := (Tryz.prog.info? 27).getD default
theorem info27 : Tryz.prog.info? 27 = some i27 := by kernel_rfl
theorem sz27 : i27.size = 6 := by kernel_rfl
theorem ne27 : i27.size ≠ 0 := by rw [sz27]; decide
theorem zr27 : i27.zero = some (.agg #[.int .i64 ((0 : Int)), .slice none 0 0, .slice none 0 0, .slice none 0 0, .slice none 0 0, .slice none 0 0]) := by kernel_rfl
noncomputable def i28 : TypeInfo := (Tryz.prog.info? 28).getD default
theorem info28 : Tryz.prog.info? 28 = some i28 := by kernel_rfl
theorem sz28 : i28.size = 6 := by kernel_rfl
theorem ne28 : i28.size ≠ 0 := by rw [sz28]; decide
theorem zr28 : i28.zero = some (.agg #[.int .i64 ((0 : Int)), .slice none 0 0, .slice none 0 0, .slice none 0 0, .slice none 0 0, .slice none 0 0]) := by kernel_rfl
noncomputable def i32 : TypeInfo := (Tryz.prog.info? 32).getD default
theorem info32 : Tryz.prog.info? 32 = some i32 := by kernel_rfl
theorem sz32 : i32.size = 5 := by kernel_rfl
theorem ne32 : i32.size ≠ 0 := by rw [sz32]; decide
theorem zr32 : i32.zero = some (.agg #[.int .i64 ((0 : Int)), .slice none 0 0, .slice none 0 0, .slice none 0 0, .slice none 0 0]) := by kernel_rfl
noncomputable def i33 : TypeInfo := (Tryz.prog.info? 33).getD default
theorem info33 : Tryz.prog.info? 33 = some i33 := by kernel_rfl
theorem sz33 : i33.size = 6 := by kernel_rfl
theorem ne33 : i33.size ≠ 0 := by rw [sz33]; decide
theorem zr33 : i33.zero = some (.agg #[.int .i64 ((0 : Int)), .slice none 0 0, .slice none 0 0, .slice none 0 0, .slice none 0 0, .slice none 0 0]) := by kernel_rfl
noncomputable def i34 : TypeInfo := (Tryz.prog.info? 34).getD default
theorem info34 : Tryz.prog.info? 34 = some i34 := by kernel_rfl
theorem sz34 : i34.size = 6 := by kernel_rfl
theorem ne34 : i34.size ≠ 0 := by rw [sz34]; decide
theorem zr34 : i34.zero = some (.agg #[.int .i64 ((0 : Int)), .slice none 0 0, .slice none 0 0, .slice none 0 0, .slice none 0 0, .slice none 0 0]) := by kernel_rfl
noncomputable def i65 : TypeInfo := (Tryz.prog.info? 65).getD default
theorem info65 : Tryz.prog.info? 65 = some i65 := by kernel_rfl
theorem sz65 : i65.size = 7 := by kernel_rfl
theorem ne65 : i65.size ≠ 0 := by rw [sz65]; decide
theorem zr65 : i65.zero = some (.agg #[.int .i64 ((0 : Int)), .slice none 0 0, .slice none 0 0, .slice none 0 0, .slice none 0 0, .slice none 0 0, .slice none 0 0]) := by kernel_rfl
noncomputable def i66 : TypeInfo := (Tryz.prog.info? 66).getD default
theorem info66 : Tryz.prog.info? 66 = some i66 := by kernel_rfl
theorem sz66 : i66.size = 7 := by kernel_rfl
theorem ne66 : i66.size ≠ 0 := by rw [sz66]; decide
theorem zr66 : i66.zero = some (.agg #[.int .i64 ((0 : Int)), .slice none 0 0, .slice none 0 0, .slice none 0 0, .slice none 0 0, .slice none 0 0, .slice none 0 0]) := by kernel_rfl
noncomputable def i67 : TypeInfo := (Tryz.prog.info? 67).getD default
theorem info67 : Tryz.prog.info? 67 = some i67 := by kernel_rfl
theorem sz67 : i67.size = 15 := by kernel_rfl
theorem ne67 : i67.size ≠ 0 := by rw [sz67]; decide
theorem zr67 : i67.zero = some (.agg #[.int .i64 ((0 : Int)), .slice none 0 0, .slice none 0 0, .slice none 0 0, .slice none 0 0, .slice none 0 0, .slice none 0 0, .int .i64 ((0 : Int)), .slice none 0 0, .slice none 0 0, .slice none 0 0, .slice none 0 0, .slice none 0 0, .slice none 0 0, .slice none 0 0]) := by kernel_rfl
noncomputable def i68 : TypeInfo := (Tryz.prog.info? 68).getD default
theorem info68 : Tryz.prog.info? 68 = some i68 := by kernel_rfl
theorem sz68 : i68.size = 15 := by kernel_rfl
theorem ne68 : i68.size ≠ 0 := by rw [sz68]; decide
theorem zr68 : i68.zero = some (.agg #[.int .i64 ((0 : Int)), .slice none 0 0, .slice none 0 0, .slice none 0 0, .slice none 0 0, .slice none 0 0, .slice none 0 0, .int .i64 ((0 : Int)), .slice none 0 0, .slice none 0 0, .slice none 0 0, .slice none 0 0, .slice none 0 0, .slice none 0 0, .slice none 0 0]) := by kernel_rfl
noncomputable def i95 : TypeInfo := (Tryz.prog.info? 95).getD default
theorem info95 : Tryz.prog.info? 95 = some i95 := by kernel_rfl
theorem sz95 : i95.size = 8 := by kernel_rfl
theorem ne95 : i95.size ≠ 0 := by rw [sz95]; decide
theorem zr95 : i95.zero = some (.agg #[.int .i64 ((0 : Int)), .slice none 0 0, .slice none 0 0, .slice none 0 0, .slice none 0 0, .slice none 0 0, .slice none 0 0, .slice none 0 0]) := by kernel_rfl
noncomputable def i96 : TypeInfo := (Tryz.prog.info? 96).getD default
theorem info96 : Tryz.prog.info? 96 = some i96 := by kernel_rfl
theorem sz96 : i96.size = 8 := by kernel_rfl
theorem ne96 : i96.size ≠ 0 := by rw [sz96]; decide
theorem zr96 : i96.zero = some (.agg #[.int .i64 ((0 : Int)), .slice none 0 0, .slice none 0 0, .slice none 0 0, .slice none 0 0, .slice none 0 0, .slice none 0 0, .slice none 0 0]) := by kernel_rfl
noncomputable def i97 : TypeInfo := (Tryz.prog.info? 97).getD default
theorem info97 : Tryz.prog.info? 97 = some i97 := by kernel_rfl
theorem sz97 : i97.size = 1 := by kernel_rfl
theorem ne97 : i97.size ≠ 0 := by rw [sz97]; decide
theorem zr97 : i97.zero = some (.slice none 0 0) := by kernel_rfl
theorem by97 : i97.bytes = 24 := by kernel_rfl
noncomputable def i102 : TypeInfo := (Tryz.prog.info? 102).getD default
theorem info102 : Tryz.prog.info? 102 = some i102 := by kernel_rfl
theorem sz102 : i102.size = 1 := by kernel_rfl
theorem ne102 : i102.size ≠ 0 := by rw [sz102]; decide
theorem zr102 : i102.zero = some (.pointer none) := by kernel_rfl
theorem by102 : i102.bytes = 8 := by kernel_rfl
noncomputable def i114 : TypeInfo := (Tryz.prog.info? 114).getD default
theorem info114 : Tryz.prog.info? 114 = some i114 := by kernel_rfl
theorem sz114 : i114.size = 1 := by kernel_rfl
theorem ne114 : i114.size ≠ 0 := by rw [sz114]; decide
theorem zr114 : i114.zero = some (.slice none 0 0) := by kernel_rfl
theorem by114 : i114.bytes = 24 := by kernel_rfl
noncomputable def i118 : TypeInfo := (Tryz.prog.info? 118).getD default
theorem info118 : Tryz.prog.info? 118 = some i118 := by kernel_rfl
theorem sz118 : i118.size = 1 := by kernel_rfl
theorem ne118 : i118.size ≠ 0 := by rw [sz118]; decide
theorem zr118 : i118.zero = some (.slice none 0 0) := by kernel_rfl
theorem by118 : i118.bytes = 24 := by kernel_rfl
noncomputable def i131 : TypeInfo := (Tryz.prog.info? 131).getD default
theorem info131 : Tryz.prog.info? 131 = some i131 := by kernel_rfl
theorem sz131 : i131.size = 1 := by kernel_rfl
theorem ne131 : i131.size ≠ 0 := by rw [sz131]; decide
theorem zr131 : i131.zero = some (.pointer none) := by kernel_rfl
theorem by131 : i131.bytes = 8 := by kernel_rfl
noncomputable def i138 : TypeInfo := (Tryz.prog.info? 138).getD default
theorem info138 : Tryz.prog.info? 138 = some i138 := by kernel_rfl
theorem sz138 : i138.size = 1 := by kernel_rfl
theorem ne138 : i138.size ≠ 0 := by rw [sz138]; decide
theorem zr138 : i138.zero = some (.slice none 0 0) := by kernel_rfl
theorem by138 : i138.bytes = 24 := by kernel_rfl
noncomputable def i141 : TypeInfo := (Tryz.prog.info? 141).getD default
theorem info141 : Tryz.prog.info? 141 = some i141 := by kernel_rfl
theorem sz141 : i141.size = 1 := by kernel_rfl
theorem ne141 : i141.size ≠ 0 := by rw [sz141]; decide
theorem zr141 : i141.zero = some (.pointer none) := by kernel_rfl
theorem by141 : i141.bytes = 8 := by kernel_rfl
noncomputable def i142 : TypeInfo := (Tryz.prog.info? 142).getD default
theorem info142 : Tryz.prog.info? 142 = some i142 := by kernel_rfl
theorem sz142 : i142.size = 1 := by kernel_rfl
theorem ne142 : i142.size ≠ 0 := by rw [sz142]; decide
theorem zr142 : i142.zero = some (.pointer none) := by kernel_rfl
theorem by142 : i142.bytes = 8 := by kernel_rfl
noncomputable def i143 : TypeInfo := (Tryz.prog.info? 143).getD default
theorem info143 : Tryz.prog.info? 143 = some i143 := by kernel_rfl
theorem sz143 : i143.size = 4 := by kernel_rfl
theorem ne143 : i143.size ≠ 0 := by rw [sz143]; decide
theorem zr143 : i143.zero = some (.agg #[.pointer none, .pointer none, .slice none 0 0, .pointer none]) := by kernel_rfl
noncomputable def i144 : TypeInfo := (Tryz.prog.info? 144).getD default
theorem info144 : Tryz.prog.info? 144 = some i144 := by kernel_rfl
theorem sz144 : i144.size = 4 := by kernel_rfl
theorem ne144 : i144.size ≠ 0 := by rw [sz144]; decide
theorem zr144 : i144.zero = some (.agg #[.pointer none, .pointer none, .slice none 0 0, .pointer none]) := by kernel_rfl
noncomputable def i149 : TypeInfo := (Tryz.prog.info? 149).getD default
theorem info149 : Tryz.prog.info? 149 = some i149 := by kernel_rfl
theorem sz149 : i149.size = 1 := by kernel_rfl
theorem ne149 : i149.size ≠ 0 := by rw [sz149]; decide
theorem zr149 : i149.zero = some (.slice none 0 0) := by kernel_rfl
theorem by149 : i149.bytes = 24 := by kernel_rfl
noncomputable def i150 : TypeInfo := (Tryz.prog.info? 150).getD default
theorem info150 : Tryz.prog.info? 150 = some i150 := by kernel_rfl
theorem sz150 : i150.size = 8 := by kernel_rfl
theorem ne150 : i150.size ≠ 0 := by rw [sz150]; decide
theorem zr150 : i150.zero = some (.agg #[.int .i64 ((0 : Int)), .slice none 0 0, .slice none 0 0, .slice none 0 0, .slice none 0 0, .slice none 0 0, .slice none 0 0, .slice none 0 0]) := by kernel_rfl
noncomputable def i151 : TypeInfo := (Tryz.prog.info? 151).getD default
theorem info151 : Tryz.prog.info? 151 = some i151 := by kernel_rfl
theorem sz151 : i151.size = 8 := by kernel_rfl
theorem ne151 : i151.size ≠ 0 := by rw [sz151]; decide
theorem zr151 : i151.zero = some (.agg #[.int .i64 ((0 : Int)), .slice none 0 0, .slice none 0 0, .slice none 0 0, .slice none 0 0, .slice none 0 0, .slice none 0 0, .slice none 0 0]) := by kernel_rfl
noncomputable def i196 : TypeInfo := (Tryz.prog.info? 196).getD default
theorem info196 : Tryz.prog.info? 196 = some i196 := by kernel_rfl
theorem sz196 : i196.size = 1 := by kernel_rfl
theorem ne196 : i196.size ≠ 0 := by rw [sz196]; decide
theorem zr196 : i196.zero = some (.agg #[.int .i64 ((0 : Int))]) := by kernel_rfl
noncomputable def i197 : TypeInfo := (Tryz.prog.info? 197).getD default
theorem info197 : Tryz.prog.info? 197 = some i197 := by kernel_rfl
theorem sz197 : i197.size = 1 := by kernel_rfl
theorem ne197 : i197.size ≠ 0 := by rw [sz197]; decide
theorem zr197 : i197.zero = some (.agg #[.int .i64 ((0 : Int))]) := by kernel_rfl
noncomputable def i237 : TypeInfo := (Tryz.prog.info? 237).getD default
theorem info237 : Tryz.prog.info? 237 = some i237 := by kernel_rfl
theorem sz237 : i237.size = 2 := by kernel_rfl
theorem ne237 : i237.size ≠ 0 := by rw [sz237]; decide
theorem zr237 : i237.zero = some (.agg #[.int .i64 ((0 : Int)), .int .i64 ((0 : Int))]) := by kernel_rfl
noncomputable def i238 : TypeInfo := (Tryz.prog.info? 238).getD default
theorem info238 : Tryz.prog.info? 238 = some i238 := by kernel_rfl
theorem sz238 : i238.size = 2 := by kernel_rfl
theorem ne238 : i238.size ≠ 0 := by rw [sz238]; decide
theorem zr238 : i238.zero = some (.agg #[.int .i64 ((0 : Int)), .int .i64 ((0 : Int))]) := by kernel_rfl
theorem fa25_0 : FA Tryz.prog 25 0 0 := ⟨_, _, _, Tryz.underlying25, rfl, info2, ne2, rfl⟩
theorem fa25_1 : FA Tryz.prog 25 1 1 := ⟨_, _, _, Tryz.underlying25, rfl, info22, ne22, rfl⟩
theorem fa25_2 : FA Tryz.prog 25 2 2 := ⟨_, _, _, Tryz.underlying25, rfl, info22, ne22, rfl⟩
theorem fa25_3 : FA Tryz.prog 25 3 3 := ⟨_, _, _, Tryz.underlying25, rfl, info22, ne22, rfl⟩
theorem fa25_4 : FA Tryz.prog 25 4 4 := ⟨_, _, _, Tryz.underlying25, rfl, info23, ne23, rfl⟩
theorem fa28_0 : FA Tryz.prog 28 0 0 := ⟨_, _, _, Tryz.underlying28, rfl, info25, ne25, rfl⟩
theorem fa28_1 : FA Tryz.prog 28 1 5 := ⟨_, _, _, Tryz.underlying28, rfl, info26, ne26, rfl⟩
theorem fa32_0 : FA Tryz.prog 32 0 0 := ⟨_, _, _, Tryz.underlying32, rfl, info2, ne2, rfl⟩
theorem fa32_1 : FA Tryz.prog 32 1 1 := ⟨_, _, _, Tryz.underlying32, rfl, info22, ne22, rfl⟩
theorem fa32_2 : FA Tryz.prog 32 2 2 := ⟨_, _, _, Tryz.underlying32, rfl, info22, ne22, rfl⟩
theorem fa32_3 : FA Tryz.prog 32 3 3 := ⟨_, _, _, Tryz.underlying32, rfl, info22, ne22, rfl⟩
theorem fa32_4 : FA Tryz.prog 32 4 4 := ⟨_, _, _, Tryz.underlying32, rfl, info23, ne23, rfl⟩
theorem fa34_0 : FA Tryz.prog 34 0 0 := ⟨_, _, _, Tryz.underlying34, rfl, info32, ne32, rfl⟩
theorem fa34_1 : FA Tryz.prog 34 1 5 := ⟨_, _, _, Tryz.underlying34, rfl, info26, ne26, rfl⟩
theorem fa66_0 : FA Tryz.prog 66 0 0 := ⟨_, _, _, Tryz.underlying66, rfl, info32, ne32, rfl⟩
theorem fa66_1 : FA Tryz.prog 66 1 5 := ⟨_, _, _, Tryz.underlying66, rfl, info22, ne22, rfl⟩
theorem fa66_2 : FA Tryz.prog 66 2 6 := ⟨_, _, _, Tryz.underlying66, rfl, info23, ne23, rfl⟩
theorem fa68_0 : FA Tryz.prog 68 0 0 := ⟨_, _, _, Tryz.underlying68, rfl, info66, ne66, rfl⟩
theorem fa68_1 : FA Tryz.prog 68 1 7 := ⟨_, _, _, Tryz.underlying68, rfl, info66, ne66, rfl⟩
theorem fa68_2 : FA Tryz.prog 68 2 14 := ⟨_, _, _, Tryz.underlying68, rfl, info23, ne23, rfl⟩
theorem fa96_0 : FA Tryz.prog 96 0 0 := ⟨_, _, _, Tryz.underlying96, rfl, info32, ne32, rfl⟩
theorem fa96_1 : FA Tryz.prog 96 1 5 := ⟨_, _, _, Tryz.underlying96, rfl, info26, ne26, rfl⟩
theorem fa96_2 : FA Tryz.prog 96 2 6 := ⟨_, _, _, Tryz.underlying96, rfl, info23, ne23, rfl⟩
theorem fa96_3 : FA Tryz.prog 96 3 7 := ⟨_, _, _, Tryz.underlying96, rfl, info22, ne22, rfl⟩
theorem fa144_0 : FA Tryz.prog 144 0 0 := ⟨_, _, _, Tryz.underlying144, rfl, info141, ne141, rfl⟩
theorem fa144_1 : FA Tryz.prog 144 1 1 := ⟨_, _, _, Tryz.underlying144, rfl, info131, ne131, rfl⟩
theorem fa144_2 : FA Tryz.prog 144 2 2 := ⟨_, _, _, Tryz.underlying144, rfl, info97, ne97, rfl⟩
theorem fa144_3 : FA Tryz.prog 144 3 3 := ⟨_, _, _, Tryz.underlying144, rfl, info142, ne142, rfl⟩
theorem fa151_0 : FA Tryz.prog 151 0 0 := ⟨_, _, _, Tryz.underlying151, rfl, info66, ne66, rfl⟩
theorem fa151_1 : FA Tryz.prog 151 1 7 := ⟨_, _, _, Tryz.underlying151, rfl, info149, ne149, rfl⟩
theorem fa197_2 : FA Tryz.prog 197 2 0 := ⟨_, _, _, Tryz.underlying197, rfl, info2, ne2, rfl⟩
theorem pt102 : Tryz.prog.underlying 102 = some (.pointer (Tryz.prog.pointee 102)) := by kernel_rfl
theorem ia114_249 : IA Tryz.prog 114 249 := ⟨(match Tryz.prog.underlying 249 with | some (.interface w) => w | _ => #[]), _, by kernel_rfl, info114, by kernel_rfl⟩
theorem im114_285 {name : String} (h : name = (i114.methods.getD 0 default).name) : IM Tryz.prog 114 name 285 := by
  subst h
  exact ⟨i114, i114.methods.getD 0 default, _, _, _, info114, by kernel_rfl, by kernel_rfl, by kernel_rfl, Tryz.underlying114, (fun _ h => nomatch h), Tryz.func285, rfl, rfl⟩
theorem na2 : NA Tryz.prog 2 := ⟨_, Tryz.underlying2, rfl⟩
theorem na4 : NA Tryz.prog 4 := ⟨_, Tryz.underlying4, rfl⟩
theorem na22 : NA Tryz.prog 22 := ⟨_, Tryz.underlying22, rfl⟩
theorem na23 : NA Tryz.prog 23 := ⟨_, Tryz.underlying23, rfl⟩
theorem na26 : NA Tryz.prog 26 := ⟨_, Tryz.underlying26, rfl⟩
theorem na97 : NA Tryz.prog 97 := ⟨_, Tryz.underlying97, rfl⟩
theorem na102 : NA Tryz.prog 102 := ⟨_, Tryz.underlying102, rfl⟩
theorem na114 : NA Tryz.prog 114 := ⟨_, Tryz.underlying114, rfl⟩
theorem na118 : NA Tryz.prog 118 := ⟨_, Tryz.underlying118, rfl⟩
theorem na131 : NA Tryz.prog 131 := ⟨_, Tryz.underlying131, rfl⟩
theorem na138 : NA Tryz.prog 138 := ⟨_, Tryz.underlying138, rfl⟩
theorem na141 : NA Tryz.prog 141 := ⟨_, Tryz.underlying141, rfl⟩
theorem na142 : NA Tryz.prog 142 := ⟨_, Tryz.underlying142, rfl⟩
theorem na149 : NA Tryz.prog 149 := ⟨_, Tryz.underlying149, rfl⟩
theorem ag28 : AG Tryz.prog 28 6 := ⟨_, _, Tryz.underlying28, rfl, info28, sz28⟩
theorem ag32 : AG Tryz.prog 32 5 := ⟨_, _, Tryz.underlying32, rfl, info32, sz32⟩
theorem ag34 : AG Tryz.prog 34 6 := ⟨_, _, Tryz.underlying34, rfl, info34, sz34⟩
theorem ag66 : AG Tryz.prog 66 7 := ⟨_, _, Tryz.underlying66, rfl, info66, sz66⟩
theorem ag68 : AG Tryz.prog 68 15 := ⟨_, _, Tryz.underlying68, rfl, info68, sz68⟩
theorem ag96 : AG Tryz.prog 96 8 := ⟨_, _, Tryz.underlying96, rfl, info96, sz96⟩
theorem sl22 : SL Tryz.prog 22 := ⟨_, _, Tryz.underlying22, info2, sz2⟩
theorem sl23 : SL Tryz.prog 23 := ⟨_, _, Tryz.underlying23, info22, sz22⟩
theorem sl26 : SL Tryz.prog 26 := ⟨_, _, Tryz.underlying26, info23, sz23⟩
theorem sl97 : SL Tryz.prog 97 := ⟨_, _, Tryz.underlying97, info138, sz138⟩
theorem sl114 : SL Tryz.prog 114 := ⟨_, _, Tryz.underlying114, info2, sz2⟩
theorem sl118 : SL Tryz.prog 118 := ⟨_, _, Tryz.underlying118, info114, sz114⟩
theorem sl138 : SL Tryz.prog 138 := ⟨_, _, Tryz.underlying138, info4, sz4⟩
theorem sl149 : SL Tryz.prog 149 := ⟨_, _, Tryz.underlying149, info118, sz118⟩
theorem eqs238 : Tryz.prog.underlying 238 = some (.struct #[(fieldsOf (Tryz.prog.underlying 238)).getD 0 default, (fieldsOf (Tryz.prog.underlying 238)).getD 1 default]) ∧ ((fieldsOf (Tryz.prog.underlying 238)).getD 0 default).name ≠ "_" ∧ ((fieldsOf (Tryz.prog.underlying 238)).getD 1 default).name ≠ "_" ∧ Tryz.prog.stoodInHeld 238 = false ∧ Tryz.prog.eqGuardType Tryz.prog.depth 238 = false := ⟨by kernel_rfl, by decide +kernel, by decide +kernel, by kernel_rfl, by kernel_rfl⟩
theorem pl32 : Tryz.prog.underlying 32 = some (.struct (fieldsOf (Tryz.prog.underlying 32))) ∧ (fieldsOf (Tryz.prog.underlying 32)).toList.mapM (fun f => (Tryz.prog.info? f.type).map fun i => (f.offset, i.size)) = some [(0, 1), (1, 1), (2, 1), (3, 1), (4, 1)] := ⟨by kernel_rfl, by kernel_rfl⟩
theorem bld32_0_1_2_3_4 {u0 u1 u2 u3 u4 : Value} (h0 : u0.oneCell' = true) (h1 : u1.oneCell' = true) (h2 : u2.oneCell' = true) (h3 : u3.oneCell' = true) (h4 : u4.oneCell' = true) : Tryz.prog.built 32 [(0, u0), (1, u1), (2, u2), (3, u3), (4, u4)] = some #[u0, u1, u2, u3, u4] := by
  unfold Program.built
  rw [info32, pl32.1]
  simp only [zr32, pl32.2]
  simp [Instr.fill, cells_agg, cells_one h0, cells_one h1, cells_one h2, cells_one h3, cells_one h4]
theorem pl66 : Tryz.prog.underlying 66 = some (.struct (fieldsOf (Tryz.prog.underlying 66))) ∧ (fieldsOf (Tryz.prog.underlying 66)).toList.mapM (fun f => (Tryz.prog.info? f.type).map fun i => (f.offset, i.size)) = some [(0, 5), (5, 1), (6, 1)] := ⟨by kernel_rfl, by kernel_rfl⟩
theorem bld66_0 {u0_0 u0_1 u0_2 u0_3 u0_4 : Value} (h0_0 : u0_0.oneCell' = true) (h0_1 : u0_1.oneCell' = true) (h0_2 : u0_2.oneCell' = true) (h0_3 : u0_3.oneCell' = true) (h0_4 : u0_4.oneCell' = true) : Tryz.prog.built 66 [(0, .agg #[u0_0, u0_1, u0_2, u0_3, u0_4])] = some #[u0_0, u0_1, u0_2, u0_3, u0_4, .slice none 0 0, .slice none 0 0] := by
  unfold Program.built
  rw [info66, pl66.1]
  simp only [zr66, pl66.2]
  simp [Instr.fill, cells_agg]
theorem pl96 : Tryz.prog.underlying 96 = some (.struct (fieldsOf (Tryz.prog.underlying 96))) ∧ (fieldsOf (Tryz.prog.underlying 96)).toList.mapM (fun f => (Tryz.prog.info? f.type).map fun i => (f.offset, i.size)) = some [(0, 5), (5, 1), (6, 1), (7, 1)] := ⟨by kernel_rfl, by kernel_rfl⟩
theorem bld96_ : Tryz.prog.built 96 [] = some #[.int .i64 ((0 : Int)), .slice none 0 0, .slice none 0 0, .slice none 0 0, .slice none 0 0, .slice none 0 0, .slice none 0 0, .slice none 0 0] := by
  unfold Program.built
  rw [info96, pl96.1]
  simp only [zr96, pl96.2]
  simp [Instr.fill, cells_agg]
theorem bld96_0_1_2_3 {u0_0 u0_1 u0_2 u0_3 u0_4 u1 u2 u3 : Value} (h0_0 : u0_0.oneCell' = true) (h0_1 : u0_1.oneCell' = true) (h0_2 : u0_2.oneCell' = true) (h0_3 : u0_3.oneCell' = true) (h0_4 : u0_4.oneCell' = true) (h1 : u1.oneCell' = true) (h2 : u2.oneCell' = true) (h3 : u3.oneCell' = true) : Tryz.prog.built 96 [(0, .agg #[u0_0, u0_1, u0_2, u0_3, u0_4]), (1, u1), (2, u2), (3, u3)] = some #[u0_0, u0_1, u0_2, u0_3, u0_4, u1, u2, u3] := by
  unfold Program.built
  rw [info96, pl96.1]
  simp only [zr96, pl96.2]
  simp [Instr.fill, cells_agg, cells_one h1, cells_one h2, cells_one h3]
theorem pl238 : Tryz.prog.underlying 238 = some (.struct (fieldsOf (Tryz.prog.underlying 238))) ∧ (fieldsOf (Tryz.prog.underlying 238)).toList.mapM (fun f => (Tryz.prog.info? f.type).map fun i => (f.offset, i.size)) = some [(0, 1), (1, 1)] := ⟨by kernel_rfl, by kernel_rfl⟩
theorem bld238_0_1 {u0 u1 : Value} (h0 : u0.oneCell' = true) (h1 : u1.oneCell' = true) : Tryz.prog.built 238 [(0, u0), (1, u1)] = some #[u0, u1] := by
  unfold Program.built
  rw [info238, pl238.1]
  simp only [zr238, pl238.2]
  simp [Instr.fill, cells_agg, cells_one h0, cells_one h1]
theorem pl151 : Tryz.prog.underlying 151 = some (.struct (fieldsOf (Tryz.prog.underlying 151))) ∧ (fieldsOf (Tryz.prog.underlying 151)).toList.mapM (fun f => (Tryz.prog.info? f.type).map fun i => (f.offset, i.size)) = some [(0, 7), (7, 1)] := ⟨by kernel_rfl, by kernel_rfl⟩
theorem bld151_0 {u0_0 u0_1 u0_2 u0_3 u0_4 u0_5 u0_6 : Value} (h0_0 : u0_0.oneCell' = true) (h0_1 : u0_1.oneCell' = true) (h0_2 : u0_2.oneCell' = true) (h0_3 : u0_3.oneCell' = true) (h0_4 : u0_4.oneCell' = true) (h0_5 : u0_5.oneCell' = true) (h0_6 : u0_6.oneCell' = true) : Tryz.prog.built 151 [(0, .agg #[u0_0, u0_1, u0_2, u0_3, u0_4, u0_5, u0_6])] = some #[u0_0, u0_1, u0_2, u0_3, u0_4, u0_5, u0_6, .slice none 0 0] := by
  unfold Program.built
  rw [info151, pl151.1]
  simp only [zr151, pl151.2]
  simp [Instr.fill, cells_agg]
theorem pl144 : Tryz.prog.underlying 144 = some (.struct (fieldsOf (Tryz.prog.underlying 144))) ∧ (fieldsOf (Tryz.prog.underlying 144)).toList.mapM (fun f => (Tryz.prog.info? f.type).map fun i => (f.offset, i.size)) = some [(0, 1), (1, 1), (2, 1), (3, 1)] := ⟨by kernel_rfl, by kernel_rfl⟩
theorem bld144_0_1_3 {u0 u1 u3 : Value} (h0 : u0.oneCell' = true) (h1 : u1.oneCell' = true) (h3 : u3.oneCell' = true) : Tryz.prog.built 144 [(0, u0), (1, u1), (3, u3)] = some #[u0, u1, .slice none 0 0, u3] := by
  unfold Program.built
  rw [info144, pl144.1]
  simp only [zr144, pl144.2]
  simp [Instr.fill, cells_agg, cells_one h0, cells_one h1, cells_one h3]
theorem pl34 : Tryz.prog.underlying 34 = some (.struct (fieldsOf (Tryz.prog.underlying 34))) ∧ (fieldsOf (Tryz.prog.underlying 34)).toList.mapM (fun f => (Tryz.prog.info? f.type).map fun i => (f.offset, i.size)) = some [(0, 5), (5, 1)] := ⟨by kernel_rfl, by kernel_rfl⟩
theorem bld34_0_1 {u0_0 u0_1 u0_2 u0_3 u0_4 u1 : Value} (h0_0 : u0_0.oneCell' = true) (h0_1 : u0_1.oneCell' = true) (h0_2 : u0_2.oneCell' = true) (h0_3 : u0_3.oneCell' = true) (h0_4 : u0_4.oneCell' = true) (h1 : u1.oneCell' = true) : Tryz.prog.built 34 [(0, .agg #[u0_0, u0_1, u0_2, u0_3, u0_4]), (1, u1)] = some #[u0_0, u0_1, u0_2, u0_3, u0_4, u1] := by
  unfold Program.built
  rw [info34, pl34.1]
  simp only [zr34, pl34.2]
  simp [Instr.fill, cells_agg, cells_one h1]
theorem bld34_ : Tryz.prog.built 34 [] = some #[.int .i64 ((0 : Int)), .slice none 0 0, .slice none 0 0, .slice none 0 0, .slice none 0 0, .slice none 0 0] := by
  unfold Program.built
  rw [info34, pl34.1]
  simp only [zr34, pl34.2]
  simp [Instr.fill, cells_agg]
theorem bld34_0 {u0_0 u0_1 u0_2 u0_3 u0_4 : Value} (h0_0 : u0_0.oneCell' = true) (h0_1 : u0_1.oneCell' = true) (h0_2 : u0_2.oneCell' = true) (h0_3 : u0_3.oneCell' = true) (h0_4 : u0_4.oneCell' = true) : Tryz.prog.built 34 [(0, .agg #[u0_0, u0_1, u0_2, u0_3, u0_4])] = some #[u0_0, u0_1, u0_2, u0_3, u0_4, .slice none 0 0] := by
  unfold Program.built
  rw [info34, pl34.1]
  simp only [zr34, pl34.2]
  simp [Instr.fill, cells_agg]
theorem bld66_0_1_2 {u0_0 u0_1 u0_2 u0_3 u0_4 u1 u2 : Value} (h0_0 : u0_0.oneCell' = true) (h0_1 : u0_1.oneCell' = true) (h0_2 : u0_2.oneCell' = true) (h0_3 : u0_3.oneCell' = true) (h0_4 : u0_4.oneCell' = true) (h1 : u1.oneCell' = true) (h2 : u2.oneCell' = true) : Tryz.prog.built 66 [(0, .agg #[u0_0, u0_1, u0_2, u0_3, u0_4]), (1, u1), (2, u2)] = some #[u0_0, u0_1, u0_2, u0_3, u0_4, u1, u2] := by
  unfold Program.built
  rw [info66, pl66.1]
  simp only [zr66, pl66.2]
  simp [Instr.fill, cells_agg, cells_one h1, cells_one h2]
theorem pl68 : Tryz.prog.underlying 68 = some (.struct (fieldsOf (Tryz.prog.underlying 68))) ∧ (fieldsOf (Tryz.prog.underlying 68)).toList.mapM (fun f => (Tryz.prog.info? f.type).map fun i => (f.offset, i.size)) = some [(0, 7), (7, 7), (14, 1)] := ⟨by kernel_rfl, by kernel_rfl⟩
theorem bld68_0_1_2 {u0_0 u0_1 u0_2 u0_3 u0_4 u0_5 u0_6 u1_0 u1_1 u1_2 u1_3 u1_4 u1_5 u1_6 u2 : Value} (h0_0 : u0_0.oneCell' = true) (h0_1 : u0_1.oneCell' = true) (h0_2 : u0_2.oneCell' = true) (h0_3 : u0_3.oneCell' = true) (h0_4 : u0_4.oneCell' = true) (h0_5 : u0_5.oneCell' = true) (h0_6 : u0_6.oneCell' = true) (h1_0 : u1_0.oneCell' = true) (h1_1 : u1_1.oneCell' = true) (h1_2 : u1_2.oneCell' = true) (h1_3 : u1_3.oneCell' = true) (h1_4 : u1_4.oneCell' = true) (h1_5 : u1_5.oneCell' = true) (h1_6 : u1_6.oneCell' = true) (h2 : u2.oneCell' = true) : Tryz.prog.built 68 [(0, .agg #[u0_0, u0_1, u0_2, u0_3, u0_4, u0_5, u0_6]), (1, .agg #[u1_0, u1_1, u1_2, u1_3, u1_4, u1_5, u1_6]), (2, u2)] = some #[u0_0, u0_1, u0_2, u0_3, u0_4, u0_5, u0_6, u1_0, u1_1, u1_2, u1_3, u1_4, u1_5, u1_6, u2] := by
  unfold Program.built
  rw [info68, pl68.1]
  simp only [zr68, pl68.2]
  simp [Instr.fill, cells_agg, cells_one h2]
theorem bld68_ : Tryz.prog.built 68 [] = some #[.int .i64 ((0 : Int)), .slice none 0 0, .slice none 0 0, .slice none 0 0, .slice none 0 0, .slice none 0 0, .slice none 0 0, .int .i64 ((0 : Int)), .slice none 0 0, .slice none 0 0, .slice none 0 0, .slice none 0 0, .slice none 0 0, .slice none 0 0, .slice none 0 0] := by
  unfold Program.built
  rw [info68, pl68.1]
  simp only [zr68, pl68.2]
  simp [Instr.fill, cells_agg]
/- short names -/
abbrev kp := @STy.keep0
abbrev cr := @Chg.refl
abbrev qv := @QL.val
abbrev ko := @OE.keep0
abbrev kr := @Row.keep0
abbrev anz := @andThen_n
abbrev dl := @dis_low
abbrev da := @dis_app
abbrev bs := @bind_some
abbrev ofr := @OE.fresh
abbrev okp := @OE.keep
abbrev wq := @W_seq
abbrev sl := @STy.lt
abbrev onw := @one_new
theorem ms {α : Type} {a b : α} (h : a = b) : a ∈ [b] := List.mem_singleton.2 h
abbrev u22z := @Tryz.underlying22
abbrev u23z := @Tryz.underlying23
abbrev u26z := @Tryz.underlying26
abbrev u32 := @Tryz.underlying32
abbrev u34z := @Tryz.underlying34
end Go.Proofs.YtcmckiiafgcmjaaGreat
