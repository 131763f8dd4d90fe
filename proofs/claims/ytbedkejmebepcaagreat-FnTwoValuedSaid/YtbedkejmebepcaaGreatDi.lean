/- Closed facts on types, as instances. No condition. -/
import Derived.Test.YtbedkejmebepcaaGreatDg
import Derived.Test.YtbedkejmebepcaaGreatLn
import Derived.Test.YtbedkejmebepcaaGreatChecked
import Derived.KernelRfl
namespace Go.Proofs.YtbedkejmebepcaaGreat
open Go Go.Li Go.Dk
set_option linter.unusedVariables false
set_option maxRecDepth 100000
noncomputable def i2 : TypeInfo := (Tryz.prog.info? 2).getD default
theorem info2 : Tryz.prog.info? 2 = some i2 := by kernel_rfl
theorem sz2 : i2.size = 1 := by kernel_rfl
theorem ne2 : i2.size ≠ 0 := by rw [sz2]; decide
theorem zr2 : i2.zero = some (.int .i64 0) := by kernel_rfl
theorem by2 : i2.bytes = 8 := by kernel_rfl
noncomputable def i3 : TypeInfo := (Tryz.prog.info? 3).getD default
theorem info3 : Tryz.prog.info? 3 = some i3 := by kernel_rfl
theorem sz3 : i3.size = 1 := by kernel_rfl
theorem ne3 : i3.size ≠ 0 := by rw [sz3]; decide
theorem zr3 : i3.zero = some (.int .i64 0) := by kernel_rfl
theorem by3 : i3.bytes = 8 := by kernel_rfl
noncomputable def i4 : TypeInfo := (Tryz.prog.info? 4).getD default
theorem info4 : Tryz.prog.info? 4 = some i4 := by kernel_rfl
theorem sz4 : i4.size = 1 := by kernel_rfl
theorem ne4 : i4.size ≠ 0 := by rw [sz4]; decide
theorem zr4 : i4.zero = some (.bool false) := by kernel_rfl
theorem by4 : i4.bytes = 1 := by kernel_rfl
noncomputable def i5 : TypeInfo := (Tryz.prog.info? 5).getD default
theorem info5 : Tryz.prog.info? 5 = some i5 := by kernel_rfl
theorem sz5 : i5.size = 1 := by kernel_rfl
theorem ne5 : i5.size ≠ 0 := by rw [sz5]; decide
theorem zr5 : i5.zero = some (.int .u8 0) := by kernel_rfl
theorem by5 : i5.bytes = 1 := by kernel_rfl
noncomputable def i22 : TypeInfo := (Tryz.prog.info? 22).getD default
theorem info22 : Tryz.prog.info? 22 = some i22 := by kernel_rfl
theorem sz22 : i22.size = 1 := by kernel_rfl
theorem ne22 : i22.size ≠ 0 := by rw [sz22]; decide
theorem zr22 : i22.zero = some (.slice none 0 0) := by kernel_rfl
theorem by22 : i22.bytes = 24 := by kernel_rfl
noncomputable def i24 : TypeInfo := (Tryz.prog.info? 24).getD default
theorem info24 : Tryz.prog.info? 24 = some i24 := by kernel_rfl
theorem sz24 : i24.size = 1 := by kernel_rfl
theorem ne24 : i24.size ≠ 0 := by rw [sz24]; decide
theorem zr24 : i24.zero = some (.slice none 0 0) := by kernel_rfl
theorem by24 : i24.bytes = 24 := by kernel_rfl
noncomputable def i25 : TypeInfo := (Tryz.prog.info? 25).getD default
theorem info25 : Tryz.prog.info? 25 = some i25 := by kernel_rfl
theorem sz25 : i25.size = 1 := by kernel_rfl
theorem ne25 : i25.size ≠ 0 := by rw [sz25]; decide
theorem zr25 : i25.zero = some (.slice none 0 0) := by kernel_rfl
theorem by25 : i25.bytes = 24 := by kernel_rfl
noncomputable def i27 : TypeInfo := (Tryz.prog.info? 27).getD default
theorem info27 : Tryz.prog.info? 27 = some i27 := by kernel_rfl
theorem sz27 : i27.size = 5 := by kernel_rfl
theorem ne27 : i27.size ≠ 0 := by rw [sz27]; decide
theorem zr27 : i27.zero = some (.agg #[.int .i64 ((0 : Int)), .slice none 0 0, .slice none 0 0, .slice none 0 0, .slice none 0 0]) := by kernel_rfl
noncomputable def i32 : TypeInfo := (Tryz.prog.info? 32).getD default
theorem info32 : Tryz.prog.info? 32 = some i32 := by kernel_rfl
theorem sz32 : i32.size = 7 := by kernel_rfl
theorem ne32 : i32.size ≠ 0 := by rw [sz32]; decide
theorem zr32 : i32.zero = some (.agg #[.int .i64 ((0 : Int)), .slice none 0 0, .slice none 0 0, .slice none 0 0, .slice none 0 0, .slice none 0 0, .slice none 0 0]) := by kernel_rfl
noncomputable def i38 : TypeInfo := (Tryz.prog.info? 38).getD default
theorem info38 : Tryz.prog.info? 38 = some i38 := by kernel_rfl
theorem sz38 : i38.size = 1 := by kernel_rfl
theorem ne38 : i38.size ≠ 0 := by rw [sz38]; decide
theorem zr38 : i38.zero = some (.agg #[.slice none 0 0]) := by kernel_rfl
noncomputable def i48 : TypeInfo := (Tryz.prog.info? 48).getD default
theorem info48 : Tryz.prog.info? 48 = some i48 := by kernel_rfl
theorem sz48 : i48.size = 1 := by kernel_rfl
theorem ne48 : i48.size ≠ 0 := by rw [sz48]; decide
theorem zr48 : i48.zero = some (.slice none 0 0) := by kernel_rfl
theorem by48 : i48.bytes = 24 := by kernel_rfl
noncomputable def i57 : TypeInfo := (Tryz.prog.info? 57).getD default
theorem info57 : Tryz.prog.info? 57 = some i57 := by kernel_rfl
theorem sz57 : i57.size = 1 := by kernel_rfl
theorem ne57 : i57.size ≠ 0 := by rw [sz57]; decide
theorem zr57 : i57.zero = some (.slice none 0 0) := by kernel_rfl
theorem by57 : i57.bytes = 24 := by kernel_rfl
noncomputable def i59 : TypeInfo := (Tryz.prog.info? 59).getD default
theorem info59 : Tryz.prog.info? 59 = some i59 := by kernel_rfl
theorem sz59 : i59.size = 8 := by kernel_rfl
theorem ne59 : i59.size ≠ 0 := by rw [sz59]; decide
theorem zr59 : i59.zero = some (.agg #[.int .i64 ((0 : Int)), .slice none 0 0, .slice none 0 0, .slice none 0 0, .slice none 0 0, .slice none 0 0, .slice none 0 0, .slice none 0 0]) := by kernel_rfl
noncomputable def i62 : TypeInfo := (Tryz.prog.info? 62).getD default
theorem info62 : Tryz.prog.info? 62 = some i62 := by kernel_rfl
theorem sz62 : i62.size = 1 := by kernel_rfl
theorem ne62 : i62.size ≠ 0 := by rw [sz62]; decide
theorem zr62 : i62.zero = some (.pointer none) := by kernel_rfl
theorem by62 : i62.bytes = 8 := by kernel_rfl
noncomputable def i66 : TypeInfo := (Tryz.prog.info? 66).getD default
theorem info66 : Tryz.prog.info? 66 = some i66 := by kernel_rfl
theorem sz66 : i66.size = 1 := by kernel_rfl
theorem ne66 : i66.size ≠ 0 := by rw [sz66]; decide
theorem zr66 : i66.zero = some (.int .u64 0) := by kernel_rfl
theorem by66 : i66.bytes = 8 := by kernel_rfl
noncomputable def i68 : TypeInfo := (Tryz.prog.info? 68).getD default
theorem info68 : Tryz.prog.info? 68 = some i68 := by kernel_rfl
theorem sz68 : i68.size = 3 := by kernel_rfl
theorem ne68 : i68.size ≠ 0 := by rw [sz68]; decide
theorem zr68 : i68.zero = some (.agg #[.slice none 0 0, .int .i64 ((0 : Int)), .int .u64 ((0 : Int))]) := by kernel_rfl
noncomputable def i86 : TypeInfo := (Tryz.prog.info? 86).getD default
theorem info86 : Tryz.prog.info? 86 = some i86 := by kernel_rfl
theorem sz86 : i86.size = 1 := by kernel_rfl
theorem ne86 : i86.size ≠ 0 := by rw [sz86]; decide
theorem zr86 : i86.zero = some (.slice none 0 0) := by kernel_rfl
theorem by86 : i86.bytes = 24 := by kernel_rfl
noncomputable def i103 : TypeInfo := (Tryz.prog.info? 103).getD default
theorem info103 : Tryz.prog.info? 103 = some i103 := by kernel_rfl
theorem sz103 : i103.size = 2 := by kernel_rfl
theorem ne103 : i103.size ≠ 0 := by rw [sz103]; decide
theorem zr103 : i103.zero = some (.agg #[.int .i64 ((0 : Int)), .int .i64 ((0 : Int))]) := by kernel_rfl
noncomputable def i126 : TypeInfo := (Tryz.prog.info? 126).getD default
theorem info126 : Tryz.prog.info? 126 = some i126 := by kernel_rfl
theorem sz126 : i126.size = 3 := by kernel_rfl
theorem ne126 : i126.size ≠ 0 := by rw [sz126]; decide
theorem zr126 : i126.zero = some (.agg #[.int .i64 ((0 : Int)), .int .i64 ((0 : Int)), .slice none 0 0]) := by kernel_rfl
instance lk2 : LK Tryz.prog 2 none := ⟨_, Tryz.underlying2, rfl⟩
instance lk3 : LK Tryz.prog 3 none := ⟨_, Tryz.underlying3, rfl⟩
instance lk4 : LK Tryz.prog 4 none := ⟨_, Tryz.underlying4, rfl⟩
instance lk5 : LK Tryz.prog 5 none := ⟨_, Tryz.underlying5, rfl⟩
instance lk22 : LK Tryz.prog 22 none := ⟨_, Tryz.underlying22, rfl⟩
instance lk24 : LK Tryz.prog 24 none := ⟨_, Tryz.underlying24, rfl⟩
instance lk25 : LK Tryz.prog 25 none := ⟨_, Tryz.underlying25, rfl⟩
instance lk27 : LK Tryz.prog 27 (some 5) := ⟨_, _, Tryz.underlying27, rfl, info27, sz27⟩
instance lk32 : LK Tryz.prog 32 (some 7) := ⟨_, _, Tryz.underlying32, rfl, info32, sz32⟩
instance lk38 : LK Tryz.prog 38 (some 1) := ⟨_, _, Tryz.underlying38, rfl, info38, sz38⟩
instance lk48 : LK Tryz.prog 48 none := ⟨_, Tryz.underlying48, rfl⟩
instance lk57 : LK Tryz.prog 57 none := ⟨_, Tryz.underlying57, rfl⟩
instance lk62 : LK Tryz.prog 62 none := ⟨_, Tryz.underlying62, rfl⟩
instance lk66 : LK Tryz.prog 66 none := ⟨_, Tryz.underlying66, rfl⟩
instance lk86 : LK Tryz.prog 86 none := ⟨_, Tryz.underlying86, rfl⟩
instance lk103 : LK Tryz.prog 103 (some 2) := ⟨_, _, Tryz.underlying103, rfl, info103, sz103⟩
instance lk126 : LK Tryz.prog 126 (some 3) := ⟨_, _, Tryz.underlying126, rfl, info126, sz126⟩
instance sl22 : SLc Tryz.prog 22 := ⟨_, _, Tryz.underlying22, info5, sz5⟩
instance sl24 : SLc Tryz.prog 24 := ⟨_, _, Tryz.underlying24, info2, sz2⟩
instance lu24 : LUc Tryz.prog 24 2 := ⟨Tryz.underlying24, _, _, info2, zr2, sz2⟩
instance st24 : STc Tryz.prog 24 Int 2 (sInt .i64) 0 8 := ⟨Tryz.underlying24, rfl, _, _, info2, zr2, sz2, rfl, by2, fun _ => ⟨rfl, rfl⟩⟩
instance sl25 : SLc Tryz.prog 25 := ⟨_, _, Tryz.underlying25, info24, sz24⟩
instance lu25 : LUc Tryz.prog 25 24 := ⟨Tryz.underlying25, _, _, info24, zr24, sz24⟩
instance st25 : STc Tryz.prog 25 (List Int) 24 (sOwn 2 (sInt .i64)) [] 24 := ⟨Tryz.underlying25, rfl, _, _, info24, zr24, sz24, rfl, by24, fun _ => nil_own⟩
instance lu48 : LUc Tryz.prog 48 2 := ⟨Tryz.underlying48, _, _, info2, zr2, sz2⟩
instance st48 : STc Tryz.prog 48 Int 2 (sInt .i64) 0 8 := ⟨Tryz.underlying48, rfl, _, _, info2, zr2, sz2, rfl, by2, fun _ => ⟨rfl, rfl⟩⟩
instance sl57 : SLc Tryz.prog 57 := ⟨_, _, Tryz.underlying57, info86, sz86⟩
instance lu57 : LUc Tryz.prog 57 86 := ⟨Tryz.underlying57, _, _, info86, zr86, sz86⟩
instance st57 : STc Tryz.prog 57 (List (List Int)) 86 (sOwn 48 (sOwn 2 (sInt .i64))) [] 24 := ⟨Tryz.underlying57, rfl, _, _, info86, zr86, sz86, rfl, by86, fun _ => nil_own⟩
instance sl77 : SLc Tryz.prog 77 := ⟨_, _, Tryz.underlying77, info4, sz4⟩
instance lu77 : LUc Tryz.prog 77 4 := ⟨Tryz.underlying77, _, _, info4, zr4, sz4⟩
instance st77 : STc Tryz.prog 77 Bool 4 sBool false 1 := ⟨Tryz.underlying77, rfl, _, _, info4, zr4, sz4, rfl, by4, fun _ => ⟨rfl, rfl⟩⟩
instance sl86 : SLc Tryz.prog 86 := ⟨_, _, Tryz.underlying86, info48, sz48⟩
instance lu86 : LUc Tryz.prog 86 48 := ⟨Tryz.underlying86, _, _, info48, zr48, sz48⟩
instance st86 : STc Tryz.prog 86 (List Int) 48 (sOwn 2 (sInt .i64)) [] 24 := ⟨Tryz.underlying86, rfl, _, _, info48, zr48, sz48, rfl, by48, fun _ => nil_own⟩
instance sn91 : SNc Tryz.prog 91 1 := ⟨_, _, Tryz.underlying91, info38, sz38⟩
instance ls91 : LSc Tryz.prog 91 38 1 := ⟨Tryz.underlying91, _, _, info38, zr38, sz38, by decide⟩
theorem by38 : i38.bytes = 24 := by kernel_rfl
instance sb91 : SBc Tryz.prog 91 38 1 24 := ⟨Tryz.underlying91, _, _, info38, zr38, rfl, sz38, by38, by decide⟩
instance sn123 : SNc Tryz.prog 123 3 := ⟨_, _, Tryz.underlying123, info126, sz126⟩
instance ls123 : LSc Tryz.prog 123 126 3 := ⟨Tryz.underlying123, _, _, info126, zr126, sz126, by decide⟩
theorem by126 : i126.bytes = 40 := by kernel_rfl
instance sb123 : SBc Tryz.prog 123 126 3 40 := ⟨Tryz.underlying123, _, _, info126, zr126, rfl, sz126, by126, by decide⟩
instance so2 : STo Tryz.prog 2 1 := ⟨_, info2, sz2⟩
instance so3 : STo Tryz.prog 3 1 := ⟨_, info3, sz3⟩
instance so4 : STo Tryz.prog 4 1 := ⟨_, info4, sz4⟩
instance so24 : STo Tryz.prog 24 1 := ⟨_, info24, sz24⟩
instance so25 : STo Tryz.prog 25 1 := ⟨_, info25, sz25⟩
instance so27 : STo Tryz.prog 27 5 := ⟨_, info27, sz27⟩
instance so32 : STo Tryz.prog 32 7 := ⟨_, info32, sz32⟩
instance so38 : STo Tryz.prog 38 1 := ⟨_, info38, sz38⟩
instance so48 : STo Tryz.prog 48 1 := ⟨_, info48, sz48⟩
instance so57 : STo Tryz.prog 57 1 := ⟨_, info57, sz57⟩
instance so66 : STo Tryz.prog 66 1 := ⟨_, info66, sz66⟩
instance so103 : STo Tryz.prog 103 2 := ⟨_, info103, sz103⟩
instance so126 : STo Tryz.prog 126 3 := ⟨_, info126, sz126⟩
instance zv27 : ZVc Tryz.prog 27 [.int .i64 ((0 : Int)), .slice none 0 0, .slice none 0 0, .slice none 0 0, .slice none 0 0] := ⟨_, _, info27, zr27, rfl⟩
instance zv32 : ZVc Tryz.prog 32 [.int .i64 ((0 : Int)), .slice none 0 0, .slice none 0 0, .slice none 0 0, .slice none 0 0, .slice none 0 0, .slice none 0 0] := ⟨_, _, info32, zr32, rfl⟩
instance zv38 : ZVc Tryz.prog 38 [.slice none 0 0] := ⟨_, _, info38, zr38, rfl⟩
instance zv48 : ZVc Tryz.prog 48 [.slice none 0 0] := ⟨_, _, info48, zr48, rfl⟩
instance zv103 : ZVc Tryz.prog 103 [.int .i64 ((0 : Int)), .int .i64 ((0 : Int))] := ⟨_, _, info103, zr103, rfl⟩
instance zv126 : ZVc Tryz.prog 126 [.int .i64 ((0 : Int)), .int .i64 ((0 : Int)), .slice none 0 0] := ⟨_, _, info126, zr126, rfl⟩
instance fa27_0 : FAc Tryz.prog 27 0 0 := ⟨_, _, _, Tryz.underlying27, rfl, info2, ne2, rfl⟩
instance fa27_1 : FAc Tryz.prog 27 1 1 := ⟨_, _, _, Tryz.underlying27, rfl, info24, ne24, rfl⟩
instance fa27_2 : FAc Tryz.prog 27 2 2 := ⟨_, _, _, Tryz.underlying27, rfl, info24, ne24, rfl⟩
instance fa27_3 : FAc Tryz.prog 27 3 3 := ⟨_, _, _, Tryz.underlying27, rfl, info24, ne24, rfl⟩
instance fa27_4 : FAc Tryz.prog 27 4 4 := ⟨_, _, _, Tryz.underlying27, rfl, info25, ne25, rfl⟩
instance fa32_0 : FAc Tryz.prog 32 0 0 := ⟨_, _, _, Tryz.underlying32, rfl, info27, ne27, rfl⟩
instance fa32_1 : FAc Tryz.prog 32 1 5 := ⟨_, _, _, Tryz.underlying32, rfl, info24, ne24, rfl⟩
instance fa32_2 : FAc Tryz.prog 32 2 6 := ⟨_, _, _, Tryz.underlying32, rfl, info25, ne25, rfl⟩
instance fa38_0 : FAc Tryz.prog 38 0 0 := ⟨_, _, _, Tryz.underlying38, rfl, info25, ne25, rfl⟩
instance fa59_0 : FAc Tryz.prog 59 0 0 := ⟨_, _, _, Tryz.underlying59, rfl, info32, ne32, rfl⟩
instance fa59_1 : FAc Tryz.prog 59 1 7 := ⟨_, _, _, Tryz.underlying59, rfl, info57, ne57, rfl⟩
instance fa68_0 : FAc Tryz.prog 68 0 0 := ⟨_, _, _, Tryz.underlying68, rfl, info22, ne22, rfl⟩
instance fa68_1 : FAc Tryz.prog 68 1 1 := ⟨_, _, _, Tryz.underlying68, rfl, info3, ne3, rfl⟩
instance fa68_2 : FAc Tryz.prog 68 2 2 := ⟨_, _, _, Tryz.underlying68, rfl, info66, ne66, rfl⟩
instance fa126_0 : FAc Tryz.prog 126 0 0 := ⟨_, _, _, Tryz.underlying126, rfl, info2, ne2, rfl⟩
instance fa126_1 : FAc Tryz.prog 126 1 1 := ⟨_, _, _, Tryz.underlying126, rfl, info2, ne2, rfl⟩
instance fa126_2 : FAc Tryz.prog 126 2 2 := ⟨_, _, _, Tryz.underlying126, rfl, info24, ne24, rfl⟩
instance ic_3_66 : ICc Tryz.prog 3 66 .u64 := ⟨by rw [Tryz.underlying3]; rfl, Tryz.underlying66⟩
instance ic_3_69 : ICc Tryz.prog 3 69 .u64 := ⟨by rw [Tryz.underlying3]; rfl, Tryz.underlying69⟩
instance ic_5_2 : ICc Tryz.prog 5 2 .i64 := ⟨by rw [Tryz.underlying5]; rfl, Tryz.underlying2⟩
instance ic_5_66 : ICc Tryz.prog 5 66 .u64 := ⟨by rw [Tryz.underlying5]; rfl, Tryz.underlying66⟩
instance ic_66_2 : ICc Tryz.prog 66 2 .i64 := ⟨by rw [Tryz.underlying66]; rfl, Tryz.underlying2⟩
instance bl4 : BLc Tryz.prog 4 := ⟨Tryz.underlying4⟩
instance bu27 : BuC Tryz.prog 27 [.int .i64 ((0 : Int)), .slice none 0 0, .slice none 0 0, .slice none 0 0, .slice none 0 0] [(0, 1), (1, 1), (2, 1), (3, 1), (4, 1)] := ⟨_, _, _, Tryz.underlying27, by kernel_rfl, info27, zr27, rfl⟩
instance bu32 : BuC Tryz.prog 32 [.int .i64 ((0 : Int)), .slice none 0 0, .slice none 0 0, .slice none 0 0, .slice none 0 0, .slice none 0 0, .slice none 0 0] [(0, 5), (5, 1), (6, 1)] := ⟨_, _, _, Tryz.underlying32, by kernel_rfl, info32, zr32, rfl⟩
instance bu38 : BuC Tryz.prog 38 [.slice none 0 0] [(0, 1)] := ⟨_, _, _, Tryz.underlying38, by kernel_rfl, info38, zr38, rfl⟩
instance bu59 : BuC Tryz.prog 59 [.int .i64 ((0 : Int)), .slice none 0 0, .slice none 0 0, .slice none 0 0, .slice none 0 0, .slice none 0 0, .slice none 0 0, .slice none 0 0] [(0, 7), (7, 1)] := ⟨_, _, _, Tryz.underlying59, by kernel_rfl, info59, zr59, rfl⟩
instance bu68 : BuC Tryz.prog 68 [.slice none 0 0, .int .i64 ((0 : Int)), .int .u64 ((0 : Int))] [(0, 1), (1, 1), (2, 1)] := ⟨_, _, _, Tryz.underlying68, by kernel_rfl, info68, zr68, rfl⟩
instance bu103 : BuC Tryz.prog 103 [.int .i64 ((0 : Int)), .int .i64 ((0 : Int))] [(0, 1), (1, 1)] := ⟨_, _, _, Tryz.underlying103, by kernel_rfl, info103, zr103, rfl⟩
instance bu126 : BuC Tryz.prog 126 [.int .i64 ((0 : Int)), .int .i64 ((0 : Int)), .slice none 0 0] [(0, 1), (1, 1), (2, 1)] := ⟨_, _, _, Tryz.underlying126, by kernel_rfl, info126, zr126, rfl⟩
instance s2103 : S2c Tryz.prog 103 .i64 .i64 := ⟨_, _, Tryz.underlying103, by decide, by decide, Tryz.underlying2, Tryz.underlying2, rfl, rfl, by kernel_rfl, by kernel_rfl⟩
instance if48 : IFc Tryz.prog 48 := ⟨_, Tryz.underlying48, rfl⟩
instance ia48_74 : IAc Tryz.prog 48 74 := ⟨(match Tryz.prog.underlying 74 with | some (.interface w) => w | _ => #[]), _, by kernel_rfl, info48, by kernel_rfl⟩
instance im48_128 : IMc Tryz.prog 48 (i48.methods.getD 0 default).name 128 := ⟨i48, i48.methods.getD 0 default, _, _, _, info48, by kernel_rfl, by kernel_rfl, by kernel_rfl, Tryz.underlying48, (fun _ h => nomatch h), Tryz.func128, rfl, rfl⟩
instance fn4 : FnC Tryz.prog 4 := ⟨_, _, Tryz.func4, rfl, by kernel_rfl⟩
instance fn5 : FnC Tryz.prog 5 := ⟨_, _, Tryz.func5, rfl, by kernel_rfl⟩
instance fn6 : FnC Tryz.prog 6 := ⟨_, _, Tryz.func6, rfl, by kernel_rfl⟩
instance fn7 : FnC Tryz.prog 7 := ⟨_, _, Tryz.func7, rfl, by kernel_rfl⟩
instance fn8 : FnC Tryz.prog 8 := ⟨_, _, Tryz.func8, rfl, by kernel_rfl⟩
instance fn9 : FnC Tryz.prog 9 := ⟨_, _, Tryz.func9, rfl, by kernel_rfl⟩
instance fn10 : FnC Tryz.prog 10 := ⟨_, _, Tryz.func10, rfl, by kernel_rfl⟩
instance fn11 : FnC Tryz.prog 11 := ⟨_, _, Tryz.func11, rfl, by kernel_rfl⟩
instance fn12 : FnC Tryz.prog 12 := ⟨_, _, Tryz.func12, rfl, by kernel_rfl⟩
instance fn13 : FnC Tryz.prog 13 := ⟨_, _, Tryz.func13, rfl, by kernel_rfl⟩
instance fn14 : FnC Tryz.prog 14 := ⟨_, _, Tryz.func14, rfl, by kernel_rfl⟩
instance fn15 : FnC Tryz.prog 15 := ⟨_, _, Tryz.func15, rfl, by kernel_rfl⟩
instance fn16 : FnC Tryz.prog 16 := ⟨_, _, Tryz.func16, rfl, by kernel_rfl⟩
instance fn17 : FnC Tryz.prog 17 := ⟨_, _, Tryz.func17, rfl, by kernel_rfl⟩
instance fn18 : FnC Tryz.prog 18 := ⟨_, _, Tryz.func18, rfl, by kernel_rfl⟩
instance fn19 : FnC Tryz.prog 19 := ⟨_, _, Tryz.func19, rfl, by kernel_rfl⟩
instance fn20 : FnC Tryz.prog 20 := ⟨_, _, Tryz.func20, rfl, by kernel_rfl⟩
instance fn21 : FnC Tryz.prog 21 := ⟨_, _, Tryz.func21, rfl, by kernel_rfl⟩
instance fn22 : FnC Tryz.prog 22 := ⟨_, _, Tryz.func22, rfl, by kernel_rfl⟩
instance fn23 : FnC Tryz.prog 23 := ⟨_, _, Tryz.func23, rfl, by kernel_rfl⟩
instance fn24 : FnC Tryz.prog 24 := ⟨_, _, Tryz.func24, rfl, by kernel_rfl⟩
instance fn25 : FnC Tryz.prog 25 := ⟨_, _, Tryz.func25, rfl, by kernel_rfl⟩
instance fn26 : FnC Tryz.prog 26 := ⟨_, _, Tryz.func26, rfl, by kernel_rfl⟩
instance fn27 : FnC Tryz.prog 27 := ⟨_, _, Tryz.func27, rfl, by kernel_rfl⟩
instance fn28 : FnC Tryz.prog 28 := ⟨_, _, Tryz.func28, rfl, by kernel_rfl⟩
instance fn29 : FnC Tryz.prog 29 := ⟨_, _, Tryz.func29, rfl, by kernel_rfl⟩
instance fn30 : FnC Tryz.prog 30 := ⟨_, _, Tryz.func30, rfl, by kernel_rfl⟩
instance fn31 : FnC Tryz.prog 31 := ⟨_, _, Tryz.func31, rfl, by kernel_rfl⟩
instance fn32 : FnC Tryz.prog 32 := ⟨_, _, Tryz.func32, rfl, by kernel_rfl⟩
instance fn33 : FnC Tryz.prog 33 := ⟨_, _, Tryz.func33, rfl, by kernel_rfl⟩
instance fn34 : FnC Tryz.prog 34 := ⟨_, _, Tryz.func34, rfl, by kernel_rfl⟩
instance fn35 : FnC Tryz.prog 35 := ⟨_, _, Tryz.func35, rfl, by kernel_rfl⟩
instance fn36 : FnC Tryz.prog 36 := ⟨_, _, Tryz.func36, rfl, by kernel_rfl⟩
instance fn37 : FnC Tryz.prog 37 := ⟨_, _, Tryz.func37, rfl, by kernel_rfl⟩
instance fn38 : FnC Tryz.prog 38 := ⟨_, _, Tryz.func38, rfl, by kernel_rfl⟩
instance fn39 : FnC Tryz.prog 39 := ⟨_, _, Tryz.func39, rfl, by kernel_rfl⟩
instance fn40 : FnC Tryz.prog 40 := ⟨_, _, Tryz.func40, rfl, by kernel_rfl⟩
instance fn41 : FnC Tryz.prog 41 := ⟨_, _, Tryz.func41, rfl, by kernel_rfl⟩
instance fn42 : FnC Tryz.prog 42 := ⟨_, _, Tryz.func42, rfl, by kernel_rfl⟩
instance fn43 : FnC Tryz.prog 43 := ⟨_, _, Tryz.func43, rfl, by kernel_rfl⟩
instance fn44 : FnC Tryz.prog 44 := ⟨_, _, Tryz.func44, rfl, by kernel_rfl⟩
instance fn45 : FnC Tryz.prog 45 := ⟨_, _, Tryz.func45, rfl, by kernel_rfl⟩
instance fn46 : FnC Tryz.prog 46 := ⟨_, _, Tryz.func46, rfl, by kernel_rfl⟩
instance fn47 : FnC Tryz.prog 47 := ⟨_, _, Tryz.func47, rfl, by kernel_rfl⟩
instance fn48 : FnC Tryz.prog 48 := ⟨_, _, Tryz.func48, rfl, by kernel_rfl⟩
instance fn49 : FnC Tryz.prog 49 := ⟨_, _, Tryz.func49, rfl, by kernel_rfl⟩
instance fn50 : FnC Tryz.prog 50 := ⟨_, _, Tryz.func50, rfl, by kernel_rfl⟩
instance fn51 : FnC Tryz.prog 51 := ⟨_, _, Tryz.func51, rfl, by kernel_rfl⟩
instance fn52 : FnC Tryz.prog 52 := ⟨_, _, Tryz.func52, rfl, by kernel_rfl⟩
instance fn53 : FnC Tryz.prog 53 := ⟨_, _, Tryz.func53, rfl, by kernel_rfl⟩
instance fn54 : FnC Tryz.prog 54 := ⟨_, _, Tryz.func54, rfl, by kernel_rfl⟩
instance fn55 : FnC Tryz.prog 55 := ⟨_, _, Tryz.func55, rfl, by kernel_rfl⟩
instance fn56 : FnC Tryz.prog 56 := ⟨_, _, Tryz.func56, rfl, by kernel_rfl⟩
instance fn57 : FnC Tryz.prog 57 := ⟨_, _, Tryz.func57, rfl, by kernel_rfl⟩
instance fn58 : FnC Tryz.prog 58 := ⟨_, _, Tryz.func58, rfl, by kernel_rfl⟩
instance fn59 : FnC Tryz.prog 59 := ⟨_, _, Tryz.func59, rfl, by kernel_rfl⟩
instance fn60 : FnC Tryz.prog 60 := ⟨_, _, Tryz.func60, rfl, by kernel_rfl⟩
instance fn61 : FnC Tryz.prog 61 := ⟨_, _, Tryz.func61, rfl, by kernel_rfl⟩
instance fn62 : FnC Tryz.prog 62 := ⟨_, _, Tryz.func62, rfl, by kernel_rfl⟩
instance fn63 : FnC Tryz.prog 63 := ⟨_, _, Tryz.func63, rfl, by kernel_rfl⟩
instance fn64 : FnC Tryz.prog 64 := ⟨_, _, Tryz.func64, rfl, by kernel_rfl⟩
instance fn65 : FnC Tryz.prog 65 := ⟨_, _, Tryz.func65, rfl, by kernel_rfl⟩
instance fn66 : FnC Tryz.prog 66 := ⟨_, _, Tryz.func66, rfl, by kernel_rfl⟩
instance fn67 : FnC Tryz.prog 67 := ⟨_, _, Tryz.func67, rfl, by kernel_rfl⟩
instance fn68 : FnC Tryz.prog 68 := ⟨_, _, Tryz.func68, rfl, by kernel_rfl⟩
instance fn69 : FnC Tryz.prog 69 := ⟨_, _, Tryz.func69, rfl, by kernel_rfl⟩
instance fn70 : FnC Tryz.prog 70 := ⟨_, _, Tryz.func70, rfl, by kernel_rfl⟩
instance fn72 : FnC Tryz.prog 72 := ⟨_, _, Tryz.func72, rfl, by kernel_rfl⟩
instance fn73 : FnC Tryz.prog 73 := ⟨_, _, Tryz.func73, rfl, by kernel_rfl⟩
instance fn74 : FnC Tryz.prog 74 := ⟨_, _, Tryz.func74, rfl, by kernel_rfl⟩
instance fn75 : FnC Tryz.prog 75 := ⟨_, _, Tryz.func75, rfl, by kernel_rfl⟩
instance fn76 : FnC Tryz.prog 76 := ⟨_, _, Tryz.func76, rfl, by kernel_rfl⟩
instance fn77 : FnC Tryz.prog 77 := ⟨_, _, Tryz.func77, rfl, by kernel_rfl⟩
instance fn78 : FnC Tryz.prog 78 := ⟨_, _, Tryz.func78, rfl, by kernel_rfl⟩
instance fn79 : FnC Tryz.prog 79 := ⟨_, _, Tryz.func79, rfl, by kernel_rfl⟩
instance fn80 : FnC Tryz.prog 80 := ⟨_, _, Tryz.func80, rfl, by kernel_rfl⟩
instance fn81 : FnC Tryz.prog 81 := ⟨_, _, Tryz.func81, rfl, by kernel_rfl⟩
instance fn82 : FnC Tryz.prog 82 := ⟨_, _, Tryz.func82, rfl, by kernel_rfl⟩
instance fn83 : FnC Tryz.prog 83 := ⟨_, _, Tryz.func83, rfl, by kernel_rfl⟩
instance fn84 : FnC Tryz.prog 84 := ⟨_, _, Tryz.func84, rfl, by kernel_rfl⟩
instance fn85 : FnC Tryz.prog 85 := ⟨_, _, Tryz.func85, rfl, by kernel_rfl⟩
instance fn86 : FnC Tryz.prog 86 := ⟨_, _, Tryz.func86, rfl, by kernel_rfl⟩
instance fn87 : FnC Tryz.prog 87 := ⟨_, _, Tryz.func87, rfl, by kernel_rfl⟩
instance fn88 : FnC Tryz.prog 88 := ⟨_, _, Tryz.func88, rfl, by kernel_rfl⟩
instance fn89 : FnC Tryz.prog 89 := ⟨_, _, Tryz.func89, rfl, by kernel_rfl⟩
instance fn90 : FnC Tryz.prog 90 := ⟨_, _, Tryz.func90, rfl, by kernel_rfl⟩
instance fn91 : FnC Tryz.prog 91 := ⟨_, _, Tryz.func91, rfl, by kernel_rfl⟩
instance fn92 : FnC Tryz.prog 92 := ⟨_, _, Tryz.func92, rfl, by kernel_rfl⟩
instance fn93 : FnC Tryz.prog 93 := ⟨_, _, Tryz.func93, rfl, by kernel_rfl⟩
instance fn94 : FnC Tryz.prog 94 := ⟨_, _, Tryz.func94, rfl, by kernel_rfl⟩
instance fn105 : FnC Tryz.prog 105 := ⟨_, _, Tryz.func105, rfl, by kernel_rfl⟩
instance fn111 : FnC Tryz.prog 111 := ⟨_, _, Tryz.func111, rfl, by kernel_rfl⟩
end Go.Proofs.YtbedkejmebepcaaGreat
