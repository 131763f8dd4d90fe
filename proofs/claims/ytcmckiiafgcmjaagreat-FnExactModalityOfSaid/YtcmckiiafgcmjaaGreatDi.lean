/- Closed facts on types, as instances. No condition. -/
import Derived.Test.YtcmckiiafgcmjaaGreatDg
import Derived.Test.YtcmckiiafgcmjaaGreatLn
import Derived.Test.YtcmckiiafgcmjaaGreatChecked
import Derived.KernelRfl
namespace Go.Proofs.YtcmckiiafgcmjaaGreat
open Go Go.Li Go.Dk
set_option linter.unusedVariables false
set_option maxRecDepth 100000
theorem hmix : Tryz.prog.follows .mixedOrders = true := by kernel_rfl
theorem Wq {n id : Nat} {Q : Exit → (Nat → Value) → World → Prop} {r : Nat → Value} {w0 w : World} {l : List Oper} (hd : dstOk n l = true) (hC : Chg [] w0 w) (h : QL Tryz.prog (Chg [] w0) l l r fun r' => ∀ w', Chg [] w0 w' → Q .normal r' w') : W Tryz.prog n (.region id l.toArray false) Q r w :=
  W_quiet hmix hd (fun h => nomatch h) hC (hC.trans (Chg.drew _ _)) h
noncomputable def i2 : TypeInfo := (Tryz.prog.info? 2).getD default
theorem info2 : Tryz.prog.info? 2 = some i2 := by kernel_rfl
theorem sz2 : i2.size = 1 := by kernel_rfl
theorem ne2 : i2.size ≠ 0 := by rw [sz2]; decide
theorem zr2 : i2.zero = some (.int .i64 0) := by kernel_rfl
theorem by2 : i2.bytes = 8 := by kernel_rfl
noncomputable def i4 : TypeInfo := (Tryz.prog.info? 4).getD default
theorem info4 : Tryz.prog.info? 4 = some i4 := by kernel_rfl
theorem sz4 : i4.size = 1 := by kernel_rfl
theorem ne4 : i4.size ≠ 0 := by rw [sz4]; decide
theorem zr4 : i4.zero = some (.bool false) := by kernel_rfl
theorem by4 : i4.bytes = 1 := by kernel_rfl
noncomputable def i22 : TypeInfo := (Tryz.prog.info? 22).getD default
theorem info22 : Tryz.prog.info? 22 = some i22 := by kernel_rfl
theorem sz22 : i22.size = 1 := by kernel_rfl
theorem ne22 : i22.size ≠ 0 := by rw [sz22]; decide
theorem zr22 : i22.zero = some (.slice none 0 0) := by kernel_rfl
theorem by22 : i22.bytes = 24 := by kernel_rfl
noncomputable def i23 : TypeInfo := (Tryz.prog.info? 23).getD default
theorem info23 : Tryz.prog.info? 23 = some i23 := by kernel_rfl
theorem sz23 : i23.size = 1 := by kernel_rfl
theorem ne23 : i23.size ≠ 0 := by rw [sz23]; decide
theorem zr23 : i23.zero = some (.slice none 0 0) := by kernel_rfl
theorem by23 : i23.bytes = 24 := by kernel_rfl
noncomputable def i25 : TypeInfo := (Tryz.prog.info? 25).getD default
theorem info25 : Tryz.prog.info? 25 = some i25 := by kernel_rfl
theorem sz25 : i25.size = 5 := by kernel_rfl
theorem ne25 : i25.size ≠ 0 := by rw [sz25]; decide
noncomputable def i26 : TypeInfo := (Tryz.prog.info? 26).getD default
theorem info26 : Tryz.prog.info? 26 = some i26 := by kernel_rfl
theorem sz26 : i26.size = 1 := by kernel_rfl
theorem ne26 : i26.size ≠ 0 := by rw [sz26]; decide
theorem zr26 : i26.zero = some (.slice none 0 0) := by kernel_rfl
theorem by26 : i26.bytes = 24 := by kernel_rfl
noncomputable def i28 : TypeInfo := (Tryz.prog.info? 28).getD default
theorem info28 : Tryz.prog.info? 28 = some i28 := by kernel_rfl
theorem sz28 : i28.size = 6 := by kernel_rfl
theorem ne28 : i28.size ≠ 0 := by rw [sz28]; decide
noncomputable def i32 : TypeInfo := (Tryz.prog.info? 32).getD default
theorem info32 : Tryz.prog.info? 32 = some i32 := by kernel_rfl
theorem sz32 : i32.size = 5 := by kernel_rfl
theorem ne32 : i32.size ≠ 0 := by rw [sz32]; decide
theorem zr32 : i32.zero = some (.agg #[.int .i64 ((0 : Int)), .slice none 0 0, .slice none 0 0, .slice none 0 0, .slice none 0 0]) := by kernel_rfl
noncomputable def i34 : TypeInfo := (Tryz.prog.info? 34).getD default
theorem info34 : Tryz.prog.info? 34 = some i34 := by kernel_rfl
theorem sz34 : i34.size = 6 := by kernel_rfl
theorem ne34 : i34.size ≠ 0 := by rw [sz34]; decide
theorem zr34 : i34.zero = some (.agg #[.int .i64 ((0 : Int)), .slice none 0 0, .slice none 0 0, .slice none 0 0, .slice none 0 0, .slice none 0 0]) := by kernel_rfl
noncomputable def i66 : TypeInfo := (Tryz.prog.info? 66).getD default
theorem info66 : Tryz.prog.info? 66 = some i66 := by kernel_rfl
theorem sz66 : i66.size = 7 := by kernel_rfl
theorem ne66 : i66.size ≠ 0 := by rw [sz66]; decide
theorem zr66 : i66.zero = some (.agg #[.int .i64 ((0 : Int)), .slice none 0 0, .slice none 0 0, .slice none 0 0, .slice none 0 0, .slice none 0 0, .slice none 0 0]) := by kernel_rfl
noncomputable def i68 : TypeInfo := (Tryz.prog.info? 68).getD default
theorem info68 : Tryz.prog.info? 68 = some i68 := by kernel_rfl
theorem sz68 : i68.size = 15 := by kernel_rfl
theorem ne68 : i68.size ≠ 0 := by rw [sz68]; decide
theorem zr68 : i68.zero = some (.agg #[.int .i64 ((0 : Int)), .slice none 0 0, .slice none 0 0, .slice none 0 0, .slice none 0 0, .slice none 0 0, .slice none 0 0, .int .i64 ((0 : Int)), .slice none 0 0, .slice none 0 0, .slice none 0 0, .slice none 0 0, .slice none 0 0, .slice none 0 0, .slice none 0 0]) := by kernel_rfl
noncomputable def i96 : TypeInfo := (Tryz.prog.info? 96).getD default
theorem info96 : Tryz.prog.info? 96 = some i96 := by kernel_rfl
theorem sz96 : i96.size = 8 := by kernel_rfl
theorem ne96 : i96.size ≠ 0 := by rw [sz96]; decide
theorem zr96 : i96.zero = some (.agg #[.int .i64 ((0 : Int)), .slice none 0 0, .slice none 0 0, .slice none 0 0, .slice none 0 0, .slice none 0 0, .slice none 0 0, .slice none 0 0]) := by kernel_rfl
noncomputable def i97 : TypeInfo := (Tryz.prog.info? 97).getD default
theorem info97 : Tryz.prog.info? 97 = some i97 := by kernel_rfl
theorem sz97 : i97.size = 1 := by kernel_rfl
theorem ne97 : i97.size ≠ 0 := by rw [sz97]; decide
theorem zr97 : i97.zero = some (.slice none 0 0) := by kernel_rfl
theorem by97 : i97.bytes = 24 := by kernel_rfl
noncomputable def i102 : TypeInfo := (Tryz.prog.info? 102).getD default
theorem info102 : Tryz.prog.info? 102 = some i102 := by kernel_rfl
theorem sz102 : i102.size = 1 := by kernel_rfl
theorem ne102 : i102.size ≠ 0 := by rw [sz102]; decide
theorem zr102 : i102.zero = some (.pointer none) := by kernel_rfl
theorem by102 : i102.bytes = 8 := by kernel_rfl
noncomputable def i114 : TypeInfo := (Tryz.prog.info? 114).getD default
theorem info114 : Tryz.prog.info? 114 = some i114 := by kernel_rfl
theorem sz114 : i114.size = 1 := by kernel_rfl
theorem ne114 : i114.size ≠ 0 := by rw [sz114]; decide
theorem zr114 : i114.zero = some (.slice none 0 0) := by kernel_rfl
theorem by114 : i114.bytes = 24 := by kernel_rfl
noncomputable def i118 : TypeInfo := (Tryz.prog.info? 118).getD default
theorem info118 : Tryz.prog.info? 118 = some i118 := by kernel_rfl
theorem sz118 : i118.size = 1 := by kernel_rfl
theorem ne118 : i118.size ≠ 0 := by rw [sz118]; decide
theorem zr118 : i118.zero = some (.slice none 0 0) := by kernel_rfl
theorem by118 : i118.bytes = 24 := by kernel_rfl
noncomputable def i131 : TypeInfo := (Tryz.prog.info? 131).getD default
theorem info131 : Tryz.prog.info? 131 = some i131 := by kernel_rfl
theorem sz131 : i131.size = 1 := by kernel_rfl
theorem ne131 : i131.size ≠ 0 := by rw [sz131]; decide
theorem zr131 : i131.zero = some (.pointer none) := by kernel_rfl
theorem by131 : i131.bytes = 8 := by kernel_rfl
noncomputable def i138 : TypeInfo := (Tryz.prog.info? 138).getD default
theorem info138 : Tryz.prog.info? 138 = some i138 := by kernel_rfl
theorem sz138 : i138.size = 1 := by kernel_rfl
theorem ne138 : i138.size ≠ 0 := by rw [sz138]; decide
theorem zr138 : i138.zero = some (.slice none 0 0) := by kernel_rfl
theorem by138 : i138.bytes = 24 := by kernel_rfl
noncomputable def i141 : TypeInfo := (Tryz.prog.info? 141).getD default
theorem info141 : Tryz.prog.info? 141 = some i141 := by kernel_rfl
theorem sz141 : i141.size = 1 := by kernel_rfl
theorem ne141 : i141.size ≠ 0 := by rw [sz141]; decide
theorem zr141 : i141.zero = some (.pointer none) := by kernel_rfl
theorem by141 : i141.bytes = 8 := by kernel_rfl
noncomputable def i142 : TypeInfo := (Tryz.prog.info? 142).getD default
theorem info142 : Tryz.prog.info? 142 = some i142 := by kernel_rfl
theorem sz142 : i142.size = 1 := by kernel_rfl
theorem ne142 : i142.size ≠ 0 := by rw [sz142]; decide
theorem zr142 : i142.zero = some (.pointer none) := by kernel_rfl
theorem by142 : i142.bytes = 8 := by kernel_rfl
noncomputable def i144 : TypeInfo := (Tryz.prog.info? 144).getD default
theorem info144 : Tryz.prog.info? 144 = some i144 := by kernel_rfl
theorem sz144 : i144.size = 4 := by kernel_rfl
theorem ne144 : i144.size ≠ 0 := by rw [sz144]; decide
theorem zr144 : i144.zero = some (.agg #[.pointer none, .pointer none, .slice none 0 0, .pointer none]) := by kernel_rfl
noncomputable def i149 : TypeInfo := (Tryz.prog.info? 149).getD default
theorem info149 : Tryz.prog.info? 149 = some i149 := by kernel_rfl
theorem sz149 : i149.size = 1 := by kernel_rfl
theorem ne149 : i149.size ≠ 0 := by rw [sz149]; decide
theorem zr149 : i149.zero = some (.slice none 0 0) := by kernel_rfl
theorem by149 : i149.bytes = 24 := by kernel_rfl
noncomputable def i151 : TypeInfo := (Tryz.prog.info? 151).getD default
theorem info151 : Tryz.prog.info? 151 = some i151 := by kernel_rfl
theorem sz151 : i151.size = 8 := by kernel_rfl
theorem ne151 : i151.size ≠ 0 := by rw [sz151]; decide
theorem zr151 : i151.zero = some (.agg #[.int .i64 ((0 : Int)), .slice none 0 0, .slice none 0 0, .slice none 0 0, .slice none 0 0, .slice none 0 0, .slice none 0 0, .slice none 0 0]) := by kernel_rfl
noncomputable def i197 : TypeInfo := (Tryz.prog.info? 197).getD default
theorem info197 : Tryz.prog.info? 197 = some i197 := by kernel_rfl
theorem sz197 : i197.size = 1 := by kernel_rfl
theorem ne197 : i197.size ≠ 0 := by rw [sz197]; decide
theorem zr197 : i197.zero = some (.agg #[.int .i64 ((0 : Int))]) := by kernel_rfl
noncomputable def i238 : TypeInfo := (Tryz.prog.info? 238).getD default
theorem info238 : Tryz.prog.info? 238 = some i238 := by kernel_rfl
theorem sz238 : i238.size = 2 := by kernel_rfl
theorem ne238 : i238.size ≠ 0 := by rw [sz238]; decide
theorem zr238 : i238.zero = some (.agg #[.int .i64 ((0 : Int)), .int .i64 ((0 : Int))]) := by kernel_rfl
instance lk2 : LK Tryz.prog 2 none := ⟨_, Tryz.underlying2, rfl⟩
instance lk4 : LK Tryz.prog 4 none := ⟨_, Tryz.underlying4, rfl⟩
instance lk22 : LK Tryz.prog 22 none := ⟨_, Tryz.underlying22, rfl⟩
instance lk23 : LK Tryz.prog 23 none := ⟨_, Tryz.underlying23, rfl⟩
instance lk25 : LK Tryz.prog 25 (some 5) := ⟨_, _, Tryz.underlying25, rfl, info25, sz25⟩
instance lk26 : LK Tryz.prog 26 none := ⟨_, Tryz.underlying26, rfl⟩
instance lk28 : LK Tryz.prog 28 (some 6) := ⟨_, _, Tryz.underlying28, rfl, info28, sz28⟩
instance lk32 : LK Tryz.prog 32 (some 5) := ⟨_, _, Tryz.underlying32, rfl, info32, sz32⟩
instance lk34 : LK Tryz.prog 34 (some 6) := ⟨_, _, Tryz.underlying34, rfl, info34, sz34⟩
instance lk66 : LK Tryz.prog 66 (some 7) := ⟨_, _, Tryz.underlying66, rfl, info66, sz66⟩
instance lk68 : LK Tryz.prog 68 (some 15) := ⟨_, _, Tryz.underlying68, rfl, info68, sz68⟩
instance lk96 : LK Tryz.prog 96 (some 8) := ⟨_, _, Tryz.underlying96, rfl, info96, sz96⟩
instance lk97 : LK Tryz.prog 97 none := ⟨_, Tryz.underlying97, rfl⟩
instance lk102 : LK Tryz.prog 102 none := ⟨_, Tryz.underlying102, rfl⟩
instance lk114 : LK Tryz.prog 114 none := ⟨_, Tryz.underlying114, rfl⟩
instance lk118 : LK Tryz.prog 118 none := ⟨_, Tryz.underlying118, rfl⟩
instance lk131 : LK Tryz.prog 131 none := ⟨_, Tryz.underlying131, rfl⟩
instance lk138 : LK Tryz.prog 138 none := ⟨_, Tryz.underlying138, rfl⟩
instance lk141 : LK Tryz.prog 141 none := ⟨_, Tryz.underlying141, rfl⟩
instance lk142 : LK Tryz.prog 142 none := ⟨_, Tryz.underlying142, rfl⟩
instance lk149 : LK Tryz.prog 149 none := ⟨_, Tryz.underlying149, rfl⟩
instance lk238 : LK Tryz.prog 238 (some 2) := ⟨_, _, Tryz.underlying238, rfl, info238, sz238⟩
instance sl22 : SLc Tryz.prog 22 := ⟨_, _, Tryz.underlying22, info2, sz2⟩
instance st22 : STc Tryz.prog 22 Int 2 (sInt .i64) 0 8 := ⟨Tryz.underlying22, rfl, _, _, info2, zr2, sz2, rfl, by2, fun _ => ⟨rfl, rfl⟩⟩
instance sl23 : SLc Tryz.prog 23 := ⟨_, _, Tryz.underlying23, info22, sz22⟩
instance st23 : STc Tryz.prog 23 (List Int) 22 (sOwn 2 (sInt .i64)) [] 24 := ⟨Tryz.underlying23, rfl, _, _, info22, zr22, sz22, rfl, by22, fun _ => nil_own⟩
instance sl26 : SLc Tryz.prog 26 := ⟨_, _, Tryz.underlying26, info23, sz23⟩
instance st26 : STc Tryz.prog 26 (List (List Int)) 23 (sOwn 22 (sOwn 2 (sInt .i64))) [] 24 := ⟨Tryz.underlying26, rfl, _, _, info23, zr23, sz23, rfl, by23, fun _ => nil_own⟩
instance sl97 : SLc Tryz.prog 97 := ⟨_, _, Tryz.underlying97, info138, sz138⟩
instance st97 : STc Tryz.prog 97 (List Bool) 138 (sOwn 4 sBool) [] 24 := ⟨Tryz.underlying97, rfl, _, _, info138, zr138, sz138, rfl, by138, fun _ => nil_own⟩
instance sl114 : SLc Tryz.prog 114 := ⟨_, _, Tryz.underlying114, info2, sz2⟩
instance st114 : STc Tryz.prog 114 Int 2 (sInt .i64) 0 8 := ⟨Tryz.underlying114, rfl, _, _, info2, zr2, sz2, rfl, by2, fun _ => ⟨rfl, rfl⟩⟩
instance sl118 : SLc Tryz.prog 118 := ⟨_, _, Tryz.underlying118, info114, sz114⟩
instance st118 : STc Tryz.prog 118 (List Int) 114 (sOwn 2 (sInt .i64)) [] 24 := ⟨Tryz.underlying118, rfl, _, _, info114, zr114, sz114, rfl, by114, fun _ => nil_own⟩
instance sl138 : SLc Tryz.prog 138 := ⟨_, _, Tryz.underlying138, info4, sz4⟩
instance st138 : STc Tryz.prog 138 Bool 4 sBool false 1 := ⟨Tryz.underlying138, rfl, _, _, info4, zr4, sz4, rfl, by4, fun _ => ⟨rfl, rfl⟩⟩
instance sl149 : SLc Tryz.prog 149 := ⟨_, _, Tryz.underlying149, info118, sz118⟩
instance st149 : STc Tryz.prog 149 (List (List Int)) 118 (sOwn 114 (sOwn 2 (sInt .i64))) [] 24 := ⟨Tryz.underlying149, rfl, _, _, info118, zr118, sz118, rfl, by118, fun _ => nil_own⟩
instance so2 : STo Tryz.prog 2 1 := ⟨_, info2, sz2⟩
instance so4 : STo Tryz.prog 4 1 := ⟨_, info4, sz4⟩
instance so22 : STo Tryz.prog 22 1 := ⟨_, info22, sz22⟩
instance so23 : STo Tryz.prog 23 1 := ⟨_, info23, sz23⟩
instance so26 : STo Tryz.prog 26 1 := ⟨_, info26, sz26⟩
instance so32 : STo Tryz.prog 32 5 := ⟨_, info32, sz32⟩
instance so34 : STo Tryz.prog 34 6 := ⟨_, info34, sz34⟩
instance so66 : STo Tryz.prog 66 7 := ⟨_, info66, sz66⟩
instance so68 : STo Tryz.prog 68 15 := ⟨_, info68, sz68⟩
instance so96 : STo Tryz.prog 96 8 := ⟨_, info96, sz96⟩
instance so97 : STo Tryz.prog 97 1 := ⟨_, info97, sz97⟩
instance so114 : STo Tryz.prog 114 1 := ⟨_, info114, sz114⟩
instance so149 : STo Tryz.prog 149 1 := ⟨_, info149, sz149⟩
instance so238 : STo Tryz.prog 238 2 := ⟨_, info238, sz238⟩
instance zv4 : ZVc Tryz.prog 4 [.bool false] := ⟨_, _, info4, zr4, rfl⟩
instance zv32 : ZVc Tryz.prog 32 [.int .i64 ((0 : Int)), .slice none 0 0, .slice none 0 0, .slice none 0 0, .slice none 0 0] := ⟨_, _, info32, zr32, rfl⟩
instance zv34 : ZVc Tryz.prog 34 [.int .i64 ((0 : Int)), .slice none 0 0, .slice none 0 0, .slice none 0 0, .slice none 0 0, .slice none 0 0] := ⟨_, _, info34, zr34, rfl⟩
instance zv66 : ZVc Tryz.prog 66 [.int .i64 ((0 : Int)), .slice none 0 0, .slice none 0 0, .slice none 0 0, .slice none 0 0, .slice none 0 0, .slice none 0 0] := ⟨_, _, info66, zr66, rfl⟩
instance zv68 : ZVc Tryz.prog 68 [.int .i64 ((0 : Int)), .slice none 0 0, .slice none 0 0, .slice none 0 0, .slice none 0 0, .slice none 0 0, .slice none 0 0, .int .i64 ((0 : Int)), .slice none 0 0, .slice none 0 0, .slice none 0 0, .slice none 0 0, .slice none 0 0, .slice none 0 0, .slice none 0 0] := ⟨_, _, info68, zr68, rfl⟩
instance zv96 : ZVc Tryz.prog 96 [.int .i64 ((0 : Int)), .slice none 0 0, .slice none 0 0, .slice none 0 0, .slice none 0 0, .slice none 0 0, .slice none 0 0, .slice none 0 0] := ⟨_, _, info96, zr96, rfl⟩
instance zv114 : ZVc Tryz.prog 114 [.slice none 0 0] := ⟨_, _, info114, zr114, rfl⟩
instance zv197 : ZVc Tryz.prog 197 [.int .i64 ((0 : Int))] := ⟨_, _, info197, zr197, rfl⟩
instance zv238 : ZVc Tryz.prog 238 [.int .i64 ((0 : Int)), .int .i64 ((0 : Int))] := ⟨_, _, info238, zr238, rfl⟩
instance fa25_0 : FAc Tryz.prog 25 0 0 := ⟨_, _, _, Tryz.underlying25, rfl, info2, ne2, rfl⟩
instance fa25_1 : FAc Tryz.prog 25 1 1 := ⟨_, _, _, Tryz.underlying25, rfl, info22, ne22, rfl⟩
instance fa25_2 : FAc Tryz.prog 25 2 2 := ⟨_, _, _, Tryz.underlying25, rfl, info22, ne22, rfl⟩
instance fa25_3 : FAc Tryz.prog 25 3 3 := ⟨_, _, _, Tryz.underlying25, rfl, info22, ne22, rfl⟩
instance fa25_4 : FAc Tryz.prog 25 4 4 := ⟨_, _, _, Tryz.underlying25, rfl, info23, ne23, rfl⟩
instance fa28_0 : FAc Tryz.prog 28 0 0 := ⟨_, _, _, Tryz.underlying28, rfl, info25, ne25, rfl⟩
instance fa28_1 : FAc Tryz.prog 28 1 5 := ⟨_, _, _, Tryz.underlying28, rfl, info26, ne26, rfl⟩
instance fa32_0 : FAc Tryz.prog 32 0 0 := ⟨_, _, _, Tryz.underlying32, rfl, info2, ne2, rfl⟩
instance fa32_1 : FAc Tryz.prog 32 1 1 := ⟨_, _, _, Tryz.underlying32, rfl, info22, ne22, rfl⟩
instance fa32_2 : FAc Tryz.prog 32 2 2 := ⟨_, _, _, Tryz.underlying32, rfl, info22, ne22, rfl⟩
instance fa32_3 : FAc Tryz.prog 32 3 3 := ⟨_, _, _, Tryz.underlying32, rfl, info22, ne22, rfl⟩
instance fa32_4 : FAc Tryz.prog 32 4 4 := ⟨_, _, _, Tryz.underlying32, rfl, info23, ne23, rfl⟩
instance fa34_0 : FAc Tryz.prog 34 0 0 := ⟨_, _, _, Tryz.underlying34, rfl, info32, ne32, rfl⟩
instance fa34_1 : FAc Tryz.prog 34 1 5 := ⟨_, _, _, Tryz.underlying34, rfl, info26, ne26, rfl⟩
instance fa66_0 : FAc Tryz.prog 66 0 0 := ⟨_, _, _, Tryz.underlying66, rfl, info32, ne32, rfl⟩
instance fa66_1 : FAc Tryz.prog 66 1 5 := ⟨_, _, _, Tryz.underlying66, rfl, info22, ne22, rfl⟩
instance fa66_2 : FAc Tryz.prog 66 2 6 := ⟨_, _, _, Tryz.underlying66, rfl, info23, ne23, rfl⟩
instance fa68_0 : FAc Tryz.prog 68 0 0 := ⟨_, _, _, Tryz.underlying68, rfl, info66, ne66, rfl⟩
instance fa68_1 : FAc Tryz.prog 68 1 7 := ⟨_, _, _, Tryz.underlying68, rfl, info66, ne66, rfl⟩
instance fa68_2 : FAc Tryz.prog 68 2 14 := ⟨_, _, _, Tryz.underlying68, rfl, info23, ne23, rfl⟩
instance fa96_0 : FAc Tryz.prog 96 0 0 := ⟨_, _, _, Tryz.underlying96, rfl, info32, ne32, rfl⟩
instance fa96_1 : FAc Tryz.prog 96 1 5 := ⟨_, _, _, Tryz.underlying96, rfl, info26, ne26, rfl⟩
instance fa96_2 : FAc Tryz.prog 96 2 6 := ⟨_, _, _, Tryz.underlying96, rfl, info23, ne23, rfl⟩
instance fa96_3 : FAc Tryz.prog 96 3 7 := ⟨_, _, _, Tryz.underlying96, rfl, info22, ne22, rfl⟩
instance fa144_0 : FAc Tryz.prog 144 0 0 := ⟨_, _, _, Tryz.underlying144, rfl, info141, ne141, rfl⟩
instance fa144_1 : FAc Tryz.prog 144 1 1 := ⟨_, _, _, Tryz.underlying144, rfl, info131, ne131, rfl⟩
instance fa144_2 : FAc Tryz.prog 144 2 2 := ⟨_, _, _, Tryz.underlying144, rfl, info97, ne97, rfl⟩
instance fa144_3 : FAc Tryz.prog 144 3 3 := ⟨_, _, _, Tryz.underlying144, rfl, info142, ne142, rfl⟩
instance fa151_0 : FAc Tryz.prog 151 0 0 := ⟨_, _, _, Tryz.underlying151, rfl, info66, ne66, rfl⟩
instance fa151_1 : FAc Tryz.prog 151 1 7 := ⟨_, _, _, Tryz.underlying151, rfl, info149, ne149, rfl⟩
instance fa197_2 : FAc Tryz.prog 197 2 0 := ⟨_, _, _, Tryz.underlying197, rfl, info2, ne2, rfl⟩
instance fl66_2 : FLc Tryz.prog 66 2 6 := ⟨_, _, _, Tryz.underlying66, rfl, Tryz.underlying23, rfl, rfl⟩
instance bu32 : BuC Tryz.prog 32 [.int .i64 ((0 : Int)), .slice none 0 0, .slice none 0 0, .slice none 0 0, .slice none 0 0] [(0, 1), (1, 1), (2, 1), (3, 1), (4, 1)] := ⟨_, _, _, Tryz.underlying32, by kernel_rfl, info32, zr32, rfl⟩
instance bu66 : BuC Tryz.prog 66 [.int .i64 ((0 : Int)), .slice none 0 0, .slice none 0 0, .slice none 0 0, .slice none 0 0, .slice none 0 0, .slice none 0 0] [(0, 5), (5, 1), (6, 1)] := ⟨_, _, _, Tryz.underlying66, by kernel_rfl, info66, zr66, rfl⟩
instance bu68 : BuC Tryz.prog 68 [.int .i64 ((0 : Int)), .slice none 0 0, .slice none 0 0, .slice none 0 0, .slice none 0 0, .slice none 0 0, .slice none 0 0, .int .i64 ((0 : Int)), .slice none 0 0, .slice none 0 0, .slice none 0 0, .slice none 0 0, .slice none 0 0, .slice none 0 0, .slice none 0 0] [(0, 7), (7, 7), (14, 1)] := ⟨_, _, _, Tryz.underlying68, by kernel_rfl, info68, zr68, rfl⟩
instance bu96 : BuC Tryz.prog 96 [.int .i64 ((0 : Int)), .slice none 0 0, .slice none 0 0, .slice none 0 0, .slice none 0 0, .slice none 0 0, .slice none 0 0, .slice none 0 0] [(0, 5), (5, 1), (6, 1), (7, 1)] := ⟨_, _, _, Tryz.underlying96, by kernel_rfl, info96, zr96, rfl⟩
instance bu144 : BuC Tryz.prog 144 [.pointer none, .pointer none, .slice none 0 0, .pointer none] [(0, 1), (1, 1), (2, 1), (3, 1)] := ⟨_, _, _, Tryz.underlying144, by kernel_rfl, info144, zr144, rfl⟩
instance bu151 : BuC Tryz.prog 151 [.int .i64 ((0 : Int)), .slice none 0 0, .slice none 0 0, .slice none 0 0, .slice none 0 0, .slice none 0 0, .slice none 0 0, .slice none 0 0] [(0, 7), (7, 1)] := ⟨_, _, _, Tryz.underlying151, by kernel_rfl, info151, zr151, rfl⟩
instance bu238 : BuC Tryz.prog 238 [.int .i64 ((0 : Int)), .int .i64 ((0 : Int))] [(0, 1), (1, 1)] := ⟨_, _, _, Tryz.underlying238, by kernel_rfl, info238, zr238, rfl⟩
instance s2238 : S2c Tryz.prog 238 .i64 .i64 := ⟨_, _, Tryz.underlying238, by decide, by decide, Tryz.underlying2, Tryz.underlying2, rfl, rfl, by kernel_rfl, by kernel_rfl⟩
instance ata220 : AtA Tryz.prog 220 := ⟨_, Tryz.func220, by kernel_rfl, by kernel_rfl, by kernel_rfl, by kernel_rfl⟩
instance if114 : IFc Tryz.prog 114 := ⟨_, Tryz.underlying114, rfl⟩
instance ia114_249 : IAc Tryz.prog 114 249 := ⟨(match Tryz.prog.underlying 249 with | some (.interface w) => w | _ => #[]), _, by kernel_rfl, info114, by kernel_rfl⟩
instance im114_285 : IMc Tryz.prog 114 (i114.methods.getD 0 default).name 285 := ⟨i114, i114.methods.getD 0 default, _, _, _, info114, by kernel_rfl, by kernel_rfl, by kernel_rfl, Tryz.underlying114, (fun _ h => nomatch h), Tryz.func285, rfl, rfl⟩
instance fn15 : FnC Tryz.prog 15 := ⟨_, _, Tryz.func15, rfl, by kernel_rfl⟩
instance fn17 : FnC Tryz.prog 17 := ⟨_, _, Tryz.func17, rfl, by kernel_rfl⟩
instance fn19 : FnC Tryz.prog 19 := ⟨_, _, Tryz.func19, rfl, by kernel_rfl⟩
instance fn21 : FnC Tryz.prog 21 := ⟨_, _, Tryz.func21, rfl, by kernel_rfl⟩
instance fn23 : FnC Tryz.prog 23 := ⟨_, _, Tryz.func23, rfl, by kernel_rfl⟩
instance fn24 : FnC Tryz.prog 24 := ⟨_, _, Tryz.func24, rfl, by kernel_rfl⟩
instance fn25 : FnC Tryz.prog 25 := ⟨_, _, Tryz.func25, rfl, by kernel_rfl⟩
instance fn26 : FnC Tryz.prog 26 := ⟨_, _, Tryz.func26, rfl, by kernel_rfl⟩
instance fn29 : FnC Tryz.prog 29 := ⟨_, _, Tryz.func29, rfl, by kernel_rfl⟩
instance fn30 : FnC Tryz.prog 30 := ⟨_, _, Tryz.func30, rfl, by kernel_rfl⟩
instance fn31 : FnC Tryz.prog 31 := ⟨_, _, Tryz.func31, rfl, by kernel_rfl⟩
instance fn37 : FnC Tryz.prog 37 := ⟨_, _, Tryz.func37, rfl, by kernel_rfl⟩
instance fn39 : FnC Tryz.prog 39 := ⟨_, _, Tryz.func39, rfl, by kernel_rfl⟩
instance fn42 : FnC Tryz.prog 42 := ⟨_, _, Tryz.func42, rfl, by kernel_rfl⟩
instance fn43 : FnC Tryz.prog 43 := ⟨_, _, Tryz.func43, rfl, by kernel_rfl⟩
instance fn50 : FnC Tryz.prog 50 := ⟨_, _, Tryz.func50, rfl, by kernel_rfl⟩
instance fn51 : FnC Tryz.prog 51 := ⟨_, _, Tryz.func51, rfl, by kernel_rfl⟩
instance fn52 : FnC Tryz.prog 52 := ⟨_, _, Tryz.func52, rfl, by kernel_rfl⟩
instance fn53 : FnC Tryz.prog 53 := ⟨_, _, Tryz.func53, rfl, by kernel_rfl⟩
instance fn54 : FnC Tryz.prog 54 := ⟨_, _, Tryz.func54, rfl, by kernel_rfl⟩
instance fn63 : FnC Tryz.prog 63 := ⟨_, _, Tryz.func63, rfl, by kernel_rfl⟩
instance fn69 : FnC Tryz.prog 69 := ⟨_, _, Tryz.func69, rfl, by kernel_rfl⟩
instance fn70 : FnC Tryz.prog 70 := ⟨_, _, Tryz.func70, rfl, by kernel_rfl⟩
instance fn71 : FnC Tryz.prog 71 := ⟨_, _, Tryz.func71, rfl, by kernel_rfl⟩
instance fn72 : FnC Tryz.prog 72 := ⟨_, _, Tryz.func72, rfl, by kernel_rfl⟩
instance fn73 : FnC Tryz.prog 73 := ⟨_, _, Tryz.func73, rfl, by kernel_rfl⟩
instance fn74 : FnC Tryz.prog 74 := ⟨_, _, Tryz.func74, rfl, by kernel_rfl⟩
instance fn75 : FnC Tryz.prog 75 := ⟨_, _, Tryz.func75, rfl, by kernel_rfl⟩
instance fn77 : FnC Tryz.prog 77 := ⟨_, _, Tryz.func77, rfl, by kernel_rfl⟩
instance fn78 : FnC Tryz.prog 78 := ⟨_, _, Tryz.func78, rfl, by kernel_rfl⟩
instance fn79 : FnC Tryz.prog 79 := ⟨_, _, Tryz.func79, rfl, by kernel_rfl⟩
instance fn80 : FnC Tryz.prog 80 := ⟨_, _, Tryz.func80, rfl, by kernel_rfl⟩
instance fn81 : FnC Tryz.prog 81 := ⟨_, _, Tryz.func81, rfl, by kernel_rfl⟩
instance fn82 : FnC Tryz.prog 82 := ⟨_, _, Tryz.func82, rfl, by kernel_rfl⟩
instance fn83 : FnC Tryz.prog 83 := ⟨_, _, Tryz.func83, rfl, by kernel_rfl⟩
instance fn84 : FnC Tryz.prog 84 := ⟨_, _, Tryz.func84, rfl, by kernel_rfl⟩
instance fn85 : FnC Tryz.prog 85 := ⟨_, _, Tryz.func85, rfl, by kernel_rfl⟩
instance fn88 : FnC Tryz.prog 88 := ⟨_, _, Tryz.func88, rfl, by kernel_rfl⟩
instance fn89 : FnC Tryz.prog 89 := ⟨_, _, Tryz.func89, rfl, by kernel_rfl⟩
instance fn93 : FnC Tryz.prog 93 := ⟨_, _, Tryz.func93, rfl, by kernel_rfl⟩
instance fn96 : FnC Tryz.prog 96 := ⟨_, _, Tryz.func96, rfl, by kernel_rfl⟩
instance fn98 : FnC Tryz.prog 98 := ⟨_, _, Tryz.func98, rfl, by kernel_rfl⟩
instance fn99 : FnC Tryz.prog 99 := ⟨_, _, Tryz.func99, rfl, by kernel_rfl⟩
instance fn102 : FnC Tryz.prog 102 := ⟨_, _, Tryz.func102, rfl, by kernel_rfl⟩
instance fn103 : FnC Tryz.prog 103 := ⟨_, _, Tryz.func103, rfl, by kernel_rfl⟩
instance fn104 : FnC Tryz.prog 104 := ⟨_, _, Tryz.func104, rfl, by kernel_rfl⟩
instance fn105 : FnC Tryz.prog 105 := ⟨_, _, Tryz.func105, rfl, by kernel_rfl⟩
instance fn110 : FnC Tryz.prog 110 := ⟨_, _, Tryz.func110, rfl, by kernel_rfl⟩
instance fn111 : FnC Tryz.prog 111 := ⟨_, _, Tryz.func111, rfl, by kernel_rfl⟩
instance fn112 : FnC Tryz.prog 112 := ⟨_, _, Tryz.func112, rfl, by kernel_rfl⟩
instance fn113 : FnC Tryz.prog 113 := ⟨_, _, Tryz.func113, rfl, by kernel_rfl⟩
instance fn114 : FnC Tryz.prog 114 := ⟨_, _, Tryz.func114, rfl, by kernel_rfl⟩
instance fn115 : FnC Tryz.prog 115 := ⟨_, _, Tryz.func115, rfl, by kernel_rfl⟩
instance fn116 : FnC Tryz.prog 116 := ⟨_, _, Tryz.func116, rfl, by kernel_rfl⟩
instance fn117 : FnC Tryz.prog 117 := ⟨_, _, Tryz.func117, rfl, by kernel_rfl⟩
instance fn123 : FnC Tryz.prog 123 := ⟨_, _, Tryz.func123, rfl, by kernel_rfl⟩
instance fn124 : FnC Tryz.prog 124 := ⟨_, _, Tryz.func124, rfl, by kernel_rfl⟩
instance fn135 : FnC Tryz.prog 135 := ⟨_, _, Tryz.func135, rfl, by kernel_rfl⟩
instance fn136 : FnC Tryz.prog 136 := ⟨_, _, Tryz.func136, rfl, by kernel_rfl⟩
instance fn137 : FnC Tryz.prog 137 := ⟨_, _, Tryz.func137, rfl, by kernel_rfl⟩
instance fn138 : FnC Tryz.prog 138 := ⟨_, _, Tryz.func138, rfl, by kernel_rfl⟩
instance fn139 : FnC Tryz.prog 139 := ⟨_, _, Tryz.func139, rfl, by kernel_rfl⟩
instance fn140 : FnC Tryz.prog 140 := ⟨_, _, Tryz.func140, rfl, by kernel_rfl⟩
instance fn141 : FnC Tryz.prog 141 := ⟨_, _, Tryz.func141, rfl, by kernel_rfl⟩
instance fn142 : FnC Tryz.prog 142 := ⟨_, _, Tryz.func142, rfl, by kernel_rfl⟩
instance fn143 : FnC Tryz.prog 143 := ⟨_, _, Tryz.func143, rfl, by kernel_rfl⟩
instance fn144 : FnC Tryz.prog 144 := ⟨_, _, Tryz.func144, rfl, by kernel_rfl⟩
instance fn145 : FnC Tryz.prog 145 := ⟨_, _, Tryz.func145, rfl, by kernel_rfl⟩
instance fn146 : FnC Tryz.prog 146 := ⟨_, _, Tryz.func146, rfl, by kernel_rfl⟩
instance fn147 : FnC Tryz.prog 147 := ⟨_, _, Tryz.func147, rfl, by kernel_rfl⟩
instance fn148 : FnC Tryz.prog 148 := ⟨_, _, Tryz.func148, rfl, by kernel_rfl⟩
instance fn149 : FnC Tryz.prog 149 := ⟨_, _, Tryz.func149, rfl, by kernel_rfl⟩
instance fn150 : FnC Tryz.prog 150 := ⟨_, _, Tryz.func150, rfl, by kernel_rfl⟩
instance fn151 : FnC Tryz.prog 151 := ⟨_, _, Tryz.func151, rfl, by kernel_rfl⟩
instance fn152 : FnC Tryz.prog 152 := ⟨_, _, Tryz.func152, rfl, by kernel_rfl⟩
instance fn153 : FnC Tryz.prog 153 := ⟨_, _, Tryz.func153, rfl, by kernel_rfl⟩
instance fn154 : FnC Tryz.prog 154 := ⟨_, _, Tryz.func154, rfl, by kernel_rfl⟩
instance fn155 : FnC Tryz.prog 155 := ⟨_, _, Tryz.func155, rfl, by kernel_rfl⟩
instance fn157 : FnC Tryz.prog 157 := ⟨_, _, Tryz.func157, rfl, by kernel_rfl⟩
instance fn158 : FnC Tryz.prog 158 := ⟨_, _, Tryz.func158, rfl, by kernel_rfl⟩
instance fn159 : FnC Tryz.prog 159 := ⟨_, _, Tryz.func159, rfl, by kernel_rfl⟩
instance fn162 : FnC Tryz.prog 162 := ⟨_, _, Tryz.func162, rfl, by kernel_rfl⟩
instance fn163 : FnC Tryz.prog 163 := ⟨_, _, Tryz.func163, rfl, by kernel_rfl⟩
instance fn164 : FnC Tryz.prog 164 := ⟨_, _, Tryz.func164, rfl, by kernel_rfl⟩
instance fn172 : FnC Tryz.prog 172 := ⟨_, _, Tryz.func172, rfl, by kernel_rfl⟩
instance fn173 : FnC Tryz.prog 173 := ⟨_, _, Tryz.func173, rfl, by kernel_rfl⟩
instance fn174 : FnC Tryz.prog 174 := ⟨_, _, Tryz.func174, rfl, by kernel_rfl⟩
instance fn175 : FnC Tryz.prog 175 := ⟨_, _, Tryz.func175, rfl, by kernel_rfl⟩
instance fn176 : FnC Tryz.prog 176 := ⟨_, _, Tryz.func176, rfl, by kernel_rfl⟩
instance fn177 : FnC Tryz.prog 177 := ⟨_, _, Tryz.func177, rfl, by kernel_rfl⟩
instance fn178 : FnC Tryz.prog 178 := ⟨_, _, Tryz.func178, rfl, by kernel_rfl⟩
instance fn179 : FnC Tryz.prog 179 := ⟨_, _, Tryz.func179, rfl, by kernel_rfl⟩
instance fn180 : FnC Tryz.prog 180 := ⟨_, _, Tryz.func180, rfl, by kernel_rfl⟩
instance fn191 : FnC Tryz.prog 191 := ⟨_, _, Tryz.func191, rfl, by kernel_rfl⟩
instance fn192 : FnC Tryz.prog 192 := ⟨_, _, Tryz.func192, rfl, by kernel_rfl⟩
instance fn205 : FnC Tryz.prog 205 := ⟨_, _, Tryz.func205, rfl, by kernel_rfl⟩
instance fn206 : FnC Tryz.prog 206 := ⟨_, _, Tryz.func206, rfl, by kernel_rfl⟩
instance fn207 : FnC Tryz.prog 207 := ⟨_, _, Tryz.func207, rfl, by kernel_rfl⟩
instance fn208 : FnC Tryz.prog 208 := ⟨_, _, Tryz.func208, rfl, by kernel_rfl⟩
instance fn210 : FnC Tryz.prog 210 := ⟨_, _, Tryz.func210, rfl, by kernel_rfl⟩
instance fn211 : FnC Tryz.prog 211 := ⟨_, _, Tryz.func211, rfl, by kernel_rfl⟩
instance fn212 : FnC Tryz.prog 212 := ⟨_, _, Tryz.func212, rfl, by kernel_rfl⟩
instance fn213 : FnC Tryz.prog 213 := ⟨_, _, Tryz.func213, rfl, by kernel_rfl⟩
instance fn216 : FnC Tryz.prog 216 := ⟨_, _, Tryz.func216, rfl, by kernel_rfl⟩
instance fn217 : FnC Tryz.prog 217 := ⟨_, _, Tryz.func217, rfl, by kernel_rfl⟩
instance fn218 : FnC Tryz.prog 218 := ⟨_, _, Tryz.func218, rfl, by kernel_rfl⟩
instance fn226 : FnC Tryz.prog 226 := ⟨_, _, Tryz.func226, rfl, by kernel_rfl⟩
instance fn227 : FnC Tryz.prog 227 := ⟨_, _, Tryz.func227, rfl, by kernel_rfl⟩
instance fn228 : FnC Tryz.prog 228 := ⟨_, _, Tryz.func228, rfl, by kernel_rfl⟩
instance fn229 : FnC Tryz.prog 229 := ⟨_, _, Tryz.func229, rfl, by kernel_rfl⟩
instance fn230 : FnC Tryz.prog 230 := ⟨_, _, Tryz.func230, rfl, by kernel_rfl⟩
instance fn246 : FnC Tryz.prog 246 := ⟨_, _, Tryz.func246, rfl, by kernel_rfl⟩
instance fn247 : FnC Tryz.prog 247 := ⟨_, _, Tryz.func247, rfl, by kernel_rfl⟩
instance fn248 : FnC Tryz.prog 248 := ⟨_, _, Tryz.func248, rfl, by kernel_rfl⟩
instance fn249 : FnC Tryz.prog 249 := ⟨_, _, Tryz.func249, rfl, by kernel_rfl⟩
instance fn255 : FnC Tryz.prog 255 := ⟨_, _, Tryz.func255, rfl, by kernel_rfl⟩
end Go.Proofs.YtcmckiiafgcmjaaGreat
