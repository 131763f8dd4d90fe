/- Closed facts on types, as instances. No condition. -/
import Derived.Test.YtdlhbbhdfnnmnaaGreatDg
import Derived.Test.YtdlhbbhdfnnmnaaGreatLn
import Derived.Test.YtdlhbbhdfnnmnaaGreatChecked
import Derived.KernelRfl
namespace Go.Proofs.YtdlhbbhdfnnmnaaGreat
open Go Go.Li Go.Dk
set_option linter.unusedVariables false
set_option maxRecDepth 100000
theorem hmix : Tryz.prog.follows .mixedOrders = true := by kernel_rfl
theorem Wq {n id : Nat} {Q : Exit → (Nat → Value) → World → Prop} {r : Nat → Value} {w0 w : World} {l : List Oper} (hd : dstOk n l = true) (hC : Chg [] w0 w) (h : QL Tryz.prog (Chg [] w0) l l r fun r' => ∀ w', Chg [] w0 w' → Q .normal r' w') : W Tryz.prog n (.region id l.toArray false) Q r w :=
  W_quiet hmix hd (fun h => nomatch h) hC (hC.trans (Chg.drew _ _)) h
noncomputable def i2 : TypeInfo := (Tryz.prog.info? 2).getD default
theorem info2 : Tryz.prog.info? 2 = some i2 := by kernel_rfl
theorem sz2 : i2.size = 1 := by kernel_rfl
theorem ne2 : i2.size ≠ 0 := by rw [sz2]; decide
theorem zr2 : i2.zero = some (.int .i64 0) := by kernel_rfl
theorem by2 : i2.bytes = 8 := by kernel_rfl
noncomputable def i4 : TypeInfo := (Tryz.prog.info? 4).getD default
theorem info4 : Tryz.prog.info? 4 = some i4 := by kernel_rfl
theorem sz4 : i4.size = 1 := by kernel_rfl
theorem ne4 : i4.size ≠ 0 := by rw [sz4]; decide
theorem zr4 : i4.zero = some (.bool false) := by kernel_rfl
theorem by4 : i4.bytes = 1 := by kernel_rfl
noncomputable def i22 : TypeInfo := (Tryz.prog.info? 22).getD default
theorem info22 : Tryz.prog.info? 22 = some i22 := by kernel_rfl
theorem sz22 : i22.size = 1 := by kernel_rfl
theorem ne22 : i22.size ≠ 0 := by rw [sz22]; decide
theorem zr22 : i22.zero = some (.slice none 0 0) := by kernel_rfl
theorem by22 : i22.bytes = 24 := by kernel_rfl
noncomputable def i23 : TypeInfo := (Tryz.prog.info? 23).getD default
theorem info23 : Tryz.prog.info? 23 = some i23 := by kernel_rfl
theorem sz23 : i23.size = 1 := by kernel_rfl
theorem ne23 : i23.size ≠ 0 := by rw [sz23]; decide
theorem zr23 : i23.zero = some (.slice none 0 0) := by kernel_rfl
theorem by23 : i23.bytes = 24 := by kernel_rfl
noncomputable def i25 : TypeInfo := (Tryz.prog.info? 25).getD default
theorem info25 : Tryz.prog.info? 25 = some i25 := by kernel_rfl
theorem sz25 : i25.size = 5 := by kernel_rfl
theorem ne25 : i25.size ≠ 0 := by rw [sz25]; decide
noncomputable def i31 : TypeInfo := (Tryz.prog.info? 31).getD default
theorem info31 : Tryz.prog.info? 31 = some i31 := by kernel_rfl
theorem sz31 : i31.size = 5 := by kernel_rfl
theorem ne31 : i31.size ≠ 0 := by rw [sz31]; decide
theorem zr31 : i31.zero = some (.agg #[.int .i64 ((0 : Int)), .slice none 0 0, .slice none 0 0, .slice none 0 0, .slice none 0 0]) := by kernel_rfl
noncomputable def i33 : TypeInfo := (Tryz.prog.info? 33).getD default
theorem info33 : Tryz.prog.info? 33 = some i33 := by kernel_rfl
theorem sz33 : i33.size = 7 := by kernel_rfl
theorem ne33 : i33.size ≠ 0 := by rw [sz33]; decide
theorem zr33 : i33.zero = some (.agg #[.int .i64 ((0 : Int)), .slice none 0 0, .slice none 0 0, .slice none 0 0, .slice none 0 0, .slice none 0 0, .slice none 0 0]) := by kernel_rfl
noncomputable def i73 : TypeInfo := (Tryz.prog.info? 73).getD default
theorem info73 : Tryz.prog.info? 73 = some i73 := by kernel_rfl
theorem sz73 : i73.size = 1 := by kernel_rfl
theorem ne73 : i73.size ≠ 0 := by rw [sz73]; decide
theorem zr73 : i73.zero = some (.slice none 0 0) := by kernel_rfl
theorem by73 : i73.bytes = 24 := by kernel_rfl
noncomputable def i75 : TypeInfo := (Tryz.prog.info? 75).getD default
theorem info75 : Tryz.prog.info? 75 = some i75 := by kernel_rfl
theorem sz75 : i75.size = 6 := by kernel_rfl
theorem ne75 : i75.size ≠ 0 := by rw [sz75]; decide
noncomputable def i80 : TypeInfo := (Tryz.prog.info? 80).getD default
theorem info80 : Tryz.prog.info? 80 = some i80 := by kernel_rfl
theorem sz80 : i80.size = 6 := by kernel_rfl
theorem ne80 : i80.size ≠ 0 := by rw [sz80]; decide
theorem zr80 : i80.zero = some (.agg #[.int .i64 ((0 : Int)), .slice none 0 0, .slice none 0 0, .slice none 0 0, .slice none 0 0, .slice none 0 0]) := by kernel_rfl
noncomputable def i153 : TypeInfo := (Tryz.prog.info? 153).getD default
theorem info153 : Tryz.prog.info? 153 = some i153 := by kernel_rfl
theorem sz153 : i153.size = 1 := by kernel_rfl
theorem ne153 : i153.size ≠ 0 := by rw [sz153]; decide
theorem zr153 : i153.zero = some (.pointer none) := by kernel_rfl
theorem by153 : i153.bytes = 8 := by kernel_rfl
noncomputable def i157 : TypeInfo := (Tryz.prog.info? 157).getD default
theorem info157 : Tryz.prog.info? 157 = some i157 := by kernel_rfl
theorem sz157 : i157.size = 1 := by kernel_rfl
theorem ne157 : i157.size ≠ 0 := by rw [sz157]; decide
theorem zr157 : i157.zero = some (.slice none 0 0) := by kernel_rfl
theorem by157 : i157.bytes = 24 := by kernel_rfl
noncomputable def i160 : TypeInfo := (Tryz.prog.info? 160).getD default
theorem info160 : Tryz.prog.info? 160 = some i160 := by kernel_rfl
theorem sz160 : i160.size = 1 := by kernel_rfl
theorem ne160 : i160.size ≠ 0 := by rw [sz160]; decide
theorem zr160 : i160.zero = some (.slice none 0 0) := by kernel_rfl
theorem by160 : i160.bytes = 24 := by kernel_rfl
noncomputable def i162 : TypeInfo := (Tryz.prog.info? 162).getD default
theorem info162 : Tryz.prog.info? 162 = some i162 := by kernel_rfl
theorem sz162 : i162.size = 8 := by kernel_rfl
theorem ne162 : i162.size ≠ 0 := by rw [sz162]; decide
theorem zr162 : i162.zero = some (.agg #[.int .i64 ((0 : Int)), .slice none 0 0, .slice none 0 0, .slice none 0 0, .slice none 0 0, .slice none 0 0, .slice none 0 0, .slice none 0 0]) := by kernel_rfl
noncomputable def i178 : TypeInfo := (Tryz.prog.info? 178).getD default
theorem info178 : Tryz.prog.info? 178 = some i178 := by kernel_rfl
theorem sz178 : i178.size = 8 := by kernel_rfl
theorem ne178 : i178.size ≠ 0 := by rw [sz178]; decide
theorem zr178 : i178.zero = some (.agg #[.int .i64 ((0 : Int)), .slice none 0 0, .slice none 0 0, .slice none 0 0, .slice none 0 0, .slice none 0 0, .slice none 0 0, .slice none 0 0]) := by kernel_rfl
noncomputable def i179 : TypeInfo := (Tryz.prog.info? 179).getD default
theorem info179 : Tryz.prog.info? 179 = some i179 := by kernel_rfl
theorem sz179 : i179.size = 1 := by kernel_rfl
theorem ne179 : i179.size ≠ 0 := by rw [sz179]; decide
theorem zr179 : i179.zero = some (.slice none 0 0) := by kernel_rfl
theorem by179 : i179.bytes = 24 := by kernel_rfl
noncomputable def i185 : TypeInfo := (Tryz.prog.info? 185).getD default
theorem info185 : Tryz.prog.info? 185 = some i185 := by kernel_rfl
theorem sz185 : i185.size = 1 := by kernel_rfl
theorem ne185 : i185.size ≠ 0 := by rw [sz185]; decide
theorem zr185 : i185.zero = some (.pointer none) := by kernel_rfl
theorem by185 : i185.bytes = 8 := by kernel_rfl
noncomputable def i189 : TypeInfo := (Tryz.prog.info? 189).getD default
theorem info189 : Tryz.prog.info? 189 = some i189 := by kernel_rfl
theorem sz189 : i189.size = 1 := by kernel_rfl
theorem ne189 : i189.size ≠ 0 := by rw [sz189]; decide
theorem zr189 : i189.zero = some (.slice none 0 0) := by kernel_rfl
theorem by189 : i189.bytes = 24 := by kernel_rfl
noncomputable def i203 : TypeInfo := (Tryz.prog.info? 203).getD default
theorem info203 : Tryz.prog.info? 203 = some i203 := by kernel_rfl
theorem sz203 : i203.size = 1 := by kernel_rfl
theorem ne203 : i203.size ≠ 0 := by rw [sz203]; decide
theorem zr203 : i203.zero = some (.pointer none) := by kernel_rfl
theorem by203 : i203.bytes = 8 := by kernel_rfl
noncomputable def i213 : TypeInfo := (Tryz.prog.info? 213).getD default
theorem info213 : Tryz.prog.info? 213 = some i213 := by kernel_rfl
theorem sz213 : i213.size = 1 := by kernel_rfl
theorem ne213 : i213.size ≠ 0 := by rw [sz213]; decide
theorem zr213 : i213.zero = some (.slice none 0 0) := by kernel_rfl
theorem by213 : i213.bytes = 24 := by kernel_rfl
noncomputable def i215 : TypeInfo := (Tryz.prog.info? 215).getD default
theorem info215 : Tryz.prog.info? 215 = some i215 := by kernel_rfl
theorem sz215 : i215.size = 1 := by kernel_rfl
theorem ne215 : i215.size ≠ 0 := by rw [sz215]; decide
theorem zr215 : i215.zero = some (.pointer none) := by kernel_rfl
theorem by215 : i215.bytes = 8 := by kernel_rfl
noncomputable def i217 : TypeInfo := (Tryz.prog.info? 217).getD default
theorem info217 : Tryz.prog.info? 217 = some i217 := by kernel_rfl
theorem sz217 : i217.size = 4 := by kernel_rfl
theorem ne217 : i217.size ≠ 0 := by rw [sz217]; decide
theorem zr217 : i217.zero = some (.agg #[.pointer none, .pointer none, .slice none 0 0, .pointer none]) := by kernel_rfl
noncomputable def i297 : TypeInfo := (Tryz.prog.info? 297).getD default
theorem info297 : Tryz.prog.info? 297 = some i297 := by kernel_rfl
theorem sz297 : i297.size = 1 := by kernel_rfl
theorem ne297 : i297.size ≠ 0 := by rw [sz297]; decide
theorem zr297 : i297.zero = some (.agg #[.int .i64 ((0 : Int))]) := by kernel_rfl
noncomputable def i350 : TypeInfo := (Tryz.prog.info? 350).getD default
theorem info350 : Tryz.prog.info? 350 = some i350 := by kernel_rfl
theorem sz350 : i350.size = 2 := by kernel_rfl
theorem ne350 : i350.size ≠ 0 := by rw [sz350]; decide
theorem zr350 : i350.zero = some (.agg #[.int .i64 ((0 : Int)), .int .i64 ((0 : Int))]) := by kernel_rfl
instance lk2 : LK Tryz.prog 2 none := ⟨_, Tryz.underlying2, rfl⟩
instance lk4 : LK Tryz.prog 4 none := ⟨_, Tryz.underlying4, rfl⟩
instance lk22 : LK Tryz.prog 22 none := ⟨_, Tryz.underlying22, rfl⟩
instance lk23 : LK Tryz.prog 23 none := ⟨_, Tryz.underlying23, rfl⟩
instance lk25 : LK Tryz.prog 25 (some 5) := ⟨_, _, Tryz.underlying25, rfl, info25, sz25⟩
instance lk31 : LK Tryz.prog 31 (some 5) := ⟨_, _, Tryz.underlying31, rfl, info31, sz31⟩
instance lk33 : LK Tryz.prog 33 (some 7) := ⟨_, _, Tryz.underlying33, rfl, info33, sz33⟩
instance lk73 : LK Tryz.prog 73 none := ⟨_, Tryz.underlying73, rfl⟩
instance lk75 : LK Tryz.prog 75 (some 6) := ⟨_, _, Tryz.underlying75, rfl, info75, sz75⟩
instance lk80 : LK Tryz.prog 80 (some 6) := ⟨_, _, Tryz.underlying80, rfl, info80, sz80⟩
instance lk153 : LK Tryz.prog 153 none := ⟨_, Tryz.underlying153, rfl⟩
instance lk157 : LK Tryz.prog 157 none := ⟨_, Tryz.underlying157, rfl⟩
instance lk160 : LK Tryz.prog 160 none := ⟨_, Tryz.underlying160, rfl⟩
instance lk178 : LK Tryz.prog 178 (some 8) := ⟨_, _, Tryz.underlying178, rfl, info178, sz178⟩
instance lk179 : LK Tryz.prog 179 none := ⟨_, Tryz.underlying179, rfl⟩
instance lk185 : LK Tryz.prog 185 none := ⟨_, Tryz.underlying185, rfl⟩
instance lk189 : LK Tryz.prog 189 none := ⟨_, Tryz.underlying189, rfl⟩
instance lk203 : LK Tryz.prog 203 none := ⟨_, Tryz.underlying203, rfl⟩
instance lk213 : LK Tryz.prog 213 none := ⟨_, Tryz.underlying213, rfl⟩
instance lk215 : LK Tryz.prog 215 none := ⟨_, Tryz.underlying215, rfl⟩
instance lk350 : LK Tryz.prog 350 (some 2) := ⟨_, _, Tryz.underlying350, rfl, info350, sz350⟩
instance sl22 : SLc Tryz.prog 22 := ⟨_, _, Tryz.underlying22, info2, sz2⟩
instance st22 : STc Tryz.prog 22 Int 2 (sInt .i64) 0 8 := ⟨Tryz.underlying22, rfl, _, _, info2, zr2, sz2, rfl, by2, fun _ => ⟨rfl, rfl⟩⟩
instance sl23 : SLc Tryz.prog 23 := ⟨_, _, Tryz.underlying23, info22, sz22⟩
instance st23 : STc Tryz.prog 23 (List Int) 22 (sOwn 2 (sInt .i64)) [] 24 := ⟨Tryz.underlying23, rfl, _, _, info22, zr22, sz22, rfl, by22, fun _ => nil_own⟩
instance sl73 : SLc Tryz.prog 73 := ⟨_, _, Tryz.underlying73, info23, sz23⟩
instance st73 : STc Tryz.prog 73 (List (List Int)) 23 (sOwn 22 (sOwn 2 (sInt .i64))) [] 24 := ⟨Tryz.underlying73, rfl, _, _, info23, zr23, sz23, rfl, by23, fun _ => nil_own⟩
instance sl157 : SLc Tryz.prog 157 := ⟨_, _, Tryz.underlying157, info2, sz2⟩
instance st157 : STc Tryz.prog 157 Int 2 (sInt .i64) 0 8 := ⟨Tryz.underlying157, rfl, _, _, info2, zr2, sz2, rfl, by2, fun _ => ⟨rfl, rfl⟩⟩
instance sl160 : SLc Tryz.prog 160 := ⟨_, _, Tryz.underlying160, info189, sz189⟩
instance st160 : STc Tryz.prog 160 (List (List Int)) 189 (sOwn 157 (sOwn 2 (sInt .i64))) [] 24 := ⟨Tryz.underlying160, rfl, _, _, info189, zr189, sz189, rfl, by189, fun _ => nil_own⟩
instance sl179 : SLc Tryz.prog 179 := ⟨_, _, Tryz.underlying179, info213, sz213⟩
instance st179 : STc Tryz.prog 179 (List Bool) 213 (sOwn 4 sBool) [] 24 := ⟨Tryz.underlying179, rfl, _, _, info213, zr213, sz213, rfl, by213, fun _ => nil_own⟩
instance sl189 : SLc Tryz.prog 189 := ⟨_, _, Tryz.underlying189, info157, sz157⟩
instance st189 : STc Tryz.prog 189 (List Int) 157 (sOwn 2 (sInt .i64)) [] 24 := ⟨Tryz.underlying189, rfl, _, _, info157, zr157, sz157, rfl, by157, fun _ => nil_own⟩
instance sl213 : SLc Tryz.prog 213 := ⟨_, _, Tryz.underlying213, info4, sz4⟩
instance st213 : STc Tryz.prog 213 Bool 4 sBool false 1 := ⟨Tryz.underlying213, rfl, _, _, info4, zr4, sz4, rfl, by4, fun _ => ⟨rfl, rfl⟩⟩
instance so2 : STo Tryz.prog 2 1 := ⟨_, info2, sz2⟩
instance so4 : STo Tryz.prog 4 1 := ⟨_, info4, sz4⟩
instance so22 : STo Tryz.prog 22 1 := ⟨_, info22, sz22⟩
instance so23 : STo Tryz.prog 23 1 := ⟨_, info23, sz23⟩
instance so31 : STo Tryz.prog 31 5 := ⟨_, info31, sz31⟩
instance so33 : STo Tryz.prog 33 7 := ⟨_, info33, sz33⟩
instance so73 : STo Tryz.prog 73 1 := ⟨_, info73, sz73⟩
instance so80 : STo Tryz.prog 80 6 := ⟨_, info80, sz80⟩
instance so157 : STo Tryz.prog 157 1 := ⟨_, info157, sz157⟩
instance so160 : STo Tryz.prog 160 1 := ⟨_, info160, sz160⟩
instance so178 : STo Tryz.prog 178 8 := ⟨_, info178, sz178⟩
instance so179 : STo Tryz.prog 179 1 := ⟨_, info179, sz179⟩
instance so350 : STo Tryz.prog 350 2 := ⟨_, info350, sz350⟩
instance zv4 : ZVc Tryz.prog 4 [.bool false] := ⟨_, _, info4, zr4, rfl⟩
instance zv31 : ZVc Tryz.prog 31 [.int .i64 ((0 : Int)), .slice none 0 0, .slice none 0 0, .slice none 0 0, .slice none 0 0] := ⟨_, _, info31, zr31, rfl⟩
instance zv33 : ZVc Tryz.prog 33 [.int .i64 ((0 : Int)), .slice none 0 0, .slice none 0 0, .slice none 0 0, .slice none 0 0, .slice none 0 0, .slice none 0 0] := ⟨_, _, info33, zr33, rfl⟩
instance zv80 : ZVc Tryz.prog 80 [.int .i64 ((0 : Int)), .slice none 0 0, .slice none 0 0, .slice none 0 0, .slice none 0 0, .slice none 0 0] := ⟨_, _, info80, zr80, rfl⟩
instance zv157 : ZVc Tryz.prog 157 [.slice none 0 0] := ⟨_, _, info157, zr157, rfl⟩
instance zv178 : ZVc Tryz.prog 178 [.int .i64 ((0 : Int)), .slice none 0 0, .slice none 0 0, .slice none 0 0, .slice none 0 0, .slice none 0 0, .slice none 0 0, .slice none 0 0] := ⟨_, _, info178, zr178, rfl⟩
instance zv297 : ZVc Tryz.prog 297 [.int .i64 ((0 : Int))] := ⟨_, _, info297, zr297, rfl⟩
instance zv350 : ZVc Tryz.prog 350 [.int .i64 ((0 : Int)), .int .i64 ((0 : Int))] := ⟨_, _, info350, zr350, rfl⟩
instance fa25_0 : FAc Tryz.prog 25 0 0 := ⟨_, _, _, Tryz.underlying25, rfl, info2, ne2, rfl⟩
instance fa25_1 : FAc Tryz.prog 25 1 1 := ⟨_, _, _, Tryz.underlying25, rfl, info22, ne22, rfl⟩
instance fa25_2 : FAc Tryz.prog 25 2 2 := ⟨_, _, _, Tryz.underlying25, rfl, info22, ne22, rfl⟩
instance fa25_3 : FAc Tryz.prog 25 3 3 := ⟨_, _, _, Tryz.underlying25, rfl, info22, ne22, rfl⟩
instance fa25_4 : FAc Tryz.prog 25 4 4 := ⟨_, _, _, Tryz.underlying25, rfl, info23, ne23, rfl⟩
instance fa31_0 : FAc Tryz.prog 31 0 0 := ⟨_, _, _, Tryz.underlying31, rfl, info2, ne2, rfl⟩
instance fa31_1 : FAc Tryz.prog 31 1 1 := ⟨_, _, _, Tryz.underlying31, rfl, info22, ne22, rfl⟩
instance fa31_2 : FAc Tryz.prog 31 2 2 := ⟨_, _, _, Tryz.underlying31, rfl, info22, ne22, rfl⟩
instance fa31_3 : FAc Tryz.prog 31 3 3 := ⟨_, _, _, Tryz.underlying31, rfl, info22, ne22, rfl⟩
instance fa31_4 : FAc Tryz.prog 31 4 4 := ⟨_, _, _, Tryz.underlying31, rfl, info23, ne23, rfl⟩
instance fa33_0 : FAc Tryz.prog 33 0 0 := ⟨_, _, _, Tryz.underlying33, rfl, info31, ne31, rfl⟩
instance fa33_1 : FAc Tryz.prog 33 1 5 := ⟨_, _, _, Tryz.underlying33, rfl, info22, ne22, rfl⟩
instance fa33_2 : FAc Tryz.prog 33 2 6 := ⟨_, _, _, Tryz.underlying33, rfl, info23, ne23, rfl⟩
instance fa75_0 : FAc Tryz.prog 75 0 0 := ⟨_, _, _, Tryz.underlying75, rfl, info25, ne25, rfl⟩
instance fa75_1 : FAc Tryz.prog 75 1 5 := ⟨_, _, _, Tryz.underlying75, rfl, info73, ne73, rfl⟩
instance fa80_0 : FAc Tryz.prog 80 0 0 := ⟨_, _, _, Tryz.underlying80, rfl, info31, ne31, rfl⟩
instance fa80_1 : FAc Tryz.prog 80 1 5 := ⟨_, _, _, Tryz.underlying80, rfl, info73, ne73, rfl⟩
instance fa162_0 : FAc Tryz.prog 162 0 0 := ⟨_, _, _, Tryz.underlying162, rfl, info33, ne33, rfl⟩
instance fa162_1 : FAc Tryz.prog 162 1 7 := ⟨_, _, _, Tryz.underlying162, rfl, info160, ne160, rfl⟩
instance fa178_0 : FAc Tryz.prog 178 0 0 := ⟨_, _, _, Tryz.underlying178, rfl, info31, ne31, rfl⟩
instance fa178_1 : FAc Tryz.prog 178 1 5 := ⟨_, _, _, Tryz.underlying178, rfl, info73, ne73, rfl⟩
instance fa178_2 : FAc Tryz.prog 178 2 6 := ⟨_, _, _, Tryz.underlying178, rfl, info23, ne23, rfl⟩
instance fa178_3 : FAc Tryz.prog 178 3 7 := ⟨_, _, _, Tryz.underlying178, rfl, info22, ne22, rfl⟩
instance fa217_0 : FAc Tryz.prog 217 0 0 := ⟨_, _, _, Tryz.underlying217, rfl, info153, ne153, rfl⟩
instance fa217_1 : FAc Tryz.prog 217 1 1 := ⟨_, _, _, Tryz.underlying217, rfl, info203, ne203, rfl⟩
instance fa217_2 : FAc Tryz.prog 217 2 2 := ⟨_, _, _, Tryz.underlying217, rfl, info179, ne179, rfl⟩
instance fa217_3 : FAc Tryz.prog 217 3 3 := ⟨_, _, _, Tryz.underlying217, rfl, info215, ne215, rfl⟩
instance fa297_2 : FAc Tryz.prog 297 2 0 := ⟨_, _, _, Tryz.underlying297, rfl, info2, ne2, rfl⟩
instance fl33_2 : FLc Tryz.prog 33 2 6 := ⟨_, _, _, Tryz.underlying33, rfl, Tryz.underlying23, rfl, rfl⟩
instance bu31 : BuC Tryz.prog 31 [.int .i64 ((0 : Int)), .slice none 0 0, .slice none 0 0, .slice none 0 0, .slice none 0 0] [(0, 1), (1, 1), (2, 1), (3, 1), (4, 1)] := ⟨_, _, _, Tryz.underlying31, by kernel_rfl, info31, zr31, rfl⟩
instance bu33 : BuC Tryz.prog 33 [.int .i64 ((0 : Int)), .slice none 0 0, .slice none 0 0, .slice none 0 0, .slice none 0 0, .slice none 0 0, .slice none 0 0] [(0, 5), (5, 1), (6, 1)] := ⟨_, _, _, Tryz.underlying33, by kernel_rfl, info33, zr33, rfl⟩
instance bu162 : BuC Tryz.prog 162 [.int .i64 ((0 : Int)), .slice none 0 0, .slice none 0 0, .slice none 0 0, .slice none 0 0, .slice none 0 0, .slice none 0 0, .slice none 0 0] [(0, 7), (7, 1)] := ⟨_, _, _, Tryz.underlying162, by kernel_rfl, info162, zr162, rfl⟩
instance bu178 : BuC Tryz.prog 178 [.int .i64 ((0 : Int)), .slice none 0 0, .slice none 0 0, .slice none 0 0, .slice none 0 0, .slice none 0 0, .slice none 0 0, .slice none 0 0] [(0, 5), (5, 1), (6, 1), (7, 1)] := ⟨_, _, _, Tryz.underlying178, by kernel_rfl, info178, zr178, rfl⟩
instance bu217 : BuC Tryz.prog 217 [.pointer none, .pointer none, .slice none 0 0, .pointer none] [(0, 1), (1, 1), (2, 1), (3, 1)] := ⟨_, _, _, Tryz.underlying217, by kernel_rfl, info217, zr217, rfl⟩
instance bu350 : BuC Tryz.prog 350 [.int .i64 ((0 : Int)), .int .i64 ((0 : Int))] [(0, 1), (1, 1)] := ⟨_, _, _, Tryz.underlying350, by kernel_rfl, info350, zr350, rfl⟩
instance s2350 : S2c Tryz.prog 350 .i64 .i64 := ⟨_, _, Tryz.underlying350, by decide, by decide, Tryz.underlying2, Tryz.underlying2, rfl, rfl, by kernel_rfl, by kernel_rfl⟩
instance ata319 : AtA Tryz.prog 319 := ⟨_, Tryz.func319, by kernel_rfl, by kernel_rfl, by kernel_rfl, by kernel_rfl⟩
instance if157 : IFc Tryz.prog 157 := ⟨_, Tryz.underlying157, rfl⟩
instance ia157_343 : IAc Tryz.prog 157 343 := ⟨(match Tryz.prog.underlying 343 with | some (.interface w) => w | _ => #[]), _, by kernel_rfl, info157, by kernel_rfl⟩
instance im157_388 : IMc Tryz.prog 157 (i157.methods.getD 0 default).name 388 := ⟨i157, i157.methods.getD 0 default, _, _, _, info157, by kernel_rfl, by kernel_rfl, by kernel_rfl, Tryz.underlying157, (fun _ h => nomatch h), Tryz.func388, rfl, rfl⟩
instance fn20 : FnC Tryz.prog 20 := ⟨_, _, Tryz.func20, rfl, by kernel_rfl⟩
instance fn24 : FnC Tryz.prog 24 := ⟨_, _, Tryz.func24, rfl, by kernel_rfl⟩
instance fn26 : FnC Tryz.prog 26 := ⟨_, _, Tryz.func26, rfl, by kernel_rfl⟩
instance fn47 : FnC Tryz.prog 47 := ⟨_, _, Tryz.func47, rfl, by kernel_rfl⟩
instance fn48 : FnC Tryz.prog 48 := ⟨_, _, Tryz.func48, rfl, by kernel_rfl⟩
instance fn49 : FnC Tryz.prog 49 := ⟨_, _, Tryz.func49, rfl, by kernel_rfl⟩
instance fn50 : FnC Tryz.prog 50 := ⟨_, _, Tryz.func50, rfl, by kernel_rfl⟩
instance fn51 : FnC Tryz.prog 51 := ⟨_, _, Tryz.func51, rfl, by kernel_rfl⟩
instance fn52 : FnC Tryz.prog 52 := ⟨_, _, Tryz.func52, rfl, by kernel_rfl⟩
instance fn55 : FnC Tryz.prog 55 := ⟨_, _, Tryz.func55, rfl, by kernel_rfl⟩
instance fn57 : FnC Tryz.prog 57 := ⟨_, _, Tryz.func57, rfl, by kernel_rfl⟩
instance fn60 : FnC Tryz.prog 60 := ⟨_, _, Tryz.func60, rfl, by kernel_rfl⟩
instance fn61 : FnC Tryz.prog 61 := ⟨_, _, Tryz.func61, rfl, by kernel_rfl⟩
instance fn73 : FnC Tryz.prog 73 := ⟨_, _, Tryz.func73, rfl, by kernel_rfl⟩
instance fn80 : FnC Tryz.prog 80 := ⟨_, _, Tryz.func80, rfl, by kernel_rfl⟩
instance fn91 : FnC Tryz.prog 91 := ⟨_, _, Tryz.func91, rfl, by kernel_rfl⟩
instance fn92 : FnC Tryz.prog 92 := ⟨_, _, Tryz.func92, rfl, by kernel_rfl⟩
instance fn94 : FnC Tryz.prog 94 := ⟨_, _, Tryz.func94, rfl, by kernel_rfl⟩
instance fn95 : FnC Tryz.prog 95 := ⟨_, _, Tryz.func95, rfl, by kernel_rfl⟩
instance fn97 : FnC Tryz.prog 97 := ⟨_, _, Tryz.func97, rfl, by kernel_rfl⟩
instance fn101 : FnC Tryz.prog 101 := ⟨_, _, Tryz.func101, rfl, by kernel_rfl⟩
instance fn102 : FnC Tryz.prog 102 := ⟨_, _, Tryz.func102, rfl, by kernel_rfl⟩
instance fn105 : FnC Tryz.prog 105 := ⟨_, _, Tryz.func105, rfl, by kernel_rfl⟩
instance fn107 : FnC Tryz.prog 107 := ⟨_, _, Tryz.func107, rfl, by kernel_rfl⟩
instance fn108 : FnC Tryz.prog 108 := ⟨_, _, Tryz.func108, rfl, by kernel_rfl⟩
instance fn117 : FnC Tryz.prog 117 := ⟨_, _, Tryz.func117, rfl, by kernel_rfl⟩
instance fn119 : FnC Tryz.prog 119 := ⟨_, _, Tryz.func119, rfl, by kernel_rfl⟩
instance fn122 : FnC Tryz.prog 122 := ⟨_, _, Tryz.func122, rfl, by kernel_rfl⟩
instance fn123 : FnC Tryz.prog 123 := ⟨_, _, Tryz.func123, rfl, by kernel_rfl⟩
instance fn124 : FnC Tryz.prog 124 := ⟨_, _, Tryz.func124, rfl, by kernel_rfl⟩
instance fn125 : FnC Tryz.prog 125 := ⟨_, _, Tryz.func125, rfl, by kernel_rfl⟩
instance fn126 : FnC Tryz.prog 126 := ⟨_, _, Tryz.func126, rfl, by kernel_rfl⟩
instance fn127 : FnC Tryz.prog 127 := ⟨_, _, Tryz.func127, rfl, by kernel_rfl⟩
instance fn128 : FnC Tryz.prog 128 := ⟨_, _, Tryz.func128, rfl, by kernel_rfl⟩
instance fn129 : FnC Tryz.prog 129 := ⟨_, _, Tryz.func129, rfl, by kernel_rfl⟩
instance fn130 : FnC Tryz.prog 130 := ⟨_, _, Tryz.func130, rfl, by kernel_rfl⟩
instance fn131 : FnC Tryz.prog 131 := ⟨_, _, Tryz.func131, rfl, by kernel_rfl⟩
instance fn132 : FnC Tryz.prog 132 := ⟨_, _, Tryz.func132, rfl, by kernel_rfl⟩
instance fn133 : FnC Tryz.prog 133 := ⟨_, _, Tryz.func133, rfl, by kernel_rfl⟩
instance fn134 : FnC Tryz.prog 134 := ⟨_, _, Tryz.func134, rfl, by kernel_rfl⟩
instance fn135 : FnC Tryz.prog 135 := ⟨_, _, Tryz.func135, rfl, by kernel_rfl⟩
instance fn138 : FnC Tryz.prog 138 := ⟨_, _, Tryz.func138, rfl, by kernel_rfl⟩
instance fn145 : FnC Tryz.prog 145 := ⟨_, _, Tryz.func145, rfl, by kernel_rfl⟩
instance fn146 : FnC Tryz.prog 146 := ⟨_, _, Tryz.func146, rfl, by kernel_rfl⟩
instance fn147 : FnC Tryz.prog 147 := ⟨_, _, Tryz.func147, rfl, by kernel_rfl⟩
instance fn154 : FnC Tryz.prog 154 := ⟨_, _, Tryz.func154, rfl, by kernel_rfl⟩
instance fn157 : FnC Tryz.prog 157 := ⟨_, _, Tryz.func157, rfl, by kernel_rfl⟩
instance fn169 : FnC Tryz.prog 169 := ⟨_, _, Tryz.func169, rfl, by kernel_rfl⟩
instance fn172 : FnC Tryz.prog 172 := ⟨_, _, Tryz.func172, rfl, by kernel_rfl⟩
instance fn173 : FnC Tryz.prog 173 := ⟨_, _, Tryz.func173, rfl, by kernel_rfl⟩
instance fn176 : FnC Tryz.prog 176 := ⟨_, _, Tryz.func176, rfl, by kernel_rfl⟩
instance fn187 : FnC Tryz.prog 187 := ⟨_, _, Tryz.func187, rfl, by kernel_rfl⟩
instance fn197 : FnC Tryz.prog 197 := ⟨_, _, Tryz.func197, rfl, by kernel_rfl⟩
instance fn200 : FnC Tryz.prog 200 := ⟨_, _, Tryz.func200, rfl, by kernel_rfl⟩
instance fn201 : FnC Tryz.prog 201 := ⟨_, _, Tryz.func201, rfl, by kernel_rfl⟩
instance fn203 : FnC Tryz.prog 203 := ⟨_, _, Tryz.func203, rfl, by kernel_rfl⟩
instance fn204 : FnC Tryz.prog 204 := ⟨_, _, Tryz.func204, rfl, by kernel_rfl⟩
instance fn206 : FnC Tryz.prog 206 := ⟨_, _, Tryz.func206, rfl, by kernel_rfl⟩
instance fn207 : FnC Tryz.prog 207 := ⟨_, _, Tryz.func207, rfl, by kernel_rfl⟩
instance fn208 : FnC Tryz.prog 208 := ⟨_, _, Tryz.func208, rfl, by kernel_rfl⟩
instance fn209 : FnC Tryz.prog 209 := ⟨_, _, Tryz.func209, rfl, by kernel_rfl⟩
instance fn210 : FnC Tryz.prog 210 := ⟨_, _, Tryz.func210, rfl, by kernel_rfl⟩
instance fn211 : FnC Tryz.prog 211 := ⟨_, _, Tryz.func211, rfl, by kernel_rfl⟩
instance fn213 : FnC Tryz.prog 213 := ⟨_, _, Tryz.func213, rfl, by kernel_rfl⟩
instance fn220 : FnC Tryz.prog 220 := ⟨_, _, Tryz.func220, rfl, by kernel_rfl⟩
instance fn223 : FnC Tryz.prog 223 := ⟨_, _, Tryz.func223, rfl, by kernel_rfl⟩
instance fn224 : FnC Tryz.prog 224 := ⟨_, _, Tryz.func224, rfl, by kernel_rfl⟩
instance fn225 : FnC Tryz.prog 225 := ⟨_, _, Tryz.func225, rfl, by kernel_rfl⟩
instance fn226 : FnC Tryz.prog 226 := ⟨_, _, Tryz.func226, rfl, by kernel_rfl⟩
instance fn227 : FnC Tryz.prog 227 := ⟨_, _, Tryz.func227, rfl, by kernel_rfl⟩
instance fn228 : FnC Tryz.prog 228 := ⟨_, _, Tryz.func228, rfl, by kernel_rfl⟩
instance fn229 : FnC Tryz.prog 229 := ⟨_, _, Tryz.func229, rfl, by kernel_rfl⟩
instance fn230 : FnC Tryz.prog 230 := ⟨_, _, Tryz.func230, rfl, by kernel_rfl⟩
instance fn231 : FnC Tryz.prog 231 := ⟨_, _, Tryz.func231, rfl, by kernel_rfl⟩
instance fn232 : FnC Tryz.prog 232 := ⟨_, _, Tryz.func232, rfl, by kernel_rfl⟩
instance fn237 : FnC Tryz.prog 237 := ⟨_, _, Tryz.func237, rfl, by kernel_rfl⟩
instance fn238 : FnC Tryz.prog 238 := ⟨_, _, Tryz.func238, rfl, by kernel_rfl⟩
instance fn242 : FnC Tryz.prog 242 := ⟨_, _, Tryz.func242, rfl, by kernel_rfl⟩
instance fn243 : FnC Tryz.prog 243 := ⟨_, _, Tryz.func243, rfl, by kernel_rfl⟩
instance fn251 : FnC Tryz.prog 251 := ⟨_, _, Tryz.func251, rfl, by kernel_rfl⟩
instance fn252 : FnC Tryz.prog 252 := ⟨_, _, Tryz.func252, rfl, by kernel_rfl⟩
instance fn255 : FnC Tryz.prog 255 := ⟨_, _, Tryz.func255, rfl, by kernel_rfl⟩
instance fn262 : FnC Tryz.prog 262 := ⟨_, _, Tryz.func262, rfl, by kernel_rfl⟩
instance fn295 : FnC Tryz.prog 295 := ⟨_, _, Tryz.func295, rfl, by kernel_rfl⟩
instance fn296 : FnC Tryz.prog 296 := ⟨_, _, Tryz.func296, rfl, by kernel_rfl⟩
instance fn297 : FnC Tryz.prog 297 := ⟨_, _, Tryz.func297, rfl, by kernel_rfl⟩
instance fn298 : FnC Tryz.prog 298 := ⟨_, _, Tryz.func298, rfl, by kernel_rfl⟩
instance fn299 : FnC Tryz.prog 299 := ⟨_, _, Tryz.func299, rfl, by kernel_rfl⟩
instance fn300 : FnC Tryz.prog 300 := ⟨_, _, Tryz.func300, rfl, by kernel_rfl⟩
instance fn301 : FnC Tryz.prog 301 := ⟨_, _, Tryz.func301, rfl, by kernel_rfl⟩
instance fn302 : FnC Tryz.prog 302 := ⟨_, _, Tryz.func302, rfl, by kernel_rfl⟩
instance fn303 : FnC Tryz.prog 303 := ⟨_, _, Tryz.func303, rfl, by kernel_rfl⟩
instance fn306 : FnC Tryz.prog 306 := ⟨_, _, Tryz.func306, rfl, by kernel_rfl⟩
instance fn307 : FnC Tryz.prog 307 := ⟨_, _, Tryz.func307, rfl, by kernel_rfl⟩
instance fn308 : FnC Tryz.prog 308 := ⟨_, _, Tryz.func308, rfl, by kernel_rfl⟩
instance fn309 : FnC Tryz.prog 309 := ⟨_, _, Tryz.func309, rfl, by kernel_rfl⟩
instance fn311 : FnC Tryz.prog 311 := ⟨_, _, Tryz.func311, rfl, by kernel_rfl⟩
instance fn312 : FnC Tryz.prog 312 := ⟨_, _, Tryz.func312, rfl, by kernel_rfl⟩
instance fn315 : FnC Tryz.prog 315 := ⟨_, _, Tryz.func315, rfl, by kernel_rfl⟩
instance fn317 : FnC Tryz.prog 317 := ⟨_, _, Tryz.func317, rfl, by kernel_rfl⟩
instance fn318 : FnC Tryz.prog 318 := ⟨_, _, Tryz.func318, rfl, by kernel_rfl⟩
instance fn330 : FnC Tryz.prog 330 := ⟨_, _, Tryz.func330, rfl, by kernel_rfl⟩
instance fn331 : FnC Tryz.prog 331 := ⟨_, _, Tryz.func331, rfl, by kernel_rfl⟩
instance fn332 : FnC Tryz.prog 332 := ⟨_, _, Tryz.func332, rfl, by kernel_rfl⟩
instance fn333 : FnC Tryz.prog 333 := ⟨_, _, Tryz.func333, rfl, by kernel_rfl⟩
instance fn334 : FnC Tryz.prog 334 := ⟨_, _, Tryz.func334, rfl, by kernel_rfl⟩
end Go.Proofs.YtdlhbbhdfnnmnaaGreat
