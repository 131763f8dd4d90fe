/- Closed facts on types; the structs of the models. No condition. -/
import Derived.Test.YtfbijbginbjecaaGreatLi
import Derived.Test.YtfbijbginbjecaaGreatChecked
import Derived.KernelRfl
namespace Go.Proofs.YtfbijbginbjecaaGreat
open Go Go.Li
set_option linter.unusedVariables false
theorem hmix : Tryz.prog.follows .mixedOrders = true := by kernel_rfl
theorem Wq {n id : Nat} {Q : Exit → (Nat → Value) → World → Prop} {r : Nat → Value} {w0 w : World} {l : List Oper} (hd : dstOk n l = true) (hC : Chg [] w0 w) (h : QL Tryz.prog (Chg [] w0) l l r fun r' => ∀ w', Chg [] w0 w' → Q .normal r' w') : W Tryz.prog n (.region id l.toArray false) Q r w :=
  W_quiet hmix hd (fun h => nomatch h) hC (hC.trans (Chg.drew _ _)) h
theorem Wqd {n id : Nat} {Q : Exit → (Nat → Value) → World → Prop} {r : Nat → Value} {w0 w : World} {l : List Oper} (hd : dstOk n l = true) (hB : Region.lexB .any l.toArray = true) (hC : Chg [] w0 w) (h : QL Tryz.prog (Chg [] w0) l l r fun r' => ∀ w', Chg [] w0 w' → Q .normal r' w') : W Tryz.prog n (.region id l.toArray true) Q r w :=
  W_quiet hmix hd (fun _ => hB) hC (hC.trans (Chg.drew _ _)) h
noncomputable def i2 : TypeInfo := (Tryz.prog.info? 2).getD default
theorem info2 : Tryz.prog.info? 2 = some i2 := by kernel_rfl
theorem sz2 : i2.size = 1 := by kernel_rfl
theorem ne2 : i2.size ≠ 0 := by rw [sz2]; decide
theorem zr2 : i2.zero = some (.int .i64 0) := by kernel_rfl
theorem by2 : i2.bytes = 8 := by kernel_rfl
noncomputable def i4 : TypeInfo := (Tryz.prog.info? 4).getD default
theorem info4 : Tryz.prog.info? 4 = some i4 := by kernel_rfl
theorem sz4 : i4.size = 1 := by kernel_rfl
theorem ne4 : i4.size ≠ 0 := by rw [sz4]; decide
theorem zr4 : i4.zero = some (.bool false) := by kernel_rfl
theorem by4 : i4.bytes = 1 := by kernel_rfl
noncomputable def i22 : TypeInfo := (Tryz.prog.info? 22).getD default
theorem info22 : Tryz.prog.info? 22 = some i22 := by kernel_rfl
theorem sz22 : i22.size = 1 := by kernel_rfl
theorem ne22 : i22.size ≠ 0 := by rw [sz22]; decide
theorem zr22 : i22.zero = some (.slice none 0 0) := by kernel_rfl
theorem by22 : i22.bytes = 24 := by kernel_rfl
noncomputable def i23 : TypeInfo := (Tryz.prog.info? 23).getD default
theorem info23 : Tryz.prog.info? 23 = some i23 := by kernel_rfl
theorem sz23 : i23.size = 1 := by kernel_rfl
theorem ne23 : i23.size ≠ 0 := by rw [sz23]; decide
theorem zr23 : i23.zero = some (.slice none 0 0) := by kernel_rfl
theorem by23 : i23.bytes = 24 := by kernel_rfl
noncomputable def i24 : TypeInfo := (Tryz.prog.info? 24).getD default
theorem info24 : Tryz.prog.info? 24 = some i24 := by kernel_rfl
theorem sz24 : i24.size = 5 := by kernel_rfl
theorem ne24 : i24.size ≠ 0 := by rw [sz24]; decide
theorem zr24 : i24.zero = some (.agg #[.int .i64 ((0 : Int)), .slice none 0 0, .slice none 0 0, .slice none 0 0, .slice none 0 0]) := by kernel_rfl
noncomputable def i25 : TypeInfo := (Tryz.prog.info? 25).getD default
theorem info25 : Tryz.prog.info? 25 = some i25 := by kernel_rfl
theorem sz25 : i25.size = 5 := by kernel_rfl
theorem ne25 : i25.size ≠ 0 := by rw [sz25]; decide
theorem zr25 : i25.zero = some (.agg #[.int .i64 ((0 : Int)), .slice none 0 0, .slice none 0 0, .slice none 0 0, .slice none 0 0]) := by kernel_rfl
noncomputable def i27 : TypeInfo := (Tryz.prog.info? 27).getD default
theorem info27 : Tryz.prog.info? 27 = some i27 := by kernel_rfl
theorem sz27 : i27.size = 5 := by kernel_rfl
theorem ne27 : i27.size ≠ 0 := by rw [sz27]; decide
theorem zr27 : i27.zero = some (.agg #[.int .i64 ((0 : Int)), .slice none 0 0, .slice none 0 0, .slice none 0 0, .slice none 0 0]) := by kernel_rfl
noncomputable def i28 : TypeInfo := (Tryz.prog.info? 28).getD default
theorem info28 : Tryz.prog.info? 28 = some i28 := by kernel_rfl
theorem sz28 : i28.size = 1 := by kernel_rfl
theorem ne28 : i28.size ≠ 0 := by rw [sz28]; decide
theorem zr28 : i28.zero = some (.slice none 0 0) := by kernel_rfl
theorem by28 : i28.bytes = 24 := by kernel_rfl
noncomputable def i29 : TypeInfo := (Tryz.prog.info? 29).getD default
theorem info29 : Tryz.prog.info? 29 = some i29 := by kernel_rfl
theorem sz29 : i29.size = 6 := by kernel_rfl
theorem ne29 : i29.size ≠ 0 := by rw [sz29]; decide
theorem zr29 : i29.zero = some (.agg #[.int .i64 ((0 : Int)), .slice none 0 0, .slice none 0 0, .slice none 0 0, .slice none 0 0, .slice none 0 0]) := by kernel_rfl
noncomputable def i30 : TypeInfo := (Tryz.prog.info? 30).getD default
theorem info30 : Tryz.prog.info? 30 = some i30 := by kernel_rfl
theorem sz30 : i30.size = 6 := by kernel_rfl
theorem ne30 : i30.size ≠ 0 := by rw [sz30]; decide
theorem zr30 : i30.zero = some (.agg #[.int .i64 ((0 : Int)), .slice none 0 0, .slice none 0 0, .slice none 0 0, .slice none 0 0, .slice none 0 0]) := by kernel_rfl
noncomputable def i61 : TypeInfo := (Tryz.prog.info? 61).getD default
theorem info61 : Tryz.prog.info? 61 = some i61 := by kernel_rfl
theorem sz61 : i61.size = 7 := by kernel_rfl
theorem ne61 : i61.size ≠ 0 := by rw [sz61]; decide
theorem zr61 : i61.zero = some (.agg #[.int .i64 ((0 : Int)), .slice none 0 0, .slice none 0 0, .slice none 0 0, .slice none 0 0, .slice none 0 0, .slice none 0 0]) := by kernel_rfl
noncomputable def i62 : TypeInfo := (Tryz.prog.info? 62).getD default
theorem info62 : Tryz.prog.info? 62 = some i62 := by kernel_rfl
theorem sz62 : i62.size = 7 := by kernel_rfl
theorem ne62 : i62.size ≠ 0 := by rw [sz62]; decide
theorem zr62 : i62.zero = some (.agg #[.int .i64 ((0 : Int)), .slice none 0 0, .slice none 0 0, .slice none 0 0, .slice none 0 0, .slice none 0 0, .slice none 0 0]) := by kernel_rfl
noncomputable def i77 : TypeInfo := (Tryz.prog.info? 77).getD default
theorem info77 : Tryz.prog.info? 77 = some i77 := by kernel_rfl
theorem sz77 : i77.size = 8 := by kernel_rfl
theorem ne77 : i77.size ≠ 0 := by rw [sz77]; decide
theorem zr77 : i77.zero = some (.agg #[.int .i64 ((0 : Int)), .slice none 0 0, .slice none 0 0, .slice none 0 0, .slice none 0 0, .slice none 0 0, .slice none 0 0, .slice none 0 0]) := by kernel_rfl
noncomputable def i78 : TypeInfo := (Tryz.prog.info? 78).getD default
theorem info78 : Tryz.prog.info? 78 = some i78 := by kernel_rfl
theorem sz78 : i78.size = 8 := by kernel_rfl
theorem ne78 : i78.size ≠ 0 := by rw [sz78]; decide
theorem zr78 : i78.zero = some (.agg #[.int .i64 ((0 : Int)), .slice none 0 0, .slice none 0 0, .slice none 0 0, .slice none 0 0, .slice none 0 0, .slice none 0 0, .slice none 0 0]) := by kernel_rfl
noncomputable def i79 : TypeInfo := (Tryz.prog.info? 79).getD default
theorem info79 : Tryz.prog.info? 79 = some i79 := by kernel_rfl
theorem sz79 : i79.size = 1 := by kernel_rfl
theorem ne79 : i79.size ≠ 0 := by rw [sz79]; decide
theorem zr79 : i79.zero = some (.slice none 0 0) := by kernel_rfl
theorem by79 : i79.bytes = 24 := by kernel_rfl
noncomputable def i82 : TypeInfo := (Tryz.prog.info? 82).getD default
theorem info82 : Tryz.prog.info? 82 = some i82 := by kernel_rfl
theorem sz82 : i82.size = 1 := by kernel_rfl
theorem ne82 : i82.size ≠ 0 := by rw [sz82]; decide
theorem zr82 : i82.zero = some (.slice none 0 0) := by kernel_rfl
theorem by82 : i82.bytes = 24 := by kernel_rfl
noncomputable def i86 : TypeInfo := (Tryz.prog.info? 86).getD default
theorem info86 : Tryz.prog.info? 86 = some i86 := by kernel_rfl
theorem sz86 : i86.size = 1 := by kernel_rfl
theorem ne86 : i86.size ≠ 0 := by rw [sz86]; decide
theorem zr86 : i86.zero = some (.pointer none) := by kernel_rfl
theorem by86 : i86.bytes = 8 := by kernel_rfl
noncomputable def i87 : TypeInfo := (Tryz.prog.info? 87).getD default
theorem info87 : Tryz.prog.info? 87 = some i87 := by kernel_rfl
theorem sz87 : i87.size = 1 := by kernel_rfl
theorem ne87 : i87.size ≠ 0 := by rw [sz87]; decide
theorem zr87 : i87.zero = some (.slice none 0 0) := by kernel_rfl
theorem by87 : i87.bytes = 24 := by kernel_rfl
noncomputable def i110 : TypeInfo := (Tryz.prog.info? 110).getD default
theorem info110 : Tryz.prog.info? 110 = some i110 := by kernel_rfl
theorem sz110 : i110.size = 1 := by kernel_rfl
theorem ne110 : i110.size ≠ 0 := by rw [sz110]; decide
theorem zr110 : i110.zero = some (.slice none 0 0) := by kernel_rfl
theorem by110 : i110.bytes = 24 := by kernel_rfl
noncomputable def i121 : TypeInfo := (Tryz.prog.info? 121).getD default
theorem info121 : Tryz.prog.info? 121 = some i121 := by kernel_rfl
theorem sz121 : i121.size = 1 := by kernel_rfl
theorem ne121 : i121.size ≠ 0 := by rw [sz121]; decide
theorem zr121 : i121.zero = some (.pointer none) := by kernel_rfl
theorem by121 : i121.bytes = 8 := by kernel_rfl
noncomputable def i122 : TypeInfo := (Tryz.prog.info? 122).getD default
theorem info122 : Tryz.prog.info? 122 = some i122 := by kernel_rfl
theorem sz122 : i122.size = 1 := by kernel_rfl
theorem ne122 : i122.size ≠ 0 := by rw [sz122]; decide
theorem zr122 : i122.zero = some (.pointer none) := by kernel_rfl
theorem by122 : i122.bytes = 8 := by kernel_rfl
noncomputable def i123 : TypeInfo := (Tryz.prog.info? 123).getD default
theorem info123 : Tryz.prog.info? 123 = some i123 := by kernel_rfl
theorem sz123 : i123.size = 4 := by kernel_rfl
theorem ne123 : i123.size ≠ 0 := by rw [sz123]; decide
theorem zr123 : i123.zero = some (.agg #[.pointer none, .pointer none, .slice none 0 0, .pointer none]) := by kernel_rfl
noncomputable def i124 : TypeInfo := (Tryz.prog.info? 124).getD default
theorem info124 : Tryz.prog.info? 124 = some i124 := by kernel_rfl
theorem sz124 : i124.size = 4 := by kernel_rfl
theorem ne124 : i124.size ≠ 0 := by rw [sz124]; decide
theorem zr124 : i124.zero = some (.agg #[.pointer none, .pointer none, .slice none 0 0, .pointer none]) := by kernel_rfl
noncomputable def i129 : TypeInfo := (Tryz.prog.info? 129).getD default
theorem info129 : Tryz.prog.info? 129 = some i129 := by kernel_rfl
theorem sz129 : i129.size = 1 := by kernel_rfl
theorem ne129 : i129.size ≠ 0 := by rw [sz129]; decide
theorem zr129 : i129.zero = some (.slice none 0 0) := by kernel_rfl
theorem by129 : i129.bytes = 24 := by kernel_rfl
noncomputable def i130 : TypeInfo := (Tryz.prog.info? 130).getD default
theorem info130 : Tryz.prog.info? 130 = some i130 := by kernel_rfl
theorem sz130 : i130.size = 8 := by kernel_rfl
theorem ne130 : i130.size ≠ 0 := by rw [sz130]; decide
theorem zr130 : i130.zero = some (.agg #[.int .i64 ((0 : Int)), .slice none 0 0, .slice none 0 0, .slice none 0 0, .slice none 0 0, .slice none 0 0, .slice none 0 0, .slice none 0 0]) := by kernel_rfl
noncomputable def i131 : TypeInfo := (Tryz.prog.info? 131).getD default
theorem info131 : Tryz.prog.info? 131 = some i131 := by kernel_rfl
theorem sz131 : i131.size = 8 := by kernel_rfl
theorem ne131 : i131.size ≠ 0 := by rw [sz131]; decide
theorem zr131 : i131.zero = some (.agg #[.int .i64 ((0 : Int)), .slice none 0 0, .slice none 0 0, .slice none 0 0, .slice none 0 0, .slice none 0 0, .slice none 0 0, .slice none 0 0]) := by kernel_rfl
noncomputable def i179 : TypeInfo := (Tryz.prog.info? 179).getD default
theorem info179 : Tryz.prog.info? 179 = some i179 := by kernel_rfl
theorem sz179 : i179.size = 1 := by kernel_rfl
theorem ne179 : i179.size ≠ 0 := by rw [sz179]; decide
theorem zr179 : i179.zero = some (.agg #[.int .i64 ((0 : Int))]) := by kernel_rfl
noncomputable def i180 : TypeInfo := (Tryz.prog.info? 180).getD default
theorem info180 : Tryz.prog.info? 180 = some i180 := by kernel_rfl
theorem sz180 : i180.size = 1 := by kernel_rfl
theorem ne180 : i180.size ≠ 0 := by rw [sz180]; decide
theorem zr180 : i180.zero = some (.agg #[.int .i64 ((0 : Int))]) := by kernel_rfl
noncomputable def i195 : TypeInfo := (Tryz.prog.info? 195).getD default
theorem info195 : Tryz.prog.info? 195 = some i195 := by kernel_rfl
theorem sz195 : i195.size = 2 := by kernel_rfl
theorem ne195 : i195.size ≠ 0 := by rw [sz195]; decide
theorem zr195 : i195.zero = some (.agg #[.int .i64 ((0 : Int)), .int .i64 ((0 : Int))]) := by kernel_rfl
noncomputable def i196 : TypeInfo := (Tryz.prog.info? 196).getD default
theorem info196 : Tryz.prog.info? 196 = some i196 := by kernel_rfl
theorem sz196 : i196.size = 2 := by kernel_rfl
theorem ne196 : i196.size ≠ 0 := by rw [sz196]; decide
theorem zr196 : i196.zero = some (.agg #[.int .i64 ((0 : Int)), .int .i64 ((0 : Int))]) := by kernel_rfl
theorem eqs196 : Tryz.prog.underlying 196 = some (.struct #[(fieldsOf (Tryz.prog.underlying 196)).getD 0 default, (fieldsOf (Tryz.prog.underlying 196)).getD 1 default]) ∧ ((fieldsOf (Tryz.prog.underlying 196)).getD 0 default).name ≠ "_" ∧ ((fieldsOf (Tryz.prog.underlying 196)).getD 1 default).name ≠ "_" ∧ Tryz.prog.stoodInHeld 196 = false ∧ Tryz.prog.eqGuardType Tryz.prog.depth 196 = false := ⟨by kernel_rfl, by decide +kernel, by decide +kernel, by kernel_rfl, by kernel_rfl⟩
theorem pl27 : Tryz.prog.underlying 27 = some (.struct (fieldsOf (Tryz.prog.underlying 27))) ∧ (fieldsOf (Tryz.prog.underlying 27)).toList.mapM (fun f => (Tryz.prog.info? f.type).map fun i => (f.offset, i.size)) = some [(0, 1), (1, 1), (2, 1), (3, 1), (4, 1)] := ⟨by kernel_rfl, by kernel_rfl⟩
theorem bld27_0_1_2_3_4 {u0 u1 u2 u3 u4 : Value} (h0 : u0.oneCell' = true) (h1 : u1.oneCell' = true) (h2 : u2.oneCell' = true) (h3 : u3.oneCell' = true) (h4 : u4.oneCell' = true) : Tryz.prog.built 27 [(0, u0), (1, u1), (2, u2), (3, u3), (4, u4)] = some #[u0, u1, u2, u3, u4] := by
  unfold Program.built
  rw [info27, pl27.1]
  simp only [zr27, pl27.2]
  simp [Instr.fill, cells_agg, cells_one h0, cells_one h1, cells_one h2, cells_one h3, cells_one h4]
theorem pl62 : Tryz.prog.underlying 62 = some (.struct (fieldsOf (Tryz.prog.underlying 62))) ∧ (fieldsOf (Tryz.prog.underlying 62)).toList.mapM (fun f => (Tryz.prog.info? f.type).map fun i => (f.offset, i.size)) = some [(0, 5), (5, 1), (6, 1)] := ⟨by kernel_rfl, by kernel_rfl⟩
theorem bld62_0 {u0_0 u0_1 u0_2 u0_3 u0_4 : Value} (h0_0 : u0_0.oneCell' = true) (h0_1 : u0_1.oneCell' = true) (h0_2 : u0_2.oneCell' = true) (h0_3 : u0_3.oneCell' = true) (h0_4 : u0_4.oneCell' = true) : Tryz.prog.built 62 [(0, .agg #[u0_0, u0_1, u0_2, u0_3, u0_4])] = some #[u0_0, u0_1, u0_2, u0_3, u0_4, .slice none 0 0, .slice none 0 0] := by
  unfold Program.built
  rw [info62, pl62.1]
  simp only [zr62, pl62.2]
  simp [Instr.fill, cells_agg]
theorem pl78 : Tryz.prog.underlying 78 = some (.struct (fieldsOf (Tryz.prog.underlying 78))) ∧ (fieldsOf (Tryz.prog.underlying 78)).toList.mapM (fun f => (Tryz.prog.info? f.type).map fun i => (f.offset, i.size)) = some [(0, 5), (5, 1), (6, 1), (7, 1)] := ⟨by kernel_rfl, by kernel_rfl⟩
theorem bld78_ : Tryz.prog.built 78 [] = some #[.int .i64 ((0 : Int)), .slice none 0 0, .slice none 0 0, .slice none 0 0, .slice none 0 0, .slice none 0 0, .slice none 0 0, .slice none 0 0] := by
  unfold Program.built
  rw [info78, pl78.1]
  simp only [zr78, pl78.2]
  simp [Instr.fill, cells_agg]
theorem bld78_0_1_2_3 {u0_0 u0_1 u0_2 u0_3 u0_4 u1 u2 u3 : Value} (h0_0 : u0_0.oneCell' = true) (h0_1 : u0_1.oneCell' = true) (h0_2 : u0_2.oneCell' = true) (h0_3 : u0_3.oneCell' = true) (h0_4 : u0_4.oneCell' = true) (h1 : u1.oneCell' = true) (h2 : u2.oneCell' = true) (h3 : u3.oneCell' = true) : Tryz.prog.built 78 [(0, .agg #[u0_0, u0_1, u0_2, u0_3, u0_4]), (1, u1), (2, u2), (3, u3)] = some #[u0_0, u0_1, u0_2, u0_3, u0_4, u1, u2, u3] := by
  unfold Program.built
  rw [info78, pl78.1]
  simp only [zr78, pl78.2]
  simp [Instr.fill, cells_agg, cells_one h1, cells_one h2, cells_one h3]
theorem pl30 : Tryz.prog.underlying 30 = some (.struct (fieldsOf (Tryz.prog.underlying 30))) ∧ (fieldsOf (Tryz.prog.underlying 30)).toList.mapM (fun f => (Tryz.prog.info? f.type).map fun i => (f.offset, i.size)) = some [(0, 5), (5, 1)] := ⟨by kernel_rfl, by kernel_rfl⟩
theorem bld30_0_1 {u0_0 u0_1 u0_2 u0_3 u0_4 u1 : Value} (h0_0 : u0_0.oneCell' = true) (h0_1 : u0_1.oneCell' = true) (h0_2 : u0_2.oneCell' = true) (h0_3 : u0_3.oneCell' = true) (h0_4 : u0_4.oneCell' = true) (h1 : u1.oneCell' = true) : Tryz.prog.built 30 [(0, .agg #[u0_0, u0_1, u0_2, u0_3, u0_4]), (1, u1)] = some #[u0_0, u0_1, u0_2, u0_3, u0_4, u1] := by
  unfold Program.built
  rw [info30, pl30.1]
  simp only [zr30, pl30.2]
  simp [Instr.fill, cells_agg, cells_one h1]
theorem bld30_ : Tryz.prog.built 30 [] = some #[.int .i64 ((0 : Int)), .slice none 0 0, .slice none 0 0, .slice none 0 0, .slice none 0 0, .slice none 0 0] := by
  unfold Program.built
  rw [info30, pl30.1]
  simp only [zr30, pl30.2]
  simp [Instr.fill, cells_agg]
theorem pl196 : Tryz.prog.underlying 196 = some (.struct (fieldsOf (Tryz.prog.underlying 196))) ∧ (fieldsOf (Tryz.prog.underlying 196)).toList.mapM (fun f => (Tryz.prog.info? f.type).map fun i => (f.offset, i.size)) = some [(0, 1), (1, 1)] := ⟨by kernel_rfl, by kernel_rfl⟩
theorem bld196_0_1 {u0 u1 : Value} (h0 : u0.oneCell' = true) (h1 : u1.oneCell' = true) : Tryz.prog.built 196 [(0, u0), (1, u1)] = some #[u0, u1] := by
  unfold Program.built
  rw [info196, pl196.1]
  simp only [zr196, pl196.2]
  simp [Instr.fill, cells_agg, cells_one h0, cells_one h1]
theorem pl131 : Tryz.prog.underlying 131 = some (.struct (fieldsOf (Tryz.prog.underlying 131))) ∧ (fieldsOf (Tryz.prog.underlying 131)).toList.mapM (fun f => (Tryz.prog.info? f.type).map fun i => (f.offset, i.size)) = some [(0, 7), (7, 1)] := ⟨by kernel_rfl, by kernel_rfl⟩
theorem bld131_0 {u0_0 u0_1 u0_2 u0_3 u0_4 u0_5 u0_6 : Value} (h0_0 : u0_0.oneCell' = true) (h0_1 : u0_1.oneCell' = true) (h0_2 : u0_2.oneCell' = true) (h0_3 : u0_3.oneCell' = true) (h0_4 : u0_4.oneCell' = true) (h0_5 : u0_5.oneCell' = true) (h0_6 : u0_6.oneCell' = true) : Tryz.prog.built 131 [(0, .agg #[u0_0, u0_1, u0_2, u0_3, u0_4, u0_5, u0_6])] = some #[u0_0, u0_1, u0_2, u0_3, u0_4, u0_5, u0_6, .slice none 0 0] := by
  unfold Program.built
  rw [info131, pl131.1]
  simp only [zr131, pl131.2]
  simp [Instr.fill, cells_agg]
theorem pl124 : Tryz.prog.underlying 124 = some (.struct (fieldsOf (Tryz.prog.underlying 124))) ∧ (fieldsOf (Tryz.prog.underlying 124)).toList.mapM (fun f => (Tryz.prog.info? f.type).map fun i => (f.offset, i.size)) = some [(0, 1), (1, 1), (2, 1), (3, 1)] := ⟨by kernel_rfl, by kernel_rfl⟩
theorem bld124_0_1_3 {u0 u1 u3 : Value} (h0 : u0.oneCell' = true) (h1 : u1.oneCell' = true) (h3 : u3.oneCell' = true) : Tryz.prog.built 124 [(0, u0), (1, u1), (3, u3)] = some #[u0, u1, .slice none 0 0, u3] := by
  unfold Program.built
  rw [info124, pl124.1]
  simp only [zr124, pl124.2]
  simp [Instr.fill, cells_agg, cells_one h0, cells_one h1, cells_one h3]
theorem bld30_0 {u0_0 u0_1 u0_2 u0_3 u0_4 : Value} (h0_0 : u0_0.oneCell' = true) (h0_1 : u0_1.oneCell' = true) (h0_2 : u0_2.oneCell' = true) (h0_3 : u0_3.oneCell' = true) (h0_4 : u0_4.oneCell' = true) : Tryz.prog.built 30 [(0, .agg #[u0_0, u0_1, u0_2, u0_3, u0_4])] = some #[u0_0, u0_1, u0_2, u0_3, u0_4, .slice none 0 0] := by
  unfold Program.built
  rw [info30, pl30.1]
  simp only [zr30, pl30.2]
  simp [Instr.fill, cells_agg]
structure MCategory where
  Objects : Int
  From : (List Int)
  To : (List Int)
  Identity : (List Int)
  Composites : (List (List Int))
structure MSetFunctor where
  Shape : MCategory
  Sizes : (List Int)
  Actions : (List (List Int))
structure ML27Table where
  C : MCategory
  Lists : (List (List (List Int)))
  Pulls : (List (List Int))
  Tops : (List Int)
structure MTopology where
  Shape : MCategory
  Covers : (List (List (List Int)))
structure MEnds where
  From : Int
  To : Int
structure MClassifier where
  Sets : MSetFunctor
  Sieves : (List (List (List Int)))
structure MCoverage where
  Classifier : MClassifier
  C : MCategory
  Covers : (List (List Bool))
  Count : Int
/- short names -/
abbrev kp := @STy.keep0
abbrev cr := @Chg.refl
abbrev qv := @QL.val
abbrev ko := @OE.keep0
abbrev kr := @Row.keep0
abbrev anz := @andThen_n
abbrev om := @op_move
abbrev oa := @op_assign
abbrev dl := @dis_low
abbrev da := @dis_app
abbrev bs := @bind_some
abbrev qs := @QL.skipG
abbrev qg := @QL.valG
abbrev ofr := @OE.fresh
abbrev okp := @OE.keep
abbrev wq := @W_seq
abbrev sl := @STy.lt
abbrev wv := @WL.val
abbrev onw := @one_new
abbrev oldz := @op_load
theorem ms {α : Type} {a b : α} (h : a = b) : a ∈ [b] := List.mem_singleton.2 h
abbrev u110 := @Tryz.underlying110
abbrev u124 := @Tryz.underlying124
abbrev u129 := @Tryz.underlying129
abbrev u131 := @Tryz.underlying131
abbrev u2z := @Tryz.underlying2
abbrev u22z := @Tryz.underlying22
abbrev u23z := @Tryz.underlying23
abbrev u25z := @Tryz.underlying25
abbrev u27z := @Tryz.underlying27
abbrev u28 := @Tryz.underlying28
abbrev u30 := @Tryz.underlying30
abbrev u62 := @Tryz.underlying62
abbrev u78 := @Tryz.underlying78
abbrev u79 := @Tryz.underlying79
abbrev u82 := @Tryz.underlying82
abbrev u87 := @Tryz.underlying87
end Go.Proofs.YtfbijbginbjecaaGreat
