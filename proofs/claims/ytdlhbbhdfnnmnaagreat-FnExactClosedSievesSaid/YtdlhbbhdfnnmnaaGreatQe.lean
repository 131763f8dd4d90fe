/- How the arguments of the law that are handed in read. No condition. -/
import Derived.Test.YtdlhbbhdfnnmnaaGreatQg
import Derived.Test.YtdlhbbhdfnnmnaaGreatUh
namespace Go.Proofs.YtdlhbbhdfnnmnaaGreat
open Go Go.Li Go.ChangeShapes Go.WideShapes Go.Deep
section
variable {H : Type} {enc : TypeId × Value → H} {W : World} {base : Nat}
theorem cells2 : Tryz.prog.cellsOf 2 = 1 := by kernel_rfl
theorem cells22 : Tryz.prog.cellsOf 22 = 1 := by kernel_rfl
theorem rd22 {n : Nat} {v : Value} {x : DataW H × List MemPlace} (h : DataW.trod enc Tryz.prog W 0 (fun _ => true) true n 22 [v] = some x) : ∃ (xs : (List Int)) (f : List Nat), (sImm (sInt .i64)).rep W.heap [v] xs f ∧ xs.length ≤ maxLen := read_ints Tryz.underlying22 Tryz.underlying2 cells2 h
theorem cells23 : Tryz.prog.cellsOf 23 = 1 := by kernel_rfl
theorem rd23 {n : Nat} {v : Value} {x : DataW H × List MemPlace} (h : DataW.trod enc Tryz.prog W 0 (fun _ => true) true n 23 [v] = some x) : ∃ (xs : (List (List Int))) (f : List Nat), (sImm (sImm (sInt .i64))).rep W.heap [v] xs f ∧ xs.length ≤ maxLen ∧ ∀ u ∈ xs, u.length ≤ maxLen :=
  read_slice (Q := fun y : (List Int) => y.length ≤ maxLen) rfl Tryz.underlying23 cells22 (fun h => by
    obtain ⟨xs, f, h1, h2⟩ := rd22 h
    exact ⟨xs, f, h1, h2⟩) h
theorem cells25 : Tryz.prog.cellsOf 25 = 5 := by kernel_rfl
set_option maxRecDepth 100000 in
theorem rd25 {n : Nat} {cs : List Value} {x : DataW H × List MemPlace} (hl : cs.length = 5) (h : DataW.trod enc Tryz.prog W 0 (fun _ => true) true n 25 cs = some x) : ∃ (m : MCategory) (v1 v2 v3 v4 : Value) (f1 f2 f3 f4 : List Nat), cs = [.int .i64 m.Objects, v1, v2, v3, v4] ∧ (sImm (sInt .i64)).rep W.heap [v1] m.From f1 ∧ (sImm (sInt .i64)).rep W.heap [v2] m.To f2 ∧ (sImm (sInt .i64)).rep W.heap [v3] m.Identity f3 ∧ (sImm (sImm (sInt .i64))).rep W.heap [v4] m.Composites f4 ∧ CatLens m := by
  match cs, hl, h with
  | [c0, c1, c2, c3, c4], _, h =>
    obtain ⟨xs, n, _, _, _, hlen, hfs⟩ := DataW.trod_struct Tryz.underlying25 h
    have hl : xs.length = 5 := hlen
    obtain ⟨y0, e0⟩ : ∃ y, xs[0]? = some y := ⟨_, List.getElem?_eq_getElem (by omega)⟩
    have g0 : DataW.trod enc Tryz.prog W 0 (fun _ => true) true n 2 ((([c0, c1, c2, c3, c4] : List Value).drop 0).take (Tryz.prog.cellsOf 2)) = some y0 := (hfs 0 _ rfl).trans e0
    rw [cells2] at g0
    obtain ⟨k0, q0, _⟩ := DataW.trod_int Tryz.underlying2 g0
    replace q0 : c0 = .int .i64 k0 := by simpa using q0
    obtain ⟨y1, e1⟩ : ∃ y, xs[1]? = some y := ⟨_, List.getElem?_eq_getElem (by omega)⟩
    have g1 : DataW.trod enc Tryz.prog W 0 (fun _ => true) true n 22 ((([c0, c1, c2, c3, c4] : List Value).drop 1).take (Tryz.prog.cellsOf 22)) = some y1 := (hfs 1 _ rfl).trans e1
    rw [cells22] at g1
    obtain ⟨x1, f1, p1, l1⟩ := rd22 (v := c1) g1
    obtain ⟨y2, e2⟩ : ∃ y, xs[2]? = some y := ⟨_, List.getElem?_eq_getElem (by omega)⟩
    have g2 : DataW.trod enc Tryz.prog W 0 (fun _ => true) true n 22 ((([c0, c1, c2, c3, c4] : List Value).drop 2).take (Tryz.prog.cellsOf 22)) = some y2 := (hfs 2 _ rfl).trans e2
    rw [cells22] at g2
    obtain ⟨x2, f2, p2, l2⟩ := rd22 (v := c2) g2
    obtain ⟨y3, e3⟩ : ∃ y, xs[3]? = some y := ⟨_, List.getElem?_eq_getElem (by omega)⟩
    have g3 : DataW.trod enc Tryz.prog W 0 (fun _ => true) true n 22 ((([c0, c1, c2, c3, c4] : List Value).drop 3).take (Tryz.prog.cellsOf 22)) = some y3 := (hfs 3 _ rfl).trans e3
    rw [cells22] at g3
    obtain ⟨x3, f3, p3, l3⟩ := rd22 (v := c3) g3
    obtain ⟨y4, e4⟩ : ∃ y, xs[4]? = some y := ⟨_, List.getElem?_eq_getElem (by omega)⟩
    have g4 : DataW.trod enc Tryz.prog W 0 (fun _ => true) true n 23 ((([c0, c1, c2, c3, c4] : List Value).drop 4).take (Tryz.prog.cellsOf 23)) = some y4 := (hfs 4 _ rfl).trans e4
    rw [cells23] at g4
    obtain ⟨x4, f4, p4, l4, r4⟩ := rd23 (v := c4) g4
    exact ⟨MCategory.mk k0 x1 x2 x3 x4, c1, c2, c3, c4, f1, f2, f3, f4, (by subst q0; rfl), p1, p2, p3, p4, ⟨l1, l2, l3, l4, r4⟩⟩
set_option maxRecDepth 100000 in
theorem ar25 {v : Value} {d : DataW H} {ps : List MemPlace} (hval : Value.okWide Tryz.prog W .any base 25 v) (h : DataW.Trod enc Tryz.prog W 0 (fun _ => true) true 25 v d ps) : ∃ (m : MCategory) (v1 v2 v3 v4 : Value) (f1 f2 f3 f4 : List Nat), v = .agg #[.int .i64 m.Objects, v1, v2, v3, v4] ∧ (sImm (sInt .i64)).rep W.heap [v1] m.From f1 ∧ (sImm (sInt .i64)).rep W.heap [v2] m.To f2 ∧ (sImm (sInt .i64)).rep W.heap [v3] m.Identity f3 ∧ (sImm (sImm (sInt .i64))).rep W.heap [v4] m.Composites f4 ∧ CatLens m := by
  obtain ⟨⟨cs⟩, rfl, hsz⟩ := okWide_struct Tryz.underlying25 hval
  obtain ⟨fuel, hf⟩ := h
  rw [cells25] at hsz
  obtain ⟨m, v1, v2, v3, v4, f1, f2, f3, f4, e, hr⟩ := rd25 (cs := cs) hsz hf
  subst e
  exact ⟨m, v1, v2, v3, v4, f1, f2, f3, f4, rfl, hr⟩
theorem cells73 : Tryz.prog.cellsOf 73 = 1 := by kernel_rfl
theorem rd73 {n : Nat} {v : Value} {x : DataW H × List MemPlace} (h : DataW.trod enc Tryz.prog W 0 (fun _ => true) true n 73 [v] = some x) : ∃ (xs : (List (List (List Int)))) (f : List Nat), (sImm (sImm (sImm (sInt .i64)))).rep W.heap [v] xs f ∧ xs.length ≤ maxLen ∧ ∀ w ∈ xs, w.length ≤ maxLen ∧ ∀ u ∈ w, u.length ≤ maxLen :=
  read_slice (Q := fun y : (List (List Int)) => y.length ≤ maxLen ∧ ∀ u ∈ y, u.length ≤ maxLen) rfl Tryz.underlying73 cells23 (fun h => by
    obtain ⟨xs, f, h1, h2⟩ := rd23 h
    exact ⟨xs, f, h1, h2⟩) h
theorem cells75 : Tryz.prog.cellsOf 75 = 6 := by kernel_rfl
set_option maxRecDepth 100000 in
theorem rd75 {n : Nat} {cs : List Value} {x : DataW H × List MemPlace} (hl : cs.length = 6) (h : DataW.trod enc Tryz.prog W 0 (fun _ => true) true n 75 cs = some x) : ∃ (m : MTopology) (v1 v2 v3 v4 v5 : Value) (f1 f2 f3 f4 f5 : List Nat), cs = [.int .i64 m.Shape.Objects, v1, v2, v3, v4, v5] ∧ (sImm (sInt .i64)).rep W.heap [v1] m.Shape.From f1 ∧ (sImm (sInt .i64)).rep W.heap [v2] m.Shape.To f2 ∧ (sImm (sInt .i64)).rep W.heap [v3] m.Shape.Identity f3 ∧ (sImm (sImm (sInt .i64))).rep W.heap [v4] m.Shape.Composites f4 ∧ (sImm (sImm (sImm (sInt .i64)))).rep W.heap [v5] m.Covers f5 ∧ TopLens m := by
  match cs, hl, h with
  | [c0, c1, c2, c3, c4, c5], _, h =>
    obtain ⟨xs, n, _, _, _, hlen, hfs⟩ := DataW.trod_struct Tryz.underlying75 h
    have hl : xs.length = 2 := hlen
    obtain ⟨y0, e0⟩ : ∃ y, xs[0]? = some y := ⟨_, List.getElem?_eq_getElem (by omega)⟩
    have g0 : DataW.trod enc Tryz.prog W 0 (fun _ => true) true n 25 ((([c0, c1, c2, c3, c4, c5] : List Value).drop 0).take (Tryz.prog.cellsOf 25)) = some y0 := (hfs 0 _ rfl).trans e0
    rw [cells25] at g0
    have g0 : DataW.trod enc Tryz.prog W 0 (fun _ => true) true n 25 [c0, c1, c2, c3, c4] = some y0 := g0
    obtain ⟨m0, v0_1, v0_2, v0_3, v0_4, f0_1, f0_2, f0_3, f0_4, z0, p0_1, p0_2, p0_3, p0_4, l0⟩ := rd25 rfl g0
    obtain ⟨y1, e1⟩ : ∃ y, xs[1]? = some y := ⟨_, List.getElem?_eq_getElem (by omega)⟩
    have g1 : DataW.trod enc Tryz.prog W 0 (fun _ => true) true n 73 ((([c0, c1, c2, c3, c4, c5] : List Value).drop 5).take (Tryz.prog.cellsOf 73)) = some y1 := (hfs 1 _ rfl).trans e1
    rw [cells73] at g1
    obtain ⟨x1, f1, p1, l1, r1⟩ := rd73 (v := c5) g1
    exact ⟨MTopology.mk m0 x1, v0_1, v0_2, v0_3, v0_4, c5, f0_1, f0_2, f0_3, f0_4, f1, (by cases z0; rfl), p0_1, p0_2, p0_3, p0_4, p1, ⟨l0, l1, r1⟩⟩
set_option maxRecDepth 100000 in
theorem ar75 {v : Value} {d : DataW H} {ps : List MemPlace} (hval : Value.okWide Tryz.prog W .any base 75 v) (h : DataW.Trod enc Tryz.prog W 0 (fun _ => true) true 75 v d ps) : ∃ (m : MTopology) (v1 v2 v3 v4 v5 : Value) (f1 f2 f3 f4 f5 : List Nat), v = .agg #[.int .i64 m.Shape.Objects, v1, v2, v3, v4, v5] ∧ (sImm (sInt .i64)).rep W.heap [v1] m.Shape.From f1 ∧ (sImm (sInt .i64)).rep W.heap [v2] m.Shape.To f2 ∧ (sImm (sInt .i64)).rep W.heap [v3] m.Shape.Identity f3 ∧ (sImm (sImm (sInt .i64))).rep W.heap [v4] m.Shape.Composites f4 ∧ (sImm (sImm (sImm (sInt .i64)))).rep W.heap [v5] m.Covers f5 ∧ TopLens m := by
  obtain ⟨⟨cs⟩, rfl, hsz⟩ := okWide_struct Tryz.underlying75 hval
  obtain ⟨fuel, hf⟩ := h
  rw [cells75] at hsz
  obtain ⟨m, v1, v2, v3, v4, v5, f1, f2, f3, f4, f5, e, hr⟩ := rd75 (cs := cs) hsz hf
  subst e
  exact ⟨m, v1, v2, v3, v4, v5, f1, f2, f3, f4, f5, rfl, hr⟩
end
end Go.Proofs.YtdlhbbhdfnnmnaaGreat
