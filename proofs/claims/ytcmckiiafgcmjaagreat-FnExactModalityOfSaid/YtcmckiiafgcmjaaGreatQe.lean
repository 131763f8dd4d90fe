/- How topologies, numbers and lists that are handed in read. No condition. -/
import Derived.Test.YtcmckiiafgcmjaaGreatQa
import Derived.Test.YtcmckiiafgcmjaaGreatRd
namespace Go.Li
open Go Go.ChangeShapes Go.WideShapes Go.Deep
section
variable {H : Type} {enc : TypeId × Value → H} {P : Program} {w : World} {base : Nat} {held : Bool}
/-- a slice, by how its elements read -/
theorem read_slice {α : Type} {E : STy α} {Q : α → Prop} {t e : TypeId} {fuel : Nat} {v : Value} {x : DataW H × List MemPlace} (hE : E.size = 1) (ht : P.underlying t = some (.slice e)) (hc : P.cellsOf e = 1)
    (each : ∀ {fuel : Nat} {v : Value} {x : DataW H × List MemPlace}, DataW.trod enc P w base (fun _ => true) held fuel e [v] = some x → ∃ y f, E.rep w.heap [v] y f ∧ Q y)
    (h : DataW.trod enc P w base (fun _ => true) held fuel t [v] = some x) : ∃ (xs : List α) (f : List Nat), (sImm E).rep w.heap [v] xs f ∧ xs.length ≤ maxLen ∧ ∀ y ∈ xs, Q y := by
  rcases open_slice1 ht hc h with ⟨h1, _⟩ | ⟨a, len, cap, m, n, V, D, Pl, h1, hb, hl, hm, hmm, rfl, hx⟩
  · obtain rfl : v = .slice none 0 0 := by simpa using h1
    exact ⟨[], [], ⟨none, 0, rfl, .inl ⟨rfl, rfl⟩⟩, Nat.zero_le _, fun _ h => nomatch h⟩
  · obtain rfl : v = .slice (some a) len cap := by simpa using h1
    simp only [if_true] at hmm
    have hmm' := hmm.symm
    subst hmm'
    have each' : ∀ r, r < len → ∃ y : α, (∃ f, E.rep w.heap [V r] y f) ∧ Q y := fun r hr => by
      obtain ⟨y, f, h1, h2⟩ := each (hx r (by omega)).2
      exact ⟨y, ⟨f, h1⟩, h2⟩
    by_cases hz : len = 0
    · subst hz
      obtain ⟨f, hf⟩ := imm_mk (E := E) hE (w := w) (a := a) (cap := cap) (xs := []) (n := 0) rfl fun i x hi => by simp at hi
      exact ⟨[], f, hf, Nat.zero_le _, fun _ h => nomatch h⟩
    · have y0 : α := Classical.choose (each' 0 (by omega))
      obtain ⟨Y, hY⟩ : ∃ Y : Nat → α, ∀ r, r < len → (∃ f, E.rep w.heap [V r] (Y r) f) ∧ Q (Y r) :=
        ⟨fun r => if h : r < len then Classical.choose (each' r h) else y0, fun r hr => by simp only [hr, dif_pos]; exact Classical.choose_spec (each' r hr)⟩
      obtain ⟨f, hf⟩ := imm_mk (E := E) hE (w := w) (a := a) (cap := cap) (xs := (List.range len).map Y) (n := len) (by simp) fun i x hi => by
        have hi' : i < len := by simpa using (List.getElem?_eq_some_iff.1 hi).1
        obtain rfl : Y i = x := by simpa [hi'] using hi
        obtain ⟨f, hf⟩ := (hY i hi').1
        exact ⟨V i, f, (hx i (by omega)).1, hf⟩
      refine ⟨_, f, hf, by rw [List.length_map, List.length_range]; omega, fun y hy => ?_⟩
      obtain ⟨r, hr, rfl⟩ := List.mem_map.1 hy
      exact (hY r (List.mem_range.1 hr)).2
end
end Go.Li
namespace Go.Proofs.YtcmckiiafgcmjaaGreat
open Go Go.Li Go.ChangeShapes Go.WideShapes Go.Deep
theorem cells26 : Tryz.prog.cellsOf 26 = 1 := by kernel_rfl
theorem cells28 : Tryz.prog.cellsOf 28 = 6 := by kernel_rfl
section
variable {H : Type} {enc : TypeId × Value → H} {W : World} {base : Nat} {held : Bool}
theorem read_rows3 {fuel : Nat} {v : Value} {x : DataW H × List MemPlace} (h : DataW.trod enc Tryz.prog W base (fun _ => true) held fuel 26 [v] = some x) :
    ∃ (xs : List (List (List Int))) (f : List Nat), (sImm (sImm (sImm (sInt .i64)))).rep W.heap [v] xs f ∧ xs.length ≤ maxLen ∧ ∀ y ∈ xs, y.length ≤ maxLen ∧ ∀ z ∈ y, z.length ≤ maxLen :=
  read_slice (Q := fun y : List (List Int) => y.length ≤ maxLen ∧ ∀ z ∈ y, z.length ≤ maxLen) rfl Tryz.underlying26 cells23 (fun h => by
    obtain ⟨xs, f, h1, h2, h3⟩ := read_rows Tryz.underlying23 Tryz.underlying22 Tryz.underlying2 cells22 cells2 h
    exact ⟨xs, f, h1, h2, h3⟩) h
set_option maxRecDepth 100000 in
/-- a topology that is handed in -/
theorem read_top {v : Value} {d : DataW H} {ps : List MemPlace} (hval : Value.okWide Tryz.prog W .any base 28 v) (h : DataW.Trod enc Tryz.prog W 0 (fun _ => true) true 28 v d ps) :
    ∃ (t : MTopology) (v1 v2 v3 v4 v5 : Value) (f1 f2 f3 f4 f5 : List Nat), v = .agg #[.int .i64 t.Shape.Objects, v1, v2, v3, v4, v5] ∧ (sImm (sInt .i64)).rep W.heap [v1] t.Shape.From f1 ∧ (sImm (sInt .i64)).rep W.heap [v2] t.Shape.To f2 ∧
      (sImm (sInt .i64)).rep W.heap [v3] t.Shape.Identity f3 ∧ (sImm (sImm (sInt .i64))).rep W.heap [v4] t.Shape.Composites f4 ∧ (sImm (sImm (sImm (sInt .i64)))).rep W.heap [v5] t.Covers f5 ∧ TopLens t := by
  obtain ⟨cs, rfl, hsz⟩ := okWide_struct Tryz.underlying28 hval
  obtain ⟨fuel, hf⟩ := h
  rw [cells28] at hsz
  obtain ⟨xs, n, _, _, _, hlen, hfs⟩ := DataW.trod_struct Tryz.underlying28 hf
  have hl2 : xs.length = 2 := hlen
  match cs, hsz, hfs with
  | ⟨[c0, c1, c2, c3, c4, c5]⟩, _, hfs =>
    obtain ⟨z0, q0⟩ : ∃ y, xs[0]? = some y := ⟨_, List.getElem?_eq_getElem (by omega)⟩
    obtain ⟨z1, q1⟩ : ∃ y, xs[1]? = some y := ⟨_, List.getElem?_eq_getElem (by omega)⟩
    have g0 : DataW.trod enc Tryz.prog W 0 (fun _ => true) true n 25 ((([c0, c1, c2, c3, c4, c5] : List Value).drop 0).take (Tryz.prog.cellsOf 25)) = some z0 := (hfs 0 _ rfl).trans q0
    rw [cells25] at g0
    have g1 : DataW.trod enc Tryz.prog W 0 (fun _ => true) true n 26 ((([c0, c1, c2, c3, c4, c5] : List Value).drop 5).take (Tryz.prog.cellsOf 26)) = some z1 := (hfs 1 _ rfl).trans q1
    rw [cells26] at g1
    obtain ⟨xs, n, _, _, _, hlen, hfs⟩ := DataW.trod_struct Tryz.underlying25 g0
    have hl5 : xs.length = 5 := hlen
    have hx : ∀ i, i < 5 → ∃ y, xs[i]? = some y := fun i hi => ⟨_, List.getElem?_eq_getElem (by omega)⟩
    obtain ⟨y0, e0⟩ := hx 0 (by decide)
    obtain ⟨y1, e1⟩ := hx 1 (by decide)
    obtain ⟨y2, e2⟩ := hx 2 (by decide)
    obtain ⟨y3, e3⟩ := hx 3 (by decide)
    obtain ⟨y4, e4⟩ := hx 4 (by decide)
    have h0 : DataW.trod enc Tryz.prog W 0 (fun _ => true) true n 2 ((([c0, c1, c2, c3, c4] : List Value).drop 0).take (Tryz.prog.cellsOf 2)) = some y0 := (hfs 0 _ rfl).trans e0
    rw [cells2] at h0
    have h1 : DataW.trod enc Tryz.prog W 0 (fun _ => true) true n 22 ((([c0, c1, c2, c3, c4] : List Value).drop 1).take (Tryz.prog.cellsOf 22)) = some y1 := (hfs 1 _ rfl).trans e1
    rw [cells22] at h1
    have h2 : DataW.trod enc Tryz.prog W 0 (fun _ => true) true n 22 ((([c0, c1, c2, c3, c4] : List Value).drop 2).take (Tryz.prog.cellsOf 22)) = some y2 := (hfs 2 _ rfl).trans e2
    rw [cells22] at h2
    have h3 : DataW.trod enc Tryz.prog W 0 (fun _ => true) true n 22 ((([c0, c1, c2, c3, c4] : List Value).drop 3).take (Tryz.prog.cellsOf 22)) = some y3 := (hfs 3 _ rfl).trans e3
    rw [cells22] at h3
    have h4 : DataW.trod enc Tryz.prog W 0 (fun _ => true) true n 23 ((([c0, c1, c2, c3, c4] : List Value).drop 4).take (Tryz.prog.cellsOf 23)) = some y4 := (hfs 4 _ rfl).trans e4
    rw [cells23] at h4
    obtain ⟨k, hk, _⟩ := DataW.trod_int Tryz.underlying2 h0
    obtain rfl : c0 = .int .i64 k := by simpa using hk
    obtain ⟨x1, f1, g1', l1⟩ := read_ints (v := c1) Tryz.underlying22 Tryz.underlying2 cells2 h1
    obtain ⟨x2, f2, g2, l2⟩ := read_ints (v := c2) Tryz.underlying22 Tryz.underlying2 cells2 h2
    obtain ⟨x3, f3, g3, l3⟩ := read_ints (v := c3) Tryz.underlying22 Tryz.underlying2 cells2 h3
    obtain ⟨x4, f4, g4, l4, l5⟩ := read_rows (v := c4) Tryz.underlying23 Tryz.underlying22 Tryz.underlying2 cells22 cells2 h4
    obtain ⟨x5, f5, g5, l6, l7⟩ := read_rows3 (v := c5) g1
    exact ⟨MTopology.mk (MCategory.mk k x1 x2 x3 x4) x5, c1, c2, c3, c4, c5, f1, f2, f3, f4, f5, rfl, g1', g2, g3, g4, g5, ⟨l1, l2, l3, l4, l5⟩, l6, l7⟩
end
end Go.Proofs.YtcmckiiafgcmjaaGreat
