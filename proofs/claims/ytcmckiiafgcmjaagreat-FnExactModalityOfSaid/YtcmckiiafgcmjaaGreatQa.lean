/- How a category that is handed in reads: its four lists as plain data. No condition. -/
import Derived.Test.YtcmckiiafgcmjaaGreatPc
import Derived.Test.YtcmckiiafgcmjaaGreatProg
import Derived.ChangeSlices
import Derived.Deep.Matrix
import Derived.WideShapes
namespace Go.Li
open Go Go.ChangeShapes Go.WideShapes Go.Deep

theorem repL_mk {α : Type} {E : STy α} {h : Array Obj} : ∀ (xs : List α) (cs : List Value), cs.length ≤ xs.length → (∀ (i : Nat) (x : α), xs[i]? = some x → ∃ v f, cs[i]? = some v ∧ E.rep h [v] x f) → ∃ f, repL E h cs xs f := by
  intro xs
  induction xs with
  | nil => intro cs hl _; exact ⟨[], List.length_eq_zero_iff.1 (Nat.le_zero.1 hl), rfl⟩
  | cons x xs ih =>
    intro cs hl hc
    obtain ⟨v, f, hv, hf⟩ := hc 0 x rfl
    cases cs with
    | nil => simp at hv
    | cons v' cs =>
      obtain rfl : v' = v := by simpa using hv
      obtain ⟨g, hg⟩ := ih cs (by simp at hl; omega) fun i y hi => by
        have := hc (i + 1) y (by simpa using hi)
        simpa using this
      exact ⟨f ++ g, [v'], cs, f, g, rfl, rfl, hf, hg⟩
theorem imm_mk {α : Type} {E : STy α} (hE : E.size = 1) {w : World} {a : Addr} {xs : List α} {n cap : Nat} (hn : xs.length = n) (h : ∀ (i : Nat) (x : α), xs[i]? = some x → ∃ v f, w.cell? (a.add i) = some v ∧ E.rep w.heap [v] x f) :
    ∃ f, (sImm E).rep w.heap [.slice (some a) n cap] xs f := by
  subst hn
  by_cases hx : xs = []
  · subst hx; exact ⟨[], some a, cap, rfl, .inl ⟨rfl, rfl⟩⟩
  · obtain ⟨y, ys, rfl⟩ := List.exists_cons_of_ne_nil hx
    obtain ⟨v, f, hv, _⟩ := h 0 y rfl
    obtain ⟨b, off, spot⟩ := a
    obtain rfl : spot = none := by simpa [Addr.add] using World.cell?_spot hv
    have hb : ∃ cur e fz, w.heap[b]? = some (.cells cur e fz) := by
      unfold World.cell? at hv
      split at hv
      · next c e fz hb => exact ⟨c, e, fz, by simpa [Addr.add] using hb⟩
      · cases hv
    obtain ⟨cur, e, fz, hb⟩ := hb
    have hc : ∀ i, w.cell? (Addr.add ⟨b, off, none⟩ i) = cur[off + i]? := fun i => by
      rw [add_plain]
      unfold World.cell?
      simp only [hb]
      rfl
    obtain ⟨g, hg⟩ := repL_mk (E := E) (h := w.heap) (y :: ys) ((cur.toList.drop off).take ((y :: ys).length * E.size)) (by rw [hE, Nat.mul_one]; exact List.length_take_le _ _) fun i x hi => by
      obtain ⟨v, f, h1, h2⟩ := h i x hi
      have hi := (List.getElem?_eq_some_iff.1 hi).1
      rw [hc] at h1
      refine ⟨v, f, ?_, h2⟩
      rw [hE, Nat.mul_one, List.getElem?_take_of_lt hi, List.getElem?_drop]
      simpa using h1
    exact ⟨b :: g, some ⟨b, off, none⟩, cap, rfl, .inr ⟨b, off, cur, e, fz, g, rfl, hb, rfl, hg⟩⟩

section
variable {H : Type} {enc : TypeId × Value → H} {P : Program} {w : World} {base : Nat} {held : Bool}
/-- a slice of integers, as plain data -/
theorem read_ints {t e : TypeId} {k : IntKind} {fuel : Nat} {v : Value} {x : DataW H × List MemPlace} (ht : P.underlying t = some (.slice e)) (he : P.underlying e = some (.int k)) (hc : P.cellsOf e = 1)
    (h : DataW.trod enc P w base (fun _ => true) held fuel t [v] = some x) : ∃ (xs : List Int) (f : List Nat), (sImm (sInt k)).rep w.heap [v] xs f ∧ xs.length ≤ maxLen := by
  rcases open_ints ht he hc h with ⟨h1, _⟩ | ⟨a, len, cap, zs, h1, _, hl, hm, hz, _, hcell, _⟩
  · obtain rfl : v = .slice none 0 0 := by simpa using h1
    exact ⟨[], [], ⟨none, 0, rfl, .inl ⟨rfl, rfl⟩⟩, Nat.zero_le _⟩
  · obtain rfl : v = .slice (some a) len cap := by simpa using h1
    simp only [if_true] at hz
    have hlen : (zs.take len).length = len := by rw [List.length_take]; omega
    obtain ⟨f, hf⟩ := imm_mk (E := sInt k) rfl (w := w) (a := a) (cap := cap) hlen fun i x hi => by
      have hi' := (List.getElem?_eq_some_iff.1 hi).1
      rw [List.getElem?_take_of_lt (by omega)] at hi
      refine ⟨.int k x, [], ?_, rfl, rfl⟩
      rw [hcell i (by omega), List.getD_eq_getElem?_getD, hi]; rfl
    exact ⟨_, f, hf, by omega⟩
/-- a slice of slices of integers, as plain data -/
theorem read_rows {t e q : TypeId} {k : IntKind} {fuel : Nat} {v : Value} {x : DataW H × List MemPlace} (ht : P.underlying t = some (.slice e)) (he : P.underlying e = some (.slice q)) (hq : P.underlying q = some (.int k))
    (ce : P.cellsOf e = 1) (cq : P.cellsOf q = 1) (h : DataW.trod enc P w base (fun _ => true) held fuel t [v] = some x) :
    ∃ (xs : List (List Int)) (f : List Nat), (sImm (sImm (sInt k))).rep w.heap [v] xs f ∧ xs.length ≤ maxLen ∧ ∀ y ∈ xs, y.length ≤ maxLen := by
  rcases open_int_rows ht he hq ce cq h with ⟨h1, _⟩ | ⟨a, len, cap, A, L, C, Z, h1, _, hl, hm, _, hr⟩
  · obtain rfl : v = .slice none 0 0 := by simpa using h1
    exact ⟨[], [], ⟨none, 0, rfl, .inl ⟨rfl, rfl⟩⟩, Nat.zero_le _, fun _ h => nomatch h⟩
  · obtain rfl : v = .slice (some a) len cap := by simpa using h1
    have hlen : ((List.range len).map fun r => (Z r).take (L r)).length = len := by simp
    obtain ⟨f, hf⟩ := imm_mk (E := sImm (sInt k)) rfl (w := w) (a := a) (cap := cap) hlen fun i x hi => by
      have hi' : i < len := by simpa using (List.getElem?_eq_some_iff.1 hi).1
      obtain rfl : (Z i).take (L i) = x := by simpa [hi'] using hi
      obtain ⟨h2, h3, h4, h5, _, h6, h7⟩ := hr i (by omega)
      have hL : ((Z i).take (L i)).length = L i := by rw [List.length_take]; omega
      cases hA : A i with
      | none =>
        have h8 := h6 hA
        have h9 : L i = 0 := by omega
        exact ⟨_, [], h2, A i, C i, by rw [hL], .inl ⟨by rw [h9]; rfl, rfl⟩⟩
      | some a' =>
        obtain ⟨_, hc⟩ := h7 a' hA
        obtain ⟨g, hg⟩ := imm_mk (E := sInt k) rfl (w := w) (a := a') (cap := C i) hL fun j y hj => by
          have hj' := (List.getElem?_eq_some_iff.1 hj).1
          rw [List.getElem?_take_of_lt (by omega)] at hj
          refine ⟨.int k y, [], ?_, rfl, rfl⟩
          rw [hc j (by omega), List.getD_eq_getElem?_getD, hj]; rfl
        exact ⟨_, g, h2, by rw [hA]; exact hg⟩
    refine ⟨_, f, hf, by rw [hlen]; omega, fun y hy => ?_⟩
    obtain ⟨r, hr', rfl⟩ := List.mem_map.1 hy
    have hr' := List.mem_range.1 hr'
    obtain ⟨_, h3, h4, _⟩ := hr r (by omega)
    rw [List.length_take]; omega
end
end Go.Li
namespace Go.Proofs.YtcmckiiafgcmjaaGreat
open Go Go.Li Go.ChangeShapes Go.WideShapes Go.Deep
theorem cells2 : Tryz.prog.cellsOf 2 = 1 := by kernel_rfl
theorem cells22 : Tryz.prog.cellsOf 22 = 1 := by kernel_rfl
theorem cells23 : Tryz.prog.cellsOf 23 = 1 := by kernel_rfl
theorem cells25 : Tryz.prog.cellsOf 25 = 5 := by kernel_rfl
set_option maxRecDepth 100000 in
/-- a category that is handed in -/
theorem read_cat {H : Type} {enc : TypeId × Value → H} {W : World} {base : Nat} {v : Value} {d : DataW H} {ps : List MemPlace} (hval : Value.okWide Tryz.prog W .any base 25 v) (h : DataW.Trod enc Tryz.prog W 0 (fun _ => true) true 25 v d ps) :
    ∃ (c : MCategory) (v1 v2 v3 v4 : Value) (f1 f2 f3 f4 : List Nat), v = .agg #[.int .i64 c.Objects, v1, v2, v3, v4] ∧ (sImm (sInt .i64)).rep W.heap [v1] c.From f1 ∧ (sImm (sInt .i64)).rep W.heap [v2] c.To f2 ∧
      (sImm (sInt .i64)).rep W.heap [v3] c.Identity f3 ∧ (sImm (sImm (sInt .i64))).rep W.heap [v4] c.Composites f4 ∧ CatLens c := by
  obtain ⟨cs, rfl, hsz⟩ := okWide_struct Tryz.underlying25 hval
  obtain ⟨fuel, hf⟩ := h
  rw [cells25] at hsz
  obtain ⟨xs, n, _, _, _, hlen, hfs⟩ := DataW.trod_struct Tryz.underlying25 hf
  have hl5 : xs.length = 5 := hlen
  have hx : ∀ i, i < 5 → ∃ y, xs[i]? = some y := fun i hi => ⟨_, List.getElem?_eq_getElem (by omega)⟩
  match cs, hsz, hfs with
  | ⟨[c0, c1, c2, c3, c4]⟩, _, hfs =>
    obtain ⟨y0, e0⟩ := hx 0 (by decide)
    obtain ⟨y1, e1⟩ := hx 1 (by decide)
    obtain ⟨y2, e2⟩ := hx 2 (by decide)
    obtain ⟨y3, e3⟩ := hx 3 (by decide)
    obtain ⟨y4, e4⟩ := hx 4 (by decide)
    have h0 : DataW.trod enc Tryz.prog W 0 (fun _ => true) true n 2 ((([c0, c1, c2, c3, c4] : List Value).drop 0).take (Tryz.prog.cellsOf 2)) = some y0 := (hfs 0 _ rfl).trans e0
    rw [cells2] at h0
    have h1 : DataW.trod enc Tryz.prog W 0 (fun _ => true) true n 22 ((([c0, c1, c2, c3, c4] : List Value).drop 1).take (Tryz.prog.cellsOf 22)) = some y1 := (hfs 1 _ rfl).trans e1
    rw [cells22] at h1
    have h2 : DataW.trod enc Tryz.prog W 0 (fun _ => true) true n 22 ((([c0, c1, c2, c3, c4] : List Value).drop 2).take (Tryz.prog.cellsOf 22)) = some y2 := (hfs 2 _ rfl).trans e2
    rw [cells22] at h2
    have h3 : DataW.trod enc Tryz.prog W 0 (fun _ => true) true n 22 ((([c0, c1, c2, c3, c4] : List Value).drop 3).take (Tryz.prog.cellsOf 22)) = some y3 := (hfs 3 _ rfl).trans e3
    rw [cells22] at h3
    have h4 : DataW.trod enc Tryz.prog W 0 (fun _ => true) true n 23 ((([c0, c1, c2, c3, c4] : List Value).drop 4).take (Tryz.prog.cellsOf 23)) = some y4 := (hfs 4 _ rfl).trans e4
    rw [cells23] at h4
    obtain ⟨k, hk, _⟩ := DataW.trod_int Tryz.underlying2 h0
    obtain rfl : c0 = .int .i64 k := by simpa using hk
    obtain ⟨x1, f1, g1, l1⟩ := read_ints (v := c1) Tryz.underlying22 Tryz.underlying2 cells2 h1
    obtain ⟨x2, f2, g2, l2⟩ := read_ints (v := c2) Tryz.underlying22 Tryz.underlying2 cells2 h2
    obtain ⟨x3, f3, g3, l3⟩ := read_ints (v := c3) Tryz.underlying22 Tryz.underlying2 cells2 h3
    obtain ⟨x4, f4, g4, l4, l5⟩ := read_rows (v := c4) Tryz.underlying23 Tryz.underlying22 Tryz.underlying2 cells22 cells2 h4
    exact ⟨MCategory.mk k x1 x2 x3 x4, c1, c2, c3, c4, f1, f2, f3, f4, rfl, g1, g2, g3, g4, l1, l2, l3, l4, l5⟩
end Go.Proofs.YtcmckiiafgcmjaaGreat
