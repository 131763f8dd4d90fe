/- How slices that are handed in read. No condition. -/
import Derived.Test.YtcnehblmgfbfoaaGreatLa
import Derived.Test.YtcnehblmgfbfoaaGreatProg
import Derived.ChangeSlices
import Derived.Deep.Matrix
import Derived.WideShapes
namespace Go.Li
open Go Go.ChangeShapes Go.WideShapes Go.Deep

theorem NX {α : Type} {E : ag α} {h : Array Obj} : ∀ (xs : List α) (cs : List Value), cs.length ≤ xs.length → (∀ (i : Nat) (x : α), xs[i]? = some x → ∃ v f, cs[i]? = some v ∧ E.rep h [v] x f) → ∃ f, db E h cs xs f := by
  intro xs
  induction xs with
  | nil => intro cs hl _; exact ⟨[], List.length_eq_zero_iff.1 (Nat.le_zero.1 hl), rfl⟩
  | cons x xs ih =>
    intro cs hl hc
    obtain ⟨v, f, hv, hf⟩ := hc 0 x rfl
    cases cs with
    | nil => simp at hv
    | cons v' cs =>
      obtain rfl : v' = v := by simpa using hv
      obtain ⟨g, hg⟩ := ih cs (by simp at hl; omega) fun i y hi => by
        have := hc (i + 1) y (by simpa using hi)
        simpa using this
      exact ⟨f ++ g, [v'], cs, f, g, rfl, rfl, hf, hg⟩
theorem DS {α : Type} {E : ag α} (hE : E.size = 1) {w : World} {a : Addr} {xs : List α} {n cap : Nat} (hn : xs.length = n) (Qx : n ≤ cap) (h : ∀ (i : Nat) (x : α), xs[i]? = some x → ∃ v f, w.cell? (a.add i) = some v ∧ E.rep w.heap [v] x f) :
    ∃ f, (bE E).rep w.heap [.slice (some a) n cap] xs f := by
  subst hn
  by_cases hx : xs = []
  · subst hx; exact ⟨[], some a, cap, rfl, .inl ⟨rfl, rfl⟩⟩
  · obtain ⟨y, ys, rfl⟩ := List.exists_cons_of_ne_nil hx
    obtain ⟨v, f, hv, _⟩ := h 0 y rfl
    obtain ⟨b, off, spot⟩ := a
    obtain rfl : spot = none := by simpa [Addr.add] using World.cell?_spot hv
    have hb : ∃ cur e fz, w.heap[b]? = some (.cells cur e fz) := by
      unfold World.cell? at hv
      split at hv
      · next c e fz hb => exact ⟨c, e, fz, by simpa [Addr.add] using hb⟩
      · cases hv
    obtain ⟨cur, e, fz, hb⟩ := hb
    have hc : ∀ i, w.cell? (Addr.add ⟨b, off, none⟩ i) = cur[off + i]? := fun i => by
      rw [add_plain]
      unfold World.cell?
      simp only [hb]
      rfl
    obtain ⟨g, hg⟩ := NX (E := E) (h := w.heap) (y :: ys) ((cur.toList.drop off).take ((y :: ys).length * E.size)) (by rw [hE, Nat.mul_one]; exact List.length_take_le _ _) fun i x hi => by
      obtain ⟨v, f, h1, h2⟩ := h i x hi
      have hi := (List.getElem?_eq_some_iff.1 hi).1
      rw [hc] at h1
      refine ⟨v, f, ?_, h2⟩
      rw [hE, Nat.mul_one, List.getElem?_take_of_lt hi, List.getElem?_drop]
      simpa using h1
    exact ⟨b :: g, some ⟨b, off, none⟩, cap, rfl, .inr ⟨b, off, cur, e, fz, g, rfl, hb, rfl, Qx, hg⟩⟩

section
variable {H : Type} {enc : TypeId × Value → H} {P : Program} {w : World} {base : Nat} {held : Bool}
/-- a slice of integers, as plain data -/
theorem I2 {t e : TypeId} {k : IntKind} {fuel : Nat} {v : Value} {x : DataW H × List MemPlace} (ht : P.underlying t = some (.slice e)) (he : P.underlying e = some (.int k)) (hc : P.cellsOf e = 1)
    (h : DataW.trod enc P w base (fun _ => true) held fuel t [v] = some x) : ∃ (xs : List Int) (f : List Nat), (bE (aJ k)).rep w.heap [v] xs f ∧ xs.length ≤ maxLen := by
  rcases open_ints ht he hc h with ⟨h1, _⟩ | ⟨a, len, cap, zs, h1, _, hl, hm, hz, _, ox, _⟩
  · obtain rfl : v = .slice none 0 0 := by simpa using h1
    exact ⟨[], [], ⟨none, 0, rfl, .inl ⟨rfl, rfl⟩⟩, Nat.zero_le _⟩
  · obtain rfl : v = .slice (some a) len cap := by simpa using h1
    simp only [if_true] at hz
    have hlen : (zs.take len).length = len := by rw [List.length_take]; omega
    obtain ⟨f, hf⟩ := DS (E := aJ k) rfl (w := w) (a := a) (cap := cap) hlen hl fun i x hi => by
      have qd := (List.getElem?_eq_some_iff.1 hi).1
      rw [List.getElem?_take_of_lt (by omega)] at hi
      refine ⟨.int k x, [], ?_, rfl, rfl⟩
      rw [ox i (by omega), List.getD_eq_getElem?_getD, hi]; rfl
    exact ⟨_, f, hf, by omega⟩
/-- a slice, by how its elements read -/
theorem G0 {α : Type} {E : ag α} {Q : α → Prop} {t e : TypeId} {fuel : Nat} {v : Value} {x : DataW H × List MemPlace} (hE : E.size = 1) (ht : P.underlying t = some (.slice e)) (hc : P.cellsOf e = 1)
    (each : ∀ {fuel : Nat} {v : Value} {x : DataW H × List MemPlace}, DataW.trod enc P w base (fun _ => true) held fuel e [v] = some x → ∃ y f, E.rep w.heap [v] y f ∧ Q y)
    (h : DataW.trod enc P w base (fun _ => true) held fuel t [v] = some x) : ∃ (xs : List α) (f : List Nat), (bE E).rep w.heap [v] xs f ∧ xs.length ≤ maxLen ∧ ∀ y ∈ xs, Q y := by
  rcases open_slice1 ht hc h with ⟨h1, _⟩ | ⟨a, len, cap, m, n, V, D, Pl, h1, hb, hl, hm, Mm, rfl, hx⟩
  · obtain rfl : v = .slice none 0 0 := by simpa using h1
    exact ⟨[], [], ⟨none, 0, rfl, .inl ⟨rfl, rfl⟩⟩, Nat.zero_le _, fun _ h => nomatch h⟩
  · obtain rfl : v = .slice (some a) len cap := by simpa using h1
    simp only [if_true] at Mm
    have Xr := Mm.symm
    subst Xr
    have G2 : ∀ r, r < len → ∃ y : α, (∃ f, E.rep w.heap [V r] y f) ∧ Q y := fun r hr => by
      obtain ⟨y, f, h1, h2⟩ := each (hx r (by omega)).2
      exact ⟨y, ⟨f, h1⟩, h2⟩
    by_cases hz : len = 0
    · subst hz
      obtain ⟨f, hf⟩ := DS (E := E) hE (w := w) (a := a) (cap := cap) (xs := []) (n := 0) rfl (Nat.zero_le _) fun i x hi => by simp at hi
      exact ⟨[], f, hf, Nat.zero_le _, fun _ h => nomatch h⟩
    · have y0 : α := Classical.choose (G2 0 (by omega))
      obtain ⟨Y, hY⟩ : ∃ Y : Nat → α, ∀ r, r < len → (∃ f, E.rep w.heap [V r] (Y r) f) ∧ Q (Y r) :=
        ⟨fun r => if h : r < len then Classical.choose (G2 r h) else y0, fun r hr => by simp only [hr, dif_pos]; exact Classical.choose_spec (G2 r hr)⟩
      obtain ⟨f, hf⟩ := DS (E := E) hE (w := w) (a := a) (cap := cap) (xs := (List.range len).map Y) (n := len) (by simp) hl fun i x hi => by
        have qd : i < len := by simpa using (List.getElem?_eq_some_iff.1 hi).1
        obtain rfl : Y i = x := by simpa [qd] using hi
        obtain ⟨f, hf⟩ := (hY i qd).1
        exact ⟨V i, f, (hx i (by omega)).1, hf⟩
      refine ⟨_, f, hf, by rw [List.length_map, List.length_range]; omega, fun y hy => ?_⟩
      obtain ⟨r, hr, rfl⟩ := List.mem_map.1 hy
      exact (hY r (List.mem_range.1 hr)).2
end
end Go.Li
