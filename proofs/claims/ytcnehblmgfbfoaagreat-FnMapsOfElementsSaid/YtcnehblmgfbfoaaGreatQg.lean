/- How slices that are handed in read. No condition. -/
import Derived.Test.YtcnehblmgfbfoaaGreatLa
import Derived.Test.YtcnehblmgfbfoaaGreatProg
import Derived.ChangeSlices
import Derived.Deep.Matrix
import Derived.WideShapes
namespace Go.Li
open Go Go.ChangeShapes Go.WideShapes Go.Deep

theorem UO {α : Type} {E : ah α} {h : Array Obj} : ∀ (xs : List α) (cs : List Value), cs.length ≤ xs.length → (∀ (i : Nat) (x : α), xs[i]? = some x → ∃ v f, cs[i]? = some v ∧ E.rep h [v] x f) → ∃ f, dm E h cs xs f := by
  intro xs
  induction xs with
  | nil => intro cs hl _; exact ⟨[], List.length_eq_zero_iff.1 (Nat.le_zero.1 hl), rfl⟩
  | cons x xs ih =>
    intro cs hl hc
    obtain ⟨v, f, hv, hf⟩ := hc 0 x rfl
    cases cs with
    | nil => simp at hv
    | cons v' cs =>
      obtain rfl : v' = v := by simpa using hv
      obtain ⟨g, hg⟩ := ih cs (by simp at hl; omega) fun i y hi => by
        have := hc (i + 1) y (by simpa using hi)
        simpa using this
      exact ⟨f ++ g, [v'], cs, f, g, rfl, rfl, hf, hg⟩
theorem Yu {α : Type} {E : ah α} (hE : E.size = 1) {w : World} {a : Addr} {xs : List α} {n cap : Nat} (hn : xs.length = n) (Xm : n ≤ cap) (h : ∀ (i : Nat) (x : α), xs[i]? = some x → ∃ v f, w.cell? (a.add i) = some v ∧ E.rep w.heap [v] x f) :
    ∃ f, (aV E).rep w.heap [.slice (some a) n cap] xs f := by
  subst hn
  by_cases hx : xs = []
  · subst hx; exact ⟨[], some a, cap, rfl, .inl ⟨rfl, rfl⟩⟩
  · obtain ⟨y, ys, rfl⟩ := List.exists_cons_of_ne_nil hx
    obtain ⟨v, f, hv, _⟩ := h 0 y rfl
    obtain ⟨b, off, spot⟩ := a
    obtain rfl : spot = none := by simpa [Addr.add] using World.cell?_spot hv
    have hb : ∃ cur e fz, w.heap[b]? = some (.cells cur e fz) := by
      unfold World.cell? at hv
      split at hv
      · next c e fz hb => exact ⟨c, e, fz, by simpa [Addr.add] using hb⟩
      · cases hv
    obtain ⟨cur, e, fz, hb⟩ := hb
    have hc : ∀ i, w.cell? (Addr.add ⟨b, off, none⟩ i) = cur[off + i]? := fun i => by
      rw [add_plain]
      unfold World.cell?
      simp only [hb]
      rfl
    obtain ⟨g, hg⟩ := UO (E := E) (h := w.heap) (y :: ys) ((cur.toList.drop off).take ((y :: ys).length * E.size)) (by rw [hE, Nat.mul_one]; exact List.length_take_le _ _) fun i x hi => by
      obtain ⟨v, f, h1, h2⟩ := h i x hi
      have hi := (List.getElem?_eq_some_iff.1 hi).1
      rw [hc] at h1
      refine ⟨v, f, ?_, h2⟩
      rw [hE, Nat.mul_one, List.getElem?_take_of_lt hi, List.getElem?_drop]
      simpa using h1
    exact ⟨b :: g, some ⟨b, off, none⟩, cap, rfl, .inr ⟨b, off, cur, e, fz, g, rfl, hb, rfl, Xm, hg⟩⟩

section
variable {H : Type} {enc : TypeId × Value → H} {P : Program} {w : World} {base : Nat} {held : Bool}
/-- a slice of bytes, as plain data: what each byte may be -/
theorem M6 {t e : TypeId} {fuel : Nat} {v : Value} {x : DataW H × List MemPlace} (ht : P.underlying t = some (.slice e)) (he : P.underlying e = some (.int .u8)) (hc : P.cellsOf e = 1)
    (h : DataW.trod enc P w base (fun _ => true) held fuel t [v] = some x) : ∃ (xs : List Int) (f : List Nat), (aV (aN .u8)).rep w.heap [v] xs f ∧ xs.length ≤ maxLen ∧ ∀ y ∈ xs, 0 ≤ y ∧ y < 256 := by
  rcases open_ints ht he hc h with ⟨h1, _⟩ | ⟨a, len, cap, zs, h1, _, hl, hm, hz, _, ik, hw⟩
  · obtain rfl : v = .slice none 0 0 := by simpa using h1
    exact ⟨[], [], ⟨none, 0, rfl, .inl ⟨rfl, rfl⟩⟩, Nat.zero_le _, fun _ h => nomatch h⟩
  · obtain rfl : v = .slice (some a) len cap := by simpa using h1
    simp only [if_true] at hz
    have hlen : (zs.take len).length = len := by rw [List.length_take]; omega
    obtain ⟨f, hf⟩ := Yu (E := aN .u8) rfl (w := w) (a := a) (cap := cap) hlen hl fun i x hi => by
      have uB := (List.getElem?_eq_some_iff.1 hi).1
      rw [List.getElem?_take_of_lt (by omega)] at hi
      refine ⟨.int .u8 x, [], ?_, rfl, rfl⟩
      rw [ik i (by omega), List.getD_eq_getElem?_getD, hi]; rfl
    refine ⟨_, f, hf, by omega, fun y hy => ?_⟩
    have := hw y (List.mem_of_mem_take hy)
    simp only [Lit.wf, Bool.and_eq_true, decide_eq_true_eq] at this
    have e1 : IntKind.u8.min = 0 := by decide
    have e2 : IntKind.u8.max = 255 := by decide
    omega
end
end Go.Li
