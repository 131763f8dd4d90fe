/- Marks on the way; loops that keep some elements. No condition beside those that each theorem names. -/
import Derived.Test.YtdlhbbhdfnnmnaaGreatRg
namespace Go.Proofs.YtdlhbbhdfnnmnaaGreat
open Go Go.Li

theorem place_ge (L : List (List Int)) (s : List Int) : decide (placeS L s ≥ 0) = L.contains s := by
  by_cases h : s ∈ L
  · obtain ⟨j, h1, _⟩ := place_some h
    rw [h1, decT (by omega)]; simp [h]
  · have : placeS L s = -1 := ixF_none fun y hy => by
      rw [beq_eq_false_iff_ne]; rintro rfl; exact h hy
    rw [this, decF (by omega)]; simp [h]
/-- a loop that keeps some elements of a list -/
theorem keep_loop {S S1 R : Type} {body : S1 → Option (Out S1 R)} {k : Nat} {f : S1 → Option (Out S R)} {s0 : S1} (l : List Int) (q : Int → Bool) (pk : List Int → Nat → S1) (e0 : pk [] 0 = s0)
    (step : ∀ i a acc, l[i]? = some a → acc.length ≤ i → body (pk acc i) = some (.norm (pk (if q a then acc ++ [a] else acc) (i + 1)))) (last : ∀ acc, body (pk acc l.length) = some (.exit k (pk acc l.length))) :
    lbind (blockM k (loopM body s0)) f = f (pk (l.filter q) l.length) := by
  refine (for_all l (fun i => pk ((l.take i).filter q) i) (by simpa using e0) (fun i a ha => ?_) (e := pk (l.filter q) l.length) ?_)
  · rw [step i a _ ha (by have := List.length_filter_le q (l.take i); rw [List.length_take] at this; omega), take_succ_get ha, List.filter_append]
    cases h : q a <;> simp [h]
  · rw [last, List.take_length]
theorem specObj (c : MCategory) (x : Int) : spec_l02Object c x = some (decide (0 ≤ x) && decide (x < c.Objects)) := by
  unfold spec_l02Object
  by_cases h : x ≥ 0
  · rw [decT h, cond_true]; rfl
  · rw [decF h, cond_false]; rfl
theorem set_row {L : List (List Int)} {f : List Int → Bool} {k : Nat} {s : List Int} {v : Bool} (hn : L.Nodup) (h : L[k]? = some s) : (L.map f).set k v = L.map fun t => if t = s then v else f t := by
  have hk := (List.getElem?_eq_some_iff.1 h).1
  apply List.ext_getElem?
  intro i
  rw [List.getElem?_set, List.getElem?_map, List.getElem?_map]
  by_cases e : k = i
  · subst e
    rw [if_pos rfl, h]; simp [hk]
  · rw [if_neg e]
    cases hi : L[i]? with
    | none => rfl
    | some t =>
      have : t ≠ s := by
        rintro rfl
        exact e (nodup_inj hn h hi)
      simp [this]
theorem set_marks {ls : List (List (List Int))} {p : Int → List Int → Bool} {i : Nat} {g : List Int → Bool} (hi : i < ls.length) : (marksP ls p).set i ((gl ls i).map g) = marksP ls fun y t => if y = (i : Int) then g t else p y t := by
  apply List.ext_getElem?
  intro x
  rw [List.getElem?_set, marks_length]
  unfold marksP
  by_cases hx : x < ls.length
  · rw [mapI_get _ hx, mapI_get _ hx]
    by_cases e : i = x
    · subst e
      rw [if_pos rfl, if_pos hi]
      congr 1
      apply List.map_congr_left
      intro t _
      exact (if_pos rfl).symm
    · rw [if_neg e]
      congr 1
      apply List.map_congr_left
      intro t _
      exact (if_neg (by omega)).symm
  · rw [if_neg (by omega), List.getElem?_eq_none (by rw [mapI_length]; omega), List.getElem?_eq_none (by rw [mapI_length]; omega)]
/-- the marks of both -/
def orP (p q : Int → List Int → Bool) : Int → List Int → Bool := fun x s => p x s || q x s
/-- on the way: p, and of q what lies before i and at i in the first k places -/
def onP (ls : List (List (List Int))) (p q : Int → List Int → Bool) (i k : Nat) : Int → List Int → Bool := fun y t => p y t || (q y t && (decide (y < i) || (y == (i : Int) && ((gl ls i).take k).contains t)))
section
variable {c : MCategory} {ls : List (List (List Int))} (T : Tab c ls) {p q : Int → List Int → Bool}
include T
theorem on_zero : marksP ls (onP ls p q 0 0) = marksP ls p := marks_congr fun i hi s _ => by
  have _ := T
  unfold onP
  rw [decF (by omega), List.take_zero, List.contains_nil]; simp
theorem on_next {i : Nat} (hi : i < ls.length) : marksP ls (onP ls p q i (gl ls i).length) = marksP ls (onP ls p q (i + 1) 0) := marks_congr fun y hy s hs => by
  have _ := T
  unfold onP
  rw [List.take_length, List.take_zero, List.contains_nil, Bool.and_false, Bool.or_false]
  congr 2
  rw [Bool.eq_iff_iff]
  simp only [Bool.or_eq_true, decide_eq_true_eq, Bool.and_eq_true, beq_iff_eq, List.contains_iff_mem]
  constructor
  · rintro (h | ⟨h, _⟩) <;> omega
  · intro h
    by_cases e : (y : Int) < i
    · exact .inl e
    · have e' : y = i := by omega
      subst e'
      exact .inr ⟨rfl, hs⟩
theorem on_all : marksP ls (onP ls p q ls.length 0) = marksP ls (orP p q) := marks_congr fun i hi s _ => by
  have _ := T
  unfold onP orP
  rw [decT (by omega)]; simp
theorem on_step {i k : Nat} {s : List Int} (hi : i < ls.length) (hk : (gl ls i)[k]? = some s) (y : Nat) (t : List Int) : onP ls p q i (k + 1) y t = if y = i ∧ t = s then (p i s || q i s) else onP ls p q i k y t := by
  have _ := T
  unfold onP
  rw [take_succ_get hk]
  by_cases e : y = i
  · subst e
    by_cases et : t = s
    · subst et
      rw [if_pos ⟨rfl, rfl⟩]; simp
    · rw [if_neg (fun h => et h.2)]
      have : ((gl ls y).take k ++ [s]).contains t = ((gl ls y).take k).contains t := by
        rw [Bool.eq_iff_iff]; simp [et]
      rw [this]
  · rw [if_neg (fun h => e h.1)]
    have : ((y : Int) == (i : Int)) = false := beqF (by omega)
    rw [this]; rfl
theorem on_now {i k : Nat} {s : List Int} (hi : i < ls.length) (hk : (gl ls i)[k]? = some s) : onP ls p q i k i s = p i s := by
  have hn := T.nodup (x := (i : Int)) (by omega) (by omega)
  unfold onP
  have : ((gl ls i).take k).contains s = false := by
    rw [Bool.eq_false_iff]
    intro h
    rw [List.contains_iff_mem] at h
    obtain ⟨j, hj, e⟩ := List.getElem_of_mem h
    have hj' : j < k := by rw [List.length_take] at hj; omega
    have : (gl ls i)[j]? = some s := by
      rw [List.getElem_take] at e
      rw [← e]; exact List.getElem?_eq_getElem _
    have := nodup_inj hn this hk
    omega
  rw [this, decF (by omega)]; simp
theorem on_set {i k : Nat} {s : List Int} (hi : i < ls.length) (hk : (gl ls i)[k]? = some s) : (marksP ls (onP ls p q i k)).set i (((gl ls i).map (onP ls p q i k i)).set k (p i s || q i s)) = marksP ls (onP ls p q i (k + 1)) := by
  have hn := T.nodup (x := (i : Int)) (by omega) (by omega)
  rw [set_row hn hk, set_marks hi]
  refine marks_congr fun y hy t _ => ?_
  rw [on_step T hi hk]
  by_cases e : y = i
  · subst e
    by_cases et : t = s
    · subst et; simp
    · simp [et]
  · rw [if_neg (by omega), if_neg (fun h => e h.1)]
end
/-- a sum of bounded sizes -/
theorem sizeR_le {α : Type} {size : α → Nat} {xs : List α} {B : Nat} (h : ∀ x ∈ xs, size x ≤ B) : sizeR size xs ≤ xs.length * B := by
  unfold sizeR
  induction xs with
  | nil => simp
  | cons x xs ih =>
    have h1 := h x (by simp)
    have h2 := ih fun y hy => h y (by simp [hy])
    rw [List.map_cons, List.sum_cons, List.length_cons, Nat.succ_mul]; omega
/-- the empty topology -/
def topZ : MTopology := MTopology.mk (MCategory.mk (0 : Int) [] [] [] []) []
theorem topZ_small : TopSmall topZ ∧ topCells topZ ≤ 4611686018427387000 :=
  ⟨⟨⟨Nat.zero_le _, Nat.zero_le _, Nat.zero_le _, Nat.zero_le _, fun _ h => nomatch h⟩, Nat.zero_le _, fun _ h => nomatch h⟩, Nat.zero_le _⟩
theorem cov_small {c : MCategory} {ls : List (List (List Int))} (T : Tab c ls) {q : Int → List Int → Bool} (hc : catSize c ≤ 1048576) :
    TopSmall (MTopology.mk c (covP ls q)) ∧ topCells (MTopology.mk c (covP ls q)) ≤ 4611686018427387000 := by
  have h8 := T.len8
  have hl : (covP ls q).length = ls.length := mapI_length _ _
  have hr : ∀ r ∈ covP ls q, r.length ≤ 16 ∧ ∀ s ∈ r, s.length ≤ 40 := fun r hr => by
    obtain ⟨x, ⟨h0, h1⟩, rfl⟩ := mapI_mem.1 hr
    exact ⟨Nat.le_trans (List.length_filter_le _ _) (T.l16 h0 h1), fun s hs => T.s40 h0 h1 (List.mem_filter.1 hs).1⟩
  refine ⟨⟨catSmall_of hc, by show (covP ls q).length ≤ _; omega, fun r hx => ⟨by have := (hr r hx).1; omega, fun s hs => by have := (hr r hx).2 s hs; omega⟩⟩, ?_⟩
  have h3 : s3 (covP ls q) ≤ (covP ls q).length * (16 * 40) := sizeR_le fun r hx => Nat.le_trans (sizeR_le (B := 40) fun s hs => by rw [s1_eq]; exact (hr r hx).2 s hs) (Nat.mul_le_mul_right _ (hr r hx).1)
  have h4 : (covP ls q).length * (16 * 40) ≤ 8 * (16 * 40) := Nat.mul_le_mul_right _ (by omega)
  show c.From.length + c.To.length + c.Identity.length + s2 c.Composites + s3 (covP ls q) ≤ _
  rw [s2_eq]
  unfold catSize at hc
  omega
end Go.Proofs.YtdlhbbhdfnnmnaaGreat
