/- Topologies by marks: what the reference's table and the program's coverage give. No condition beside those that each theorem names. -/
import Derived.Test.YtbedkejmebepcaaGreatPk
namespace Go.Proofs.YtbedkejmebepcaaGreat
open Go Go.Li
set_option linter.unusedSectionVars false

/-- marks by a choice -/
def marksP (ls : List (List (List Int))) (p : Int → List Int → Bool) : List (List Bool) := mapI ls.length fun x => (gl ls x).map (p x)
/-- the sieves that are chosen -/
def covP (ls : List (List (List Int))) (p : Int → List Int → Bool) : List (List (List Int)) := mapI ls.length fun x => (gl ls x).filter (p x)
theorem gl_mapI {α : Type} {n : Nat} {g : Int → List α} {x : Int} (h0 : 0 ≤ x) (h1 : x < n) : gl (mapI n g) x = g x := by
  have := gl_eq (mapI_get g (show x.toNat < n by omega))
  rwa [Int.toNat_of_nonneg h0] at this
theorem gl_marks {ls : List (List (List Int))} {p : Int → List Int → Bool} {x : Int} (h0 : 0 ≤ x) (h1 : x < ls.length) : gl (marksP ls p) x = (gl ls x).map (p x) := gl_mapI h0 h1
theorem marks_length (ls : List (List (List Int))) (p : Int → List Int → Bool) : (marksP ls p).length = ls.length := mapI_length _ _
theorem gr_get {l : List (List Int)} {i : Nat} (h : i < l.length) : l[i]? = some (gr l i) := by
  unfold gr; rw [List.getD_eq_getElem?_getD, Int.toNat_natCast, List.getElem?_eq_getElem h]; rfl
section
variable {c : MCategory} (H : Cat c)
include H
/-- a row of marks, laid so far -/
def rowM (L : List (List Int)) (q : List Int → Bool) (j : Nat) : List Bool := (L.take j).map q ++ (L.drop j).map fun _ => false
theorem rowM_length (L : List (List Int)) (q : List Int → Bool) (j : Nat) : (rowM L q j).length = L.length := by
  have _ := H
  unfold rowM; rw [List.length_append, List.length_map, List.length_map, ← List.length_append, List.take_append_drop]
theorem rowM_get {L : List (List Int)} {q : List Int → Bool} {j : Nat} (h : j < L.length) : (rowM L q j)[j]? = some false := by
  have _ := H
  unfold rowM
  rw [List.getElem?_append_right (by simp; omega)]
  simp only [List.length_map, List.length_take]
  rw [show j - min j L.length = 0 by omega, List.drop_eq_getElem_cons h]; rfl
theorem rowM_succ {L : List (List Int)} {q : List Int → Bool} {j : Nat} {s : List Int} (h : L[j]? = some s) : rowM L q (j + 1) = if q s then (rowM L q j).set j true else rowM L q j := by
  have _ := H
  have hj := getElem?_lt h
  have e : L.drop j = s :: L.drop (j + 1) := by
    rw [List.drop_eq_getElem_cons hj]; congr 1
    rw [List.getElem?_eq_getElem hj] at h; exact Option.some.inj h
  unfold rowM
  rw [take_succ_get h, e, List.map_append, List.append_assoc, List.map_cons]
  cases hq : q s with
  | true =>
    rw [if_pos rfl, List.set_append_right _ _ (by simp; omega)]
    simp only [List.length_map, List.length_take]
    rw [show j - min j L.length = 0 by omega]
    simp
  | false =>
    rw [if_neg (by simp)]
    simp
def rowX (ls : List (List (List Int))) (q : Int → List Int → Bool) (i j : Nat) (x : Int) : List Bool := if x < i then (gl ls x).map (q x) else if x = i then rowM (gl ls x) (q x) j else (gl ls x).map fun _ => false
def marksX (ls : List (List (List Int))) (q : Int → List Int → Bool) (i j : Nat) : List (List Bool) := mapI ls.length (rowX ls q i j)
theorem marksX_set {ls : List (List (List Int))} {q : Int → List Int → Bool} {i j : Nat} {s : List Int} (hi : i < ls.length) (h : (gl ls i)[j]? = some s) :
    marksX ls q i (j + 1) = if q i s then (marksX ls q i j).set i ((rowM (gl ls i) (q i) j).set j true) else marksX ls q i j := by
  have hr := rowM_succ H (q := q i) h
  apply List.ext_getElem?
  intro x
  unfold marksX
  by_cases hx : x < ls.length
  · rw [mapI_get _ hx]
    by_cases e : x = i
    · subst e
      have e1 : rowX ls q x (j + 1) x = rowM (gl ls x) (q x) (j + 1) := by unfold rowX; rw [if_neg (by omega), if_pos rfl]
      have e2 : rowX ls q x j x = rowM (gl ls x) (q x) j := by unfold rowX; rw [if_neg (by omega), if_pos rfl]
      rw [e1, hr]
      split
      · rw [List.getElem?_set, if_pos rfl, if_pos (by rw [mapI_length]; exact hx)]
      · rw [mapI_get _ hx, e2]
    · have e1 : rowX ls q i (j + 1) x = rowX ls q i j x := by
        unfold rowX
        split
        · rfl
        · rw [if_neg (by omega), if_neg (by omega)]
      rw [e1]
      split
      · rw [List.getElem?_set, if_neg (fun h => e h.symm), mapI_get _ hx]
      · rw [mapI_get _ hx]
  · rw [List.getElem?_eq_none (by rw [mapI_length]; omega), List.getElem?_eq_none (by split <;> simp only [List.length_set, mapI_length] <;> omega)]
theorem marksX_next {ls : List (List (List Int))} {q : Int → List Int → Bool} {i : Nat} : marksX ls q i (gl ls i).length = marksX ls q (i + 1) 0 := by
  have _ := H
  refine mapI_congr fun x _ => ?_
  unfold rowX
  by_cases h1 : x < i
  · rw [if_pos (by omega), if_pos (by omega)]
  · by_cases h2 : x = i
    · subst h2
      rw [if_neg (by omega), if_pos rfl, if_pos (by omega)]
      unfold rowM; simp
    · rw [if_neg (by omega), if_neg (by omega), if_neg (by omega)]
      by_cases h3 : x = i + 1
      · subst h3
        rw [if_pos rfl]; unfold rowM; simp
      · rw [if_neg (by omega)]
theorem marksX_zero {ls : List (List (List Int))} {q : Int → List Int → Bool} : marksX ls q 0 0 = marksP ls fun _ _ => false := by
  have _ := H
  refine mapI_congr fun x _ => ?_
  unfold rowX
  rw [if_neg (by omega)]
  split
  · unfold rowM; simp
  · rfl
theorem marksX_all {ls : List (List (List Int))} {q : Int → List Int → Bool} : marksX ls q ls.length 0 = marksP ls q := by
  have _ := H
  refine mapI_congr fun x hx => ?_
  unfold rowX
  rw [if_pos (by omega)]

end
end Go.Proofs.YtbedkejmebepcaaGreat
