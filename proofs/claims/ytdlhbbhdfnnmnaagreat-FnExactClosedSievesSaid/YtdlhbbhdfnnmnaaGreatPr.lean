/- Topologies by marks: what the reference's table and the program's coverage give. No condition beside those that each theorem names. -/
import Derived.Test.YtdlhbbhdfnnmnaaGreatPk
namespace Go.Proofs.YtdlhbbhdfnnmnaaGreat
open Go Go.Li
set_option linter.unusedSectionVars false

/-- marks by a choice -/
def marksP (ls : List (List (List Int))) (p : Int → List Int → Bool) : List (List Bool) := mapI ls.length fun x => (gl ls x).map (p x)
/-- the sieves that are chosen -/
def covP (ls : List (List (List Int))) (p : Int → List Int → Bool) : List (List (List Int)) := mapI ls.length fun x => (gl ls x).filter (p x)
theorem gl_mapI {α : Type} {n : Nat} {g : Int → List α} {x : Int} (h0 : 0 ≤ x) (h1 : x < n) : gl (mapI n g) x = g x := by
  have := gl_eq (mapI_get g (show x.toNat < n by omega))
  rwa [Int.toNat_of_nonneg h0] at this
theorem gl_marks {ls : List (List (List Int))} {p : Int → List Int → Bool} {x : Int} (h0 : 0 ≤ x) (h1 : x < ls.length) : gl (marksP ls p) x = (gl ls x).map (p x) := gl_mapI h0 h1
theorem marks_length (ls : List (List (List Int))) (p : Int → List Int → Bool) : (marksP ls p).length = ls.length := mapI_length _ _
theorem gr_get {l : List (List Int)} {i : Nat} (h : i < l.length) : l[i]? = some (gr l i) := by
  unfold gr; rw [List.getD_eq_getElem?_getD, Int.toNat_natCast, List.getElem?_eq_getElem h]; rfl
section
variable {c : MCategory} (H : Cat c)
include H
theorem specCovers {ls : List (List (List Int))} {p : Int → List Int → Bool} {u : List (List Int)} {v : List Int} (hs : CatSmall c) (h : Lists c c.Objects.toNat ls) : spec_l27Covers (ML27Table.mk c ls u v) (marksP ls p) = some (MTopology.mk c (covP ls p)) := by
  have ho := H.o0
  have ho8 := H.o8
  have hm := H.m
  have hlen := h.len
  unfold spec_l27Covers
  dsimp only
  rw [specOwnC hs, some_bind']
  refine (congrArg retM (map_loop ls.length (fun x => (gl ls x).filter (p x)) (fun acc i => ((i : Int), acc)) rfl ?_ ?_)).trans rfl
  · intro i acc hi ha
    have st := Lists.sv H h (i := (i : Int)) (by omega) (by omega)
    have hl := st.len
    show spec_l27Covers_L0 (ML27Table.mk c ls u v) (marksP ls p) i acc = _
    unfold spec_l27Covers_L0
    rw [marks_length, decT (by omega), cond_true]
    refine (fold_loop (gl ls i) (fun acc s => if p i s then acc ++ [s] else acc) (fun j acc => acc.length ≤ j) (fun acc j => (acc, (j : Int))) [] rfl (Nat.le_refl _) ?_ ?_ ?_).trans ?_
    · intro j s acc _ hacc
      split
      · rw [List.length_append, List.length_singleton]; omega
      · omega
    · intro j s acc2 hsj hacc
      have hj := getElem?_lt hsj
      have hsl := (SvList.sv H st s (List.mem_of_getElem? hsj)).len
      have hmk : ((gl ls i).map (p i))[j]? = some (p i s) := by rw [List.getElem?_map, hsj]; rfl
      show spec_l27Covers_L1 (ML27Table.mk c ls u v) (marksP ls p) i acc2 j = _
      unfold spec_l27Covers_L1
      rw [idx_gl (by omega) (by rw [marks_length]; omega), some_bind', gl_marks (by omega) (by omega), List.length_map, decT (by omega), cond_true, some_bind', idx_nat, hmk, some_bind', w64_nat (by omega)]
      cases p i s with
      | false => rw [cond_false]; rfl
      | true =>
        dsimp only
        rw [cond_true, idx_gl (by omega) (by omega), some_bind', idx_nat, hsj, some_bind', specOwn0 s (by omega), some_bind', fits_ok (by omega) (by omega), some_bind']
        rfl
    · intro acc2 _
      show spec_l27Covers_L1 (ML27Table.mk c ls u v) (marksP ls p) i acc2 _ = _
      unfold spec_l27Covers_L1
      rw [idx_gl (by omega) (by rw [marks_length]; omega), some_bind', gl_marks (by omega) (by omega), List.length_map, decF (by omega), cond_false]
    · dsimp only
      rw [fits_ok (by omega) (by omega), some_bind', w64_nat (by omega)]
      have := foldl_filter (p i) (fun s : List Int => s) (gl ls i) []
      rw [List.map_id', List.nil_append] at this
      rw [this]
  · intro acc ha
    show spec_l27Covers_L0 (ML27Table.mk c ls u v) (marksP ls p) _ acc = _
    unfold spec_l27Covers_L0
    rw [marks_length, decF (by omega), cond_false]

theorem implTopology {k : MCoverage} {ls : List (List (List Int))} {p : Int → List Int → Bool} (hc : k.C = c) (hk : k.Classifier.Sieves = ls) (hv : k.Covers = marksP ls p) (hs : CatSmall c) (h : Lists c c.Objects.toNat ls) : impl_coverage_topology k = some (MTopology.mk c (covP ls p)) := by
  have ho := H.o0
  have ho8 := H.o8
  have hm := H.m
  have hlen := h.len
  unfold impl_coverage_topology
  rw [hc, implCopy hs, some_bind']
  refine (congrArg retM (map_loop ls.length (fun x => (gl ls x).filter (p x)) (fun acc i => ((i : Int), acc)) rfl ?_ ?_)).trans rfl
  · intro i acc hi ha
    have st := Lists.sv H h (i := (i : Int)) (by omega) (by omega)
    have hl := st.len
    show impl_coverage_topology_L0 k i acc = _
    unfold impl_coverage_topology_L0
    rw [hk, hv, decT (by omega), cond_true, idx_gl (by omega) (by omega), some_bind', idx_gl (by omega) (by rw [marks_length]; omega), some_bind', gl_marks (by omega) (by omega)]
    refine (fold_loop (gl ls i) (fun acc s => if p i s then acc ++ [s] else acc) (fun j acc => acc.length ≤ j) (fun acc j => (acc, (j : Int))) [] rfl (Nat.le_refl _) ?_ ?_ ?_).trans ?_
    · intro j s acc _ hacc
      split
      · rw [List.length_append, List.length_singleton]; omega
      · omega
    · intro j s acc2 hsj hacc
      have hj := getElem?_lt hsj
      have hsl := (SvList.sv H st s (List.mem_of_getElem? hsj)).len
      have hmk : ((gl ls i).map (p i))[j]? = some (p i s) := by rw [List.getElem?_map, hsj]; rfl
      show impl_coverage_topology_L1 (gl ls i) ((gl ls i).map (p i)) acc2 j = _
      unfold impl_coverage_topology_L1
      rw [List.length_map, decT (by omega), cond_true, idx_nat, hmk, some_bind', w64_nat (by omega)]
      cases p i s with
      | false => rw [cond_false]; rfl
      | true =>
        rw [cond_true, idx_nat, hsj, some_bind', implClone H s (by omega), some_bind', fits_ok (by omega) (by omega), some_bind']
        rfl
    · intro acc2 _
      show impl_coverage_topology_L1 (gl ls i) ((gl ls i).map (p i)) acc2 _ = _
      unfold impl_coverage_topology_L1
      rw [List.length_map, decF (by omega), cond_false]
    · dsimp only
      rw [fits_ok (by omega) (by omega), some_bind', w64_nat (by omega)]
      have := foldl_filter (p i) (fun s : List Int => s) (gl ls i) []
      rw [List.map_id', List.nil_append] at this
      rw [this]
  · intro acc ha
    show impl_coverage_topology_L0 k _ acc = _
    unfold impl_coverage_topology_L0
    rw [hk, decF (by omega), cond_false]

theorem implCoverage {ls : List (List (List Int))} (hs : CatSmall c) (h : Lists c c.Objects.toNat ls) :
    impl_coverageOf c = some (some (MCoverage.mk (MClassifier.mk (MSetFunctor.mk c (sizesOf ls) (acts c ls)) ls) c (marksP ls (fun _ _ => false)) 0), true) := by
  have ho := H.o0
  have ho8 := H.o8
  have hlen := h.len
  unfold impl_coverageOf
  rw [implClassifier H hs h, some_bind']
  simp only [Bool.not_true, cond_false]
  refine (congrArg retM (map_loop ls.length (fun x => (gl ls x).map (fun _ => false)) (fun acc i => ((i : Int), acc)) rfl ?_ ?_)).trans rfl
  · intro i acc hi ha
    have hl := (Lists.sv H h (i := (i : Int)) (by omega) (by omega)).len
    show impl_coverageOf_L0 _ i acc = _
    unfold impl_coverageOf_L0
    dsimp only
    rw [decT (by omega), cond_true, idx_gl (by omega) (by omega), some_bind', mk_ok (by omega) (by omega), some_bind', fits_ok (by omega) (by omega), some_bind', w64_nat (by omega), List.map_const']
  · intro acc ha
    show impl_coverageOf_L0 _ _ acc = _
    unfold impl_coverageOf_L0
    dsimp only
    rw [decF (by omega), cond_false]

/-- a row of marks, laid so far -/
def rowM (L : List (List Int)) (q : List Int → Bool) (j : Nat) : List Bool := (L.take j).map q ++ (L.drop j).map fun _ => false
theorem rowM_length (L : List (List Int)) (q : List Int → Bool) (j : Nat) : (rowM L q j).length = L.length := by
  have _ := H
  unfold rowM; rw [List.length_append, List.length_map, List.length_map, ← List.length_append, List.take_append_drop]
theorem rowM_get {L : List (List Int)} {q : List Int → Bool} {j : Nat} (h : j < L.length) : (rowM L q j)[j]? = some false := by
  have _ := H
  unfold rowM
  rw [List.getElem?_append_right (by simp; omega)]
  simp only [List.length_map, List.length_take]
  rw [show j - min j L.length = 0 by omega, List.drop_eq_getElem_cons h]; rfl
theorem rowM_succ {L : List (List Int)} {q : List Int → Bool} {j : Nat} {s : List Int} (h : L[j]? = some s) : rowM L q (j + 1) = if q s then (rowM L q j).set j true else rowM L q j := by
  have _ := H
  have hj := getElem?_lt h
  have e : L.drop j = s :: L.drop (j + 1) := by
    rw [List.drop_eq_getElem_cons hj]; congr 1
    rw [List.getElem?_eq_getElem hj] at h; exact Option.some.inj h
  unfold rowM
  rw [take_succ_get h, e, List.map_append, List.append_assoc, List.map_cons]
  cases hq : q s with
  | true =>
    rw [if_pos rfl, List.set_append_right _ _ (by simp; omega)]
    simp only [List.length_map, List.length_take]
    rw [show j - min j L.length = 0 by omega]
    simp
  | false =>
    rw [if_neg (by simp)]
    simp
def rowX (ls : List (List (List Int))) (q : Int → List Int → Bool) (i j : Nat) (x : Int) : List Bool := if x < i then (gl ls x).map (q x) else if x = i then rowM (gl ls x) (q x) j else (gl ls x).map fun _ => false
def marksX (ls : List (List (List Int))) (q : Int → List Int → Bool) (i j : Nat) : List (List Bool) := mapI ls.length (rowX ls q i j)
theorem marksX_set {ls : List (List (List Int))} {q : Int → List Int → Bool} {i j : Nat} {s : List Int} (hi : i < ls.length) (h : (gl ls i)[j]? = some s) :
    marksX ls q i (j + 1) = if q i s then (marksX ls q i j).set i ((rowM (gl ls i) (q i) j).set j true) else marksX ls q i j := by
  have hr := rowM_succ H (q := q i) h
  apply List.ext_getElem?
  intro x
  unfold marksX
  by_cases hx : x < ls.length
  · rw [mapI_get _ hx]
    by_cases e : x = i
    · subst e
      have e1 : rowX ls q x (j + 1) x = rowM (gl ls x) (q x) (j + 1) := by unfold rowX; rw [if_neg (by omega), if_pos rfl]
      have e2 : rowX ls q x j x = rowM (gl ls x) (q x) j := by unfold rowX; rw [if_neg (by omega), if_pos rfl]
      rw [e1, hr]
      split
      · rw [List.getElem?_set, if_pos rfl, if_pos (by rw [mapI_length]; exact hx)]
      · rw [mapI_get _ hx, e2]
    · have e1 : rowX ls q i (j + 1) x = rowX ls q i j x := by
        unfold rowX
        split
        · rfl
        · rw [if_neg (by omega), if_neg (by omega)]
      rw [e1]
      split
      · rw [List.getElem?_set, if_neg (fun h => e h.symm), mapI_get _ hx]
      · rw [mapI_get _ hx]
  · rw [List.getElem?_eq_none (by rw [mapI_length]; omega), List.getElem?_eq_none (by split <;> simp only [List.length_set, mapI_length] <;> omega)]
theorem marksX_next {ls : List (List (List Int))} {q : Int → List Int → Bool} {i : Nat} : marksX ls q i (gl ls i).length = marksX ls q (i + 1) 0 := by
  have _ := H
  refine mapI_congr fun x _ => ?_
  unfold rowX
  by_cases h1 : x < i
  · rw [if_pos (by omega), if_pos (by omega)]
  · by_cases h2 : x = i
    · subst h2
      rw [if_neg (by omega), if_pos rfl, if_pos (by omega)]
      unfold rowM; simp
    · rw [if_neg (by omega), if_neg (by omega), if_neg (by omega)]
      by_cases h3 : x = i + 1
      · subst h3
        rw [if_pos rfl]; unfold rowM; simp
      · rw [if_neg (by omega)]
theorem marksX_zero {ls : List (List (List Int))} {q : Int → List Int → Bool} : marksX ls q 0 0 = marksP ls fun _ _ => false := by
  have _ := H
  refine mapI_congr fun x _ => ?_
  unfold rowX
  rw [if_neg (by omega)]
  split
  · unfold rowM; simp
  · rfl
theorem marksX_all {ls : List (List (List Int))} {q : Int → List Int → Bool} : marksX ls q ls.length 0 = marksP ls q := by
  have _ := H
  refine mapI_congr fun x hx => ?_
  unfold rowX
  rw [if_pos (by omega)]

end
end Go.Proofs.YtdlhbbhdfnnmnaaGreat
