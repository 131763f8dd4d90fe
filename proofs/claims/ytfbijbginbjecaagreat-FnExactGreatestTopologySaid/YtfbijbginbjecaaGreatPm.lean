/- The least and the greatest topology: the reference and the program give alike. No condition but the size of the category. -/
import Derived.Test.YtfbijbginbjecaaGreatPl
namespace Go.Proofs.YtfbijbginbjecaaGreat
open Go Go.Li
set_option linter.unusedSectionVars false

/-- a sum of bounded sizes -/
theorem sizeR_le {α : Type} {size : α → Nat} {xs : List α} {B : Nat} (h : ∀ x ∈ xs, size x ≤ B) : sizeR size xs ≤ xs.length * B := by
  unfold sizeR
  induction xs with
  | nil => simp
  | cons x xs ih =>
    have h1 := h x (by simp)
    have h2 := ih fun y hy => h y (by simp [hy])
    rw [List.map_cons, List.sum_cons, List.length_cons, Nat.succ_mul]; omega
/-- the empty topology -/
def topZ : MTopology := MTopology.mk (MCategory.mk (0 : Int) [] [] [] []) []
theorem topZ_small : TopSmall topZ ∧ topCells topZ ≤ 4611686018427387000 :=
  ⟨⟨⟨Nat.zero_le _, Nat.zero_le _, Nat.zero_le _, Nat.zero_le _, fun _ h => nomatch h⟩, Nat.zero_le _, fun _ h => nomatch h⟩, Nat.zero_le _⟩
section
variable {c : MCategory} (H : Cat c)
include H
theorem cov_small {ls : List (List (List Int))} {q : Int → List Int → Bool} (hc : catSize c ≤ 1048576) (h : Lists c c.Objects.toNat ls) :
    TopSmall (MTopology.mk c (covP ls q)) ∧ topCells (MTopology.mk c (covP ls q)) ≤ 4611686018427387000 := by
  have ho := H.o0
  have ho8 := H.o8
  have hm := H.m
  have hlen := h.len
  have hl : (covP ls q).length = ls.length := mapI_length _ _
  have hr : ∀ r ∈ covP ls q, r.length ≤ 16 ∧ ∀ s ∈ r, s.length ≤ 40 := fun r hr => by
    obtain ⟨x, ⟨h0, h1⟩, rfl⟩ := mapI_mem.1 hr
    have st := Lists.sv H h (i := x) h0 (by omega)
    refine ⟨Nat.le_trans (List.length_filter_le _ _) st.len, fun s hs => ?_⟩
    have := (SvList.sv H st s (List.mem_filter.1 hs).1).len
    omega
  refine ⟨⟨catSmall_of hc, by show (covP ls q).length ≤ _; omega, fun r hx => ⟨by have := (hr r hx).1; omega, fun s hs => by have := (hr r hx).2 s hs; omega⟩⟩, ?_⟩
  have h3 : s3 (covP ls q) ≤ (covP ls q).length * (16 * 40) := sizeR_le fun r hx => Nat.le_trans (sizeR_le (B := 40) fun s hs => by rw [s1_eq]; exact (hr r hx).2 s hs) (Nat.mul_le_mul_right _ (hr r hx).1)
  have h4 : (covP ls q).length * (16 * 40) ≤ 8 * (16 * 40) := Nat.mul_le_mul_right _ (by omega)
  show c.From.length + c.To.length + c.Identity.length + s2 c.Composites + s3 (covP ls q) ≤ _
  rw [s2_eq]
  unfold catSize at hc
  omega

/-- the reference's table when a list is too long -/
theorem specCategoryNo {k : Nat} {ls : List (List (List Int))} (hs : CatSmall c) (hcat : catB c = true) (hk : k < c.Objects.toNat) (h : Lists c k ls) (hn : Found c k none) :
    spec_l27Category c = some (ML27Table.mk (MCategory.mk (0 : Int) [] [] [] []) [] [] [], [], 3) := by
  unfold spec_l27Category
  rw [specIs hs, some_bind', hcat, Bool.not_true, cond_false]
  unfold spec_l27Make
  rw [specListsNo H hk h hn, some_bind', Bool.not_false, cond_true]
  rfl
theorem chosenNo {k : Nat} {ls : List (List (List Int))} {cov : Int → List Int → Option Bool} (hs : CatSmall c) (hcat : catB c = true) (hk : k < c.Objects.toNat) (h : Lists c k ls) (hn : Found c k none) :
    impl_chosenTopology c cov = some (topZ, 3) := by
  unfold impl_chosenTopology
  rw [implIs hs, some_bind', hcat, Bool.not_true, cond_false]
  unfold impl_coverageOf
  rw [implClassifierNo H hs hk h hn, some_bind']
  rfl
theorem chosenBad {c : MCategory} {cov : Int → List Int → Option Bool} (hs : CatSmall c) (hcat : catB c = false) : impl_chosenTopology c cov = some (topZ, 1) := by
  have _ := H
  unfold impl_chosenTopology
  rw [implIs hs, some_bind', hcat, Bool.not_false, cond_true]; rfl

/-- all arrows out of an object are a sieve -/
theorem top_close {x : Int} (h0 : 0 ≤ x) (h1 : x < c.Objects) : closeS c [gi c.Identity x] = outS c x := by
  have hi := H.id h0 h1
  apply List.filter_congr
  intro a ha
  have ha := ns_mem.1 ha
  rw [Bool.eq_iff_iff]
  unfold clP
  simp only [List.any_cons, List.any_nil, Bool.or_false, List.any_eq_true, Bool.and_eq_true, beq_iff_eq]
  rw [H.idt x h0 h1]
  constructor
  · rintro ⟨b, hb, e1, e2⟩
    have hb := ns_mem.1 hb
    have := H.unitL b hb.1 hb.2
    rw [← e1] at this
    rw [← e2, this, ← e1]
  · intro e
    have := H.unitL a ha.1 ha.2
    rw [e] at this
    exact ⟨a, ns_mem.2 ha, e.symm, this⟩
theorem top_mem {x : Int} {L : List (List Int)} (h0 : 0 ≤ x) (h1 : x < c.Objects) (h : SvList c x L) : outS c x ∈ L := by
  rw [h.mem]
  have hi := H.id h0 h1
  have := Reaches.step (out := outS c x) (step := stepS c) (a := gi c.Identity x) (.base (s0 := [])) (outS_mem.2 ⟨hi, H.idf x h0 h1⟩)
  rwa [show stepS c [] (gi c.Identity x) = outS c x from top_close H h0 h1] at this
theorem has_id {x : Int} {s : List Int} (h0 : 0 ≤ x) (h1 : x < c.Objects) (h : Sv c x s) : hasB s (gi c.Identity x) = true ↔ s = outS c x := by
  have hi := H.id h0 h1
  rw [hasB_iff]
  constructor
  · intro hx
    rw [h.form]
    apply List.filter_congr
    intro a ha
    have ha := ns_mem.1 ha
    rw [Bool.eq_iff_iff, hasB_iff, beq_iff_eq]
    constructor
    · exact h.src a
    · intro e
      have := h.closed _ hx a ha.1 ha.2 (by rw [H.idt x h0 h1, e])
      have hu := H.unitL a ha.1 ha.2
      rw [e] at hu
      rwa [hu] at this
  · rintro rfl
    exact outS_mem.2 ⟨hi, H.idf x h0 h1⟩
/-- one mark at the place of the greatest sieve -/
theorem top_row {x : Int} {L : List (List Int)} (h0 : 0 ≤ x) (h1 : x < c.Objects) (h : SvList c x L) :
    ∃ j : Nat, placeS L (outS c x) = j ∧ j < L.length ∧ (L.map fun _ => false).set j true = L.map fun s => hasB s (gi c.Identity x) := by
  obtain ⟨j, s, e1, e2, e3⟩ := ixF_some (p := fun y => y == outS c x) (l := L) (i := 0) ⟨outS c x, top_mem H h0 h1 h, by simp⟩
  have e3 : s = outS c x := by simpa using e3
  subst e3
  have hj := getElem?_lt e2
  refine ⟨j, by unfold placeS; rw [e1, Nat.zero_add], hj, ?_⟩
  apply List.ext_getElem?
  intro k
  rw [List.getElem?_set]
  by_cases hk : k < L.length
  · have hLk : L[k]? = some L[k] := List.getElem?_eq_getElem hk
    rw [List.getElem?_map, List.getElem?_map, hLk]
    have hsv := SvList.sv H h L[k] (List.getElem_mem hk)
    have hid := has_id H h0 h1 hsv
    by_cases e : j = k
    · subst e
      rw [if_pos rfl, if_pos (by rw [List.length_map]; exact hj)]
      have : L[j] = outS c x := by rw [hLk] at e2; exact Option.some.inj e2
      simp only [Option.map_some]
      rw [hid.2 this]
    · rw [if_neg e]
      simp only [Option.map_some]
      congr 1
      refine (Bool.eq_false_iff.2 fun hh => e ?_).symm
      have h2 := hid.1 hh
      have h3 : L[j]'hj = L[k] := by
        rw [h2]
        rw [List.getElem?_eq_getElem hj] at e2; exact Option.some.inj e2
      exact (List.getElem_inj h.nodup).1 h3
  · rw [if_neg (by omega), List.getElem?_eq_none (by rw [List.length_map]; omega), List.getElem?_eq_none (by rw [List.length_map]; omega)]

theorem marksX_row {ls : List (List (List Int))} {q : Int → List Int → Bool} {i : Nat} (hi : i < ls.length) : marksX ls q (i + 1) 0 = (marksX ls q i 0).set i ((gl ls i).map (q i)) := by
  have _ := H
  apply List.ext_getElem?
  intro x
  unfold marksX
  rw [List.getElem?_set, mapI_length]
  by_cases hx : x < ls.length
  · rw [mapI_get _ hx, mapI_get _ hx]
    by_cases e : i = x
    · subst e
      rw [if_pos rfl, if_pos hi]
      unfold rowX
      rw [if_pos (by omega)]
    · rw [if_neg e]
      unfold rowX
      congr 1
      by_cases h1 : (x : Int) < i
      · rw [if_pos (by omega), if_pos h1]
      · rw [if_neg (show ¬ (x : Int) < ((i + 1 : Nat) : Int) by omega), if_neg h1, if_neg (show ¬ (x : Int) = (i : Int) by omega)]
        split
        · unfold rowM; simp
        · rfl
  · rw [if_neg (show ¬ i = x by omega), List.getElem?_eq_none (by rw [mapI_length]; omega), List.getElem?_eq_none (by rw [mapI_length]; omega)]
theorem marksX_get {ls : List (List (List Int))} {q : Int → List Int → Bool} {i j : Nat} (hi : i < ls.length) : (marksX ls q i j)[i]? = some (rowM (gl ls i) (q i) j) := by
  have _ := H
  unfold marksX
  rw [mapI_get _ hi]
  unfold rowX
  rw [if_neg (by omega), if_pos rfl]

/-- the sieves that hold the identity -/
def idP (c : MCategory) (x : Int) (s : List Int) : Bool := hasB s (gi c.Identity x)
theorem specLeast {ls : List (List (List Int))} (hs : CatSmall c) (hcat : catB c = true) (h : Lists c c.Objects.toNat ls) : spec_LeastTopology c = some (MTopology.mk c (covP ls (idP c)), 0) := by
  have ho := H.o0
  have ho8 := H.o8
  have hlen := h.len
  unfold spec_LeastTopology
  rw [specCategory H hs hcat h, some_bind']
  dsimp only
  rw [bneF rfl, cond_false]
  refine (congrArg retM (for_all ls (fun i => ((i : Int), marksX ls (idP c) i 0)) (by rw [marksX_zero H]; rfl) ?_ (e := ((ls.length : Int), marksX ls (idP c) ls.length 0)) ?_)).trans ?_
  · intro i L hi
    have hi := getElem?_lt hi
    have st := Lists.sv H h (i := (i : Int)) (by omega) (by omega)
    obtain ⟨j, e1, e2, e3⟩ := top_row H (x := (i : Int)) (by omega) (by omega) st
    have ht : idx (tops c ls) (i : Int) = some (j : Int) := by rw [idx_nat, tops, mapI_get _ hi, e1]
    have hr0 : rowM (gl ls i) (idP c i) 0 = (gl ls i).map fun _ => false := by unfold rowM; simp
    show spec_LeastTopology_L0 _ (i : Int) (marksX ls (idP c) i 0) = _
    unfold spec_LeastTopology_L0
    dsimp only
    rw [decT (by unfold marksX; rw [mapI_length]; omega), cond_true, idx_nat, marksX_get H hi, some_bind', ht, some_bind', hr0, idx_nat, List.getElem?_map, List.getElem?_eq_getElem e2, Option.map_some, some_bind', w64_nat (by omega), Int.toNat_natCast, Int.toNat_natCast, e3, marksX_row H hi]
    rfl
  · show spec_LeastTopology_L0 _ _ _ = _
    unfold spec_LeastTopology_L0
    rw [decF (by unfold marksX; rw [mapI_length]; omega), cond_false]
  · dsimp only
    rw [marksX_all H, specCovers H hs h, some_bind']; rfl
theorem implLeast_1 {x : Int} {s : List Int} (h0 : 0 ≤ x) (h1 : x < c.Objects) (hl : s.length ≤ 1048576000) : impl_LeastTopology_1 x s c = some (idP c x s) := by
  have hil := H.il
  unfold impl_LeastTopology_1 impl_sieve_isGreatest
  rw [idx_gi h0 (by omega), some_bind', implHas _ _ hl, some_bind']
  rfl
end
theorem least_alike : Alike spec_LeastTopology impl_LeastTopology := by
  intro c hc
  have hs := catSmall_of hc
  cases hcat : catB c with
  | false =>
    refine ⟨topZ, 1, ?_, ?_, topZ_small⟩
    · unfold spec_LeastTopology spec_l27Category
      rw [specIs hs, some_bind', hcat]; rfl
    · unfold impl_LeastTopology impl_chosenTopology
      rw [implIs hs, some_bind', hcat]; rfl
  | true =>
    have H := cat_of hcat
    rcases scan H c.Objects.toNat with ⟨ls, h⟩ | ⟨k, ls, hk, h, hn⟩
    · refine ⟨_, _, specLeast H hs hcat h, ?_, cov_small H hc h⟩
      unfold impl_LeastTopology
      rw [chosen H (q := idP c) hs hcat h fun i hi s hsm => ?_, some_bind']
      · rfl
      · have ho := H.o0
        have hm := H.m
        have hlen := h.len
        have := (SvList.sv H (Lists.sv H h (i := (i : Int)) (by omega) (by omega)) s hsm).len
        exact implLeast_1 H (by omega) (by omega) (by omega)
    · have hy := specCategoryNo H hs hcat hk h hn
      refine ⟨topZ, 3, ?_, ?_, topZ_small⟩
      · unfold spec_LeastTopology
        rw [hy, some_bind']; rfl
      · unfold impl_LeastTopology
        rw [chosenNo H hs hcat hk h hn, some_bind']; rfl
end Go.Proofs.YtfbijbginbjecaaGreat
