/- The classifier as a set functor; marks of natural maps. No condition beside those that each theorem names. -/
import Derived.Test.YtdlhbbhdfnnmnaaGreatRx
import Derived.Test.YtdlhbbhdfnnmnaaGreatRb
namespace Go.Proofs.YtdlhbbhdfnnmnaaGreat
open Go Go.Li

def smZ : MSetMap := MSetMap.mk (MSetFunctor.mk (MCategory.mk (0 : Int) [] [] [] []) [] []) (MSetFunctor.mk (MCategory.mk (0 : Int) [] [] [] []) [] []) []
theorem smZ_small : SMSmall smZ := by
  have hc : CatSmall (MCategory.mk (0 : Int) [] [] [] []) := ⟨by simp, by simp, by simp, by simp, by simp⟩
  have hf : SFSmall (MSetFunctor.mk (MCategory.mk (0 : Int) [] [] [] []) [] []) := ⟨hc, by simp, by simp, by simp⟩
  exact ⟨hf, hf, by simp [smZ], by simp [smZ]⟩
theorem sfCells_size (f : MSetFunctor) : sfCells f ≤ sfSize f := by
  unfold sfCells sfSize catSize
  rw [s2_eq, s2_eq]; omega
theorem smCells_size (m : MSetMap) : smCells m ≤ smSize m := by
  have h1 := sfCells_size m.Source
  have h2 := sfCells_size m.Target
  unfold smCells smSize
  rw [s2_eq]; omega
theorem markSMK {m : MSetMap} (h : SMSmall m) {k : Int} (h0 : 0 ≤ k) (hs : k + smCells m ≤ 4611686018427387904) : ∃ r, laws_markSetMap m k = some r ∧ 0 ≤ r.1 := by
  unfold smCells at hs
  have h2 := h.k
  obtain ⟨a, b, c, d, e, g, m1, _⟩ := markSF h.s (k := k) h0 (by omega)
  obtain ⟨a', b', c', d', e', g', m3, _⟩ := markSF h.t (k := k + sfCells m.Source) (by omega) (by omega)
  have hr : ∀ y ∈ m.Parts, y.length ≤ 1048576000 := fun y hy => by have := h.r y hy; omega
  have m5 := markSS (x := m.Parts) (k := k + sfCells m.Source + sfCells m.Target) (by omega) (by omega) hr (by omega)
  unfold laws_markSetMap
  rw [m1, some_bind']
  dsimp only
  rw [m3, some_bind']
  dsimp only
  rw [m5, some_bind']
  exact ⟨_, rfl, by show 0 ≤ k + _ + _ + _; omega⟩
section
variable {c : MCategory} {ls : List (List (List Int))} (T : Tab c ls)
include T
theorem gi_sizes {x : Int} (h0 : 0 ≤ x) (h1 : x < ls.length) : gi (sizesOf ls) x = ((gl ls x).length : Int) := by
  have _ := T
  have e := idx_gi (l := sizesOf ls) (j := x) h0 (by unfold sizesOf; rw [List.length_map]; exact h1)
  have e2 : idx (sizesOf ls) x = some ((gl ls x).length : Int) := by
    have := idx_gl (l := ls) (j := x) h0 h1
    rw [idx_of h0] at this ⊢
    unfold sizesOf
    rw [List.getElem?_map, this]; rfl
  rw [e] at e2
  exact Option.some.inj e2
/-- the classifier, as a set functor -/
abbrev omegaF (c : MCategory) (ls : List (List (List Int))) : MSetFunctor := MSetFunctor.mk c (sizesOf ls) (acts c ls)
theorem omegaSmall (hc : CatSmall c) : SFSmall (omegaF c ls) := by
  have h8 := T.len8
  have hm := T.cat.m
  refine ⟨hc, by show (sizesOf ls).length ≤ _; unfold sizesOf; rw [List.length_map]; omega, by show (acts c ls).length ≤ _; unfold acts; rw [mapI_length]; omega, fun y hy => ?_⟩
  obtain ⟨a, ⟨a0, a1⟩, rfl⟩ := mapI_mem.1 (show y ∈ mapI c.From.length (act c ls) from hy)
  have hf := T.fr a0 a1
  have h16 := T.l16 hf.1 hf.2
  unfold act
  rw [List.length_map]; omega
/-- the number of the greatest sieve -/
def tp (c : MCategory) (ls : List (List (List Int))) (x : Int) : Int := placeS (gl ls x) (outS c x)
theorem tp_range {x : Int} (h0 : 0 ≤ x) (h1 : x < ls.length) : 0 ≤ tp c ls x ∧ tp c ls x < (gl ls x).length := by
  obtain ⟨j, e, hj⟩ := place_some (T.out h0 h1)
  have := getElem?_lt hj
  unfold tp; omega
end
end Go.Proofs.YtdlhbbhdfnnmnaaGreat
