/- The marks that a law puts into a topology that it has handed over. No condition beside those that each theorem names. -/
import Derived.Test.YtdlhbbhdfnnmnaaGreatRd
namespace Go.Proofs.YtdlhbbhdfnnmnaaGreat
open Go Go.Li

theorem s3_le : ∀ x : List (List (List Int)), s3 x ≤ tot2 x := by
  intro x
  induction x with
  | nil => exact Nat.le_refl _
  | cons a x ih =>
    have e1 : s3 (a :: x) = s2 a + s3 x := rfl
    have e2 : tot2 (a :: x) = (a.length + tot a) + tot2 x := rfl
    rw [e1, e2, s2_eq]; omega
theorem cells_le (t : MTopology) : topCells t ≤ topSize t := by
  have h := s3_le t.Covers
  unfold topCells topSize catSize
  rw [s2_eq]; omega
/-- the marks that the law puts into a topology that it has handed over -/
theorem mark_topK {t : MTopology} {k : Int} (k0 : 0 ≤ k) (k1 : k ≤ 1099511627776) (h : TopSmall t) (hs : topSize t ≤ 1048576) : ∃ r, laws_markTopology t k = some r ∧ 0 ≤ r.1 ∧ r.1 ≤ k + 1048576 := by
  obtain ⟨hc, h1, h2⟩ := h
  have hl := cells_le t
  unfold topCells at hl
  have hm := markCat hc (k := k) (by omega) (by omega)
  have hr : ∀ y ∈ t.Covers, y.length ≤ 1048576000 ∧ ∀ z ∈ y, z.length ≤ 1048576000 := fun y hy => ⟨by have := (h2 y hy).1; omega, fun z hz => by have := (h2 y hy).2 z hz; omega⟩
  have hm3 := markSSS (x := t.Covers) (k := k + t.Shape.From.length + t.Shape.To.length + t.Shape.Identity.length + s2 t.Shape.Composites) (by omega) (by omega) hr (by omega)
  unfold laws_markTopology
  rw [hm, some_bind']
  dsimp only
  rw [hm3, some_bind']
  exact ⟨_, rfl, by show 0 ≤ _ + _; omega, by show _ + _ ≤ _; omega⟩
theorem mark_top {t : MTopology} (h : TopSmall t) (hs : topSize t ≤ 1048576) : ∃ r, laws_markTopology t 1 = some r ∧ 0 ≤ r.1 ∧ r.1 ≤ 1048577 := mark_topK (k := 1) (by omega) (by omega) h hs
end Go.Proofs.YtdlhbbhdfnnmnaaGreat
