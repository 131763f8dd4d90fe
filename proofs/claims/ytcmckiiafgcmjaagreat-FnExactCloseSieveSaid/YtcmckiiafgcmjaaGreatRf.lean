/- The laws of CloseSieve and LeastCovers, on plain data. No condition beside those that each theorem names. -/
import Derived.Test.YtcmckiiafgcmjaaGreatRe
namespace Go.Proofs.YtcmckiiafgcmjaaGreat
open Go Go.Li

theorem s3_le : ∀ x : List (List (List Int)), s3 x ≤ tot2 x := by
  intro x
  induction x with
  | nil => exact Nat.le_refl _
  | cons a x ih =>
    have e1 : s3 (a :: x) = s2 a + s3 x := rfl
    have e2 : tot2 (a :: x) = (a.length + tot a) + tot2 x := rfl
    rw [e1, e2, s2_eq]; omega
theorem cells_le (t : MTopology) : topCells t ≤ topSize t := by
  have h := s3_le t.Covers
  unfold topCells topSize catSize
  rw [s2_eq]; omega
/-- the marks that the law puts into a topology that it has handed over -/
theorem mark_top {t : MTopology} (h : TopSmall t) (hs : topSize t ≤ 1048576) : ∃ r, laws_markTopology t 1 = some r ∧ 0 ≤ r.1 ∧ r.1 ≤ 1048577 := by
  obtain ⟨hc, h1, h2⟩ := h
  have hl := cells_le t
  unfold topCells at hl
  have hm := markCat hc (k := 1) (by omega) (by omega)
  have hr : ∀ y ∈ t.Covers, y.length ≤ 1048576000 ∧ ∀ z ∈ y, z.length ≤ 1048576000 := fun y hy => ⟨by have := (h2 y hy).1; omega, fun z hz => by have := (h2 y hy).2 z hz; omega⟩
  have hm3 := markSSS (x := t.Covers) (k := 1 + t.Shape.From.length + t.Shape.To.length + t.Shape.Identity.length + s2 t.Shape.Composites) (by omega) (by omega) hr (by omega)
  unfold laws_markTopology
  rw [hm, some_bind']
  dsimp only
  rw [hm3, some_bind']
  exact ⟨_, rfl, by show 0 ≤ _ + _; omega, by show _ + _ ≤ _; omega⟩
theorem close_law {x0 : MTopology} (hl : TopLens x0) (x : Int) {s : List Int} (hsl : s.length ≤ 9223372036854775807) : laws_FnExactCloseSieve x0 x s = some true := by
  have _ := hsl
  unfold laws_FnExactCloseSieve
  by_cases hb : (s.length : Int) > 1048576
  · rw [decT hb, cond_true]; rfl
  rw [decF hb, cond_false, szTop hl, some_bind']
  by_cases h : (topSize x0 : Int) ≤ 1048576
  · have hn : topSize x0 ≤ 1048576 := by omega
    have hs := topSmall_of hn
    obtain ⟨y, h1, h2, h3⟩ := close_alike hs (x := x) (s := s) (by omega)
    obtain ⟨r, g1, g2, g3⟩ := mark_top hs hn
    have m1 := markS (x := s) (k := r.1) g2 (by omega) (by rw [s1_eq]; omega)
    have m2 := markS (x := y.1) (k := 1) (by omega) (by omega) (by rw [s1_eq]; omega)
    have m3 := heldS (x := y.1) (k := 1) (by omega) (by omega) (by rw [s1_eq]; omega)
    have es := eqS s s (by omega)
    have ey := eqS y.1 y.1 (by omega)
    have e1 : (s == s) = true := beqT rfl
    have e2 : (y.1 == y.1) = true := beqT rfl
    rw [e1] at es
    rw [e2] at ey
    have c1 : decide (r.1 + (s1 s : Int) < 0) = false := decF (by omega)
    have c2 : decide ((1 : Int) + (s1 y.1 : Int) < 0) = false := decF (by omega)
    have c3 : ((1 : Int) + (s1 y.1 : Int) != 1 + (s1 y.1 : Int)) = false := bneF rfl
    have c4 : (y.2 != y.2) = false := bneF rfl
    rw [if_pos h, decF (by omega), cond_false, toTop hn]
    simp only [some_bind', toS s (by omega), h1, h2, ey, es, Bool.not_true, cond_false, c4, eqTop_self hs, g1, m1, c1, m2, m3, c2, c3]
    rfl
  · rw [if_neg h, decT (by omega), cond_true]; rfl
theorem leastC_law {x0 : MTopology} (hl : TopLens x0) : laws_FnExactLeastCovers x0 = some true := by
  unfold laws_FnExactLeastCovers
  rw [szTop hl, some_bind']
  by_cases h : (topSize x0 : Int) ≤ 1048576
  · have hn : topSize x0 ≤ 1048576 := by omega
    have hs := topSmall_of hn
    obtain ⟨y, h1, h2, h3, h4⟩ := least_alike' hs
    obtain ⟨r, g1, g2, g3⟩ := mark_top hs hn
    have hr : ∀ z ∈ y.1, z.length ≤ 1048576000 := fun z hz => by have := h4 z hz; omega
    have ht : tot y.1 ≤ y.1.length * 40 := by
      have : ∀ l : List (List Int), (∀ z ∈ l, z.length ≤ 40) → tot l ≤ l.length * 40 := by
        intro l
        induction l with
        | nil => intro _; exact Nat.le_refl _
        | cons a l ih =>
          intro hl
          have := ih fun z hz => hl z (by simp [hz])
          have := hl a (by simp)
          rw [tot_cons, List.length_cons]; omega
      exact this _ h4
    have m2 := markSS (x := y.1) (k := 1) (by omega) (by omega) hr (by rw [s2_eq]; omega)
    have m3 := heldSS (x := y.1) (k := 1) (by omega) (by omega) hr (by rw [s2_eq]; omega)
    have ey := eqSS y.1 y.1 (by omega) hr
    have e2 : (y.1 == y.1) = true := beqT rfl
    rw [e2] at ey
    have c1 : decide (r.1 < 0) = false := decF (by omega)
    have c2 : decide ((1 : Int) + (s2 y.1 : Int) < 0) = false := decF (by omega)
    have c3 : ((1 : Int) + (s2 y.1 : Int) != 1 + (s2 y.1 : Int)) = false := bneF rfl
    have c4 : (y.2 != y.2) = false := bneF rfl
    rw [if_pos h, decF (by omega), cond_false, toTop hn]
    simp only [some_bind', h1, h2, ey, Bool.not_true, cond_false, c4, eqTop_self hs, g1, c1, m2, m3, c2, c3]
    rfl
  · rw [if_neg h, decT (by omega), cond_true]; rfl
end Go.Proofs.YtcmckiiafgcmjaaGreat
