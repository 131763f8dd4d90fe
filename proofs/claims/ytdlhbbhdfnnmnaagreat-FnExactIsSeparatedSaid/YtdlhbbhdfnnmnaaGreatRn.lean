/- Categories held against each other: the reference and the program agree. No condition beside those that each theorem names. -/
import Derived.Test.YtdlhbbhdfnnmnaaGreatPk
namespace Go.Proofs.YtdlhbbhdfnnmnaaGreat
open Go Go.Li

/-- are two categories the same tables -/
def sameB (c d : MCategory) : Bool := c.Objects == d.Objects && (c.From == d.From && (c.To == d.To && (c.Identity == d.Identity && c.Composites == d.Composites)))
theorem sameB_eq {c d : MCategory} : sameB c d = true ↔ c = d := by
  unfold sameB
  simp only [Bool.and_eq_true, beq_iff_eq]
  constructor
  · rintro ⟨h1, h2, h3, h4, h5⟩
    cases c; cases d
    dsimp only at h1 h2 h3 h4 h5
    rw [h1, h2, h3, h4, h5]
  · rintro rfl; exact ⟨rfl, rfl, rfl, rfl, rfl⟩
theorem specSameCat {c d : MCategory} (h : CatSmall c) : spec_l02Same c d = some (sameB c d) := by
  obtain ⟨h1, h2, h3, h4, h5⟩ := h
  have e5 : spec_l01Same2 c.Composites d.Composites = some (c.Composites == d.Composites) := eqSS _ _ (by omega) (fun z hz => by have := h5 z hz; omega)
  unfold spec_l02Same sameB
  cases c.Objects == d.Objects with
  | false => rfl
  | true =>
    rw [cond_true, specSame _ _ (by omega), some_bind']
    cases c.From == d.From with
    | false => rfl
    | true =>
      rw [cond_true, specSame _ _ (by omega), some_bind']
      cases c.To == d.To with
      | false => rfl
      | true =>
        rw [cond_true, specSame _ _ (by omega), some_bind']
        cases c.Identity == d.Identity with
        | false => rfl
        | true => rw [cond_true, e5]; rfl
theorem zip_same : ∀ {x y : List (List Int)}, x.length = y.length → (x == y) = !((x.zip y).any fun z => !(z.1 == z.2)) := by
  intro x
  induction x with
  | nil => intro y h; cases y with
    | nil => rfl
    | cons b y => simp at h
  | cons a x ih =>
    intro y h
    cases y with
    | nil => simp at h
    | cons b y =>
      have h' : x.length = y.length := by simpa using h
      rw [List.zip_cons_cons, List.any_cons, Bool.not_or, Bool.not_not, ← ih h']; rfl
theorem implSameCat {c d : MCategory} (h : CatSmall c) : impl_sameCategory c d = some (sameB c d) := by
  obtain ⟨h1, h2, h3, h4, h5⟩ := h
  unfold impl_sameCategory sameB
  cases e1 : c.Objects == d.Objects with
  | false => rw [show (c.Objects != d.Objects) = true by unfold bne; rw [e1]; rfl]; rfl
  | true =>
    rw [show (c.Objects != d.Objects) = false by unfold bne; rw [e1]; rfl, cond_false, implSame _ _ (by omega), some_bind']
    cases c.From == d.From with
    | false => rfl
    | true =>
      rw [Bool.not_true, cond_false, implSame _ _ (by omega), some_bind']
      cases c.To == d.To with
      | false => rfl
      | true =>
        rw [Bool.not_true, cond_false, implSame _ _ (by omega), some_bind']
        cases c.Identity == d.Identity with
        | false => rfl
        | true =>
          rw [Bool.not_true, cond_false, some_bind']
          simp only [Bool.true_and]
          by_cases hl : c.Composites.length = d.Composites.length
          · rw [bneF (by omega), cond_false, zip_same hl]
            refine (congrArg retM (for_anyb (c.Composites.zip d.Composites) (fun z => !(z.1 == z.2)) (fun i => (i : Int)) rfl ?_ ?_ (e := ((c.Composites.zip d.Composites).length : Int)) (y := false) ?_)).trans ?_
            · intro i z hz hp
              obtain ⟨z1, z2⟩ := z
              obtain ⟨g1, g2⟩ := List.getElem?_zip_eq_some.1 hz
              have hi := getElem?_lt g1
              have := h5 _ (List.mem_of_getElem? g1)
              unfold impl_sameCategory_L0
              rw [decT (by omega), cond_true, idx_nat, g1, some_bind', idx_nat, g2, some_bind', implSame _ _ (by omega), some_bind']
              rw [show (!(z1 == z2)) = false from hp, cond_false, w64_nat (by omega)]
            · intro i z hz hp
              obtain ⟨z1, z2⟩ := z
              obtain ⟨g1, g2⟩ := List.getElem?_zip_eq_some.1 hz
              have hi := getElem?_lt g1
              have := h5 _ (List.mem_of_getElem? g1)
              unfold impl_sameCategory_L0
              rw [decT (by omega), cond_true, idx_nat, g1, some_bind', idx_nat, g2, some_bind', implSame _ _ (by omega), some_bind']
              rw [show (!(z1 == z2)) = true from hp, cond_true]
            · unfold impl_sameCategory_L0
              rw [List.length_zip, ← hl, Nat.min_self, decF (by omega), cond_false]
            · cases (c.Composites.zip d.Composites).any fun z => !(z.1 == z.2) <;> rfl
          · rw [bneT (by omega)]
            have : (c.Composites == d.Composites) = false := beqF fun h => hl (by rw [h])
            rw [this]; rfl
end Go.Proofs.YtdlhbbhdfnnmnaaGreat
