/- Is a table a category: the program's own look. No condition beside those that each theorem names. -/
import Derived.Test.YtcmckiiafgcmjaaGreatPe
namespace Go.Proofs.YtcmckiiafgcmjaaGreat
open Go Go.Li
set_option linter.unusedSectionVars false

theorem endsOf {c : MCategory} (H : Head c) {f : Int} (h0 : 0 ≤ f) (h1 : f < c.From.length) : impl_Category_ends c f = some (MEnds.mk (gi c.From f) (gi c.To f)) := by
  unfold impl_Category_ends
  rw [H.idxF h0 h1, some_bind', H.idxT h0 h1, some_bind']; rfl
theorem implShape {c : MCategory} (hs : CatSmall c) : impl_Category_isShape c = some (shapeB c) := by
  obtain ⟨z1, z2, z3, z4, z5⟩ := hs
  unfold impl_Category_isShape impl_Category_arrows
  rw [show retM (S := Unit) (some (Out.ret (c.From.length : Int))) = some (c.From.length : Int) from rfl, some_bind', inRange, some_bind']
  have e1 : ((c.Composites.length : Int) != (c.From.length : Int)) = !(c.Composites.length == c.From.length) := by
    by_cases e : c.Composites.length = c.From.length
    · simp [e]
    · rw [show (c.Composites.length == c.From.length) = false by simp [e]]; simp; omega
  have e1' : ((c.To.length : Int) != (c.From.length : Int)) = !(c.To.length == c.From.length) := by
    by_cases e : c.To.length = c.From.length
    · simp [e]
    · rw [show (c.To.length == c.From.length) = false by simp [e]]; simp; omega
  have e2 : decide ((c.From.length : Int) > 40) = !decide (c.From.length ≤ 40) := by
    by_cases e : c.From.length ≤ 40
    · rw [decT e, decF (by omega)]; rfl
    · rw [decF e, decT (by omega)]; rfl
  have e3 : ((c.Identity.length : Int) != c.Objects) = !((c.Identity.length : Int) == c.Objects) := rfl
  rw [e1, e1', e2, e3, within c.Identity _ (by omega) (by omega) (by omega)]
  cases hh : headB c with
  | false =>
    have : shapeB c = false := by unfold shapeB; rw [hh]; rfl
    rw [this]
    unfold headB at hh
    cases ha : (decide (0 ≤ c.Objects) && decide (c.Objects ≤ 8)) with
    | false => rfl
    | true =>
      rw [ha] at hh
      simp only [Bool.and_eq_true, decide_eq_true_eq] at ha
      rw [within c.From _ (by omega) ha.1 (by omega), within c.To _ (by omega) ha.1 (by omega)]
      generalize decide (c.From.length ≤ 40) = a2 at *
      generalize inS c.Objects c.From = a3 at *
      generalize (c.To.length == c.From.length) = a4 at *
      generalize inS c.Objects c.To = a5 at *
      generalize (c.Composites.length == c.From.length) = a6 at *
      generalize ((c.Identity.length : Int) == c.Objects) = a7 at *
      generalize inS (c.From.length : Int) c.Identity = a8 at *
      cases a2 <;> first | rfl | (cases a4 <;> first | rfl | (cases a3 <;> first | rfl | (cases a5 <;> first | rfl | (cases a7 <;> first | rfl | (cases a8 <;> first | rfl | (cases a6 <;> first | rfl | (cases hh)))))))
  | true =>
    have H := head_of hh
    have hh' := hh
    unfold headB at hh'
    simp only [Bool.and_eq_true] at hh'
    obtain ⟨⟨⟨b1, b1'⟩, b2, b3⟩, ⟨b4, b5⟩, b6, b7, b8⟩ := hh'
    rw [within c.From _ (by omega) H.o0 (by have := H.o8; omega), within c.To _ (by omega) H.o0 (by have := H.o8; omega)]
    rw [b1, b1', b2, b3, b4, b5, b6, b8, b7]
    simp only [Bool.and_self, Bool.not_true, cond_false, some_bind']
    have hm := H.m
    have hil := H.il
    have hkl := H.kl
    refine (congrArg retM (for_anyb (ns c.Identity.length) (fun x => !idB c x) (fun i => (i : Int)) rfl ?_ ?_ (e := (c.Identity.length : Int)) (y := false) ?_)).trans ?_
    · intro i x hx hp
      obtain ⟨rfl, hi⟩ := ns_get hx
      have := H.id (x := (i : Int)) (by omega) (by omega)
      unfold impl_Category_isShape_L0
      unfold idB at hp
      simp only [Bool.not_eq_false'] at hp
      rw [decT (by omega), cond_true, H.idxI (by omega) (by omega), some_bind', endsOf H this.1 this.2, some_bind']
      dsimp only
      rw [hp, Bool.not_true, cond_false, w64_nat (by omega)]
    · intro i x hx hp
      obtain ⟨rfl, hi⟩ := ns_get hx
      have := H.id (x := (i : Int)) (by omega) (by omega)
      unfold impl_Category_isShape_L0
      unfold idB at hp
      rw [decT (by omega), cond_true, H.idxI (by omega) (by omega), some_bind', endsOf H this.1 this.2, some_bind']
      dsimp only
      rw [hp, cond_true]
    · unfold impl_Category_isShape_L0
      rw [ns_length, decF (by omega), cond_false]
    rw [any_not]
    unfold shapeB
    rw [hh]
    cases hid : (ns c.Identity.length).all (idB c) with
    | false => rfl
    | true =>
      simp only [Bool.not_true, Bool.false_eq_true, if_false, Bool.true_and]
      refine (congrArg retM (for_anyb (ns c.From.length) (fun f => !rowB c f) (fun i => (i : Int)) rfl ?_ ?_ (e := (c.From.length : Int)) (y := false) ?_)).trans ?_
      rotate_left 2
      · unfold impl_Category_isShape_L1
        rw [ns_length, decF (by omega), cond_false]
      · rw [any_not]
        cases (ns c.From.length).all (rowB c) <;> rfl
      all_goals
        intro i x hx hp
        obtain ⟨rfl, hi⟩ := ns_get hx
        have hK := H.idxK (f := (i : Int)) (by omega) (by omega)
        have inner : (gr c.Composites i).length = c.From.length → lbind (S := Int) (blockM 4 (loopM (impl_Category_isShape_L2 c (c.From.length : Int) i (gr c.Composites i)) (0 : Int))) (fun s2_6 => (some (Out.norm (w64 ((i : Int) + (1 : Int)))))) =
            if (ns c.From.length).any (fun g => !cellB c i g) then some (.ret false) else some (Out.norm (w64 ((i : Int) + (1 : Int)))) := by
          intro hr
          refine for_anyb (ns c.From.length) (fun g => !cellB c i g) (fun j => (j : Int)) rfl ?_ ?_ (e := (c.From.length : Int)) (y := false) ?_
          rotate_left 2
          · unfold impl_Category_isShape_L2
            rw [ns_length, decF (by omega), cond_false]
          all_goals
            intro j y hy hq
            obtain ⟨rfl, hj⟩ := ns_get hy
            unfold impl_Category_isShape_L2
            rw [decT (by omega), cond_true, idx_gi (by omega) (by omega), some_bind', H.idxT (by omega) (by omega), some_bind', H.idxF (by omega) (by omega), some_bind', w64_id (a := (c.From.length : Int) - 1) (by omega) (by omega), inRange, some_bind']
            unfold cellB gk at hq
            by_cases e : gi c.To i = gi c.From j
            · rw [if_pos e] at hq
              rw [show (gi c.To (i : Int) != gi c.From (j : Int)) = false by simp [e], cond_false]
              by_cases l0 : 0 ≤ gi (gr c.Composites i) j ∧ gi (gr c.Composites i) j < c.From.length
              · rw [decT l0.1, decT l0.2] at hq
                rw [decT l0.1, decT (show gi (gr c.Composites i) j ≤ (c.From.length : Int) - 1 by omega)]
                simp only [Bool.and_self, Bool.not_true, cond_false, Bool.true_and] at hq ⊢
                rw [endsOf H l0.1 l0.2, some_bind', H.idxF (by omega) (by omega), some_bind', H.idxT (by omega) (by omega), some_bind', some_bind']
                dsimp only
                rw [hq]
                all_goals (first | rfl | rw [cond_false, w64_nat (by omega)])
              · have l1 : (decide (0 ≤ gi (gr c.Composites i) j) && decide (gi (gr c.Composites i) j < c.From.length)) = false := by
                  rcases Classical.not_and_iff_not_or_not.1 l0 with h | h
                  · rw [decF h]; rfl
                  · rw [decF h, Bool.and_false]
                have l2 : (decide (0 ≤ gi (gr c.Composites i) j) && decide (gi (gr c.Composites i) j ≤ (c.From.length : Int) - 1)) = false := by
                  rcases Classical.not_and_iff_not_or_not.1 l0 with h | h
                  · rw [decF h]; rfl
                  · rw [decF (show ¬ gi (gr c.Composites i) j ≤ (c.From.length : Int) - 1 by omega), Bool.and_false]
                rw [l1] at hq
                rw [l2]
                all_goals (first | rfl | simp at hq)
            · rw [if_neg e] at hq
              rw [show (gi c.To (i : Int) != gi c.From (j : Int)) = true by simp [e], cond_true, show (gi (gr c.Composites (i : Int)) (j : Int) != -1) = !(gi (gr c.Composites (i : Int)) (j : Int) == -1) from rfl, hq]
              all_goals (first | rfl | rw [cond_false, w64_nat (by omega)])
        unfold impl_Category_isShape_L1
        rw [decT (by omega), cond_true, hK, some_bind']
        unfold rowB at hp
        by_cases hr : (gr c.Composites i).length = c.From.length
        · rw [show (((gr c.Composites (i : Int)).length : Int) != (c.From.length : Int)) = false by simp [hr], cond_false, inner hr, any_not]
          rw [show ((gr c.Composites (i : Int)).length == c.From.length) = true by simp [hr], Bool.true_and] at hp
          rw [hp, w64_nat (by omega)]
          rfl
        · rw [show (((gr c.Composites (i : Int)).length : Int) != (c.From.length : Int)) = true by (simp; omega), cond_true]
          all_goals (rw [show ((gr c.Composites (i : Int)).length == c.From.length) = false by simp [hr], Bool.false_and] at hp; first | rfl | simp at hp)
end Go.Proofs.YtcmckiiafgcmjaaGreat
