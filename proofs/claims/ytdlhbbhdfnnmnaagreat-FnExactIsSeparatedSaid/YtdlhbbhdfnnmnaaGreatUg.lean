/- A topology and set functors on its category: all that can be wrong is told alike. No condition beside those that each theorem names. -/
import Derived.Test.YtdlhbbhdfnnmnaaGreatRk
import Derived.Test.YtdlhbbhdfnnmnaaGreatRq
import Derived.Test.YtdlhbbhdfnnmnaaGreatRn
import Derived.Test.YtdlhbbhdfnnmnaaGreatRx
namespace Go.Proofs.YtdlhbbhdfnnmnaaGreat
open Go Go.Li

theorem onNone {t : MTopology} {f : MSetFunctor} {e : Int} (he : e ≠ 0) (h : impl_limitCode t = some (none, e)) : impl_onCode t [f] = some (none, e) := by
  unfold impl_onCode
  rw [h, some_bind']
  dsimp only
  rw [bneT he, cond_true]; rfl
theorem onSome {t : MTopology} {f : MSetFunctor} {k : MCoverage} (ht : CatSmall t.Shape) (h : impl_limitCode t = some (some k, 0)) : impl_onCode t [f] = some (bif sameB t.Shape f.Shape then (some (MCoverage.mk k.Classifier t.Shape k.Covers k.Count), 0) else (none, 5)) := by
  unfold impl_onCode
  rw [h, some_bind']
  dsimp only
  rw [bneF rfl, cond_false]
  have h0 : impl_onCode_L1 t [f] ((0 : Nat) : Int) = bif !(sameB t.Shape f.Shape) then some (.ret (none, 5)) else some (.norm ((0 + 1 : Nat) : Int)) := by
    unfold impl_onCode_L1
    have : idx [f] ((0 : Nat) : Int) = some f := by rw [idx_nat]; rfl
    rw [decT (by simp), cond_true, this, some_bind', implSameCat ht, some_bind', w64_nat (by omega)]
  rw [forb (n := 1) (fun _ => !(sameB t.Shape f.Shape)) (fun i hi => by obtain rfl : i = 0 := (by omega); exact h0) (by unfold impl_onCode_L1; rw [decF (by simp), cond_false])]
  have : (ns 1).any (fun _ => !(sameB t.Shape f.Shape)) = !(sameB t.Shape f.Shape) := by simp [ns]
  rw [this]
  cases sameB t.Shape f.Shape <;> rfl
/-- a topology and a set functor on its category: all that can be wrong is told alike -/
theorem on_alike {t : MTopology} {f : MSetFunctor} (ht : TopSmall t) (hf : formB t = true) :
    (∃ (e : Int) (y : ML27Table × List (List Bool) × Int), e ≠ 0 ∧ spec_l27Code t = some y ∧ (bif y.2.2 == 0 then !(sameB t.Shape f.Shape) else false) = decide (e = 5 ∧ y.2.2 = 0) ∧ (y.2.2 = e ∨ y.2.2 = 0 ∧ e = 5) ∧ impl_onCode t [f] = some (none, e)) ∨
    ∃ ls n, Tab t.Shape ls ∧ t.Shape = f.Shape ∧ (∃ y : ML27Table × List (List Bool) × Int, spec_l27Code t = some y ∧ y.2.2 = 0) ∧ openB t.Shape ls (covB t.Covers) = false ∧ impl_onCode t [f] = some (some (KK t.Shape ls (covB t.Covers) n), 0) := by
  have F := form_of hf
  rcases form_scan F with ⟨ls, T⟩ | ⟨k, ls, hk, h, hn⟩
  · obtain ⟨n, hl⟩ := implLimit F T ht
    have hs := specCode F T ht hf
    cases e : openB t.Shape ls (covB t.Covers) with
    | true =>
      rw [e, if_pos rfl] at hl hs
      exact .inl ⟨5, _, by decide, hs, by rfl, .inl rfl, onNone (by decide) hl⟩
    | false =>
      rw [e, if_neg (by decide)] at hl hs
      have h1 := onSome (f := f) ht.c hl
      cases e2 : sameB t.Shape f.Shape with
      | false =>
        rw [e2] at h1
        exact .inl ⟨5, _, by decide, hs, by rfl, .inr ⟨rfl, rfl⟩, h1⟩
      | true =>
        rw [e2] at h1
        exact .inr ⟨ls, n, T, sameB_eq.1 e2, ⟨_, hs, rfl⟩, e, h1⟩
  · obtain ⟨y, h1, h2⟩ := specCodeNo ht hf F hk h hn
    exact .inl ⟨3, y, by decide, h1, by rw [h2]; rfl, .inl h2, onNone (by decide) (implLimitNo ht F hk h hn)⟩
end Go.Proofs.YtdlhbbhdfnnmnaaGreat
