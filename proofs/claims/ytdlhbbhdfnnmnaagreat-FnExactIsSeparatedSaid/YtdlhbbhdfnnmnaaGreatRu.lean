/- Set functors and natural maps between them: copies, equality, marks. No condition beside those that each theorem names. -/
import Derived.Test.YtdlhbbhdfnnmnaaGreatPk
namespace Go.Proofs.YtdlhbbhdfnnmnaaGreat
open Go Go.Li

theorem implClones {p : List (List Int)} (hk : p.length ≤ 1048576) (hr : ∀ y ∈ p, y.length ≤ 1048576) : impl_clones p = some p := by
  have h1 : ∀ l : List Int, l.length ≤ 1048576 → impl_clone l = some l := fun l hl => specOwn0 l hl
  unfold impl_clones
  rw [mk_ok (by omega) (by omega), some_bind']
  refine (congrArg retM (map_loop p.length (gr p) (fun acc i => (acc, (i : Int))) rfl ?_ ?_)).trans ?_
  · intro i acc hi ha
    show impl_clones_L0 p acc i = _
    unfold impl_clones_L0
    rw [decT (by omega), cond_true, idx_gr (by omega) (by omega), some_bind', h1 _ (hr _ (gr_mem (by omega) (by omega))), some_bind', fits_ok (by omega) (by omega), some_bind', w64_nat (by omega)]
  · intro acc ha
    show impl_clones_L0 p acc _ = _
    unfold impl_clones_L0
    rw [decF (by omega), cond_false]
  · show some (mapI p.length (gr p)) = _
    have := mapI_gl p (fun x => x)
    rw [List.map_id'] at this
    exact congrArg some this
structure SFSmall (f : MSetFunctor) : Prop where
  c : CatSmall f.Shape
  s : f.Sizes.length ≤ 1048576
  k : f.Actions.length ≤ 1048576
  r : ∀ y ∈ f.Actions, y.length ≤ 1048576
theorem eqSF_self {f : MSetFunctor} (h : SFSmall f) : laws_eqSetFunctor f f = some true := by
  unfold laws_eqSetFunctor
  have h1 := h.s
  have h2 := h.k
  rw [eqCat_self h.c, some_bind', eqS _ _ (by omega), some_bind', eqSS _ _ (by omega) (fun z hz => by have := h.r z hz; omega), some_bind']
  simp only [beq_self_eq_true, Bool.not_true, cond_false]
  rfl
theorem specOwnF {f : MSetFunctor} (h : SFSmall f) : spec_l19Own f = some f := by
  unfold spec_l19Own
  rw [specOwnC h.c, some_bind', specOwn0 _ h.s, some_bind', specOwn2 _ h.k h.r, some_bind']; rfl
def sfCells (f : MSetFunctor) : Nat := f.Shape.From.length + f.Shape.To.length + f.Shape.Identity.length + s2 f.Shape.Composites + f.Sizes.length + s2 f.Actions
theorem markSF {f : MSetFunctor} (h : SFSmall f) {k : Int} (h0 : 0 ≤ k) (hs : k + sfCells f ≤ 4611686018427387904) :
    ∃ (a b c : List Int) (d : List (List Int)) (e : List Int) (g : List (List Int)), laws_markSetFunctor f k = some (k + sfCells f, a, b, c, d, e, g) ∧ laws_heldSetFunctor (MSetFunctor.mk (MCategory.mk f.Shape.Objects a b c d) e g) k = some (k + sfCells f) := by
  unfold sfCells at hs ⊢
  have h1 := h.s
  have h2 := h.k
  have hm := markCat h.c (k := k) h0 (by omega)
  have hh := heldCat h.c (k := k) h0 (by omega)
  have e1 := s1_eq f.Sizes
  have hr : ∀ y ∈ f.Actions, y.length ≤ 1048576000 := fun y hy => by have := h.r y hy; omega
  have m1 := markS (x := f.Sizes) (k := k + f.Shape.From.length + f.Shape.To.length + f.Shape.Identity.length + s2 f.Shape.Composites) (by omega) (by omega) (by omega)
  have m2 := heldS (x := f.Sizes) (k := k + f.Shape.From.length + f.Shape.To.length + f.Shape.Identity.length + s2 f.Shape.Composites) (by omega) (by omega) (by omega)
  have m3 := markSS (x := f.Actions) (k := k + f.Shape.From.length + f.Shape.To.length + f.Shape.Identity.length + s2 f.Shape.Composites + f.Sizes.length) (by omega) (by omega) hr (by omega)
  have m4 := heldSS (x := f.Actions) (k := k + f.Shape.From.length + f.Shape.To.length + f.Shape.Identity.length + s2 f.Shape.Composites + f.Sizes.length) (by omega) (by omega) hr (by omega)
  rw [e1] at m1 m2
  have en : k + ((f.Shape.From.length + f.Shape.To.length + f.Shape.Identity.length + s2 f.Shape.Composites + f.Sizes.length + s2 f.Actions : Nat) : Int) = k + f.Shape.From.length + f.Shape.To.length + f.Shape.Identity.length + s2 f.Shape.Composites + f.Sizes.length + s2 f.Actions := by omega
  rw [en]
  refine ⟨n1 k f.Shape.From, n1 (k + f.Shape.From.length) f.Shape.To, n1 (k + f.Shape.From.length + f.Shape.To.length) f.Shape.Identity, n2 (k + f.Shape.From.length + f.Shape.To.length + f.Shape.Identity.length) f.Shape.Composites, n1 (k + f.Shape.From.length + f.Shape.To.length + f.Shape.Identity.length + s2 f.Shape.Composites) f.Sizes, n2 (k + f.Shape.From.length + f.Shape.To.length + f.Shape.Identity.length + s2 f.Shape.Composites + f.Sizes.length) f.Actions, ?_, ?_⟩
  rotate_left
  · unfold laws_heldSetFunctor
    dsimp only
    rw [hh, some_bind', decF (by omega), cond_false, m2, some_bind', decF (by omega), cond_false, m4, some_bind', decF (by omega), cond_false]
    rfl
  · unfold laws_markSetFunctor
    rw [hm, some_bind']
    dsimp only
    rw [m1, some_bind']
    dsimp only
    rw [m3, some_bind']
    rfl
structure SMSmall (m : MSetMap) : Prop where
  s : SFSmall m.Source
  t : SFSmall m.Target
  k : m.Parts.length ≤ 1048576
  r : ∀ y ∈ m.Parts, y.length ≤ 1048576
theorem eqSM_self {m : MSetMap} (h : SMSmall m) : laws_eqSetMap m m = some true := by
  unfold laws_eqSetMap
  have h2 := h.k
  rw [eqSF_self h.s, some_bind', eqSF_self h.t, some_bind', eqSS _ _ (by omega) (fun z hz => by have := h.r z hz; omega), some_bind']
  simp only [beq_self_eq_true, Bool.not_true, cond_false]
  rfl
def smCells (m : MSetMap) : Nat := sfCells m.Source + sfCells m.Target + s2 m.Parts
theorem markSM {m : MSetMap} (h : SMSmall m) (hs : smCells m ≤ 4611686018427387000) :
    ∃ (n : Int) (a b c : List Int) (d : List (List Int)) (e : List Int) (g : List (List Int)) (a' b' c' : List Int) (d' : List (List Int)) (e' : List Int) (g' p : List (List Int)), 0 ≤ n ∧ laws_markSetMap m 1 = some (n, a, b, c, d, e, g, a', b', c', d', e', g', p) ∧
      laws_heldSetMap (MSetMap.mk (MSetFunctor.mk (MCategory.mk m.Source.Shape.Objects a b c d) e g) (MSetFunctor.mk (MCategory.mk m.Target.Shape.Objects a' b' c' d') e' g') p) 1 = some n := by
  unfold smCells at hs
  have h2 := h.k
  obtain ⟨a, b, c, d, e, g, m1, m2⟩ := markSF h.s (k := 1) (by omega) (by omega)
  obtain ⟨a', b', c', d', e', g', m3, m4⟩ := markSF h.t (k := 1 + sfCells m.Source) (by omega) (by omega)
  have hr : ∀ y ∈ m.Parts, y.length ≤ 1048576000 := fun y hy => by have := h.r y hy; omega
  have m5 := markSS (x := m.Parts) (k := 1 + sfCells m.Source + sfCells m.Target) (by omega) (by omega) hr (by omega)
  have m6 := heldSS (x := m.Parts) (k := 1 + sfCells m.Source + sfCells m.Target) (by omega) (by omega) hr (by omega)
  refine ⟨1 + sfCells m.Source + sfCells m.Target + s2 m.Parts, a, b, c, d, e, g, a', b', c', d', e', g', n2 (1 + sfCells m.Source + sfCells m.Target) m.Parts, by omega, ?_, ?_⟩
  rotate_left
  · unfold laws_heldSetMap
    dsimp only
    rw [m2, some_bind', decF (by omega), cond_false, m4, some_bind', decF (by omega), cond_false, m6, some_bind', decF (by omega), cond_false]
    rfl
  · unfold laws_markSetMap
    rw [m1, some_bind']
    dsimp only
    rw [m3, some_bind']
    dsimp only
    rw [m5, some_bind']
    rfl
section
variable {c : MCategory} (H : Cat c)
include H
theorem implCopyF {f : MSetFunctor} (h : SFSmall f) : impl_SetFunctor_copy f = some f := by
  unfold impl_SetFunctor_copy
  have e2 : impl_clones f.Actions = some f.Actions := implClones h.k h.r
  rw [implCopy h.c, some_bind', implClone H _ h.s, some_bind', e2, some_bind']; rfl
theorem implSetMap {f g : MSetFunctor} {p : List (List Int)} (hf : SFSmall f) (hg : SFSmall g) (hk : p.length ≤ 1048576) (hr : ∀ y ∈ p, y.length ≤ 1048576) : impl_setMap f g p = some (MSetMap.mk f g p) := by
  unfold impl_setMap
  have e2 : impl_clones p = some p := implClones hk hr
  rw [implCopyF H hf, some_bind', implCopyF H hg, some_bind', e2, some_bind']; rfl
end
theorem specSetMap {f g : MSetFunctor} {p : List (List Int)} (hf : SFSmall f) (hg : SFSmall g) (hk : p.length ≤ 1048576) (hr : ∀ y ∈ p, y.length ≤ 1048576) : spec_l19Make f g p = some (MSetMap.mk f g p) := by
  unfold spec_l19Make
  rw [specOwnF hf, some_bind', specOwnF hg, some_bind', specOwn2 _ hk hr, some_bind']; rfl
theorem s2_le (n : Nat) : ∀ {p : List (List Int)}, (∀ y ∈ p, y.length ≤ n) → s2 p ≤ p.length * n := by
  intro p
  rw [s2_eq]
  induction p with
  | nil => intro _; exact Nat.zero_le _
  | cons a l ih =>
    intro hl
    have := ih fun z hz => hl z (by simp [hz])
    have := hl a (by simp)
    rw [tot_cons, List.length_cons, Nat.succ_mul]; omega
theorem smCells_le {m : MSetMap} (h : SMSmall m) : smCells m ≤ 4611686018427387000 := by
  have key : ∀ {f : MSetFunctor}, SFSmall f → sfCells f ≤ 4398054899712 := fun {f} h => by
    have a1 := h.c.f
    have a2 := h.c.t
    have a3 := h.c.i
    have a4 := h.c.k
    have a5 := h.s
    have a6 := h.k
    have b1 := s2_le 1048576 h.c.r
    have b2 := s2_le 1048576 h.r
    have c1 : f.Shape.Composites.length * 1048576 ≤ 1048576 * 1048576 := Nat.mul_le_mul_right _ a4
    have c2 : f.Actions.length * 1048576 ≤ 1048576 * 1048576 := Nat.mul_le_mul_right _ a6
    unfold sfCells; omega
  have k1 := key h.s
  have k2 := key h.t
  have b := s2_le 1048576 h.r
  have c1 : m.Parts.length * 1048576 ≤ 1048576 * 1048576 := Nat.mul_le_mul_right _ h.k
  unfold smCells; omega
end Go.Proofs.YtdlhbbhdfnnmnaaGreat
