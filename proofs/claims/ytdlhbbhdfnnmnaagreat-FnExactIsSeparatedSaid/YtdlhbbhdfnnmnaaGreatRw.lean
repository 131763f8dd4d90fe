/- Set functors and natural maps: the laws of a set functor, equality, natural maps. No condition beside those that each theorem names. -/
import Derived.Test.YtdlhbbhdfnnmnaaGreatRv
namespace Go.Proofs.YtdlhbbhdfnnmnaaGreat
open Go Go.Li

/-- what an identity does to an element; what a composite does -/
def idBad (f : MSetFunctor) (x : Int) : Bool := (ns (gi f.Sizes x).toNat).any fun e => gi (gr f.Actions (gi f.Shape.Identity x)) e != e
def cmpBad (f : MSetFunctor) (a b : Int) : Bool := (gi f.Shape.To a == gi f.Shape.From b) && (ns (gi f.Sizes (gi f.Shape.From a)).toNat).any fun e => gi (gr f.Actions (gk f.Shape.Composites a b)) e != gi (gr f.Actions b) (gi (gr f.Actions a) e)
def sfLawB (f : MSetFunctor) : Bool := !((ns f.Shape.Objects.toNat).any (idBad f)) && !((ns f.Shape.From.length).any fun a => (ns f.Shape.From.length).any (cmpBad f a))
namespace SFShape
variable {f : MSetFunctor} (H : SFShape f)
include H
theorem row {a : Int} (h0 : 0 ≤ a) (h1 : a < f.Shape.From.length) : (gr f.Actions a).length = (gi f.Sizes (gi f.Shape.From a)).toNat := by
  have := (H.act a h0 h1).1
  have hf := H.cat.fr h0 h1
  have := H.s _ hf.1 hf.2
  omega
theorem at_ {a e : Int} (h0 : 0 ≤ a) (h1 : a < f.Shape.From.length) (e0 : 0 ≤ e) (e1 : e < gi f.Sizes (gi f.Shape.From a)) : idx (gr f.Actions a) e = some (gi (gr f.Actions a) e) := idx_gi e0 (by rw [(H.act a h0 h1).1]; exact e1)
theorem img {a e : Int} (h0 : 0 ≤ a) (h1 : a < f.Shape.From.length) (e0 : 0 ≤ e) (e1 : e < gi f.Sizes (gi f.Shape.From a)) : 0 ≤ gi (gr f.Actions a) e ∧ gi (gr f.Actions a) e < gi f.Sizes (gi f.Shape.To a) :=
  (H.act a h0 h1).2 _ (gi_mem e0 (by rw [(H.act a h0 h1).1]; exact e1))
end SFShape
theorem faultF {f : MSetFunctor} {k1 k2 k3 k4 k5 : Nat} {A0 : Int → Option (Out Int (Int × Int × Int × Int))} {A1 : Int → Int → Option (Out Int (Int × Int × Int × Int))} {B0 : Int → Option (Out Int (Int × Int × Int × Int))} {B1 : Int → Int → Option (Out Int (Int × Int × Int × Int))} {B2 : Int → Int → Int → Option (Out Int (Int × Int × Int × Int))} {n m : Nat} {z : Int × Int × Int × Int} (hz : z.1 = 0) (hn : n = f.Shape.Objects.toNat) (hm : m = f.Shape.From.length)
    (a1 : ∀ x e : Nat, x < n → e < (gi f.Sizes x).toNat → ∃ y : Int × Int × Int × Int, y.1 ≠ 0 ∧ A1 x e = bif gi (gr f.Actions (gi f.Shape.Identity x)) e != (e : Int) then some (.ret y) else some (.norm ((e + 1 : Nat) : Int)))
    (a2 : ∀ x : Nat, x < n → A1 x ((gi f.Sizes x).toNat : Int) = some (.exit k2 ((gi f.Sizes x).toNat : Int)))
    (a0 : ∀ x : Nat, x < n → A0 x = lbind (blockM k2 (loopM (A1 x) (0 : Int))) fun _ => some (.norm ((x + 1 : Nat) : Int)))
    (a3 : A0 n = some (.exit k1 (n : Int)))
    (b2 : ∀ a b e : Nat, a < m → b < m → gi f.Shape.To a = gi f.Shape.From b → e < (gi f.Sizes (gi f.Shape.From a)).toNat → ∃ y : Int × Int × Int × Int, y.1 ≠ 0 ∧ B2 a b e = bif gi (gr f.Actions (gk f.Shape.Composites a b)) e != gi (gr f.Actions b) (gi (gr f.Actions a) e) then some (.ret y) else some (.norm ((e + 1 : Nat) : Int)))
    (b3 : ∀ a b : Nat, a < m → b < m → B2 a b ((gi f.Sizes (gi f.Shape.From a)).toNat : Int) = some (.exit k5 ((gi f.Sizes (gi f.Shape.From a)).toNat : Int)))
    (b1 : ∀ a b : Nat, a < m → b < m → B1 a b = bif gi f.Shape.To a == gi f.Shape.From b then lbind (blockM k5 (loopM (B2 a b) (0 : Int))) (fun _ => some (.norm ((b + 1 : Nat) : Int))) else some (.norm ((b + 1 : Nat) : Int)))
    (b4 : ∀ a : Nat, a < m → B1 a m = some (.exit k4 (m : Int)))
    (b0 : ∀ a : Nat, a < m → B0 a = lbind (blockM k4 (loopM (B1 a) (0 : Int))) fun _ => some (.norm ((a + 1 : Nat) : Int)))
    (b5 : B0 m = some (.exit k3 (m : Int))) :
    ∃ y, retM (S := Unit) (lbind (blockM k1 (loopM A0 (0 : Int))) fun _ => lbind (blockM k3 (loopM B0 (0 : Int))) fun _ => some (.ret z)) = some y ∧ (y.1 == 0) = sfLawB f := by
  have hA : ∀ x : Nat, x < n → (idBad f x = false ∧ A0 x = some (.norm ((x + 1 : Nat) : Int))) ∨ (idBad f x = true ∧ ∃ y, A0 x = some (.ret y) ∧ y.1 ≠ 0) := by
    intro x hx
    rw [a0 x hx]
    refine forg (n := (gi f.Sizes x).toNat) (fun e => gi (gr f.Actions (gi f.Shape.Identity x)) e != e) (fun y : Int × Int × Int × Int => y.1 ≠ 0) ?_ (a2 x hx)
    intro e he
    obtain ⟨y, hy, h⟩ := a1 x e hx he
    rw [h]
    cases gi (gr f.Actions (gi f.Shape.Identity x)) e != (e : Int) with
    | true => exact .inr ⟨rfl, y, rfl, hy⟩
    | false => exact .inl ⟨rfl, rfl⟩
  have hB1 : ∀ a b : Nat, a < m → b < m → (cmpBad f a b = false ∧ B1 a b = some (.norm ((b + 1 : Nat) : Int))) ∨ (cmpBad f a b = true ∧ ∃ y, B1 a b = some (.ret y) ∧ y.1 ≠ 0) := by
    intro a b ha hb
    rw [b1 a b ha hb]
    unfold cmpBad
    cases hc : gi f.Shape.To a == gi f.Shape.From b with
    | false => exact .inl ⟨rfl, rfl⟩
    | true =>
      rw [Bool.true_and, cond_true]
      refine forg (n := (gi f.Sizes (gi f.Shape.From a)).toNat) (fun e => gi (gr f.Actions (gk f.Shape.Composites a b)) e != gi (gr f.Actions b) (gi (gr f.Actions a) e)) (fun y : Int × Int × Int × Int => y.1 ≠ 0) ?_ (b3 a b ha hb)
      intro e he
      obtain ⟨y, hy, h⟩ := b2 a b e ha hb (by simpa using hc) he
      rw [h]
      cases gi (gr f.Actions (gk f.Shape.Composites a b)) e != gi (gr f.Actions b) (gi (gr f.Actions a) e) with
      | true => exact .inr ⟨rfl, y, rfl, hy⟩
      | false => exact .inl ⟨rfl, rfl⟩
  have hB : ∀ a : Nat, a < m → ((ns m).any (cmpBad f a) = false ∧ B0 a = some (.norm ((a + 1 : Nat) : Int))) ∨ ((ns m).any (cmpBad f a) = true ∧ ∃ y, B0 a = some (.ret y) ∧ y.1 ≠ 0) := by
    intro a ha
    rw [b0 a ha]
    exact forg (n := m) (cmpBad f a) (fun y : Int × Int × Int × Int => y.1 ≠ 0) (fun b hb => hB1 a b ha hb) (b4 a ha)
  unfold sfLawB
  rw [← hn, ← hm]
  rcases forg (S := Unit) (f := fun _ => lbind (blockM k3 (loopM B0 (0 : Int))) fun _ => some (.ret z)) (n := n) (idBad f) (fun y : Int × Int × Int × Int => y.1 ≠ 0) hA a3 with ⟨h1, h2⟩ | ⟨h1, y, h2, h3⟩
  · rw [h1, h2]
    rcases forg (S := Unit) (f := fun _ => some (.ret z)) (n := m) (fun a => (ns m).any (cmpBad f a)) (fun y : Int × Int × Int × Int => y.1 ≠ 0) hB b5 with ⟨g1, g2⟩ | ⟨g1, y, g2, g3⟩
    · rw [g1, g2]
      exact ⟨z, rfl, by rw [hz]; rfl⟩
    · rw [g1, g2]
      exact ⟨y, rfl, by simpa using g3⟩
  · rw [h1, h2]
    exact ⟨y, rfl, by simpa using h3⟩
theorem specFaultF {f : MSetFunctor} (H : SFShape f) : ∃ y, spec_l19Fault f = some y ∧ (y.1 == 0) = sfLawB f := by
  have hm := H.cat.m
  have o0 := H.cat.o0
  have o8 := H.cat.o8
  have hl := H.sl
  have hA := H.al
  unfold spec_l19Fault
  refine faultF (k2 := 2) (k4 := 6) (k5 := 8) (A1 := spec_l19Fault_L1 f) (B1 := spec_l19Fault_L3 f) (B2 := spec_l19Fault_L4 f) (n := f.Shape.Objects.toNat) (m := f.Shape.From.length) rfl rfl rfl ?_ ?_ ?_ ?_ ?_ ?_ ?_ ?_ ?_ ?_
  · intro x e hx he
    have hi := H.cat.id (x := (x : Int)) (by omega) (by omega)
    have hs := H.s (x : Int) (by omega) (by omega)
    have hf := H.cat.idf (x : Int) (by omega) (by omega)
    refine ⟨(1, x, e, 0), (by decide : (1 : Int) ≠ 0), ?_⟩
    unfold spec_l19Fault_L1
    rw [H.idxS (by omega) (by omega), some_bind', decT (by omega), cond_true, H.cat.idxI (by omega) (by omega), some_bind', H.idxA hi.1 hi.2, some_bind', H.at_ hi.1 hi.2 (by omega) (by rw [hf]; omega), some_bind', w64_nat (by omega)]
  · intro x hx
    have hs := H.s (x : Int) (by omega) (by omega)
    unfold spec_l19Fault_L1
    rw [H.idxS (by omega) (by omega), some_bind', decF (by omega), cond_false]
  · intro x hx
    unfold spec_l19Fault_L0
    rw [decT (by omega), cond_true, w64_nat (by omega)]
  · unfold spec_l19Fault_L0
    rw [decF (by omega), cond_false]
  · intro a b e ha hb hab he
    have hf := H.cat.fr (f := (a : Int)) (by omega) (by omega)
    have hs := H.s _ hf.1 hf.2
    have hc := H.cat.cell (a : Int) (b : Int) (by omega) (by omega) (by omega) (by omega) hab
    have hi := H.img (a := (a : Int)) (e := (e : Int)) (by omega) (by omega) (by omega) (by omega)
    refine ⟨(2, a, b, e), (by decide : (2 : Int) ≠ 0), ?_⟩
    unfold spec_l19Fault_L4
    rw [H.cat.idxF (by omega) (by omega), some_bind', H.idxS hf.1 hf.2, some_bind', decT (by omega), cond_true, H.cat.idxK (by omega) (by omega), some_bind', H.cat.idxC (by omega) (by omega) (by omega) (by omega), some_bind',
      H.idxA hc.1 hc.2.1, some_bind', H.at_ hc.1 hc.2.1 (by omega) (by rw [hc.2.2.1]; omega), some_bind', H.idxA (by omega) (by omega), some_bind', H.idxA (by omega) (by omega), some_bind', H.at_ (by omega) (by omega) (by omega) (by omega), some_bind',
      H.at_ (by omega) (by omega) hi.1 (by rw [← hab]; exact hi.2), some_bind', w64_nat (by omega)]
  · intro a b ha hb
    have hf := H.cat.fr (f := (a : Int)) (by omega) (by omega)
    have hs := H.s _ hf.1 hf.2
    unfold spec_l19Fault_L4
    rw [H.cat.idxF (by omega) (by omega), some_bind', H.idxS hf.1 hf.2, some_bind', decF (by omega), cond_false]
  · intro a b ha hb
    unfold spec_l19Fault_L3
    rw [decT (by omega), cond_true, H.cat.idxT (by omega) (by omega), some_bind', H.cat.idxF (by omega) (by omega), some_bind', w64_nat (by omega)]
    unfold bne
    cases gi f.Shape.To a == gi f.Shape.From b <;> rfl
  · intro a ha
    unfold spec_l19Fault_L3
    rw [decF (by omega), cond_false]
  · intro a ha
    unfold spec_l19Fault_L2
    rw [decT (by omega), cond_true, w64_nat (by omega)]
  · unfold spec_l19Fault_L2
    rw [decF (by omega), cond_false]
theorem implFaultF {f : MSetFunctor} (H : SFShape f) : ∃ y, impl_SetFunctor_fault f = some y ∧ (y.1 == 0) = sfLawB f := by
  have hm := H.cat.m
  have o0 := H.cat.o0
  have o8 := H.cat.o8
  have hl := H.sl
  have hA := H.al
  have il := H.cat.il
  have kl := H.cat.kl
  unfold impl_SetFunctor_fault
  refine faultF (k2 := 2) (k4 := 6) (k5 := 8) (A1 := fun x => impl_SetFunctor_fault_L1 x (gr f.Actions (gi f.Shape.Identity x))) (B1 := fun a => impl_SetFunctor_fault_L3 f a (gr f.Shape.Composites a)) (B2 := fun a b => impl_SetFunctor_fault_L4 f a b (gk f.Shape.Composites a b) (gr f.Actions a)) (n := f.Shape.Objects.toNat) (m := f.Shape.From.length) rfl rfl rfl ?_ ?_ ?_ ?_ ?_ ?_ ?_ ?_ ?_ ?_
  · intro x e hx he
    have hi := H.cat.id (x := (x : Int)) (by omega) (by omega)
    have hs := H.s (x : Int) (by omega) (by omega)
    have hf := H.cat.idf (x : Int) (by omega) (by omega)
    have hr := H.row hi.1 hi.2
    rw [hf] at hr
    refine ⟨(1, x, e, 0), (by decide : (1 : Int) ≠ 0), ?_⟩
    show impl_SetFunctor_fault_L1 x (gr f.Actions (gi f.Shape.Identity x)) e = _
    unfold impl_SetFunctor_fault_L1
    rw [decT (by omega), cond_true, H.at_ hi.1 hi.2 (by omega) (by rw [hf]; omega), some_bind', w64_nat (by omega)]
  · intro x hx
    have hi := H.cat.id (x := (x : Int)) (by omega) (by omega)
    have hf := H.cat.idf (x : Int) (by omega) (by omega)
    have hr := H.row hi.1 hi.2
    rw [hf] at hr
    show impl_SetFunctor_fault_L1 x (gr f.Actions (gi f.Shape.Identity x)) _ = _
    unfold impl_SetFunctor_fault_L1
    rw [decF (by omega), cond_false]
  · intro x hx
    have hi := H.cat.id (x := (x : Int)) (by omega) (by omega)
    unfold impl_SetFunctor_fault_L0
    rw [decT (by omega), cond_true, H.cat.idxI (by omega) (by omega), some_bind', H.idxA hi.1 hi.2, some_bind', w64_nat (by omega)]
  · unfold impl_SetFunctor_fault_L0
    rw [decF (by omega), cond_false]
  · intro a b e ha hb hab he
    have hf := H.cat.fr (f := (a : Int)) (by omega) (by omega)
    have hs := H.s _ hf.1 hf.2
    have hc := H.cat.cell (a : Int) (b : Int) (by omega) (by omega) (by omega) (by omega) hab
    have hi := H.img (a := (a : Int)) (e := (e : Int)) (by omega) (by omega) (by omega) (by omega)
    have hr := H.row (a := (a : Int)) (by omega) (by omega)
    refine ⟨(2, a, b, e), (by decide : (2 : Int) ≠ 0), ?_⟩
    show impl_SetFunctor_fault_L4 f a b (gk f.Shape.Composites a b) (gr f.Actions a) e = _
    unfold impl_SetFunctor_fault_L4
    rw [decT (by omega), cond_true, H.at_ (by omega) (by omega) (by omega) (by omega), some_bind', H.idxA hc.1 hc.2.1, some_bind', H.at_ hc.1 hc.2.1 (by omega) (by rw [hc.2.2.1]; omega), some_bind', H.idxA (by omega) (by omega), some_bind',
      H.at_ (by omega) (by omega) hi.1 (by rw [← hab]; exact hi.2), some_bind', w64_nat (by omega)]
  · intro a b ha hb
    have hr := H.row (a := (a : Int)) (by omega) (by omega)
    show impl_SetFunctor_fault_L4 f a b (gk f.Shape.Composites a b) (gr f.Actions a) _ = _
    unfold impl_SetFunctor_fault_L4
    rw [decF (by omega), cond_false]
  · intro a b ha hb
    have hrow := H.cat.row (a : Int) (by omega) (by omega)
    show impl_SetFunctor_fault_L3 f a (gr f.Shape.Composites a) b = _
    unfold impl_SetFunctor_fault_L3
    rw [decT (by omega), cond_true, H.cat.idxC (by omega) (by omega) (by omega) (by omega), some_bind', w64_nat (by omega)]
    by_cases he : gi f.Shape.To a = gi f.Shape.From b
    · have hc := H.cat.cell (a : Int) (b : Int) (by omega) (by omega) (by omega) (by omega) he
      rw [decF (by omega), cond_false, H.idxA (by omega) (by omega), some_bind', beqT he, cond_true]
    · have hc := H.cat.none (a : Int) (b : Int) (by omega) (by omega) (by omega) (by omega) he
      rw [decT (by omega), cond_true, beqF he, cond_false]
  · intro a ha
    have hrow := H.cat.row (a : Int) (by omega) (by omega)
    show impl_SetFunctor_fault_L3 f a (gr f.Shape.Composites a) _ = _
    unfold impl_SetFunctor_fault_L3
    rw [decF (by omega), cond_false]
  · intro a ha
    unfold impl_SetFunctor_fault_L2
    rw [decT (by omega), cond_true, H.cat.idxK (by omega) (by omega), some_bind', w64_nat (by omega)]
  · unfold impl_SetFunctor_fault_L2
    rw [decF (by omega), cond_false]
/-- is it a set functor -/
def sfB (f : MSetFunctor) : Bool := sfShapeB f && sfLawB f
structure SF (f : MSetFunctor) : Prop extends SFShape f where
  one : ∀ x e : Int, 0 ≤ x → x < f.Shape.Objects → 0 ≤ e → e < gi f.Sizes x → gi (gr f.Actions (gi f.Shape.Identity x)) e = e
  comp : ∀ a b e : Int, 0 ≤ a → a < f.Shape.From.length → 0 ≤ b → b < f.Shape.From.length → gi f.Shape.To a = gi f.Shape.From b → 0 ≤ e → e < gi f.Sizes (gi f.Shape.From a) → gi (gr f.Actions (gk f.Shape.Composites a b)) e = gi (gr f.Actions b) (gi (gr f.Actions a) e)
theorem sf_of {f : MSetFunctor} (h : sfB f = true) : SF f := by
  unfold sfB at h
  rw [Bool.and_eq_true] at h
  obtain ⟨h1, h2⟩ := h
  have S := sfShape_of h1
  have o8 := S.cat.o8
  unfold sfLawB at h2
  rw [Bool.and_eq_true, Bool.not_eq_true', Bool.not_eq_true', ns_any_false, ns_any_false] at h2
  refine ⟨S, fun x e x0 x1 e0 e1 => ?_, fun a b e a0 a1 b0 b1 hab e0 e1 => ?_⟩
  · have := h2.1 x x0 (by omega)
    unfold idBad at this
    rw [ns_any_false] at this
    have := this e e0 (by omega)
    simpa using this
  · have := h2.2 a a0 a1
    rw [ns_any_false] at this
    have := this b b0 b1
    unfold cmpBad at this
    rw [beqT hab, Bool.true_and, ns_any_false] at this
    have := this e e0 (by omega)
    simpa using this
theorem specIsF {f : MSetFunctor} (hs : SFSmall f) : spec_l19Is f = some (sfB f) := by
  unfold spec_l19Is
  rw [specShapeF hs, some_bind']
  unfold sfB
  cases h : sfShapeB f with
  | false => rfl
  | true =>
    obtain ⟨y, h1, h2⟩ := specFaultF (sfShape_of h)
    rw [Bool.not_true, cond_false, h1, some_bind', h2]; rfl
theorem implIsF {f : MSetFunctor} (hs : SFSmall f) : impl_SetFunctor_isSetFunctor f = some (sfB f) := by
  unfold impl_SetFunctor_isSetFunctor
  rw [implShapeF hs, some_bind']
  unfold sfB
  cases h : sfShapeB f with
  | false => rfl
  | true =>
    obtain ⟨y, h1, h2⟩ := implFaultF (sfShape_of h)
    rw [Bool.not_true, cond_false, h1, some_bind', h2]; rfl
theorem implAreF (l : List MSetFunctor) (hl : l.length ≤ 1048576) (hs : ∀ f ∈ l, SFSmall f) : impl_areSetFunctors l = some (l.all sfB) := by
  unfold impl_areSetFunctors
  refine (congrArg retM (for_anyb l (fun f => !sfB f) (fun i => (i : Int)) rfl ?_ ?_ (e := (l.length : Int)) (y := false) ?_)).trans ?_
  · intro i x hx hp
    have hi := getElem?_lt hx
    unfold impl_areSetFunctors_L0
    rw [decT (by omega), cond_true, idx_nat, hx, some_bind', implIsF (hs x (List.mem_of_getElem? hx)), some_bind', show (!sfB x) = false from hp, cond_false, w64_nat (by omega)]
  · intro i x hx hp
    have hi := getElem?_lt hx
    unfold impl_areSetFunctors_L0
    rw [decT (by omega), cond_true, idx_nat, hx, some_bind', implIsF (hs x (List.mem_of_getElem? hx)), some_bind', show (!sfB x) = true from hp, cond_true]
  · unfold impl_areSetFunctors_L0
    rw [decF (by omega), cond_false]
  · rw [any_not]
    cases l.all sfB <;> rfl
/-- are two set functors the same tables -/
def sameFB (f g : MSetFunctor) : Bool := sameB f.Shape g.Shape && (f.Sizes == g.Sizes && f.Actions == g.Actions)
theorem sameFB_eq {f g : MSetFunctor} : sameFB f g = true ↔ f = g := by
  unfold sameFB
  simp only [Bool.and_eq_true, beq_iff_eq, sameB_eq]
  constructor
  · rintro ⟨h1, h2, h3⟩
    cases f; cases g
    dsimp only at h1 h2 h3
    rw [h1, h2, h3]
  · rintro rfl; exact ⟨rfl, rfl, rfl⟩
theorem specSameF {f g : MSetFunctor} (h : SFSmall f) : spec_l19Same f g = some (sameFB f g) := by
  have h2 := h.s
  have h3 := h.k
  have e5 : spec_l01Same2 f.Actions g.Actions = some (f.Actions == g.Actions) := eqSS _ _ (by omega) (fun z hz => by have := h.r z hz; omega)
  unfold spec_l19Same sameFB
  rw [specSameCat h.c, some_bind', specSame _ _ (by omega), some_bind', e5, some_bind', cond_some, cond_and, cond_some, cond_and]; rfl
theorem implSameF {f g : MSetFunctor} (h : SFSmall f) : impl_sameSets f g = some (sameFB f g) := by
  have h2 := h.s
  have h3 := h.k
  unfold impl_sameSets sameFB
  rw [implSameCat h.c, some_bind', implSame _ _ (by omega), some_bind', cond_some, cond_or, cond_some, cond_or, some_bind']
  cases sameB f.Shape g.Shape with
  | false => rfl
  | true =>
    cases f.Sizes == g.Sizes with
    | false => rfl
    | true =>
      simp only [Bool.not_true, Bool.false_or, Bool.true_and]
      by_cases hl : f.Actions.length = g.Actions.length
      · rw [bneF (by omega), cond_false, zip_same hl]
        refine (congrArg retM (for_anyb (f.Actions.zip g.Actions) (fun z => !(z.1 == z.2)) (fun i => (i : Int)) rfl ?_ ?_ (e := ((f.Actions.zip g.Actions).length : Int)) (y := false) ?_)).trans ?_
        · intro i z hz hp
          obtain ⟨z1, z2⟩ := z
          obtain ⟨g1, g2⟩ := List.getElem?_zip_eq_some.1 hz
          have hi := getElem?_lt g1
          have := h.r _ (List.mem_of_getElem? g1)
          unfold impl_sameSets_L0
          rw [decT (by omega), cond_true, idx_nat, g1, some_bind', idx_nat, g2, some_bind', implSame _ _ (by omega), some_bind', show (!(z1 == z2)) = false from hp, cond_false, w64_nat (by omega)]
        · intro i z hz hp
          obtain ⟨z1, z2⟩ := z
          obtain ⟨g1, g2⟩ := List.getElem?_zip_eq_some.1 hz
          have hi := getElem?_lt g1
          have := h.r _ (List.mem_of_getElem? g1)
          unfold impl_sameSets_L0
          rw [decT (by omega), cond_true, idx_nat, g1, some_bind', idx_nat, g2, some_bind', implSame _ _ (by omega), some_bind', show (!(z1 == z2)) = true from hp, cond_true]
        · unfold impl_sameSets_L0
          rw [List.length_zip, decF (by omega), cond_false]
        · cases (f.Actions.zip g.Actions).any fun z => !(z.1 == z.2) <;> rfl
      · rw [bneT (by omega), cond_true, beq_len hl]; rfl
end Go.Proofs.YtdlhbbhdfnnmnaaGreat
