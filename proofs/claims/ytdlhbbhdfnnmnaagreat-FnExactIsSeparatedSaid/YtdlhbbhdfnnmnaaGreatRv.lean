/- Set functors and natural maps: what the reference's and the program's looks at them give. No condition beside those that each theorem names. -/
import Derived.Test.YtdlhbbhdfnnmnaaGreatRu
import Derived.Test.YtdlhbbhdfnnmnaaGreatRa
import Derived.Test.YtdlhbbhdfnnmnaaGreatRn
namespace Go.Proofs.YtdlhbbhdfnnmnaaGreat
open Go Go.Li

/-- a loop over the numbers below n that stops where p holds -/
theorem forb {S R : Type} {body : Int → Option (Out Int R)} {k : Nat} {f : Int → Option (Out S R)} {n : Nat} (p : Int → Bool) {y : R}
    (h : ∀ i : Nat, i < n → body (i : Int) = bif p i then some (.ret y) else some (.norm ((i + 1 : Nat) : Int))) (last : body (n : Int) = some (.exit k (n : Int))) :
    lbind (blockM k (loopM body (0 : Int))) f = bif (ns n).any p then some (.ret y) else f n := by
  refine (for_anyb (ns n) p (fun i => (i : Int)) rfl ?_ ?_ (e := (n : Int)) (y := y) ?_).trans ?_
  · intro i x hx hp; obtain ⟨rfl, hi⟩ := ns_get hx; rw [h i hi, hp]; rfl
  · intro i x hx hp; obtain ⟨rfl, hi⟩ := ns_get hx; rw [h i hi, hp]; rfl
  · rw [ns_length]; exact last
  · cases (ns n).any p <;> rfl
/-- a loop over the numbers below n that returns, where p holds, something of which G holds -/
theorem forg {S R : Type} {body : Int → Option (Out Int R)} {k : Nat} {f : Int → Option (Out S R)} {n : Nat} (p : Int → Bool) (G : R → Prop)
    (h : ∀ i : Nat, i < n → (p i = false ∧ body (i : Int) = some (.norm ((i + 1 : Nat) : Int))) ∨ (p i = true ∧ ∃ y, body (i : Int) = some (.ret y) ∧ G y)) (last : body (n : Int) = some (.exit k (n : Int))) :
    ((ns n).any p = false ∧ lbind (blockM k (loopM body (0 : Int))) f = f n) ∨ ((ns n).any p = true ∧ ∃ y, lbind (blockM k (loopM body (0 : Int))) f = some (.ret y) ∧ G y) := by
  refine (for_anyg (ns n) p G (fun i => (i : Int)) rfl ?_ ?_ (e := (n : Int)) (by rw [ns_length]; exact last)).elim (fun h => .inr h) (fun h => .inl h)
  · intro i x hx hp
    obtain ⟨rfl, hi⟩ := ns_get hx
    rcases h i hi with ⟨_, h⟩ | ⟨h, _⟩
    · exact h
    · rw [hp] at h; cases h
  · intro i x hx hp
    obtain ⟨rfl, hi⟩ := ns_get hx
    rcases h i hi with ⟨h, _⟩ | ⟨_, h⟩
    · rw [hp] at h; cases h
    · exact h
theorem cond_some {α : Type} {b : Bool} {x y : α} : (bif b then some x else some y) = some (bif b then x else y) := by cases b <;> rfl
theorem cond_or {a b : Bool} : (bif a then true else b) = (a || b) := by cases a <;> rfl
theorem cond_and {a b : Bool} : (bif a then b else false) = (a && b) := by cases a <;> rfl
theorem ns_any_false {n : Nat} {p : Int → Bool} : (ns n).any p = false ↔ ∀ i : Int, 0 ≤ i → i < n → p i = false := by
  rw [List.any_eq_false]
  exact ⟨fun h i h0 h1 => by simpa using h i (ns_mem.2 ⟨h0, h1⟩), fun h i hi => by simp [h i (ns_mem.1 hi).1 (ns_mem.1 hi).2]⟩
theorem any_congr' {α : Type} {l : List α} {p q : α → Bool} (h : ∀ x ∈ l, p x = q x) : l.any p = l.any q := by
  induction l with
  | nil => rfl
  | cons a l ih => rw [List.any_cons, List.any_cons, h a (by simp), ih fun x hx => h x (by simp [hx])]

/-- l is a map of m elements into n -/
def mapB (l : List Int) (m n : Int) : Bool := ((l.length : Int) == m) && inS n l
theorem mapB_iff {l : List Int} {m n : Int} : mapB l m n = true ↔ (l.length : Int) = m ∧ ∀ y ∈ l, 0 ≤ y ∧ y < n := by
  unfold mapB; rw [Bool.and_eq_true, beq_iff_eq, inS_iff]
theorem implMapOf (l : List Int) (m n : Int) (hl : l.length ≤ 1048576000) (hn : 0 ≤ n) (hn2 : n ≤ 1048576000) : impl_isMapOf l m n = some (mapB l m n) := by
  unfold impl_isMapOf mapB
  rw [within l n hl hn hn2, some_bind', cond_some, cond_and]; rfl
theorem specMapOf (l : List Int) (m n : Int) (hl : l.length ≤ 1048576000) : (bif (l.length : Int) != m then some true else (spec_l01Map n l >>= fun y => some (!y))) = some (!mapB l m n) := by
  rw [specMap n l hl, some_bind', cond_some, cond_or]
  unfold mapB bne
  cases (l.length : Int) == m <;> simp

/-- the sizes of a set functor on a category -/
def sfHead (f : MSetFunctor) : Bool := catB f.Shape && (((f.Sizes.length : Int) == f.Shape.Objects) && (inS 17 f.Sizes && (f.Actions.length == f.Shape.From.length)))
def actB (f : MSetFunctor) (a : Int) : Bool := mapB (gr f.Actions a) (gi f.Sizes (gi f.Shape.From a)) (gi f.Sizes (gi f.Shape.To a))
def sfShapeB (f : MSetFunctor) : Bool := sfHead f && (ns f.Shape.From.length).all (actB f)
structure SFHead (f : MSetFunctor) : Prop where
  cat : Cat f.Shape
  sl : (f.Sizes.length : Int) = f.Shape.Objects
  s : ∀ x : Int, 0 ≤ x → x < f.Shape.Objects → 0 ≤ gi f.Sizes x ∧ gi f.Sizes x ≤ 16
  al : f.Actions.length = f.Shape.From.length
theorem sfHead_of {f : MSetFunctor} (h : sfHead f = true) : SFHead f := by
  unfold sfHead at h
  simp only [Bool.and_eq_true, beq_iff_eq, inS_iff] at h
  obtain ⟨h1, h2, h3, h4⟩ := h
  refine ⟨cat_of h1, h2, fun x h0 h1 => ?_, h4⟩
  have := h3 _ (gi_mem h0 (by omega))
  omega
namespace SFHead
variable {f : MSetFunctor} (H : SFHead f)
include H
theorem idxS {x : Int} (h0 : 0 ≤ x) (h1 : x < f.Shape.Objects) : idx f.Sizes x = some (gi f.Sizes x) := idx_gi h0 (by rw [H.sl]; exact h1)
theorem idxA {a : Int} (h0 : 0 ≤ a) (h1 : a < f.Shape.From.length) : idx f.Actions a = some (gr f.Actions a) := idx_gr h0 (by rw [H.al]; exact h1)
theorem memA {a : Int} (h0 : 0 ≤ a) (h1 : a < f.Shape.From.length) : gr f.Actions a ∈ f.Actions := gr_mem h0 (by rw [H.al]; exact h1)
end SFHead
structure SFShape (f : MSetFunctor) : Prop extends SFHead f where
  act : ∀ a : Int, 0 ≤ a → a < f.Shape.From.length → ((gr f.Actions a).length : Int) = gi f.Sizes (gi f.Shape.From a) ∧ ∀ y ∈ gr f.Actions a, 0 ≤ y ∧ y < gi f.Sizes (gi f.Shape.To a)
theorem sfShape_of {f : MSetFunctor} (h : sfShapeB f = true) : SFShape f := by
  unfold sfShapeB at h
  simp only [Bool.and_eq_true, List.all_eq_true] at h
  obtain ⟨h1, h2⟩ := h
  exact ⟨sfHead_of h1, fun a h0 h1 => mapB_iff.1 (h2 a (ns_mem.2 ⟨h0, h1⟩))⟩
theorem specShapeF {f : MSetFunctor} (hs : SFSmall f) : spec_l19Shape f = some (sfShapeB f) := by
  have h2 := hs.s
  have h3 := hs.k
  unfold spec_l19Shape sfShapeB sfHead
  rw [specIs hs.c, some_bind']
  cases hc : catB f.Shape with
  | false => rfl
  | true =>
    rw [Bool.not_true, cond_false, cond_some, some_bind', cond_or]
    have H := cat_of hc
    have ho := H.o8
    have hm := H.m
    cases e1 : ((f.Sizes.length : Int) == f.Shape.Objects) with
    | false => rw [show ((f.Sizes.length : Int) != f.Shape.Objects) = true by unfold bne; rw [e1]; rfl]; rfl
    | true =>
      rw [show ((f.Sizes.length : Int) != f.Shape.Objects) = false by unfold bne; rw [e1]; rfl, Bool.false_or]
      have e1' : (f.Sizes.length : Int) = f.Shape.Objects := by simpa using e1
      by_cases e2 : f.Actions.length = f.Shape.From.length
      · rw [bneF (by omega), cond_false, beqT e2]
        have hsz : ∀ i : Nat, i < f.Sizes.length → spec_l19Shape_L0 f (i : Int) = bif !(decide (0 ≤ gi f.Sizes i) && decide (gi f.Sizes i ≤ 16)) then some (.ret false) else some (.norm ((i + 1 : Nat) : Int)) := by
          intro i hi
          unfold spec_l19Shape_L0
          rw [decT (by omega), cond_true, idx_gi (by omega) (by omega), some_bind', specIn, some_bind', w64_nat (by omega)]
        rw [forb (fun i => !(decide (0 ≤ gi f.Sizes i) && decide (gi f.Sizes i ≤ 16))) hsz (by unfold spec_l19Shape_L0; rw [decF (by omega), cond_false])]
        have e3 : ((ns f.Sizes.length).any fun i => !(decide (0 ≤ gi f.Sizes i) && decide (gi f.Sizes i ≤ 16))) = !inS 17 f.Sizes := by
          rw [any_not]
          congr 1
          rw [Bool.eq_iff_iff, inS_iff, List.all_eq_true]
          constructor
          · intro h y hy
            obtain ⟨i, hi, rfl⟩ := List.getElem_of_mem hy
            have := h (i : Int) (ns_mem.2 ⟨by omega, by omega⟩)
            simp only [Bool.and_eq_true, decide_eq_true_eq] at this
            have e : gi f.Sizes (i : Int) = f.Sizes[i] := by
              have := idx_gi (l := f.Sizes) (j := (i : Int)) (by omega) (by omega)
              rw [idx_nat, List.getElem?_eq_getElem hi] at this
              exact (Option.some.inj this).symm
            rw [← e]; omega
          · intro h i hi
            obtain ⟨a, b⟩ := ns_mem.1 hi
            have := h _ (gi_mem a (by omega))
            simp only [Bool.and_eq_true, decide_eq_true_eq]; omega
        rw [e3]
        cases e4 : inS 17 f.Sizes with
        | false => rfl
        | true =>
          have SH : SFHead f := sfHead_of (by unfold sfHead; rw [hc, e1, e4, beqT e2]; rfl)
          rw [Bool.not_true, cond_false]
          have hac : ∀ i : Nat, i < f.Actions.length → spec_l19Shape_L1 f (i : Int) = bif !(actB f i) then some (.ret false) else some (.norm ((i + 1 : Nat) : Int)) := by
            intro i hi
            have hr := hs.r _ (SH.memA (a := (i : Int)) (by omega) (by omega))
            have hf := H.fr (f := (i : Int)) (by omega) (by omega)
            have ht := H.to (f := (i : Int)) (by omega) (by omega)
            unfold spec_l19Shape_L1
            rw [decT (by omega), cond_true, SH.idxA (by omega) (by omega), some_bind', H.idxF (by omega) (by omega), some_bind', SH.idxS hf.1 hf.2, some_bind', H.idxT (by omega) (by omega), some_bind', SH.idxS ht.1 ht.2, some_bind', some_bind', specMapOf _ _ _ (by omega), some_bind', w64_nat (by omega)]
            rfl
          rw [forb (fun i => !(actB f i)) hac (by unfold spec_l19Shape_L1; rw [decF (by omega), cond_false]), any_not, e2]
          cases (ns f.Shape.From.length).all (actB f) <;> rfl
      · rw [bneT (by omega), cond_true, beqF e2]
        simp only [Bool.and_false, Bool.false_and]
        rfl
theorem implShapeF {f : MSetFunctor} (hs : SFSmall f) : impl_SetFunctor_isShape f = some (sfShapeB f) := by
  have h2 := hs.s
  have h3 := hs.k
  unfold impl_SetFunctor_isShape sfShapeB sfHead impl_Category_arrows
  rw [implIs hs.c, some_bind']
  cases hc : catB f.Shape with
  | false => rfl
  | true =>
    rw [Bool.not_true, cond_false]
    have H := cat_of hc
    have ho := H.o8
    have hm := H.m
    cases e1 : ((f.Sizes.length : Int) == f.Shape.Objects) with
    | false => rw [show ((f.Sizes.length : Int) != f.Shape.Objects) = true by unfold bne; rw [e1]; rfl]; rfl
    | true =>
      rw [show ((f.Sizes.length : Int) != f.Shape.Objects) = false by unfold bne; rw [e1]; rfl, cond_false, within _ _ (by omega) (by omega) (by omega), some_bind']
      have e1' : (f.Sizes.length : Int) = f.Shape.Objects := by simpa using e1
      cases e4 : inS 17 f.Sizes with
      | false => rfl
      | true =>
        rw [Bool.not_true, cond_false]
        by_cases e2 : f.Actions.length = f.Shape.From.length
        · rw [beqT e2]
          have SH : SFHead f := sfHead_of (by unfold sfHead; rw [hc, e1, e4, beqT e2]; rfl)
          have hac : ∀ i : Nat, i < f.Actions.length → impl_SetFunctor_isShape_L0 f (i : Int) = bif !(actB f i) then some (.ret false) else some (.norm ((i + 1 : Nat) : Int)) := by
            intro i hi
            have hr := hs.r _ (SH.memA (a := (i : Int)) (by omega) (by omega))
            have hf := H.fr (f := (i : Int)) (by omega) (by omega)
            have ht := H.to (f := (i : Int)) (by omega) (by omega)
            have st := SH.s _ ht.1 ht.2
            unfold impl_SetFunctor_isShape_L0
            rw [decT (by omega), cond_true, SH.idxA (by omega) (by omega), some_bind', H.idxF (by omega) (by omega), some_bind', SH.idxS hf.1 hf.2, some_bind', H.idxT (by omega) (by omega), some_bind', SH.idxS ht.1 ht.2, some_bind', implMapOf _ _ _ (by omega) (by omega) (by omega), some_bind', w64_nat (by omega)]
            rfl
          show retM (bif ((f.Actions.length : Int) != (f.Shape.From.length : Int)) then _ else _) = _
          rw [bneF (by omega), cond_false]
          rw [forb (fun i => !(actB f i)) hac (by unfold impl_SetFunctor_isShape_L0; rw [decF (by omega), cond_false]), any_not, e2]
          cases (ns f.Shape.From.length).all (actB f) <;> rfl
        · rw [beqF e2]
          show retM (bif ((f.Actions.length : Int) != (f.Shape.From.length : Int)) then _ else _) = _
          rw [bneT (by omega), cond_true]
          simp only [Bool.and_false, Bool.false_and]
          rfl
end Go.Proofs.YtdlhbbhdfnnmnaaGreat
