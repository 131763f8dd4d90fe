/- Set functors and natural maps between them: copies, equality, marks. No condition beside those that each theorem names. -/
import Derived.Test.YtbedkejmebepcaaGreatPk
import Derived.Test.YtbedkejmebepcaaGreatRa
namespace Go.Proofs.YtbedkejmebepcaaGreat
open Go Go.Li

theorem implClones {p : List (List Int)} (hk : p.length ≤ 1048576) (hr : ∀ y ∈ p, y.length ≤ 1048576) : impl_clones p = some p := by
  have h1 : ∀ l : List Int, l.length ≤ 1048576 → impl_clone l = some l := fun l hl => specOwn0 l hl
  unfold impl_clones
  rw [mk_ok (by omega) (by omega), some_bind']
  refine (congrArg retM (map_loop p.length (gr p) (fun acc i => (acc, (i : Int))) rfl ?_ ?_)).trans ?_
  · intro i acc hi ha
    show impl_clones_L0 p acc i = _
    unfold impl_clones_L0
    rw [decT (by omega), cond_true, idx_gr (by omega) (by omega), some_bind', h1 _ (hr _ (gr_mem (by omega) (by omega))), some_bind', fits_ok (by omega) (by omega), some_bind', w64_nat (by omega)]
  · intro acc ha
    show impl_clones_L0 p acc _ = _
    unfold impl_clones_L0
    rw [decF (by omega), cond_false]
  · show some (mapI p.length (gr p)) = _
    have := mapI_gl p (fun x => x)
    rw [List.map_id'] at this
    exact congrArg some this
structure SFSmall (f : MSetFunctor) : Prop where
  c : CatSmall f.Shape
  s : f.Sizes.length ≤ 1048576
  k : f.Actions.length ≤ 1048576
  r : ∀ y ∈ f.Actions, y.length ≤ 1048576
def sfCells (f : MSetFunctor) : Nat := f.Shape.From.length + f.Shape.To.length + f.Shape.Identity.length + s2 f.Shape.Composites + f.Sizes.length + s2 f.Actions
section
variable {c : MCategory} (H : Cat c)
include H
end
theorem s2_le (n : Nat) : ∀ {p : List (List Int)}, (∀ y ∈ p, y.length ≤ n) → s2 p ≤ p.length * n := by
  intro p
  rw [s2_eq]
  induction p with
  | nil => intro _; exact Nat.zero_le _
  | cons a l ih =>
    intro hl
    have := ih fun z hz => hl z (by simp [hz])
    have := hl a (by simp)
    rw [tot_cons, List.length_cons, Nat.succ_mul]; omega
end Go.Proofs.YtbedkejmebepcaaGreat
namespace Go.Proofs.YtbedkejmebepcaaGreat
open Go Go.Li

/-- are two categories the same tables -/
def sameB (c d : MCategory) : Bool := c.Objects == d.Objects && (c.From == d.From && (c.To == d.To && (c.Identity == d.Identity && c.Composites == d.Composites)))
theorem sameB_eq {c d : MCategory} : sameB c d = true ↔ c = d := by
  unfold sameB
  simp only [Bool.and_eq_true, beq_iff_eq]
  constructor
  · rintro ⟨h1, h2, h3, h4, h5⟩
    cases c; cases d
    dsimp only at h1 h2 h3 h4 h5
    rw [h1, h2, h3, h4, h5]
  · rintro rfl; exact ⟨rfl, rfl, rfl, rfl, rfl⟩
theorem zip_same : ∀ {x y : List (List Int)}, x.length = y.length → (x == y) = !((x.zip y).any fun z => !(z.1 == z.2)) := by
  intro x
  induction x with
  | nil => intro y h; cases y with
    | nil => rfl
    | cons b y => simp at h
  | cons a x ih =>
    intro y h
    cases y with
    | nil => simp at h
    | cons b y =>
      have h' : x.length = y.length := by simpa using h
      rw [List.zip_cons_cons, List.any_cons, Bool.not_or, Bool.not_not, ← ih h']; rfl
end Go.Proofs.YtbedkejmebepcaaGreat
namespace Go.Proofs.YtbedkejmebepcaaGreat
open Go Go.Li

/-- a loop over the numbers below n that stops where p holds -/
theorem forb {S R : Type} {body : Int → Option (Out Int R)} {k : Nat} {f : Int → Option (Out S R)} {n : Nat} (p : Int → Bool) {y : R}
    (h : ∀ i : Nat, i < n → body (i : Int) = bif p i then some (.ret y) else some (.norm ((i + 1 : Nat) : Int))) (last : body (n : Int) = some (.exit k (n : Int))) :
    lbind (blockM k (loopM body (0 : Int))) f = bif (ns n).any p then some (.ret y) else f n := by
  refine (for_anyb (ns n) p (fun i => (i : Int)) rfl ?_ ?_ (e := (n : Int)) (y := y) ?_).trans ?_
  · intro i x hx hp; obtain ⟨rfl, hi⟩ := ns_get hx; rw [h i hi, hp]; rfl
  · intro i x hx hp; obtain ⟨rfl, hi⟩ := ns_get hx; rw [h i hi, hp]; rfl
  · rw [ns_length]; exact last
  · cases (ns n).any p <;> rfl
/-- a loop over the numbers below n that returns, where p holds, something of which G holds -/
theorem forg {S R : Type} {body : Int → Option (Out Int R)} {k : Nat} {f : Int → Option (Out S R)} {n : Nat} (p : Int → Bool) (G : R → Prop)
    (h : ∀ i : Nat, i < n → (p i = false ∧ body (i : Int) = some (.norm ((i + 1 : Nat) : Int))) ∨ (p i = true ∧ ∃ y, body (i : Int) = some (.ret y) ∧ G y)) (last : body (n : Int) = some (.exit k (n : Int))) :
    ((ns n).any p = false ∧ lbind (blockM k (loopM body (0 : Int))) f = f n) ∨ ((ns n).any p = true ∧ ∃ y, lbind (blockM k (loopM body (0 : Int))) f = some (.ret y) ∧ G y) := by
  refine (for_anyg (ns n) p G (fun i => (i : Int)) rfl ?_ ?_ (e := (n : Int)) (by rw [ns_length]; exact last)).elim (fun h => .inr h) (fun h => .inl h)
  · intro i x hx hp
    obtain ⟨rfl, hi⟩ := ns_get hx
    rcases h i hi with ⟨_, h⟩ | ⟨h, _⟩
    · exact h
    · rw [hp] at h; cases h
  · intro i x hx hp
    obtain ⟨rfl, hi⟩ := ns_get hx
    rcases h i hi with ⟨h, _⟩ | ⟨_, h⟩
    · rw [hp] at h; cases h
    · exact h
theorem cond_some {α : Type} {b : Bool} {x y : α} : (bif b then some x else some y) = some (bif b then x else y) := by cases b <;> rfl
theorem cond_or {a b : Bool} : (bif a then true else b) = (a || b) := by cases a <;> rfl
theorem cond_and {a b : Bool} : (bif a then b else false) = (a && b) := by cases a <;> rfl
theorem ns_any_false {n : Nat} {p : Int → Bool} : (ns n).any p = false ↔ ∀ i : Int, 0 ≤ i → i < n → p i = false := by
  rw [List.any_eq_false]
  exact ⟨fun h i h0 h1 => by simpa using h i (ns_mem.2 ⟨h0, h1⟩), fun h i hi => by simp [h i (ns_mem.1 hi).1 (ns_mem.1 hi).2]⟩
theorem any_congr' {α : Type} {l : List α} {p q : α → Bool} (h : ∀ x ∈ l, p x = q x) : l.any p = l.any q := by
  induction l with
  | nil => rfl
  | cons a l ih => rw [List.any_cons, List.any_cons, h a (by simp), ih fun x hx => h x (by simp [hx])]

/-- l is a map of m elements into n -/
def mapB (l : List Int) (m n : Int) : Bool := ((l.length : Int) == m) && inS n l
theorem mapB_iff {l : List Int} {m n : Int} : mapB l m n = true ↔ (l.length : Int) = m ∧ ∀ y ∈ l, 0 ≤ y ∧ y < n := by
  unfold mapB; rw [Bool.and_eq_true, beq_iff_eq, inS_iff]
theorem implMapOf (l : List Int) (m n : Int) (hl : l.length ≤ 1048576000) (hn : 0 ≤ n) (hn2 : n ≤ 1048576000) : impl_isMapOf l m n = some (mapB l m n) := by
  unfold impl_isMapOf mapB
  rw [within l n hl hn hn2, some_bind', cond_some, cond_and]; rfl
theorem specMapOf (l : List Int) (m n : Int) (hl : l.length ≤ 1048576000) : (bif (l.length : Int) != m then some true else (spec_l01Map n l >>= fun y => some (!y))) = some (!mapB l m n) := by
  rw [specMap n l hl, some_bind', cond_some, cond_or]
  unfold mapB bne
  cases (l.length : Int) == m <;> simp

/-- the sizes of a set functor on a category -/
def sfHead (f : MSetFunctor) : Bool := catB f.Shape && (((f.Sizes.length : Int) == f.Shape.Objects) && (inS 17 f.Sizes && (f.Actions.length == f.Shape.From.length)))
def actB (f : MSetFunctor) (a : Int) : Bool := mapB (gr f.Actions a) (gi f.Sizes (gi f.Shape.From a)) (gi f.Sizes (gi f.Shape.To a))
def sfShapeB (f : MSetFunctor) : Bool := sfHead f && (ns f.Shape.From.length).all (actB f)
structure SFHead (f : MSetFunctor) : Prop where
  cat : Cat f.Shape
  sl : (f.Sizes.length : Int) = f.Shape.Objects
  s : ∀ x : Int, 0 ≤ x → x < f.Shape.Objects → 0 ≤ gi f.Sizes x ∧ gi f.Sizes x ≤ 16
  al : f.Actions.length = f.Shape.From.length
theorem sfHead_of {f : MSetFunctor} (h : sfHead f = true) : SFHead f := by
  unfold sfHead at h
  simp only [Bool.and_eq_true, beq_iff_eq, inS_iff] at h
  obtain ⟨h1, h2, h3, h4⟩ := h
  refine ⟨cat_of h1, h2, fun x h0 h1 => ?_, h4⟩
  have := h3 _ (gi_mem h0 (by omega))
  omega
namespace SFHead
variable {f : MSetFunctor} (H : SFHead f)
include H
theorem idxS {x : Int} (h0 : 0 ≤ x) (h1 : x < f.Shape.Objects) : idx f.Sizes x = some (gi f.Sizes x) := idx_gi h0 (by rw [H.sl]; exact h1)
theorem idxA {a : Int} (h0 : 0 ≤ a) (h1 : a < f.Shape.From.length) : idx f.Actions a = some (gr f.Actions a) := idx_gr h0 (by rw [H.al]; exact h1)
theorem memA {a : Int} (h0 : 0 ≤ a) (h1 : a < f.Shape.From.length) : gr f.Actions a ∈ f.Actions := gr_mem h0 (by rw [H.al]; exact h1)
end SFHead
structure SFShape (f : MSetFunctor) : Prop extends SFHead f where
  act : ∀ a : Int, 0 ≤ a → a < f.Shape.From.length → ((gr f.Actions a).length : Int) = gi f.Sizes (gi f.Shape.From a) ∧ ∀ y ∈ gr f.Actions a, 0 ≤ y ∧ y < gi f.Sizes (gi f.Shape.To a)
theorem sfShape_of {f : MSetFunctor} (h : sfShapeB f = true) : SFShape f := by
  unfold sfShapeB at h
  simp only [Bool.and_eq_true, List.all_eq_true] at h
  obtain ⟨h1, h2⟩ := h
  exact ⟨sfHead_of h1, fun a h0 h1 => mapB_iff.1 (h2 a (ns_mem.2 ⟨h0, h1⟩))⟩
theorem implShapeF {f : MSetFunctor} (hs : SFSmall f) : impl_SetFunctor_isShape f = some (sfShapeB f) := by
  have h2 := hs.s
  have h3 := hs.k
  unfold impl_SetFunctor_isShape sfShapeB sfHead impl_Category_arrows
  rw [implIs hs.c, some_bind']
  cases hc : catB f.Shape with
  | false => rfl
  | true =>
    rw [Bool.not_true, cond_false]
    have H := cat_of hc
    have ho := H.o8
    have hm := H.m
    cases e1 : ((f.Sizes.length : Int) == f.Shape.Objects) with
    | false => rw [show ((f.Sizes.length : Int) != f.Shape.Objects) = true by unfold bne; rw [e1]; rfl]; rfl
    | true =>
      rw [show ((f.Sizes.length : Int) != f.Shape.Objects) = false by unfold bne; rw [e1]; rfl, cond_false, within _ _ (by omega) (by omega) (by omega), some_bind']
      have e1' : (f.Sizes.length : Int) = f.Shape.Objects := by simpa using e1
      cases e4 : inS 17 f.Sizes with
      | false => rfl
      | true =>
        rw [Bool.not_true, cond_false]
        by_cases e2 : f.Actions.length = f.Shape.From.length
        · rw [beqT e2]
          have SH : SFHead f := sfHead_of (by unfold sfHead; rw [hc, e1, e4, beqT e2]; rfl)
          have hac : ∀ i : Nat, i < f.Actions.length → impl_SetFunctor_isShape_L0 f (i : Int) = bif !(actB f i) then some (.ret false) else some (.norm ((i + 1 : Nat) : Int)) := by
            intro i hi
            have hr := hs.r _ (SH.memA (a := (i : Int)) (by omega) (by omega))
            have hf := H.fr (f := (i : Int)) (by omega) (by omega)
            have ht := H.to (f := (i : Int)) (by omega) (by omega)
            have st := SH.s _ ht.1 ht.2
            unfold impl_SetFunctor_isShape_L0
            rw [decT (by omega), cond_true, SH.idxA (by omega) (by omega), some_bind', H.idxF (by omega) (by omega), some_bind', SH.idxS hf.1 hf.2, some_bind', H.idxT (by omega) (by omega), some_bind', SH.idxS ht.1 ht.2, some_bind', implMapOf _ _ _ (by omega) (by omega) (by omega), some_bind', w64_nat (by omega)]
            rfl
          show retM (bif ((f.Actions.length : Int) != (f.Shape.From.length : Int)) then _ else _) = _
          rw [bneF (by omega), cond_false]
          rw [forb (fun i => !(actB f i)) hac (by unfold impl_SetFunctor_isShape_L0; rw [decF (by omega), cond_false]), any_not, e2]
          cases (ns f.Shape.From.length).all (actB f) <;> rfl
        · rw [beqF e2]
          show retM (bif ((f.Actions.length : Int) != (f.Shape.From.length : Int)) then _ else _) = _
          rw [bneT (by omega), cond_true]
          simp only [Bool.and_false, Bool.false_and]
          rfl
end Go.Proofs.YtbedkejmebepcaaGreat
namespace Go.Proofs.YtbedkejmebepcaaGreat
open Go Go.Li

/-- what an identity does to an element; what a composite does -/
def idBad (f : MSetFunctor) (x : Int) : Bool := (ns (gi f.Sizes x).toNat).any fun e => gi (gr f.Actions (gi f.Shape.Identity x)) e != e
def cmpBad (f : MSetFunctor) (a b : Int) : Bool := (gi f.Shape.To a == gi f.Shape.From b) && (ns (gi f.Sizes (gi f.Shape.From a)).toNat).any fun e => gi (gr f.Actions (gk f.Shape.Composites a b)) e != gi (gr f.Actions b) (gi (gr f.Actions a) e)
def sfLawB (f : MSetFunctor) : Bool := !((ns f.Shape.Objects.toNat).any (idBad f)) && !((ns f.Shape.From.length).any fun a => (ns f.Shape.From.length).any (cmpBad f a))
namespace SFShape
variable {f : MSetFunctor} (H : SFShape f)
include H
theorem row {a : Int} (h0 : 0 ≤ a) (h1 : a < f.Shape.From.length) : (gr f.Actions a).length = (gi f.Sizes (gi f.Shape.From a)).toNat := by
  have := (H.act a h0 h1).1
  have hf := H.cat.fr h0 h1
  have := H.s _ hf.1 hf.2
  omega
theorem at_ {a e : Int} (h0 : 0 ≤ a) (h1 : a < f.Shape.From.length) (e0 : 0 ≤ e) (e1 : e < gi f.Sizes (gi f.Shape.From a)) : idx (gr f.Actions a) e = some (gi (gr f.Actions a) e) := idx_gi e0 (by rw [(H.act a h0 h1).1]; exact e1)
theorem img {a e : Int} (h0 : 0 ≤ a) (h1 : a < f.Shape.From.length) (e0 : 0 ≤ e) (e1 : e < gi f.Sizes (gi f.Shape.From a)) : 0 ≤ gi (gr f.Actions a) e ∧ gi (gr f.Actions a) e < gi f.Sizes (gi f.Shape.To a) :=
  (H.act a h0 h1).2 _ (gi_mem e0 (by rw [(H.act a h0 h1).1]; exact e1))
end SFShape
theorem faultF {f : MSetFunctor} {k1 k2 k3 k4 k5 : Nat} {A0 : Int → Option (Out Int (Int × Int × Int × Int))} {A1 : Int → Int → Option (Out Int (Int × Int × Int × Int))} {B0 : Int → Option (Out Int (Int × Int × Int × Int))} {B1 : Int → Int → Option (Out Int (Int × Int × Int × Int))} {B2 : Int → Int → Int → Option (Out Int (Int × Int × Int × Int))} {n m : Nat} {z : Int × Int × Int × Int} (hz : z.1 = 0) (hn : n = f.Shape.Objects.toNat) (hm : m = f.Shape.From.length)
    (a1 : ∀ x e : Nat, x < n → e < (gi f.Sizes x).toNat → ∃ y : Int × Int × Int × Int, y.1 ≠ 0 ∧ A1 x e = bif gi (gr f.Actions (gi f.Shape.Identity x)) e != (e : Int) then some (.ret y) else some (.norm ((e + 1 : Nat) : Int)))
    (a2 : ∀ x : Nat, x < n → A1 x ((gi f.Sizes x).toNat : Int) = some (.exit k2 ((gi f.Sizes x).toNat : Int)))
    (a0 : ∀ x : Nat, x < n → A0 x = lbind (blockM k2 (loopM (A1 x) (0 : Int))) fun _ => some (.norm ((x + 1 : Nat) : Int)))
    (a3 : A0 n = some (.exit k1 (n : Int)))
    (b2 : ∀ a b e : Nat, a < m → b < m → gi f.Shape.To a = gi f.Shape.From b → e < (gi f.Sizes (gi f.Shape.From a)).toNat → ∃ y : Int × Int × Int × Int, y.1 ≠ 0 ∧ B2 a b e = bif gi (gr f.Actions (gk f.Shape.Composites a b)) e != gi (gr f.Actions b) (gi (gr f.Actions a) e) then some (.ret y) else some (.norm ((e + 1 : Nat) : Int)))
    (b3 : ∀ a b : Nat, a < m → b < m → B2 a b ((gi f.Sizes (gi f.Shape.From a)).toNat : Int) = some (.exit k5 ((gi f.Sizes (gi f.Shape.From a)).toNat : Int)))
    (b1 : ∀ a b : Nat, a < m → b < m → B1 a b = bif gi f.Shape.To a == gi f.Shape.From b then lbind (blockM k5 (loopM (B2 a b) (0 : Int))) (fun _ => some (.norm ((b + 1 : Nat) : Int))) else some (.norm ((b + 1 : Nat) : Int)))
    (b4 : ∀ a : Nat, a < m → B1 a m = some (.exit k4 (m : Int)))
    (b0 : ∀ a : Nat, a < m → B0 a = lbind (blockM k4 (loopM (B1 a) (0 : Int))) fun _ => some (.norm ((a + 1 : Nat) : Int)))
    (b5 : B0 m = some (.exit k3 (m : Int))) :
    ∃ y, retM (S := Unit) (lbind (blockM k1 (loopM A0 (0 : Int))) fun _ => lbind (blockM k3 (loopM B0 (0 : Int))) fun _ => some (.ret z)) = some y ∧ (y.1 == 0) = sfLawB f := by
  have hA : ∀ x : Nat, x < n → (idBad f x = false ∧ A0 x = some (.norm ((x + 1 : Nat) : Int))) ∨ (idBad f x = true ∧ ∃ y, A0 x = some (.ret y) ∧ y.1 ≠ 0) := by
    intro x hx
    rw [a0 x hx]
    refine forg (n := (gi f.Sizes x).toNat) (fun e => gi (gr f.Actions (gi f.Shape.Identity x)) e != e) (fun y : Int × Int × Int × Int => y.1 ≠ 0) ?_ (a2 x hx)
    intro e he
    obtain ⟨y, hy, h⟩ := a1 x e hx he
    rw [h]
    cases gi (gr f.Actions (gi f.Shape.Identity x)) e != (e : Int) with
    | true => exact .inr ⟨rfl, y, rfl, hy⟩
    | false => exact .inl ⟨rfl, rfl⟩
  have hB1 : ∀ a b : Nat, a < m → b < m → (cmpBad f a b = false ∧ B1 a b = some (.norm ((b + 1 : Nat) : Int))) ∨ (cmpBad f a b = true ∧ ∃ y, B1 a b = some (.ret y) ∧ y.1 ≠ 0) := by
    intro a b ha hb
    rw [b1 a b ha hb]
    unfold cmpBad
    cases hc : gi f.Shape.To a == gi f.Shape.From b with
    | false => exact .inl ⟨rfl, rfl⟩
    | true =>
      rw [Bool.true_and, cond_true]
      refine forg (n := (gi f.Sizes (gi f.Shape.From a)).toNat) (fun e => gi (gr f.Actions (gk f.Shape.Composites a b)) e != gi (gr f.Actions b) (gi (gr f.Actions a) e)) (fun y : Int × Int × Int × Int => y.1 ≠ 0) ?_ (b3 a b ha hb)
      intro e he
      obtain ⟨y, hy, h⟩ := b2 a b e ha hb (by simpa using hc) he
      rw [h]
      cases gi (gr f.Actions (gk f.Shape.Composites a b)) e != gi (gr f.Actions b) (gi (gr f.Actions a) e) with
      | true => exact .inr ⟨rfl, y, rfl, hy⟩
      | false => exact .inl ⟨rfl, rfl⟩
  have hB : ∀ a : Nat, a < m → ((ns m).any (cmpBad f a) = false ∧ B0 a = some (.norm ((a + 1 : Nat) : Int))) ∨ ((ns m).any (cmpBad f a) = true ∧ ∃ y, B0 a = some (.ret y) ∧ y.1 ≠ 0) := by
    intro a ha
    rw [b0 a ha]
    exact forg (n := m) (cmpBad f a) (fun y : Int × Int × Int × Int => y.1 ≠ 0) (fun b hb => hB1 a b ha hb) (b4 a ha)
  unfold sfLawB
  rw [← hn, ← hm]
  rcases forg (S := Unit) (f := fun _ => lbind (blockM k3 (loopM B0 (0 : Int))) fun _ => some (.ret z)) (n := n) (idBad f) (fun y : Int × Int × Int × Int => y.1 ≠ 0) hA a3 with ⟨h1, h2⟩ | ⟨h1, y, h2, h3⟩
  · rw [h1, h2]
    rcases forg (S := Unit) (f := fun _ => some (.ret z)) (n := m) (fun a => (ns m).any (cmpBad f a)) (fun y : Int × Int × Int × Int => y.1 ≠ 0) hB b5 with ⟨g1, g2⟩ | ⟨g1, y, g2, g3⟩
    · rw [g1, g2]
      exact ⟨z, rfl, by rw [hz]; rfl⟩
    · rw [g1, g2]
      exact ⟨y, rfl, by simpa using g3⟩
  · rw [h1, h2]
    exact ⟨y, rfl, by simpa using h3⟩
theorem implFaultF {f : MSetFunctor} (H : SFShape f) : ∃ y, impl_SetFunctor_fault f = some y ∧ (y.1 == 0) = sfLawB f := by
  have hm := H.cat.m
  have o0 := H.cat.o0
  have o8 := H.cat.o8
  have hl := H.sl
  have hA := H.al
  have il := H.cat.il
  have kl := H.cat.kl
  unfold impl_SetFunctor_fault
  refine faultF (k2 := 2) (k4 := 6) (k5 := 8) (A1 := fun x => impl_SetFunctor_fault_L1 x (gr f.Actions (gi f.Shape.Identity x))) (B1 := fun a => impl_SetFunctor_fault_L3 f a (gr f.Shape.Composites a)) (B2 := fun a b => impl_SetFunctor_fault_L4 f a b (gk f.Shape.Composites a b) (gr f.Actions a)) (n := f.Shape.Objects.toNat) (m := f.Shape.From.length) rfl rfl rfl ?_ ?_ ?_ ?_ ?_ ?_ ?_ ?_ ?_ ?_
  · intro x e hx he
    have hi := H.cat.id (x := (x : Int)) (by omega) (by omega)
    have hs := H.s (x : Int) (by omega) (by omega)
    have hf := H.cat.idf (x : Int) (by omega) (by omega)
    have hr := H.row hi.1 hi.2
    rw [hf] at hr
    refine ⟨(1, x, e, 0), (by decide : (1 : Int) ≠ 0), ?_⟩
    show impl_SetFunctor_fault_L1 x (gr f.Actions (gi f.Shape.Identity x)) e = _
    unfold impl_SetFunctor_fault_L1
    rw [decT (by omega), cond_true, H.at_ hi.1 hi.2 (by omega) (by rw [hf]; omega), some_bind', w64_nat (by omega)]
  · intro x hx
    have hi := H.cat.id (x := (x : Int)) (by omega) (by omega)
    have hf := H.cat.idf (x : Int) (by omega) (by omega)
    have hr := H.row hi.1 hi.2
    rw [hf] at hr
    show impl_SetFunctor_fault_L1 x (gr f.Actions (gi f.Shape.Identity x)) _ = _
    unfold impl_SetFunctor_fault_L1
    rw [decF (by omega), cond_false]
  · intro x hx
    have hi := H.cat.id (x := (x : Int)) (by omega) (by omega)
    unfold impl_SetFunctor_fault_L0
    rw [decT (by omega), cond_true, H.cat.idxI (by omega) (by omega), some_bind', H.idxA hi.1 hi.2, some_bind', w64_nat (by omega)]
  · unfold impl_SetFunctor_fault_L0
    rw [decF (by omega), cond_false]
  · intro a b e ha hb hab he
    have hf := H.cat.fr (f := (a : Int)) (by omega) (by omega)
    have hs := H.s _ hf.1 hf.2
    have hc := H.cat.cell (a : Int) (b : Int) (by omega) (by omega) (by omega) (by omega) hab
    have hi := H.img (a := (a : Int)) (e := (e : Int)) (by omega) (by omega) (by omega) (by omega)
    have hr := H.row (a := (a : Int)) (by omega) (by omega)
    refine ⟨(2, a, b, e), (by decide : (2 : Int) ≠ 0), ?_⟩
    show impl_SetFunctor_fault_L4 f a b (gk f.Shape.Composites a b) (gr f.Actions a) e = _
    unfold impl_SetFunctor_fault_L4
    rw [decT (by omega), cond_true, H.at_ (by omega) (by omega) (by omega) (by omega), some_bind', H.idxA hc.1 hc.2.1, some_bind', H.at_ hc.1 hc.2.1 (by omega) (by rw [hc.2.2.1]; omega), some_bind', H.idxA (by omega) (by omega), some_bind',
      H.at_ (by omega) (by omega) hi.1 (by rw [← hab]; exact hi.2), some_bind', w64_nat (by omega)]
  · intro a b ha hb
    have hr := H.row (a := (a : Int)) (by omega) (by omega)
    show impl_SetFunctor_fault_L4 f a b (gk f.Shape.Composites a b) (gr f.Actions a) _ = _
    unfold impl_SetFunctor_fault_L4
    rw [decF (by omega), cond_false]
  · intro a b ha hb
    have hrow := H.cat.row (a : Int) (by omega) (by omega)
    show impl_SetFunctor_fault_L3 f a (gr f.Shape.Composites a) b = _
    unfold impl_SetFunctor_fault_L3
    rw [decT (by omega), cond_true, H.cat.idxC (by omega) (by omega) (by omega) (by omega), some_bind', w64_nat (by omega)]
    by_cases he : gi f.Shape.To a = gi f.Shape.From b
    · have hc := H.cat.cell (a : Int) (b : Int) (by omega) (by omega) (by omega) (by omega) he
      rw [decF (by omega), cond_false, H.idxA (by omega) (by omega), some_bind', beqT he, cond_true]
    · have hc := H.cat.none (a : Int) (b : Int) (by omega) (by omega) (by omega) (by omega) he
      rw [decT (by omega), cond_true, beqF he, cond_false]
  · intro a ha
    have hrow := H.cat.row (a : Int) (by omega) (by omega)
    show impl_SetFunctor_fault_L3 f a (gr f.Shape.Composites a) _ = _
    unfold impl_SetFunctor_fault_L3
    rw [decF (by omega), cond_false]
  · intro a ha
    unfold impl_SetFunctor_fault_L2
    rw [decT (by omega), cond_true, H.cat.idxK (by omega) (by omega), some_bind', w64_nat (by omega)]
  · unfold impl_SetFunctor_fault_L2
    rw [decF (by omega), cond_false]
/-- is it a set functor -/
def sfB (f : MSetFunctor) : Bool := sfShapeB f && sfLawB f
structure SF (f : MSetFunctor) : Prop extends SFShape f where
  one : ∀ x e : Int, 0 ≤ x → x < f.Shape.Objects → 0 ≤ e → e < gi f.Sizes x → gi (gr f.Actions (gi f.Shape.Identity x)) e = e
  comp : ∀ a b e : Int, 0 ≤ a → a < f.Shape.From.length → 0 ≤ b → b < f.Shape.From.length → gi f.Shape.To a = gi f.Shape.From b → 0 ≤ e → e < gi f.Sizes (gi f.Shape.From a) → gi (gr f.Actions (gk f.Shape.Composites a b)) e = gi (gr f.Actions b) (gi (gr f.Actions a) e)
theorem sf_of {f : MSetFunctor} (h : sfB f = true) : SF f := by
  unfold sfB at h
  rw [Bool.and_eq_true] at h
  obtain ⟨h1, h2⟩ := h
  have S := sfShape_of h1
  have o8 := S.cat.o8
  unfold sfLawB at h2
  rw [Bool.and_eq_true, Bool.not_eq_true', Bool.not_eq_true', ns_any_false, ns_any_false] at h2
  refine ⟨S, fun x e x0 x1 e0 e1 => ?_, fun a b e a0 a1 b0 b1 hab e0 e1 => ?_⟩
  · have := h2.1 x x0 (by omega)
    unfold idBad at this
    rw [ns_any_false] at this
    have := this e e0 (by omega)
    simpa using this
  · have := h2.2 a a0 a1
    rw [ns_any_false] at this
    have := this b b0 b1
    unfold cmpBad at this
    rw [beqT hab, Bool.true_and, ns_any_false] at this
    have := this e e0 (by omega)
    simpa using this
theorem implIsF {f : MSetFunctor} (hs : SFSmall f) : impl_SetFunctor_isSetFunctor f = some (sfB f) := by
  unfold impl_SetFunctor_isSetFunctor
  rw [implShapeF hs, some_bind']
  unfold sfB
  cases h : sfShapeB f with
  | false => rfl
  | true =>
    obtain ⟨y, h1, h2⟩ := implFaultF (sfShape_of h)
    rw [Bool.not_true, cond_false, h1, some_bind', h2]; rfl
/-- are two set functors the same tables -/
def sameFB (f g : MSetFunctor) : Bool := sameB f.Shape g.Shape && (f.Sizes == g.Sizes && f.Actions == g.Actions)
theorem sameFB_eq {f g : MSetFunctor} : sameFB f g = true ↔ f = g := by
  unfold sameFB
  simp only [Bool.and_eq_true, beq_iff_eq, sameB_eq]
  constructor
  · rintro ⟨h1, h2, h3⟩
    cases f; cases g
    dsimp only at h1 h2 h3
    rw [h1, h2, h3]
  · rintro rfl; exact ⟨rfl, rfl, rfl⟩
end Go.Proofs.YtbedkejmebepcaaGreat
namespace Go.Proofs.YtbedkejmebepcaaGreat
open Go Go.Li

namespace SMShape
end SMShape
/-- lengths that a law's arguments have -/
structure SFLens (f : MSetFunctor) : Prop where
  c : CatLens f.Shape
  s : f.Sizes.length ≤ 9223372036854775807
  k : f.Actions.length ≤ 9223372036854775807
  r : ∀ y ∈ f.Actions, y.length ≤ 9223372036854775807
def sfSize (f : MSetFunctor) : Nat := catSize f.Shape + f.Sizes.length + (f.Actions.length + tot f.Actions)
theorem sfSmall_of {f : MSetFunctor} (h : sfSize f ≤ 1048576) : SFSmall f := by
  unfold sfSize at h
  exact ⟨catSmall_of (by omega), by omega, by omega, fun y hy => by have := tot_row hy; omega⟩
end Go.Proofs.YtbedkejmebepcaaGreat
