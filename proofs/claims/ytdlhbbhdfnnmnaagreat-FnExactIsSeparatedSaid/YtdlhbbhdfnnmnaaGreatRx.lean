/- Natural maps between set functors: what the reference's and the program's looks at them give; the law's own words on set functors and natural maps. No condition beside those that each theorem names. -/
import Derived.Test.YtdlhbbhdfnnmnaaGreatRw
import Derived.Test.YtdlhbbhdfnnmnaaGreatRi
namespace Go.Proofs.YtdlhbbhdfnnmnaaGreat
open Go Go.Li

def fitB (m : MSetMap) (x : Int) : Bool := mapB (gr m.Parts x) (gi m.Source.Sizes x) (gi m.Target.Sizes x)
def fitsB (m : MSetMap) : Bool := (m.Parts.length == m.Source.Sizes.length) && (ns m.Parts.length).all (fitB m)
def natBad (m : MSetMap) (a : Int) : Bool := (ns (gi m.Source.Sizes (gi m.Source.Shape.From a)).toNat).any fun e => gi (gr m.Parts (gi m.Source.Shape.To a)) (gi (gr m.Source.Actions a) e) != gi (gr m.Target.Actions a) (gi (gr m.Parts (gi m.Source.Shape.From a)) e)
def smShapeB (m : MSetMap) : Bool := sfB m.Source && (sfB m.Target && (sameB m.Source.Shape m.Target.Shape && fitsB m))
def smB (m : MSetMap) : Bool := smShapeB m && !((ns m.Source.Shape.From.length).any (natBad m))
structure SMShape (m : MSetMap) : Prop where
  src : SF m.Source
  tgt : SF m.Target
  same : m.Target.Shape = m.Source.Shape
  pl : (m.Parts.length : Int) = m.Source.Shape.Objects
  part : ∀ x : Int, 0 ≤ x → x < m.Source.Shape.Objects → ((gr m.Parts x).length : Int) = gi m.Source.Sizes x ∧ ∀ y ∈ gr m.Parts x, 0 ≤ y ∧ y < gi m.Target.Sizes x
theorem smShape_of {m : MSetMap} (h : smShapeB m = true) : SMShape m := by
  unfold smShapeB fitsB at h
  simp only [Bool.and_eq_true, List.all_eq_true, beq_iff_eq, sameB_eq] at h
  obtain ⟨h1, h2, h3, h4, h5⟩ := h
  have S := sf_of h1
  have hl := S.sl
  exact ⟨S, sf_of h2, h3.symm, by omega, fun x h0 h1 => mapB_iff.1 (h5 x (ns_mem.2 ⟨h0, by omega⟩))⟩
namespace SMShape
variable {m : MSetMap} (H : SMShape m)
include H
theorem idxP {x : Int} (h0 : 0 ≤ x) (h1 : x < m.Source.Shape.Objects) : idx m.Parts x = some (gr m.Parts x) := idx_gr h0 (by rw [H.pl]; exact h1)
theorem at_ {x e : Int} (h0 : 0 ≤ x) (h1 : x < m.Source.Shape.Objects) (e0 : 0 ≤ e) (e1 : e < gi m.Source.Sizes x) : idx (gr m.Parts x) e = some (gi (gr m.Parts x) e) := idx_gi e0 (by rw [(H.part x h0 h1).1]; exact e1)
theorem img {x e : Int} (h0 : 0 ≤ x) (h1 : x < m.Source.Shape.Objects) (e0 : 0 ≤ e) (e1 : e < gi m.Source.Sizes x) : 0 ≤ gi (gr m.Parts x) e ∧ gi (gr m.Parts x) e < gi m.Target.Sizes x :=
  (H.part x h0 h1).2 _ (gi_mem e0 (by rw [(H.part x h0 h1).1]; exact e1))
end SMShape
theorem specFits {m : MSetMap} (hs : SMSmall m) (S : SF m.Source) (T : SF m.Target) (he : m.Target.Shape = m.Source.Shape) : spec_l19Parts m.Source m.Target m.Parts = some (fitsB m) := by
  have hk := hs.k
  have hl := S.sl
  have ho := S.cat.o8
  unfold spec_l19Parts fitsB
  by_cases h : m.Parts.length = m.Source.Sizes.length
  · rw [bneF (by omega), cond_false, beqT h, Bool.true_and]
    have hx : ∀ i : Nat, i < m.Parts.length → spec_l19Parts_L0 m.Source m.Target m.Parts (i : Int) = bif !(fitB m i) then some (.ret false) else some (.norm ((i + 1 : Nat) : Int)) := by
      intro i hi
      have hr := hs.r _ (gr_mem (l := m.Parts) (j := (i : Int)) (by omega) (by omega))
      unfold spec_l19Parts_L0
      rw [decT (by omega), cond_true, idx_gr (by omega) (by omega), some_bind', S.idxS (by omega) (by omega), some_bind', T.idxS (by omega) (by rw [he]; omega), some_bind', some_bind', specMapOf _ _ _ (by omega), some_bind', w64_nat (by omega)]
      rfl
    rw [forb (fun i => !(fitB m i)) hx (by unfold spec_l19Parts_L0; rw [decF (by omega), cond_false]), any_not]
    cases (ns m.Parts.length).all (fitB m) <;> rfl
  · rw [bneT (by omega), cond_true, beqF h]; rfl
theorem implFits {m : MSetMap} (hs : SMSmall m) (S : SF m.Source) (T : SF m.Target) (he : m.Target.Shape = m.Source.Shape) : impl_SetMap_fits m = some (fitsB m) := by
  have hk := hs.k
  have hl := S.sl
  have ho := S.cat.o8
  unfold impl_SetMap_fits fitsB
  by_cases h : m.Parts.length = m.Source.Sizes.length
  · rw [bneF (by omega), cond_false, beqT h, Bool.true_and]
    have hx : ∀ i : Nat, i < m.Parts.length → impl_SetMap_fits_L0 m (i : Int) = bif !(fitB m i) then some (.ret false) else some (.norm ((i + 1 : Nat) : Int)) := by
      intro i hi
      have hr := hs.r _ (gr_mem (l := m.Parts) (j := (i : Int)) (by omega) (by omega))
      have st := T.s (i : Int) (by omega) (by rw [he]; omega)
      unfold impl_SetMap_fits_L0
      rw [decT (by omega), cond_true, idx_gr (by omega) (by omega), some_bind', S.idxS (by omega) (by omega), some_bind', T.idxS (by omega) (by rw [he]; omega), some_bind', implMapOf _ _ _ (by omega) (by omega) (by omega), some_bind', w64_nat (by omega)]
      rfl
    rw [forb (fun i => !(fitB m i)) hx (by unfold impl_SetMap_fits_L0; rw [decF (by omega), cond_false]), any_not]
    cases (ns m.Parts.length).all (fitB m) <;> rfl
  · rw [bneT (by omega), cond_true, beqF h]; rfl
theorem specBetween {f g : MSetFunctor} (hf : SFSmall f) (hg : SFSmall g) : spec_l19Between f g = some (sfB f && (sfB g && sameB f.Shape g.Shape)) := by
  unfold spec_l19Between
  rw [specIsF hf, some_bind', specIsF hg, some_bind', specSameCat hf.c, some_bind', cond_some, cond_and, cond_some, cond_and]; rfl
theorem specShapeM {m : MSetMap} (hs : SMSmall m) : (spec_l19Between m.Source m.Target >>= fun y => (bif !y then some true else (spec_l19Parts m.Source m.Target m.Parts >>= fun z => some (!z)))) = some (!smShapeB m) := by
  rw [specBetween hs.s hs.t, some_bind']
  unfold smShapeB
  cases h1 : sfB m.Source with
  | false => rfl
  | true =>
    cases h2 : sfB m.Target with
    | false => rfl
    | true =>
      cases h3 : sameB m.Source.Shape m.Target.Shape with
      | false => rfl
      | true =>
        rw [specFits hs (sf_of h1) (sf_of h2) (sameB_eq.1 h3).symm]
        simp only [Bool.true_and, Bool.not_true, cond_false, some_bind']
theorem implShapeM {m : MSetMap} (hs : SMSmall m) : impl_SetMap_isShape m = some (smShapeB m) := by
  unfold impl_SetMap_isShape smShapeB
  rw [implAreF _ (by simp) (by intro f hf; simp at hf; rcases hf with rfl | rfl; exact hs.s; exact hs.t), some_bind']
  simp only [List.all_cons, List.all_nil, Bool.and_true]
  cases h1 : sfB m.Source with
  | false => rfl
  | true =>
    cases h2 : sfB m.Target with
    | false => rfl
    | true =>
      simp only [Bool.true_and, cond_true]
      rw [implSameCat hs.s.c, some_bind']
      cases h3 : sameB m.Source.Shape m.Target.Shape with
      | false => rfl
      | true =>
        rw [implFits hs (sf_of h1) (sf_of h2) (sameB_eq.1 h3).symm]; rfl
theorem natF {m : MSetMap} {k1 k2 n : Nat} {A0 : Int → Option (Out Int (Int × Int))} {A1 : Int → Int → Option (Out Int (Int × Int))} {z : Int × Int} (hz : z.1 < 0) (hn : n = m.Source.Shape.From.length)
    (a1 : ∀ a e : Nat, a < n → e < (gi m.Source.Sizes (gi m.Source.Shape.From a)).toNat → A1 a e = bif gi (gr m.Parts (gi m.Source.Shape.To a)) (gi (gr m.Source.Actions a) e) != gi (gr m.Target.Actions a) (gi (gr m.Parts (gi m.Source.Shape.From a)) e) then some (.ret ((a : Int), (e : Int))) else some (.norm ((e + 1 : Nat) : Int)))
    (a2 : ∀ a : Nat, a < n → A1 a ((gi m.Source.Sizes (gi m.Source.Shape.From a)).toNat : Int) = some (.exit k2 ((gi m.Source.Sizes (gi m.Source.Shape.From a)).toNat : Int)))
    (a0 : ∀ a : Nat, a < n → A0 a = lbind (blockM k2 (loopM (A1 a) (0 : Int))) fun _ => some (.norm ((a + 1 : Nat) : Int)))
    (a3 : A0 n = some (.exit k1 (n : Int))) :
    ∃ y, retM (S := Unit) (lbind (blockM k1 (loopM A0 (0 : Int))) fun _ => some (.ret z)) = some y ∧ decide (y.1 < 0) = !((ns m.Source.Shape.From.length).any (natBad m)) := by
  have hA : ∀ a : Nat, a < n → (natBad m a = false ∧ A0 a = some (.norm ((a + 1 : Nat) : Int))) ∨ (natBad m a = true ∧ ∃ y, A0 a = some (.ret y) ∧ 0 ≤ y.1) := by
    intro a ha
    rw [a0 a ha]
    refine forg (n := (gi m.Source.Sizes (gi m.Source.Shape.From a)).toNat) (fun e => gi (gr m.Parts (gi m.Source.Shape.To a)) (gi (gr m.Source.Actions a) e) != gi (gr m.Target.Actions a) (gi (gr m.Parts (gi m.Source.Shape.From a)) e)) (fun y : Int × Int => 0 ≤ y.1) ?_ (a2 a ha)
    intro e he
    rw [a1 a e ha he]
    cases gi (gr m.Parts (gi m.Source.Shape.To a)) (gi (gr m.Source.Actions a) e) != gi (gr m.Target.Actions a) (gi (gr m.Parts (gi m.Source.Shape.From a)) e) with
    | true => exact .inr ⟨rfl, _, rfl, by show (0 : Int) ≤ (a : Int); omega⟩
    | false => exact .inl ⟨rfl, rfl⟩
  rw [← hn]
  rcases forg (S := Unit) (f := fun _ => some (.ret z)) (n := n) (natBad m) (fun y : Int × Int => 0 ≤ y.1) hA a3 with ⟨h1, h2⟩ | ⟨h1, y, h2, h3⟩
  · rw [h1, h2]
    exact ⟨z, rfl, decT hz⟩
  · rw [h1, h2]
    exact ⟨y, rfl, decF (by omega)⟩
theorem specNat {m : MSetMap} (H : SMShape m) : ∃ y, spec_l19Unnatural m.Source m.Target m.Parts = some y ∧ decide (y.1 < 0) = !((ns m.Source.Shape.From.length).any (natBad m)) := by
  have hA := H.src.al
  have hm := H.src.cat.m
  have hT := congrArg (fun c : MCategory => c.From.length) H.same
  unfold spec_l19Unnatural
  refine natF (k2 := 2) (n := m.Source.Shape.From.length) (A1 := fun a => spec_l19Unnatural_L1 m.Source m.Target m.Parts a (gi m.Source.Shape.From a) (gi m.Source.Shape.To a)) (by decide) rfl ?_ ?_ ?_ ?_
  · intro a e ha he
    have hf := H.src.cat.fr (f := (a : Int)) (by omega) (by omega)
    have ht := H.src.cat.to (f := (a : Int)) (by omega) (by omega)
    have hs := H.src.s _ hf.1 hf.2
    have hi := H.src.img (a := (a : Int)) (e := (e : Int)) (by omega) (by omega) (by omega) (by omega)
    have hp := H.img (x := gi m.Source.Shape.From a) (e := (e : Int)) hf.1 hf.2 (by omega) (by omega)
    have hTa : (a : Int) < m.Target.Shape.From.length := by omega
    have hTf : gi m.Target.Shape.From a = gi m.Source.Shape.From a := by rw [H.same]
    show spec_l19Unnatural_L1 m.Source m.Target m.Parts a (gi m.Source.Shape.From a) (gi m.Source.Shape.To a) e = _
    unfold spec_l19Unnatural_L1
    rw [H.src.idxS hf.1 hf.2, some_bind', decT (by omega), cond_true, H.idxP ht.1 ht.2, some_bind', H.src.idxA (by omega) (by omega), some_bind', H.src.at_ (by omega) (by omega) (by omega) (by omega), some_bind', H.at_ ht.1 ht.2 hi.1 hi.2, some_bind',
      H.tgt.idxA (by omega) hTa, some_bind', H.idxP hf.1 hf.2, some_bind', H.at_ hf.1 hf.2 (by omega) (by omega), some_bind', H.tgt.at_ (by omega) hTa hp.1 (by rw [hTf]; exact hp.2), some_bind', w64_nat (by omega)]
  · intro a ha
    have hf := H.src.cat.fr (f := (a : Int)) (by omega) (by omega)
    have hs := H.src.s _ hf.1 hf.2
    show spec_l19Unnatural_L1 m.Source m.Target m.Parts a (gi m.Source.Shape.From a) (gi m.Source.Shape.To a) _ = _
    unfold spec_l19Unnatural_L1
    rw [H.src.idxS hf.1 hf.2, some_bind', decF (by omega), cond_false]
  · intro a ha
    unfold spec_l19Unnatural_L0
    rw [decT (by omega), cond_true, H.src.cat.idxF (by omega) (by omega), some_bind', H.src.cat.idxT (by omega) (by omega), some_bind', w64_nat (by omega)]
  · unfold spec_l19Unnatural_L0
    rw [decF (by omega), cond_false]
theorem implNat {m : MSetMap} (H : SMShape m) : ∃ y, impl_SetMap_unnatural m = some y ∧ decide (y.1 < 0) = !((ns m.Source.Shape.From.length).any (natBad m)) := by
  have hA := H.src.al
  have hm := H.src.cat.m
  have hT := congrArg (fun c : MCategory => c.From.length) H.same
  unfold impl_SetMap_unnatural
  refine natF (k2 := 2) (n := m.Source.Shape.From.length) (A1 := fun a => impl_SetMap_unnatural_L1 m a (gr m.Source.Actions a)) (by decide) rfl ?_ ?_ ?_ ?_
  · intro a e ha he
    have hf := H.src.cat.fr (f := (a : Int)) (by omega) (by omega)
    have ht := H.src.cat.to (f := (a : Int)) (by omega) (by omega)
    have hs := H.src.s _ hf.1 hf.2
    have hi := H.src.img (a := (a : Int)) (e := (e : Int)) (by omega) (by omega) (by omega) (by omega)
    have hp := H.img (x := gi m.Source.Shape.From a) (e := (e : Int)) hf.1 hf.2 (by omega) (by omega)
    have hr := H.src.row (a := (a : Int)) (by omega) (by omega)
    have hTa : (a : Int) < m.Target.Shape.From.length := by omega
    have hTf : gi m.Target.Shape.From a = gi m.Source.Shape.From a := by rw [H.same]
    show impl_SetMap_unnatural_L1 m a (gr m.Source.Actions a) e = _
    unfold impl_SetMap_unnatural_L1
    rw [decT (by omega), cond_true, H.src.at_ (by omega) (by omega) (by omega) (by omega), some_bind', H.src.cat.idxT (by omega) (by omega), some_bind', H.idxP ht.1 ht.2, some_bind', H.at_ ht.1 ht.2 hi.1 hi.2, some_bind',
      H.tgt.idxA (by omega) hTa, some_bind', H.src.cat.idxF (by omega) (by omega), some_bind', H.idxP hf.1 hf.2, some_bind', H.at_ hf.1 hf.2 (by omega) (by omega), some_bind', H.tgt.at_ (by omega) hTa hp.1 (by rw [hTf]; exact hp.2), some_bind', w64_nat (by omega)]
  · intro a ha
    have hr := H.src.row (a := (a : Int)) (by omega) (by omega)
    show impl_SetMap_unnatural_L1 m a (gr m.Source.Actions a) _ = _
    unfold impl_SetMap_unnatural_L1
    rw [decF (by omega), cond_false]
  · intro a ha
    unfold impl_SetMap_unnatural_L0
    rw [decT (by omega), cond_true, H.src.idxA (by omega) (by omega), some_bind', w64_nat (by omega)]
  · unfold impl_SetMap_unnatural_L0
    rw [decF (by omega), cond_false]
structure SM (m : MSetMap) : Prop extends SMShape m where
  nat : ∀ a e : Int, 0 ≤ a → a < m.Source.Shape.From.length → 0 ≤ e → e < gi m.Source.Sizes (gi m.Source.Shape.From a) → gi (gr m.Parts (gi m.Source.Shape.To a)) (gi (gr m.Source.Actions a) e) = gi (gr m.Target.Actions a) (gi (gr m.Parts (gi m.Source.Shape.From a)) e)
theorem sm_of {m : MSetMap} (h : smB m = true) : SM m := by
  unfold smB at h
  rw [Bool.and_eq_true, Bool.not_eq_true', ns_any_false] at h
  refine ⟨smShape_of h.1, fun a e a0 a1 e0 e1 => ?_⟩
  have := h.2 a a0 a1
  unfold natBad at this
  rw [ns_any_false] at this
  have := this e e0 (by omega)
  simpa using this
theorem specIsM {m : MSetMap} (hs : SMSmall m) : spec_l19IsMap m = some (smB m) := by
  unfold spec_l19IsMap
  rw [specShapeM hs, some_bind']
  unfold smB
  cases h : smShapeB m with
  | false => rfl
  | true =>
    obtain ⟨y, h1, h2⟩ := specNat (smShape_of h)
    rw [Bool.not_true, cond_false, h1, some_bind', h2]; rfl
theorem implIsM {m : MSetMap} (hs : SMSmall m) : impl_SetMap_isNatural m = some (smB m) := by
  unfold impl_SetMap_isNatural
  rw [implShapeM hs, some_bind']
  unfold smB
  cases h : smShapeB m with
  | false => rfl
  | true =>
    obtain ⟨y, h1, h2⟩ := implNat (smShape_of h)
    rw [Bool.not_true, cond_false, h1, some_bind', h2]; rfl

/-- lengths that a law's arguments have -/
structure SFLens (f : MSetFunctor) : Prop where
  c : CatLens f.Shape
  s : f.Sizes.length ≤ 9223372036854775807
  k : f.Actions.length ≤ 9223372036854775807
  r : ∀ y ∈ f.Actions, y.length ≤ 9223372036854775807
def sfSize (f : MSetFunctor) : Nat := catSize f.Shape + f.Sizes.length + (f.Actions.length + tot f.Actions)
theorem szSFK {f : MSetFunctor} {k : Int} (k0 : 0 ≤ k) (k1 : k ≤ 1048576) (hl : SFLens f) : laws_szSetFunctor f k = some (if (sfSize f : Int) ≤ k then k - sfSize f else -1) := by
  obtain ⟨hc, h1, h2, h3⟩ := hl
  unfold laws_szSetFunctor sfSize
  rw [szCatK k0 k1 hc, some_bind']
  by_cases c1 : (catSize f.Shape : Int) ≤ k
  · rw [if_pos c1, decF (by omega), cond_false, szS _ (by omega) (by omega) h1, some_bind']
    by_cases c2 : (f.Sizes.length : Int) ≤ k - catSize f.Shape
    · rw [if_pos c2, decF (by omega), cond_false, szSS _ (by omega) (by omega) h2 h3, some_bind']
      by_cases c3 : ((f.Actions.length + tot f.Actions : Nat) : Int) ≤ k - catSize f.Shape - f.Sizes.length
      · rw [if_pos c3, decF (by omega), cond_false, if_pos (by omega)]
        show some _ = some _
        congr 1; omega
      · rw [if_neg c3, decT (by omega), cond_true, if_neg (by omega)]; rfl
    · rw [if_neg c2, decT (by omega), cond_true, if_neg (by omega)]; rfl
  · rw [if_neg c1, decT (by omega), cond_true, if_neg (by omega)]; rfl
theorem sfSmall_of {f : MSetFunctor} (h : sfSize f ≤ 1048576) : SFSmall f := by
  unfold sfSize at h
  exact ⟨catSmall_of (by omega), by omega, by omega, fun y hy => by have := tot_row hy; omega⟩
theorem toSF {f : MSetFunctor} (h : sfSize f ≤ 1048576) : laws_toSetFunctor f = some f := by
  have hs := sfSmall_of h
  unfold sfSize at h
  unfold laws_toSetFunctor
  rw [toCat (by omega), some_bind', toS _ hs.s, some_bind', toSS _ hs.k hs.r, some_bind']; rfl
structure SMLens (m : MSetMap) : Prop where
  s : SFLens m.Source
  t : SFLens m.Target
  k : m.Parts.length ≤ 9223372036854775807
  r : ∀ y ∈ m.Parts, y.length ≤ 9223372036854775807
def smSize (m : MSetMap) : Nat := sfSize m.Source + sfSize m.Target + (m.Parts.length + tot m.Parts)
theorem szSMK {m : MSetMap} {k : Int} (k0 : 0 ≤ k) (k1 : k ≤ 1048576) (hl : SMLens m) : laws_szSetMap m k = some (if (smSize m : Int) ≤ k then k - smSize m else -1) := by
  obtain ⟨hc, h1, h2, h3⟩ := hl
  unfold laws_szSetMap smSize
  rw [szSFK k0 k1 hc, some_bind']
  by_cases c1 : (sfSize m.Source : Int) ≤ k
  · rw [if_pos c1, decF (by omega), cond_false, szSFK (by omega) (by omega) h1, some_bind']
    by_cases c2 : (sfSize m.Target : Int) ≤ k - sfSize m.Source
    · rw [if_pos c2, decF (by omega), cond_false, szSS _ (by omega) (by omega) h2 h3, some_bind']
      by_cases c3 : ((m.Parts.length + tot m.Parts : Nat) : Int) ≤ k - sfSize m.Source - sfSize m.Target
      · rw [if_pos c3, decF (by omega), cond_false, if_pos (by omega)]
        show some _ = some _
        congr 1; omega
      · rw [if_neg c3, decT (by omega), cond_true, if_neg (by omega)]; rfl
    · rw [if_neg c2, decT (by omega), cond_true, if_neg (by omega)]; rfl
  · rw [if_neg c1, decT (by omega), cond_true, if_neg (by omega)]; rfl
theorem smSmall_of {m : MSetMap} (h : smSize m ≤ 1048576) : SMSmall m := by
  unfold smSize at h
  exact ⟨sfSmall_of (by omega), sfSmall_of (by omega), by omega, fun y hy => by have := tot_row hy; omega⟩
theorem toSM {m : MSetMap} (h : smSize m ≤ 1048576) : laws_toSetMap m = some m := by
  have hs := smSmall_of h
  unfold smSize at h
  unfold laws_toSetMap
  rw [toSF (by omega), some_bind', toSF (by omega), some_bind', toSS _ hs.k hs.r, some_bind']; rfl
end Go.Proofs.YtdlhbbhdfnnmnaaGreat
