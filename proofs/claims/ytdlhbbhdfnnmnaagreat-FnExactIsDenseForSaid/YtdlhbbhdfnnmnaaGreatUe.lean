/- Dense parts: the reference and the program agree; the law of IsDenseFor, on plain data. No condition beside those that each theorem names. -/
import Derived.Test.YtdlhbbhdfnnmnaaGreatUb
import Derived.Test.YtdlhbbhdfnnmnaaGreatRk
import Derived.Test.YtdlhbbhdfnnmnaaGreatRq
namespace Go.Proofs.YtdlhbbhdfnnmnaaGreat
open Go Go.Li

theorem onNone {t : MTopology} {f : MSetFunctor} {e : Int} (he : e ≠ 0) (h : impl_limitCode t = some (none, e)) : impl_onCode t [f] = some (none, e) := by
  unfold impl_onCode
  rw [h, some_bind']
  dsimp only
  rw [bneT he, cond_true]; rfl
theorem onSome {t : MTopology} {f : MSetFunctor} {k : MCoverage} (ht : CatSmall t.Shape) (h : impl_limitCode t = some (some k, 0)) : impl_onCode t [f] = some (bif sameB t.Shape f.Shape then (some (MCoverage.mk k.Classifier t.Shape k.Covers k.Count), 0) else (none, 5)) := by
  unfold impl_onCode
  rw [h, some_bind']
  dsimp only
  rw [bneF rfl, cond_false]
  have h0 : impl_onCode_L1 t [f] ((0 : Nat) : Int) = bif !(sameB t.Shape f.Shape) then some (.ret (none, 5)) else some (.norm ((0 + 1 : Nat) : Int)) := by
    unfold impl_onCode_L1
    have : idx [f] ((0 : Nat) : Int) = some f := by rw [idx_nat]; rfl
    rw [decT (by simp), cond_true, this, some_bind', implSameCat ht, some_bind', w64_nat (by omega)]
  rw [forb (n := 1) (fun _ => !(sameB t.Shape f.Shape)) (fun i hi => by obtain rfl : i = 0 := (by omega); exact h0) (by unfold impl_onCode_L1; rw [decF (by simp), cond_false])]
  have : (ns 1).any (fun _ => !(sameB t.Shape f.Shape)) = !(sameB t.Shape f.Shape) := by simp [ns]
  rw [this]
  cases sameB t.Shape f.Shape <;> rfl
/-- a topology and a set functor on its category: all that can be wrong is told alike -/
theorem on_alike {t : MTopology} {f : MSetFunctor} (ht : TopSmall t) (hf : formB t = true) :
    (∃ (e : Int) (y : ML27Table × List (List Bool) × Int), e ≠ 0 ∧ spec_l27Code t = some y ∧ (bif y.2.2 == 0 then !(sameB t.Shape f.Shape) else false) = decide (e = 5 ∧ y.2.2 = 0) ∧ (y.2.2 = e ∨ y.2.2 = 0 ∧ e = 5) ∧ impl_onCode t [f] = some (none, e)) ∨
    ∃ ls n, Tab t.Shape ls ∧ t.Shape = f.Shape ∧ (∃ y : ML27Table × List (List Bool) × Int, spec_l27Code t = some y ∧ y.2.2 = 0) ∧ openB t.Shape ls (covB t.Covers) = false ∧ impl_onCode t [f] = some (some (KK t.Shape ls (covB t.Covers) n), 0) := by
  have F := form_of hf
  rcases form_scan F with ⟨ls, T⟩ | ⟨k, ls, hk, h, hn⟩
  · obtain ⟨n, hl⟩ := implLimit F T ht
    have hs := specCode F T ht hf
    cases e : openB t.Shape ls (covB t.Covers) with
    | true =>
      rw [e, if_pos rfl] at hl hs
      exact .inl ⟨5, _, by decide, hs, by rfl, .inl rfl, onNone (by decide) hl⟩
    | false =>
      rw [e, if_neg (by decide)] at hl hs
      have h1 := onSome (f := f) ht.c hl
      cases e2 : sameB t.Shape f.Shape with
      | false =>
        rw [e2] at h1
        exact .inl ⟨5, _, by decide, hs, by rfl, .inr ⟨rfl, rfl⟩, h1⟩
      | true =>
        rw [e2] at h1
        exact .inr ⟨ls, n, T, sameB_eq.1 e2, ⟨_, hs, rfl⟩, e, h1⟩
  · obtain ⟨y, h1, h2⟩ := specCodeNo ht hf F hk h hn
    exact .inl ⟨3, y, by decide, h1, by rw [h2]; rfl, .inl h2, onNone (by decide) (implLimitNo ht F hk h hn)⟩
/-- the elements of the closure of a part -/
def closeQ (t : MTopology) (f : MSetFunctor) (M : List (List Int)) (x e : Int) : Bool := covB t.Covers x (holdS f M x e)
section
variable {t : MTopology} {f : MSetFunctor} (ht : TopSmall t) (F : Form t) (S : SF f) (he : t.Shape = f.Shape) {ls : List (List (List Int))} (T : Tab t.Shape ls) {M : List (List Int)} (P : Pt f M)
include ht F S he T P
theorem specClosePart : spec_l27Part t f M = some (allowS f (closeQ t f M)) := by
  have hl := S.sl
  have ho := S.cat.o8
  have h8 := T.len8
  have hlen := T.len
  rw [he] at hlen
  obtain ⟨c1, c2⟩ := covs F T ht
  unfold spec_l27Part
  refine (congrArg retM (map_loop f.Sizes.length (fun x => (ns (gi f.Sizes x).toNat).filter (closeQ t f M x)) (fun acc i => (acc, (i : Int))) rfl ?_ ?_)).trans rfl
  · intro x acc hx ha
    have x0 : (0 : Int) ≤ x := by omega
    have x1 : (x : Int) < f.Shape.Objects := by omega
    have hs := S.s (x : Int) x0 x1
    have hcov := c2 x (by omega)
    show spec_l27Part_L0 t f M acc x = _
    unfold spec_l27Part_L0
    rw [decT (by omega), cond_true]
    refine (keep_loop (ns (gi f.Sizes x).toNat) (closeQ t f M x) (fun acc i => (acc, (i : Int))) rfl ?_ ?_).trans ?_
    · intro e e' acc2 hee hacc
      obtain ⟨rfl, hi⟩ := ns_get hee
      show spec_l27Part_L1 t f M x acc2 e = _
      unfold spec_l27Part_L1
      rw [S.idxS x0 x1, some_bind', decT (by omega), cond_true, idx_gl x0 (by omega), some_bind', specValue S P x0 x1 (by omega) (by omega), some_bind', specFind _ _ (by omega) (fun z hz => by have := T.s40 (x := (x : Int)) x0 (by omega) (hcov.2 z hz); omega), some_bind', place_ge, fits_ok (by omega) (by omega), some_bind', w64_nat (by omega)]
      show (bif closeQ t f M x e then _ else _) = _
      cases closeQ t f M (x : Int) (e : Int) <;> rfl
    · intro acc2
      show spec_l27Part_L1 t f M x acc2 _ = _
      unfold spec_l27Part_L1
      rw [S.idxS x0 x1, some_bind', ns_length, decF (by omega), cond_false]
    · dsimp only
      rw [fits_ok (by omega) (by omega), some_bind', w64_nat (by omega)]
  · intro acc ha
    show spec_l27Part_L0 t f M acc _ = _
    unfold spec_l27Part_L0
    rw [decF (by omega), cond_false]
theorem implClosePart (n : Int) : impl_coverage_closurePart (KK t.Shape ls (covB t.Covers) n) f (MPart.mk M) = some (MPart.mk (allowS f (closeQ t f M))) := by
  have _ := ht
  have _ := F
  have hlen := T.len
  rw [he] at hlen
  unfold impl_coverage_closurePart
  rw [implPartOf S (p := fun a0 a1 => impl_coverage_closurePart_1 a0 a1 (KK t.Shape ls (covB t.Covers) n) f (MPart.mk M)) (q := closeQ t f M) (fun x e x0 x1 e0 e1 => by
    have hsv := hold_sv S P x0 x1 e0 e1
    rw [← he] at hsv
    unfold impl_coverage_closurePart_1
    rw [implHolding S P x0 x1 e0 e1, some_bind', isAt T x0 (by omega) ((T.mem x0 (by omega)).2 hsv), some_bind']
    rfl), some_bind']
  rfl
end
/-- has a part all elements -/
def fullB (f : MSetFunctor) (M : List (List Int)) : Bool := !((ns M.length).any fun x => ((gr M x).length : Int) != gi f.Sizes x)
theorem specFull {f : MSetFunctor} (S : SF f) {M : List (List Int)} (hl : M.length = f.Sizes.length) : spec_l26Full f M = some (fullB f M) := by
  have h1 := S.sl
  have ho := S.cat.o8
  unfold spec_l26Full
  rw [forb (n := M.length) (fun x => ((gr M x).length : Int) != gi f.Sizes x) (fun x hx => by
    unfold spec_l26Full_L0
    rw [decT (by omega), cond_true, idx_gr (by omega) (by omega), some_bind', S.idxS (by omega) (by omega), some_bind', w64_nat (by omega)]) (by unfold spec_l26Full_L0; rw [decF (by omega), cond_false])]
  unfold fullB
  cases (ns M.length).any fun x => ((gr M x).length : Int) != gi f.Sizes x <;> rfl
theorem implWhole {f : MSetFunctor} (S : SF f) {M : List (List Int)} (hl : M.length = f.Sizes.length) : impl_SetFunctor_whole f (MPart.mk M) = some (fullB f M) := by
  have h1 := S.sl
  have ho := S.cat.o8
  unfold impl_SetFunctor_whole
  rw [forb (n := M.length) (fun x => ((gr M x).length : Int) != gi f.Sizes x) (fun x hx => by
    unfold impl_SetFunctor_whole_L0
    show (bif decide ((x : Int) < (M.length : Int)) then (idx M (x : Int) >>= _) else _) = _
    rw [decT (by omega), cond_true, idx_gr (by omega) (by omega), some_bind', S.idxS (by omega) (by omega), some_bind', w64_nat (by omega)]) (by unfold impl_SetFunctor_whole_L0; show (bif decide ((M.length : Int) < (M.length : Int)) then _ else _) = _; rw [decF (by omega), cond_false])]
  unfold fullB
  cases (ns M.length).any fun x => ((gr M x).length : Int) != gi f.Sizes x <;> rfl
theorem dense_alike {t : MTopology} {f : MSetFunctor} {p : MPart} (ht : TopSmall t) (hf : SFSmall f) (hp : PartSmall p) : ∃ y, spec_IsDenseFor t f p = some y ∧ impl_IsDenseFor t f p = some y := by
  unfold spec_IsDenseFor impl_IsDenseFor spec_l27On impl_partCode
  rw [specForm ht, some_bind', specIsPart hf hp, some_bind', implForm ht, some_bind', implAreParts hf hp, some_bind', cond_some, cond_or, some_bind']
  cases h1 : formB t with
  | false => exact ⟨(false, 1), rfl, rfl⟩
  | true =>
    cases h2 : fpB f p with
    | false => exact ⟨(false, 1), rfl, rfl⟩
    | true =>
      have h2' : sfB f = true ∧ partB f p.Members = true := by unfold fpB at h2; rwa [Bool.and_eq_true] at h2
      have S := sf_of h2'.1
      have P := pt_of S h2'.2
      simp only [Bool.not_true, Bool.or_false, cond_false]
      rw [specSameCat ht.c, some_bind']
      rcases on_alike (f := f) ht h1 with ⟨e, y, he, g1, g2, g3, g4⟩ | ⟨ls, n, T, hs, ⟨y, g1, g2⟩, _, g4⟩
      · refine ⟨(false, e), ?_, ?_⟩
        · rw [g1, some_bind', cond_some, some_bind', g2]
          rcases g3 with h | ⟨h, h'⟩
          · rw [h, decF (by rintro ⟨_, h⟩; exact he h), cond_false]
            show retM (bif e != 0 then _ else _) = _
            rw [bneT he, cond_true]; rfl
          · subst h'
            rw [h]; rfl
        · rw [g4, some_bind']
          show retM (bif e != 0 then _ else _) = _
          rw [bneT he, cond_true]; rfl
      · have F := form_of h1
        have hlen : (allowS f (closeQ t f p.Members)).length = f.Sizes.length := mapI_length _ _
        refine ⟨(fullB f (allowS f (closeQ t f p.Members)), 0), ?_, ?_⟩
        · rw [g1, some_bind', g2, beqT rfl, cond_true, some_bind', sameB_eq.2 hs]
          show retM (bif (0 : Int) != 0 then some (.ret (false, (0 : Int))) else (spec_l27Part t f p.Members >>= _)) = _
          rw [bneF rfl, cond_false, specClosePart ht F S hs T P, some_bind', specFull S hlen, some_bind']; rfl
        · rw [g4, some_bind']
          have e : MPart.mk p.Members = p := by cases p; rfl
          have hi := implClosePart ht F S hs T P n
          rw [e] at hi
          show retM (bif (0 : Int) != 0 then some (.ret (false, (0 : Int))) else (impl_coverage_closurePart (KK t.Shape ls (covB t.Covers) n) f p >>= _)) = _
          rw [bneF rfl, cond_false, hi, some_bind', implWhole S hlen, some_bind']; rfl
theorem dense_law {x0 : MTopology} {x1 : MSetFunctor} {x2 : MPart} (hl : TopLens x0) (hl1 : SFLens x1) (hl2 : PartLens x2) : laws_FnExactIsDenseFor x0 x1 x2 = some true := by
  unfold laws_FnExactIsDenseFor
  rw [szTop hl, some_bind']
  by_cases h : (topSize x0 : Int) ≤ 1048576
  · rw [if_pos h, decF (by omega), cond_false, szSFK (by omega) (by omega) hl1, some_bind']
    by_cases h' : (sfSize x1 : Int) ≤ 1048576 - topSize x0
    · rw [if_pos h', decF (by omega), cond_false, szPtK (by omega) (by omega) hl2, some_bind']
      by_cases h'' : (ptSize x2 : Int) ≤ 1048576 - topSize x0 - sfSize x1
      · have hn : topSize x0 ≤ 1048576 := by omega
        have hn1 : sfSize x1 ≤ 1048576 := by omega
        have hn2 : ptSize x2 ≤ 1048576 := by omega
        have hs := topSmall_of hn
        have hs1 := sfSmall_of hn1
        have hs2 := ptSmall_of hn2
        obtain ⟨y, h1, h2⟩ := dense_alike hs hs1 hs2
        rw [if_pos h'', decF (by omega), cond_false, toTop hn]
        simp only [some_bind', toSF hn1, toPt hn2, h1, h2, eqTop_self hs, eqSF_self hs1, eqPt_self hs2, beq_self_eq_true, bne_self_eq_false, Bool.not_true, cond_false]
        rfl
      · rw [if_neg h'', decT (by omega), cond_true]; rfl
    · rw [if_neg h', decT (by omega), cond_true]; rfl
  · rw [if_neg h, decT (by omega), cond_true]; rfl
end Go.Proofs.YtdlhbbhdfnnmnaaGreat
