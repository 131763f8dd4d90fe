/- The part of a map to the classifier: the reference and the program agree; the law of PartOfMap, on plain data. No condition beside those that each theorem names. -/
import Derived.Test.YtdlhbbhdfnnmnaaGreatUb
import Derived.Test.YtdlhbbhdfnnmnaaGreatUo
import Derived.Test.YtdlhbbhdfnnmnaaGreatRc
namespace Go.Proofs.YtdlhbbhdfnnmnaaGreat
open Go Go.Li

theorem sameFB_comm {f g : MSetFunctor} : sameFB f g = sameFB g f := by
  rw [Bool.eq_iff_iff, sameFB_eq, sameFB_eq]; exact eq_comm
/-- the elements that a map to the classifier maps to the greatest sieve -/
def topQ (m : MSetMap) (ls : List (List (List Int))) (x e : Int) : Bool := gi (gr m.Parts x) e == tp m.Source.Shape ls x
def ptZ : MPart := MPart.mk []
theorem ptZ_small : PartSmall ptZ ∧ s2 ptZ.Members ≤ 8388608 := ⟨⟨by simp [ptZ], by simp [ptZ]⟩, Nat.zero_le _⟩
theorem specTopQ {m : MSetMap} (M : SMShape m) {ls : List (List (List Int))} (T : Tab m.Source.Shape ls) {R : Type} (k : List (List Int) × Int → Option (Out R (MPart × Int))) :
    lbind (blockM 0 (loopM (fun s : List (List Int) × Int => spec_PartOfMap_L0 m (tops m.Source.Shape ls) s.1 s.2) (([] : List (List Int)), (0 : Int)))) k = k (allowS m.Source (topQ m ls), (m.Source.Sizes.length : Int)) := by
  have hl := M.src.sl
  have hpl := M.pl
  have h8 := T.len8
  have hlen := T.len
  refine map_loop m.Source.Sizes.length (fun x => (ns (gi m.Source.Sizes x).toNat).filter (topQ m ls x)) (fun acc i => (acc, (i : Int))) rfl ?_ ?_
  · intro x acc hx ha
    have x0 : (0 : Int) ≤ x := by omega
    have x1 : (x : Int) < m.Source.Shape.Objects := by omega
    have hs := M.src.s (x : Int) x0 x1
    have hp := (M.part (x : Int) x0 x1).1
    have it : idx (tops m.Source.Shape ls) (x : Int) = some (tp m.Source.Shape ls x) := T.tops_at x0 (by omega)
    show spec_PartOfMap_L0 m (tops m.Source.Shape ls) acc x = _
    unfold spec_PartOfMap_L0
    rw [decT (by omega), cond_true]
    refine (keep_loop (ns (gi m.Source.Sizes x).toNat) (topQ m ls x) (fun acc i => (acc, (i : Int))) rfl ?_ ?_).trans ?_
    · intro e e' acc2 he hacc
      obtain ⟨rfl, hi⟩ := ns_get he
      show spec_PartOfMap_L1 m (tops m.Source.Shape ls) x acc2 e = _
      unfold spec_PartOfMap_L1
      rw [M.idxP x0 x1, some_bind', decT (by omega), cond_true, some_bind', M.at_ x0 x1 (by omega) (by omega), some_bind', it, some_bind', fits_ok (by omega) (by omega), some_bind', w64_nat (by omega)]
      unfold topQ
      cases gi (gr m.Parts (x : Int)) (e : Int) == tp m.Source.Shape ls (x : Int) <;> rfl
    · intro acc2
      show spec_PartOfMap_L1 m (tops m.Source.Shape ls) x acc2 _ = _
      unfold spec_PartOfMap_L1
      rw [M.idxP x0 x1, some_bind', ns_length, decF (by omega), cond_false]
    · dsimp only
      rw [fits_ok (by omega) (by omega), some_bind', w64_nat (by omega)]
  · intro acc ha
    show spec_PartOfMap_L0 m (tops m.Source.Shape ls) acc _ = _
    unfold spec_PartOfMap_L0
    rw [decF (by omega), cond_false]
theorem partOfMap_alike {m : MSetMap} (hm : SMSmall m) : ∃ y, spec_PartOfMap m = some y ∧ impl_PartOfMap m = some y ∧ PartSmall y.1 ∧ s2 y.1.Members ≤ 8388608 := by
  unfold spec_PartOfMap impl_PartOfMap
  rw [specIsM hm, some_bind', implIsM hm, some_bind']
  cases h1 : smB m with
  | false => exact ⟨(ptZ, 1), rfl, rfl, ptZ_small⟩
  | true =>
    have M := sm_of h1
    have H := M.src.cat
    simp only [Bool.not_true, cond_false]
    rcases scan H m.Source.Shape.Objects.toNat with ⟨ls, L⟩ | ⟨k, ls, hk, h, hn⟩
    · have T : Tab m.Source.Shape ls := ⟨H, L⟩
      have ho := omegaSmall T hm.s.c
      rw [specLists H L, some_bind', implClassifier H hm.s.c L, some_bind']
      simp only [Bool.not_true, cond_false]
      rw [specMake H hm.s.c L, some_bind', specSameF hm.t, some_bind', implSameF ho, some_bind', sameFB_comm (f := omegaF m.Source.Shape ls)]
      cases h2 : sameFB m.Target (omegaF m.Source.Shape ls) with
      | false => exact ⟨(ptZ, 5), rfl, rfl, ptZ_small⟩
      | true =>
        have htops : impl_classifier_tops (MClassifier.mk (omegaF m.Source.Shape ls) ls) = some (tops m.Source.Shape ls) := implTops T (sizesOf ls) [] (acts m.Source.Shape ls)
        simp only [Bool.not_true, cond_false]
        rw [specTops H L, some_bind', htops, some_bind']
        have hp := implPartOf M.src (p := fun a0 a1 => impl_PartOfMap_1 a0 a1 m (tops m.Source.Shape ls)) (q := topQ m ls) (fun x e x0 x1 e0 e1 => by
          have hlen := T.len
          have it : idx (tops m.Source.Shape ls) x = some (tp m.Source.Shape ls x) := T.tops_at x0 (by omega)
          unfold impl_PartOfMap_1
          rw [M.idxP x0 x1, some_bind', M.at_ x0 x1 e0 e1, some_bind', it, some_bind']
          rfl)
        refine ⟨(MPart.mk (allowS m.Source (topQ m ls)), 0), ?_, ?_, allow_small M.src _, allow_cells M.src _⟩
        · rw [specTopQ M.toSMShape T]; rfl
        · rw [hp, some_bind']; rfl
    · rw [specListsNo H hk h hn, some_bind', implClassifierNo H hm.s.c hk h hn, some_bind']
      exact ⟨(ptZ, 3), rfl, rfl, ptZ_small⟩
theorem partOfMap_law {x0 : MSetMap} (hl : SMLens x0) : laws_FnExactPartOfMap x0 = some true := by
  unfold laws_FnExactPartOfMap
  rw [szSMK (by omega) (by omega) hl, some_bind']
  by_cases h : (smSize x0 : Int) ≤ 1048576
  · have hn : smSize x0 ≤ 1048576 := by omega
    have hs := smSmall_of hn
    obtain ⟨y, h1, h2, hy, hc⟩ := partOfMap_alike hs
    have c0 := smCells_size x0
    obtain ⟨r, r1, r0⟩ := markSMK hs (k := 1) (by omega) (by omega)
    have m1 := markPtK hy (k := 1) (by omega) (by omega)
    have m2 := heldPtK hy (k := 1) (by omega) (by omega)
    rw [if_pos h, decF (by omega), cond_false, toSM hn]
    simp only [some_bind', h1, h2, eqPt_self hy, eqSM_self hs, r1, m1, m2, Bool.not_true, cond_false, bne_self_eq_false, decF (show ¬ r.1 < 0 by omega), decF (show ¬ (1 + (s2 y.1.Members : Int)) < 0 by omega)]
    rfl
  · rw [if_neg h, decT (by omega), cond_true]; rfl
end Go.Proofs.YtdlhbbhdfnnmnaaGreat
