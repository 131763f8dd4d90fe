/- The characteristic map of a part, the part of a map to the classifier: the reference and the program agree; the laws of CharacteristicMap and PartOfMap, on plain data. No condition beside those that each theorem names. -/
import Derived.Test.YtdlhbbhdfnnmnaaGreatUb
import Derived.Test.YtdlhbbhdfnnmnaaGreatUo
namespace Go.Proofs.YtdlhbbhdfnnmnaaGreat
open Go Go.Li

/-- the numbers of the sieves of the elements at x -/
def chiS (f : MSetFunctor) (M : List (List Int)) (ls : List (List (List Int))) (x : Int) : List Int := mapI (gi f.Sizes x).toNat fun e => placeS (gl ls x) (holdS f M x e)
section
variable {f : MSetFunctor} (S : SF f) {M : List (List Int)} (P : Pt f M) {ls : List (List (List Int))} (T : Tab f.Shape ls)
include S P T
theorem hold_len (x e : Int) : (holdS f M x e).length ≤ 40 := by
  have _ := P
  have _ := T
  have h1 := List.length_filter_le (fun a => hasB (gr M (gi f.Shape.To a)) (gi (gr f.Actions a) e)) (outS f.Shape x)
  have h2 := outS_len f.Shape x
  have h3 := S.cat.m
  unfold holdS; omega
theorem specChi (p : MPart) (hp : p.Members = M) (y : List (List (List Int)) × Bool) (hy : y.1 = ls) {R : Type} (k : List (List Int) × Int → Option (Out R (MSetMap × Int))) :
    lbind (blockM 0 (loopM (fun s : List (List Int) × Int => spec_CharacteristicMap_L0 f p y s.1 s.2) (([] : List (List Int)), (0 : Int)))) k = k (mapI f.Sizes.length (chiS f M ls), (f.Sizes.length : Int)) := by
  have hl := S.sl
  have h8 := T.len8
  have hlen := T.len
  refine map_loop f.Sizes.length (chiS f M ls) (fun acc i => (acc, (i : Int))) rfl ?_ ?_
  · intro x acc hx ha
    have x0 : (0 : Int) ≤ x := by omega
    have x1 : (x : Int) < f.Shape.Objects := by omega
    have hs := S.s (x : Int) x0 x1
    have h16 := T.l16 x0 (show (x : Int) < ls.length by omega)
    show spec_CharacteristicMap_L0 f p y acc x = _
    unfold spec_CharacteristicMap_L0
    rw [decT (by omega), cond_true]
    refine (map_loop (gi f.Sizes x).toNat (fun e => placeS (gl ls x) (holdS f M x e)) (fun acc j => (acc, (j : Int))) rfl ?_ ?_).trans ?_
    · intro e acc2 he ha2
      show spec_CharacteristicMap_L1 f p y x acc2 e = _
      unfold spec_CharacteristicMap_L1
      rw [S.idxS x0 x1, some_bind', decT (by omega), cond_true, hy, idx_gl x0 (by omega), some_bind', hp, specValue S P x0 x1 (by omega) (by omega), some_bind', specPlace _ _ (by omega) (fun z hz => by have := T.s40 x0 (show (x : Int) < ls.length by omega) hz; omega), some_bind', fits_ok (by omega) (by omega), some_bind', w64_nat (by omega)]
    · intro acc2 ha2
      show spec_CharacteristicMap_L1 f p y x acc2 _ = _
      unfold spec_CharacteristicMap_L1
      rw [S.idxS x0 x1, some_bind', decF (by omega), cond_false]
    · dsimp only
      rw [fits_ok (by omega) (by omega), some_bind', w64_nat (by omega)]
      rfl
  · intro acc ha
    show spec_CharacteristicMap_L0 f p y acc _ = _
    unfold spec_CharacteristicMap_L0
    rw [decF (by omega), cond_false]
theorem implChi (k : MClassifier) (hk : k.Sieves = ls) {R : Type} (g : List (List Int) × Int → Option (Out R (MSetMap × Int))) :
    lbind (blockM 0 (loopM (fun s : List (List Int) × Int => impl_CharacteristicMap_L2 f (MPart.mk M) k s.1 s.2) (([] : List (List Int)), (0 : Int)))) g = g (mapI f.Sizes.length (chiS f M ls), (f.Sizes.length : Int)) := by
  have hl := S.sl
  have h8 := T.len8
  have hlen := T.len
  refine map_loop f.Sizes.length (chiS f M ls) (fun acc i => (acc, (i : Int))) rfl ?_ ?_
  · intro x acc hx ha
    have x0 : (0 : Int) ≤ x := by omega
    have x1 : (x : Int) < f.Shape.Objects := by omega
    have hs := S.s (x : Int) x0 x1
    have h16 := T.l16 x0 (show (x : Int) < ls.length by omega)
    show impl_CharacteristicMap_L2 f (MPart.mk M) k acc x = _
    unfold impl_CharacteristicMap_L2
    rw [decT (by omega), cond_true, S.idxS x0 x1, some_bind']
    refine (map_loop (gi f.Sizes x).toNat (fun e => placeS (gl ls x) (holdS f M x e)) (fun acc j => (acc, (j : Int))) rfl ?_ ?_).trans ?_
    · intro e acc2 he ha2
      have hh := hold_len S P T x e
      show impl_CharacteristicMap_L3 f (MPart.mk M) k x (gi f.Sizes x) acc2 e = _
      unfold impl_CharacteristicMap_L3
      rw [decT (by omega), cond_true, implHolding S P x0 x1 (by omega) (by omega), some_bind', number S.cat (k := k) x0 (by rw [hk]; omega) (by rw [hk]; omega) (by omega), some_bind', fits_ok (by omega) (by omega), some_bind', w64_nat (by omega), hk]
    · intro acc2 ha2
      show impl_CharacteristicMap_L3 f (MPart.mk M) k x (gi f.Sizes x) acc2 _ = _
      unfold impl_CharacteristicMap_L3
      rw [decF (by omega), cond_false]
    · dsimp only
      rw [fits_ok (by omega) (by omega), some_bind', w64_nat (by omega)]
      rfl
  · intro acc ha
    show impl_CharacteristicMap_L2 f (MPart.mk M) k acc _ = _
    unfold impl_CharacteristicMap_L2
    rw [decF (by omega), cond_false]
theorem chi_small : (mapI f.Sizes.length (chiS f M ls)).length ≤ 1048576 ∧ ∀ y ∈ mapI f.Sizes.length (chiS f M ls), y.length ≤ 1048576 := by
  have _ := P
  have _ := T
  have hl := S.sl
  have ho := S.cat.o8
  refine ⟨by rw [mapI_length]; omega, fun y hy => ?_⟩
  obtain ⟨x, ⟨x0, x1⟩, rfl⟩ := mapI_mem.1 hy
  have hs := S.s x x0 (by omega)
  unfold chiS
  rw [mapI_length]; omega
end
theorem char_alike {f : MSetFunctor} {p : MPart} (hf : SFSmall f) (hp : PartSmall p) : ∃ y, spec_CharacteristicMap f p = some y ∧ impl_CharacteristicMap f p = some y ∧ SMSmall y.1 := by
  unfold spec_CharacteristicMap impl_CharacteristicMap
  rw [specIsPart hf hp, some_bind', implAreParts hf hp, some_bind']
  unfold fpB
  cases h1 : sfB f with
  | false => exact ⟨(smZ, 1), rfl, rfl, smZ_small⟩
  | true =>
    cases h2 : partB f p.Members with
    | false => exact ⟨(smZ, 1), rfl, rfl, smZ_small⟩
    | true =>
      have S := sf_of h1
      have P := pt_of S h2
      simp only [Bool.and_self, Bool.not_true, cond_false]
      rcases scan S.cat f.Shape.Objects.toNat with ⟨ls, L⟩ | ⟨k, ls, hk, h, hn⟩
      · have T : Tab f.Shape ls := ⟨S.cat, L⟩
        have ho := omegaSmall T hf.c
        have hc := chi_small S P T
        rw [specLists S.cat L, some_bind', implClassifier S.cat hf.c L, some_bind']
        refine ⟨(MSetMap.mk f (omegaF f.Shape ls) (mapI f.Sizes.length (chiS f p.Members ls)), 0), ?_, ?_, ⟨hf, ho, hc.1, hc.2⟩⟩
        · simp only [Bool.not_true, cond_false]
          rw [specChi S P T p rfl _ rfl]
          show retM (spec_l25Make f.Shape ls >>= _) = _
          rw [specMake S.cat hf.c L, some_bind', specSetMap hf ho hc.1 hc.2, some_bind']; rfl
        · simp only [Bool.not_true, cond_false]
          have e : MPart.mk p.Members = p := by cases p; rfl
          have hi := implChi S P T (MClassifier.mk (omegaF f.Shape ls) ls) rfl (R := Unit) (fun s => impl_setMap f (omegaF f.Shape ls) s.1 >>= fun y557 => some (.ret (y557, (0 : Int))))
          rw [e] at hi
          refine (congrArg retM hi).trans ?_
          rw [implSetMap S.cat hf ho hc.1 hc.2, some_bind']; rfl
      · rw [specListsNo S.cat hk h hn, some_bind', implClassifierNo S.cat hf.c hk h hn, some_bind']
        exact ⟨(smZ, 3), rfl, rfl, smZ_small⟩
theorem char_law {x0 : MSetFunctor} {x1 : MPart} (hl : SFLens x0) (hl1 : PartLens x1) : laws_FnExactCharacteristicMap x0 x1 = some true := by
  unfold laws_FnExactCharacteristicMap
  rw [szSFK (by omega) (by omega) hl, some_bind']
  by_cases h : (sfSize x0 : Int) ≤ 1048576
  · rw [if_pos h, decF (by omega), cond_false, szPtK (by omega) (by omega) hl1, some_bind']
    by_cases h' : (ptSize x1 : Int) ≤ 1048576 - sfSize x0
    · have hn : sfSize x0 ≤ 1048576 := by omega
      have hn1 : ptSize x1 ≤ 1048576 := by omega
      have hs := sfSmall_of hn
      have hs1 := ptSmall_of hn1
      obtain ⟨y, h1, h2, hy⟩ := char_alike hs hs1
      have c0 := sfCells_size x0
      have c1 := ptCells_size x1
      obtain ⟨a0, b0, c0', d0, e0, g0, r1, _⟩ := markSF hs (k := 1) (by omega) (by omega)
      have r2 := markPtK hs1 (k := 1 + sfCells x0) (by omega) (by omega)
      obtain ⟨n, a, b, c, d, e, g, a', b', c', d', e', g', p, hn0, hm, hh⟩ := markSM hy (smCells_le hy)
      rw [if_pos h', decF (by omega), cond_false, toSF hn]
      simp only [some_bind', toPt hn1, h1, h2, eqSM_self hy, eqSF_self hs, eqPt_self hs1, r1, r2, hm, hh, Bool.not_true, cond_false, bne_self_eq_false, decF (show ¬ (1 + (sfCells x0 : Int) + (s2 x1.Members : Int)) < 0 by omega), decF (show ¬ n < 0 by omega)]
      rfl
    · rw [if_neg h', decT (by omega), cond_true]; rfl
  · rw [if_neg h, decT (by omega), cond_true]; rfl
end Go.Proofs.YtdlhbbhdfnnmnaaGreat
