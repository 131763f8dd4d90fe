/- The modality of a topology: the reference and the program agree; the law of ModalityOf, on plain data. No condition beside those that each theorem names. -/
import Derived.Test.YtcmckiiafgcmjaaGreatRe
import Derived.Test.YtcmckiiafgcmjaaGreatRi
import Derived.Test.YtcmckiiafgcmjaaGreatRu
namespace Go.Proofs.YtcmckiiafgcmjaaGreat
open Go Go.Li

/-- the numbers of the closures of the sieves at x -/
def partM (t : MTopology) (ls : List (List (List Int))) (x : Int) : List Int := (gl ls x).map fun s => placeS (gl ls x) (clB t x s)
section
variable {t : MTopology} (F : Form t) {ls : List (List (List Int))} (T : Tab t.Shape ls) (ht : TopSmall t)
include F T ht
theorem clB_len (x : Int) (s : List Int) : (clB t x s).length ≤ 40 := by
  have _ := F
  have _ := ht
  have h1 := List.length_filter_le (fun a => covB t.Covers (gi t.Shape.To a) (pullS t.Shape a s)) (outS t.Shape x)
  have h2 := outS_len t.Shape x
  have h3 := T.cat.m
  unfold clB; omega
theorem specParts (y : ML27Table × List (List Bool) × Int) (hy : y.1.Lists = ls) {R : Type} (f : List (List Int) × Int → Option (Out R (MSetMap × Int))) :
    lbind (blockM 0 (loopM (fun s : List (List Int) × Int => spec_ModalityOf_L0 t y s.1 s.2) (([] : List (List Int)), (0 : Int)))) f = f (mapI ls.length (partM t ls), (ls.length : Int)) := by
  have h8 := T.len8
  refine map_loop ls.length (partM t ls) (fun acc i => (acc, (i : Int))) rfl ?_ ?_
  · intro i acc hi ha
    have g0 : (0 : Int) ≤ (i : Int) := by omega
    have g1 : (i : Int) < ls.length := by omega
    have h16 := T.l16 g0 g1
    show spec_ModalityOf_L0 t y acc i = _
    unfold spec_ModalityOf_L0
    rw [hy, decT (by omega), cond_true]
    refine (map_loop (gl ls i).length (fun j => placeS (gl ls i) (clB t i (gr (gl ls i) j))) (fun acc j => (acc, (j : Int))) rfl ?_ ?_).trans ?_
    · intro j acc2 hj ha2
      have hm : gr (gl ls i) (j : Int) ∈ gl ls i := gr_mem (j := (j : Int)) (by omega) (by omega)
      have hcl := clB_len F T ht i (gr (gl ls i) (j : Int))
      show spec_ModalityOf_L1 t y i acc2 j = _
      unfold spec_ModalityOf_L1
      rw [hy, idx_gl g0 g1, some_bind', decT (by omega), cond_true, some_bind', some_bind', idx_gr (by omega) (by omega), some_bind', specClose' F T ht g0 g1 ((T.mem g0 g1).1 hm), some_bind',
        specFind _ _ (by omega) (fun z hz => by have := T.s40 g0 g1 hz; omega), some_bind', fits_ok (by omega) (by omega), some_bind', w64_nat (by omega)]
    · intro acc2 ha2
      show spec_ModalityOf_L1 t y i acc2 _ = _
      unfold spec_ModalityOf_L1
      rw [hy, idx_gl g0 g1, some_bind', decF (by omega), cond_false]
    · dsimp only
      rw [fits_ok (by omega) (by omega), some_bind', w64_nat (by omega)]
      have := mapI_gl (gl ls i) (fun s => placeS (gl ls i) (clB t i s))
      congr 3
      unfold partM
      rw [← this]
      rfl
  · intro acc ha
    show spec_ModalityOf_L0 t y acc _ = _
    unfold spec_ModalityOf_L0
    rw [hy, decF (by omega), cond_false]
theorem implParts (n : Int) {R : Type} (f : List (List Int) × Int → Option (Out R (MSetMap × Int))) :
    lbind (blockM 0 (loopM (fun s : List (List Int) × Int => impl_ModalityOf_L0 t (KK t.Shape ls (covB t.Covers) n) s.1 s.2) (([] : List (List Int)), (0 : Int)))) f = f (mapI ls.length (partM t ls), (ls.length : Int)) := by
  have h8 := T.len8
  refine map_loop ls.length (partM t ls) (fun acc i => (acc, (i : Int))) rfl ?_ ?_
  · intro i acc hi ha
    have g0 : (0 : Int) ≤ (i : Int) := by omega
    have g1 : (i : Int) < ls.length := by omega
    have h16 := T.l16 g0 g1
    show impl_ModalityOf_L0 t (KK t.Shape ls (covB t.Covers) n) acc i = _
    unfold impl_ModalityOf_L0
    show (bif decide ((i : Int) < (ls.length : Int)) then (idx ls (i : Int) >>= _) else _) = _
    rw [decT (by omega), cond_true, idx_gl g0 g1, some_bind']
    refine (map_loop (gl ls i).length (fun j => placeS (gl ls i) (clB t i (gr (gl ls i) j))) (fun acc j => (acc, (j : Int))) rfl ?_ ?_).trans ?_
    · intro j acc2 hj ha2
      have hm : gr (gl ls i) (j : Int) ∈ gl ls i := gr_mem (j := (j : Int)) (by omega) (by omega)
      have hcl := clB_len F T ht i (gr (gl ls i) (j : Int))
      show impl_ModalityOf_L1 t (KK t.Shape ls (covB t.Covers) n) i (gl ls i) acc2 j = _
      unfold impl_ModalityOf_L1
      rw [decT (by omega), cond_true, idx_gr (by omega) (by omega), some_bind']
      show (impl_coverage_closure (KK t.Shape ls (covB t.Covers) n) (i : Int) (gr (gl ls i) (j : Int)) >>= _) = _
      rw [implClosure F T ht g0 g1 ((T.mem g0 g1).1 hm), some_bind', number T.cat (k := (KK t.Shape ls (covB t.Covers) n).Classifier) g0 g1 (by show (gl ls i).length ≤ _; omega) (by omega), some_bind', fits_ok (by omega) (by omega), some_bind', w64_nat (by omega)]
    · intro acc2 ha2
      show impl_ModalityOf_L1 t (KK t.Shape ls (covB t.Covers) n) i (gl ls i) acc2 _ = _
      unfold impl_ModalityOf_L1
      rw [decF (by omega), cond_false]
    · dsimp only
      rw [fits_ok (by omega) (by omega), some_bind', w64_nat (by omega)]
      have := mapI_gl (gl ls i) (fun s => placeS (gl ls i) (clB t i s))
      congr 3
      unfold partM
      rw [← this]
      rfl
  · intro acc ha
    show impl_ModalityOf_L0 t (KK t.Shape ls (covB t.Covers) n) acc _ = _
    unfold impl_ModalityOf_L0
    show (bif decide (_ < (ls.length : Int)) then (idx ls _ >>= _) else _) = _
    rw [decF (by omega), cond_false]
theorem omega_small : SFSmall (MSetFunctor.mk t.Shape (sizesOf ls) (acts t.Shape ls)) := by
  have _ := F
  have h8 := T.len8
  have hm := T.cat.m
  refine ⟨ht.c, by unfold sizesOf; rw [List.length_map]; omega, by unfold acts; rw [mapI_length]; omega, fun y hy => ?_⟩
  obtain ⟨i, hi, rfl⟩ := List.getElem_of_mem hy
  unfold acts at hi ⊢
  rw [mapI_length] at hi
  have hf := T.fr (a := (i : Int)) (by omega) (by omega)
  have h16 := T.l16 hf.1 hf.2
  have e : (mapI t.Shape.From.length (act t.Shape ls))[i]? = some (act t.Shape ls (i : Int)) := mapI_get _ hi
  rw [List.getElem?_eq_getElem (by rw [mapI_length]; exact hi)] at e
  rw [Option.some.inj e]
  unfold act
  rw [List.length_map]; omega
theorem parts_small : (mapI ls.length (partM t ls)).length ≤ 1048576 ∧ ∀ y ∈ mapI ls.length (partM t ls), y.length ≤ 1048576 := by
  have _ := F
  have _ := ht
  have h8 := T.len8
  refine ⟨by rw [mapI_length]; omega, fun y hy => ?_⟩
  obtain ⟨i, hi, rfl⟩ := List.getElem_of_mem hy
  rw [mapI_length] at hi
  have h16 := T.l16 (x := (i : Int)) (by omega) (by omega)
  have e : (mapI ls.length (partM t ls))[i]? = some (partM t ls (i : Int)) := mapI_get _ hi
  rw [List.getElem?_eq_getElem (by rw [mapI_length]; exact hi)] at e
  rw [Option.some.inj e]
  unfold partM
  rw [List.length_map]; omega
end
def smZ : MSetMap := MSetMap.mk (MSetFunctor.mk (MCategory.mk (0 : Int) [] [] [] []) [] []) (MSetFunctor.mk (MCategory.mk (0 : Int) [] [] [] []) [] []) []
theorem smZ_small : SMSmall smZ := by
  have hc : CatSmall (MCategory.mk (0 : Int) [] [] [] []) := ⟨by simp, by simp, by simp, by simp, by simp⟩
  have hf : SFSmall (MSetFunctor.mk (MCategory.mk (0 : Int) [] [] [] []) [] []) := ⟨hc, by simp, by simp, by simp⟩
  exact ⟨hf, hf, by simp [smZ], by simp [smZ]⟩
theorem modality_alike {t : MTopology} (ht : TopSmall t) : ∃ y, spec_ModalityOf t = some y ∧ impl_ModalityOf t = some y ∧ SMSmall y.1 := by
  unfold spec_ModalityOf impl_ModalityOf
  unfold impl_topologyCode
  rw [implForm ht, some_bind']
  cases hf : formB t with
  | false =>
    have : ∃ y, spec_l27Code t = some y ∧ y.2.2 = 1 := by
      unfold spec_l27Code spec_l27Read
      rw [specForm ht, some_bind', hf]
      exact ⟨_, rfl, rfl⟩
    obtain ⟨y, h1, h2⟩ := this
    refine ⟨(smZ, 1), ?_, rfl, smZ_small⟩
    rw [h1, some_bind', h2]
    rfl
  | true =>
    have F := form_of hf
    simp only [Bool.not_true, cond_false]
    rcases form_scan F with ⟨ls, T⟩ | ⟨k, ls, hk, h, hn⟩
    · obtain ⟨n, hl⟩ := implLimit F T ht
      rw [hl, specCode F T ht hf, some_bind', some_bind']
      cases e : openB t.Shape ls (covB t.Covers) with
      | true => exact ⟨(smZ, 5), rfl, rfl, smZ_small⟩
      | false =>
        have ho := omega_small F T ht
        have hp := parts_small F T ht
        refine ⟨(MSetMap.mk (MSetFunctor.mk t.Shape (sizesOf ls) (acts t.Shape ls)) (MSetFunctor.mk t.Shape (sizesOf ls) (acts t.Shape ls)) (mapI ls.length (partM t ls)), 0), ?_, ?_, ⟨ho, ho, hp.1, hp.2⟩⟩
        · show retM (spec_l25Make t.Shape ls >>= _) = _
          rw [specMake T.cat ht.c T.lists, some_bind', specParts F T ht _ rfl]
          dsimp only
          rw [specSetMap ho ho hp.1 hp.2, some_bind']; rfl
        · show retM (lbind (blockM 0 (loopM (fun s : List (List Int) × Int => impl_ModalityOf_L0 t (KK t.Shape ls (covB t.Covers) n) s.1 s.2) (([] : List (List Int)), (0 : Int)))) _) = _
          rw [implParts F T ht n]
          show retM (impl_setMap (MSetFunctor.mk t.Shape (sizesOf ls) (acts t.Shape ls)) (MSetFunctor.mk t.Shape (sizesOf ls) (acts t.Shape ls)) (mapI ls.length (partM t ls)) >>= _) = _
          rw [implSetMap T.cat ho ho hp.1 hp.2, some_bind']; rfl
    · obtain ⟨y, h1, h2⟩ := specCodeNo ht hf F hk h hn
      rw [h1, implLimitNo ht F hk h hn, some_bind', some_bind', h2]
      exact ⟨(smZ, 3), rfl, rfl, smZ_small⟩
theorem modality_law {x0 : MTopology} (hl : TopLens x0) : laws_FnExactModalityOf x0 = some true := by
  unfold laws_FnExactModalityOf
  rw [szTop hl, some_bind']
  by_cases h : (topSize x0 : Int) ≤ 1048576
  · have hn : topSize x0 ≤ 1048576 := by omega
    have hs := topSmall_of hn
    obtain ⟨y, h1, h2, hy⟩ := modality_alike hs
    obtain ⟨r, g1, g2, g3⟩ := mark_top hs hn
    obtain ⟨n, a, b, c, d, e, g, a', b', c', d', e', g', p, hn0, hm, hh⟩ := markSM hy (smCells_le hy)
    rw [if_pos h, decF (by omega), cond_false, toTop hn]
    simp only [some_bind', h1, h2, eqSM_self hy, eqTop_self hs, g1, hm, hh, Bool.not_true, cond_false, bne_self_eq_false, decF (show ¬ r.1 < 0 by omega), decF (show ¬ n < 0 by omega)]
    rfl
  · rw [if_neg h, decT (by omega), cond_true]; rfl
end Go.Proofs.YtcmckiiafgcmjaaGreat
