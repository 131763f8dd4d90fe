/- The greatest topology: the reference and the program give alike; the law, on plain data, answers true. No condition but that the lists are no longer than a machine holds. -/
import Derived.Test.YtfbijbginbjecaaGreatPm
import Derived.Test.YtfbijbginbjecaaGreatZ09
namespace Go.Proofs.YtfbijbginbjecaaGreat
open Go Go.Li
set_option linter.unusedSectionVars false

section
variable {c : MCategory} (H : Cat c)
include H
theorem specGreatest {ls : List (List (List Int))} (hs : CatSmall c) (hcat : catB c = true) (h : Lists c c.Objects.toNat ls) : spec_GreatestTopology c = some (MTopology.mk c (covP ls fun _ _ => true), 0) := by
  have ho := H.o0
  have ho8 := H.o8
  have hlen := h.len
  unfold spec_GreatestTopology
  rw [specCategory H hs hcat h, some_bind']
  dsimp only
  rw [bneF rfl, cond_false]
  refine (congrArg retM (for_all ls (fun i => ((i : Int), marksX ls (fun _ _ => true) i 0)) (by rw [marksX_zero H]; rfl) ?_ (e := ((ls.length : Int), marksX ls (fun _ _ => true) ls.length 0)) ?_)).trans ?_
  · intro i L hi
    have hi := getElem?_lt hi
    have hl := (Lists.sv H h (i := (i : Int)) (by omega) (by omega)).len
    show spec_GreatestTopology_L0 (i : Int) (marksX ls (fun _ _ => true) i 0) = _
    unfold spec_GreatestTopology_L0
    rw [decT (by unfold marksX; rw [mapI_length]; omega), cond_true]
    refine (for_all (gl ls i) (fun j => ((j : Int), marksX ls (fun _ _ => true) i j)) rfl ?_ (e := (((gl ls i).length : Int), marksX ls (fun _ _ => true) i (gl ls i).length)) ?_).trans ?_
    · intro j s hj
      have hlt := getElem?_lt hj
      show spec_GreatestTopology_L1 (i : Int) (j : Int) (marksX ls (fun _ _ => true) i j) = _
      unfold spec_GreatestTopology_L1
      rw [idx_nat, marksX_get H hi, some_bind', rowM_length H, decT (by omega), cond_true, some_bind', idx_nat, rowM_get H hlt, some_bind', w64_nat (by omega), Int.toNat_natCast, Int.toNat_natCast, marksX_set H hi hj, if_pos rfl]
    · show spec_GreatestTopology_L1 (i : Int) _ _ = _
      unfold spec_GreatestTopology_L1
      rw [idx_nat, marksX_get H hi, some_bind', rowM_length H, decF (by omega), cond_false]
    · dsimp only
      rw [w64_nat (by omega), marksX_next H]
  · show spec_GreatestTopology_L0 _ _ = _
    unfold spec_GreatestTopology_L0
    rw [decF (by unfold marksX; rw [mapI_length]; omega), cond_false]
  · dsimp only
    rw [marksX_all H, specCovers H hs h, some_bind']; rfl
end
theorem greatest_alike : Alike spec_GreatestTopology impl_GreatestTopology := by
  intro c hc
  have hs := catSmall_of hc
  cases hcat : catB c with
  | false =>
    refine ⟨topZ, 1, ?_, ?_, topZ_small⟩
    · unfold spec_GreatestTopology spec_l27Category
      rw [specIs hs, some_bind', hcat]; rfl
    · unfold impl_GreatestTopology impl_chosenTopology
      rw [implIs hs, some_bind', hcat]; rfl
  | true =>
    have H := cat_of hcat
    rcases scan H c.Objects.toNat with ⟨ls, h⟩ | ⟨k, ls, hk, h, hn⟩
    · refine ⟨_, _, specGreatest H hs hcat h, ?_, cov_small H hc h⟩
      unfold impl_GreatestTopology
      rw [chosen H (q := fun _ _ => true) hs hcat h fun i hi s hsm => rfl, some_bind']
      rfl
    · have hy := specCategoryNo H hs hcat hk h hn
      refine ⟨topZ, 3, ?_, ?_, topZ_small⟩
      · unfold spec_GreatestTopology
        rw [hy, some_bind']; rfl
      · unfold impl_GreatestTopology
        rw [chosenNo H hs hcat hk h hn, some_bind']; rfl
theorem greatest_law {x0 : MCategory} (hl : CatLens x0) (h : Alike spec_GreatestTopology impl_GreatestTopology) : laws_FnExactGreatestTopology x0 = some true := by
  unfold laws_FnExactGreatestTopology
  rw [szCat hl, some_bind']
  by_cases hc : (catSize x0 : Int) ≤ 1048576
  · rw [if_pos hc, decF (by omega), cond_false]
    have hc' : catSize x0 ≤ 1048576 := by omega
    obtain ⟨t, e, hs, hi, ht, hcells⟩ := h x0 hc'
    obtain ⟨n, a, b, c, d, k, hn, hm, hh⟩ := held_marked ht hcells
    have hsm := catSmall_of hc'
    have hmk := markCat hsm (k := 1) (by omega) (by rw [s2_eq]; unfold catSize at hc'; omega)
    simp only [toCat hc', hs, hi, some_bind', eqTop_self ht, eqCat_self hsm, hmk, hm, hh, Bool.not_true, cond_false, bne_self_eq_false, decF (show ¬ n < 0 by omega)]
    rw [decF (by omega)]
    rfl
  · rw [if_neg hc, decT (by omega), cond_true]; rfl
end Go.Proofs.YtfbijbginbjecaaGreat
