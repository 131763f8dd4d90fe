/- The law of the least topology, on plain data, answers true where the reference and the program give alike. No condition but that the lists are no longer than a machine holds. -/
import Derived.Test.YtfbijbginbjecaaGreatPm
import Derived.Test.YtfbijbginbjecaaGreatZ08
namespace Go.Proofs.YtfbijbginbjecaaGreat
open Go Go.Li
set_option linter.unusedSectionVars false

theorem least_law {x0 : MCategory} (hl : CatLens x0) (h : Alike spec_LeastTopology impl_LeastTopology) : laws_FnExactLeastTopology x0 = some true := by
  unfold laws_FnExactLeastTopology
  rw [szCat hl, some_bind']
  by_cases hc : (catSize x0 : Int) ≤ 1048576
  · rw [if_pos hc, decF (by omega), cond_false]
    have hc' : catSize x0 ≤ 1048576 := by omega
    obtain ⟨t, e, hs, hi, ht, hcells⟩ := h x0 hc'
    obtain ⟨n, a, b, c, d, k, hn, hm, hh⟩ := held_marked ht hcells
    have hsm := catSmall_of hc'
    have hmk := markCat hsm (k := 1) (by omega) (by rw [s2_eq]; unfold catSize at hc'; omega)
    simp only [toCat hc', hs, hi, some_bind', eqTop_self ht, eqCat_self hsm, hmk, hm, hh, Bool.not_true, cond_false, bne_self_eq_false, decF (show ¬ n < 0 by omega)]
    rw [decF (by omega)]
    rfl
  · rw [if_neg hc, decT (by omega), cond_true]; rfl
end Go.Proofs.YtfbijbginbjecaaGreat
