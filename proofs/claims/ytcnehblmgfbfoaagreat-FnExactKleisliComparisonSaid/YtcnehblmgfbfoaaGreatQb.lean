/- The law FnExactKleisliComparison: for all arguments that are handed in it returns true, and what is handed in reads afterwards as it read before. No condition. -/
import Derived.Test.YtcnehblmgfbfoaaGreatRows
import Derived.Test.YtcnehblmgfbfoaaGreatWm
import Derived.Test.YtcnehblmgfbfoaaGreatKj
import Derived.Test.YtcnehblmgfbfoaaGreatQe
import Derived.Test.YtcnehblmgfbfoaaGreatQk
import Derived.ChangeSame
import Derived.ChangeSlices
import Derived.ChangeVars
import Derived.JoinedOf
import Derived.RowKit
import Derived.RowKit2
import Derived.RowKit3
import Derived.WideKeyArgs
import Derived.Handed
import Derived.ChangeAt
import Derived.Deep.OwnRows
namespace Go.Proofs.YtcnehblmgfbfoaaGreat
open Go Go.Li Go.ChangeShapes Go.WideShapes Go.ChangeAt Go.RowKit
set_option linter.unusedVariables false
theorem own : ownKnob Tryz.prog.godebug = none := by kernel_rfl
theorem laidOut : laidOutB Tryz.prog = true := by kernel_rfl
set_option maxHeartbeats 1600000 in
set_option maxRecDepth 100000 in
theorem lifted (os : Os) (started : os.Started) (H : Type) (enc : TypeId × Value → H) :
    ReturnsInHanded {} Tryz.checked os 3 .any (Rows.fnExactKleisliComparisonSpec.pre6 enc Tryz.prog Tryz.f3 Rows.fnExactKleisliComparisonRow.domain false) (Rows.fnExactKleisliComparisonSpec.post enc Tryz.prog Tryz.f3 false true false false) := by
  refine returnsInHanded_of_change (C := Tryz.checked) own started (by kernel_rfl) Tryz.func3
    (ChangeSpec.witness6 (enc := enc) (C := Tryz.checked) false ⟨#[], #[.agg #[.int .i64 0, .slice none 0 0, .slice none 0 0, .slice none 0 0, .slice none 0 0, .int .i64 0, .slice none 0 0, .slice none 0 0, .slice none 0 0, .slice none 0 0, .slice none 0 0, .slice none 0 0, .slice none 0 0, .slice none 0 0]], []⟩ 8 (by kernel_rfl) (by kernel_rfl) (by kernel_rfl) (by kernel_rfl)) ?_
  intro W base args ds gs before MA hW _ _
  have xQ : ∀ (j : Nat) t v, Tryz.f3.params[j]? = some t → args[j]? = some v → Value.okWide Tryz.prog W .any base t v := MA
  have Ro := hW
  obtain ⟨p, q, Uw, hV, rfl, _, _⟩ := hW
  have hA : DataW.TrodAll enc Tryz.prog W 0 (fun _ => true) true Tryz.f3.params.toList args.toList ds p := Uw
  rw [Tryz.params3] at hA xQ
  obtain ⟨w0, d0, rfl, rfl, h0⟩ := trodAll_one hA
  obtain ⟨rfl, rfl⟩ := trodVars_none hV
  obtain ⟨m0, DM, DN, DO, DP, KZ, K0, K1, K2, GU, GV, Tk, Tl, GW, GX, GY, GZ, Rp, Rq, Rs, Ru, MB, MC, afw, afx, rfl, W0, W1, W2, W3, W4, W5, W6, W7, Tn, Tp, Tq, Tr, yB⟩ := W8 (xQ 0 29 w0 rfl rfl) h0
  clear Uw MA hA
  simp only [List.append_nil] at Ro
  have bj : ∀ x ∈ p, x.block < W.heap.size := fun x hx => Ro.lt x hx
  refine (lP W0 W1 W2 W3 W4 W5 W6 W7 Tn Tp Tq Tr (Ek yB)).mono fun e W' ⟨he, hg⟩ => ?_
  subst he
  have hs : W.Since W.heap.size W' := ⟨hg.os, hg.tape, hg.output, hg.size, fun k hk => hg.block k hk (by simp)⟩
  have q0 : DataW.Trod enc Tryz.prog W' 0 (fun b => decide (b < W.heap.size)) true 29 (.agg #[.int .i64 m0.On.aB.aD, DM, DN, DO, DP, .int .i64 m0.On.aE.aD, KZ, K0, K1, K2, GU, GV, Tk, Tl]) d0 p :=
    WideElems.Trod_stays laidOut (by kernel_rfl) (of_decide_eq_true (by kernel_rfl)) h0 (fun x hx => hs.sameAt (bj x (by simp [hx]))) (fun x hx => by simpa using bj x (by simp [hx]))
  exact ⟨_, rfl, _, _, _, [], p, [], Ro, trodAll_mk1 (shut_bool Tryz.underlying4 _), trodAll_mk1 q0, rfl, hs.frame _, fun h => by cases h⟩
theorem facts : joinedFacts Tryz.pinned.checked.prog 3 Tryz.f3 Rows.fnExactKleisliComparisonSpec Rows.fnExactKleisliComparisonRow = true := by
  unfold joinedFacts
  exact dp (dp (dp (dp (dp (dp (dp (dp (dp (dp (dp (dp (dp (dp (dp (dp (dp (dp (dp (dp (dp (dp (dp (dp (dp (dp (dp (dp (dp (dp (dp k0 k1) k2) k3) k4) k5) k6) k7) k8) k9) k10) k11) k12) k13) k14) k15) k16) k17) k18) k19) k20) k21) k22) k23) k24) k25) k26) k27) (by kernel_rfl)) k29) k30) k31
theorem fnExactKleisliComparison_holds : Rows.FnExactKleisliComparisonSaid :=
  OpenClaim.holds_of_wide 3 Tryz.f3 rfl rfl rfl rfl rfl rfl rfl ⟨rfl, rfl, rfl, rfl, rfl⟩ rfl rfl rfl rfl rfl (by kernel_rfl) Tryz.func3 facts
    (of_decide_eq_true (by kernel_rfl)) (by unfold Func.isWrapper; first | (rw [if_pos (by decide +kernel)]; kernel_rfl) | (rw [if_neg (by decide +kernel)]; exact ⟨rfl, rfl⟩))
    (fun os started H enc _ => lifted os started H enc)
#print axioms fnExactKleisliComparison_holds
end Go.Proofs.YtcnehblmgfbfoaaGreat
