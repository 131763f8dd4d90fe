/- The law FnComposedAdjunctions: for all arguments that are handed in it returns true, and what is handed in reads afterwards as it read before. No condition. -/
import Derived.Test.YtjdkifckhidlbaaGreatRows
import Derived.Test.YtjdkifckhidlbaaGreatWk
import Derived.Test.YtjdkifckhidlbaaGreatTn
import Derived.Test.YtjdkifckhidlbaaGreatQe
import Derived.Test.YtjdkifckhidlbaaGreatQk
import Derived.ChangeSame
import Derived.ChangeSlices
import Derived.ChangeVars
import Derived.JoinedOf
import Derived.RowKit
import Derived.RowKit2
import Derived.RowKit3
import Derived.WideKeyArgs
import Derived.Handed
import Derived.ChangeAt
import Derived.Deep.OwnRows
namespace Go.Proofs.YtjdkifckhidlbaaGreat
open Go Go.Li Go.ChangeShapes Go.WideShapes Go.ChangeAt Go.RowKit
set_option linter.unusedVariables false
theorem own : ownKnob Tryz.prog.godebug = none := by kernel_rfl
theorem laidOut : laidOutB Tryz.prog = true := by kernel_rfl
set_option maxHeartbeats 1600000 in
set_option maxRecDepth 100000 in
theorem lifted (os : Os) (started : os.Started) (H : Type) (enc : TypeId × Value → H) :
    ReturnsInHanded {} Tryz.checked os 6 .any (Rows.fnComposedAdjunctionsSpec.pre6 enc Tryz.prog Tryz.f6 Rows.fnComposedAdjunctionsRow.domain false) (Rows.fnComposedAdjunctionsSpec.post enc Tryz.prog Tryz.f6 false true false false) := by
  refine returnsInHanded_of_change (C := Tryz.checked) own started (by kernel_rfl) Tryz.func6
    (ChangeSpec.witness6 (enc := enc) (C := Tryz.checked) false ⟨#[], #[.slice none 0 0], []⟩ 8 (by kernel_rfl) (by kernel_rfl) (by kernel_rfl) (by kernel_rfl)) ?_
  intro W base args ds gs before SR hW _ _
  have Xx : ∀ (j : Nat) t v, Tryz.f6.params[j]? = some t → args[j]? = some v → Value.okWide Tryz.prog W .any base t v := SR
  have Xy := hW
  obtain ⟨p, q, hA0, hV, rfl, _, _⟩ := hW
  have hA : DataW.TrodAll enc Tryz.prog W 0 (fun _ => true) true Tryz.f6.params.toList args.toList ds p := hA0
  rw [Tryz.params6] at hA Xx
  obtain ⟨w0, d0, rfl, rfl, h0⟩ := trodAll_one hA
  obtain ⟨rfl, rfl⟩ := trodVars_none hV
  obtain ⟨a0, b0, c0, rfl⟩ := okWide_slice Tryz.underlying22 (Xx 0 22 w0 rfl rfl)
  obtain ⟨u0, zU⟩ := h0
  obtain ⟨x0, f0, g0, Ew⟩ := aeU (v := .slice a0 b0 c0) zU
  replace h0 : DataW.Trod enc Tryz.prog W 0 (fun _ => true) true 22 (.slice a0 b0 c0) d0 p := ⟨u0, zU⟩
  clear hA0 SR hA
  simp only [List.append_nil] at Xy
  have bj : ∀ x ∈ p, x.block < W.heap.size := fun x hx => Xy.lt x hx
  refine (oS g0 (I9 Ew)).mono fun e W' ⟨he, hg⟩ => ?_
  subst he
  have hs : W.Since W.heap.size W' := ⟨hg.os, hg.tape, hg.output, hg.size, fun k hk => hg.block k hk (by simp)⟩
  have q0 : DataW.Trod enc Tryz.prog W' 0 (fun b => decide (b < W.heap.size)) true 22 (.slice a0 b0 c0) d0 p :=
    WideElems.Trod_stays laidOut (by kernel_rfl) (of_decide_eq_true (by kernel_rfl)) h0 (fun x hx => hs.sameAt (bj x (by simp [hx]))) (fun x hx => by simpa using bj x (by simp [hx]))
  exact ⟨_, rfl, _, _, _, [], p, [], Xy, trodAll_mk1 (shut_bool Tryz.underlying4 _), trodAll_mk1 q0, rfl, hs.frame _, fun h => by cases h⟩
theorem facts : joinedFacts Tryz.pinned.checked.prog 6 Tryz.f6 Rows.fnComposedAdjunctionsSpec Rows.fnComposedAdjunctionsRow = true := by
  unfold joinedFacts
  exact ib (ib (ib (ib (ib (ib (ib (ib (ib (ib (ib (ib (ib (ib (ib (ib (ib (ib (ib (ib (ib (ib (ib (ib (ib (ib (ib (ib (ib (ib (ib k0 k1) k2) k3) k4) k5) k6) k7) k8) k9) k10) k11) k12) k13) k14) k15) k16) k17) k18) k19) k20) k21) k22) k23) k24) k25) k26) k27) (by kernel_rfl)) k29) k30) k31
theorem fnComposedAdjunctions_holds : Rows.FnComposedAdjunctionsSaid :=
  OpenClaim.holds_of_wide 6 Tryz.f6 rfl rfl rfl rfl rfl rfl rfl ⟨rfl, rfl, rfl, rfl, rfl⟩ rfl rfl rfl rfl rfl (by kernel_rfl) Tryz.func6 facts
    (of_decide_eq_true (by kernel_rfl)) (by unfold Func.isWrapper; first | (rw [if_pos (by decide +kernel)]; kernel_rfl) | (rw [if_neg (by decide +kernel)]; exact ⟨rfl, rfl⟩))
    (fun os started H enc _ => lifted os started H enc)
#print axioms fnComposedAdjunctions_holds
end Go.Proofs.YtjdkifckhidlbaaGreat
