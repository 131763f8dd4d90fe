/- The law FnMapsOfElements: for all arguments that are handed in it returns true, and what is handed in reads afterwards as it read before. No condition. -/
import Derived.Test.YtcnehblmgfbfoaaGreatRows
import Derived.Test.YtcnehblmgfbfoaaGreatWm
import Derived.Test.YtcnehblmgfbfoaaGreatKs
import Derived.Test.YtcnehblmgfbfoaaGreatQe
import Derived.Test.YtcnehblmgfbfoaaGreatQk
import Derived.ChangeSame
import Derived.ChangeSlices
import Derived.ChangeVars
import Derived.JoinedOf
import Derived.RowKit
import Derived.RowKit2
import Derived.RowKit3
import Derived.WideKeyArgs
import Derived.Handed
import Derived.ChangeAt
import Derived.Deep.OwnRows
namespace Go.Proofs.YtcnehblmgfbfoaaGreat
open Go Go.Li Go.ChangeShapes Go.WideShapes Go.ChangeAt Go.RowKit
set_option linter.unusedVariables false
theorem own : ownKnob Tryz.prog.godebug = none := by kernel_rfl
theorem laidOut : laidOutB Tryz.prog = true := by kernel_rfl
set_option maxHeartbeats 1600000 in
set_option maxRecDepth 100000 in
theorem lifted (os : Os) (started : os.Started) (H : Type) (enc : TypeId × Value → H) :
    ReturnsInHanded {} Tryz.checked os 7 .any (Rows.fnMapsOfElementsSpec.pre6 enc Tryz.prog Tryz.f7 Rows.fnMapsOfElementsRow.domain false) (Rows.fnMapsOfElementsSpec.post enc Tryz.prog Tryz.f7 false true false false) := by
  refine returnsInHanded_of_change (C := Tryz.checked) own started (by kernel_rfl) Tryz.func7
    (ChangeSpec.witness6 (enc := enc) (C := Tryz.checked) false ⟨#[], #[.slice none 0 0], []⟩ 8 (by kernel_rfl) (by kernel_rfl) (by kernel_rfl) (by kernel_rfl)) ?_
  intro W base args ds gs before TF hW _ _
  have Yr : ∀ (j : Nat) t v, Tryz.f7.params[j]? = some t → args[j]? = some v → Value.okWide Tryz.prog W .any base t v := TF
  have Ys := hW
  obtain ⟨p, q, hA0, hV, rfl, _, _⟩ := hW
  have hA : DataW.TrodAll enc Tryz.prog W 0 (fun _ => true) true Tryz.f7.params.toList args.toList ds p := hA0
  rw [Tryz.params7] at hA Yr
  obtain ⟨w0, d0, rfl, rfl, h0⟩ := trodAll_one hA
  obtain ⟨rfl, rfl⟩ := trodVars_none hV
  obtain ⟨a0, b0, c0, rfl⟩ := okWide_slice Tryz.underlying54 (Yr 0 54 w0 rfl rfl)
  obtain ⟨u0, Dw⟩ := h0
  obtain ⟨x0, f0, g0, BM⟩ := afw (v := .slice a0 b0 c0) Dw
  replace h0 : DataW.Trod enc Tryz.prog W 0 (fun _ => true) true 54 (.slice a0 b0 c0) d0 p := ⟨u0, Dw⟩
  clear hA0 TF hA
  simp only [List.append_nil] at Ys
  have bb : ∀ x ∈ p, x.block < W.heap.size := fun x hx => Ys.lt x hx
  refine (qM g0 (Q8 BM)).mono fun e W' ⟨he, hg⟩ => ?_
  subst he
  have hs : W.Since W.heap.size W' := ⟨hg.os, hg.tape, hg.output, hg.size, fun k hk => hg.block k hk (by simp)⟩
  have q0 : DataW.Trod enc Tryz.prog W' 0 (fun b => decide (b < W.heap.size)) true 54 (.slice a0 b0 c0) d0 p :=
    WideElems.Trod_stays laidOut (by kernel_rfl) (of_decide_eq_true (by kernel_rfl)) h0 (fun x hx => hs.sameAt (bb x (by simp [hx]))) (fun x hx => by simpa using bb x (by simp [hx]))
  exact ⟨_, rfl, _, _, _, [], p, [], Ys, trodAll_mk1 (shut_bool Tryz.underlying4 _), trodAll_mk1 q0, rfl, hs.frame _, fun h => by cases h⟩
theorem facts : joinedFacts Tryz.pinned.checked.prog 7 Tryz.f7 Rows.fnMapsOfElementsSpec Rows.fnMapsOfElementsRow = true := by
  unfold joinedFacts
  exact gp (gp (gp (gp (gp (gp (gp (gp (gp (gp (gp (gp (gp (gp (gp (gp (gp (gp (gp (gp (gp (gp (gp (gp (gp (gp (gp (gp (gp (gp (gp k0 k1) k2) k3) k4) k5) k6) k7) k8) k9) k10) k11) k12) k13) k14) k15) k16) k17) k18) k19) k20) k21) k22) k23) k24) k25) k26) k27) (by kernel_rfl)) k29) k30) k31
theorem fnMapsOfElements_holds : Rows.FnMapsOfElementsSaid :=
  OpenClaim.holds_of_wide 7 Tryz.f7 rfl rfl rfl rfl rfl rfl rfl ⟨rfl, rfl, rfl, rfl, rfl⟩ rfl rfl rfl rfl rfl (by kernel_rfl) Tryz.func7 facts
    (of_decide_eq_true (by kernel_rfl)) (by unfold Func.isWrapper; first | (rw [if_pos (by decide +kernel)]; kernel_rfl) | (rw [if_neg (by decide +kernel)]; exact ⟨rfl, rfl⟩))
    (fun os started H enc _ => lifted os started H enc)
#print axioms fnMapsOfElements_holds
end Go.Proofs.YtcnehblmgfbfoaaGreat
