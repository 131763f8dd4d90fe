/- The law FnExactIsMonadic: for all arguments that are handed in it returns true, and what is handed in reads afterwards as it read before. No condition. -/
import Derived.Test.YtcnehblmgfbfoaaGreatRows
import Derived.Test.YtcnehblmgfbfoaaGreatWi
import Derived.Test.YtcnehblmgfbfoaaGreatKk
import Derived.Test.YtcnehblmgfbfoaaGreatQe
import Derived.Test.YtcnehblmgfbfoaaGreatQk
import Derived.ChangeSame
import Derived.ChangeSlices
import Derived.ChangeVars
import Derived.JoinedOf
import Derived.RowKit
import Derived.RowKit2
import Derived.RowKit3
import Derived.WideKeyArgs
import Derived.Handed
import Derived.ChangeAt
import Derived.Deep.OwnRows
namespace Go.Proofs.YtcnehblmgfbfoaaGreat
open Go Go.Li Go.ChangeShapes Go.WideShapes Go.ChangeAt Go.RowKit
set_option linter.unusedVariables false
theorem own : ownKnob Tryz.prog.godebug = none := by kernel_rfl
theorem laidOut : laidOutB Tryz.prog = true := by kernel_rfl
set_option maxHeartbeats 1600000 in
set_option maxRecDepth 100000 in
theorem lifted (os : Os) (started : os.Started) (H : Type) (enc : TypeId × Value → H) :
    ReturnsInHanded {} Tryz.checked os 4 .any (Rows.fnExactIsMonadicSpec.pre6 enc Tryz.prog Tryz.f4 Rows.fnExactIsMonadicRow.domain false) (Rows.fnExactIsMonadicSpec.post enc Tryz.prog Tryz.f4 false true false false) := by
  refine returnsInHanded_of_change (C := Tryz.checked) own started (by kernel_rfl) Tryz.func4
    (ChangeSpec.witness6 (enc := enc) (C := Tryz.checked) false ⟨#[], #[.agg #[.int .i64 0, .slice none 0 0, .slice none 0 0, .slice none 0 0, .slice none 0 0, .int .i64 0, .slice none 0 0, .slice none 0 0, .slice none 0 0, .slice none 0 0, .slice none 0 0, .slice none 0 0, .int .i64 0, .slice none 0 0, .slice none 0 0, .slice none 0 0, .slice none 0 0, .int .i64 0, .slice none 0 0, .slice none 0 0, .slice none 0 0, .slice none 0 0, .slice none 0 0, .slice none 0 0, .slice none 0 0, .slice none 0 0]], []⟩ 8 (by kernel_rfl) (by kernel_rfl) (by kernel_rfl) (by kernel_rfl)) ?_
  intro W base args ds gs before N6 hW _ _
  have yp : ∀ (j : Nat) t v, Tryz.f4.params[j]? = some t → args[j]? = some v → Value.okWide Tryz.prog W .any base t v := N6
  have SR := hW
  obtain ⟨p, q, V5, hV, rfl, _, _⟩ := hW
  have hA : DataW.TrodAll enc Tryz.prog W 0 (fun _ => true) true Tryz.f4.params.toList args.toList ds p := V5
  rw [Tryz.params4] at hA yp
  obtain ⟨w0, d0, rfl, rfl, h0⟩ := trodAll_one hA
  obtain ⟨rfl, rfl⟩ := trodVars_none hV
  obtain ⟨m0, EG, EH, EI, EJ, Mk, Ml, Mm, Mn, H5, H6, UB, UC, UD, UE, UF, UG, UH, UI, UJ, UK, UL, UM, H7, H8, H9, Ia, SS, SU, SV, SX, N7, N8, ahz, ahA, ahB, ahC, ahD, ahE, ahF, ahG, ahH, ahI, ahJ, ahK, rfl, Yp, Yq, Yr, Ys, Yt, Yu, Yv, Yw, UN, UO, UP, UQ, UR, US, UT, UU, UW, UX, UY, UZ, U0, U1, ze⟩ := Yx (yp 0 45 w0 rfl rfl) h0
  clear V5 N6 hA
  simp only [List.append_nil] at SR
  have bo : ∀ x ∈ p, x.block < W.heap.size := fun x hx => SR.lt x hx
  refine (oZ Yp Yq Yr Ys Yt Yu Yv Yw UN UO UP UQ UR US UT UU UW UX UY UZ U0 U1 (Fw ze)).mono fun e W' ⟨he, hg⟩ => ?_
  subst he
  have hs : W.Since W.heap.size W' := ⟨hg.os, hg.tape, hg.output, hg.size, fun k hk => hg.block k hk (by simp)⟩
  have q0 : DataW.Trod enc Tryz.prog W' 0 (fun b => decide (b < W.heap.size)) true 45 (.agg #[.int .i64 m0.Left.aA.aE, EG, EH, EI, EJ, .int .i64 m0.Left.aF.aE, Mk, Ml, Mm, Mn, H5, H6, .int .i64 m0.ae.aA.aE, UB, UC, UD, UE, .int .i64 m0.ae.aF.aE, UF, UG, UH, UI, UJ, UK, UL, UM]) d0 p :=
    WideElems.Trod_stays laidOut (by kernel_rfl) (of_decide_eq_true (by kernel_rfl)) h0 (fun x hx => hs.sameAt (bo x (by simp [hx]))) (fun x hx => by simpa using bo x (by simp [hx]))
  exact ⟨_, rfl, _, _, _, [], p, [], SR, trodAll_mk1 (shut_bool Tryz.underlying4 _), trodAll_mk1 q0, rfl, hs.frame _, fun h => by cases h⟩
theorem facts : joinedFacts Tryz.pinned.checked.prog 4 Tryz.f4 Rows.fnExactIsMonadicSpec Rows.fnExactIsMonadicRow = true := by
  unfold joinedFacts
  exact ea (ea (ea (ea (ea (ea (ea (ea (ea (ea (ea (ea (ea (ea (ea (ea (ea (ea (ea (ea (ea (ea (ea (ea (ea (ea (ea (ea (ea (ea (ea k0 k1) k2) k3) k4) k5) k6) k7) k8) k9) k10) k11) k12) k13) k14) k15) k16) k17) k18) k19) k20) k21) k22) k23) k24) k25) k26) k27) (by kernel_rfl)) k29) k30) k31
theorem fnExactIsMonadic_holds : Rows.FnExactIsMonadicSaid :=
  OpenClaim.holds_of_wide 4 Tryz.f4 rfl rfl rfl rfl rfl rfl rfl ⟨rfl, rfl, rfl, rfl, rfl⟩ rfl rfl rfl rfl rfl (by kernel_rfl) Tryz.func4 facts
    (of_decide_eq_true (by kernel_rfl)) (by unfold Func.isWrapper; first | (rw [if_pos (by decide +kernel)]; kernel_rfl) | (rw [if_neg (by decide +kernel)]; exact ⟨rfl, rfl⟩))
    (fun os started H enc _ => lifted os started H enc)
#print axioms fnExactIsMonadic_holds
end Go.Proofs.YtcnehblmgfbfoaaGreat
