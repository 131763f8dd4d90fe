/- The law FnExactClosedSieves: for all arguments that are handed in it returns true, and what is handed in reads afterwards as it read before. No condition. -/
import Derived.Test.YtdlhbbhdfnnmnaaGreatRows
import Derived.Test.YtdlhbbhdfnnmnaaGreatWl
import Derived.Test.YtdlhbbhdfnnmnaaGreatUh
import Derived.Test.YtdlhbbhdfnnmnaaGreatQe
import Derived.Test.YtdlhbbhdfnnmnaaGreatQk
import Derived.ChangeSame
import Derived.ChangeSlices
import Derived.ChangeVars
import Derived.JoinedOf
import Derived.RowKit
import Derived.RowKit2
import Derived.RowKit3
import Derived.WideKeyArgs
import Derived.Handed
import Derived.ChangeAt
import Derived.Deep.OwnRows
import Derived.Conc.Holds
import Derived.Leaving
namespace Go.Proofs.YtdlhbbhdfnnmnaaGreat
open Go Go.Li Go.ChangeShapes Go.WideShapes Go.ChangeAt Go.RowKit
set_option linter.unusedVariables false
theorem own : ownKnob Tryz.prog.godebug = none := by kernel_rfl
theorem laidOut : laidOutB Tryz.prog = true := by kernel_rfl
set_option maxHeartbeats 1600000 in
set_option maxRecDepth 100000 in
theorem lifted (os : Os) (started : os.Started) (H : Type) (enc : TypeId × Value → H) :
    ReturnsInHanded {} Tryz.checked os 8 .any (Rows.fnExactClosedSievesSpec.pre6 enc Tryz.prog Tryz.f8 Rows.fnExactClosedSievesRow.domain false) (Rows.fnExactClosedSievesSpec.post enc Tryz.prog Tryz.f8 false true false false) := by
  refine returnsInHanded_of_change (C := Tryz.checked) own started (by kernel_rfl) Tryz.func8
    (ChangeSpec.witness6 (enc := enc) (C := Tryz.checked) false ⟨#[], #[.agg #[.int .i64 0, .slice none 0 0, .slice none 0 0, .slice none 0 0, .slice none 0 0, .slice none 0 0], .int .i64 0], []⟩ 8 (by kernel_rfl) (by kernel_rfl) (by kernel_rfl) (by kernel_rfl)) ?_
  intro W base args ds gs before hval0 hW _ _
  have hval : ∀ (j : Nat) t v, Tryz.f8.params[j]? = some t → args[j]? = some v → Value.okWide Tryz.prog W .any base t v := hval0
  have hW' := hW
  obtain ⟨p, q, hA0, hV, rfl, _, _⟩ := hW
  have hA : DataW.TrodAll enc Tryz.prog W 0 (fun _ => true) true Tryz.f8.params.toList args.toList ds p := hA0
  rw [Tryz.params8] at hA hval
  obtain ⟨w0, w1, d0, d1, p0, p1, rfl, rfl, rfl, h0, h1⟩ := trodAll_two hA
  obtain ⟨rfl, rfl⟩ := trodVars_none hV
  obtain ⟨m0, v0_1, v0_2, v0_3, v0_4, v0_5, f0_1, f0_2, f0_3, f0_4, f0_5, rfl, g0_1, g0_2, g0_3, g0_4, g0_5, hl0⟩ := ar75 (hval 0 75 w0 rfl rfl) h0
  obtain ⟨n1, rfl⟩ := okWide_int Tryz.underlying2 (hval 1 2 w1 rfl rfl)
  clear hA0 hval0 hA
  simp only [List.append_nil] at hW'
  have hlt : ∀ x ∈ p0 ++ p1, x.block < W.heap.size := fun x hx => hW'.lt x hx
  refine (laws_FnExactClosedSieves_calls g0_1 g0_2 g0_3 g0_4 g0_5 (closed_law hl0 n1)).mono fun e W' ⟨he, hg⟩ => ?_
  subst he
  have hs : W.Since W.heap.size W' := ⟨hg.os, hg.tape, hg.output, hg.size, fun k hk => hg.block k hk (by simp)⟩
  have q0 : DataW.Trod enc Tryz.prog W' 0 (fun b => decide (b < W.heap.size)) true 75 (.agg #[.int .i64 m0.Shape.Objects, v0_1, v0_2, v0_3, v0_4, v0_5]) d0 p0 :=
    WideElems.Trod_stays laidOut (by kernel_rfl) (of_decide_eq_true (by kernel_rfl)) h0 (fun x hx => hs.sameAt (hlt x (by simp [hx]))) (fun x hx => by simpa using hlt x (by simp [hx]))
  have q1 : DataW.Trod enc Tryz.prog W' 0 (fun b => decide (b < W.heap.size)) true 2 (.int .i64 n1) d1 p1 :=
    WideElems.Trod_stays laidOut (by kernel_rfl) (of_decide_eq_true (by kernel_rfl)) h1 (fun x hx => hs.sameAt (hlt x (by simp [hx]))) (fun x hx => by simpa using hlt x (by simp [hx]))
  exact ⟨_, rfl, _, _, _, [], p0 ++ p1, [], hW', trodAll_mk1 (shut_bool Tryz.underlying4 _), trodAll_mk2 q0 q1, rfl, hs.frame _, fun h => by cases h⟩
theorem leaves {a : Assume} {C : Checked} {os : Os} {f : FuncId} {r : Reach} {Pre : World → Array Value → Prop} {Post : World → Array Value → Value → World → Prop} (h : ReturnsInHanded a C os f r Pre Post) : ReturnsInLeavingWide a C os f r Pre Post := fun enter => by
  obtain ⟨e, own, st, wit, runs⟩ := h enter
  refine ⟨e, own, st, wit, fun w tape i hf => ?_⟩
  obtain ⟨n, v, w', h1, h2, h3, h4, ⟨j, last, g1, g2, g3⟩, h5⟩ := runs w tape i hf
  exact ⟨n, v, w', h1, h2, h3, h4, ⟨j, last, g1, g2, g3.2.1, onlyLeaving_of_quiet g3.1, g3.2.2⟩, h5⟩
theorem facts : joinedFacts Tryz.pinned.checked.prog 8 Tryz.f8 Rows.fnExactClosedSievesSpec Rows.fnExactClosedSievesRow = true := by
  unfold joinedFacts
  exact and_mk (and_mk (and_mk (and_mk (and_mk (and_mk (and_mk (and_mk (and_mk (and_mk (and_mk (and_mk (and_mk (and_mk (and_mk (and_mk (and_mk (and_mk (and_mk (and_mk (and_mk (and_mk (and_mk (and_mk (and_mk (and_mk (and_mk (and_mk (and_mk (and_mk (and_mk k0 k1) k2) k3) k4) k5) k6) k7) k8) k9) k10) k11) k12) k13) k14) k15) k16) k17) k18) k19) k20) k21) k22) k23) k24) k25) k26) k27) (by kernel_rfl)) k29) k30) k31
theorem fnExactClosedSieves_holds : Rows.FnExactClosedSievesSaid :=
  OpenClaim.holds_of_wide_leaving 8 Tryz.f8 rfl rfl rfl rfl rfl rfl rfl ⟨rfl, rfl, rfl, rfl, rfl⟩ rfl rfl rfl rfl rfl (by kernel_rfl) Tryz.func8 facts
    (of_decide_eq_true (by kernel_rfl)) (by unfold Func.isWrapper; first | (rw [if_pos (by decide +kernel)]; kernel_rfl) | (rw [if_neg (by decide +kernel)]; exact ⟨rfl, rfl⟩))
    (fun os started H enc _ => leaves (lifted os started H enc))
#print axioms fnExactClosedSieves_holds
end Go.Proofs.YtdlhbbhdfnnmnaaGreat
