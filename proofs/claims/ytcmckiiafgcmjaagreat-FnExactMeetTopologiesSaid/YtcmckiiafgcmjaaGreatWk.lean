/- Walks by the calculus D. No condition beside those that each theorem names. -/
import Derived.Test.YtcmckiiafgcmjaaGreatDi
import Derived.Test.YtcmckiiafgcmjaaGreatMo
import Derived.Test.YtcmckiiafgcmjaaGreatSo
import Derived.Test.YtcmckiiafgcmjaaGreatWe
import Derived.Test.YtcmckiiafgcmjaaGreatWf
import Derived.Test.YtcmckiiafgcmjaaGreatWg
import Derived.Test.YtcmckiiafgcmjaaGreatWh
import Derived.Test.YtcmckiiafgcmjaaGreatWi
import Derived.Test.YtcmckiiafgcmjaaGreatWj
namespace Go.Proofs.YtcmckiiafgcmjaaGreat
open Go Go.Li Go.Dk
set_option linter.unusedVariables false
set_option maxHeartbeats 1000000
set_option maxRecDepth 100000
theorem c9 {x0 : MTopology} {v_x0_Shape_From : Value} {v_x0_Shape_To : Value} {v_x0_Shape_Identity : Value} {v_x0_Shape_Composites : Value} {v_x0_Covers : Value} {x1 : MTopology} {v_x1_Shape_From : Value} {v_x1_Shape_To : Value} {v_x1_Shape_Identity : Value} {v_x1_Shape_Composites : Value} {v_x1_Covers : Value} : Ct Tryz.prog 9 true (laws_FnExactMeetTopologies x0 x1) [.agg #[.int .i64 (x0.Shape.Objects), v_x0_Shape_From, v_x0_Shape_To, v_x0_Shape_Identity, v_x0_Shape_Composites, v_x0_Covers], .agg #[.int .i64 (x1.Shape.Objects), v_x1_Shape_From, v_x1_Shape_To, v_x1_Shape_Identity, v_x1_Shape_Composites, v_x1_Covers]] [.rd false (sImm (sInt .i64)) v_x0_Shape_From x0.Shape.From, .rd false (sImm (sInt .i64)) v_x0_Shape_To x0.Shape.To, .rd false (sImm (sInt .i64)) v_x0_Shape_Identity x0.Shape.Identity, .rd false (sImm (sImm (sInt .i64))) v_x0_Shape_Composites x0.Shape.Composites, .rd false (sImm (sImm (sImm (sInt .i64)))) v_x0_Covers x0.Covers, .rd false (sImm (sInt .i64)) v_x1_Shape_From x1.Shape.From, .rd false (sImm (sInt .i64)) v_x1_Shape_To x1.Shape.To, .rd false (sImm (sInt .i64)) v_x1_Shape_Identity x1.Shape.Identity, .rd false (sImm (sImm (sInt .i64))) v_x1_Shape_Composites x1.Shape.Composites, .rd false (sImm (sImm (sImm (sInt .i64)))) v_x1_Covers x1.Covers] (fun y (_ : Unit) => [.bool y]) (fun y _ => []) := by
  refine ct (S := Unit) (owt fun _ _ => rfl) Tryz.func9 rfl rfl ?_
  repeat' first
    | intro _
    | exact rfl
    | (refine @id.{0} _ ?_; constructor)
    | apply Dk.any (id := 8) 9 [7] [] [[], [0], [], [2, 1, 0], [1, 0, 3, 2, 1, 0, 3, 2, 1, 0], [4, 1, 0, 3, 2, 1, 0, 3, 2, 1, 0], [5, 4, 1, 0, 3, 2, 1, 0, 3, 2, 1, 0], [5, 4, 1, 0, 3, 2, 1, 0, 3, 2, 1, 0], []] (by kernel_rfl)
    | apply Dk.any (id := 14) 3 [] [] [[], [], [1]] (by kernel_rfl)
    | apply Dk.any (id := 16) 3 [] [] [[], [], [1]] (by kernel_rfl)
    | apply Dk.any (id := 31) 9 [7] [] [[], [0], [], [2, 1, 0], [1, 0, 3, 2, 1, 0, 3, 2, 1, 0], [4, 1, 0, 3, 2, 1, 0, 3, 2, 1, 0], [5, 4, 1, 0, 3, 2, 1, 0, 3, 2, 1, 0], [5, 4, 1, 0, 3, 2, 1, 0, 3, 2, 1, 0], []] (by kernel_rfl)
    | apply c15
    | apply c17
    | apply c46
    | apply c47
    | apply c19
    | apply c24
    | apply c36
    | exact ()
theorem laws_FnExactMeetTopologies_calls {w : World} {x0 : MTopology} {v_x0_Shape_From : Value} {f_x0_Shape_From : List Nat} {v_x0_Shape_To : Value} {f_x0_Shape_To : List Nat} {v_x0_Shape_Identity : Value} {f_x0_Shape_Identity : List Nat} {v_x0_Shape_Composites : Value} {f_x0_Shape_Composites : List Nat} {v_x0_Covers : Value} {f_x0_Covers : List Nat} {x1 : MTopology} {v_x1_Shape_From : Value} {f_x1_Shape_From : List Nat} {v_x1_Shape_To : Value} {f_x1_Shape_To : List Nat} {v_x1_Shape_Identity : Value} {f_x1_Shape_Identity : List Nat} {v_x1_Shape_Composites : Value} {f_x1_Shape_Composites : List Nat} {v_x1_Covers : Value} {f_x1_Covers : List Nat} (h_x0_Shape_From : (sImm (sInt .i64)).rep w.heap [v_x0_Shape_From] x0.Shape.From f_x0_Shape_From) (h_x0_Shape_To : (sImm (sInt .i64)).rep w.heap [v_x0_Shape_To] x0.Shape.To f_x0_Shape_To) (h_x0_Shape_Identity : (sImm (sInt .i64)).rep w.heap [v_x0_Shape_Identity] x0.Shape.Identity f_x0_Shape_Identity) (h_x0_Shape_Composites : (sImm (sImm (sInt .i64))).rep w.heap [v_x0_Shape_Composites] x0.Shape.Composites f_x0_Shape_Composites) (h_x0_Covers : (sImm (sImm (sImm (sInt .i64)))).rep w.heap [v_x0_Covers] x0.Covers f_x0_Covers) (h_x1_Shape_From : (sImm (sInt .i64)).rep w.heap [v_x1_Shape_From] x1.Shape.From f_x1_Shape_From) (h_x1_Shape_To : (sImm (sInt .i64)).rep w.heap [v_x1_Shape_To] x1.Shape.To f_x1_Shape_To) (h_x1_Shape_Identity : (sImm (sInt .i64)).rep w.heap [v_x1_Shape_Identity] x1.Shape.Identity f_x1_Shape_Identity) (h_x1_Shape_Composites : (sImm (sImm (sInt .i64))).rep w.heap [v_x1_Shape_Composites] x1.Shape.Composites f_x1_Shape_Composites) (h_x1_Covers : (sImm (sImm (sImm (sInt .i64)))).rep w.heap [v_x1_Covers] x1.Covers f_x1_Covers) {y : (Bool)} (hm : laws_FnExactMeetTopologies x0 x1 = some y) : Calls Tryz.prog 9 #[.agg #[.int .i64 (x0.Shape.Objects), v_x0_Shape_From, v_x0_Shape_To, v_x0_Shape_Identity, v_x0_Shape_Composites, v_x0_Covers], .agg #[.int .i64 (x1.Shape.Objects), v_x1_Shape_From, v_x1_Shape_To, v_x1_Shape_Identity, v_x1_Shape_Composites, v_x1_Covers]] w (fun e w' => e = .returned (.bool y) ∧ Chg [] w w') :=
  ct_read c9 (.fact (fact_rd h_x0_Shape_From) (.fact (fact_rd h_x0_Shape_To) (.fact (fact_rd h_x0_Shape_Identity) (.fact (fact_rd h_x0_Shape_Composites) (.fact (fact_rd h_x0_Covers) (.fact (fact_rd h_x1_Shape_From) (.fact (fact_rd h_x1_Shape_To) (.fact (fact_rd h_x1_Shape_Identity) (.fact (fact_rd h_x1_Shape_Composites) (.fact (fact_rd h_x1_Covers) (.nil))))))))))) hm
end Go.Proofs.YtcmckiiafgcmjaaGreat
