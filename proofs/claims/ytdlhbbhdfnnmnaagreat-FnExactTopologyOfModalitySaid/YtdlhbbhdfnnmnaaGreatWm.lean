/- Walks by the calculus D. No condition beside those that each theorem names. -/
import Derived.Test.YtdlhbbhdfnnmnaaGreatDi
import Derived.Test.YtdlhbbhdfnnmnaaGreatMo
import Derived.Test.YtdlhbbhdfnnmnaaGreatDs
import Derived.Test.YtdlhbbhdfnnmnaaGreatSo
import Derived.Test.YtdlhbbhdfnnmnaaGreatWe
import Derived.Test.YtdlhbbhdfnnmnaaGreatWf
import Derived.Test.YtdlhbbhdfnnmnaaGreatWg
import Derived.Test.YtdlhbbhdfnnmnaaGreatWi
import Derived.Test.YtdlhbbhdfnnmnaaGreatWj
import Derived.Test.YtdlhbbhdfnnmnaaGreatWk
import Derived.Test.YtdlhbbhdfnnmnaaGreatWl
namespace Go.Proofs.YtdlhbbhdfnnmnaaGreat
open Go Go.Li Go.Dk
set_option linter.unusedVariables false
set_option maxHeartbeats 1000000
set_option maxRecDepth 100000
theorem c12 {x0 : MCategory} {v_x0_From : Value} {v_x0_To : Value} {v_x0_Identity : Value} {v_x0_Composites : Value} {x1 : MSetMap} {v_x1_Source_Shape_From : Value} {v_x1_Source_Shape_To : Value} {v_x1_Source_Shape_Identity : Value} {v_x1_Source_Shape_Composites : Value} {v_x1_Source_Sizes : Value} {v_x1_Source_Actions : Value} {v_x1_Target_Shape_From : Value} {v_x1_Target_Shape_To : Value} {v_x1_Target_Shape_Identity : Value} {v_x1_Target_Shape_Composites : Value} {v_x1_Target_Sizes : Value} {v_x1_Target_Actions : Value} {v_x1_Parts : Value} : Ct Tryz.prog 12 true (laws_FnExactTopologyOfModality x0 x1) [.agg #[.int .i64 (x0.Objects), v_x0_From, v_x0_To, v_x0_Identity, v_x0_Composites], .agg #[.int .i64 (x1.Source.Shape.Objects), v_x1_Source_Shape_From, v_x1_Source_Shape_To, v_x1_Source_Shape_Identity, v_x1_Source_Shape_Composites, v_x1_Source_Sizes, v_x1_Source_Actions, .int .i64 (x1.Target.Shape.Objects), v_x1_Target_Shape_From, v_x1_Target_Shape_To, v_x1_Target_Shape_Identity, v_x1_Target_Shape_Composites, v_x1_Target_Sizes, v_x1_Target_Actions, v_x1_Parts]] [.rd false (sImm (sInt .i64)) v_x0_From x0.From, .rd false (sImm (sInt .i64)) v_x0_To x0.To, .rd false (sImm (sInt .i64)) v_x0_Identity x0.Identity, .rd false (sImm (sImm (sInt .i64))) v_x0_Composites x0.Composites, .rd false (sImm (sInt .i64)) v_x1_Source_Shape_From x1.Source.Shape.From, .rd false (sImm (sInt .i64)) v_x1_Source_Shape_To x1.Source.Shape.To, .rd false (sImm (sInt .i64)) v_x1_Source_Shape_Identity x1.Source.Shape.Identity, .rd false (sImm (sImm (sInt .i64))) v_x1_Source_Shape_Composites x1.Source.Shape.Composites, .rd false (sImm (sInt .i64)) v_x1_Source_Sizes x1.Source.Sizes, .rd false (sImm (sImm (sInt .i64))) v_x1_Source_Actions x1.Source.Actions, .rd false (sImm (sInt .i64)) v_x1_Target_Shape_From x1.Target.Shape.From, .rd false (sImm (sInt .i64)) v_x1_Target_Shape_To x1.Target.Shape.To, .rd false (sImm (sInt .i64)) v_x1_Target_Shape_Identity x1.Target.Shape.Identity, .rd false (sImm (sImm (sInt .i64))) v_x1_Target_Shape_Composites x1.Target.Shape.Composites, .rd false (sImm (sInt .i64)) v_x1_Target_Sizes x1.Target.Sizes, .rd false (sImm (sImm (sInt .i64))) v_x1_Target_Actions x1.Target.Actions, .rd false (sImm (sImm (sInt .i64))) v_x1_Parts x1.Parts] (fun y (_ : Unit) => [.bool y]) (fun y _ => []) := by
  refine ct (S := Unit) (owt fun _ _ => rfl) Tryz.func12 rfl rfl ?_
  repeat' first
    | intro _
    | exact rfl
    | (refine @id.{0} _ ?_; constructor)
    | apply Dk.any (id := 8) 9 [7] [] [[], [0], [], [2, 1, 0], [1, 0, 3, 2, 1, 0, 3, 2, 1, 0], [4, 1, 0, 3, 2, 1, 0, 3, 2, 1, 0], [5, 4, 1, 0, 3, 2, 1, 0, 3, 2, 1, 0], [5, 4, 1, 0, 3, 2, 1, 0, 3, 2, 1, 0], []] (by kernel_rfl)
    | apply Dk.any (id := 14) 3 [] [] [[], [], [1]] (by kernel_rfl)
    | apply Dk.any (id := 16) 3 [] [] [[], [], [1]] (by kernel_rfl)
    | apply Dk.any (id := 31) 9 [7] [] [[], [0], [], [2, 1, 0], [1, 0, 3, 2, 1, 0, 3, 2, 1, 0], [4, 1, 0, 3, 2, 1, 0, 3, 2, 1, 0], [5, 4, 1, 0, 3, 2, 1, 0, 3, 2, 1, 0], [5, 4, 1, 0, 3, 2, 1, 0, 3, 2, 1, 0], []] (by kernel_rfl)
    | apply c55
    | apply c15
    | apply c57
    | apply c17
    | apply c66
    | apply c67
    | apply c51
    | apply c60
    | apply c21
    | apply c61
    | apply c22
    | apply c52
    | apply c68
    | exact ()
theorem laws_FnExactTopologyOfModality_calls {w : World} {x0 : MCategory} {v_x0_From : Value} {f_x0_From : List Nat} {v_x0_To : Value} {f_x0_To : List Nat} {v_x0_Identity : Value} {f_x0_Identity : List Nat} {v_x0_Composites : Value} {f_x0_Composites : List Nat} {x1 : MSetMap} {v_x1_Source_Shape_From : Value} {f_x1_Source_Shape_From : List Nat} {v_x1_Source_Shape_To : Value} {f_x1_Source_Shape_To : List Nat} {v_x1_Source_Shape_Identity : Value} {f_x1_Source_Shape_Identity : List Nat} {v_x1_Source_Shape_Composites : Value} {f_x1_Source_Shape_Composites : List Nat} {v_x1_Source_Sizes : Value} {f_x1_Source_Sizes : List Nat} {v_x1_Source_Actions : Value} {f_x1_Source_Actions : List Nat} {v_x1_Target_Shape_From : Value} {f_x1_Target_Shape_From : List Nat} {v_x1_Target_Shape_To : Value} {f_x1_Target_Shape_To : List Nat} {v_x1_Target_Shape_Identity : Value} {f_x1_Target_Shape_Identity : List Nat} {v_x1_Target_Shape_Composites : Value} {f_x1_Target_Shape_Composites : List Nat} {v_x1_Target_Sizes : Value} {f_x1_Target_Sizes : List Nat} {v_x1_Target_Actions : Value} {f_x1_Target_Actions : List Nat} {v_x1_Parts : Value} {f_x1_Parts : List Nat} (h_x0_From : (sImm (sInt .i64)).rep w.heap [v_x0_From] x0.From f_x0_From) (h_x0_To : (sImm (sInt .i64)).rep w.heap [v_x0_To] x0.To f_x0_To) (h_x0_Identity : (sImm (sInt .i64)).rep w.heap [v_x0_Identity] x0.Identity f_x0_Identity) (h_x0_Composites : (sImm (sImm (sInt .i64))).rep w.heap [v_x0_Composites] x0.Composites f_x0_Composites) (h_x1_Source_Shape_From : (sImm (sInt .i64)).rep w.heap [v_x1_Source_Shape_From] x1.Source.Shape.From f_x1_Source_Shape_From) (h_x1_Source_Shape_To : (sImm (sInt .i64)).rep w.heap [v_x1_Source_Shape_To] x1.Source.Shape.To f_x1_Source_Shape_To) (h_x1_Source_Shape_Identity : (sImm (sInt .i64)).rep w.heap [v_x1_Source_Shape_Identity] x1.Source.Shape.Identity f_x1_Source_Shape_Identity) (h_x1_Source_Shape_Composites : (sImm (sImm (sInt .i64))).rep w.heap [v_x1_Source_Shape_Composites] x1.Source.Shape.Composites f_x1_Source_Shape_Composites) (h_x1_Source_Sizes : (sImm (sInt .i64)).rep w.heap [v_x1_Source_Sizes] x1.Source.Sizes f_x1_Source_Sizes) (h_x1_Source_Actions : (sImm (sImm (sInt .i64))).rep w.heap [v_x1_Source_Actions] x1.Source.Actions f_x1_Source_Actions) (h_x1_Target_Shape_From : (sImm (sInt .i64)).rep w.heap [v_x1_Target_Shape_From] x1.Target.Shape.From f_x1_Target_Shape_From) (h_x1_Target_Shape_To : (sImm (sInt .i64)).rep w.heap [v_x1_Target_Shape_To] x1.Target.Shape.To f_x1_Target_Shape_To) (h_x1_Target_Shape_Identity : (sImm (sInt .i64)).rep w.heap [v_x1_Target_Shape_Identity] x1.Target.Shape.Identity f_x1_Target_Shape_Identity) (h_x1_Target_Shape_Composites : (sImm (sImm (sInt .i64))).rep w.heap [v_x1_Target_Shape_Composites] x1.Target.Shape.Composites f_x1_Target_Shape_Composites) (h_x1_Target_Sizes : (sImm (sInt .i64)).rep w.heap [v_x1_Target_Sizes] x1.Target.Sizes f_x1_Target_Sizes) (h_x1_Target_Actions : (sImm (sImm (sInt .i64))).rep w.heap [v_x1_Target_Actions] x1.Target.Actions f_x1_Target_Actions) (h_x1_Parts : (sImm (sImm (sInt .i64))).rep w.heap [v_x1_Parts] x1.Parts f_x1_Parts) {y : (Bool)} (hm : laws_FnExactTopologyOfModality x0 x1 = some y) : Calls Tryz.prog 12 #[.agg #[.int .i64 (x0.Objects), v_x0_From, v_x0_To, v_x0_Identity, v_x0_Composites], .agg #[.int .i64 (x1.Source.Shape.Objects), v_x1_Source_Shape_From, v_x1_Source_Shape_To, v_x1_Source_Shape_Identity, v_x1_Source_Shape_Composites, v_x1_Source_Sizes, v_x1_Source_Actions, .int .i64 (x1.Target.Shape.Objects), v_x1_Target_Shape_From, v_x1_Target_Shape_To, v_x1_Target_Shape_Identity, v_x1_Target_Shape_Composites, v_x1_Target_Sizes, v_x1_Target_Actions, v_x1_Parts]] w (fun e w' => e = .returned (.bool y) ∧ Chg [] w w') :=
  ct_read c12 (.fact (fact_rd h_x0_From) (.fact (fact_rd h_x0_To) (.fact (fact_rd h_x0_Identity) (.fact (fact_rd h_x0_Composites) (.fact (fact_rd h_x1_Source_Shape_From) (.fact (fact_rd h_x1_Source_Shape_To) (.fact (fact_rd h_x1_Source_Shape_Identity) (.fact (fact_rd h_x1_Source_Shape_Composites) (.fact (fact_rd h_x1_Source_Sizes) (.fact (fact_rd h_x1_Source_Actions) (.fact (fact_rd h_x1_Target_Shape_From) (.fact (fact_rd h_x1_Target_Shape_To) (.fact (fact_rd h_x1_Target_Shape_Identity) (.fact (fact_rd h_x1_Target_Shape_Composites) (.fact (fact_rd h_x1_Target_Sizes) (.fact (fact_rd h_x1_Target_Actions) (.fact (fact_rd h_x1_Parts) (.nil)))))))))))))))))) hm
end Go.Proofs.YtdlhbbhdfnnmnaaGreat
