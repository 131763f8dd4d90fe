/- Walks by the calculus D. No condition beside those that each theorem names. -/
import Derived.Test.YtdlhbbhdfnnmnaaGreatDi
import Derived.Test.YtdlhbbhdfnnmnaaGreatMo
import Derived.Test.YtdlhbbhdfnnmnaaGreatDs
import Derived.Test.YtdlhbbhdfnnmnaaGreatSo
import Derived.Test.YtdlhbbhdfnnmnaaGreatWa
import Derived.Test.YtdlhbbhdfnnmnaaGreatWb
import Derived.Test.YtdlhbbhdfnnmnaaGreatWc
import Derived.Test.YtdlhbbhdfnnmnaaGreatWd
import Derived.Test.YtdlhbbhdfnnmnaaGreatWe
import Derived.Test.YtdlhbbhdfnnmnaaGreatWf
import Derived.Test.YtdlhbbhdfnnmnaaGreatWh
namespace Go.Proofs.YtdlhbbhdfnnmnaaGreat
open Go Go.Li Go.Dk
set_option linter.unusedVariables false
set_option maxHeartbeats 1000000
set_option maxRecDepth 100000
theorem c293 {x0 : MSetFunctor} {v_x0_Shape_From : Value} {v_x0_Shape_To : Value} {v_x0_Shape_Identity : Value} {v_x0_Shape_Composites : Value} {v_x0_Sizes : Value} {v_x0_Actions : Value} : Ct Tryz.prog 293 true (spec_l19Shape x0) [.agg #[.int .i64 (x0.Shape.Objects), v_x0_Shape_From, v_x0_Shape_To, v_x0_Shape_Identity, v_x0_Shape_Composites, v_x0_Sizes, v_x0_Actions]] [.rd false (sImm (sInt .i64)) v_x0_Shape_From x0.Shape.From, .rd false (sImm (sInt .i64)) v_x0_Shape_To x0.Shape.To, .rd false (sImm (sInt .i64)) v_x0_Shape_Identity x0.Shape.Identity, .rd false (sImm (sImm (sInt .i64))) v_x0_Shape_Composites x0.Shape.Composites, .rd false (sImm (sInt .i64)) v_x0_Sizes x0.Sizes, .rd false (sImm (sImm (sInt .i64))) v_x0_Actions x0.Actions] (fun y (_ : Unit) => [.bool y]) (fun y _ => []) := by
  refine ct (S := Unit) (owt fun _ _ => rfl) Tryz.func293 rfl rfl ?_
  repeat' first
    | intro _
    | exact rfl
    | (refine @id.{0} _ ?_; constructor)
    | apply Dk.loop 0 (V := Unit) (fun (s : Int) v => []) (fun s v => [(3, .int .i64 (s))]) () [(1, _)]
    | apply Dk.loop 2 (V := Unit) (fun (s : Int) v => []) (fun s v => [(4, .int .i64 (s))]) () [(1, _)]
    | apply Dk.quiet (id := 11) (by kernel_rfl)
    | apply c154
    | apply c317
    | apply c296
    | exact ()
theorem c198 {x0 : MSetFunctor} {v_x0_Shape_From : Value} {v_x0_Shape_To : Value} {v_x0_Shape_Identity : Value} {v_x0_Shape_Composites : Value} {v_x0_Sizes : Value} {v_x0_Actions : Value} : Ct Tryz.prog 198 true (spec_l19Is x0) [.agg #[.int .i64 (x0.Shape.Objects), v_x0_Shape_From, v_x0_Shape_To, v_x0_Shape_Identity, v_x0_Shape_Composites, v_x0_Sizes, v_x0_Actions]] [.rd false (sImm (sInt .i64)) v_x0_Shape_From x0.Shape.From, .rd false (sImm (sInt .i64)) v_x0_Shape_To x0.Shape.To, .rd false (sImm (sInt .i64)) v_x0_Shape_Identity x0.Shape.Identity, .rd false (sImm (sImm (sInt .i64))) v_x0_Shape_Composites x0.Shape.Composites, .rd false (sImm (sInt .i64)) v_x0_Sizes x0.Sizes, .rd false (sImm (sImm (sInt .i64))) v_x0_Actions x0.Actions] (fun y (_ : Unit) => [.bool y]) (fun y _ => []) := by
  refine ct (S := Unit) (owt fun _ _ => rfl) Tryz.func198 rfl rfl ?_
  repeat' first
    | intro _
    | exact rfl
    | (refine @id.{0} _ ?_; constructor)
    | apply c293
    | apply c294
    | exact ()
theorem c101 {x0 : MCategory} {v_x0_From : Value} {v_x0_To : Value} {v_x0_Identity : Value} {v_x0_Composites : Value} : Ct Tryz.prog 101 false (spec_l25Lists x0) [.agg #[.int .i64 (x0.Objects), v_x0_From, v_x0_To, v_x0_Identity, v_x0_Composites]] [.rd false (sImm (sInt .i64)) v_x0_From x0.From, .rd false (sImm (sInt .i64)) v_x0_To x0.To, .rd false (sImm (sInt .i64)) v_x0_Identity x0.Identity, .rd false (sImm (sImm (sInt .i64))) v_x0_Composites x0.Composites] (fun y (v : Value) => [v, .bool y.2]) (fun y v => [.rd false (sImm (sImm (sImm (sInt .i64)))) v y.1]) := by
  refine ct (S := Unit) owf Tryz.func101 rfl rfl ?_
  repeat' first
    | intro _
    | exact rfl
    | (refine @id.{0} _ ?_; constructor)
    | apply Dk.loop 0 (V := Value) (fun (s : (List (List (List Int))) × Int) v => [.om 23 (sImm (sImm (sInt .i64))) v s.1]) (fun s v => [(4, v), (5, .int .i64 (s.2))]) _ [(1, _)]
    | apply c200
    | exact ()
theorem c215 {x0 : MSetFunctor} {v_x0_Shape_From : Value} {v_x0_Shape_To : Value} {v_x0_Shape_Identity : Value} {v_x0_Shape_Composites : Value} {v_x0_Sizes : Value} {v_x0_Actions : Value} {x1 : MSetFunctor} {v_x1_Shape_From : Value} {v_x1_Shape_To : Value} {v_x1_Shape_Identity : Value} {v_x1_Shape_Composites : Value} {v_x1_Sizes : Value} {v_x1_Actions : Value} : Ct Tryz.prog 215 true (spec_l19Between x0 x1) [.agg #[.int .i64 (x0.Shape.Objects), v_x0_Shape_From, v_x0_Shape_To, v_x0_Shape_Identity, v_x0_Shape_Composites, v_x0_Sizes, v_x0_Actions], .agg #[.int .i64 (x1.Shape.Objects), v_x1_Shape_From, v_x1_Shape_To, v_x1_Shape_Identity, v_x1_Shape_Composites, v_x1_Sizes, v_x1_Actions]] [.rd false (sImm (sInt .i64)) v_x0_Shape_From x0.Shape.From, .rd false (sImm (sInt .i64)) v_x0_Shape_To x0.Shape.To, .rd false (sImm (sInt .i64)) v_x0_Shape_Identity x0.Shape.Identity, .rd false (sImm (sImm (sInt .i64))) v_x0_Shape_Composites x0.Shape.Composites, .rd false (sImm (sInt .i64)) v_x0_Sizes x0.Sizes, .rd false (sImm (sImm (sInt .i64))) v_x0_Actions x0.Actions, .rd false (sImm (sInt .i64)) v_x1_Shape_From x1.Shape.From, .rd false (sImm (sInt .i64)) v_x1_Shape_To x1.Shape.To, .rd false (sImm (sInt .i64)) v_x1_Shape_Identity x1.Shape.Identity, .rd false (sImm (sImm (sInt .i64))) v_x1_Shape_Composites x1.Shape.Composites, .rd false (sImm (sInt .i64)) v_x1_Sizes x1.Sizes, .rd false (sImm (sImm (sInt .i64))) v_x1_Actions x1.Actions] (fun y (_ : Unit) => [.bool y]) (fun y _ => []) := by
  refine ct (S := Unit) (owt fun _ _ => rfl) Tryz.func215 rfl rfl ?_
  repeat' first
    | intro _
    | exact rfl
    | (refine @id.{0} _ ?_; constructor)
    | apply c198
    | apply c218
    | exact ()
theorem c115 {x0 : MSetMap} {v_x0_Source_Shape_From : Value} {v_x0_Source_Shape_To : Value} {v_x0_Source_Shape_Identity : Value} {v_x0_Source_Shape_Composites : Value} {v_x0_Source_Sizes : Value} {v_x0_Source_Actions : Value} {v_x0_Target_Shape_From : Value} {v_x0_Target_Shape_To : Value} {v_x0_Target_Shape_Identity : Value} {v_x0_Target_Shape_Composites : Value} {v_x0_Target_Sizes : Value} {v_x0_Target_Actions : Value} {v_x0_Parts : Value} : Ct Tryz.prog 115 true (spec_l19IsMap x0) [.agg #[.int .i64 (x0.Source.Shape.Objects), v_x0_Source_Shape_From, v_x0_Source_Shape_To, v_x0_Source_Shape_Identity, v_x0_Source_Shape_Composites, v_x0_Source_Sizes, v_x0_Source_Actions, .int .i64 (x0.Target.Shape.Objects), v_x0_Target_Shape_From, v_x0_Target_Shape_To, v_x0_Target_Shape_Identity, v_x0_Target_Shape_Composites, v_x0_Target_Sizes, v_x0_Target_Actions, v_x0_Parts]] [.rd false (sImm (sInt .i64)) v_x0_Source_Shape_From x0.Source.Shape.From, .rd false (sImm (sInt .i64)) v_x0_Source_Shape_To x0.Source.Shape.To, .rd false (sImm (sInt .i64)) v_x0_Source_Shape_Identity x0.Source.Shape.Identity, .rd false (sImm (sImm (sInt .i64))) v_x0_Source_Shape_Composites x0.Source.Shape.Composites, .rd false (sImm (sInt .i64)) v_x0_Source_Sizes x0.Source.Sizes, .rd false (sImm (sImm (sInt .i64))) v_x0_Source_Actions x0.Source.Actions, .rd false (sImm (sInt .i64)) v_x0_Target_Shape_From x0.Target.Shape.From, .rd false (sImm (sInt .i64)) v_x0_Target_Shape_To x0.Target.Shape.To, .rd false (sImm (sInt .i64)) v_x0_Target_Shape_Identity x0.Target.Shape.Identity, .rd false (sImm (sImm (sInt .i64))) v_x0_Target_Shape_Composites x0.Target.Shape.Composites, .rd false (sImm (sInt .i64)) v_x0_Target_Sizes x0.Target.Sizes, .rd false (sImm (sImm (sInt .i64))) v_x0_Target_Actions x0.Target.Actions, .rd false (sImm (sImm (sInt .i64))) v_x0_Parts x0.Parts] (fun y (_ : Unit) => [.bool y]) (fun y _ => []) := by
  refine ct (S := Unit) (owt fun _ _ => rfl) Tryz.func115 rfl rfl ?_
  repeat' first
    | intro _
    | exact rfl
    | (refine @id.{0} _ ?_; constructor)
    | apply c215
    | apply c216
    | apply c217
    | exact ()
theorem c238 {x0 : MCategory} {v_x0_From : Value} {v_x0_To : Value} {v_x0_Identity : Value} {v_x0_Composites : Value} : Ct Tryz.prog 238 false (spec_l27Make x0) [.agg #[.int .i64 (x0.Objects), v_x0_From, v_x0_To, v_x0_Identity, v_x0_Composites]] [.rd false (sImm (sInt .i64)) v_x0_From x0.From, .rd false (sImm (sInt .i64)) v_x0_To x0.To, .rd false (sImm (sInt .i64)) v_x0_Identity x0.Identity, .rd false (sImm (sImm (sInt .i64))) v_x0_Composites x0.Composites] (fun y (v : Value × Value × Value × Value × Value × Value × Value) => [.agg #[.int .i64 y.1.C.Objects, v.1, v.2.1, v.2.2.1, v.2.2.2.1, v.2.2.2.2.1, v.2.2.2.2.2.1, v.2.2.2.2.2.2], .bool y.2]) (fun y v => [.rd false (sImm (sInt .i64)) v.1 y.1.C.From, .rd false (sImm (sInt .i64)) v.2.1 y.1.C.To, .rd false (sImm (sInt .i64)) v.2.2.1 y.1.C.Identity, .rd false (sImm (sImm (sInt .i64))) v.2.2.2.1 y.1.C.Composites, .rd false (sImm (sImm (sImm (sInt .i64)))) v.2.2.2.2.1 y.1.Lists, .rd false (sImm (sImm (sInt .i64))) v.2.2.2.2.2.1 y.1.Pulls, .rd false (sImm (sInt .i64)) v.2.2.2.2.2.2 y.1.Tops]) := by
  refine ct (S := Unit) owf Tryz.func238 rfl rfl ?_
  repeat' first
    | intro _
    | exact rfl
    | (refine @id.{0} _ ?_; constructor)
    | apply Dk.any (id := 4) 9 [] [] [[], [], [], [], [2, 3], [4, 2, 3], [], [], [6, 7, 4, 2, 3]] (by kernel_rfl)
    | apply c101
    | apply c105
    | apply c117
    | exact ()
theorem c142 {x0 : MCategory} {v_x0_From : Value} {v_x0_To : Value} {v_x0_Identity : Value} {v_x0_Composites : Value} : Ct Tryz.prog 142 false (spec_l27Category x0) [.agg #[.int .i64 (x0.Objects), v_x0_From, v_x0_To, v_x0_Identity, v_x0_Composites]] [.rd false (sImm (sInt .i64)) v_x0_From x0.From, .rd false (sImm (sInt .i64)) v_x0_To x0.To, .rd false (sImm (sInt .i64)) v_x0_Identity x0.Identity, .rd false (sImm (sImm (sInt .i64))) v_x0_Composites x0.Composites] (fun y (v : Value × Value × Value × Value × Value × Value × Value × Value) => [.agg #[.int .i64 y.1.C.Objects, v.1, v.2.1, v.2.2.1, v.2.2.2.1, v.2.2.2.2.1, v.2.2.2.2.2.1, v.2.2.2.2.2.2.1], v.2.2.2.2.2.2.2, .int .i64 y.2.2]) (fun y v => [.rd false (sImm (sInt .i64)) v.1 y.1.C.From, .rd false (sImm (sInt .i64)) v.2.1 y.1.C.To, .rd false (sImm (sInt .i64)) v.2.2.1 y.1.C.Identity, .rd false (sImm (sImm (sInt .i64))) v.2.2.2.1 y.1.C.Composites, .rd false (sImm (sImm (sImm (sInt .i64)))) v.2.2.2.2.1 y.1.Lists, .rd false (sImm (sImm (sInt .i64))) v.2.2.2.2.2.1 y.1.Pulls, .rd false (sImm (sInt .i64)) v.2.2.2.2.2.2.1 y.1.Tops, .own (sOwn 213 (sOwn 4 sBool)) v.2.2.2.2.2.2.2 y.2.1]) := by
  refine ct (S := Unit) owf Tryz.func142 rfl rfl ?_
  repeat' first
    | intro _
    | exact rfl
    | (refine @id.{0} _ ?_; constructor)
    | apply Dk.loop 0 (V := Value) (fun (s : (List (List Bool)) × Int) v => [.own (sOwn 213 (sOwn 4 sBool)) v s.1]) (fun s v => [(7, v), (8, .int .i64 (s.2))]) _ [(2, _), (5, _)]
    | apply c154
    | apply c238
    | exact ()
theorem c66 {x0 : MCategory} {v_x0_From : Value} {v_x0_To : Value} {v_x0_Identity : Value} {v_x0_Composites : Value} {x1 : MSetMap} {v_x1_Source_Shape_From : Value} {v_x1_Source_Shape_To : Value} {v_x1_Source_Shape_Identity : Value} {v_x1_Source_Shape_Composites : Value} {v_x1_Source_Sizes : Value} {v_x1_Source_Actions : Value} {v_x1_Target_Shape_From : Value} {v_x1_Target_Shape_To : Value} {v_x1_Target_Shape_Identity : Value} {v_x1_Target_Shape_Composites : Value} {v_x1_Target_Sizes : Value} {v_x1_Target_Actions : Value} {v_x1_Parts : Value} : Ct Tryz.prog 66 true (spec_TopologyOfModality x0 x1) [.agg #[.int .i64 (x0.Objects), v_x0_From, v_x0_To, v_x0_Identity, v_x0_Composites], .agg #[.int .i64 (x1.Source.Shape.Objects), v_x1_Source_Shape_From, v_x1_Source_Shape_To, v_x1_Source_Shape_Identity, v_x1_Source_Shape_Composites, v_x1_Source_Sizes, v_x1_Source_Actions, .int .i64 (x1.Target.Shape.Objects), v_x1_Target_Shape_From, v_x1_Target_Shape_To, v_x1_Target_Shape_Identity, v_x1_Target_Shape_Composites, v_x1_Target_Sizes, v_x1_Target_Actions, v_x1_Parts]] [.rd false (sImm (sInt .i64)) v_x0_From x0.From, .rd false (sImm (sInt .i64)) v_x0_To x0.To, .rd false (sImm (sInt .i64)) v_x0_Identity x0.Identity, .rd false (sImm (sImm (sInt .i64))) v_x0_Composites x0.Composites, .rd false (sImm (sInt .i64)) v_x1_Source_Shape_From x1.Source.Shape.From, .rd false (sImm (sInt .i64)) v_x1_Source_Shape_To x1.Source.Shape.To, .rd false (sImm (sInt .i64)) v_x1_Source_Shape_Identity x1.Source.Shape.Identity, .rd false (sImm (sImm (sInt .i64))) v_x1_Source_Shape_Composites x1.Source.Shape.Composites, .rd false (sImm (sInt .i64)) v_x1_Source_Sizes x1.Source.Sizes, .rd false (sImm (sImm (sInt .i64))) v_x1_Source_Actions x1.Source.Actions, .rd false (sImm (sInt .i64)) v_x1_Target_Shape_From x1.Target.Shape.From, .rd false (sImm (sInt .i64)) v_x1_Target_Shape_To x1.Target.Shape.To, .rd false (sImm (sInt .i64)) v_x1_Target_Shape_Identity x1.Target.Shape.Identity, .rd false (sImm (sImm (sInt .i64))) v_x1_Target_Shape_Composites x1.Target.Shape.Composites, .rd false (sImm (sInt .i64)) v_x1_Target_Sizes x1.Target.Sizes, .rd false (sImm (sImm (sInt .i64))) v_x1_Target_Actions x1.Target.Actions, .rd false (sImm (sImm (sInt .i64))) v_x1_Parts x1.Parts] (fun y (v : Value × Value × Value × Value × Value) => [.agg #[.int .i64 y.1.Shape.Objects, v.1, v.2.1, v.2.2.1, v.2.2.2.1, v.2.2.2.2], .int .i64 y.2]) (fun y v => [.own (sOwn 2 (sInt .i64)) v.1 y.1.Shape.From, .own (sOwn 2 (sInt .i64)) v.2.1 y.1.Shape.To, .own (sOwn 2 (sInt .i64)) v.2.2.1 y.1.Shape.Identity, .own (sOwn 22 (sOwn 2 (sInt .i64))) v.2.2.2.1 y.1.Shape.Composites, .own (sOwn 23 (sOwn 22 (sOwn 2 (sInt .i64)))) v.2.2.2.2 y.1.Covers]) := by
  refine ct (S := Unit) (owt fun _ _ => rfl) Tryz.func66 rfl rfl ?_
  repeat' first
    | intro _
    | exact rfl
    | (refine @id.{0} _ ?_; constructor)
    | apply Dk.loopA 0 (V := Unit) (A := Value) _ (fun a (s : Int × (List (List Bool))) v => [.own (sOwn 213 (sOwn 4 sBool)) a s.2]) (fun a s v => [(7, a), (10, .int .i64 (s.1))]) () [(3, _), (4, _), (6, _)]
    | apply Dk.loopA 2 (V := Unit) (A := Value) _ (fun a (s : Int × (List (List Bool))) v => [.own (sOwn 213 (sOwn 4 sBool)) a s.2]) (fun a s v => [(7, a), (11, .int .i64 (s.1))]) () [(3, _), (4, _), (6, _), (10, _)]
    | apply Dk.any (id := 15) 19 [] [] [[], [], [0, 1], [2, 0, 1], [], [], [5], [], [6, 5, 7], [8, 6, 5, 7], [], [9, 8, 6, 5, 7, 10], [11, 9, 8, 6, 5, 7, 10], [], [13], [], [14, 13, 15], [16, 14, 13, 15], [12, 11, 9, 8, 6, 5, 7, 10, 17, 16, 14, 13, 15]] (by kernel_rfl)
    | apply c154
    | apply c115
    | apply c142
    | apply c105
    | apply c116
    | apply c155
    | apply c144
    | exact ()
end Go.Proofs.YtdlhbbhdfnnmnaaGreat
