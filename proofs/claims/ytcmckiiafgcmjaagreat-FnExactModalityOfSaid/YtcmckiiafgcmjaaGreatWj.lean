/- Walks by the calculus D. No condition beside those that each theorem names. -/
import Derived.Test.YtcmckiiafgcmjaaGreatDi
import Derived.Test.YtcmckiiafgcmjaaGreatMo
import Derived.Test.YtcmckiiafgcmjaaGreatSo
import Derived.Test.YtcmckiiafgcmjaaGreatWa
import Derived.Test.YtcmckiiafgcmjaaGreatWb
import Derived.Test.YtcmckiiafgcmjaaGreatWc
import Derived.Test.YtcmckiiafgcmjaaGreatWd
import Derived.Test.YtcmckiiafgcmjaaGreatWe
import Derived.Test.YtcmckiiafgcmjaaGreatWf
import Derived.Test.YtcmckiiafgcmjaaGreatWg
import Derived.Test.YtcmckiiafgcmjaaGreatWh
namespace Go.Proofs.YtcmckiiafgcmjaaGreat
open Go Go.Li Go.Dk
set_option linter.unusedVariables false
set_option maxHeartbeats 1000000
set_option maxRecDepth 100000
theorem c75 {x0 : MTopology} {v_x0_Shape_From : Value} {v_x0_Shape_To : Value} {v_x0_Shape_Identity : Value} {v_x0_Shape_Composites : Value} {v_x0_Covers : Value} : Ct Tryz.prog 75 true (spec_l27Shape x0) [.agg #[.int .i64 (x0.Shape.Objects), v_x0_Shape_From, v_x0_Shape_To, v_x0_Shape_Identity, v_x0_Shape_Composites, v_x0_Covers]] [.rd false (sImm (sInt .i64)) v_x0_Shape_From x0.Shape.From, .rd false (sImm (sInt .i64)) v_x0_Shape_To x0.Shape.To, .rd false (sImm (sInt .i64)) v_x0_Shape_Identity x0.Shape.Identity, .rd false (sImm (sImm (sInt .i64))) v_x0_Shape_Composites x0.Shape.Composites, .rd false (sImm (sImm (sImm (sInt .i64)))) v_x0_Covers x0.Covers] (fun y (_ : Unit) => [.bool y]) (fun y _ => []) := by
  refine ct (S := Unit) (owt fun _ _ => rfl) Tryz.func75 rfl rfl ?_
  repeat' first
    | intro _
    | exact rfl
    | (refine @id.{0} _ ?_; constructor)
    | apply Dk.loop 0 (V := Unit) (fun (s : Int) v => []) (fun s v => [(3, .int .i64 (s))]) () [(1, _)]
    | apply Dk.loop 2 (V := Unit) (fun (s : Int) v => []) (fun s v => [(4, .int .i64 (s))]) () [(1, _), (3, _)]
    | apply Dk.quiet (id := 9) (by kernel_rfl)
    | apply c117
    | apply c77
    | apply c138
    | exact ()
theorem c205 {x0 : MCategory} {v_x0_From : Value} {v_x0_To : Value} {v_x0_Identity : Value} {v_x0_Composites : Value} : Ct Tryz.prog 205 false (spec_l25Lists x0) [.agg #[.int .i64 (x0.Objects), v_x0_From, v_x0_To, v_x0_Identity, v_x0_Composites]] [.rd false (sImm (sInt .i64)) v_x0_From x0.From, .rd false (sImm (sInt .i64)) v_x0_To x0.To, .rd false (sImm (sInt .i64)) v_x0_Identity x0.Identity, .rd false (sImm (sImm (sInt .i64))) v_x0_Composites x0.Composites] (fun y (v : Value) => [v, .bool y.2]) (fun y v => [.rd false (sImm (sImm (sImm (sInt .i64)))) v y.1]) := by
  refine ct (S := Unit) owf Tryz.func205 rfl rfl ?_
  repeat' first
    | intro _
    | exact rfl
    | (refine @id.{0} _ ?_; constructor)
    | apply Dk.loop 0 (V := Value) (fun (s : (List (List (List Int))) × Int) v => [.om 23 (sImm (sImm (sInt .i64))) v s.1]) (fun s v => [(4, v), (5, .int .i64 (s.2))]) _ [(1, _)]
    | apply c226
    | exact ()
theorem c135 {x0 : MCategory} {v_x0_From : Value} {v_x0_To : Value} {v_x0_Identity : Value} {v_x0_Composites : Value} : Ct Tryz.prog 135 false (spec_l27Make x0) [.agg #[.int .i64 (x0.Objects), v_x0_From, v_x0_To, v_x0_Identity, v_x0_Composites]] [.rd false (sImm (sInt .i64)) v_x0_From x0.From, .rd false (sImm (sInt .i64)) v_x0_To x0.To, .rd false (sImm (sInt .i64)) v_x0_Identity x0.Identity, .rd false (sImm (sImm (sInt .i64))) v_x0_Composites x0.Composites] (fun y (v : Value × Value × Value × Value × Value × Value × Value) => [.agg #[.int .i64 y.1.C.Objects, v.1, v.2.1, v.2.2.1, v.2.2.2.1, v.2.2.2.2.1, v.2.2.2.2.2.1, v.2.2.2.2.2.2], .bool y.2]) (fun y v => [.rd false (sImm (sInt .i64)) v.1 y.1.C.From, .rd false (sImm (sInt .i64)) v.2.1 y.1.C.To, .rd false (sImm (sInt .i64)) v.2.2.1 y.1.C.Identity, .rd false (sImm (sImm (sInt .i64))) v.2.2.2.1 y.1.C.Composites, .rd false (sImm (sImm (sImm (sInt .i64)))) v.2.2.2.2.1 y.1.Lists, .rd false (sImm (sImm (sInt .i64))) v.2.2.2.2.2.1 y.1.Pulls, .rd false (sImm (sInt .i64)) v.2.2.2.2.2.2 y.1.Tops]) := by
  refine ct (S := Unit) owf Tryz.func135 rfl rfl ?_
  repeat' first
    | intro _
    | exact rfl
    | (refine @id.{0} _ ?_; constructor)
    | apply Dk.any (id := 4) 9 [] [] [[], [], [], [], [2, 3], [4, 2, 3], [], [], [6, 7, 4, 2, 3]] (by kernel_rfl)
    | apply c205
    | apply c110
    | apply c206
    | exact ()
theorem c70 {x0 : MTopology} {v_x0_Shape_From : Value} {v_x0_Shape_To : Value} {v_x0_Shape_Identity : Value} {v_x0_Shape_Composites : Value} {v_x0_Covers : Value} : Ct Tryz.prog 70 false (spec_l27Read x0) [.agg #[.int .i64 (x0.Shape.Objects), v_x0_Shape_From, v_x0_Shape_To, v_x0_Shape_Identity, v_x0_Shape_Composites, v_x0_Covers]] [.rd false (sImm (sInt .i64)) v_x0_Shape_From x0.Shape.From, .rd false (sImm (sInt .i64)) v_x0_Shape_To x0.Shape.To, .rd false (sImm (sInt .i64)) v_x0_Shape_Identity x0.Shape.Identity, .rd false (sImm (sImm (sInt .i64))) v_x0_Shape_Composites x0.Shape.Composites, .rd false (sImm (sImm (sImm (sInt .i64)))) v_x0_Covers x0.Covers] (fun y (v : Value × Value × Value × Value × Value × Value × Value × Value) => [.agg #[.int .i64 y.1.C.Objects, v.1, v.2.1, v.2.2.1, v.2.2.2.1, v.2.2.2.2.1, v.2.2.2.2.2.1, v.2.2.2.2.2.2.1], v.2.2.2.2.2.2.2, .int .i64 y.2.2]) (fun y v => [.rd false (sImm (sInt .i64)) v.1 y.1.C.From, .rd false (sImm (sInt .i64)) v.2.1 y.1.C.To, .rd false (sImm (sInt .i64)) v.2.2.1 y.1.C.Identity, .rd false (sImm (sImm (sInt .i64))) v.2.2.2.1 y.1.C.Composites, .rd false (sImm (sImm (sImm (sInt .i64)))) v.2.2.2.2.1 y.1.Lists, .rd false (sImm (sImm (sInt .i64))) v.2.2.2.2.2.1 y.1.Pulls, .rd false (sImm (sInt .i64)) v.2.2.2.2.2.2.1 y.1.Tops, .own (sOwn 138 (sOwn 4 sBool)) v.2.2.2.2.2.2.2 y.2.1]) := by
  refine ct (S := Unit) owf Tryz.func70 rfl rfl ?_
  repeat' first
    | intro _
    | exact rfl
    | (refine @id.{0} _ ?_; constructor)
    | apply Dk.any (id := 6) 5 [] [] [[], [], [], [2], [1, 3, 2]] (by kernel_rfl)
    | apply c75
    | apply c135
    | apply c136
    | exact ()
theorem c78 {x0 : MTopology} {v_x0_Shape_From : Value} {v_x0_Shape_To : Value} {v_x0_Shape_Identity : Value} {v_x0_Shape_Composites : Value} {v_x0_Covers : Value} : Ct Tryz.prog 78 false (spec_l27Code x0) [.agg #[.int .i64 (x0.Shape.Objects), v_x0_Shape_From, v_x0_Shape_To, v_x0_Shape_Identity, v_x0_Shape_Composites, v_x0_Covers]] [.rd false (sImm (sInt .i64)) v_x0_Shape_From x0.Shape.From, .rd false (sImm (sInt .i64)) v_x0_Shape_To x0.Shape.To, .rd false (sImm (sInt .i64)) v_x0_Shape_Identity x0.Shape.Identity, .rd false (sImm (sImm (sInt .i64))) v_x0_Shape_Composites x0.Shape.Composites, .rd false (sImm (sImm (sImm (sInt .i64)))) v_x0_Covers x0.Covers] (fun y (v : Value × Value × Value × Value × Value × Value × Value × Value) => [.agg #[.int .i64 y.1.C.Objects, v.1, v.2.1, v.2.2.1, v.2.2.2.1, v.2.2.2.2.1, v.2.2.2.2.2.1, v.2.2.2.2.2.2.1], v.2.2.2.2.2.2.2, .int .i64 y.2.2]) (fun y v => [.rd false (sImm (sInt .i64)) v.1 y.1.C.From, .rd false (sImm (sInt .i64)) v.2.1 y.1.C.To, .rd false (sImm (sInt .i64)) v.2.2.1 y.1.C.Identity, .rd false (sImm (sImm (sInt .i64))) v.2.2.2.1 y.1.C.Composites, .rd false (sImm (sImm (sImm (sInt .i64)))) v.2.2.2.2.1 y.1.Lists, .rd false (sImm (sImm (sInt .i64))) v.2.2.2.2.2.1 y.1.Pulls, .rd false (sImm (sInt .i64)) v.2.2.2.2.2.2.1 y.1.Tops, .own (sOwn 138 (sOwn 4 sBool)) v.2.2.2.2.2.2.2 y.2.1]) := by
  refine ct (S := Unit) owf Tryz.func78 rfl rfl ?_
  repeat' first
    | intro _
    | exact rfl
    | (refine @id.{0} _ ?_; constructor)
    | apply c70
    | apply c71
    | exact ()
theorem c112 {x0 : MSetFunctor} {v_x0_Shape_From : Value} {v_x0_Shape_To : Value} {v_x0_Shape_Identity : Value} {v_x0_Shape_Composites : Value} {v_x0_Sizes : Value} {v_x0_Actions : Value} {x1 : MSetFunctor} {v_x1_Shape_From : Value} {v_x1_Shape_To : Value} {v_x1_Shape_Identity : Value} {v_x1_Shape_Composites : Value} {v_x1_Sizes : Value} {v_x1_Actions : Value} {x2 : (List (List Int))} {v_x2 : Value} : Ct Tryz.prog 112 true (spec_l19Make x0 x1 x2) [.agg #[.int .i64 (x0.Shape.Objects), v_x0_Shape_From, v_x0_Shape_To, v_x0_Shape_Identity, v_x0_Shape_Composites, v_x0_Sizes, v_x0_Actions], .agg #[.int .i64 (x1.Shape.Objects), v_x1_Shape_From, v_x1_Shape_To, v_x1_Shape_Identity, v_x1_Shape_Composites, v_x1_Sizes, v_x1_Actions], v_x2] [.rd false (sImm (sInt .i64)) v_x0_Shape_From x0.Shape.From, .rd false (sImm (sInt .i64)) v_x0_Shape_To x0.Shape.To, .rd false (sImm (sInt .i64)) v_x0_Shape_Identity x0.Shape.Identity, .rd false (sImm (sImm (sInt .i64))) v_x0_Shape_Composites x0.Shape.Composites, .rd false (sImm (sInt .i64)) v_x0_Sizes x0.Sizes, .rd false (sImm (sImm (sInt .i64))) v_x0_Actions x0.Actions, .rd false (sImm (sInt .i64)) v_x1_Shape_From x1.Shape.From, .rd false (sImm (sInt .i64)) v_x1_Shape_To x1.Shape.To, .rd false (sImm (sInt .i64)) v_x1_Shape_Identity x1.Shape.Identity, .rd false (sImm (sImm (sInt .i64))) v_x1_Shape_Composites x1.Shape.Composites, .rd false (sImm (sInt .i64)) v_x1_Sizes x1.Sizes, .rd false (sImm (sImm (sInt .i64))) v_x1_Actions x1.Actions, .rd false (sImm (sImm (sInt .i64))) v_x2 x2] (fun y (v : Value × Value × Value × Value × Value × Value × Value × Value × Value × Value × Value × Value × Value) => [.agg #[.int .i64 y.Source.Shape.Objects, v.1, v.2.1, v.2.2.1, v.2.2.2.1, v.2.2.2.2.1, v.2.2.2.2.2.1, .int .i64 y.Target.Shape.Objects, v.2.2.2.2.2.2.1, v.2.2.2.2.2.2.2.1, v.2.2.2.2.2.2.2.2.1, v.2.2.2.2.2.2.2.2.2.1, v.2.2.2.2.2.2.2.2.2.2.1, v.2.2.2.2.2.2.2.2.2.2.2.1, v.2.2.2.2.2.2.2.2.2.2.2.2]]) (fun y v => [.own (sOwn 2 (sInt .i64)) v.1 y.Source.Shape.From, .own (sOwn 2 (sInt .i64)) v.2.1 y.Source.Shape.To, .own (sOwn 2 (sInt .i64)) v.2.2.1 y.Source.Shape.Identity, .own (sOwn 22 (sOwn 2 (sInt .i64))) v.2.2.2.1 y.Source.Shape.Composites, .own (sOwn 2 (sInt .i64)) v.2.2.2.2.1 y.Source.Sizes, .own (sOwn 22 (sOwn 2 (sInt .i64))) v.2.2.2.2.2.1 y.Source.Actions, .own (sOwn 2 (sInt .i64)) v.2.2.2.2.2.2.1 y.Target.Shape.From, .own (sOwn 2 (sInt .i64)) v.2.2.2.2.2.2.2.1 y.Target.Shape.To, .own (sOwn 2 (sInt .i64)) v.2.2.2.2.2.2.2.2.1 y.Target.Shape.Identity, .own (sOwn 22 (sOwn 2 (sInt .i64))) v.2.2.2.2.2.2.2.2.2.1 y.Target.Shape.Composites, .own (sOwn 2 (sInt .i64)) v.2.2.2.2.2.2.2.2.2.2.1 y.Target.Sizes, .own (sOwn 22 (sOwn 2 (sInt .i64))) v.2.2.2.2.2.2.2.2.2.2.2.1 y.Target.Actions, .own (sOwn 22 (sOwn 2 (sInt .i64))) v.2.2.2.2.2.2.2.2.2.2.2.2 y.Parts]) := by
  refine ct (S := Unit) (owt fun _ _ => rfl) Tryz.func112 rfl rfl ?_
  repeat' first
    | intro _
    | exact rfl
    | (refine @id.{0} _ ?_; constructor)
    | apply Dk.any (id := 1) 5 [] [] [[], [0], [], [2, 1, 0], []] (by kernel_rfl)
    | apply c173
    | apply c174
    | exact ()
theorem c50 {x0 : MTopology} {v_x0_Shape_From : Value} {v_x0_Shape_To : Value} {v_x0_Shape_Identity : Value} {v_x0_Shape_Composites : Value} {v_x0_Covers : Value} : Ct Tryz.prog 50 true (spec_ModalityOf x0) [.agg #[.int .i64 (x0.Shape.Objects), v_x0_Shape_From, v_x0_Shape_To, v_x0_Shape_Identity, v_x0_Shape_Composites, v_x0_Covers]] [.rd false (sImm (sInt .i64)) v_x0_Shape_From x0.Shape.From, .rd false (sImm (sInt .i64)) v_x0_Shape_To x0.Shape.To, .rd false (sImm (sInt .i64)) v_x0_Shape_Identity x0.Shape.Identity, .rd false (sImm (sImm (sInt .i64))) v_x0_Shape_Composites x0.Shape.Composites, .rd false (sImm (sImm (sImm (sInt .i64)))) v_x0_Covers x0.Covers] (fun y (v : Value × Value × Value × Value × Value × Value × Value × Value × Value × Value × Value × Value × Value) => [.agg #[.int .i64 y.1.Source.Shape.Objects, v.1, v.2.1, v.2.2.1, v.2.2.2.1, v.2.2.2.2.1, v.2.2.2.2.2.1, .int .i64 y.1.Target.Shape.Objects, v.2.2.2.2.2.2.1, v.2.2.2.2.2.2.2.1, v.2.2.2.2.2.2.2.2.1, v.2.2.2.2.2.2.2.2.2.1, v.2.2.2.2.2.2.2.2.2.2.1, v.2.2.2.2.2.2.2.2.2.2.2.1, v.2.2.2.2.2.2.2.2.2.2.2.2], .int .i64 y.2]) (fun y v => [.own (sOwn 2 (sInt .i64)) v.1 y.1.Source.Shape.From, .own (sOwn 2 (sInt .i64)) v.2.1 y.1.Source.Shape.To, .own (sOwn 2 (sInt .i64)) v.2.2.1 y.1.Source.Shape.Identity, .own (sOwn 22 (sOwn 2 (sInt .i64))) v.2.2.2.1 y.1.Source.Shape.Composites, .own (sOwn 2 (sInt .i64)) v.2.2.2.2.1 y.1.Source.Sizes, .own (sOwn 22 (sOwn 2 (sInt .i64))) v.2.2.2.2.2.1 y.1.Source.Actions, .own (sOwn 2 (sInt .i64)) v.2.2.2.2.2.2.1 y.1.Target.Shape.From, .own (sOwn 2 (sInt .i64)) v.2.2.2.2.2.2.2.1 y.1.Target.Shape.To, .own (sOwn 2 (sInt .i64)) v.2.2.2.2.2.2.2.2.1 y.1.Target.Shape.Identity, .own (sOwn 22 (sOwn 2 (sInt .i64))) v.2.2.2.2.2.2.2.2.2.1 y.1.Target.Shape.Composites, .own (sOwn 2 (sInt .i64)) v.2.2.2.2.2.2.2.2.2.2.1 y.1.Target.Sizes, .own (sOwn 22 (sOwn 2 (sInt .i64))) v.2.2.2.2.2.2.2.2.2.2.2.1 y.1.Target.Actions, .own (sOwn 22 (sOwn 2 (sInt .i64))) v.2.2.2.2.2.2.2.2.2.2.2.2 y.1.Parts]) := by
  refine ct (S := Unit) (owt fun _ _ => rfl) Tryz.func50 rfl rfl ?_
  repeat' first
    | intro _
    | exact rfl
    | (refine @id.{0} _ ?_; constructor)
    | apply Dk.loop 0 (V := Value) (fun (s : (List (List Int)) × Int) v => [.own (sOwn 22 (sOwn 2 (sInt .i64))) v s.1]) (fun s v => [(8, v), (9, .int .i64 (s.2))]) _ [(1, _), (2, _), (4, _), (7, _)]
    | apply Dk.loop 2 (V := Value) (fun (s : (List Int) × Int) v => [.own (sOwn 2 (sInt .i64)) v s.1]) (fun s v => [(10, v), (11, .int .i64 (s.2))]) _ [(1, _), (2, _), (4, _), (7, _), (8, _), (9, _)]
    | apply Dk.any (id := 13) 19 [] [] [[], [], [1], [], [2, 1, 3], [4, 2, 1, 3], [], [], [], [8], [], [9, 8, 10], [11, 9, 8, 10], [], [12, 11, 9, 8, 10, 13], [14, 12, 11, 9, 8, 10, 13], [6, 7, 15, 14, 12, 11, 9, 8, 10, 13], [5, 4, 2, 1, 3, 16, 6, 7, 15, 14, 12, 11, 9, 8, 10, 13, 16, 6, 7, 15, 14, 12, 11, 9, 8, 10, 13], [17, 5, 4, 2, 1, 3, 16, 6, 7, 15, 14, 12, 11, 9, 8, 10, 13, 16, 6, 7, 15, 14, 12, 11, 9, 8, 10, 13]] (by kernel_rfl)
    | apply c78
    | apply c110
    | apply c79
    | apply c111
    | apply c112
    | exact ()
end Go.Proofs.YtcmckiiafgcmjaaGreat
