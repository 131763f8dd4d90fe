/- Walks by the calculus D. No condition beside those that each theorem names. -/
import Derived.Test.YtdlhbbhdfnnmnaaGreatDi
import Derived.Test.YtdlhbbhdfnnmnaaGreatMo
import Derived.Test.YtdlhbbhdfnnmnaaGreatDs
import Derived.Test.YtdlhbbhdfnnmnaaGreatSo
import Derived.Test.YtdlhbbhdfnnmnaaGreatWa
import Derived.Test.YtdlhbbhdfnnmnaaGreatWb
import Derived.Test.YtdlhbbhdfnnmnaaGreatWc
import Derived.Test.YtdlhbbhdfnnmnaaGreatWd
import Derived.Test.YtdlhbbhdfnnmnaaGreatWe
import Derived.Test.YtdlhbbhdfnnmnaaGreatWf
import Derived.Test.YtdlhbbhdfnnmnaaGreatWg
import Derived.Test.YtdlhbbhdfnnmnaaGreatWh
namespace Go.Proofs.YtdlhbbhdfnnmnaaGreat
open Go Go.Li Go.Dk
set_option linter.unusedVariables false
set_option maxHeartbeats 1000000
set_option maxRecDepth 100000
theorem c101 {x0 : MCategory} {v_x0_From : Value} {v_x0_To : Value} {v_x0_Identity : Value} {v_x0_Composites : Value} : Ct Tryz.prog 101 false (spec_l25Lists x0) [.agg #[.int .i64 (x0.Objects), v_x0_From, v_x0_To, v_x0_Identity, v_x0_Composites]] [.rd false (sImm (sInt .i64)) v_x0_From x0.From, .rd false (sImm (sInt .i64)) v_x0_To x0.To, .rd false (sImm (sInt .i64)) v_x0_Identity x0.Identity, .rd false (sImm (sImm (sInt .i64))) v_x0_Composites x0.Composites] (fun y (v : Value) => [v, .bool y.2]) (fun y v => [.rd false (sImm (sImm (sImm (sInt .i64)))) v y.1]) := by
  refine ct (S := Unit) owf Tryz.func101 rfl rfl ?_
  repeat' first
    | intro _
    | exact rfl
    | (refine @id.{0} _ ?_; constructor)
    | apply Dk.loop 0 (V := Value) (fun (s : (List (List (List Int))) × Int) v => [.om 23 (sImm (sImm (sInt .i64))) v s.1]) (fun s v => [(4, v), (5, .int .i64 (s.2))]) _ [(1, _)]
    | apply c200
    | exact ()
theorem c123 {x0 : MTopology} {v_x0_Shape_From : Value} {v_x0_Shape_To : Value} {v_x0_Shape_Identity : Value} {v_x0_Shape_Composites : Value} {v_x0_Covers : Value} : Ct Tryz.prog 123 true (spec_l27Shape x0) [.agg #[.int .i64 (x0.Shape.Objects), v_x0_Shape_From, v_x0_Shape_To, v_x0_Shape_Identity, v_x0_Shape_Composites, v_x0_Covers]] [.rd false (sImm (sInt .i64)) v_x0_Shape_From x0.Shape.From, .rd false (sImm (sInt .i64)) v_x0_Shape_To x0.Shape.To, .rd false (sImm (sInt .i64)) v_x0_Shape_Identity x0.Shape.Identity, .rd false (sImm (sImm (sInt .i64))) v_x0_Shape_Composites x0.Shape.Composites, .rd false (sImm (sImm (sImm (sInt .i64)))) v_x0_Covers x0.Covers] (fun y (_ : Unit) => [.bool y]) (fun y _ => []) := by
  refine ct (S := Unit) (owt fun _ _ => rfl) Tryz.func123 rfl rfl ?_
  repeat' first
    | intro _
    | exact rfl
    | (refine @id.{0} _ ?_; constructor)
    | apply Dk.loop 0 (V := Unit) (fun (s : Int) v => []) (fun s v => [(3, .int .i64 (s))]) () [(1, _)]
    | apply Dk.loop 2 (V := Unit) (fun (s : Int) v => []) (fun s v => [(4, .int .i64 (s))]) () [(1, _), (3, _)]
    | apply Dk.quiet (id := 9) (by kernel_rfl)
    | apply c154
    | apply c224
    | apply c225
    | exact ()
theorem c238 {x0 : MCategory} {v_x0_From : Value} {v_x0_To : Value} {v_x0_Identity : Value} {v_x0_Composites : Value} : Ct Tryz.prog 238 false (spec_l27Make x0) [.agg #[.int .i64 (x0.Objects), v_x0_From, v_x0_To, v_x0_Identity, v_x0_Composites]] [.rd false (sImm (sInt .i64)) v_x0_From x0.From, .rd false (sImm (sInt .i64)) v_x0_To x0.To, .rd false (sImm (sInt .i64)) v_x0_Identity x0.Identity, .rd false (sImm (sImm (sInt .i64))) v_x0_Composites x0.Composites] (fun y (v : Value × Value × Value × Value × Value × Value × Value) => [.agg #[.int .i64 y.1.C.Objects, v.1, v.2.1, v.2.2.1, v.2.2.2.1, v.2.2.2.2.1, v.2.2.2.2.2.1, v.2.2.2.2.2.2], .bool y.2]) (fun y v => [.rd false (sImm (sInt .i64)) v.1 y.1.C.From, .rd false (sImm (sInt .i64)) v.2.1 y.1.C.To, .rd false (sImm (sInt .i64)) v.2.2.1 y.1.C.Identity, .rd false (sImm (sImm (sInt .i64))) v.2.2.2.1 y.1.C.Composites, .rd false (sImm (sImm (sImm (sInt .i64)))) v.2.2.2.2.1 y.1.Lists, .rd false (sImm (sImm (sInt .i64))) v.2.2.2.2.2.1 y.1.Pulls, .rd false (sImm (sInt .i64)) v.2.2.2.2.2.2 y.1.Tops]) := by
  refine ct (S := Unit) owf Tryz.func238 rfl rfl ?_
  repeat' first
    | intro _
    | exact rfl
    | (refine @id.{0} _ ?_; constructor)
    | apply Dk.any (id := 4) 9 [] [] [[], [], [], [], [2, 3], [4, 2, 3], [], [], [6, 7, 4, 2, 3]] (by kernel_rfl)
    | apply c101
    | apply c105
    | apply c117
    | exact ()
theorem c226 {x0 : MTopology} {v_x0_Shape_From : Value} {v_x0_Shape_To : Value} {v_x0_Shape_Identity : Value} {v_x0_Shape_Composites : Value} {v_x0_Covers : Value} : Ct Tryz.prog 226 false (spec_l27Read x0) [.agg #[.int .i64 (x0.Shape.Objects), v_x0_Shape_From, v_x0_Shape_To, v_x0_Shape_Identity, v_x0_Shape_Composites, v_x0_Covers]] [.rd false (sImm (sInt .i64)) v_x0_Shape_From x0.Shape.From, .rd false (sImm (sInt .i64)) v_x0_Shape_To x0.Shape.To, .rd false (sImm (sInt .i64)) v_x0_Shape_Identity x0.Shape.Identity, .rd false (sImm (sImm (sInt .i64))) v_x0_Shape_Composites x0.Shape.Composites, .rd false (sImm (sImm (sImm (sInt .i64)))) v_x0_Covers x0.Covers] (fun y (v : Value × Value × Value × Value × Value × Value × Value × Value) => [.agg #[.int .i64 y.1.C.Objects, v.1, v.2.1, v.2.2.1, v.2.2.2.1, v.2.2.2.2.1, v.2.2.2.2.2.1, v.2.2.2.2.2.2.1], v.2.2.2.2.2.2.2, .int .i64 y.2.2]) (fun y v => [.rd false (sImm (sInt .i64)) v.1 y.1.C.From, .rd false (sImm (sInt .i64)) v.2.1 y.1.C.To, .rd false (sImm (sInt .i64)) v.2.2.1 y.1.C.Identity, .rd false (sImm (sImm (sInt .i64))) v.2.2.2.1 y.1.C.Composites, .rd false (sImm (sImm (sImm (sInt .i64)))) v.2.2.2.2.1 y.1.Lists, .rd false (sImm (sImm (sInt .i64))) v.2.2.2.2.2.1 y.1.Pulls, .rd false (sImm (sInt .i64)) v.2.2.2.2.2.2.1 y.1.Tops, .own (sOwn 213 (sOwn 4 sBool)) v.2.2.2.2.2.2.2 y.2.1]) := by
  refine ct (S := Unit) owf Tryz.func226 rfl rfl ?_
  repeat' first
    | intro _
    | exact rfl
    | (refine @id.{0} _ ?_; constructor)
    | apply Dk.any (id := 6) 5 [] [] [[], [], [], [2], [1, 3, 2]] (by kernel_rfl)
    | apply c123
    | apply c238
    | apply c306
    | exact ()
theorem c125 {x0 : MTopology} {v_x0_Shape_From : Value} {v_x0_Shape_To : Value} {v_x0_Shape_Identity : Value} {v_x0_Shape_Composites : Value} {v_x0_Covers : Value} : Ct Tryz.prog 125 false (spec_l27Code x0) [.agg #[.int .i64 (x0.Shape.Objects), v_x0_Shape_From, v_x0_Shape_To, v_x0_Shape_Identity, v_x0_Shape_Composites, v_x0_Covers]] [.rd false (sImm (sInt .i64)) v_x0_Shape_From x0.Shape.From, .rd false (sImm (sInt .i64)) v_x0_Shape_To x0.Shape.To, .rd false (sImm (sInt .i64)) v_x0_Shape_Identity x0.Shape.Identity, .rd false (sImm (sImm (sInt .i64))) v_x0_Shape_Composites x0.Shape.Composites, .rd false (sImm (sImm (sImm (sInt .i64)))) v_x0_Covers x0.Covers] (fun y (v : Value × Value × Value × Value × Value × Value × Value × Value) => [.agg #[.int .i64 y.1.C.Objects, v.1, v.2.1, v.2.2.1, v.2.2.2.1, v.2.2.2.2.1, v.2.2.2.2.2.1, v.2.2.2.2.2.2.1], v.2.2.2.2.2.2.2, .int .i64 y.2.2]) (fun y v => [.rd false (sImm (sInt .i64)) v.1 y.1.C.From, .rd false (sImm (sInt .i64)) v.2.1 y.1.C.To, .rd false (sImm (sInt .i64)) v.2.2.1 y.1.C.Identity, .rd false (sImm (sImm (sInt .i64))) v.2.2.2.1 y.1.C.Composites, .rd false (sImm (sImm (sImm (sInt .i64)))) v.2.2.2.2.1 y.1.Lists, .rd false (sImm (sImm (sInt .i64))) v.2.2.2.2.2.1 y.1.Pulls, .rd false (sImm (sInt .i64)) v.2.2.2.2.2.2.1 y.1.Tops, .own (sOwn 213 (sOwn 4 sBool)) v.2.2.2.2.2.2.2 y.2.1]) := by
  refine ct (S := Unit) owf Tryz.func125 rfl rfl ?_
  repeat' first
    | intro _
    | exact rfl
    | (refine @id.{0} _ ?_; constructor)
    | apply c226
    | apply c227
    | exact ()
theorem c48 {x0 : MTopology} {v_x0_Shape_From : Value} {v_x0_Shape_To : Value} {v_x0_Shape_Identity : Value} {v_x0_Shape_Composites : Value} {v_x0_Covers : Value} {x1 : Int} : Ct Tryz.prog 48 true (spec_ClosedSieves x0 x1) [.agg #[.int .i64 (x0.Shape.Objects), v_x0_Shape_From, v_x0_Shape_To, v_x0_Shape_Identity, v_x0_Shape_Composites, v_x0_Covers], .int .i64 (x1)] [.rd false (sImm (sInt .i64)) v_x0_Shape_From x0.Shape.From, .rd false (sImm (sInt .i64)) v_x0_Shape_To x0.Shape.To, .rd false (sImm (sInt .i64)) v_x0_Shape_Identity x0.Shape.Identity, .rd false (sImm (sImm (sInt .i64))) v_x0_Shape_Composites x0.Shape.Composites, .rd false (sImm (sImm (sImm (sInt .i64)))) v_x0_Covers x0.Covers] (fun y (v : Value) => [v, .int .i64 y.2]) (fun y v => [.own (sOwn 22 (sOwn 2 (sInt .i64))) v y.1]) := by
  refine ct (S := Unit) (owt fun _ _ => rfl) Tryz.func48 rfl rfl ?_
  repeat' first
    | intro _
    | exact rfl
    | (refine @id.{0} _ ?_; constructor)
    | apply Dk.loop 0 (V := Value) (fun (s : (List (List Int)) × Int) v => [.own (sOwn 22 (sOwn 2 (sInt .i64))) v s.1]) (fun s v => [(9, v), (10, .int .i64 (s.2))]) _ [(1, _), (2, _), (6, _)]
    | apply Dk.any (id := 12) 19 [] [] [[], [0], [], [1, 0, 2], [3, 1, 0, 2], [], [4, 3, 1, 0, 2, 5], [6, 4, 3, 1, 0, 2, 5], [], [], [], [10], [], [11, 10, 12], [13, 11, 10, 12], [], [14, 13, 11, 10, 12, 15], [16, 14, 13, 11, 10, 12, 15], [8, 9, 17, 16, 14, 13, 11, 10, 12, 15]] (by kernel_rfl)
    | apply c123
    | apply c124
    | apply c125
    | apply c127
    | apply c126
    | apply c128
    | exact ()
end Go.Proofs.YtdlhbbhdfnnmnaaGreat
