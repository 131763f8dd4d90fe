/- Walks by the calculus D. No condition beside those that each theorem names. -/
import Derived.Test.YtdlhbbhdfnnmnaaGreatDi
import Derived.Test.YtdlhbbhdfnnmnaaGreatMo
import Derived.Test.YtdlhbbhdfnnmnaaGreatDs
import Derived.Test.YtdlhbbhdfnnmnaaGreatSo
namespace Go.Proofs.YtdlhbbhdfnnmnaaGreat
open Go Go.Li Go.Dk
set_option linter.unusedVariables false
set_option maxHeartbeats 1000000
set_option maxRecDepth 100000
theorem c95 {x0 : (List Int)} {v_x0 : Value} {x1 : Int} : Ct Tryz.prog 95 true (laws_szInt64S x0 x1) [v_x0, .int .i64 (x1)] [.rd false (sImm (sInt .i64)) v_x0 x0] (fun y (_ : Unit) => [.int .i64 y]) (fun y _ => []) := by
  refine ct (S := Unit) (owt fun _ _ => rfl) Tryz.func95 rfl rfl ?_
  repeat' first
    | intro _
    | exact rfl
    | (refine @id.{0} _ ?_; constructor)
    | exact ()
theorem c73 {x0 : (List (List Int))} {v_x0 : Value} {x1 : Int} : Ct Tryz.prog 73 true (laws_szInt64SS x0 x1) [v_x0, .int .i64 (x1)] [.rd false (sImm (sImm (sInt .i64))) v_x0 x0] (fun y (_ : Unit) => [.int .i64 y]) (fun y _ => []) := by
  refine ct (S := Unit) (owt fun _ _ => rfl) Tryz.func73 rfl rfl ?_
  repeat' first
    | intro _
    | exact rfl
    | (refine @id.{0} _ ?_; constructor)
    | apply Dk.loop 0 (V := Unit) (fun (s : Int × Int) v => []) (fun s v => [(1, .int .i64 (s.1)), (5, .int .i64 (s.2))]) () [(0, _)]
    | apply c95
    | exact ()
theorem c296 {x0 : Int} {x1 : (List Int)} {v_x1 : Value} : Ct Tryz.prog 296 true (spec_l01Map x0 x1) [.int .i64 (x0), v_x1] [.rd false (sImm (sInt .i64)) v_x1 x1] (fun y (_ : Unit) => [.bool y]) (fun y _ => []) := by
  refine ct (S := Unit) (owt fun _ _ => rfl) Tryz.func296 rfl rfl ?_
  repeat' first
    | intro _
    | exact rfl
    | (refine @id.{0} _ ?_; constructor)
    | apply Dk.loop 0 (V := Unit) (fun (s : Int) v => []) (fun s v => [(5, .int .i64 (s))]) () [(0, _), (1, _)]
    | exact ()
theorem c318 {x0 : (List Int)} {v_x0 : Value} {x1 : Int} {x2 : Int} : Ct Tryz.prog 318 true (spec_l02Ends x0 x1 x2) [v_x0, .int .i64 (x1), .int .i64 (x2)] [.rd false (sImm (sInt .i64)) v_x0 x0] (fun y (_ : Unit) => [.bool y]) (fun y _ => []) := by
  refine ct (S := Unit) (owt fun _ _ => rfl) Tryz.func318 rfl rfl ?_
  repeat' first
    | intro _
    | exact rfl
    | (refine @id.{0} _ ?_; constructor)
    | apply c296
    | exact ()
theorem c294 {x0 : MSetFunctor} {v_x0_Shape_From : Value} {v_x0_Shape_To : Value} {v_x0_Shape_Identity : Value} {v_x0_Shape_Composites : Value} {v_x0_Sizes : Value} {v_x0_Actions : Value} : Ct Tryz.prog 294 true (spec_l19Fault x0) [.agg #[.int .i64 (x0.Shape.Objects), v_x0_Shape_From, v_x0_Shape_To, v_x0_Shape_Identity, v_x0_Shape_Composites, v_x0_Sizes, v_x0_Actions]] [.rd false (sImm (sInt .i64)) v_x0_Shape_From x0.Shape.From, .rd false (sImm (sInt .i64)) v_x0_Shape_To x0.Shape.To, .rd false (sImm (sInt .i64)) v_x0_Shape_Identity x0.Shape.Identity, .rd false (sImm (sImm (sInt .i64))) v_x0_Shape_Composites x0.Shape.Composites, .rd false (sImm (sInt .i64)) v_x0_Sizes x0.Sizes, .rd false (sImm (sImm (sInt .i64))) v_x0_Actions x0.Actions] (fun y (_ : Unit) => [.int .i64 y.1, .int .i64 y.2.1, .int .i64 y.2.2.1, .int .i64 y.2.2.2]) (fun y _ => []) := by
  refine ct (S := Unit) (owt fun _ _ => rfl) Tryz.func294 rfl rfl ?_
  repeat' first
    | intro _
    | exact rfl
    | (refine @id.{0} _ ?_; constructor)
    | apply Dk.loop 0 (V := Unit) (fun (s : Int) v => []) (fun s v => [(7, .int .i64 (s))]) () [(1, _), (6, _)]
    | apply Dk.loop 2 (V := Unit) (fun (s : Int) v => []) (fun s v => [(8, .int .i64 (s))]) () [(1, _), (6, _), (7, _)]
    | apply Dk.loop 4 (V := Unit) (fun (s : Int) v => []) (fun s v => [(9, .int .i64 (s))]) () [(1, _), (6, _)]
    | apply Dk.loop 6 (V := Unit) (fun (s : Int) v => []) (fun s v => [(10, .int .i64 (s))]) () [(1, _), (6, _), (9, _)]
    | apply Dk.loop 8 (V := Unit) (fun (s : Int) v => []) (fun s v => [(11, .int .i64 (s))]) () [(1, _), (6, _), (9, _), (10, _)]
    | apply Dk.quiet (id := 8) (by kernel_rfl)
    | apply Dk.quiet (id := 16) (by kernel_rfl)
    | apply Dk.quiet (id := 18) (by kernel_rfl)
    | apply Dk.quiet (id := 20) (by kernel_rfl)
    | exact ()
theorem c126 {x0 : (List Int)} {v_x0 : Value} {x1 : (List Int)} {v_x1 : Value} : Ct Tryz.prog 126 true (spec_l01Same x0 x1) [v_x0, v_x1] [.rd false (sImm (sInt .i64)) v_x0 x0, .rd false (sImm (sInt .i64)) v_x1 x1] (fun y (_ : Unit) => [.bool y]) (fun y _ => []) := by
  refine ct (S := Unit) (owt fun _ _ => rfl) Tryz.func126 rfl rfl ?_
  repeat' first
    | intro _
    | exact rfl
    | (refine @id.{0} _ ?_; constructor)
    | apply Dk.loop 0 (V := Unit) (fun (s : Int) v => []) (fun s v => [(5, .int .i64 (s))]) () [(0, _), (1, _)]
    | apply Dk.quiet (id := 6) (by kernel_rfl)
    | exact ()
theorem c102 {x0 : (List (List Int))} {v_x0 : Value} {x1 : (List Int)} {v_x1 : Value} : Ct Tryz.prog 102 true (spec_l05Place x0 x1) [v_x0, v_x1] [.rd false (sImm (sImm (sInt .i64))) v_x0 x0, .rd false (sImm (sInt .i64)) v_x1 x1] (fun y (_ : Unit) => [.int .i64 y]) (fun y _ => []) := by
  refine ct (S := Unit) (owt fun _ _ => rfl) Tryz.func102 rfl rfl ?_
  repeat' first
    | intro _
    | exact rfl
    | (refine @id.{0} _ ?_; constructor)
    | apply Dk.loop 0 (V := Unit) (fun (s : Int) v => []) (fun s v => [(5, .int .i64 (s))]) () [(0, _), (1, _)]
    | apply c126
    | exact ()
theorem c92 {x0 : (List Int)} {v_x0 : Value} {x1 : Int} : Ct Tryz.prog 92 true (laws_markInt64S x0 x1) [v_x0, .int .i64 (x1)] [.own (sOwn 2 (sInt .i64)) v_x0 x0] (fun y (_ : Unit) => [.int .i64 y.1]) (fun y _ => [.own (sOwn 2 (sInt .i64)) v_x0 y.2]) := by
  refine ct (S := Unit) (owt fun _ _ => rfl) Tryz.func92 rfl rfl ?_
  repeat' first
    | intro _
    | exact rfl
    | (refine @id.{0} _ ?_; constructor)
    | apply Dk.loop 0 (V := Unit) (fun (s : Int × Int × (List Int)) v => [.own (sOwn 2 (sInt .i64)) v_x0 s.2.2]) (fun s v => [(1, .int .i64 (s.1)), (5, .int .i64 (s.2.1))]) () [(0, _)]
    | exact ()
theorem c24 {x0 : (List (List Int))} {v_x0 : Value} {x1 : Int} : Ct Tryz.prog 24 true (laws_markInt64SS x0 x1) [v_x0, .int .i64 (x1)] [.own (sOwn 22 (sOwn 2 (sInt .i64))) v_x0 x0] (fun y (_ : Unit) => [.int .i64 y.1]) (fun y _ => [.own (sOwn 22 (sOwn 2 (sInt .i64))) v_x0 y.2]) := by
  refine ct (S := Unit) (owt fun _ _ => rfl) Tryz.func24 rfl rfl ?_
  repeat' first
    | intro _
    | exact rfl
    | (refine @id.{0} _ ?_; constructor)
    | apply Dk.loop 0 (V := Unit) (fun (s : Int × Int × (List (List Int))) v => [.own (sOwn 22 (sOwn 2 (sInt .i64))) v_x0 s.2.2]) (fun s v => [(1, .int .i64 (s.1)), (5, .int .i64 (s.2.1))]) () [(0, _)]
    | apply c92
    | exact ()
theorem c94 {x0 : (List Int)} {v_x0 : Value} {x1 : Int} : Ct Tryz.prog 94 true (laws_heldInt64S x0 x1) [v_x0, .int .i64 (x1)] [.rd false (sImm (sInt .i64)) v_x0 x0] (fun y (_ : Unit) => [.int .i64 y]) (fun y _ => []) := by
  refine ct (S := Unit) (owt fun _ _ => rfl) Tryz.func94 rfl rfl ?_
  repeat' first
    | intro _
    | exact rfl
    | (refine @id.{0} _ ?_; constructor)
    | apply Dk.loop 0 (V := Unit) (fun (s : Int × Int) v => []) (fun s v => [(1, .int .i64 (s.1)), (5, .int .i64 (s.2))]) () [(0, _)]
    | exact ()
theorem c26 {x0 : (List (List Int))} {v_x0 : Value} {x1 : Int} : Ct Tryz.prog 26 true (laws_heldInt64SS x0 x1) [v_x0, .int .i64 (x1)] [.rd false (sImm (sImm (sInt .i64))) v_x0 x0] (fun y (_ : Unit) => [.int .i64 y]) (fun y _ => []) := by
  refine ct (S := Unit) (owt fun _ _ => rfl) Tryz.func26 rfl rfl ?_
  repeat' first
    | intro _
    | exact rfl
    | (refine @id.{0} _ ?_; constructor)
    | apply Dk.loop 0 (V := Unit) (fun (s : Int × Int) v => []) (fun s v => [(1, .int .i64 (s.1)), (5, .int .i64 (s.2))]) () [(0, _)]
    | apply c94
    | exact ()
theorem c219 {x0 : (List (List Int))} {v_x0 : Value} {x1 : (List (List Int))} {v_x1 : Value} : Ct Tryz.prog 219 true (spec_l01Same2 x0 x1) [v_x0, v_x1] [.rd false (sImm (sImm (sInt .i64))) v_x0 x0, .rd false (sImm (sImm (sInt .i64))) v_x1 x1] (fun y (_ : Unit) => [.bool y]) (fun y _ => []) := by
  refine ct (S := Unit) (owt fun _ _ => rfl) Tryz.func219 rfl rfl ?_
  repeat' first
    | intro _
    | exact rfl
    | (refine @id.{0} _ ?_; constructor)
    | apply Dk.loop 0 (V := Unit) (fun (s : Int) v => []) (fun s v => [(5, .int .i64 (s))]) () [(0, _), (1, _)]
    | apply Dk.quiet (id := 6) (by kernel_rfl)
    | apply c126
    | exact ()
theorem c216 {x0 : MSetFunctor} {v_x0_Shape_From : Value} {v_x0_Shape_To : Value} {v_x0_Shape_Identity : Value} {v_x0_Shape_Composites : Value} {v_x0_Sizes : Value} {v_x0_Actions : Value} {x1 : MSetFunctor} {v_x1_Shape_From : Value} {v_x1_Shape_To : Value} {v_x1_Shape_Identity : Value} {v_x1_Shape_Composites : Value} {v_x1_Sizes : Value} {v_x1_Actions : Value} {x2 : (List (List Int))} {v_x2 : Value} : Ct Tryz.prog 216 true (spec_l19Parts x0 x1 x2) [.agg #[.int .i64 (x0.Shape.Objects), v_x0_Shape_From, v_x0_Shape_To, v_x0_Shape_Identity, v_x0_Shape_Composites, v_x0_Sizes, v_x0_Actions], .agg #[.int .i64 (x1.Shape.Objects), v_x1_Shape_From, v_x1_Shape_To, v_x1_Shape_Identity, v_x1_Shape_Composites, v_x1_Sizes, v_x1_Actions], v_x2] [.rd false (sImm (sInt .i64)) v_x0_Shape_From x0.Shape.From, .rd false (sImm (sInt .i64)) v_x0_Shape_To x0.Shape.To, .rd false (sImm (sInt .i64)) v_x0_Shape_Identity x0.Shape.Identity, .rd false (sImm (sImm (sInt .i64))) v_x0_Shape_Composites x0.Shape.Composites, .rd false (sImm (sInt .i64)) v_x0_Sizes x0.Sizes, .rd false (sImm (sImm (sInt .i64))) v_x0_Actions x0.Actions, .rd false (sImm (sInt .i64)) v_x1_Shape_From x1.Shape.From, .rd false (sImm (sInt .i64)) v_x1_Shape_To x1.Shape.To, .rd false (sImm (sInt .i64)) v_x1_Shape_Identity x1.Shape.Identity, .rd false (sImm (sImm (sInt .i64))) v_x1_Shape_Composites x1.Shape.Composites, .rd false (sImm (sInt .i64)) v_x1_Sizes x1.Sizes, .rd false (sImm (sImm (sInt .i64))) v_x1_Actions x1.Actions, .rd false (sImm (sImm (sInt .i64))) v_x2 x2] (fun y (_ : Unit) => [.bool y]) (fun y _ => []) := by
  refine ct (S := Unit) (owt fun _ _ => rfl) Tryz.func216 rfl rfl ?_
  repeat' first
    | intro _
    | exact rfl
    | (refine @id.{0} _ ?_; constructor)
    | apply Dk.loop 0 (V := Unit) (fun (s : Int) v => []) (fun s v => [(7, .int .i64 (s))]) () [(2, _), (3, _), (4, _)]
    | apply Dk.quiet (id := 6) (by kernel_rfl)
    | apply c296
    | exact ()
end Go.Proofs.YtdlhbbhdfnnmnaaGreat
