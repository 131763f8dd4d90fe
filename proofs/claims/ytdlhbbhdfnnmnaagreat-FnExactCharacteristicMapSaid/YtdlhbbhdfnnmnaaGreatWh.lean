/- Walks by the calculus D. No condition beside those that each theorem names. -/
import Derived.Test.YtdlhbbhdfnnmnaaGreatDi
import Derived.Test.YtdlhbbhdfnnmnaaGreatMo
import Derived.Test.YtdlhbbhdfnnmnaaGreatDs
import Derived.Test.YtdlhbbhdfnnmnaaGreatSo
import Derived.Test.YtdlhbbhdfnnmnaaGreatWa
import Derived.Test.YtdlhbbhdfnnmnaaGreatWc
import Derived.Test.YtdlhbbhdfnnmnaaGreatWd
namespace Go.Proofs.YtdlhbbhdfnnmnaaGreat
open Go Go.Li Go.Dk
set_option linter.unusedVariables false
set_option maxHeartbeats 1000000
set_option maxRecDepth 100000
theorem c57 {x0 : MCategory} {v_x0_From : Value} {v_x0_To : Value} {v_x0_Identity : Value} {v_x0_Composites : Value} : Ct Tryz.prog 57 true (laws_toCategory x0) [.agg #[.int .i64 (x0.Objects), v_x0_From, v_x0_To, v_x0_Identity, v_x0_Composites]] [.rd false (sImm (sInt .i64)) v_x0_From x0.From, .rd false (sImm (sInt .i64)) v_x0_To x0.To, .rd false (sImm (sInt .i64)) v_x0_Identity x0.Identity, .rd false (sImm (sImm (sInt .i64))) v_x0_Composites x0.Composites] (fun y (v : Value × Value × Value × Value) => [.agg #[.int .i64 y.Objects, v.1, v.2.1, v.2.2.1, v.2.2.2]]) (fun y v => [.own (sOwn 2 (sInt .i64)) v.1 y.From, .own (sOwn 2 (sInt .i64)) v.2.1 y.To, .own (sOwn 2 (sInt .i64)) v.2.2.1 y.Identity, .own (sOwn 22 (sOwn 2 (sInt .i64))) v.2.2.2 y.Composites]) := by
  refine ct (S := Unit) (owt fun _ _ => rfl) Tryz.func57 rfl rfl ?_
  repeat' first
    | intro _
    | exact rfl
    | (refine @id.{0} _ ?_; constructor)
    | apply c97
    | apply c80
    | exact ()
theorem c31 {x0 : MSetFunctor} {v_x0_Shape_From : Value} {v_x0_Shape_To : Value} {v_x0_Shape_Identity : Value} {v_x0_Shape_Composites : Value} {v_x0_Sizes : Value} {v_x0_Actions : Value} : Ct Tryz.prog 31 true (laws_toSetFunctor x0) [.agg #[.int .i64 (x0.Shape.Objects), v_x0_Shape_From, v_x0_Shape_To, v_x0_Shape_Identity, v_x0_Shape_Composites, v_x0_Sizes, v_x0_Actions]] [.rd false (sImm (sInt .i64)) v_x0_Shape_From x0.Shape.From, .rd false (sImm (sInt .i64)) v_x0_Shape_To x0.Shape.To, .rd false (sImm (sInt .i64)) v_x0_Shape_Identity x0.Shape.Identity, .rd false (sImm (sImm (sInt .i64))) v_x0_Shape_Composites x0.Shape.Composites, .rd false (sImm (sInt .i64)) v_x0_Sizes x0.Sizes, .rd false (sImm (sImm (sInt .i64))) v_x0_Actions x0.Actions] (fun y (v : Value × Value × Value × Value × Value × Value) => [.agg #[.int .i64 y.Shape.Objects, v.1, v.2.1, v.2.2.1, v.2.2.2.1, v.2.2.2.2.1, v.2.2.2.2.2]]) (fun y v => [.own (sOwn 2 (sInt .i64)) v.1 y.Shape.From, .own (sOwn 2 (sInt .i64)) v.2.1 y.Shape.To, .own (sOwn 2 (sInt .i64)) v.2.2.1 y.Shape.Identity, .own (sOwn 22 (sOwn 2 (sInt .i64))) v.2.2.2.1 y.Shape.Composites, .own (sOwn 2 (sInt .i64)) v.2.2.2.2.1 y.Sizes, .own (sOwn 22 (sOwn 2 (sInt .i64))) v.2.2.2.2.2 y.Actions]) := by
  refine ct (S := Unit) (owt fun _ _ => rfl) Tryz.func31 rfl rfl ?_
  repeat' first
    | intro _
    | exact rfl
    | (refine @id.{0} _ ?_; constructor)
    | apply c57
    | apply c97
    | apply c80
    | exact ()
theorem c37 {x0 : MPart} {v_x0_Members : Value} : Ct Tryz.prog 37 true (laws_toPart x0) [.agg #[v_x0_Members]] [.rd false (sImm (sImm (sInt .i64))) v_x0_Members x0.Members] (fun y (v : Value) => [.agg #[v]]) (fun y v => [.own (sOwn 22 (sOwn 2 (sInt .i64))) v y.Members]) := by
  refine ct (S := Unit) (owt fun _ _ => rfl) Tryz.func37 rfl rfl ?_
  repeat' first
    | intro _
    | exact rfl
    | (refine @id.{0} _ ?_; constructor)
    | apply c80
    | exact ()
theorem c205 {x0 : MSetFunctor} {p_x0 : Addr} {v_x0_Shape_From : Value} {v_x0_Shape_To : Value} {v_x0_Shape_Identity : Value} {v_x0_Shape_Composites : Value} {v_x0_Sizes : Value} {v_x0_Actions : Value} {x1 : MPart} {v_x1_Members : Value} : Ct Tryz.prog 205 true (impl_SetFunctor_isPart x0 x1) [.pointer (some (p_x0)), .agg #[v_x1_Members]] [.ats p_x0 [.int .i64 (x0.Shape.Objects), v_x0_Shape_From, v_x0_Shape_To, v_x0_Shape_Identity, v_x0_Shape_Composites, v_x0_Sizes, v_x0_Actions], .rd false (sImm (sInt .i64)) v_x0_Shape_From x0.Shape.From, .rd false (sImm (sInt .i64)) v_x0_Shape_To x0.Shape.To, .rd false (sImm (sInt .i64)) v_x0_Shape_Identity x0.Shape.Identity, .rd false (sImm (sImm (sInt .i64))) v_x0_Shape_Composites x0.Shape.Composites, .rd false (sImm (sInt .i64)) v_x0_Sizes x0.Sizes, .rd false (sImm (sImm (sInt .i64))) v_x0_Actions x0.Actions, .rd false (sImm (sImm (sInt .i64))) v_x1_Members x1.Members] (fun y (_ : Unit) => [.bool y]) (fun y _ => []) := by
  refine ct (S := Unit) (owt fun _ _ => rfl) Tryz.func205 rfl rfl ?_
  repeat' first
    | intro _
    | exact rfl
    | (refine @id.{0} _ ?_; constructor)
    | apply Dk.loop 0 (V := Unit) (fun (s : Int) v => []) (fun s v => [(23, .int .i64 (s))]) () [(0, _), (3, _), (21, _), (22, _)]
    | apply Dk.loop 2 (V := Unit) (fun (s : Int) v => []) (fun s v => [(49, .int .i64 (s))]) () [(0, _), (3, _), (47, _), (48, _)]
    | apply Dk.loop 4 (V := Unit) (fun (s : Int) v => []) (fun s v => [(67, .int .i64 (s))]) () [(0, _), (3, _), (7, _), (8, _), (47, _), (48, _), (49, _), (65, _), (66, _)]
    | apply Dk.quiet (id := 1) (by kernel_rfl)
    | apply Dk.quiet (id := 12) (by kernel_rfl)
    | apply Dk.quiet (id := 15) (by kernel_rfl)
    | apply c299
    | apply c187
    | apply c211
    | exact ()
theorem c60 {x0 : MCategory} {v_x0_From : Value} {v_x0_To : Value} {v_x0_Identity : Value} {v_x0_Composites : Value} {x1 : MCategory} {v_x1_From : Value} {v_x1_To : Value} {v_x1_Identity : Value} {v_x1_Composites : Value} : Ct Tryz.prog 60 true (laws_eqCategory x0 x1) [.agg #[.int .i64 (x0.Objects), v_x0_From, v_x0_To, v_x0_Identity, v_x0_Composites], .agg #[.int .i64 (x1.Objects), v_x1_From, v_x1_To, v_x1_Identity, v_x1_Composites]] [.rd false (sImm (sInt .i64)) v_x0_From x0.From, .rd false (sImm (sInt .i64)) v_x0_To x0.To, .rd false (sImm (sInt .i64)) v_x0_Identity x0.Identity, .rd false (sImm (sImm (sInt .i64))) v_x0_Composites x0.Composites, .rd false (sImm (sInt .i64)) v_x1_From x1.From, .rd false (sImm (sInt .i64)) v_x1_To x1.To, .rd false (sImm (sInt .i64)) v_x1_Identity x1.Identity, .rd false (sImm (sImm (sInt .i64))) v_x1_Composites x1.Composites] (fun y (_ : Unit) => [.bool y]) (fun y _ => []) := by
  refine ct (S := Unit) (owt fun _ _ => rfl) Tryz.func60 rfl rfl ?_
  repeat' first
    | intro _
    | exact rfl
    | (refine @id.{0} _ ?_; constructor)
    | apply c91
    | apply c20
    | exact ()
theorem c19 {x0 : MSetFunctor} {v_x0_Shape_From : Value} {v_x0_Shape_To : Value} {v_x0_Shape_Identity : Value} {v_x0_Shape_Composites : Value} {v_x0_Sizes : Value} {v_x0_Actions : Value} {x1 : MSetFunctor} {v_x1_Shape_From : Value} {v_x1_Shape_To : Value} {v_x1_Shape_Identity : Value} {v_x1_Shape_Composites : Value} {v_x1_Sizes : Value} {v_x1_Actions : Value} : Ct Tryz.prog 19 true (laws_eqSetFunctor x0 x1) [.agg #[.int .i64 (x0.Shape.Objects), v_x0_Shape_From, v_x0_Shape_To, v_x0_Shape_Identity, v_x0_Shape_Composites, v_x0_Sizes, v_x0_Actions], .agg #[.int .i64 (x1.Shape.Objects), v_x1_Shape_From, v_x1_Shape_To, v_x1_Shape_Identity, v_x1_Shape_Composites, v_x1_Sizes, v_x1_Actions]] [.rd false (sImm (sInt .i64)) v_x0_Shape_From x0.Shape.From, .rd false (sImm (sInt .i64)) v_x0_Shape_To x0.Shape.To, .rd false (sImm (sInt .i64)) v_x0_Shape_Identity x0.Shape.Identity, .rd false (sImm (sImm (sInt .i64))) v_x0_Shape_Composites x0.Shape.Composites, .rd false (sImm (sInt .i64)) v_x0_Sizes x0.Sizes, .rd false (sImm (sImm (sInt .i64))) v_x0_Actions x0.Actions, .rd false (sImm (sInt .i64)) v_x1_Shape_From x1.Shape.From, .rd false (sImm (sInt .i64)) v_x1_Shape_To x1.Shape.To, .rd false (sImm (sInt .i64)) v_x1_Shape_Identity x1.Shape.Identity, .rd false (sImm (sImm (sInt .i64))) v_x1_Shape_Composites x1.Shape.Composites, .rd false (sImm (sInt .i64)) v_x1_Sizes x1.Sizes, .rd false (sImm (sImm (sInt .i64))) v_x1_Actions x1.Actions] (fun y (_ : Unit) => [.bool y]) (fun y _ => []) := by
  refine ct (S := Unit) (owt fun _ _ => rfl) Tryz.func19 rfl rfl ?_
  repeat' first
    | intro _
    | exact rfl
    | (refine @id.{0} _ ?_; constructor)
    | apply c60
    | apply c91
    | apply c20
    | exact ()
theorem c93 {x0 : MCategory} {v_x0_From : Value} {v_x0_To : Value} {v_x0_Identity : Value} {v_x0_Composites : Value} {x1 : Int} : Ct Tryz.prog 93 true (laws_heldCategory x0 x1) [.agg #[.int .i64 (x0.Objects), v_x0_From, v_x0_To, v_x0_Identity, v_x0_Composites], .int .i64 (x1)] [.rd false (sImm (sInt .i64)) v_x0_From x0.From, .rd false (sImm (sInt .i64)) v_x0_To x0.To, .rd false (sImm (sInt .i64)) v_x0_Identity x0.Identity, .rd false (sImm (sImm (sInt .i64))) v_x0_Composites x0.Composites] (fun y (_ : Unit) => [.int .i64 y]) (fun y _ => []) := by
  refine ct (S := Unit) (owt fun _ _ => rfl) Tryz.func93 rfl rfl ?_
  repeat' first
    | intro _
    | exact rfl
    | (refine @id.{0} _ ?_; constructor)
    | apply c94
    | apply c26
    | exact ()
theorem c25 {x0 : MSetFunctor} {v_x0_Shape_From : Value} {v_x0_Shape_To : Value} {v_x0_Shape_Identity : Value} {v_x0_Shape_Composites : Value} {v_x0_Sizes : Value} {v_x0_Actions : Value} {x1 : Int} : Ct Tryz.prog 25 true (laws_heldSetFunctor x0 x1) [.agg #[.int .i64 (x0.Shape.Objects), v_x0_Shape_From, v_x0_Shape_To, v_x0_Shape_Identity, v_x0_Shape_Composites, v_x0_Sizes, v_x0_Actions], .int .i64 (x1)] [.rd false (sImm (sInt .i64)) v_x0_Shape_From x0.Shape.From, .rd false (sImm (sInt .i64)) v_x0_Shape_To x0.Shape.To, .rd false (sImm (sInt .i64)) v_x0_Shape_Identity x0.Shape.Identity, .rd false (sImm (sImm (sInt .i64))) v_x0_Shape_Composites x0.Shape.Composites, .rd false (sImm (sInt .i64)) v_x0_Sizes x0.Sizes, .rd false (sImm (sImm (sInt .i64))) v_x0_Actions x0.Actions] (fun y (_ : Unit) => [.int .i64 y]) (fun y _ => []) := by
  refine ct (S := Unit) (owt fun _ _ => rfl) Tryz.func25 rfl rfl ?_
  repeat' first
    | intro _
    | exact rfl
    | (refine @id.{0} _ ?_; constructor)
    | apply c93
    | apply c94
    | apply c26
    | exact ()
end Go.Proofs.YtdlhbbhdfnnmnaaGreat
