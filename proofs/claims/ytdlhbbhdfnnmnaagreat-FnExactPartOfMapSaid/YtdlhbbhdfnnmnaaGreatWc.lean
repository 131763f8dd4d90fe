/- Walks by the calculus D. No condition beside those that each theorem names. -/
import Derived.Test.YtdlhbbhdfnnmnaaGreatDi
import Derived.Test.YtdlhbbhdfnnmnaaGreatMo
import Derived.Test.YtdlhbbhdfnnmnaaGreatDs
import Derived.Test.YtdlhbbhdfnnmnaaGreatSo
namespace Go.Proofs.YtdlhbbhdfnnmnaaGreat
open Go Go.Li Go.Dk
set_option linter.unusedVariables false
set_option maxHeartbeats 1000000
set_option maxRecDepth 100000
theorem c97 {x0 : (List Int)} {v_x0 : Value} : Ct Tryz.prog 97 true (laws_toInt64S x0) [v_x0] [.rd false (sImm (sInt .i64)) v_x0 x0] (fun y (v : Value) => [v]) (fun y v => [.own (sOwn 2 (sInt .i64)) v y]) := by
  refine ct (S := Unit) (owt fun _ _ => rfl) Tryz.func97 rfl rfl ?_
  repeat' first
    | intro _
    | exact rfl
    | (refine @id.{0} _ ?_; constructor)
    | apply Dk.loopA 0 (V := Unit) (A := Value) _ (fun a (s : Int × (List Int)) v => [.own (sOwn 2 (sInt .i64)) a s.2]) (fun a s v => [(3, a), (4, .int .i64 (s.1))]) () [(0, _)]
    | exact ()
theorem c80 {x0 : (List (List Int))} {v_x0 : Value} : Ct Tryz.prog 80 true (laws_toInt64SS x0) [v_x0] [.rd false (sImm (sImm (sInt .i64))) v_x0 x0] (fun y (v : Value) => [v]) (fun y v => [.own (sOwn 22 (sOwn 2 (sInt .i64))) v y]) := by
  refine ct (S := Unit) (owt fun _ _ => rfl) Tryz.func80 rfl rfl ?_
  repeat' first
    | intro _
    | exact rfl
    | (refine @id.{0} _ ?_; constructor)
    | apply Dk.loopA 0 (V := Unit) (A := Value) _ (fun a (s : Int × (List (List Int))) v => [.own (sOwn 22 (sOwn 2 (sInt .i64))) a s.2]) (fun a s v => [(3, a), (4, .int .i64 (s.1))]) () [(0, _)]
    | apply c97
    | exact ()
theorem c128 {x0 : (List Int)} {v_x0 : Value} : Ct Tryz.prog 128 true (spec_l01Own x0) [v_x0] [.rd false (sImm (sInt .i64)) v_x0 x0] (fun y (v : Value) => [v]) (fun y v => [.own (sOwn 2 (sInt .i64)) v y]) := by
  refine ct (S := Unit) (owt fun _ _ => rfl) Tryz.func128 rfl rfl ?_
  repeat' first
    | intro _
    | exact rfl
    | (refine @id.{0} _ ?_; constructor)
    | exact ()
theorem c203 {x0 : (List (List Int))} {v_x0 : Value} : Ct Tryz.prog 203 true (spec_l01Own2 x0) [v_x0] [.rd false (sImm (sImm (sInt .i64))) v_x0 x0] (fun y (v : Value) => [v]) (fun y v => [.own (sOwn 22 (sOwn 2 (sInt .i64))) v y]) := by
  refine ct (S := Unit) (owt fun _ _ => rfl) Tryz.func203 rfl rfl ?_
  repeat' first
    | intro _
    | exact rfl
    | (refine @id.{0} _ ?_; constructor)
    | apply Dk.loop 0 (V := Value) (fun (s : (List (List Int)) × Int) v => [.own (sOwn 22 (sOwn 2 (sInt .i64))) v s.1]) (fun s v => [(3, v), (4, .int .i64 (s.2))]) _ [(0, _)]
    | apply c128
    | exact ()
theorem c311 {x0 : MCategory} {p_x0 : Addr} {v_x0_From : Value} {v_x0_To : Value} {v_x0_Identity : Value} {v_x0_Composites : Value} {x1 : Int} : Ct Tryz.prog 311 true (impl_Category_ends x0 x1) [.pointer (some (p_x0)), .int .i64 (x1)] [.ats p_x0 [.int .i64 (x0.Objects), v_x0_From, v_x0_To, v_x0_Identity, v_x0_Composites], .rd false (sImm (sInt .i64)) v_x0_From x0.From, .rd false (sImm (sInt .i64)) v_x0_To x0.To, .rd false (sImm (sInt .i64)) v_x0_Identity x0.Identity, .rd false (sImm (sImm (sInt .i64))) v_x0_Composites x0.Composites] (fun y (_ : Unit) => [.agg #[.int .i64 y.From, .int .i64 y.To]]) (fun y _ => []) := by
  refine ct (S := Unit) (owt fun _ _ => rfl) Tryz.func311 rfl rfl ?_
  repeat' first
    | intro _
    | exact rfl
    | (refine @id.{0} _ ?_; constructor)
    | apply Dk.any (id := 1) 14 [] [] [[], [0], [1, 0], [2, 1, 0], [], [3, 2, 1, 0, 4], [5, 3, 2, 1, 0, 4], [], [7], [8, 7], [9, 8, 7], [], [10, 9, 8, 7, 11], [12, 10, 9, 8, 7, 11]] (by kernel_rfl)
    | exact ()
theorem c229 {x0 : (List Int)} {v_x0 : Value} {x1 : (List Int)} {v_x1 : Value} : Ct Tryz.prog 229 true (impl_compare x0 x1) [v_x0, v_x1] [.rd false (sImm (sInt .i64)) v_x0 x0, .rd false (sImm (sInt .i64)) v_x1 x1] (fun y (_ : Unit) => [.int .i64 y]) (fun y _ => []) := by
  refine ct (S := Unit) (owt fun _ _ => rfl) Tryz.func229 rfl rfl ?_
  repeat' first
    | intro _
    | exact rfl
    | (refine @id.{0} _ ?_; constructor)
    | apply Dk.loop 0 (V := Unit) (fun (s : Int) v => []) (fun s v => [(8, .int .i64 (s))]) () [(0, _), (1, _), (7, _)]
    | apply Dk.quiet (id := 6) (by kernel_rfl)
    | apply Dk.quiet (id := 7) (by kernel_rfl)
    | exact ()
theorem c172 {x0 : (List Int)} {v_x0 : Value} {x1 : (List Int)} {v_x1 : Value} : Ct Tryz.prog 172 true (impl_same x0 x1) [v_x0, v_x1] [.rd false (sImm (sInt .i64)) v_x0 x0, .rd false (sImm (sInt .i64)) v_x1 x1] (fun y (_ : Unit) => [.bool y]) (fun y _ => []) := by
  refine ct (S := Unit) (owt fun _ _ => rfl) Tryz.func172 rfl rfl ?_
  repeat' first
    | intro _
    | exact rfl
    | (refine @id.{0} _ ?_; constructor)
    | apply c229
    | exact ()
theorem c304 {x0 : (List Int)} {v_x0 : Value} {x1 : (List Int)} {v_x1 : Value} : Ct Tryz.prog 304 true (impl_Category_sieves_2 x0 x1) [v_x0, v_x1] [.rd false (sImm (sInt .i64)) v_x0 x0, .rd false (sImm (sInt .i64)) v_x1 x1] (fun y (_ : Unit) => [.int .i64 y]) (fun y _ => []) := by
  refine ct (S := Unit) (owt fun _ _ => rfl) Tryz.func304 rfl rfl ?_
  repeat' first
    | intro _
    | exact rfl
    | (refine @id.{0} _ ?_; constructor)
    | apply c229
    | exact ()
theorem c217 {x0 : MSetFunctor} {v_x0_Shape_From : Value} {v_x0_Shape_To : Value} {v_x0_Shape_Identity : Value} {v_x0_Shape_Composites : Value} {v_x0_Sizes : Value} {v_x0_Actions : Value} {x1 : MSetFunctor} {v_x1_Shape_From : Value} {v_x1_Shape_To : Value} {v_x1_Shape_Identity : Value} {v_x1_Shape_Composites : Value} {v_x1_Sizes : Value} {v_x1_Actions : Value} {x2 : (List (List Int))} {v_x2 : Value} : Ct Tryz.prog 217 true (spec_l19Unnatural x0 x1 x2) [.agg #[.int .i64 (x0.Shape.Objects), v_x0_Shape_From, v_x0_Shape_To, v_x0_Shape_Identity, v_x0_Shape_Composites, v_x0_Sizes, v_x0_Actions], .agg #[.int .i64 (x1.Shape.Objects), v_x1_Shape_From, v_x1_Shape_To, v_x1_Shape_Identity, v_x1_Shape_Composites, v_x1_Sizes, v_x1_Actions], v_x2] [.rd false (sImm (sInt .i64)) v_x0_Shape_From x0.Shape.From, .rd false (sImm (sInt .i64)) v_x0_Shape_To x0.Shape.To, .rd false (sImm (sInt .i64)) v_x0_Shape_Identity x0.Shape.Identity, .rd false (sImm (sImm (sInt .i64))) v_x0_Shape_Composites x0.Shape.Composites, .rd false (sImm (sInt .i64)) v_x0_Sizes x0.Sizes, .rd false (sImm (sImm (sInt .i64))) v_x0_Actions x0.Actions, .rd false (sImm (sInt .i64)) v_x1_Shape_From x1.Shape.From, .rd false (sImm (sInt .i64)) v_x1_Shape_To x1.Shape.To, .rd false (sImm (sInt .i64)) v_x1_Shape_Identity x1.Shape.Identity, .rd false (sImm (sImm (sInt .i64))) v_x1_Shape_Composites x1.Shape.Composites, .rd false (sImm (sInt .i64)) v_x1_Sizes x1.Sizes, .rd false (sImm (sImm (sInt .i64))) v_x1_Actions x1.Actions, .rd false (sImm (sImm (sInt .i64))) v_x2 x2] (fun y (_ : Unit) => [.int .i64 y.1, .int .i64 y.2]) (fun y _ => []) := by
  refine ct (S := Unit) (owt fun _ _ => rfl) Tryz.func217 rfl rfl ?_
  repeat' first
    | intro _
    | exact rfl
    | (refine @id.{0} _ ?_; constructor)
    | apply Dk.loop 0 (V := Unit) (fun (s : Int) v => []) (fun s v => [(8, .int .i64 (s))]) () [(2, _), (3, _), (4, _)]
    | apply Dk.loop 2 (V := Unit) (fun (s : Int) v => []) (fun s v => [(11, .int .i64 (s))]) () [(2, _), (3, _), (4, _), (8, _), (9, _), (10, _)]
    | apply Dk.quiet (id := 4) (by kernel_rfl)
    | apply Dk.quiet (id := 8) (by kernel_rfl)
    | exact ()
theorem c121 {x0 : Int} {x1 : Int} {x2 : MSetMap} {p_x2 : Addr} {v_x2_Source_Shape_From : Value} {v_x2_Source_Shape_To : Value} {v_x2_Source_Shape_Identity : Value} {v_x2_Source_Shape_Composites : Value} {v_x2_Source_Sizes : Value} {v_x2_Source_Actions : Value} {v_x2_Target_Shape_From : Value} {v_x2_Target_Shape_To : Value} {v_x2_Target_Shape_Identity : Value} {v_x2_Target_Shape_Composites : Value} {v_x2_Target_Sizes : Value} {v_x2_Target_Actions : Value} {v_x2_Parts : Value} {x3 : (List Int)} {p_x3 : Addr} {v_x3 : Value} : Ct Tryz.prog 121 true (impl_PartOfMap_1 x0 x1 x2 x3) [.int .i64 (x0), .int .i64 (x1), .pointer (some (p_x2)), .pointer (some (p_x3))] [.ats p_x3 [v_x3], .ats p_x2 [.int .i64 (x2.Source.Shape.Objects), v_x2_Source_Shape_From, v_x2_Source_Shape_To, v_x2_Source_Shape_Identity, v_x2_Source_Shape_Composites, v_x2_Source_Sizes, v_x2_Source_Actions, .int .i64 (x2.Target.Shape.Objects), v_x2_Target_Shape_From, v_x2_Target_Shape_To, v_x2_Target_Shape_Identity, v_x2_Target_Shape_Composites, v_x2_Target_Sizes, v_x2_Target_Actions, v_x2_Parts], .rd false (sImm (sInt .i64)) v_x2_Source_Shape_From x2.Source.Shape.From, .rd false (sImm (sInt .i64)) v_x2_Source_Shape_To x2.Source.Shape.To, .rd false (sImm (sInt .i64)) v_x2_Source_Shape_Identity x2.Source.Shape.Identity, .rd false (sImm (sImm (sInt .i64))) v_x2_Source_Shape_Composites x2.Source.Shape.Composites, .rd false (sImm (sInt .i64)) v_x2_Source_Sizes x2.Source.Sizes, .rd false (sImm (sImm (sInt .i64))) v_x2_Source_Actions x2.Source.Actions, .rd false (sImm (sInt .i64)) v_x2_Target_Shape_From x2.Target.Shape.From, .rd false (sImm (sInt .i64)) v_x2_Target_Shape_To x2.Target.Shape.To, .rd false (sImm (sInt .i64)) v_x2_Target_Shape_Identity x2.Target.Shape.Identity, .rd false (sImm (sImm (sInt .i64))) v_x2_Target_Shape_Composites x2.Target.Shape.Composites, .rd false (sImm (sInt .i64)) v_x2_Target_Sizes x2.Target.Sizes, .rd false (sImm (sImm (sInt .i64))) v_x2_Target_Actions x2.Target.Actions, .rd false (sImm (sImm (sInt .i64))) v_x2_Parts x2.Parts, .rd false (sImm (sInt .i64)) v_x3 x3] (fun y (_ : Unit) => [.bool y]) (fun y _ => []) := by
  refine ct (S := Unit) (owt fun _ _ => rfl) Tryz.func121 rfl rfl ?_
  repeat' first
    | intro _
    | exact rfl
    | (refine @id.{0} _ ?_; constructor)
    | apply Dk.quiet (id := 1) (by kernel_rfl)
    | exact ()
theorem c120_k121 {x0 : MSetFunctor} {p_x0 : Addr} {v_x0_Shape_From : Value} {v_x0_Shape_To : Value} {v_x0_Shape_Identity : Value} {v_x0_Shape_Composites : Value} {v_x0_Sizes : Value} {v_x0_Actions : Value} {q_x2 : MSetMap} {q_p_x2 : Addr} {q_v_x2_Source_Shape_From : Value} {q_v_x2_Source_Shape_To : Value} {q_v_x2_Source_Shape_Identity : Value} {q_v_x2_Source_Shape_Composites : Value} {q_v_x2_Source_Sizes : Value} {q_v_x2_Source_Actions : Value} {q_v_x2_Target_Shape_From : Value} {q_v_x2_Target_Shape_To : Value} {q_v_x2_Target_Shape_Identity : Value} {q_v_x2_Target_Shape_Composites : Value} {q_v_x2_Target_Sizes : Value} {q_v_x2_Target_Actions : Value} {q_v_x2_Parts : Value} {q_x3 : (List Int)} {q_p_x3 : Addr} {q_v_x3 : Value} : Ct Tryz.prog 120 true (impl_partOf x0 (fun a0 a1 => impl_PartOfMap_1 a0 a1 q_x2 q_x3)) [.pointer (some (p_x0)), .func (.func 121) #[] #[.pointer (some (q_p_x2)), .pointer (some (q_p_x3))]] [.ats p_x0 [.int .i64 (x0.Shape.Objects), v_x0_Shape_From, v_x0_Shape_To, v_x0_Shape_Identity, v_x0_Shape_Composites, v_x0_Sizes, v_x0_Actions], .rd false (sImm (sInt .i64)) v_x0_Shape_From x0.Shape.From, .rd false (sImm (sInt .i64)) v_x0_Shape_To x0.Shape.To, .rd false (sImm (sInt .i64)) v_x0_Shape_Identity x0.Shape.Identity, .rd false (sImm (sImm (sInt .i64))) v_x0_Shape_Composites x0.Shape.Composites, .rd false (sImm (sInt .i64)) v_x0_Sizes x0.Sizes, .rd false (sImm (sImm (sInt .i64))) v_x0_Actions x0.Actions, .ats q_p_x3 [q_v_x3], .ats q_p_x2 [.int .i64 (q_x2.Source.Shape.Objects), q_v_x2_Source_Shape_From, q_v_x2_Source_Shape_To, q_v_x2_Source_Shape_Identity, q_v_x2_Source_Shape_Composites, q_v_x2_Source_Sizes, q_v_x2_Source_Actions, .int .i64 (q_x2.Target.Shape.Objects), q_v_x2_Target_Shape_From, q_v_x2_Target_Shape_To, q_v_x2_Target_Shape_Identity, q_v_x2_Target_Shape_Composites, q_v_x2_Target_Sizes, q_v_x2_Target_Actions, q_v_x2_Parts], .rd false (sImm (sInt .i64)) q_v_x2_Source_Shape_From q_x2.Source.Shape.From, .rd false (sImm (sInt .i64)) q_v_x2_Source_Shape_To q_x2.Source.Shape.To, .rd false (sImm (sInt .i64)) q_v_x2_Source_Shape_Identity q_x2.Source.Shape.Identity, .rd false (sImm (sImm (sInt .i64))) q_v_x2_Source_Shape_Composites q_x2.Source.Shape.Composites, .rd false (sImm (sInt .i64)) q_v_x2_Source_Sizes q_x2.Source.Sizes, .rd false (sImm (sImm (sInt .i64))) q_v_x2_Source_Actions q_x2.Source.Actions, .rd false (sImm (sInt .i64)) q_v_x2_Target_Shape_From q_x2.Target.Shape.From, .rd false (sImm (sInt .i64)) q_v_x2_Target_Shape_To q_x2.Target.Shape.To, .rd false (sImm (sInt .i64)) q_v_x2_Target_Shape_Identity q_x2.Target.Shape.Identity, .rd false (sImm (sImm (sInt .i64))) q_v_x2_Target_Shape_Composites q_x2.Target.Shape.Composites, .rd false (sImm (sInt .i64)) q_v_x2_Target_Sizes q_x2.Target.Sizes, .rd false (sImm (sImm (sInt .i64))) q_v_x2_Target_Actions q_x2.Target.Actions, .rd false (sImm (sImm (sInt .i64))) q_v_x2_Parts q_x2.Parts, .rd false (sImm (sInt .i64)) q_v_x3 q_x3] (fun y (v : Value) => [.agg #[v]]) (fun y v => [.own (sOwn 22 (sOwn 2 (sInt .i64))) v y.Members]) := by
  refine ct (S := Unit) (owt fun _ _ => rfl) Tryz.func120 rfl rfl ?_
  repeat' first
    | intro _
    | exact rfl
    | (refine @id.{0} _ ?_; constructor)
    | apply Dk.loopA 0 (V := Value) (A := Nat) _ (fun a (s : Int × (List (List Int))) v => [.row a [v] 64, .own (sOwn 22 (sOwn 2 (sInt .i64))) v s.2]) (fun a s v => [(5, .pointer (some ⟨a, 0, none⟩)), (16, .int .i64 (s.1))]) _ [(1, _), (4, _), (14, _), (15, _)]
    | apply Dk.loop 2 (V := Value) (fun (s : (List Int) × Int) v => [.own (sOwn 2 (sInt .i64)) v s.1]) (fun s v => [(8, v), (23, .int .i64 (s.2))]) _ [(1, _), (4, _), (5, _), (6, _), (14, _), (15, _), (16, _), (22, _)]
    | apply c121
    | exact ()
end Go.Proofs.YtdlhbbhdfnnmnaaGreat
