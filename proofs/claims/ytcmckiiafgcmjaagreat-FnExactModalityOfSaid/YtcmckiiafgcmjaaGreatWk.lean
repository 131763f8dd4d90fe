/- Walks by the calculus D. No condition beside those that each theorem names. -/
import Derived.Test.YtcmckiiafgcmjaaGreatDi
import Derived.Test.YtcmckiiafgcmjaaGreatMo
import Derived.Test.YtcmckiiafgcmjaaGreatSo
import Derived.Test.YtcmckiiafgcmjaaGreatWb
import Derived.Test.YtcmckiiafgcmjaaGreatWd
import Derived.Test.YtcmckiiafgcmjaaGreatWe
import Derived.Test.YtcmckiiafgcmjaaGreatWf
import Derived.Test.YtcmckiiafgcmjaaGreatWh
namespace Go.Proofs.YtcmckiiafgcmjaaGreat
open Go Go.Li Go.Dk
set_option linter.unusedVariables false
set_option maxHeartbeats 1000000
set_option maxRecDepth 100000
theorem c80 {x0 : MTopology} {p_x0 : Addr} {v_x0_Shape_From : Value} {v_x0_Shape_To : Value} {v_x0_Shape_Identity : Value} {v_x0_Shape_Composites : Value} {v_x0_Covers : Value} : Ct Tryz.prog 80 true (impl_Topology_hasForm x0) [.pointer (some (p_x0))] [.ats p_x0 [.int .i64 (x0.Shape.Objects), v_x0_Shape_From, v_x0_Shape_To, v_x0_Shape_Identity, v_x0_Shape_Composites, v_x0_Covers], .rd false (sImm (sInt .i64)) v_x0_Shape_From x0.Shape.From, .rd false (sImm (sInt .i64)) v_x0_Shape_To x0.Shape.To, .rd false (sImm (sInt .i64)) v_x0_Shape_Identity x0.Shape.Identity, .rd false (sImm (sImm (sInt .i64))) v_x0_Shape_Composites x0.Shape.Composites, .rd false (sImm (sImm (sImm (sInt .i64)))) v_x0_Covers x0.Covers] (fun y (_ : Unit) => [.bool y]) (fun y _ => []) := by
  refine ct (S := Unit) (owt fun _ _ => rfl) Tryz.func80 rfl rfl ?_
  repeat' first
    | intro _
    | exact rfl
    | (refine @id.{0} _ ?_; constructor)
    | apply Dk.loop 0 (V := Unit) (fun (s : Int) v => []) (fun s v => [(31, .int .i64 (s))]) () [(3, _), (29, _), (30, _)]
    | apply Dk.loop 2 (V := Unit) (fun (s : Int) v => []) (fun s v => [(38, .int .i64 (s))]) () [(3, _), (4, _), (5, _), (29, _), (30, _), (31, _), (36, _), (37, _)]
    | apply Dk.quiet (id := 2) (by kernel_rfl)
    | apply c103
    | apply c82
    | apply c145
    | exact ()
theorem c52 {x0 : MSetMap} {v_x0_Source_Shape_From : Value} {v_x0_Source_Shape_To : Value} {v_x0_Source_Shape_Identity : Value} {v_x0_Source_Shape_Composites : Value} {v_x0_Source_Sizes : Value} {v_x0_Source_Actions : Value} {v_x0_Target_Shape_From : Value} {v_x0_Target_Shape_To : Value} {v_x0_Target_Shape_Identity : Value} {v_x0_Target_Shape_Composites : Value} {v_x0_Target_Sizes : Value} {v_x0_Target_Actions : Value} {v_x0_Parts : Value} {x1 : MSetMap} {v_x1_Source_Shape_From : Value} {v_x1_Source_Shape_To : Value} {v_x1_Source_Shape_Identity : Value} {v_x1_Source_Shape_Composites : Value} {v_x1_Source_Sizes : Value} {v_x1_Source_Actions : Value} {v_x1_Target_Shape_From : Value} {v_x1_Target_Shape_To : Value} {v_x1_Target_Shape_Identity : Value} {v_x1_Target_Shape_Composites : Value} {v_x1_Target_Sizes : Value} {v_x1_Target_Actions : Value} {v_x1_Parts : Value} : Ct Tryz.prog 52 true (laws_eqSetMap x0 x1) [.agg #[.int .i64 (x0.Source.Shape.Objects), v_x0_Source_Shape_From, v_x0_Source_Shape_To, v_x0_Source_Shape_Identity, v_x0_Source_Shape_Composites, v_x0_Source_Sizes, v_x0_Source_Actions, .int .i64 (x0.Target.Shape.Objects), v_x0_Target_Shape_From, v_x0_Target_Shape_To, v_x0_Target_Shape_Identity, v_x0_Target_Shape_Composites, v_x0_Target_Sizes, v_x0_Target_Actions, v_x0_Parts], .agg #[.int .i64 (x1.Source.Shape.Objects), v_x1_Source_Shape_From, v_x1_Source_Shape_To, v_x1_Source_Shape_Identity, v_x1_Source_Shape_Composites, v_x1_Source_Sizes, v_x1_Source_Actions, .int .i64 (x1.Target.Shape.Objects), v_x1_Target_Shape_From, v_x1_Target_Shape_To, v_x1_Target_Shape_Identity, v_x1_Target_Shape_Composites, v_x1_Target_Sizes, v_x1_Target_Actions, v_x1_Parts]] [.rd false (sImm (sInt .i64)) v_x0_Source_Shape_From x0.Source.Shape.From, .rd false (sImm (sInt .i64)) v_x0_Source_Shape_To x0.Source.Shape.To, .rd false (sImm (sInt .i64)) v_x0_Source_Shape_Identity x0.Source.Shape.Identity, .rd false (sImm (sImm (sInt .i64))) v_x0_Source_Shape_Composites x0.Source.Shape.Composites, .rd false (sImm (sInt .i64)) v_x0_Source_Sizes x0.Source.Sizes, .rd false (sImm (sImm (sInt .i64))) v_x0_Source_Actions x0.Source.Actions, .rd false (sImm (sInt .i64)) v_x0_Target_Shape_From x0.Target.Shape.From, .rd false (sImm (sInt .i64)) v_x0_Target_Shape_To x0.Target.Shape.To, .rd false (sImm (sInt .i64)) v_x0_Target_Shape_Identity x0.Target.Shape.Identity, .rd false (sImm (sImm (sInt .i64))) v_x0_Target_Shape_Composites x0.Target.Shape.Composites, .rd false (sImm (sInt .i64)) v_x0_Target_Sizes x0.Target.Sizes, .rd false (sImm (sImm (sInt .i64))) v_x0_Target_Actions x0.Target.Actions, .rd false (sImm (sImm (sInt .i64))) v_x0_Parts x0.Parts, .rd false (sImm (sInt .i64)) v_x1_Source_Shape_From x1.Source.Shape.From, .rd false (sImm (sInt .i64)) v_x1_Source_Shape_To x1.Source.Shape.To, .rd false (sImm (sInt .i64)) v_x1_Source_Shape_Identity x1.Source.Shape.Identity, .rd false (sImm (sImm (sInt .i64))) v_x1_Source_Shape_Composites x1.Source.Shape.Composites, .rd false (sImm (sInt .i64)) v_x1_Source_Sizes x1.Source.Sizes, .rd false (sImm (sImm (sInt .i64))) v_x1_Source_Actions x1.Source.Actions, .rd false (sImm (sInt .i64)) v_x1_Target_Shape_From x1.Target.Shape.From, .rd false (sImm (sInt .i64)) v_x1_Target_Shape_To x1.Target.Shape.To, .rd false (sImm (sInt .i64)) v_x1_Target_Shape_Identity x1.Target.Shape.Identity, .rd false (sImm (sImm (sInt .i64))) v_x1_Target_Shape_Composites x1.Target.Shape.Composites, .rd false (sImm (sInt .i64)) v_x1_Target_Sizes x1.Target.Sizes, .rd false (sImm (sImm (sInt .i64))) v_x1_Target_Actions x1.Target.Actions, .rd false (sImm (sImm (sInt .i64))) v_x1_Parts x1.Parts] (fun y (_ : Unit) => [.bool y]) (fun y _ => []) := by
  refine ct (S := Unit) (owt fun _ _ => rfl) Tryz.func52 rfl rfl ?_
  repeat' first
    | intro _
    | exact rfl
    | (refine @id.{0} _ ?_; constructor)
    | apply c63
    | apply c29
    | exact ()
theorem c54 {x0 : MSetMap} {v_x0_Source_Shape_From : Value} {v_x0_Source_Shape_To : Value} {v_x0_Source_Shape_Identity : Value} {v_x0_Source_Shape_Composites : Value} {v_x0_Source_Sizes : Value} {v_x0_Source_Actions : Value} {v_x0_Target_Shape_From : Value} {v_x0_Target_Shape_To : Value} {v_x0_Target_Shape_Identity : Value} {v_x0_Target_Shape_Composites : Value} {v_x0_Target_Sizes : Value} {v_x0_Target_Actions : Value} {v_x0_Parts : Value} {x1 : Int} : Ct Tryz.prog 54 true (laws_heldSetMap x0 x1) [.agg #[.int .i64 (x0.Source.Shape.Objects), v_x0_Source_Shape_From, v_x0_Source_Shape_To, v_x0_Source_Shape_Identity, v_x0_Source_Shape_Composites, v_x0_Source_Sizes, v_x0_Source_Actions, .int .i64 (x0.Target.Shape.Objects), v_x0_Target_Shape_From, v_x0_Target_Shape_To, v_x0_Target_Shape_Identity, v_x0_Target_Shape_Composites, v_x0_Target_Sizes, v_x0_Target_Actions, v_x0_Parts], .int .i64 (x1)] [.rd false (sImm (sInt .i64)) v_x0_Source_Shape_From x0.Source.Shape.From, .rd false (sImm (sInt .i64)) v_x0_Source_Shape_To x0.Source.Shape.To, .rd false (sImm (sInt .i64)) v_x0_Source_Shape_Identity x0.Source.Shape.Identity, .rd false (sImm (sImm (sInt .i64))) v_x0_Source_Shape_Composites x0.Source.Shape.Composites, .rd false (sImm (sInt .i64)) v_x0_Source_Sizes x0.Source.Sizes, .rd false (sImm (sImm (sInt .i64))) v_x0_Source_Actions x0.Source.Actions, .rd false (sImm (sInt .i64)) v_x0_Target_Shape_From x0.Target.Shape.From, .rd false (sImm (sInt .i64)) v_x0_Target_Shape_To x0.Target.Shape.To, .rd false (sImm (sInt .i64)) v_x0_Target_Shape_Identity x0.Target.Shape.Identity, .rd false (sImm (sImm (sInt .i64))) v_x0_Target_Shape_Composites x0.Target.Shape.Composites, .rd false (sImm (sInt .i64)) v_x0_Target_Sizes x0.Target.Sizes, .rd false (sImm (sImm (sInt .i64))) v_x0_Target_Actions x0.Target.Actions, .rd false (sImm (sImm (sInt .i64))) v_x0_Parts x0.Parts] (fun y (_ : Unit) => [.int .i64 y]) (fun y _ => []) := by
  refine ct (S := Unit) (owt fun _ _ => rfl) Tryz.func54 rfl rfl ?_
  repeat' first
    | intro _
    | exact rfl
    | (refine @id.{0} _ ?_; constructor)
    | apply c116
    | apply c31
    | exact ()
end Go.Proofs.YtcmckiiafgcmjaaGreat
