/- Walks by the calculus D. No condition beside those that each theorem names. -/
import Derived.Test.YtdlhbbhdfnnmnaaGreatDi
import Derived.Test.YtdlhbbhdfnnmnaaGreatMo
import Derived.Test.YtdlhbbhdfnnmnaaGreatDs
import Derived.Test.YtdlhbbhdfnnmnaaGreatSo
import Derived.Test.YtdlhbbhdfnnmnaaGreatWa
import Derived.Test.YtdlhbbhdfnnmnaaGreatWb
import Derived.Test.YtdlhbbhdfnnmnaaGreatWc
import Derived.Test.YtdlhbbhdfnnmnaaGreatWd
namespace Go.Proofs.YtdlhbbhdfnnmnaaGreat
open Go Go.Li Go.Dk
set_option linter.unusedVariables false
set_option maxHeartbeats 1000000
set_option maxRecDepth 100000
theorem c242 {x0 : MCategory} {p_x0 : Addr} {v_x0_From : Value} {v_x0_To : Value} {v_x0_Identity : Value} {v_x0_Composites : Value} : Ct Tryz.prog 242 true (impl_Category_isShape x0) [.pointer (some (p_x0))] [.ats p_x0 [.int .i64 (x0.Objects), v_x0_From, v_x0_To, v_x0_Identity, v_x0_Composites], .rd false (sImm (sInt .i64)) v_x0_From x0.From, .rd false (sImm (sInt .i64)) v_x0_To x0.To, .rd false (sImm (sInt .i64)) v_x0_Identity x0.Identity, .rd false (sImm (sImm (sInt .i64))) v_x0_Composites x0.Composites] (fun y (_ : Unit) => [.bool y]) (fun y _ => []) := by
  refine ct (S := Unit) (owt fun _ _ => rfl) Tryz.func242 rfl rfl ?_
  repeat' first
    | intro _
    | exact rfl
    | (refine @id.{0} _ ?_; constructor)
    | apply Dk.loop 0 (V := Unit) (fun (s : Int) v => []) (fun s v => [(88, .int .i64 (s))]) () [(0, _), (3, _), (86, _), (87, _)]
    | apply Dk.loop 2 (V := Unit) (fun (s : Int) v => []) (fun s v => [(106, .int .i64 (s))]) () [(0, _), (3, _), (104, _), (105, _)]
    | apply Dk.loop 4 (V := Unit) (fun (s : Int) v => []) (fun s v => [(117, .int .i64 (s))]) () [(0, _), (3, _), (6, _), (104, _), (105, _), (106, _), (115, _), (116, _)]
    | apply Dk.quiet (id := 2) (by kernel_rfl)
    | apply Dk.quiet (id := 4) (by kernel_rfl)
    | apply Dk.quiet (id := 20) (by kernel_rfl)
    | apply Dk.quiet (id := 23) (by kernel_rfl)
    | apply c147
    | apply c131
    | apply c187
    | apply c311
    | exact ()
theorem c145 {x0 : MCategory} {p_x0 : Addr} {v_x0_From : Value} {v_x0_To : Value} {v_x0_Identity : Value} {v_x0_Composites : Value} : Ct Tryz.prog 145 true (impl_Category_isCategory x0) [.pointer (some (p_x0))] [.ats p_x0 [.int .i64 (x0.Objects), v_x0_From, v_x0_To, v_x0_Identity, v_x0_Composites], .rd false (sImm (sInt .i64)) v_x0_From x0.From, .rd false (sImm (sInt .i64)) v_x0_To x0.To, .rd false (sImm (sInt .i64)) v_x0_Identity x0.Identity, .rd false (sImm (sImm (sInt .i64))) v_x0_Composites x0.Composites] (fun y (_ : Unit) => [.bool y]) (fun y _ => []) := by
  refine ct (S := Unit) (owt fun _ _ => rfl) Tryz.func145 rfl rfl ?_
  repeat' first
    | intro _
    | exact rfl
    | (refine @id.{0} _ ?_; constructor)
    | apply c242
    | apply c243
    | exact ()
theorem c325 {x0 : (List Int)} {v_x0 : Value} {x1 : Int} {x2 : Int} : Ct Tryz.prog 325 true (impl_isMapOf x0 x1 x2) [v_x0, .int .i64 (x1), .int .i64 (x2)] [.rd false (sImm (sInt .i64)) v_x0 x0] (fun y (_ : Unit) => [.bool y]) (fun y _ => []) := by
  refine ct (S := Unit) (owt fun _ _ => rfl) Tryz.func325 rfl rfl ?_
  repeat' first
    | intro _
    | exact rfl
    | (refine @id.{0} _ ?_; constructor)
    | apply c187
    | exact ()
theorem c302 {x0 : (List Int)} {v_x0 : Value} {x1 : (List Int)} {p_x1 : Addr} {v_x1 : Value} : Ct Tryz.prog 302 true (impl_Category_sieves_1 x0 x1) [v_x0, .pointer (some (p_x1))] [.ats p_x1 [v_x1], .rd false (sImm (sInt .i64)) v_x0 x0, .rd false (sImm (sInt .i64)) v_x1 x1] (fun y (_ : Unit) => [.bool y]) (fun y _ => []) := by
  refine ct (S := Unit) (owt fun _ _ => rfl) Tryz.func302 rfl rfl ?_
  repeat' first
    | intro _
    | exact rfl
    | (refine @id.{0} _ ?_; constructor)
    | apply c172
    | exact ()
theorem c208_k302 {x0 : (List (List Int))} {v_x0 : Value} {q_x1 : (List Int)} {q_p_x1 : Addr} {q_v_x1 : Value} : Ct Tryz.prog 208 true (slices_IndexFunc___impl_sieve_impl_sieve_ x0 (fun a0 => impl_Category_sieves_1 a0 q_x1)) [v_x0, .func (.func 302) #[] #[.pointer (some (q_p_x1))]] [.rd false (sImm (sImm (sInt .i64))) v_x0 x0, .ats q_p_x1 [q_v_x1], .rd false (sImm (sInt .i64)) q_v_x1 q_x1] (fun y (_ : Unit) => [.int .i64 y]) (fun y _ => []) := by
  refine ct (S := Unit) (owt fun _ _ => rfl) Tryz.func208 rfl rfl ?_
  repeat' first
    | intro _
    | exact rfl
    | (refine @id.{0} _ ?_; constructor)
    | apply Dk.loop 0 (V := Unit) (fun (s : Int) v => []) (fun s v => [(8, .int .i64 (s))]) () [(0, _), (1, _), (7, _)]
    | apply c302
    | exact ()
theorem c171 {x0 : MCategory} {p_x0 : Addr} {v_x0_From : Value} {v_x0_To : Value} {v_x0_Identity : Value} {v_x0_Composites : Value} {x1 : MCategory} {p_x1 : Addr} {v_x1_From : Value} {v_x1_To : Value} {v_x1_Identity : Value} {v_x1_Composites : Value} : Ct Tryz.prog 171 true (impl_sameCategory x0 x1) [.pointer (some (p_x0)), .pointer (some (p_x1))] [.ats p_x1 [.int .i64 (x1.Objects), v_x1_From, v_x1_To, v_x1_Identity, v_x1_Composites], .ats p_x0 [.int .i64 (x0.Objects), v_x0_From, v_x0_To, v_x0_Identity, v_x0_Composites], .rd false (sImm (sInt .i64)) v_x0_From x0.From, .rd false (sImm (sInt .i64)) v_x0_To x0.To, .rd false (sImm (sInt .i64)) v_x0_Identity x0.Identity, .rd false (sImm (sImm (sInt .i64))) v_x0_Composites x0.Composites, .rd false (sImm (sInt .i64)) v_x1_From x1.From, .rd false (sImm (sInt .i64)) v_x1_To x1.To, .rd false (sImm (sInt .i64)) v_x1_Identity x1.Identity, .rd false (sImm (sImm (sInt .i64))) v_x1_Composites x1.Composites] (fun y (_ : Unit) => [.bool y]) (fun y _ => []) := by
  refine ct (S := Unit) (owt fun _ _ => rfl) Tryz.func171 rfl rfl ?_
  repeat' first
    | intro _
    | exact rfl
    | (refine @id.{0} _ ?_; constructor)
    | apply Dk.loop 0 (V := Unit) (fun (s : Int) v => []) (fun s v => [(69, .int .i64 (s))]) () [(0, _), (1, _), (68, _)]
    | apply Dk.quiet (id := 1) (by kernel_rfl)
    | apply Dk.quiet (id := 6) (by kernel_rfl)
    | apply c172
    | exact ()
theorem c305 {x0 : MSetMap} {p_x0 : Addr} {v_x0_Source_Shape_From : Value} {v_x0_Source_Shape_To : Value} {v_x0_Source_Shape_Identity : Value} {v_x0_Source_Shape_Composites : Value} {v_x0_Source_Sizes : Value} {v_x0_Source_Actions : Value} {v_x0_Target_Shape_From : Value} {v_x0_Target_Shape_To : Value} {v_x0_Target_Shape_Identity : Value} {v_x0_Target_Shape_Composites : Value} {v_x0_Target_Sizes : Value} {v_x0_Target_Actions : Value} {v_x0_Parts : Value} : Ct Tryz.prog 305 true (impl_SetMap_fits x0) [.pointer (some (p_x0))] [.ats p_x0 [.int .i64 (x0.Source.Shape.Objects), v_x0_Source_Shape_From, v_x0_Source_Shape_To, v_x0_Source_Shape_Identity, v_x0_Source_Shape_Composites, v_x0_Source_Sizes, v_x0_Source_Actions, .int .i64 (x0.Target.Shape.Objects), v_x0_Target_Shape_From, v_x0_Target_Shape_To, v_x0_Target_Shape_Identity, v_x0_Target_Shape_Composites, v_x0_Target_Sizes, v_x0_Target_Actions, v_x0_Parts], .rd false (sImm (sInt .i64)) v_x0_Source_Shape_From x0.Source.Shape.From, .rd false (sImm (sInt .i64)) v_x0_Source_Shape_To x0.Source.Shape.To, .rd false (sImm (sInt .i64)) v_x0_Source_Shape_Identity x0.Source.Shape.Identity, .rd false (sImm (sImm (sInt .i64))) v_x0_Source_Shape_Composites x0.Source.Shape.Composites, .rd false (sImm (sInt .i64)) v_x0_Source_Sizes x0.Source.Sizes, .rd false (sImm (sImm (sInt .i64))) v_x0_Source_Actions x0.Source.Actions, .rd false (sImm (sInt .i64)) v_x0_Target_Shape_From x0.Target.Shape.From, .rd false (sImm (sInt .i64)) v_x0_Target_Shape_To x0.Target.Shape.To, .rd false (sImm (sInt .i64)) v_x0_Target_Shape_Identity x0.Target.Shape.Identity, .rd false (sImm (sImm (sInt .i64))) v_x0_Target_Shape_Composites x0.Target.Shape.Composites, .rd false (sImm (sInt .i64)) v_x0_Target_Sizes x0.Target.Sizes, .rd false (sImm (sImm (sInt .i64))) v_x0_Target_Actions x0.Target.Actions, .rd false (sImm (sImm (sInt .i64))) v_x0_Parts x0.Parts] (fun y (_ : Unit) => [.bool y]) (fun y _ => []) := by
  refine ct (S := Unit) (owt fun _ _ => rfl) Tryz.func305 rfl rfl ?_
  repeat' first
    | intro _
    | exact rfl
    | (refine @id.{0} _ ?_; constructor)
    | apply Dk.loop 0 (V := Unit) (fun (s : Int) v => []) (fun s v => [(22, .int .i64 (s))]) () [(0, _), (20, _), (21, _)]
    | apply Dk.quiet (id := 1) (by kernel_rfl)
    | apply Dk.quiet (id := 6) (by kernel_rfl)
    | apply c325
    | exact ()
theorem c82 {x0 : MSetFunctor} {p_x0 : Addr} {v_x0_Shape_From : Value} {v_x0_Shape_To : Value} {v_x0_Shape_Identity : Value} {v_x0_Shape_Composites : Value} {v_x0_Sizes : Value} {v_x0_Actions : Value} {x1 : MSetFunctor} {p_x1 : Addr} {v_x1_Shape_From : Value} {v_x1_Shape_To : Value} {v_x1_Shape_Identity : Value} {v_x1_Shape_Composites : Value} {v_x1_Sizes : Value} {v_x1_Actions : Value} : Ct Tryz.prog 82 true (impl_sameSets x0 x1) [.pointer (some (p_x0)), .pointer (some (p_x1))] [.ats p_x1 [.int .i64 (x1.Shape.Objects), v_x1_Shape_From, v_x1_Shape_To, v_x1_Shape_Identity, v_x1_Shape_Composites, v_x1_Sizes, v_x1_Actions], .ats p_x0 [.int .i64 (x0.Shape.Objects), v_x0_Shape_From, v_x0_Shape_To, v_x0_Shape_Identity, v_x0_Shape_Composites, v_x0_Sizes, v_x0_Actions], .rd false (sImm (sInt .i64)) v_x0_Shape_From x0.Shape.From, .rd false (sImm (sInt .i64)) v_x0_Shape_To x0.Shape.To, .rd false (sImm (sInt .i64)) v_x0_Shape_Identity x0.Shape.Identity, .rd false (sImm (sImm (sInt .i64))) v_x0_Shape_Composites x0.Shape.Composites, .rd false (sImm (sInt .i64)) v_x0_Sizes x0.Sizes, .rd false (sImm (sImm (sInt .i64))) v_x0_Actions x0.Actions, .rd false (sImm (sInt .i64)) v_x1_Shape_From x1.Shape.From, .rd false (sImm (sInt .i64)) v_x1_Shape_To x1.Shape.To, .rd false (sImm (sInt .i64)) v_x1_Shape_Identity x1.Shape.Identity, .rd false (sImm (sImm (sInt .i64))) v_x1_Shape_Composites x1.Shape.Composites, .rd false (sImm (sInt .i64)) v_x1_Sizes x1.Sizes, .rd false (sImm (sImm (sInt .i64))) v_x1_Actions x1.Actions] (fun y (_ : Unit) => [.bool y]) (fun y _ => []) := by
  refine ct (S := Unit) (owt fun _ _ => rfl) Tryz.func82 rfl rfl ?_
  repeat' first
    | intro _
    | exact rfl
    | (refine @id.{0} _ ?_; constructor)
    | apply Dk.loop 0 (V := Unit) (fun (s : Int) v => []) (fun s v => [(44, .int .i64 (s))]) () [(0, _), (1, _), (43, _)]
    | apply Dk.quiet (id := 1) (by kernel_rfl)
    | apply Dk.quiet (id := 6) (by kernel_rfl)
    | apply c171
    | apply c172
    | exact ()
theorem c46 {x0 : MPart} {v_x0_Members : Value} {x1 : Int} : Ct Tryz.prog 46 true (laws_heldPart x0 x1) [.agg #[v_x0_Members], .int .i64 (x1)] [.rd false (sImm (sImm (sInt .i64))) v_x0_Members x0.Members] (fun y (_ : Unit) => [.int .i64 y]) (fun y _ => []) := by
  refine ct (S := Unit) (owt fun _ _ => rfl) Tryz.func46 rfl rfl ?_
  repeat' first
    | intro _
    | exact rfl
    | (refine @id.{0} _ ?_; constructor)
    | apply c26
    | exact ()
end Go.Proofs.YtdlhbbhdfnnmnaaGreat
