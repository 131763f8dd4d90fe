/- Walks by the calculus D. No condition beside those that each theorem names. -/
import Derived.Test.YtdlhbbhdfnnmnaaGreatDi
import Derived.Test.YtdlhbbhdfnnmnaaGreatMo
import Derived.Test.YtdlhbbhdfnnmnaaGreatDs
import Derived.Test.YtdlhbbhdfnnmnaaGreatSo
import Derived.Test.YtdlhbbhdfnnmnaaGreatWb
import Derived.Test.YtdlhbbhdfnnmnaaGreatWc
import Derived.Test.YtdlhbbhdfnnmnaaGreatWd
namespace Go.Proofs.YtdlhbbhdfnnmnaaGreat
open Go Go.Li Go.Dk
set_option linter.unusedVariables false
set_option maxHeartbeats 1000000
set_option maxRecDepth 100000
theorem c209 {x0 : (List Int)} {v_x0 : Value} {x1 : (List Int)} {p_x1 : Addr} {v_x1 : Value} : Ct Tryz.prog 209 true (impl_classifier_number_1 x0 x1) [v_x0, .pointer (some (p_x1))] [.ats p_x1 [v_x1], .rd false (sImm (sInt .i64)) v_x0 x0, .rd false (sImm (sInt .i64)) v_x1 x1] (fun y (_ : Unit) => [.bool y]) (fun y _ => []) := by
  refine ct (S := Unit) (owt fun _ _ => rfl) Tryz.func209 rfl rfl ?_
  repeat' first
    | intro _
    | exact rfl
    | (refine @id.{0} _ ?_; constructor)
    | apply c172
    | exact ()
theorem c208_k209 {x0 : (List (List Int))} {v_x0 : Value} {q_x1 : (List Int)} {q_p_x1 : Addr} {q_v_x1 : Value} : Ct Tryz.prog 208 true (slices_IndexFunc___impl_sieve_impl_sieve_ x0 (fun a0 => impl_classifier_number_1 a0 q_x1)) [v_x0, .func (.func 209) #[] #[.pointer (some (q_p_x1))]] [.rd false (sImm (sImm (sInt .i64))) v_x0 x0, .ats q_p_x1 [q_v_x1], .rd false (sImm (sInt .i64)) q_v_x1 q_x1] (fun y (_ : Unit) => [.int .i64 y]) (fun y _ => []) := by
  refine ct (S := Unit) (owt fun _ _ => rfl) Tryz.func208 rfl rfl ?_
  repeat' first
    | intro _
    | exact rfl
    | (refine @id.{0} _ ?_; constructor)
    | apply Dk.loop 0 (V := Unit) (fun (s : Int) v => []) (fun s v => [(8, .int .i64 (s))]) () [(0, _), (1, _), (7, _)]
    | apply c209
    | exact ()
theorem c60 {x0 : MCategory} {v_x0_From : Value} {v_x0_To : Value} {v_x0_Identity : Value} {v_x0_Composites : Value} {x1 : MCategory} {v_x1_From : Value} {v_x1_To : Value} {v_x1_Identity : Value} {v_x1_Composites : Value} : Ct Tryz.prog 60 true (laws_eqCategory x0 x1) [.agg #[.int .i64 (x0.Objects), v_x0_From, v_x0_To, v_x0_Identity, v_x0_Composites], .agg #[.int .i64 (x1.Objects), v_x1_From, v_x1_To, v_x1_Identity, v_x1_Composites]] [.rd false (sImm (sInt .i64)) v_x0_From x0.From, .rd false (sImm (sInt .i64)) v_x0_To x0.To, .rd false (sImm (sInt .i64)) v_x0_Identity x0.Identity, .rd false (sImm (sImm (sInt .i64))) v_x0_Composites x0.Composites, .rd false (sImm (sInt .i64)) v_x1_From x1.From, .rd false (sImm (sInt .i64)) v_x1_To x1.To, .rd false (sImm (sInt .i64)) v_x1_Identity x1.Identity, .rd false (sImm (sImm (sInt .i64))) v_x1_Composites x1.Composites] (fun y (_ : Unit) => [.bool y]) (fun y _ => []) := by
  refine ct (S := Unit) (owt fun _ _ => rfl) Tryz.func60 rfl rfl ?_
  repeat' first
    | intro _
    | exact rfl
    | (refine @id.{0} _ ?_; constructor)
    | apply c91
    | apply c20
    | exact ()
theorem c19 {x0 : MSetFunctor} {v_x0_Shape_From : Value} {v_x0_Shape_To : Value} {v_x0_Shape_Identity : Value} {v_x0_Shape_Composites : Value} {v_x0_Sizes : Value} {v_x0_Actions : Value} {x1 : MSetFunctor} {v_x1_Shape_From : Value} {v_x1_Shape_To : Value} {v_x1_Shape_Identity : Value} {v_x1_Shape_Composites : Value} {v_x1_Sizes : Value} {v_x1_Actions : Value} : Ct Tryz.prog 19 true (laws_eqSetFunctor x0 x1) [.agg #[.int .i64 (x0.Shape.Objects), v_x0_Shape_From, v_x0_Shape_To, v_x0_Shape_Identity, v_x0_Shape_Composites, v_x0_Sizes, v_x0_Actions], .agg #[.int .i64 (x1.Shape.Objects), v_x1_Shape_From, v_x1_Shape_To, v_x1_Shape_Identity, v_x1_Shape_Composites, v_x1_Sizes, v_x1_Actions]] [.rd false (sImm (sInt .i64)) v_x0_Shape_From x0.Shape.From, .rd false (sImm (sInt .i64)) v_x0_Shape_To x0.Shape.To, .rd false (sImm (sInt .i64)) v_x0_Shape_Identity x0.Shape.Identity, .rd false (sImm (sImm (sInt .i64))) v_x0_Shape_Composites x0.Shape.Composites, .rd false (sImm (sInt .i64)) v_x0_Sizes x0.Sizes, .rd false (sImm (sImm (sInt .i64))) v_x0_Actions x0.Actions, .rd false (sImm (sInt .i64)) v_x1_Shape_From x1.Shape.From, .rd false (sImm (sInt .i64)) v_x1_Shape_To x1.Shape.To, .rd false (sImm (sInt .i64)) v_x1_Shape_Identity x1.Shape.Identity, .rd false (sImm (sImm (sInt .i64))) v_x1_Shape_Composites x1.Shape.Composites, .rd false (sImm (sInt .i64)) v_x1_Sizes x1.Sizes, .rd false (sImm (sImm (sInt .i64))) v_x1_Actions x1.Actions] (fun y (_ : Unit) => [.bool y]) (fun y _ => []) := by
  refine ct (S := Unit) (owt fun _ _ => rfl) Tryz.func19 rfl rfl ?_
  repeat' first
    | intro _
    | exact rfl
    | (refine @id.{0} _ ?_; constructor)
    | apply c60
    | apply c91
    | apply c20
    | exact ()
theorem c61 {x0 : MCategory} {v_x0_From : Value} {v_x0_To : Value} {v_x0_Identity : Value} {v_x0_Composites : Value} {x1 : Int} : Ct Tryz.prog 61 true (laws_markCategory x0 x1) [.agg #[.int .i64 (x0.Objects), v_x0_From, v_x0_To, v_x0_Identity, v_x0_Composites], .int .i64 (x1)] [.own (sOwn 2 (sInt .i64)) v_x0_From x0.From, .own (sOwn 2 (sInt .i64)) v_x0_To x0.To, .own (sOwn 2 (sInt .i64)) v_x0_Identity x0.Identity, .own (sOwn 22 (sOwn 2 (sInt .i64))) v_x0_Composites x0.Composites] (fun y (_ : Unit) => [.int .i64 y.1]) (fun y _ => [.own (sOwn 2 (sInt .i64)) v_x0_From y.2.1, .own (sOwn 2 (sInt .i64)) v_x0_To y.2.2.1, .own (sOwn 2 (sInt .i64)) v_x0_Identity y.2.2.2.1, .own (sOwn 22 (sOwn 2 (sInt .i64))) v_x0_Composites y.2.2.2.2]) := by
  refine ct (S := Unit) (owt fun _ _ => rfl) Tryz.func61 rfl rfl ?_
  repeat' first
    | intro _
    | exact rfl
    | (refine @id.{0} _ ?_; constructor)
    | apply c92
    | apply c24
    | exact ()
theorem c23 {x0 : MSetFunctor} {v_x0_Shape_From : Value} {v_x0_Shape_To : Value} {v_x0_Shape_Identity : Value} {v_x0_Shape_Composites : Value} {v_x0_Sizes : Value} {v_x0_Actions : Value} {x1 : Int} : Ct Tryz.prog 23 true (laws_markSetFunctor x0 x1) [.agg #[.int .i64 (x0.Shape.Objects), v_x0_Shape_From, v_x0_Shape_To, v_x0_Shape_Identity, v_x0_Shape_Composites, v_x0_Sizes, v_x0_Actions], .int .i64 (x1)] [.own (sOwn 2 (sInt .i64)) v_x0_Shape_From x0.Shape.From, .own (sOwn 2 (sInt .i64)) v_x0_Shape_To x0.Shape.To, .own (sOwn 2 (sInt .i64)) v_x0_Shape_Identity x0.Shape.Identity, .own (sOwn 22 (sOwn 2 (sInt .i64))) v_x0_Shape_Composites x0.Shape.Composites, .own (sOwn 2 (sInt .i64)) v_x0_Sizes x0.Sizes, .own (sOwn 22 (sOwn 2 (sInt .i64))) v_x0_Actions x0.Actions] (fun y (_ : Unit) => [.int .i64 y.1]) (fun y _ => [.own (sOwn 2 (sInt .i64)) v_x0_Shape_From y.2.1, .own (sOwn 2 (sInt .i64)) v_x0_Shape_To y.2.2.1, .own (sOwn 2 (sInt .i64)) v_x0_Shape_Identity y.2.2.2.1, .own (sOwn 22 (sOwn 2 (sInt .i64))) v_x0_Shape_Composites y.2.2.2.2.1, .own (sOwn 2 (sInt .i64)) v_x0_Sizes y.2.2.2.2.2.1, .own (sOwn 22 (sOwn 2 (sInt .i64))) v_x0_Actions y.2.2.2.2.2.2]) := by
  refine ct (S := Unit) (owt fun _ _ => rfl) Tryz.func23 rfl rfl ?_
  repeat' first
    | intro _
    | exact rfl
    | (refine @id.{0} _ ?_; constructor)
    | apply c61
    | apply c92
    | apply c24
    | exact ()
theorem c40 {x0 : MPart} {v_x0_Members : Value} {x1 : Int} : Ct Tryz.prog 40 true (laws_markPart x0 x1) [.agg #[v_x0_Members], .int .i64 (x1)] [.own (sOwn 22 (sOwn 2 (sInt .i64))) v_x0_Members x0.Members] (fun y (_ : Unit) => [.int .i64 y.1]) (fun y _ => [.own (sOwn 22 (sOwn 2 (sInt .i64))) v_x0_Members y.2]) := by
  refine ct (S := Unit) (owt fun _ _ => rfl) Tryz.func40 rfl rfl ?_
  repeat' first
    | intro _
    | exact rfl
    | (refine @id.{0} _ ?_; constructor)
    | apply c24
    | exact ()
theorem c218 {x0 : MCategory} {v_x0_From : Value} {v_x0_To : Value} {v_x0_Identity : Value} {v_x0_Composites : Value} {x1 : MCategory} {v_x1_From : Value} {v_x1_To : Value} {v_x1_Identity : Value} {v_x1_Composites : Value} : Ct Tryz.prog 218 true (spec_l02Same x0 x1) [.agg #[.int .i64 (x0.Objects), v_x0_From, v_x0_To, v_x0_Identity, v_x0_Composites], .agg #[.int .i64 (x1.Objects), v_x1_From, v_x1_To, v_x1_Identity, v_x1_Composites]] [.rd false (sImm (sInt .i64)) v_x0_From x0.From, .rd false (sImm (sInt .i64)) v_x0_To x0.To, .rd false (sImm (sInt .i64)) v_x0_Identity x0.Identity, .rd false (sImm (sImm (sInt .i64))) v_x0_Composites x0.Composites, .rd false (sImm (sInt .i64)) v_x1_From x1.From, .rd false (sImm (sInt .i64)) v_x1_To x1.To, .rd false (sImm (sInt .i64)) v_x1_Identity x1.Identity, .rd false (sImm (sImm (sInt .i64))) v_x1_Composites x1.Composites] (fun y (_ : Unit) => [.bool y]) (fun y _ => []) := by
  refine ct (S := Unit) (owt fun _ _ => rfl) Tryz.func218 rfl rfl ?_
  repeat' first
    | intro _
    | exact rfl
    | (refine @id.{0} _ ?_; constructor)
    | apply c126
    | apply c219
    | exact ()
theorem c116 {x0 : MSetFunctor} {v_x0_Shape_From : Value} {v_x0_Shape_To : Value} {v_x0_Shape_Identity : Value} {v_x0_Shape_Composites : Value} {v_x0_Sizes : Value} {v_x0_Actions : Value} {x1 : MSetFunctor} {v_x1_Shape_From : Value} {v_x1_Shape_To : Value} {v_x1_Shape_Identity : Value} {v_x1_Shape_Composites : Value} {v_x1_Sizes : Value} {v_x1_Actions : Value} : Ct Tryz.prog 116 true (spec_l19Same x0 x1) [.agg #[.int .i64 (x0.Shape.Objects), v_x0_Shape_From, v_x0_Shape_To, v_x0_Shape_Identity, v_x0_Shape_Composites, v_x0_Sizes, v_x0_Actions], .agg #[.int .i64 (x1.Shape.Objects), v_x1_Shape_From, v_x1_Shape_To, v_x1_Shape_Identity, v_x1_Shape_Composites, v_x1_Sizes, v_x1_Actions]] [.rd false (sImm (sInt .i64)) v_x0_Shape_From x0.Shape.From, .rd false (sImm (sInt .i64)) v_x0_Shape_To x0.Shape.To, .rd false (sImm (sInt .i64)) v_x0_Shape_Identity x0.Shape.Identity, .rd false (sImm (sImm (sInt .i64))) v_x0_Shape_Composites x0.Shape.Composites, .rd false (sImm (sInt .i64)) v_x0_Sizes x0.Sizes, .rd false (sImm (sImm (sInt .i64))) v_x0_Actions x0.Actions, .rd false (sImm (sInt .i64)) v_x1_Shape_From x1.Shape.From, .rd false (sImm (sInt .i64)) v_x1_Shape_To x1.Shape.To, .rd false (sImm (sInt .i64)) v_x1_Shape_Identity x1.Shape.Identity, .rd false (sImm (sImm (sInt .i64))) v_x1_Shape_Composites x1.Shape.Composites, .rd false (sImm (sInt .i64)) v_x1_Sizes x1.Sizes, .rd false (sImm (sImm (sInt .i64))) v_x1_Actions x1.Actions] (fun y (_ : Unit) => [.bool y]) (fun y _ => []) := by
  refine ct (S := Unit) (owt fun _ _ => rfl) Tryz.func116 rfl rfl ?_
  repeat' first
    | intro _
    | exact rfl
    | (refine @id.{0} _ ?_; constructor)
    | apply c218
    | apply c126
    | apply c219
    | exact ()
end Go.Proofs.YtdlhbbhdfnnmnaaGreat
