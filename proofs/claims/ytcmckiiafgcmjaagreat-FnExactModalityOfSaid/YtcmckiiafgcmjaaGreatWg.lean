/- Walks by the calculus D. No condition beside those that each theorem names. -/
import Derived.Test.YtcmckiiafgcmjaaGreatDi
import Derived.Test.YtcmckiiafgcmjaaGreatMo
import Derived.Test.YtcmckiiafgcmjaaGreatSo
import Derived.Test.YtcmckiiafgcmjaaGreatWb
import Derived.Test.YtcmckiiafgcmjaaGreatWc
import Derived.Test.YtcmckiiafgcmjaaGreatWd
namespace Go.Proofs.YtcmckiiafgcmjaaGreat
open Go Go.Li Go.Dk
set_option linter.unusedVariables false
set_option maxHeartbeats 1000000
set_option maxRecDepth 100000
theorem c37 {x0 : MCategory} {v_x0_From : Value} {v_x0_To : Value} {v_x0_Identity : Value} {v_x0_Composites : Value} {x1 : Int} : Ct Tryz.prog 37 true (laws_szCategory x0 x1) [.agg #[.int .i64 (x0.Objects), v_x0_From, v_x0_To, v_x0_Identity, v_x0_Composites], .int .i64 (x1)] [.rd false (sImm (sInt .i64)) v_x0_From x0.From, .rd false (sImm (sInt .i64)) v_x0_To x0.To, .rd false (sImm (sInt .i64)) v_x0_Identity x0.Identity, .rd false (sImm (sImm (sInt .i64))) v_x0_Composites x0.Composites] (fun y (_ : Unit) => [.int .i64 y]) (fun y _ => []) := by
  refine ct (S := Unit) (owt fun _ _ => rfl) Tryz.func37 rfl rfl ?_
  repeat' first
    | intro _
    | exact rfl
    | (refine @id.{0} _ ?_; constructor)
    | apply c98
    | apply c99
    | exact ()
theorem c69 {x0 : (List (List (List Int)))} {v_x0 : Value} {x1 : Int} : Ct Tryz.prog 69 true (laws_szInt64SSS x0 x1) [v_x0, .int .i64 (x1)] [.rd false (sImm (sImm (sImm (sInt .i64)))) v_x0 x0] (fun y (_ : Unit) => [.int .i64 y]) (fun y _ => []) := by
  refine ct (S := Unit) (owt fun _ _ => rfl) Tryz.func69 rfl rfl ?_
  repeat' first
    | intro _
    | exact rfl
    | (refine @id.{0} _ ?_; constructor)
    | apply Dk.loop 0 (V := Unit) (fun (s : Int × Int) v => []) (fun s v => [(1, .int .i64 (s.1)), (5, .int .i64 (s.2))]) () [(0, _)]
    | apply c99
    | exact ()
theorem c15 {x0 : MTopology} {v_x0_Shape_From : Value} {v_x0_Shape_To : Value} {v_x0_Shape_Identity : Value} {v_x0_Shape_Composites : Value} {v_x0_Covers : Value} {x1 : Int} : Ct Tryz.prog 15 true (laws_szTopology x0 x1) [.agg #[.int .i64 (x0.Shape.Objects), v_x0_Shape_From, v_x0_Shape_To, v_x0_Shape_Identity, v_x0_Shape_Composites, v_x0_Covers], .int .i64 (x1)] [.rd false (sImm (sInt .i64)) v_x0_Shape_From x0.Shape.From, .rd false (sImm (sInt .i64)) v_x0_Shape_To x0.Shape.To, .rd false (sImm (sInt .i64)) v_x0_Shape_Identity x0.Shape.Identity, .rd false (sImm (sImm (sInt .i64))) v_x0_Shape_Composites x0.Shape.Composites, .rd false (sImm (sImm (sImm (sInt .i64)))) v_x0_Covers x0.Covers] (fun y (_ : Unit) => [.int .i64 y]) (fun y _ => []) := by
  refine ct (S := Unit) (owt fun _ _ => rfl) Tryz.func15 rfl rfl ?_
  repeat' first
    | intro _
    | exact rfl
    | (refine @id.{0} _ ?_; constructor)
    | apply c37
    | apply c69
    | exact ()
theorem c206 {x0 : MCategory} {v_x0_From : Value} {v_x0_To : Value} {v_x0_Identity : Value} {v_x0_Composites : Value} {x1 : (List (List (List Int)))} {v_x1 : Value} : Ct Tryz.prog 206 true (spec_l25Tops x0 x1) [.agg #[.int .i64 (x0.Objects), v_x0_From, v_x0_To, v_x0_Identity, v_x0_Composites], v_x1] [.rd false (sImm (sInt .i64)) v_x0_From x0.From, .rd false (sImm (sInt .i64)) v_x0_To x0.To, .rd false (sImm (sInt .i64)) v_x0_Identity x0.Identity, .rd false (sImm (sImm (sInt .i64))) v_x0_Composites x0.Composites, .rd false (sImm (sImm (sImm (sInt .i64)))) v_x1 x1] (fun y (v : Value) => [v]) (fun y v => [.own (sOwn 2 (sInt .i64)) v y]) := by
  refine ct (S := Unit) (owt fun _ _ => rfl) Tryz.func206 rfl rfl ?_
  repeat' first
    | intro _
    | exact rfl
    | (refine @id.{0} _ ?_; constructor)
    | apply Dk.loop 0 (V := Value) (fun (s : (List Int) × Int) v => [.own (sOwn 2 (sInt .i64)) v s.1]) (fun s v => [(5, v), (6, .int .i64 (s.2))]) _ [(1, _), (2, _)]
    | apply Dk.any (id := 5) 10 [] [] [[], [], [], [1, 2], [3, 1, 2], [], [], [5, 6], [4, 3, 1, 2, 7, 5, 6, 7, 5, 6], [8, 4, 3, 1, 2, 7, 5, 6, 7, 5, 6]] (by kernel_rfl)
    | apply c143
    | apply c172
    | exact ()
theorem c136 {x0 : ML27Table} {v_x0_C_From : Value} {v_x0_C_To : Value} {v_x0_C_Identity : Value} {v_x0_C_Composites : Value} {v_x0_Lists : Value} {v_x0_Pulls : Value} {v_x0_Tops : Value} {x1 : (List (List (List Int)))} {v_x1 : Value} : Ct Tryz.prog 136 true (spec_l27Marks x0 x1) [.agg #[.int .i64 (x0.C.Objects), v_x0_C_From, v_x0_C_To, v_x0_C_Identity, v_x0_C_Composites, v_x0_Lists, v_x0_Pulls, v_x0_Tops], v_x1] [.rd false (sImm (sInt .i64)) v_x0_C_From x0.C.From, .rd false (sImm (sInt .i64)) v_x0_C_To x0.C.To, .rd false (sImm (sInt .i64)) v_x0_C_Identity x0.C.Identity, .rd false (sImm (sImm (sInt .i64))) v_x0_C_Composites x0.C.Composites, .rd false (sImm (sImm (sImm (sInt .i64)))) v_x0_Lists x0.Lists, .rd false (sImm (sImm (sInt .i64))) v_x0_Pulls x0.Pulls, .rd false (sImm (sInt .i64)) v_x0_Tops x0.Tops, .rd false (sImm (sImm (sImm (sInt .i64)))) v_x1 x1] (fun y (v : Value) => [v]) (fun y v => [.own (sOwn 138 (sOwn 4 sBool)) v y]) := by
  refine ct (S := Unit) (owt fun _ _ => rfl) Tryz.func136 rfl rfl ?_
  repeat' first
    | intro _
    | exact rfl
    | (refine @id.{0} _ ?_; constructor)
    | apply Dk.loop 0 (V := Value) (fun (s : (List (List Bool)) × Int) v => [.own (sOwn 138 (sOwn 4 sBool)) v s.1]) (fun s v => [(5, v), (6, .int .i64 (s.2))]) _ [(1, _), (2, _)]
    | apply Dk.loopA 2 (V := Unit) (A := Value) _ (fun a (s : Int × (List Bool)) v => [.own (sOwn 4 sBool) a s.2]) (fun a s v => [(7, a), (8, .int .i64 (s.1))]) () [(1, _), (2, _), (5, _), (6, _)]
    | apply Dk.any (id := 9) 13 [0] [] [[], [], [1], [], [2, 1, 3], [4, 2, 1, 3], [], [], [6, 7], [8, 6, 7], [], [9, 8, 6, 7, 10], [11, 9, 8, 6, 7, 10]] (by kernel_rfl)
    | apply c111
    | exact ()
theorem c176 {x0 : (List Int)} {v_x0 : Value} {x1 : (List Int)} {p_x1 : Addr} {v_x1 : Value} : Ct Tryz.prog 176 true (impl_classifier_number_1 x0 x1) [v_x0, .pointer (some (p_x1))] [.ats p_x1 [v_x1], .rd false (sImm (sInt .i64)) v_x0 x0, .rd false (sImm (sInt .i64)) v_x1 x1] (fun y (_ : Unit) => [.bool y]) (fun y _ => []) := by
  refine ct (S := Unit) (owt fun _ _ => rfl) Tryz.func176 rfl rfl ?_
  repeat' first
    | intro _
    | exact rfl
    | (refine @id.{0} _ ?_; constructor)
    | apply c154
    | exact ()
theorem c175_k176 {x0 : (List (List Int))} {v_x0 : Value} {q_x1 : (List Int)} {q_p_x1 : Addr} {q_v_x1 : Value} : Ct Tryz.prog 175 true (slices_IndexFunc___impl_sieve_impl_sieve_ x0 (fun a0 => impl_classifier_number_1 a0 q_x1)) [v_x0, .func (.func 176) #[] #[.pointer (some (q_p_x1))]] [.rd false (sImm (sImm (sInt .i64))) v_x0 x0, .ats q_p_x1 [q_v_x1], .rd false (sImm (sInt .i64)) q_v_x1 q_x1] (fun y (_ : Unit) => [.int .i64 y]) (fun y _ => []) := by
  refine ct (S := Unit) (owt fun _ _ => rfl) Tryz.func175 rfl rfl ?_
  repeat' first
    | intro _
    | exact rfl
    | (refine @id.{0} _ ?_; constructor)
    | apply Dk.loop 0 (V := Unit) (fun (s : Int) v => []) (fun s v => [(8, .int .i64 (s))]) () [(0, _), (1, _), (7, _)]
    | apply c176
    | exact ()
theorem c43 {x0 : MCategory} {v_x0_From : Value} {v_x0_To : Value} {v_x0_Identity : Value} {v_x0_Composites : Value} {x1 : Int} : Ct Tryz.prog 43 true (laws_markCategory x0 x1) [.agg #[.int .i64 (x0.Objects), v_x0_From, v_x0_To, v_x0_Identity, v_x0_Composites], .int .i64 (x1)] [.own (sOwn 2 (sInt .i64)) v_x0_From x0.From, .own (sOwn 2 (sInt .i64)) v_x0_To x0.To, .own (sOwn 2 (sInt .i64)) v_x0_Identity x0.Identity, .own (sOwn 22 (sOwn 2 (sInt .i64))) v_x0_Composites x0.Composites] (fun y (_ : Unit) => [.int .i64 y.1]) (fun y _ => [.own (sOwn 2 (sInt .i64)) v_x0_From y.2.1, .own (sOwn 2 (sInt .i64)) v_x0_To y.2.2.1, .own (sOwn 2 (sInt .i64)) v_x0_Identity y.2.2.2.1, .own (sOwn 22 (sOwn 2 (sInt .i64))) v_x0_Composites y.2.2.2.2]) := by
  refine ct (S := Unit) (owt fun _ _ => rfl) Tryz.func43 rfl rfl ?_
  repeat' first
    | intro _
    | exact rfl
    | (refine @id.{0} _ ?_; constructor)
    | apply c25
    | apply c30
    | exact ()
theorem c85 {x0 : (List (List (List Int)))} {v_x0 : Value} {x1 : Int} : Ct Tryz.prog 85 true (laws_markInt64SSS x0 x1) [v_x0, .int .i64 (x1)] [.own (sOwn 23 (sOwn 22 (sOwn 2 (sInt .i64)))) v_x0 x0] (fun y (_ : Unit) => [.int .i64 y.1]) (fun y _ => [.own (sOwn 23 (sOwn 22 (sOwn 2 (sInt .i64)))) v_x0 y.2]) := by
  refine ct (S := Unit) (owt fun _ _ => rfl) Tryz.func85 rfl rfl ?_
  repeat' first
    | intro _
    | exact rfl
    | (refine @id.{0} _ ?_; constructor)
    | apply Dk.loop 0 (V := Unit) (fun (s : Int × Int × (List (List (List Int)))) v => [.own (sOwn 23 (sOwn 22 (sOwn 2 (sInt .i64)))) v_x0 s.2.2]) (fun s v => [(1, .int .i64 (s.1)), (5, .int .i64 (s.2.1))]) () [(0, _)]
    | apply c30
    | exact ()
theorem c24 {x0 : MTopology} {v_x0_Shape_From : Value} {v_x0_Shape_To : Value} {v_x0_Shape_Identity : Value} {v_x0_Shape_Composites : Value} {v_x0_Covers : Value} {x1 : Int} : Ct Tryz.prog 24 true (laws_markTopology x0 x1) [.agg #[.int .i64 (x0.Shape.Objects), v_x0_Shape_From, v_x0_Shape_To, v_x0_Shape_Identity, v_x0_Shape_Composites, v_x0_Covers], .int .i64 (x1)] [.own (sOwn 2 (sInt .i64)) v_x0_Shape_From x0.Shape.From, .own (sOwn 2 (sInt .i64)) v_x0_Shape_To x0.Shape.To, .own (sOwn 2 (sInt .i64)) v_x0_Shape_Identity x0.Shape.Identity, .own (sOwn 22 (sOwn 2 (sInt .i64))) v_x0_Shape_Composites x0.Shape.Composites, .own (sOwn 23 (sOwn 22 (sOwn 2 (sInt .i64)))) v_x0_Covers x0.Covers] (fun y (_ : Unit) => [.int .i64 y.1]) (fun y _ => [.own (sOwn 2 (sInt .i64)) v_x0_Shape_From y.2.1, .own (sOwn 2 (sInt .i64)) v_x0_Shape_To y.2.2.1, .own (sOwn 2 (sInt .i64)) v_x0_Shape_Identity y.2.2.2.1, .own (sOwn 22 (sOwn 2 (sInt .i64))) v_x0_Shape_Composites y.2.2.2.2.1, .own (sOwn 23 (sOwn 22 (sOwn 2 (sInt .i64)))) v_x0_Covers y.2.2.2.2.2]) := by
  refine ct (S := Unit) (owt fun _ _ => rfl) Tryz.func24 rfl rfl ?_
  repeat' first
    | intro _
    | exact rfl
    | (refine @id.{0} _ ?_; constructor)
    | apply c43
    | apply c85
    | exact ()
theorem c115 {x0 : MSetFunctor} {v_x0_Shape_From : Value} {v_x0_Shape_To : Value} {v_x0_Shape_Identity : Value} {v_x0_Shape_Composites : Value} {v_x0_Sizes : Value} {v_x0_Actions : Value} {x1 : Int} : Ct Tryz.prog 115 true (laws_markSetFunctor x0 x1) [.agg #[.int .i64 (x0.Shape.Objects), v_x0_Shape_From, v_x0_Shape_To, v_x0_Shape_Identity, v_x0_Shape_Composites, v_x0_Sizes, v_x0_Actions], .int .i64 (x1)] [.own (sOwn 2 (sInt .i64)) v_x0_Shape_From x0.Shape.From, .own (sOwn 2 (sInt .i64)) v_x0_Shape_To x0.Shape.To, .own (sOwn 2 (sInt .i64)) v_x0_Shape_Identity x0.Shape.Identity, .own (sOwn 22 (sOwn 2 (sInt .i64))) v_x0_Shape_Composites x0.Shape.Composites, .own (sOwn 2 (sInt .i64)) v_x0_Sizes x0.Sizes, .own (sOwn 22 (sOwn 2 (sInt .i64))) v_x0_Actions x0.Actions] (fun y (_ : Unit) => [.int .i64 y.1]) (fun y _ => [.own (sOwn 2 (sInt .i64)) v_x0_Shape_From y.2.1, .own (sOwn 2 (sInt .i64)) v_x0_Shape_To y.2.2.1, .own (sOwn 2 (sInt .i64)) v_x0_Shape_Identity y.2.2.2.1, .own (sOwn 22 (sOwn 2 (sInt .i64))) v_x0_Shape_Composites y.2.2.2.2.1, .own (sOwn 2 (sInt .i64)) v_x0_Sizes y.2.2.2.2.2.1, .own (sOwn 22 (sOwn 2 (sInt .i64))) v_x0_Actions y.2.2.2.2.2.2]) := by
  refine ct (S := Unit) (owt fun _ _ => rfl) Tryz.func115 rfl rfl ?_
  repeat' first
    | intro _
    | exact rfl
    | (refine @id.{0} _ ?_; constructor)
    | apply c43
    | apply c25
    | apply c30
    | exact ()
end Go.Proofs.YtcmckiiafgcmjaaGreat
