/- Walks by the calculus D. No condition beside those that each theorem names. -/
import Derived.Test.YtcmckiiafgcmjaaGreatDi
import Derived.Test.YtcmckiiafgcmjaaGreatMo
import Derived.Test.YtcmckiiafgcmjaaGreatSo
import Derived.Test.YtcmckiiafgcmjaaGreatWa
import Derived.Test.YtcmckiiafgcmjaaGreatWb
import Derived.Test.YtcmckiiafgcmjaaGreatWc
import Derived.Test.YtcmckiiafgcmjaaGreatWd
namespace Go.Proofs.YtcmckiiafgcmjaaGreat
open Go Go.Li Go.Dk
set_option linter.unusedVariables false
set_option maxHeartbeats 1000000
set_option maxRecDepth 100000
theorem c179 {x0 : MCategory} {v_x0_From : Value} {v_x0_To : Value} {v_x0_Identity : Value} {v_x0_Composites : Value} : Ct Tryz.prog 179 true (spec_IsShape x0) [.agg #[.int .i64 (x0.Objects), v_x0_From, v_x0_To, v_x0_Identity, v_x0_Composites]] [.rd false (sImm (sInt .i64)) v_x0_From x0.From, .rd false (sImm (sInt .i64)) v_x0_To x0.To, .rd false (sImm (sInt .i64)) v_x0_Identity x0.Identity, .rd false (sImm (sImm (sInt .i64))) v_x0_Composites x0.Composites] (fun y (_ : Unit) => [.bool y]) (fun y _ => []) := by
  refine ct (S := Unit) (owt fun _ _ => rfl) Tryz.func179 rfl rfl ?_
  repeat' first
    | intro _
    | exact rfl
    | (refine @id.{0} _ ?_; constructor)
    | apply Dk.loop 0 (V := Unit) (fun (s : Int) v => []) (fun s v => [(4, .int .i64 (s))]) () [(1, _), (3, _)]
    | apply Dk.loop 2 (V := Unit) (fun (s : Int) v => []) (fun s v => [(5, .int .i64 (s))]) () [(1, _), (3, _)]
    | apply Dk.loop 4 (V := Unit) (fun (s : Int) v => []) (fun s v => [(6, .int .i64 (s))]) () [(1, _), (3, _), (5, _)]
    | apply Dk.quiet (id := 9) (by kernel_rfl)
    | apply Dk.quiet (id := 20) (by kernel_rfl)
    | apply Dk.quiet (id := 23) (by kernel_rfl)
    | apply c217
    | apply c218
    | apply c140
    | exact ()
theorem c117 {x0 : MCategory} {v_x0_From : Value} {v_x0_To : Value} {v_x0_Identity : Value} {v_x0_Composites : Value} : Ct Tryz.prog 117 true (spec_l02Is x0) [.agg #[.int .i64 (x0.Objects), v_x0_From, v_x0_To, v_x0_Identity, v_x0_Composites]] [.rd false (sImm (sInt .i64)) v_x0_From x0.From, .rd false (sImm (sInt .i64)) v_x0_To x0.To, .rd false (sImm (sInt .i64)) v_x0_Identity x0.Identity, .rd false (sImm (sImm (sInt .i64))) v_x0_Composites x0.Composites] (fun y (_ : Unit) => [.bool y]) (fun y _ => []) := by
  refine ct (S := Unit) (owt fun _ _ => rfl) Tryz.func117 rfl rfl ?_
  repeat' first
    | intro _
    | exact rfl
    | (refine @id.{0} _ ?_; constructor)
    | apply c179
    | apply c180
    | exact ()
theorem c71 {x0 : ML27Table} {v_x0_C_From : Value} {v_x0_C_To : Value} {v_x0_C_Identity : Value} {v_x0_C_Composites : Value} {v_x0_Lists : Value} {v_x0_Pulls : Value} {v_x0_Tops : Value} {x1 : (List (List Bool))} {v_x1 : Value} : Ct Tryz.prog 71 true (spec_l27Is x0 x1) [.agg #[.int .i64 (x0.C.Objects), v_x0_C_From, v_x0_C_To, v_x0_C_Identity, v_x0_C_Composites, v_x0_Lists, v_x0_Pulls, v_x0_Tops], v_x1] [.rd false (sImm (sInt .i64)) v_x0_C_From x0.C.From, .rd false (sImm (sInt .i64)) v_x0_C_To x0.C.To, .rd false (sImm (sInt .i64)) v_x0_C_Identity x0.C.Identity, .rd false (sImm (sImm (sInt .i64))) v_x0_C_Composites x0.C.Composites, .rd false (sImm (sImm (sImm (sInt .i64)))) v_x0_Lists x0.Lists, .rd false (sImm (sImm (sInt .i64))) v_x0_Pulls x0.Pulls, .rd false (sImm (sInt .i64)) v_x0_Tops x0.Tops, .rd false (sImm (sImm sBool)) v_x1 x1] (fun y (_ : Unit) => [.bool y]) (fun y _ => []) := by
  refine ct (S := Unit) (owt fun _ _ => rfl) Tryz.func71 rfl rfl ?_
  repeat' first
    | intro _
    | exact rfl
    | (refine @id.{0} _ ?_; constructor)
    | apply Dk.loop 0 (V := Value) (fun (s : (List (List Bool)) × Int) v => [.own (sOwn 138 (sOwn 4 sBool)) v s.1]) (fun s v => [(5, v), (6, .int .i64 (s.2))]) _ [(1, _), (2, _)]
    | apply c137
    | exact ()
theorem c82 {x0 : MCategory} {p_x0 : Addr} {v_x0_From : Value} {v_x0_To : Value} {v_x0_Identity : Value} {v_x0_Composites : Value} {x1 : Int} {x2 : (List Int)} {v_x2 : Value} : Ct Tryz.prog 82 true (impl_Category_isSieve x0 x1 x2) [.pointer (some (p_x0)), .int .i64 (x1), v_x2] [.ats p_x0 [.int .i64 (x0.Objects), v_x0_From, v_x0_To, v_x0_Identity, v_x0_Composites], .rd false (sImm (sInt .i64)) v_x0_From x0.From, .rd false (sImm (sInt .i64)) v_x0_To x0.To, .rd false (sImm (sInt .i64)) v_x0_Identity x0.Identity, .rd false (sImm (sImm (sInt .i64))) v_x0_Composites x0.Composites, .rd false (sImm (sInt .i64)) v_x2 x2] (fun y (_ : Unit) => [.bool y]) (fun y _ => []) := by
  refine ct (S := Unit) (owt fun _ _ => rfl) Tryz.func82 rfl rfl ?_
  repeat' first
    | intro _
    | exact rfl
    | (refine @id.{0} _ ?_; constructor)
    | apply Dk.loop 0 (V := Unit) (fun (s : Int) v => []) (fun s v => [(23, .int .i64 (s))]) () [(0, _), (1, _), (2, _), (21, _), (22, _)]
    | apply Dk.loop 2 (V := Unit) (fun (s : Int) v => []) (fun s v => [(46, .int .i64 (s))]) () [(0, _), (1, _), (2, _), (8, _), (21, _), (22, _), (23, _), (44, _), (45, _)]
    | apply c146
    | apply c105
    | apply c147
    | apply c148
    | apply c150
    | apply c149
    | exact ()
theorem c191 {x0 : MCategory} {p_x0 : Addr} {v_x0_From : Value} {v_x0_To : Value} {v_x0_Identity : Value} {v_x0_Composites : Value} {x1 : Int} {x2 : (List Int)} {v_x2 : Value} : Ct Tryz.prog 191 true (impl_all x0 x1 x2) [.pointer (some (p_x0)), .int .i64 (x1), .iface 114 (v_x2)] [.ats p_x0 [.int .i64 (x0.Objects), v_x0_From, v_x0_To, v_x0_Identity, v_x0_Composites], .rd false (sImm (sInt .i64)) v_x0_From x0.From, .rd false (sImm (sInt .i64)) v_x0_To x0.To, .rd false (sImm (sInt .i64)) v_x0_Identity x0.Identity, .rd false (sImm (sImm (sInt .i64))) v_x0_Composites x0.Composites, .rd false (sImm (sInt .i64)) v_x2 x2] (fun y (_ : Unit) => [.bool y]) (fun y _ => []) := by
  refine ct (S := Unit) (owt fun _ _ => rfl) Tryz.func191 rfl rfl ?_
  repeat' first
    | intro _
    | exact rfl
    | (refine @id.{0} _ ?_; constructor)
    | apply c285
    | exact Dk.bxi (by kernel_rfl)
    | exact ()
theorem c123 {x0 : MClassifier} {p_x0 : Addr} {v_x0_Sets_Shape_From : Value} {v_x0_Sets_Shape_To : Value} {v_x0_Sets_Shape_Identity : Value} {v_x0_Sets_Shape_Composites : Value} {v_x0_Sets_Sizes : Value} {v_x0_Sets_Actions : Value} {v_x0_Sieves : Value} : Ct Tryz.prog 123 true (impl_classifier_tops x0) [.pointer (some (p_x0))] [.ats p_x0 [.int .i64 (x0.Sets.Shape.Objects), v_x0_Sets_Shape_From, v_x0_Sets_Shape_To, v_x0_Sets_Shape_Identity, v_x0_Sets_Shape_Composites, v_x0_Sets_Sizes, v_x0_Sets_Actions, v_x0_Sieves], .rd false (sImm (sInt .i64)) v_x0_Sets_Shape_From x0.Sets.Shape.From, .rd false (sImm (sInt .i64)) v_x0_Sets_Shape_To x0.Sets.Shape.To, .rd false (sImm (sInt .i64)) v_x0_Sets_Shape_Identity x0.Sets.Shape.Identity, .rd false (sImm (sImm (sInt .i64))) v_x0_Sets_Shape_Composites x0.Sets.Shape.Composites, .rd false (sImm (sInt .i64)) v_x0_Sets_Sizes x0.Sets.Sizes, .rd false (sImm (sImm (sInt .i64))) v_x0_Sets_Actions x0.Sets.Actions, .rd false (sImm (sImm (sImm (sInt .i64)))) v_x0_Sieves x0.Sieves] (fun y (v : Value) => [v]) (fun y v => [.own (sOwn 2 (sInt .i64)) v y]) := by
  refine ct (S := Unit) (owt fun _ _ => rfl) Tryz.func123 rfl rfl ?_
  repeat' first
    | intro _
    | exact rfl
    | (refine @id.{0} _ ?_; constructor)
    | apply Dk.loop 0 (V := Value) (fun (s : (List Int) × Int) v => [.own (sOwn 2 (sInt .i64)) v s.1]) (fun s v => [(3, v), (14, .int .i64 (s.2))]) _ [(0, _), (12, _), (13, _)]
    | apply Dk.loop 2 (V := Value) (fun (s : (List Int) × Int) v => [.own (sOwn 2 (sInt .i64)) v s.1]) (fun s v => [(3, v), (21, .int .i64 (s.2))]) _ [(0, _), (4, _), (12, _), (13, _), (14, _), (19, _), (20, _)]
    | apply c191
    | exact ()
theorem c42 {x0 : MCategory} {v_x0_From : Value} {v_x0_To : Value} {v_x0_Identity : Value} {v_x0_Composites : Value} {x1 : MCategory} {v_x1_From : Value} {v_x1_To : Value} {v_x1_Identity : Value} {v_x1_Composites : Value} : Ct Tryz.prog 42 true (laws_eqCategory x0 x1) [.agg #[.int .i64 (x0.Objects), v_x0_From, v_x0_To, v_x0_Identity, v_x0_Composites], .agg #[.int .i64 (x1.Objects), v_x1_From, v_x1_To, v_x1_Identity, v_x1_Composites]] [.rd false (sImm (sInt .i64)) v_x0_From x0.From, .rd false (sImm (sInt .i64)) v_x0_To x0.To, .rd false (sImm (sInt .i64)) v_x0_Identity x0.Identity, .rd false (sImm (sImm (sInt .i64))) v_x0_Composites x0.Composites, .rd false (sImm (sInt .i64)) v_x1_From x1.From, .rd false (sImm (sInt .i64)) v_x1_To x1.To, .rd false (sImm (sInt .i64)) v_x1_Identity x1.Identity, .rd false (sImm (sImm (sInt .i64))) v_x1_Composites x1.Composites] (fun y (_ : Unit) => [.bool y]) (fun y _ => []) := by
  refine ct (S := Unit) (owt fun _ _ => rfl) Tryz.func42 rfl rfl ?_
  repeat' first
    | intro _
    | exact rfl
    | (refine @id.{0} _ ?_; constructor)
    | apply c23
    | apply c29
    | exact ()
theorem c74 {x0 : (List (List (List Int)))} {v_x0 : Value} {x1 : (List (List (List Int)))} {v_x1 : Value} : Ct Tryz.prog 74 true (laws_eqInt64SSS x0 x1) [v_x0, v_x1] [.rd false (sImm (sImm (sImm (sInt .i64)))) v_x0 x0, .rd false (sImm (sImm (sImm (sInt .i64)))) v_x1 x1] (fun y (_ : Unit) => [.bool y]) (fun y _ => []) := by
  refine ct (S := Unit) (owt fun _ _ => rfl) Tryz.func74 rfl rfl ?_
  repeat' first
    | intro _
    | exact rfl
    | (refine @id.{0} _ ?_; constructor)
    | apply Dk.loop 0 (V := Unit) (fun (s : Int) v => []) (fun s v => [(5, .int .i64 (s))]) () [(0, _), (1, _)]
    | apply Dk.quiet (id := 6) (by kernel_rfl)
    | apply c29
    | exact ()
theorem c19 {x0 : MTopology} {v_x0_Shape_From : Value} {v_x0_Shape_To : Value} {v_x0_Shape_Identity : Value} {v_x0_Shape_Composites : Value} {v_x0_Covers : Value} {x1 : MTopology} {v_x1_Shape_From : Value} {v_x1_Shape_To : Value} {v_x1_Shape_Identity : Value} {v_x1_Shape_Composites : Value} {v_x1_Covers : Value} : Ct Tryz.prog 19 true (laws_eqTopology x0 x1) [.agg #[.int .i64 (x0.Shape.Objects), v_x0_Shape_From, v_x0_Shape_To, v_x0_Shape_Identity, v_x0_Shape_Composites, v_x0_Covers], .agg #[.int .i64 (x1.Shape.Objects), v_x1_Shape_From, v_x1_Shape_To, v_x1_Shape_Identity, v_x1_Shape_Composites, v_x1_Covers]] [.rd false (sImm (sInt .i64)) v_x0_Shape_From x0.Shape.From, .rd false (sImm (sInt .i64)) v_x0_Shape_To x0.Shape.To, .rd false (sImm (sInt .i64)) v_x0_Shape_Identity x0.Shape.Identity, .rd false (sImm (sImm (sInt .i64))) v_x0_Shape_Composites x0.Shape.Composites, .rd false (sImm (sImm (sImm (sInt .i64)))) v_x0_Covers x0.Covers, .rd false (sImm (sInt .i64)) v_x1_Shape_From x1.Shape.From, .rd false (sImm (sInt .i64)) v_x1_Shape_To x1.Shape.To, .rd false (sImm (sInt .i64)) v_x1_Shape_Identity x1.Shape.Identity, .rd false (sImm (sImm (sInt .i64))) v_x1_Shape_Composites x1.Shape.Composites, .rd false (sImm (sImm (sImm (sInt .i64)))) v_x1_Covers x1.Covers] (fun y (_ : Unit) => [.bool y]) (fun y _ => []) := by
  refine ct (S := Unit) (owt fun _ _ => rfl) Tryz.func19 rfl rfl ?_
  repeat' first
    | intro _
    | exact rfl
    | (refine @id.{0} _ ?_; constructor)
    | apply c42
    | apply c74
    | exact ()
theorem c63 {x0 : MSetFunctor} {v_x0_Shape_From : Value} {v_x0_Shape_To : Value} {v_x0_Shape_Identity : Value} {v_x0_Shape_Composites : Value} {v_x0_Sizes : Value} {v_x0_Actions : Value} {x1 : MSetFunctor} {v_x1_Shape_From : Value} {v_x1_Shape_To : Value} {v_x1_Shape_Identity : Value} {v_x1_Shape_Composites : Value} {v_x1_Sizes : Value} {v_x1_Actions : Value} : Ct Tryz.prog 63 true (laws_eqSetFunctor x0 x1) [.agg #[.int .i64 (x0.Shape.Objects), v_x0_Shape_From, v_x0_Shape_To, v_x0_Shape_Identity, v_x0_Shape_Composites, v_x0_Sizes, v_x0_Actions], .agg #[.int .i64 (x1.Shape.Objects), v_x1_Shape_From, v_x1_Shape_To, v_x1_Shape_Identity, v_x1_Shape_Composites, v_x1_Sizes, v_x1_Actions]] [.rd false (sImm (sInt .i64)) v_x0_Shape_From x0.Shape.From, .rd false (sImm (sInt .i64)) v_x0_Shape_To x0.Shape.To, .rd false (sImm (sInt .i64)) v_x0_Shape_Identity x0.Shape.Identity, .rd false (sImm (sImm (sInt .i64))) v_x0_Shape_Composites x0.Shape.Composites, .rd false (sImm (sInt .i64)) v_x0_Sizes x0.Sizes, .rd false (sImm (sImm (sInt .i64))) v_x0_Actions x0.Actions, .rd false (sImm (sInt .i64)) v_x1_Shape_From x1.Shape.From, .rd false (sImm (sInt .i64)) v_x1_Shape_To x1.Shape.To, .rd false (sImm (sInt .i64)) v_x1_Shape_Identity x1.Shape.Identity, .rd false (sImm (sImm (sInt .i64))) v_x1_Shape_Composites x1.Shape.Composites, .rd false (sImm (sInt .i64)) v_x1_Sizes x1.Sizes, .rd false (sImm (sImm (sInt .i64))) v_x1_Actions x1.Actions] (fun y (_ : Unit) => [.bool y]) (fun y _ => []) := by
  refine ct (S := Unit) (owt fun _ _ => rfl) Tryz.func63 rfl rfl ?_
  repeat' first
    | intro _
    | exact rfl
    | (refine @id.{0} _ ?_; constructor)
    | apply c42
    | apply c23
    | apply c29
    | exact ()
end Go.Proofs.YtcmckiiafgcmjaaGreat
