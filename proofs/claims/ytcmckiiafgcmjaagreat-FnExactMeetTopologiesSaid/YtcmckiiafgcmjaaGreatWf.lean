/- Walks by the calculus D. No condition beside those that each theorem names. -/
import Derived.Test.YtcmckiiafgcmjaaGreatDi
import Derived.Test.YtcmckiiafgcmjaaGreatMo
import Derived.Test.YtcmckiiafgcmjaaGreatSo
import Derived.Test.YtcmckiiafgcmjaaGreatWa
import Derived.Test.YtcmckiiafgcmjaaGreatWb
import Derived.Test.YtcmckiiafgcmjaaGreatWc
import Derived.Test.YtcmckiiafgcmjaaGreatWd
namespace Go.Proofs.YtcmckiiafgcmjaaGreat
open Go Go.Li Go.Dk
set_option linter.unusedVariables false
set_option maxHeartbeats 1000000
set_option maxRecDepth 100000
theorem c246_s {rc : MCategory → (List Int) → (List Int) → (List (List Int)) → Option ((List (List Int)))} (ih : ∀ {x0 : MCategory} {v_x0_From : Value} {v_x0_To : Value} {v_x0_Identity : Value} {v_x0_Composites : Value} {x1 : (List Int)} {v_x1 : Value} {x2 : (List Int)} {v_x2 : Value} {x3 : (List (List Int))} {v_x3 : Value}, Ct Tryz.prog 246 false (rc x0 x1 x2 x3) [.agg #[.int .i64 (x0.Objects), v_x0_From, v_x0_To, v_x0_Identity, v_x0_Composites], v_x1, v_x2, v_x3] [.rd false (sImm (sInt .i64)) v_x0_From x0.From, .rd false (sImm (sInt .i64)) v_x0_To x0.To, .rd false (sImm (sInt .i64)) v_x0_Identity x0.Identity, .rd false (sImm (sImm (sInt .i64))) v_x0_Composites x0.Composites, .rd false (sImm (sInt .i64)) v_x1 x1, .rd false (sImm (sInt .i64)) v_x2 x2, .om 22 (sImm (sInt .i64)) v_x3 x3] (fun y (v : Value) => [v]) (fun y v => [.om 22 (sImm (sInt .i64)) v y])) {x0 : MCategory} {v_x0_From : Value} {v_x0_To : Value} {v_x0_Identity : Value} {v_x0_Composites : Value} {x1 : (List Int)} {v_x1 : Value} {x2 : (List Int)} {v_x2 : Value} {x3 : (List (List Int))} {v_x3 : Value} : Ct Tryz.prog 246 false (spec_l25Grow_S rc x0 x1 x2 x3) [.agg #[.int .i64 (x0.Objects), v_x0_From, v_x0_To, v_x0_Identity, v_x0_Composites], v_x1, v_x2, v_x3] [.rd false (sImm (sInt .i64)) v_x0_From x0.From, .rd false (sImm (sInt .i64)) v_x0_To x0.To, .rd false (sImm (sInt .i64)) v_x0_Identity x0.Identity, .rd false (sImm (sImm (sInt .i64))) v_x0_Composites x0.Composites, .rd false (sImm (sInt .i64)) v_x1 x1, .rd false (sImm (sInt .i64)) v_x2 x2, .om 22 (sImm (sInt .i64)) v_x3 x3] (fun y (v : Value) => [v]) (fun y v => [.om 22 (sImm (sInt .i64)) v y]) := by
  refine ct (S := Unit) owf Tryz.func246 rfl rfl ?_
  repeat' first
    | intro _
    | exact rfl
    | (refine @id.{0} _ ?_; constructor)
    | apply ih
    | apply Dk.loop 0 (V := Value) (fun (s : (List (List Int)) × Int) v => [.om 22 (sImm (sInt .i64)) v s.1]) (fun s v => [(3, v), (9, .int .i64 (s.2))]) _ [(1, _), (2, _), (4, _)]
    | apply Dk.any (id := 8) 13 [] [[], [], [], [], [], [], [], [], [], [], [4], [], []] [[], [], [], [], [3], [], [], [5, 6], [7, 5, 6], [8, 7, 5, 6], [4, 3, 9, 8, 7, 5, 6, 4, 3], [2, 10, 3, 9, 8, 7, 5, 6, 3, 10, 3, 9, 8, 7, 5, 6, 3], []] (by kernel_rfl)
    | apply c172
    | apply c141
    | apply c89
    | apply c255
    | exact ()
theorem c246_n (n : Nat) : ∀ {x0 : MCategory} {v_x0_From : Value} {v_x0_To : Value} {v_x0_Identity : Value} {v_x0_Composites : Value} {x1 : (List Int)} {v_x1 : Value} {x2 : (List Int)} {v_x2 : Value} {x3 : (List (List Int))} {v_x3 : Value}, Ct Tryz.prog 246 false (spec_l25Grow n x0 x1 x2 x3) [.agg #[.int .i64 (x0.Objects), v_x0_From, v_x0_To, v_x0_Identity, v_x0_Composites], v_x1, v_x2, v_x3] [.rd false (sImm (sInt .i64)) v_x0_From x0.From, .rd false (sImm (sInt .i64)) v_x0_To x0.To, .rd false (sImm (sInt .i64)) v_x0_Identity x0.Identity, .rd false (sImm (sImm (sInt .i64))) v_x0_Composites x0.Composites, .rd false (sImm (sInt .i64)) v_x1 x1, .rd false (sImm (sInt .i64)) v_x2 x2, .om 22 (sImm (sInt .i64)) v_x3 x3] (fun y (v : Value) => [v]) (fun y v => [.om 22 (sImm (sInt .i64)) v y]) := by
  induction n with
  | zero => intros; rw [ct_eq]; exact ⟨owf, fun _ _ _ _ _ _ _ y hy => nomatch (show none = some y from hy)⟩
  | succ n ih => exact c246_s ih
theorem c246 {x0 : MCategory} {v_x0_From : Value} {v_x0_To : Value} {v_x0_Identity : Value} {v_x0_Composites : Value} {x1 : (List Int)} {v_x1 : Value} {x2 : (List Int)} {v_x2 : Value} {x3 : (List (List Int))} {v_x3 : Value} : Ct Tryz.prog 246 false (spec_l25Grow 32 x0 x1 x2 x3) [.agg #[.int .i64 (x0.Objects), v_x0_From, v_x0_To, v_x0_Identity, v_x0_Composites], v_x1, v_x2, v_x3] [.rd false (sImm (sInt .i64)) v_x0_From x0.From, .rd false (sImm (sInt .i64)) v_x0_To x0.To, .rd false (sImm (sInt .i64)) v_x0_Identity x0.Identity, .rd false (sImm (sImm (sInt .i64))) v_x0_Composites x0.Composites, .rd false (sImm (sInt .i64)) v_x1 x1, .rd false (sImm (sInt .i64)) v_x2 x2, .om 22 (sImm (sInt .i64)) v_x3 x3] (fun y (v : Value) => [v]) (fun y v => [.om 22 (sImm (sInt .i64)) v y]) := by
  exact c246_n 32
theorem c226 {x0 : MCategory} {v_x0_From : Value} {v_x0_To : Value} {v_x0_Identity : Value} {v_x0_Composites : Value} {x1 : Int} : Ct Tryz.prog 226 false (spec_l25All x0 x1) [.agg #[.int .i64 (x0.Objects), v_x0_From, v_x0_To, v_x0_Identity, v_x0_Composites], .int .i64 (x1)] [.rd false (sImm (sInt .i64)) v_x0_From x0.From, .rd false (sImm (sInt .i64)) v_x0_To x0.To, .rd false (sImm (sInt .i64)) v_x0_Identity x0.Identity, .rd false (sImm (sImm (sInt .i64))) v_x0_Composites x0.Composites] (fun y (v : Value) => [v, .bool y.2]) (fun y v => [.rd false (sImm (sImm (sInt .i64))) v y.1]) := by
  refine ct (S := Unit) owf Tryz.func226 rfl rfl ?_
  repeat' first
    | intro _
    | exact rfl
    | (refine @id.{0} _ ?_; constructor)
    | apply Dk.any (id := 1) 6 [] [] [[], [], [], [1, 2], [], []] (by kernel_rfl)
    | apply c143
    | apply c246
    | apply c247
    | exact ()
theorem c206 {x0 : MCategory} {v_x0_From : Value} {v_x0_To : Value} {v_x0_Identity : Value} {v_x0_Composites : Value} {x1 : (List (List (List Int)))} {v_x1 : Value} : Ct Tryz.prog 206 true (spec_l25Tops x0 x1) [.agg #[.int .i64 (x0.Objects), v_x0_From, v_x0_To, v_x0_Identity, v_x0_Composites], v_x1] [.rd false (sImm (sInt .i64)) v_x0_From x0.From, .rd false (sImm (sInt .i64)) v_x0_To x0.To, .rd false (sImm (sInt .i64)) v_x0_Identity x0.Identity, .rd false (sImm (sImm (sInt .i64))) v_x0_Composites x0.Composites, .rd false (sImm (sImm (sImm (sInt .i64)))) v_x1 x1] (fun y (v : Value) => [v]) (fun y v => [.own (sOwn 2 (sInt .i64)) v y]) := by
  refine ct (S := Unit) (owt fun _ _ => rfl) Tryz.func206 rfl rfl ?_
  repeat' first
    | intro _
    | exact rfl
    | (refine @id.{0} _ ?_; constructor)
    | apply Dk.loop 0 (V := Value) (fun (s : (List Int) × Int) v => [.own (sOwn 2 (sInt .i64)) v s.1]) (fun s v => [(5, v), (6, .int .i64 (s.2))]) _ [(1, _), (2, _)]
    | apply Dk.any (id := 5) 10 [] [] [[], [], [], [1, 2], [3, 1, 2], [], [], [5, 6], [4, 3, 1, 2, 7, 5, 6, 7, 5, 6], [8, 4, 3, 1, 2, 7, 5, 6, 7, 5, 6]] (by kernel_rfl)
    | apply c143
    | apply c172
    | exact ()
theorem c136 {x0 : ML27Table} {v_x0_C_From : Value} {v_x0_C_To : Value} {v_x0_C_Identity : Value} {v_x0_C_Composites : Value} {v_x0_Lists : Value} {v_x0_Pulls : Value} {v_x0_Tops : Value} {x1 : (List (List (List Int)))} {v_x1 : Value} : Ct Tryz.prog 136 true (spec_l27Marks x0 x1) [.agg #[.int .i64 (x0.C.Objects), v_x0_C_From, v_x0_C_To, v_x0_C_Identity, v_x0_C_Composites, v_x0_Lists, v_x0_Pulls, v_x0_Tops], v_x1] [.rd false (sImm (sInt .i64)) v_x0_C_From x0.C.From, .rd false (sImm (sInt .i64)) v_x0_C_To x0.C.To, .rd false (sImm (sInt .i64)) v_x0_C_Identity x0.C.Identity, .rd false (sImm (sImm (sInt .i64))) v_x0_C_Composites x0.C.Composites, .rd false (sImm (sImm (sImm (sInt .i64)))) v_x0_Lists x0.Lists, .rd false (sImm (sImm (sInt .i64))) v_x0_Pulls x0.Pulls, .rd false (sImm (sInt .i64)) v_x0_Tops x0.Tops, .rd false (sImm (sImm (sImm (sInt .i64)))) v_x1 x1] (fun y (v : Value) => [v]) (fun y v => [.own (sOwn 138 (sOwn 4 sBool)) v y]) := by
  refine ct (S := Unit) (owt fun _ _ => rfl) Tryz.func136 rfl rfl ?_
  repeat' first
    | intro _
    | exact rfl
    | (refine @id.{0} _ ?_; constructor)
    | apply Dk.loop 0 (V := Value) (fun (s : (List (List Bool)) × Int) v => [.own (sOwn 138 (sOwn 4 sBool)) v s.1]) (fun s v => [(5, v), (6, .int .i64 (s.2))]) _ [(1, _), (2, _)]
    | apply Dk.loopA 2 (V := Unit) (A := Value) _ (fun a (s : Int × (List Bool)) v => [.own (sOwn 4 sBool) a s.2]) (fun a s v => [(7, a), (8, .int .i64 (s.1))]) () [(1, _), (2, _), (5, _), (6, _)]
    | apply Dk.any (id := 9) 13 [0] [] [[], [], [1], [], [2, 1, 3], [4, 2, 1, 3], [], [], [6, 7], [8, 6, 7], [], [9, 8, 6, 7, 10], [11, 9, 8, 6, 7, 10]] (by kernel_rfl)
    | apply c111
    | exact ()
theorem c191 {x0 : MCategory} {p_x0 : Addr} {v_x0_From : Value} {v_x0_To : Value} {v_x0_Identity : Value} {v_x0_Composites : Value} {x1 : Int} {x2 : (List Int)} {v_x2 : Value} : Ct Tryz.prog 191 true (impl_all x0 x1 x2) [.pointer (some (p_x0)), .int .i64 (x1), .iface 114 (v_x2)] [.ats p_x0 [.int .i64 (x0.Objects), v_x0_From, v_x0_To, v_x0_Identity, v_x0_Composites], .rd false (sImm (sInt .i64)) v_x0_From x0.From, .rd false (sImm (sInt .i64)) v_x0_To x0.To, .rd false (sImm (sInt .i64)) v_x0_Identity x0.Identity, .rd false (sImm (sImm (sInt .i64))) v_x0_Composites x0.Composites, .rd false (sImm (sInt .i64)) v_x2 x2] (fun y (_ : Unit) => [.bool y]) (fun y _ => []) := by
  refine ct (S := Unit) (owt fun _ _ => rfl) Tryz.func191 rfl rfl ?_
  repeat' first
    | intro _
    | exact rfl
    | (refine @id.{0} _ ?_; constructor)
    | apply c285
    | exact Dk.bxi (by kernel_rfl)
    | exact ()
theorem c123 {x0 : MClassifier} {p_x0 : Addr} {v_x0_Sets_Shape_From : Value} {v_x0_Sets_Shape_To : Value} {v_x0_Sets_Shape_Identity : Value} {v_x0_Sets_Shape_Composites : Value} {v_x0_Sets_Sizes : Value} {v_x0_Sets_Actions : Value} {v_x0_Sieves : Value} : Ct Tryz.prog 123 true (impl_classifier_tops x0) [.pointer (some (p_x0))] [.ats p_x0 [.int .i64 (x0.Sets.Shape.Objects), v_x0_Sets_Shape_From, v_x0_Sets_Shape_To, v_x0_Sets_Shape_Identity, v_x0_Sets_Shape_Composites, v_x0_Sets_Sizes, v_x0_Sets_Actions, v_x0_Sieves], .rd false (sImm (sInt .i64)) v_x0_Sets_Shape_From x0.Sets.Shape.From, .rd false (sImm (sInt .i64)) v_x0_Sets_Shape_To x0.Sets.Shape.To, .rd false (sImm (sInt .i64)) v_x0_Sets_Shape_Identity x0.Sets.Shape.Identity, .rd false (sImm (sImm (sInt .i64))) v_x0_Sets_Shape_Composites x0.Sets.Shape.Composites, .rd false (sImm (sInt .i64)) v_x0_Sets_Sizes x0.Sets.Sizes, .rd false (sImm (sImm (sInt .i64))) v_x0_Sets_Actions x0.Sets.Actions, .rd false (sImm (sImm (sImm (sInt .i64)))) v_x0_Sieves x0.Sieves] (fun y (v : Value) => [v]) (fun y v => [.own (sOwn 2 (sInt .i64)) v y]) := by
  refine ct (S := Unit) (owt fun _ _ => rfl) Tryz.func123 rfl rfl ?_
  repeat' first
    | intro _
    | exact rfl
    | (refine @id.{0} _ ?_; constructor)
    | apply Dk.loop 0 (V := Value) (fun (s : (List Int) × Int) v => [.own (sOwn 2 (sInt .i64)) v s.1]) (fun s v => [(3, v), (14, .int .i64 (s.2))]) _ [(0, _), (12, _), (13, _)]
    | apply Dk.loop 2 (V := Value) (fun (s : (List Int) × Int) v => [.own (sOwn 2 (sInt .i64)) v s.1]) (fun s v => [(3, v), (21, .int .i64 (s.2))]) _ [(0, _), (4, _), (12, _), (13, _), (14, _), (19, _), (20, _)]
    | apply c191
    | exact ()
theorem c96 {x0 : MCategory} {v_x0_From : Value} {v_x0_To : Value} {v_x0_Identity : Value} {v_x0_Composites : Value} {x1 : Int} : Ct Tryz.prog 96 true (laws_heldCategory x0 x1) [.agg #[.int .i64 (x0.Objects), v_x0_From, v_x0_To, v_x0_Identity, v_x0_Composites], .int .i64 (x1)] [.rd false (sImm (sInt .i64)) v_x0_From x0.From, .rd false (sImm (sInt .i64)) v_x0_To x0.To, .rd false (sImm (sInt .i64)) v_x0_Identity x0.Identity, .rd false (sImm (sImm (sInt .i64))) v_x0_Composites x0.Composites] (fun y (_ : Unit) => [.int .i64 y]) (fun y _ => []) := by
  refine ct (S := Unit) (owt fun _ _ => rfl) Tryz.func96 rfl rfl ?_
  repeat' first
    | intro _
    | exact rfl
    | (refine @id.{0} _ ?_; constructor)
    | apply c26
    | apply c31
    | exact ()
theorem c97 {x0 : (List (List (List Int)))} {v_x0 : Value} {x1 : Int} : Ct Tryz.prog 97 true (laws_heldInt64SSS x0 x1) [v_x0, .int .i64 (x1)] [.rd false (sImm (sImm (sImm (sInt .i64)))) v_x0 x0] (fun y (_ : Unit) => [.int .i64 y]) (fun y _ => []) := by
  refine ct (S := Unit) (owt fun _ _ => rfl) Tryz.func97 rfl rfl ?_
  repeat' first
    | intro _
    | exact rfl
    | (refine @id.{0} _ ?_; constructor)
    | apply Dk.loop 0 (V := Unit) (fun (s : Int × Int) v => []) (fun s v => [(1, .int .i64 (s.1)), (5, .int .i64 (s.2))]) () [(0, _)]
    | apply c31
    | exact ()
theorem c36 {x0 : MTopology} {v_x0_Shape_From : Value} {v_x0_Shape_To : Value} {v_x0_Shape_Identity : Value} {v_x0_Shape_Composites : Value} {v_x0_Covers : Value} {x1 : Int} : Ct Tryz.prog 36 true (laws_heldTopology x0 x1) [.agg #[.int .i64 (x0.Shape.Objects), v_x0_Shape_From, v_x0_Shape_To, v_x0_Shape_Identity, v_x0_Shape_Composites, v_x0_Covers], .int .i64 (x1)] [.rd false (sImm (sInt .i64)) v_x0_Shape_From x0.Shape.From, .rd false (sImm (sInt .i64)) v_x0_Shape_To x0.Shape.To, .rd false (sImm (sInt .i64)) v_x0_Shape_Identity x0.Shape.Identity, .rd false (sImm (sImm (sInt .i64))) v_x0_Shape_Composites x0.Shape.Composites, .rd false (sImm (sImm (sImm (sInt .i64)))) v_x0_Covers x0.Covers] (fun y (_ : Unit) => [.int .i64 y]) (fun y _ => []) := by
  refine ct (S := Unit) (owt fun _ _ => rfl) Tryz.func36 rfl rfl ?_
  repeat' first
    | intro _
    | exact rfl
    | (refine @id.{0} _ ?_; constructor)
    | apply c96
    | apply c97
    | exact ()
end Go.Proofs.YtcmckiiafgcmjaaGreat
