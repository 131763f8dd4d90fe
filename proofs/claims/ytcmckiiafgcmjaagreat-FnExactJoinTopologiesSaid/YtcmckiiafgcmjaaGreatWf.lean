/- Walks by the calculus D. No condition beside those that each theorem names. -/
import Derived.Test.YtcmckiiafgcmjaaGreatDi
import Derived.Test.YtcmckiiafgcmjaaGreatMo
import Derived.Test.YtcmckiiafgcmjaaGreatSo
import Derived.Test.YtcmckiiafgcmjaaGreatWb
import Derived.Test.YtcmckiiafgcmjaaGreatWc
import Derived.Test.YtcmckiiafgcmjaaGreatWd
namespace Go.Proofs.YtcmckiiafgcmjaaGreat
open Go Go.Li Go.Dk
set_option linter.unusedVariables false
set_option maxHeartbeats 1000000
set_option maxRecDepth 100000
theorem c246_s {rc : MCategory → (List Int) → (List Int) → (List (List Int)) → Option ((List (List Int)))} (ih : ∀ {x0 : MCategory} {v_x0_From : Value} {v_x0_To : Value} {v_x0_Identity : Value} {v_x0_Composites : Value} {x1 : (List Int)} {v_x1 : Value} {x2 : (List Int)} {v_x2 : Value} {x3 : (List (List Int))} {v_x3 : Value}, Ct Tryz.prog 246 false (rc x0 x1 x2 x3) [.agg #[.int .i64 (x0.Objects), v_x0_From, v_x0_To, v_x0_Identity, v_x0_Composites], v_x1, v_x2, v_x3] [.rd false (sImm (sInt .i64)) v_x0_From x0.From, .rd false (sImm (sInt .i64)) v_x0_To x0.To, .rd false (sImm (sInt .i64)) v_x0_Identity x0.Identity, .rd false (sImm (sImm (sInt .i64))) v_x0_Composites x0.Composites, .rd false (sImm (sInt .i64)) v_x1 x1, .rd false (sImm (sInt .i64)) v_x2 x2, .om 22 (sImm (sInt .i64)) v_x3 x3] (fun y (v : Value) => [v]) (fun y v => [.om 22 (sImm (sInt .i64)) v y])) {x0 : MCategory} {v_x0_From : Value} {v_x0_To : Value} {v_x0_Identity : Value} {v_x0_Composites : Value} {x1 : (List Int)} {v_x1 : Value} {x2 : (List Int)} {v_x2 : Value} {x3 : (List (List Int))} {v_x3 : Value} : Ct Tryz.prog 246 false (spec_l25Grow_S rc x0 x1 x2 x3) [.agg #[.int .i64 (x0.Objects), v_x0_From, v_x0_To, v_x0_Identity, v_x0_Composites], v_x1, v_x2, v_x3] [.rd false (sImm (sInt .i64)) v_x0_From x0.From, .rd false (sImm (sInt .i64)) v_x0_To x0.To, .rd false (sImm (sInt .i64)) v_x0_Identity x0.Identity, .rd false (sImm (sImm (sInt .i64))) v_x0_Composites x0.Composites, .rd false (sImm (sInt .i64)) v_x1 x1, .rd false (sImm (sInt .i64)) v_x2 x2, .om 22 (sImm (sInt .i64)) v_x3 x3] (fun y (v : Value) => [v]) (fun y v => [.om 22 (sImm (sInt .i64)) v y]) := by
  refine ct (S := Unit) owf Tryz.func246 rfl rfl ?_
  repeat' first
    | intro _
    | exact rfl
    | (refine @id.{0} _ ?_; constructor)
    | apply ih
    | apply Dk.loop 0 (V := Value) (fun (s : (List (List Int)) × Int) v => [.om 22 (sImm (sInt .i64)) v s.1]) (fun s v => [(3, v), (9, .int .i64 (s.2))]) _ [(1, _), (2, _), (4, _)]
    | apply Dk.any (id := 8) 13 [] [[], [], [], [], [], [], [], [], [], [], [4], [], []] [[], [], [], [], [3], [], [], [5, 6], [7, 5, 6], [8, 7, 5, 6], [4, 3, 9, 8, 7, 5, 6, 4, 3], [2, 10, 3, 9, 8, 7, 5, 6, 3, 10, 3, 9, 8, 7, 5, 6, 3], []] (by kernel_rfl)
    | apply c172
    | apply c141
    | apply c89
    | apply c255
    | exact ()
theorem c246_n (n : Nat) : ∀ {x0 : MCategory} {v_x0_From : Value} {v_x0_To : Value} {v_x0_Identity : Value} {v_x0_Composites : Value} {x1 : (List Int)} {v_x1 : Value} {x2 : (List Int)} {v_x2 : Value} {x3 : (List (List Int))} {v_x3 : Value}, Ct Tryz.prog 246 false (spec_l25Grow n x0 x1 x2 x3) [.agg #[.int .i64 (x0.Objects), v_x0_From, v_x0_To, v_x0_Identity, v_x0_Composites], v_x1, v_x2, v_x3] [.rd false (sImm (sInt .i64)) v_x0_From x0.From, .rd false (sImm (sInt .i64)) v_x0_To x0.To, .rd false (sImm (sInt .i64)) v_x0_Identity x0.Identity, .rd false (sImm (sImm (sInt .i64))) v_x0_Composites x0.Composites, .rd false (sImm (sInt .i64)) v_x1 x1, .rd false (sImm (sInt .i64)) v_x2 x2, .om 22 (sImm (sInt .i64)) v_x3 x3] (fun y (v : Value) => [v]) (fun y v => [.om 22 (sImm (sInt .i64)) v y]) := by
  induction n with
  | zero => intros; rw [ct_eq]; exact ⟨owf, fun _ _ _ _ _ _ _ y hy => nomatch (show none = some y from hy)⟩
  | succ n ih => exact c246_s ih
theorem c246 {x0 : MCategory} {v_x0_From : Value} {v_x0_To : Value} {v_x0_Identity : Value} {v_x0_Composites : Value} {x1 : (List Int)} {v_x1 : Value} {x2 : (List Int)} {v_x2 : Value} {x3 : (List (List Int))} {v_x3 : Value} : Ct Tryz.prog 246 false (spec_l25Grow 32 x0 x1 x2 x3) [.agg #[.int .i64 (x0.Objects), v_x0_From, v_x0_To, v_x0_Identity, v_x0_Composites], v_x1, v_x2, v_x3] [.rd false (sImm (sInt .i64)) v_x0_From x0.From, .rd false (sImm (sInt .i64)) v_x0_To x0.To, .rd false (sImm (sInt .i64)) v_x0_Identity x0.Identity, .rd false (sImm (sImm (sInt .i64))) v_x0_Composites x0.Composites, .rd false (sImm (sInt .i64)) v_x1 x1, .rd false (sImm (sInt .i64)) v_x2 x2, .om 22 (sImm (sInt .i64)) v_x3 x3] (fun y (v : Value) => [v]) (fun y v => [.om 22 (sImm (sInt .i64)) v y]) := by
  exact c246_n 32
theorem c226 {x0 : MCategory} {v_x0_From : Value} {v_x0_To : Value} {v_x0_Identity : Value} {v_x0_Composites : Value} {x1 : Int} : Ct Tryz.prog 226 false (spec_l25All x0 x1) [.agg #[.int .i64 (x0.Objects), v_x0_From, v_x0_To, v_x0_Identity, v_x0_Composites], .int .i64 (x1)] [.rd false (sImm (sInt .i64)) v_x0_From x0.From, .rd false (sImm (sInt .i64)) v_x0_To x0.To, .rd false (sImm (sInt .i64)) v_x0_Identity x0.Identity, .rd false (sImm (sImm (sInt .i64))) v_x0_Composites x0.Composites] (fun y (v : Value) => [v, .bool y.2]) (fun y v => [.rd false (sImm (sImm (sInt .i64))) v y.1]) := by
  refine ct (S := Unit) owf Tryz.func226 rfl rfl ?_
  repeat' first
    | intro _
    | exact rfl
    | (refine @id.{0} _ ?_; constructor)
    | apply Dk.any (id := 1) 6 [] [] [[], [], [], [1, 2], [], []] (by kernel_rfl)
    | apply c143
    | apply c246
    | apply c247
    | exact ()
theorem c136 {x0 : ML27Table} {v_x0_C_From : Value} {v_x0_C_To : Value} {v_x0_C_Identity : Value} {v_x0_C_Composites : Value} {v_x0_Lists : Value} {v_x0_Pulls : Value} {v_x0_Tops : Value} {x1 : (List (List (List Int)))} {v_x1 : Value} : Ct Tryz.prog 136 true (spec_l27Marks x0 x1) [.agg #[.int .i64 (x0.C.Objects), v_x0_C_From, v_x0_C_To, v_x0_C_Identity, v_x0_C_Composites, v_x0_Lists, v_x0_Pulls, v_x0_Tops], v_x1] [.rd false (sImm (sInt .i64)) v_x0_C_From x0.C.From, .rd false (sImm (sInt .i64)) v_x0_C_To x0.C.To, .rd false (sImm (sInt .i64)) v_x0_C_Identity x0.C.Identity, .rd false (sImm (sImm (sInt .i64))) v_x0_C_Composites x0.C.Composites, .rd false (sImm (sImm (sImm (sInt .i64)))) v_x0_Lists x0.Lists, .rd false (sImm (sImm (sInt .i64))) v_x0_Pulls x0.Pulls, .rd false (sImm (sInt .i64)) v_x0_Tops x0.Tops, .rd false (sImm (sImm (sImm (sInt .i64)))) v_x1 x1] (fun y (v : Value) => [v]) (fun y v => [.own (sOwn 138 (sOwn 4 sBool)) v y]) := by
  refine ct (S := Unit) (owt fun _ _ => rfl) Tryz.func136 rfl rfl ?_
  repeat' first
    | intro _
    | exact rfl
    | (refine @id.{0} _ ?_; constructor)
    | apply Dk.loop 0 (V := Value) (fun (s : (List (List Bool)) × Int) v => [.own (sOwn 138 (sOwn 4 sBool)) v s.1]) (fun s v => [(5, v), (6, .int .i64 (s.2))]) _ [(1, _), (2, _)]
    | apply Dk.loopA 2 (V := Unit) (A := Value) _ (fun a (s : Int × (List Bool)) v => [.own (sOwn 4 sBool) a s.2]) (fun a s v => [(7, a), (8, .int .i64 (s.1))]) () [(1, _), (2, _), (5, _), (6, _)]
    | apply Dk.any (id := 9) 13 [0] [] [[], [], [1], [], [2, 1, 3], [4, 2, 1, 3], [], [], [6, 7], [8, 6, 7], [], [9, 8, 6, 7, 10], [11, 9, 8, 6, 7, 10]] (by kernel_rfl)
    | apply c111
    | exact ()
theorem c71 {x0 : ML27Table} {v_x0_C_From : Value} {v_x0_C_To : Value} {v_x0_C_Identity : Value} {v_x0_C_Composites : Value} {v_x0_Lists : Value} {v_x0_Pulls : Value} {v_x0_Tops : Value} {x1 : (List (List Bool))} {v_x1 : Value} : Ct Tryz.prog 71 true (spec_l27Is x0 x1) [.agg #[.int .i64 (x0.C.Objects), v_x0_C_From, v_x0_C_To, v_x0_C_Identity, v_x0_C_Composites, v_x0_Lists, v_x0_Pulls, v_x0_Tops], v_x1] [.rd false (sImm (sInt .i64)) v_x0_C_From x0.C.From, .rd false (sImm (sInt .i64)) v_x0_C_To x0.C.To, .rd false (sImm (sInt .i64)) v_x0_C_Identity x0.C.Identity, .rd false (sImm (sImm (sInt .i64))) v_x0_C_Composites x0.C.Composites, .rd false (sImm (sImm (sImm (sInt .i64)))) v_x0_Lists x0.Lists, .rd false (sImm (sImm (sInt .i64))) v_x0_Pulls x0.Pulls, .rd false (sImm (sInt .i64)) v_x0_Tops x0.Tops, .rd false (sImm (sImm sBool)) v_x1 x1] (fun y (_ : Unit) => [.bool y]) (fun y _ => []) := by
  refine ct (S := Unit) (owt fun _ _ => rfl) Tryz.func71 rfl rfl ?_
  repeat' first
    | intro _
    | exact rfl
    | (refine @id.{0} _ ?_; constructor)
    | apply Dk.loop 0 (V := Value) (fun (s : (List (List Bool)) × Int) v => [.own (sOwn 138 (sOwn 4 sBool)) v s.1]) (fun s v => [(5, v), (6, .int .i64 (s.2))]) _ [(1, _), (2, _)]
    | apply c137
    | exact ()
theorem c96 {x0 : MCategory} {v_x0_From : Value} {v_x0_To : Value} {v_x0_Identity : Value} {v_x0_Composites : Value} {x1 : Int} : Ct Tryz.prog 96 true (laws_heldCategory x0 x1) [.agg #[.int .i64 (x0.Objects), v_x0_From, v_x0_To, v_x0_Identity, v_x0_Composites], .int .i64 (x1)] [.rd false (sImm (sInt .i64)) v_x0_From x0.From, .rd false (sImm (sInt .i64)) v_x0_To x0.To, .rd false (sImm (sInt .i64)) v_x0_Identity x0.Identity, .rd false (sImm (sImm (sInt .i64))) v_x0_Composites x0.Composites] (fun y (_ : Unit) => [.int .i64 y]) (fun y _ => []) := by
  refine ct (S := Unit) (owt fun _ _ => rfl) Tryz.func96 rfl rfl ?_
  repeat' first
    | intro _
    | exact rfl
    | (refine @id.{0} _ ?_; constructor)
    | apply c26
    | apply c31
    | exact ()
theorem c97 {x0 : (List (List (List Int)))} {v_x0 : Value} {x1 : Int} : Ct Tryz.prog 97 true (laws_heldInt64SSS x0 x1) [v_x0, .int .i64 (x1)] [.rd false (sImm (sImm (sImm (sInt .i64)))) v_x0 x0] (fun y (_ : Unit) => [.int .i64 y]) (fun y _ => []) := by
  refine ct (S := Unit) (owt fun _ _ => rfl) Tryz.func97 rfl rfl ?_
  repeat' first
    | intro _
    | exact rfl
    | (refine @id.{0} _ ?_; constructor)
    | apply Dk.loop 0 (V := Unit) (fun (s : Int × Int) v => []) (fun s v => [(1, .int .i64 (s.1)), (5, .int .i64 (s.2))]) () [(0, _)]
    | apply c31
    | exact ()
theorem c36 {x0 : MTopology} {v_x0_Shape_From : Value} {v_x0_Shape_To : Value} {v_x0_Shape_Identity : Value} {v_x0_Shape_Composites : Value} {v_x0_Covers : Value} {x1 : Int} : Ct Tryz.prog 36 true (laws_heldTopology x0 x1) [.agg #[.int .i64 (x0.Shape.Objects), v_x0_Shape_From, v_x0_Shape_To, v_x0_Shape_Identity, v_x0_Shape_Composites, v_x0_Covers], .int .i64 (x1)] [.rd false (sImm (sInt .i64)) v_x0_Shape_From x0.Shape.From, .rd false (sImm (sInt .i64)) v_x0_Shape_To x0.Shape.To, .rd false (sImm (sInt .i64)) v_x0_Shape_Identity x0.Shape.Identity, .rd false (sImm (sImm (sInt .i64))) v_x0_Shape_Composites x0.Shape.Composites, .rd false (sImm (sImm (sImm (sInt .i64)))) v_x0_Covers x0.Covers] (fun y (_ : Unit) => [.int .i64 y]) (fun y _ => []) := by
  refine ct (S := Unit) (owt fun _ _ => rfl) Tryz.func36 rfl rfl ?_
  repeat' first
    | intro _
    | exact rfl
    | (refine @id.{0} _ ?_; constructor)
    | apply c96
    | apply c97
    | exact ()
theorem c170 {x0 : MCategory} {v_x0_From : Value} {v_x0_To : Value} {v_x0_Identity : Value} {v_x0_Composites : Value} {x1 : MCategory} {v_x1_From : Value} {v_x1_To : Value} {v_x1_Identity : Value} {v_x1_Composites : Value} : Ct Tryz.prog 170 true (spec_l02Same x0 x1) [.agg #[.int .i64 (x0.Objects), v_x0_From, v_x0_To, v_x0_Identity, v_x0_Composites], .agg #[.int .i64 (x1.Objects), v_x1_From, v_x1_To, v_x1_Identity, v_x1_Composites]] [.rd false (sImm (sInt .i64)) v_x0_From x0.From, .rd false (sImm (sInt .i64)) v_x0_To x0.To, .rd false (sImm (sInt .i64)) v_x0_Identity x0.Identity, .rd false (sImm (sImm (sInt .i64))) v_x0_Composites x0.Composites, .rd false (sImm (sInt .i64)) v_x1_From x1.From, .rd false (sImm (sInt .i64)) v_x1_To x1.To, .rd false (sImm (sInt .i64)) v_x1_Identity x1.Identity, .rd false (sImm (sImm (sInt .i64))) v_x1_Composites x1.Composites] (fun y (_ : Unit) => [.bool y]) (fun y _ => []) := by
  refine ct (S := Unit) (owt fun _ _ => rfl) Tryz.func170 rfl rfl ?_
  repeat' first
    | intro _
    | exact rfl
    | (refine @id.{0} _ ?_; constructor)
    | apply c88
    | apply c184
    | exact ()
theorem c109 {x0 : MCoverage} {p_x0 : Addr} {p_x0_Classifier : Addr} {v_x0_Classifier_Sets_Shape_From : Value} {v_x0_Classifier_Sets_Shape_To : Value} {v_x0_Classifier_Sets_Shape_Identity : Value} {v_x0_Classifier_Sets_Shape_Composites : Value} {v_x0_Classifier_Sets_Sizes : Value} {v_x0_Classifier_Sets_Actions : Value} {v_x0_Classifier_Sieves : Value} {p_x0_C : Addr} {v_x0_C_From : Value} {v_x0_C_To : Value} {v_x0_C_Identity : Value} {v_x0_C_Composites : Value} {v_x0_Covers : Value} {b_x0_Count : Nat} {x1 : MCoverage} {p_x1 : Addr} {p_x1_Classifier : Addr} {v_x1_Classifier_Sets_Shape_From : Value} {v_x1_Classifier_Sets_Shape_To : Value} {v_x1_Classifier_Sets_Shape_Identity : Value} {v_x1_Classifier_Sets_Shape_Composites : Value} {v_x1_Classifier_Sets_Sizes : Value} {v_x1_Classifier_Sets_Actions : Value} {v_x1_Classifier_Sieves : Value} {p_x1_C : Addr} {v_x1_C_From : Value} {v_x1_C_To : Value} {v_x1_C_Identity : Value} {v_x1_C_Composites : Value} {v_x1_Covers : Value} {p_x1_Count : Addr} : Ct Tryz.prog 109 true (impl_coverage_add x0 x1) [.pointer (some (p_x0)), .pointer (some (p_x1))] [.ats p_x1 [.pointer (some (p_x1_Classifier)), .pointer (some (p_x1_C)), v_x1_Covers, .pointer (some (p_x1_Count))], .ats p_x1_Count [.int .i64 (x1.Count)], .ats p_x1_C [.int .i64 (x1.C.Objects), v_x1_C_From, v_x1_C_To, v_x1_C_Identity, v_x1_C_Composites], .ats p_x1_Classifier [.int .i64 (x1.Classifier.Sets.Shape.Objects), v_x1_Classifier_Sets_Shape_From, v_x1_Classifier_Sets_Shape_To, v_x1_Classifier_Sets_Shape_Identity, v_x1_Classifier_Sets_Shape_Composites, v_x1_Classifier_Sets_Sizes, v_x1_Classifier_Sets_Actions, v_x1_Classifier_Sieves], .ats p_x0 [.pointer (some (p_x0_Classifier)), .pointer (some (p_x0_C)), v_x0_Covers, .pointer (some (⟨b_x0_Count, 0, none⟩))], .row b_x0_Count [.int .i64 (x0.Count)] 197, .ats p_x0_C [.int .i64 (x0.C.Objects), v_x0_C_From, v_x0_C_To, v_x0_C_Identity, v_x0_C_Composites], .ats p_x0_Classifier [.int .i64 (x0.Classifier.Sets.Shape.Objects), v_x0_Classifier_Sets_Shape_From, v_x0_Classifier_Sets_Shape_To, v_x0_Classifier_Sets_Shape_Identity, v_x0_Classifier_Sets_Shape_Composites, v_x0_Classifier_Sets_Sizes, v_x0_Classifier_Sets_Actions, v_x0_Classifier_Sieves], .rd false (sImm (sInt .i64)) v_x0_Classifier_Sets_Shape_From x0.Classifier.Sets.Shape.From, .rd false (sImm (sInt .i64)) v_x0_Classifier_Sets_Shape_To x0.Classifier.Sets.Shape.To, .rd false (sImm (sInt .i64)) v_x0_Classifier_Sets_Shape_Identity x0.Classifier.Sets.Shape.Identity, .rd false (sImm (sImm (sInt .i64))) v_x0_Classifier_Sets_Shape_Composites x0.Classifier.Sets.Shape.Composites, .rd false (sImm (sInt .i64)) v_x0_Classifier_Sets_Sizes x0.Classifier.Sets.Sizes, .rd false (sImm (sImm (sInt .i64))) v_x0_Classifier_Sets_Actions x0.Classifier.Sets.Actions, .rd false (sImm (sImm (sImm (sInt .i64)))) v_x0_Classifier_Sieves x0.Classifier.Sieves, .rd false (sImm (sInt .i64)) v_x0_C_From x0.C.From, .rd false (sImm (sInt .i64)) v_x0_C_To x0.C.To, .rd false (sImm (sInt .i64)) v_x0_C_Identity x0.C.Identity, .rd false (sImm (sImm (sInt .i64))) v_x0_C_Composites x0.C.Composites, .own (sOwn 138 (sOwn 4 sBool)) v_x0_Covers x0.Covers, .rd false (sImm (sInt .i64)) v_x1_Classifier_Sets_Shape_From x1.Classifier.Sets.Shape.From, .rd false (sImm (sInt .i64)) v_x1_Classifier_Sets_Shape_To x1.Classifier.Sets.Shape.To, .rd false (sImm (sInt .i64)) v_x1_Classifier_Sets_Shape_Identity x1.Classifier.Sets.Shape.Identity, .rd false (sImm (sImm (sInt .i64))) v_x1_Classifier_Sets_Shape_Composites x1.Classifier.Sets.Shape.Composites, .rd false (sImm (sInt .i64)) v_x1_Classifier_Sets_Sizes x1.Classifier.Sets.Sizes, .rd false (sImm (sImm (sInt .i64))) v_x1_Classifier_Sets_Actions x1.Classifier.Sets.Actions, .rd false (sImm (sImm (sImm (sInt .i64)))) v_x1_Classifier_Sieves x1.Classifier.Sieves, .rd false (sImm (sInt .i64)) v_x1_C_From x1.C.From, .rd false (sImm (sInt .i64)) v_x1_C_To x1.C.To, .rd false (sImm (sInt .i64)) v_x1_C_Identity x1.C.Identity, .rd false (sImm (sImm (sInt .i64))) v_x1_C_Composites x1.C.Composites, .rd false (sImm (sImm sBool)) v_x1_Covers x1.Covers] (fun y (_ : Unit) => [.pointer (some p_x0)]) (fun y _ => [.own (sOwn 138 (sOwn 4 sBool)) v_x0_Covers y.1, .row b_x0_Count [.int .i64 y.2] 197]) := by
  refine ct (S := Unit) (owt fun _ _ => rfl) Tryz.func109 rfl rfl ?_
  repeat' first
    | intro _
    | exact rfl
    | (refine @id.{0} _ ?_; constructor)
    | apply Dk.loop 0 (V := Unit) (fun (s : Int × Int × (List (List Bool))) v => [.row b_x0_Count [.int .i64 (s.2.1)] 197, .own (sOwn 138 (sOwn 4 sBool)) v_x0_Covers s.2.2]) (fun s v => [(14, .int .i64 (s.1))]) () [(0, _), (12, _), (13, _)]
    | apply Dk.loop 2 (V := Unit) (fun (s : Int × Int × (List (List Bool))) v => [.row b_x0_Count [.int .i64 (s.2.1)] 197, .own (sOwn 138 (sOwn 4 sBool)) v_x0_Covers s.2.2]) (fun s v => [(21, .int .i64 (s.1))]) () [(0, _), (5, _), (12, _), (13, _), (14, _), (19, _), (20, _)]
    | apply c124
    | exact ()
end Go.Proofs.YtcmckiiafgcmjaaGreat
