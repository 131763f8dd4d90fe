/- Walks by the calculus D. No condition beside those that each theorem names. -/
import Derived.Test.YtdlhbbhdfnnmnaaGreatDi
import Derived.Test.YtdlhbbhdfnnmnaaGreatMo
import Derived.Test.YtdlhbbhdfnnmnaaGreatDs
import Derived.Test.YtdlhbbhdfnnmnaaGreatSo
import Derived.Test.YtdlhbbhdfnnmnaaGreatWa
import Derived.Test.YtdlhbbhdfnnmnaaGreatWb
import Derived.Test.YtdlhbbhdfnnmnaaGreatWc
import Derived.Test.YtdlhbbhdfnnmnaaGreatWd
namespace Go.Proofs.YtdlhbbhdfnnmnaaGreat
open Go Go.Li Go.Dk
set_option linter.unusedVariables false
set_option maxHeartbeats 1000000
set_option maxRecDepth 100000
theorem c251 {x0 : MCategory} {v_x0_From : Value} {v_x0_To : Value} {v_x0_Identity : Value} {v_x0_Composites : Value} : Ct Tryz.prog 251 true (spec_IsShape x0) [.agg #[.int .i64 (x0.Objects), v_x0_From, v_x0_To, v_x0_Identity, v_x0_Composites]] [.rd false (sImm (sInt .i64)) v_x0_From x0.From, .rd false (sImm (sInt .i64)) v_x0_To x0.To, .rd false (sImm (sInt .i64)) v_x0_Identity x0.Identity, .rd false (sImm (sImm (sInt .i64))) v_x0_Composites x0.Composites] (fun y (_ : Unit) => [.bool y]) (fun y _ => []) := by
  refine ct (S := Unit) (owt fun _ _ => rfl) Tryz.func251 rfl rfl ?_
  repeat' first
    | intro _
    | exact rfl
    | (refine @id.{0} _ ?_; constructor)
    | apply Dk.loop 0 (V := Unit) (fun (s : Int) v => []) (fun s v => [(4, .int .i64 (s))]) () [(1, _), (3, _)]
    | apply Dk.loop 2 (V := Unit) (fun (s : Int) v => []) (fun s v => [(5, .int .i64 (s))]) () [(1, _), (3, _)]
    | apply Dk.loop 4 (V := Unit) (fun (s : Int) v => []) (fun s v => [(6, .int .i64 (s))]) () [(1, _), (3, _), (5, _)]
    | apply Dk.quiet (id := 9) (by kernel_rfl)
    | apply Dk.quiet (id := 20) (by kernel_rfl)
    | apply Dk.quiet (id := 23) (by kernel_rfl)
    | apply c317
    | apply c318
    | apply c296
    | exact ()
theorem c154 {x0 : MCategory} {v_x0_From : Value} {v_x0_To : Value} {v_x0_Identity : Value} {v_x0_Composites : Value} : Ct Tryz.prog 154 true (spec_l02Is x0) [.agg #[.int .i64 (x0.Objects), v_x0_From, v_x0_To, v_x0_Identity, v_x0_Composites]] [.rd false (sImm (sInt .i64)) v_x0_From x0.From, .rd false (sImm (sInt .i64)) v_x0_To x0.To, .rd false (sImm (sInt .i64)) v_x0_Identity x0.Identity, .rd false (sImm (sImm (sInt .i64))) v_x0_Composites x0.Composites] (fun y (_ : Unit) => [.bool y]) (fun y _ => []) := by
  refine ct (S := Unit) (owt fun _ _ => rfl) Tryz.func154 rfl rfl ?_
  repeat' first
    | intro _
    | exact rfl
    | (refine @id.{0} _ ?_; constructor)
    | apply c251
    | apply c252
    | exact ()
theorem c297_s {rc : MCategory → (List Int) → (List Int) → (List (List Int)) → Option ((List (List Int)))} (ih : ∀ {x0 : MCategory} {v_x0_From : Value} {v_x0_To : Value} {v_x0_Identity : Value} {v_x0_Composites : Value} {x1 : (List Int)} {v_x1 : Value} {x2 : (List Int)} {v_x2 : Value} {x3 : (List (List Int))} {v_x3 : Value}, Ct Tryz.prog 297 false (rc x0 x1 x2 x3) [.agg #[.int .i64 (x0.Objects), v_x0_From, v_x0_To, v_x0_Identity, v_x0_Composites], v_x1, v_x2, v_x3] [.rd false (sImm (sInt .i64)) v_x0_From x0.From, .rd false (sImm (sInt .i64)) v_x0_To x0.To, .rd false (sImm (sInt .i64)) v_x0_Identity x0.Identity, .rd false (sImm (sImm (sInt .i64))) v_x0_Composites x0.Composites, .rd false (sImm (sInt .i64)) v_x1 x1, .rd false (sImm (sInt .i64)) v_x2 x2, .om 22 (sImm (sInt .i64)) v_x3 x3] (fun y (v : Value) => [v]) (fun y v => [.om 22 (sImm (sInt .i64)) v y])) {x0 : MCategory} {v_x0_From : Value} {v_x0_To : Value} {v_x0_Identity : Value} {v_x0_Composites : Value} {x1 : (List Int)} {v_x1 : Value} {x2 : (List Int)} {v_x2 : Value} {x3 : (List (List Int))} {v_x3 : Value} : Ct Tryz.prog 297 false (spec_l25Grow_S rc x0 x1 x2 x3) [.agg #[.int .i64 (x0.Objects), v_x0_From, v_x0_To, v_x0_Identity, v_x0_Composites], v_x1, v_x2, v_x3] [.rd false (sImm (sInt .i64)) v_x0_From x0.From, .rd false (sImm (sInt .i64)) v_x0_To x0.To, .rd false (sImm (sInt .i64)) v_x0_Identity x0.Identity, .rd false (sImm (sImm (sInt .i64))) v_x0_Composites x0.Composites, .rd false (sImm (sInt .i64)) v_x1 x1, .rd false (sImm (sInt .i64)) v_x2 x2, .om 22 (sImm (sInt .i64)) v_x3 x3] (fun y (v : Value) => [v]) (fun y v => [.om 22 (sImm (sInt .i64)) v y]) := by
  refine ct (S := Unit) owf Tryz.func297 rfl rfl ?_
  repeat' first
    | intro _
    | exact rfl
    | (refine @id.{0} _ ?_; constructor)
    | apply ih
    | apply Dk.loop 0 (V := Value) (fun (s : (List (List Int)) × Int) v => [.om 22 (sImm (sInt .i64)) v s.1]) (fun s v => [(3, v), (9, .int .i64 (s.2))]) _ [(1, _), (2, _), (4, _)]
    | apply Dk.any (id := 8) 13 [] [[], [], [], [], [], [], [], [], [], [], [4], [], []] [[], [], [], [], [3], [], [], [5, 6], [7, 5, 6], [8, 7, 5, 6], [4, 3, 9, 8, 7, 5, 6, 4, 3], [2, 10, 3, 9, 8, 7, 5, 6, 3, 10, 3, 9, 8, 7, 5, 6, 3], []] (by kernel_rfl)
    | apply c102
    | apply c201
    | apply c128
    | apply c330
    | exact ()
theorem c297_n (n : Nat) : ∀ {x0 : MCategory} {v_x0_From : Value} {v_x0_To : Value} {v_x0_Identity : Value} {v_x0_Composites : Value} {x1 : (List Int)} {v_x1 : Value} {x2 : (List Int)} {v_x2 : Value} {x3 : (List (List Int))} {v_x3 : Value}, Ct Tryz.prog 297 false (spec_l25Grow n x0 x1 x2 x3) [.agg #[.int .i64 (x0.Objects), v_x0_From, v_x0_To, v_x0_Identity, v_x0_Composites], v_x1, v_x2, v_x3] [.rd false (sImm (sInt .i64)) v_x0_From x0.From, .rd false (sImm (sInt .i64)) v_x0_To x0.To, .rd false (sImm (sInt .i64)) v_x0_Identity x0.Identity, .rd false (sImm (sImm (sInt .i64))) v_x0_Composites x0.Composites, .rd false (sImm (sInt .i64)) v_x1 x1, .rd false (sImm (sInt .i64)) v_x2 x2, .om 22 (sImm (sInt .i64)) v_x3 x3] (fun y (v : Value) => [v]) (fun y v => [.om 22 (sImm (sInt .i64)) v y]) := by
  induction n with
  | zero => intros; rw [ct_eq]; exact ⟨owf, fun _ _ _ _ _ _ _ y hy => nomatch (show none = some y from hy)⟩
  | succ n ih => exact c297_s ih
theorem c297 {x0 : MCategory} {v_x0_From : Value} {v_x0_To : Value} {v_x0_Identity : Value} {v_x0_Composites : Value} {x1 : (List Int)} {v_x1 : Value} {x2 : (List Int)} {v_x2 : Value} {x3 : (List (List Int))} {v_x3 : Value} : Ct Tryz.prog 297 false (spec_l25Grow 32 x0 x1 x2 x3) [.agg #[.int .i64 (x0.Objects), v_x0_From, v_x0_To, v_x0_Identity, v_x0_Composites], v_x1, v_x2, v_x3] [.rd false (sImm (sInt .i64)) v_x0_From x0.From, .rd false (sImm (sInt .i64)) v_x0_To x0.To, .rd false (sImm (sInt .i64)) v_x0_Identity x0.Identity, .rd false (sImm (sImm (sInt .i64))) v_x0_Composites x0.Composites, .rd false (sImm (sInt .i64)) v_x1 x1, .rd false (sImm (sInt .i64)) v_x2 x2, .om 22 (sImm (sInt .i64)) v_x3 x3] (fun y (v : Value) => [v]) (fun y v => [.om 22 (sImm (sInt .i64)) v y]) := by
  exact c297_n 32
theorem c200 {x0 : MCategory} {v_x0_From : Value} {v_x0_To : Value} {v_x0_Identity : Value} {v_x0_Composites : Value} {x1 : Int} : Ct Tryz.prog 200 false (spec_l25All x0 x1) [.agg #[.int .i64 (x0.Objects), v_x0_From, v_x0_To, v_x0_Identity, v_x0_Composites], .int .i64 (x1)] [.rd false (sImm (sInt .i64)) v_x0_From x0.From, .rd false (sImm (sInt .i64)) v_x0_To x0.To, .rd false (sImm (sInt .i64)) v_x0_Identity x0.Identity, .rd false (sImm (sImm (sInt .i64))) v_x0_Composites x0.Composites] (fun y (v : Value) => [v, .bool y.2]) (fun y v => [.rd false (sImm (sImm (sInt .i64))) v y.1]) := by
  refine ct (S := Unit) owf Tryz.func200 rfl rfl ?_
  repeat' first
    | intro _
    | exact rfl
    | (refine @id.{0} _ ?_; constructor)
    | apply Dk.any (id := 1) 6 [] [] [[], [], [], [1, 2], [], []] (by kernel_rfl)
    | apply c220
    | apply c297
    | apply c298
    | exact ()
theorem c325 {x0 : (List Int)} {v_x0 : Value} {x1 : Int} {x2 : Int} : Ct Tryz.prog 325 true (impl_isMapOf x0 x1 x2) [v_x0, .int .i64 (x1), .int .i64 (x2)] [.rd false (sImm (sInt .i64)) v_x0 x0] (fun y (_ : Unit) => [.bool y]) (fun y _ => []) := by
  refine ct (S := Unit) (owt fun _ _ => rfl) Tryz.func325 rfl rfl ?_
  repeat' first
    | intro _
    | exact rfl
    | (refine @id.{0} _ ?_; constructor)
    | apply c187
    | exact ()
theorem c173 {x0 : MCategory} {p_x0 : Addr} {v_x0_From : Value} {v_x0_To : Value} {v_x0_Identity : Value} {v_x0_Composites : Value} : Ct Tryz.prog 173 true (impl_Category_copy x0) [.pointer (some (p_x0))] [.ats p_x0 [.int .i64 (x0.Objects), v_x0_From, v_x0_To, v_x0_Identity, v_x0_Composites], .rd false (sImm (sInt .i64)) v_x0_From x0.From, .rd false (sImm (sInt .i64)) v_x0_To x0.To, .rd false (sImm (sInt .i64)) v_x0_Identity x0.Identity, .rd false (sImm (sImm (sInt .i64))) v_x0_Composites x0.Composites] (fun y (v : Value × Value × Value × Value) => [.agg #[.int .i64 y.Objects, v.1, v.2.1, v.2.2.1, v.2.2.2]]) (fun y v => [.own (sOwn 2 (sInt .i64)) v.1 y.From, .own (sOwn 2 (sInt .i64)) v.2.1 y.To, .own (sOwn 2 (sInt .i64)) v.2.2.1 y.Identity, .own (sOwn 22 (sOwn 2 (sInt .i64))) v.2.2.2 y.Composites]) := by
  refine ct (S := Unit) (owt fun _ _ => rfl) Tryz.func173 rfl rfl ?_
  repeat' first
    | intro _
    | exact rfl
    | (refine @id.{0} _ ?_; constructor)
    | apply Dk.any (id := 1) 24 [] [] [[], [0], [1, 0], [2, 1, 0], [], [4], [5, 4], [6, 5, 4], [7, 6, 5, 4], [], [9], [10, 9], [11, 10, 9], [12, 11, 10, 9, 8, 7, 6, 5, 4], [], [14], [15, 14], [16, 15, 14], [17, 16, 15, 14, 13, 12, 11, 10, 9, 8, 7, 6, 5, 4], [], [19], [20, 19], [21, 20, 19], [22, 21, 20, 19, 18, 17, 16, 15, 14, 13, 12, 11, 10, 9, 8, 7, 6, 5, 4]] (by kernel_rfl)
    | apply c176
    | apply c213
    | exact ()
theorem c305 {x0 : MSetMap} {p_x0 : Addr} {v_x0_Source_Shape_From : Value} {v_x0_Source_Shape_To : Value} {v_x0_Source_Shape_Identity : Value} {v_x0_Source_Shape_Composites : Value} {v_x0_Source_Sizes : Value} {v_x0_Source_Actions : Value} {v_x0_Target_Shape_From : Value} {v_x0_Target_Shape_To : Value} {v_x0_Target_Shape_Identity : Value} {v_x0_Target_Shape_Composites : Value} {v_x0_Target_Sizes : Value} {v_x0_Target_Actions : Value} {v_x0_Parts : Value} : Ct Tryz.prog 305 true (impl_SetMap_fits x0) [.pointer (some (p_x0))] [.ats p_x0 [.int .i64 (x0.Source.Shape.Objects), v_x0_Source_Shape_From, v_x0_Source_Shape_To, v_x0_Source_Shape_Identity, v_x0_Source_Shape_Composites, v_x0_Source_Sizes, v_x0_Source_Actions, .int .i64 (x0.Target.Shape.Objects), v_x0_Target_Shape_From, v_x0_Target_Shape_To, v_x0_Target_Shape_Identity, v_x0_Target_Shape_Composites, v_x0_Target_Sizes, v_x0_Target_Actions, v_x0_Parts], .rd false (sImm (sInt .i64)) v_x0_Source_Shape_From x0.Source.Shape.From, .rd false (sImm (sInt .i64)) v_x0_Source_Shape_To x0.Source.Shape.To, .rd false (sImm (sInt .i64)) v_x0_Source_Shape_Identity x0.Source.Shape.Identity, .rd false (sImm (sImm (sInt .i64))) v_x0_Source_Shape_Composites x0.Source.Shape.Composites, .rd false (sImm (sInt .i64)) v_x0_Source_Sizes x0.Source.Sizes, .rd false (sImm (sImm (sInt .i64))) v_x0_Source_Actions x0.Source.Actions, .rd false (sImm (sInt .i64)) v_x0_Target_Shape_From x0.Target.Shape.From, .rd false (sImm (sInt .i64)) v_x0_Target_Shape_To x0.Target.Shape.To, .rd false (sImm (sInt .i64)) v_x0_Target_Shape_Identity x0.Target.Shape.Identity, .rd false (sImm (sImm (sInt .i64))) v_x0_Target_Shape_Composites x0.Target.Shape.Composites, .rd false (sImm (sInt .i64)) v_x0_Target_Sizes x0.Target.Sizes, .rd false (sImm (sImm (sInt .i64))) v_x0_Target_Actions x0.Target.Actions, .rd false (sImm (sImm (sInt .i64))) v_x0_Parts x0.Parts] (fun y (_ : Unit) => [.bool y]) (fun y _ => []) := by
  refine ct (S := Unit) (owt fun _ _ => rfl) Tryz.func305 rfl rfl ?_
  repeat' first
    | intro _
    | exact rfl
    | (refine @id.{0} _ ?_; constructor)
    | apply Dk.loop 0 (V := Unit) (fun (s : Int) v => []) (fun s v => [(22, .int .i64 (s))]) () [(0, _), (20, _), (21, _)]
    | apply Dk.quiet (id := 1) (by kernel_rfl)
    | apply Dk.quiet (id := 6) (by kernel_rfl)
    | apply c325
    | exact ()
theorem c155 {x0 : ML27Table} {v_x0_C_From : Value} {v_x0_C_To : Value} {v_x0_C_Identity : Value} {v_x0_C_Composites : Value} {v_x0_Lists : Value} {v_x0_Pulls : Value} {v_x0_Tops : Value} {x1 : (List (List Int))} {v_x1 : Value} : Ct Tryz.prog 155 true (spec_l27Modal x0 x1) [.agg #[.int .i64 (x0.C.Objects), v_x0_C_From, v_x0_C_To, v_x0_C_Identity, v_x0_C_Composites, v_x0_Lists, v_x0_Pulls, v_x0_Tops], v_x1] [.rd false (sImm (sInt .i64)) v_x0_C_From x0.C.From, .rd false (sImm (sInt .i64)) v_x0_C_To x0.C.To, .rd false (sImm (sInt .i64)) v_x0_C_Identity x0.C.Identity, .rd false (sImm (sImm (sInt .i64))) v_x0_C_Composites x0.C.Composites, .rd false (sImm (sImm (sImm (sInt .i64)))) v_x0_Lists x0.Lists, .rd false (sImm (sImm (sInt .i64))) v_x0_Pulls x0.Pulls, .rd false (sImm (sInt .i64)) v_x0_Tops x0.Tops, .rd false (sImm (sImm (sInt .i64))) v_x1 x1] (fun y (_ : Unit) => [.bool y]) (fun y _ => []) := by
  refine ct (S := Unit) (owt fun _ _ => rfl) Tryz.func155 rfl rfl ?_
  repeat' first
    | intro _
    | exact rfl
    | (refine @id.{0} _ ?_; constructor)
    | apply Dk.loop 0 (V := Unit) (fun (s : Int) v => []) (fun s v => [(5, .int .i64 (s))]) () [(1, _), (2, _)]
    | apply Dk.loop 2 (V := Unit) (fun (s : Int) v => []) (fun s v => [(6, .int .i64 (s))]) () [(1, _), (2, _), (5, _)]
    | apply Dk.loop 4 (V := Unit) (fun (s : Int) v => []) (fun s v => [(7, .int .i64 (s))]) () [(1, _), (2, _), (5, _), (6, _)]
    | apply Dk.quiet (id := 4) (by kernel_rfl)
    | apply Dk.quiet (id := 9) (by kernel_rfl)
    | apply Dk.any (id := 14) 22 [] [] [[], [0], [], [1, 0, 2], [3, 1, 0, 2], [], [5], [], [6, 5, 7], [8, 6, 5, 7], [], [9, 8, 6, 5, 7, 10], [11, 9, 8, 6, 5, 7, 10], [], [13], [], [14, 13, 15], [16, 14, 13, 15], [], [17, 16, 14, 13, 15, 18], [19, 17, 16, 14, 13, 15, 18], [12, 11, 9, 8, 6, 5, 7, 10, 20, 19, 17, 16, 14, 13, 15, 18]] (by kernel_rfl)
    | apply Dk.any (id := 15) 43 [] [] [[], [0], [], [1, 0, 2], [3, 1, 0, 2], [], [], [5, 6], [7, 5, 6], [], [8, 7, 5, 6, 9], [10, 8, 7, 5, 6, 9], [4, 3, 1, 0, 2, 11, 10, 8, 7, 5, 6, 9], [12, 4, 3, 1, 0, 2, 11, 10, 8, 7, 5, 6, 9], [], [14], [], [15, 14, 16], [17, 15, 14, 16], [], [], [19, 20], [21, 19, 20], [], [22, 21, 19, 20, 23], [24, 22, 21, 19, 20, 23], [18, 17, 15, 14, 16, 25, 24, 22, 21, 19, 20, 23], [26, 18, 17, 15, 14, 16, 25, 24, 22, 21, 19, 20, 23], [], [28], [], [29, 28, 30], [31, 29, 28, 30], [], [], [33, 34], [35, 33, 34], [], [36, 35, 33, 34, 37], [38, 36, 35, 33, 34, 37], [32, 31, 29, 28, 30, 39, 38, 36, 35, 33, 34, 37], [40, 32, 31, 29, 28, 30, 39, 38, 36, 35, 33, 34, 37], [27, 26, 18, 17, 15, 14, 16, 25, 24, 22, 21, 19, 20, 23, 41, 40, 32, 31, 29, 28, 30, 39, 38, 36, 35, 33, 34, 37]] (by kernel_rfl)
    | apply c253
    | apply c138
    | apply c126
    | exact ()
theorem c149 {x0 : MCoverage} {p_x0 : Addr} {p_x0_Classifier : Addr} {v_x0_Classifier_Sets_Shape_From : Value} {v_x0_Classifier_Sets_Shape_To : Value} {v_x0_Classifier_Sets_Shape_Identity : Value} {v_x0_Classifier_Sets_Shape_Composites : Value} {v_x0_Classifier_Sets_Sizes : Value} {v_x0_Classifier_Sets_Actions : Value} {v_x0_Classifier_Sieves : Value} {p_x0_C : Addr} {v_x0_C_From : Value} {v_x0_C_To : Value} {v_x0_C_Identity : Value} {v_x0_C_Composites : Value} {v_x0_Covers : Value} {p_x0_Count : Addr} : Ct Tryz.prog 149 true (impl_coverage_topology x0) [.pointer (some (p_x0))] [.ats p_x0 [.pointer (some (p_x0_Classifier)), .pointer (some (p_x0_C)), v_x0_Covers, .pointer (some (p_x0_Count))], .ats p_x0_Count [.int .i64 (x0.Count)], .ats p_x0_C [.int .i64 (x0.C.Objects), v_x0_C_From, v_x0_C_To, v_x0_C_Identity, v_x0_C_Composites], .ats p_x0_Classifier [.int .i64 (x0.Classifier.Sets.Shape.Objects), v_x0_Classifier_Sets_Shape_From, v_x0_Classifier_Sets_Shape_To, v_x0_Classifier_Sets_Shape_Identity, v_x0_Classifier_Sets_Shape_Composites, v_x0_Classifier_Sets_Sizes, v_x0_Classifier_Sets_Actions, v_x0_Classifier_Sieves], .rd false (sImm (sInt .i64)) v_x0_Classifier_Sets_Shape_From x0.Classifier.Sets.Shape.From, .rd false (sImm (sInt .i64)) v_x0_Classifier_Sets_Shape_To x0.Classifier.Sets.Shape.To, .rd false (sImm (sInt .i64)) v_x0_Classifier_Sets_Shape_Identity x0.Classifier.Sets.Shape.Identity, .rd false (sImm (sImm (sInt .i64))) v_x0_Classifier_Sets_Shape_Composites x0.Classifier.Sets.Shape.Composites, .rd false (sImm (sInt .i64)) v_x0_Classifier_Sets_Sizes x0.Classifier.Sets.Sizes, .rd false (sImm (sImm (sInt .i64))) v_x0_Classifier_Sets_Actions x0.Classifier.Sets.Actions, .rd false (sImm (sImm (sImm (sInt .i64)))) v_x0_Classifier_Sieves x0.Classifier.Sieves, .rd false (sImm (sInt .i64)) v_x0_C_From x0.C.From, .rd false (sImm (sInt .i64)) v_x0_C_To x0.C.To, .rd false (sImm (sInt .i64)) v_x0_C_Identity x0.C.Identity, .rd false (sImm (sImm (sInt .i64))) v_x0_C_Composites x0.C.Composites, .rd false (sImm (sImm sBool)) v_x0_Covers x0.Covers] (fun y (v : Value × Value × Value × Value × Value) => [.agg #[.int .i64 y.Shape.Objects, v.1, v.2.1, v.2.2.1, v.2.2.2.1, v.2.2.2.2]]) (fun y v => [.own (sOwn 2 (sInt .i64)) v.1 y.Shape.From, .own (sOwn 2 (sInt .i64)) v.2.1 y.Shape.To, .own (sOwn 2 (sInt .i64)) v.2.2.1 y.Shape.Identity, .own (sOwn 22 (sOwn 2 (sInt .i64))) v.2.2.2.1 y.Shape.Composites, .own (sOwn 23 (sOwn 22 (sOwn 2 (sInt .i64)))) v.2.2.2.2 y.Covers]) := by
  refine ct (S := Unit) (owt fun _ _ => rfl) Tryz.func149 rfl rfl ?_
  repeat' first
    | intro _
    | exact rfl
    | (refine @id.{0} _ ?_; constructor)
    | apply Dk.loopA 0 (V := Value) (A := Nat × Value × Value × Value × Value × Value) (_, _, _, _, _, _) (fun a (s : Int × (List (List (List Int)))) v => Dk.pc (fun a0 => Dk.pc (fun a1 => Dk.pc (fun a2 => Dk.pc (fun a3 => Dk.pc (fun a4 a5 => [.row a0 [a1, a2, a3, a4, a5, v] 80, .own (sOwn 23 (sOwn 22 (sOwn 2 (sInt .i64)))) v s.2]))))) a) (fun a s v => Dk.pc (fun a0 => Dk.pc (fun a1 => Dk.pc (fun a2 => Dk.pc (fun a3 => Dk.pc (fun a4 a5 => [(3, .pointer (some ⟨a0, 0, none⟩)), (23, .int .i64 (s.1))]))))) a) _ [(0, _), (2, _), (21, _), (22, _)]
    | apply Dk.loop 2 (V := Value) (fun (s : (List (List Int)) × Int) v => [.own (sOwn 22 (sOwn 2 (sInt .i64))) v s.1]) (fun s v => [(6, v), (37, .int .i64 (s.2))]) _ [(0, _), (2, _), (3, _), (5, _), (21, _), (22, _), (23, _), (35, _), (36, _)]
    | apply c173
    | apply c176
    | exact ()
end Go.Proofs.YtdlhbbhdfnnmnaaGreat
