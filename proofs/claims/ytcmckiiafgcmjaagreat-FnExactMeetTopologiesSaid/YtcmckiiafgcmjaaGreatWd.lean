/- Walks by the calculus D. No condition beside those that each theorem names. -/
import Derived.Test.YtcmckiiafgcmjaaGreatDi
import Derived.Test.YtcmckiiafgcmjaaGreatMo
import Derived.Test.YtcmckiiafgcmjaaGreatSo
namespace Go.Proofs.YtcmckiiafgcmjaaGreat
open Go Go.Li Go.Dk
set_option linter.unusedVariables false
set_option maxHeartbeats 1000000
set_option maxRecDepth 100000
theorem c138 {x0 : (List Int)} {v_x0 : Value} {x1 : (List Int)} {v_x1 : Value} : Ct Tryz.prog 138 true (spec_l01Less x0 x1) [v_x0, v_x1] [.rd false (sImm (sInt .i64)) v_x0 x0, .rd false (sImm (sInt .i64)) v_x1 x1] (fun y (_ : Unit) => [.bool y]) (fun y _ => []) := by
  refine ct (S := Unit) (owt fun _ _ => rfl) Tryz.func138 rfl rfl ?_
  repeat' first
    | intro _
    | exact rfl
    | (refine @id.{0} _ ?_; constructor)
    | apply Dk.loop 0 (V := Unit) (fun (s : Int) v => []) (fun s v => [(5, .int .i64 (s))]) () [(0, _), (1, _)]
    | apply Dk.quiet (id := 4) (by kernel_rfl)
    | apply Dk.quiet (id := 5) (by kernel_rfl)
    | exact ()
theorem c247 {x0 : (List (List Int))} {v_x0 : Value} : Ct Tryz.prog 247 false (spec_l25Sorted x0) [v_x0] [.rd false (sImm (sImm (sInt .i64))) v_x0 x0] (fun y (v : Value) => [v]) (fun y v => [.rd false (sImm (sImm (sInt .i64))) v y]) := by
  refine ct (S := Unit) owf Tryz.func247 rfl rfl ?_
  repeat' first
    | intro _
    | exact rfl
    | (refine @id.{0} _ ?_; constructor)
    | apply Dk.loopA 0 (V := Unit) (A := Value) _ (fun a (s : Int × (List (List Int))) v => [.om 22 (sImm (sInt .i64)) a s.2]) (fun a s v => [(3, a), (4, .int .i64 (s.1))]) () []
    | apply Dk.loopA 2 (V := Unit) (A := Value) _ (fun a (s : Int × (List (List Int))) v => [.om 22 (sImm (sInt .i64)) a s.2]) (fun a s v => [(3, a), (5, .int .i64 (s.1))]) () [(4, _)]
    | apply Dk.quiet (id := 6) (by kernel_rfl)
    | apply c138
    | exact ()
theorem c207 {x0 : ML27Table} {v_x0_C_From : Value} {v_x0_C_To : Value} {v_x0_C_Identity : Value} {v_x0_C_Composites : Value} {v_x0_Lists : Value} {v_x0_Pulls : Value} {v_x0_Tops : Value} {x1 : (List (List Bool))} {v_x1 : Value} {x2 : Int} {x3 : Int} {x4 : Int} : Ct Tryz.prog 207 true (spec_l27Local x0 x1 x2 x3 x4) [.agg #[.int .i64 (x0.C.Objects), v_x0_C_From, v_x0_C_To, v_x0_C_Identity, v_x0_C_Composites, v_x0_Lists, v_x0_Pulls, v_x0_Tops], v_x1, .int .i64 (x2), .int .i64 (x3), .int .i64 (x4)] [.rd false (sImm (sInt .i64)) v_x0_C_From x0.C.From, .rd false (sImm (sInt .i64)) v_x0_C_To x0.C.To, .rd false (sImm (sInt .i64)) v_x0_C_Identity x0.C.Identity, .rd false (sImm (sImm (sInt .i64))) v_x0_C_Composites x0.C.Composites, .rd false (sImm (sImm (sImm (sInt .i64)))) v_x0_Lists x0.Lists, .rd false (sImm (sImm (sInt .i64))) v_x0_Pulls x0.Pulls, .rd false (sImm (sInt .i64)) v_x0_Tops x0.Tops, .rd false (sImm (sImm sBool)) v_x1 x1] (fun y (_ : Unit) => [.bool y]) (fun y _ => []) := by
  refine ct (S := Unit) (owt fun _ _ => rfl) Tryz.func207 rfl rfl ?_
  repeat' first
    | intro _
    | exact rfl
    | (refine @id.{0} _ ?_; constructor)
    | apply Dk.loop 0 (V := Unit) (fun (s : Int) v => []) (fun s v => [(12, .int .i64 (s))]) () [(1, _), (4, _), (5, _), (11, _)]
    | apply Dk.quiet (id := 5) (by kernel_rfl)
    | exact ()
theorem c137 {x0 : ML27Table} {v_x0_C_From : Value} {v_x0_C_To : Value} {v_x0_C_Identity : Value} {v_x0_C_Composites : Value} {v_x0_Lists : Value} {v_x0_Pulls : Value} {v_x0_Tops : Value} {x1 : (List (List Bool))} {v_x1 : Value} : Ct Tryz.prog 137 true (spec_l27Step x0 x1) [.agg #[.int .i64 (x0.C.Objects), v_x0_C_From, v_x0_C_To, v_x0_C_Identity, v_x0_C_Composites, v_x0_Lists, v_x0_Pulls, v_x0_Tops], v_x1] [.rd false (sImm (sInt .i64)) v_x0_C_From x0.C.From, .rd false (sImm (sInt .i64)) v_x0_C_To x0.C.To, .rd false (sImm (sInt .i64)) v_x0_C_Identity x0.C.Identity, .rd false (sImm (sImm (sInt .i64))) v_x0_C_Composites x0.C.Composites, .rd false (sImm (sImm (sImm (sInt .i64)))) v_x0_Lists x0.Lists, .rd false (sImm (sImm (sInt .i64))) v_x0_Pulls x0.Pulls, .rd false (sImm (sInt .i64)) v_x0_Tops x0.Tops, .own (sOwn 138 (sOwn 4 sBool)) v_x1 x1] (fun y (_ : Unit) => [.bool y.1]) (fun y _ => [.own (sOwn 138 (sOwn 4 sBool)) v_x1 y.2]) := by
  refine ct (S := Unit) (owt fun _ _ => rfl) Tryz.func137 rfl rfl ?_
  repeat' first
    | intro _
    | exact rfl
    | (refine @id.{0} _ ?_; constructor)
    | apply Dk.loop 0 (V := Unit) (fun (s : Int) v => []) (fun s v => [(5, .int .i64 (s))]) () [(1, _), (2, _)]
    | apply Dk.loop 2 (V := Unit) (fun (s : Int) v => []) (fun s v => [(6, .int .i64 (s))]) () [(1, _), (2, _), (5, _)]
    | apply Dk.loop 4 (V := Unit) (fun (s : Int) v => []) (fun s v => [(7, .int .i64 (s))]) () [(1, _), (2, _), (5, _), (6, _)]
    | apply Dk.loop 6 (V := Unit) (fun (s : Int) v => []) (fun s v => [(8, .int .i64 (s))]) () [(1, _), (2, _), (5, _), (6, _)]
    | apply Dk.quiet (id := 4) (by kernel_rfl)
    | apply Dk.quiet (id := 14) (by kernel_rfl)
    | apply Dk.any (id := 5) 9 [] [] [[], [], [0, 1], [2, 0, 1], [], [4], [], [5, 4, 6], [7, 5, 4, 6]] (by kernel_rfl)
    | apply Dk.any (id := 15) 17 [] [] [[], [], [1], [2, 1], [], [3, 2, 1, 4], [5, 3, 2, 1, 4], [0, 6, 5, 3, 2, 1, 4], [7, 0, 6, 5, 3, 2, 1, 4], [], [9], [], [10, 9, 11], [12, 10, 9, 11], [], [13, 12, 10, 9, 11, 14], [15, 13, 12, 10, 9, 11, 14]] (by kernel_rfl)
    | apply c207
    | exact ()
theorem c81 {x0 : Int} {x1 : Int} {x2 : Int} : Ct Tryz.prog 81 true (impl_inRange x0 x1 x2) [.int .i64 (x0), .int .i64 (x1), .int .i64 (x2)] [] (fun y (_ : Unit) => [.bool y]) (fun y _ => []) := by
  refine ct (S := Unit) (owt fun _ _ => rfl) Tryz.func81 rfl rfl ?_
  repeat' first
    | intro _
    | exact rfl
    | (refine @id.{0} _ ?_; constructor)
    | exact ()
theorem c147 {x0 : (List Int)} {v_x0 : Value} {x1 : Int} : Ct Tryz.prog 147 true (impl_within x0 x1) [v_x0, .int .i64 (x1)] [.rd false (sImm (sInt .i64)) v_x0 x0] (fun y (_ : Unit) => [.bool y]) (fun y _ => []) := by
  refine ct (S := Unit) (owt fun _ _ => rfl) Tryz.func147 rfl rfl ?_
  repeat' first
    | intro _
    | exact rfl
    | (refine @id.{0} _ ?_; constructor)
    | apply Dk.loop 0 (V := Unit) (fun (s : Int) v => []) (fun s v => [(9, .int .i64 (s))]) () [(1, _), (7, _), (8, _)]
    | apply c81
    | exact ()
theorem c146 {x0 : (List Int)} {v_x0 : Value} : Ct Tryz.prog 146 true (impl_rising x0) [v_x0] [.rd false (sImm (sInt .i64)) v_x0 x0] (fun y (_ : Unit) => [.bool y]) (fun y _ => []) := by
  refine ct (S := Unit) (owt fun _ _ => rfl) Tryz.func146 rfl rfl ?_
  repeat' first
    | intro _
    | exact rfl
    | (refine @id.{0} _ ?_; constructor)
    | apply Dk.loop 0 (V := Unit) (fun (s : Int) v => []) (fun s v => [(3, .int .i64 (s))]) () [(0, _)]
    | apply Dk.quiet (id := 4) (by kernel_rfl)
    | exact ()
theorem c145 {x0 : (List Int)} {v_x0 : Value} {x1 : (List Int)} {v_x1 : Value} : Ct Tryz.prog 145 true (impl_compare x0 x1) [v_x0, v_x1] [.rd false (sImm (sInt .i64)) v_x0 x0, .rd false (sImm (sInt .i64)) v_x1 x1] (fun y (_ : Unit) => [.int .i64 y]) (fun y _ => []) := by
  refine ct (S := Unit) (owt fun _ _ => rfl) Tryz.func145 rfl rfl ?_
  repeat' first
    | intro _
    | exact rfl
    | (refine @id.{0} _ ?_; constructor)
    | apply Dk.loop 0 (V := Unit) (fun (s : Int) v => []) (fun s v => [(8, .int .i64 (s))]) () [(0, _), (1, _), (7, _)]
    | apply Dk.quiet (id := 6) (by kernel_rfl)
    | apply Dk.quiet (id := 7) (by kernel_rfl)
    | exact ()
theorem c154 {x0 : (List Int)} {v_x0 : Value} {x1 : (List Int)} {v_x1 : Value} : Ct Tryz.prog 154 true (impl_same x0 x1) [v_x0, v_x1] [.rd false (sImm (sInt .i64)) v_x0 x0, .rd false (sImm (sInt .i64)) v_x1 x1] (fun y (_ : Unit) => [.bool y]) (fun y _ => []) := by
  refine ct (S := Unit) (owt fun _ _ => rfl) Tryz.func154 rfl rfl ?_
  repeat' first
    | intro _
    | exact rfl
    | (refine @id.{0} _ ?_; constructor)
    | apply c145
    | exact ()
theorem c231 {x0 : (List Int)} {v_x0 : Value} {x1 : (List Int)} {v_x1 : Value} : Ct Tryz.prog 231 true (impl_Category_sieves_2 x0 x1) [v_x0, v_x1] [.rd false (sImm (sInt .i64)) v_x0 x0, .rd false (sImm (sInt .i64)) v_x1 x1] (fun y (_ : Unit) => [.int .i64 y]) (fun y _ => []) := by
  refine ct (S := Unit) (owt fun _ _ => rfl) Tryz.func231 rfl rfl ?_
  repeat' first
    | intro _
    | exact rfl
    | (refine @id.{0} _ ?_; constructor)
    | apply c145
    | exact ()
theorem c208 {x0 : Int} {x1 : Int} {x2 : Bool} {b_x2 : Nat} {x3 : MCoverage} {p_x3q : Addr} {p_x3 : Addr} {p_x3_Classifier : Addr} {v_x3_Classifier_Sets_Shape_From : Value} {v_x3_Classifier_Sets_Shape_To : Value} {v_x3_Classifier_Sets_Shape_Identity : Value} {v_x3_Classifier_Sets_Shape_Composites : Value} {v_x3_Classifier_Sets_Sizes : Value} {v_x3_Classifier_Sets_Actions : Value} {v_x3_Classifier_Sieves : Value} {p_x3_C : Addr} {v_x3_C_From : Value} {v_x3_C_To : Value} {v_x3_C_Identity : Value} {v_x3_C_Composites : Value} {v_x3_Covers : Value} {p_x3_Count : Addr} : Ct Tryz.prog 208 true (impl_coverage_isTopology_1 x0 x1 x2 x3) [.int .i64 (x0), .int .i64 (x1), .pointer (some (⟨b_x2, 0, none⟩)), .pointer (some (p_x3q))] [.ats p_x3q [.pointer (some (p_x3))], .ats p_x3 [.pointer (some (p_x3_Classifier)), .pointer (some (p_x3_C)), v_x3_Covers, .pointer (some (p_x3_Count))], .ats p_x3_Count [.int .i64 (x3.Count)], .ats p_x3_C [.int .i64 (x3.C.Objects), v_x3_C_From, v_x3_C_To, v_x3_C_Identity, v_x3_C_Composites], .ats p_x3_Classifier [.int .i64 (x3.Classifier.Sets.Shape.Objects), v_x3_Classifier_Sets_Shape_From, v_x3_Classifier_Sets_Shape_To, v_x3_Classifier_Sets_Shape_Identity, v_x3_Classifier_Sets_Shape_Composites, v_x3_Classifier_Sets_Sizes, v_x3_Classifier_Sets_Actions, v_x3_Classifier_Sieves], .row b_x2 [.bool (x2)] 4, .rd false (sImm (sInt .i64)) v_x3_Classifier_Sets_Shape_From x3.Classifier.Sets.Shape.From, .rd false (sImm (sInt .i64)) v_x3_Classifier_Sets_Shape_To x3.Classifier.Sets.Shape.To, .rd false (sImm (sInt .i64)) v_x3_Classifier_Sets_Shape_Identity x3.Classifier.Sets.Shape.Identity, .rd false (sImm (sImm (sInt .i64))) v_x3_Classifier_Sets_Shape_Composites x3.Classifier.Sets.Shape.Composites, .rd false (sImm (sInt .i64)) v_x3_Classifier_Sets_Sizes x3.Classifier.Sets.Sizes, .rd false (sImm (sImm (sInt .i64))) v_x3_Classifier_Sets_Actions x3.Classifier.Sets.Actions, .rd false (sImm (sImm (sImm (sInt .i64)))) v_x3_Classifier_Sieves x3.Classifier.Sieves, .rd false (sImm (sInt .i64)) v_x3_C_From x3.C.From, .rd false (sImm (sInt .i64)) v_x3_C_To x3.C.To, .rd false (sImm (sInt .i64)) v_x3_C_Identity x3.C.Identity, .rd false (sImm (sImm (sInt .i64))) v_x3_C_Composites x3.C.Composites, .rd false (sImm (sImm sBool)) v_x3_Covers x3.Covers] (fun y (_ : Unit) => []) (fun y _ => [.row b_x2 [.bool y] 4]) := by
  refine ctv (owt fun _ _ => rfl) Tryz.func208 rfl rfl ?_
  repeat' first
    | intro _
    | exact rfl
    | (refine @id.{0} _ ?_; constructor)
    | exact ()
theorem c23 {x0 : (List Int)} {v_x0 : Value} {x1 : (List Int)} {v_x1 : Value} : Ct Tryz.prog 23 true (laws_eqInt64S x0 x1) [v_x0, v_x1] [.rd false (sImm (sInt .i64)) v_x0 x0, .rd false (sImm (sInt .i64)) v_x1 x1] (fun y (_ : Unit) => [.bool y]) (fun y _ => []) := by
  refine ct (S := Unit) (owt fun _ _ => rfl) Tryz.func23 rfl rfl ?_
  repeat' first
    | intro _
    | exact rfl
    | (refine @id.{0} _ ?_; constructor)
    | apply Dk.loop 0 (V := Unit) (fun (s : Int) v => []) (fun s v => [(5, .int .i64 (s))]) () [(0, _), (1, _)]
    | apply Dk.quiet (id := 6) (by kernel_rfl)
    | exact ()
theorem c29 {x0 : (List (List Int))} {v_x0 : Value} {x1 : (List (List Int))} {v_x1 : Value} : Ct Tryz.prog 29 true (laws_eqInt64SS x0 x1) [v_x0, v_x1] [.rd false (sImm (sImm (sInt .i64))) v_x0 x0, .rd false (sImm (sImm (sInt .i64))) v_x1 x1] (fun y (_ : Unit) => [.bool y]) (fun y _ => []) := by
  refine ct (S := Unit) (owt fun _ _ => rfl) Tryz.func29 rfl rfl ?_
  repeat' first
    | intro _
    | exact rfl
    | (refine @id.{0} _ ?_; constructor)
    | apply Dk.loop 0 (V := Unit) (fun (s : Int) v => []) (fun s v => [(5, .int .i64 (s))]) () [(0, _), (1, _)]
    | apply Dk.quiet (id := 6) (by kernel_rfl)
    | apply c23
    | exact ()
end Go.Proofs.YtcmckiiafgcmjaaGreat
