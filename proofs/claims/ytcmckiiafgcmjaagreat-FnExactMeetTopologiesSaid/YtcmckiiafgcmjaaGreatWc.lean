/- Walks by the calculus D. No condition beside those that each theorem names. -/
import Derived.Test.YtcmckiiafgcmjaaGreatDi
import Derived.Test.YtcmckiiafgcmjaaGreatMo
import Derived.Test.YtcmckiiafgcmjaaGreatSo
namespace Go.Proofs.YtcmckiiafgcmjaaGreat
open Go Go.Li Go.Dk
set_option linter.unusedVariables false
set_option maxHeartbeats 1000000
set_option maxRecDepth 100000
theorem c98 {x0 : (List Int)} {v_x0 : Value} {x1 : Int} : Ct Tryz.prog 98 true (laws_szInt64S x0 x1) [v_x0, .int .i64 (x1)] [.rd false (sImm (sInt .i64)) v_x0 x0] (fun y (_ : Unit) => [.int .i64 y]) (fun y _ => []) := by
  refine ct (S := Unit) (owt fun _ _ => rfl) Tryz.func98 rfl rfl ?_
  repeat' first
    | intro _
    | exact rfl
    | (refine @id.{0} _ ?_; constructor)
    | exact ()
theorem c99 {x0 : (List (List Int))} {v_x0 : Value} {x1 : Int} : Ct Tryz.prog 99 true (laws_szInt64SS x0 x1) [v_x0, .int .i64 (x1)] [.rd false (sImm (sImm (sInt .i64))) v_x0 x0] (fun y (_ : Unit) => [.int .i64 y]) (fun y _ => []) := by
  refine ct (S := Unit) (owt fun _ _ => rfl) Tryz.func99 rfl rfl ?_
  repeat' first
    | intro _
    | exact rfl
    | (refine @id.{0} _ ?_; constructor)
    | apply Dk.loop 0 (V := Unit) (fun (s : Int × Int) v => []) (fun s v => [(1, .int .i64 (s.1)), (5, .int .i64 (s.2))]) () [(0, _)]
    | apply c98
    | exact ()
theorem c143 {x0 : MCategory} {v_x0_From : Value} {v_x0_To : Value} {v_x0_Identity : Value} {v_x0_Composites : Value} {x1 : Int} : Ct Tryz.prog 143 true (spec_l25Out x0 x1) [.agg #[.int .i64 (x0.Objects), v_x0_From, v_x0_To, v_x0_Identity, v_x0_Composites], .int .i64 (x1)] [.rd false (sImm (sInt .i64)) v_x0_From x0.From, .rd false (sImm (sInt .i64)) v_x0_To x0.To, .rd false (sImm (sInt .i64)) v_x0_Identity x0.Identity, .rd false (sImm (sImm (sInt .i64))) v_x0_Composites x0.Composites] (fun y (v : Value) => [v]) (fun y v => [.own (sOwn 2 (sInt .i64)) v y]) := by
  refine ct (S := Unit) (owt fun _ _ => rfl) Tryz.func143 rfl rfl ?_
  repeat' first
    | intro _
    | exact rfl
    | (refine @id.{0} _ ?_; constructor)
    | apply Dk.loop 0 (V := Value) (fun (s : (List Int) × Int) v => [.own (sOwn 2 (sInt .i64)) v s.1]) (fun s v => [(5, v), (6, .int .i64 (s.2))]) _ [(1, _), (2, _)]
    | exact ()
theorem c88 {x0 : (List Int)} {v_x0 : Value} {x1 : (List Int)} {v_x1 : Value} : Ct Tryz.prog 88 true (spec_l01Same x0 x1) [v_x0, v_x1] [.rd false (sImm (sInt .i64)) v_x0 x0, .rd false (sImm (sInt .i64)) v_x1 x1] (fun y (_ : Unit) => [.bool y]) (fun y _ => []) := by
  refine ct (S := Unit) (owt fun _ _ => rfl) Tryz.func88 rfl rfl ?_
  repeat' first
    | intro _
    | exact rfl
    | (refine @id.{0} _ ?_; constructor)
    | apply Dk.loop 0 (V := Unit) (fun (s : Int) v => []) (fun s v => [(5, .int .i64 (s))]) () [(0, _), (1, _)]
    | apply Dk.quiet (id := 6) (by kernel_rfl)
    | exact ()
theorem c172 {x0 : (List (List Int))} {v_x0 : Value} {x1 : (List Int)} {v_x1 : Value} : Ct Tryz.prog 172 true (spec_l05Place x0 x1) [v_x0, v_x1] [.rd false (sImm (sImm (sInt .i64))) v_x0 x0, .rd false (sImm (sInt .i64)) v_x1 x1] (fun y (_ : Unit) => [.int .i64 y]) (fun y _ => []) := by
  refine ct (S := Unit) (owt fun _ _ => rfl) Tryz.func172 rfl rfl ?_
  repeat' first
    | intro _
    | exact rfl
    | (refine @id.{0} _ ?_; constructor)
    | apply Dk.loop 0 (V := Unit) (fun (s : Int) v => []) (fun s v => [(5, .int .i64 (s))]) () [(0, _), (1, _)]
    | apply c88
    | exact ()
theorem c111 {x0 : (List (List Int))} {v_x0 : Value} {x1 : (List Int)} {v_x1 : Value} : Ct Tryz.prog 111 true (spec_l09Find x0 x1) [v_x0, v_x1] [.rd false (sImm (sImm (sInt .i64))) v_x0 x0, .rd false (sImm (sInt .i64)) v_x1 x1] (fun y (_ : Unit) => [.int .i64 y]) (fun y _ => []) := by
  refine ct (S := Unit) (owt fun _ _ => rfl) Tryz.func111 rfl rfl ?_
  repeat' first
    | intro _
    | exact rfl
    | (refine @id.{0} _ ?_; constructor)
    | apply Dk.loop 0 (V := Unit) (fun (s : Int) v => []) (fun s v => [(5, .int .i64 (s))]) () [(0, _), (1, _)]
    | apply c88
    | exact ()
theorem c212 {x0 : MCategory} {p_x0 : Addr} {v_x0_From : Value} {v_x0_To : Value} {v_x0_Identity : Value} {v_x0_Composites : Value} {x1 : Int} : Ct Tryz.prog 212 true (impl_Category_ends x0 x1) [.pointer (some (p_x0)), .int .i64 (x1)] [.ats p_x0 [.int .i64 (x0.Objects), v_x0_From, v_x0_To, v_x0_Identity, v_x0_Composites], .rd false (sImm (sInt .i64)) v_x0_From x0.From, .rd false (sImm (sInt .i64)) v_x0_To x0.To, .rd false (sImm (sInt .i64)) v_x0_Identity x0.Identity, .rd false (sImm (sImm (sInt .i64))) v_x0_Composites x0.Composites] (fun y (_ : Unit) => [.agg #[.int .i64 y.From, .int .i64 y.To]]) (fun y _ => []) := by
  refine ct (S := Unit) (owt fun _ _ => rfl) Tryz.func212 rfl rfl ?_
  repeat' first
    | intro _
    | exact rfl
    | (refine @id.{0} _ ?_; constructor)
    | apply Dk.any (id := 1) 14 [] [] [[], [0], [1, 0], [2, 1, 0], [], [3, 2, 1, 0, 4], [5, 3, 2, 1, 0, 4], [], [7], [8, 7], [9, 8, 7], [], [10, 9, 8, 7, 11], [12, 10, 9, 8, 7, 11]] (by kernel_rfl)
    | exact ()
theorem c192 {x0 : Int} {b_x0 : Nat} {x1 : Int} : Ct Tryz.prog 192 true (sync_atomic_Int64_Add x0 x1) [.pointer (some (⟨b_x0, 0, none⟩)), .int .i64 (x1)] [.row b_x0 [.int .i64 (x0)] 197] (fun y (_ : Unit) => [.int .i64 y.1]) (fun y _ => [.row b_x0 [.int .i64 y.2] 197]) := by
  refine ct (S := Unit) (owt fun _ _ => rfl) Tryz.func192 rfl rfl ?_
  repeat' first
    | intro _
    | exact rfl
    | (refine @id.{0} _ ?_; constructor)
    | exact ()
theorem c124 {x0 : MCoverage} {p_x0 : Addr} {p_x0_Classifier : Addr} {v_x0_Classifier_Sets_Shape_From : Value} {v_x0_Classifier_Sets_Shape_To : Value} {v_x0_Classifier_Sets_Shape_Identity : Value} {v_x0_Classifier_Sets_Shape_Composites : Value} {v_x0_Classifier_Sets_Sizes : Value} {v_x0_Classifier_Sets_Actions : Value} {v_x0_Classifier_Sieves : Value} {p_x0_C : Addr} {v_x0_C_From : Value} {v_x0_C_To : Value} {v_x0_C_Identity : Value} {v_x0_C_Composites : Value} {v_x0_Covers : Value} {b_x0_Count : Nat} {x1 : Int} {x2 : Int} : Ct Tryz.prog 124 true (impl_coverage_mark x0 x1 x2) [.pointer (some (p_x0)), .int .i64 (x1), .int .i64 (x2)] [.ats p_x0 [.pointer (some (p_x0_Classifier)), .pointer (some (p_x0_C)), v_x0_Covers, .pointer (some (⟨b_x0_Count, 0, none⟩))], .row b_x0_Count [.int .i64 (x0.Count)] 197, .ats p_x0_C [.int .i64 (x0.C.Objects), v_x0_C_From, v_x0_C_To, v_x0_C_Identity, v_x0_C_Composites], .ats p_x0_Classifier [.int .i64 (x0.Classifier.Sets.Shape.Objects), v_x0_Classifier_Sets_Shape_From, v_x0_Classifier_Sets_Shape_To, v_x0_Classifier_Sets_Shape_Identity, v_x0_Classifier_Sets_Shape_Composites, v_x0_Classifier_Sets_Sizes, v_x0_Classifier_Sets_Actions, v_x0_Classifier_Sieves], .rd false (sImm (sInt .i64)) v_x0_Classifier_Sets_Shape_From x0.Classifier.Sets.Shape.From, .rd false (sImm (sInt .i64)) v_x0_Classifier_Sets_Shape_To x0.Classifier.Sets.Shape.To, .rd false (sImm (sInt .i64)) v_x0_Classifier_Sets_Shape_Identity x0.Classifier.Sets.Shape.Identity, .rd false (sImm (sImm (sInt .i64))) v_x0_Classifier_Sets_Shape_Composites x0.Classifier.Sets.Shape.Composites, .rd false (sImm (sInt .i64)) v_x0_Classifier_Sets_Sizes x0.Classifier.Sets.Sizes, .rd false (sImm (sImm (sInt .i64))) v_x0_Classifier_Sets_Actions x0.Classifier.Sets.Actions, .rd false (sImm (sImm (sImm (sInt .i64)))) v_x0_Classifier_Sieves x0.Classifier.Sieves, .rd false (sImm (sInt .i64)) v_x0_C_From x0.C.From, .rd false (sImm (sInt .i64)) v_x0_C_To x0.C.To, .rd false (sImm (sInt .i64)) v_x0_C_Identity x0.C.Identity, .rd false (sImm (sImm (sInt .i64))) v_x0_C_Composites x0.C.Composites, .own (sOwn 138 (sOwn 4 sBool)) v_x0_Covers x0.Covers] (fun y (_ : Unit) => []) (fun y _ => [.own (sOwn 138 (sOwn 4 sBool)) v_x0_Covers y.1, .row b_x0_Count [.int .i64 y.2] 197]) := by
  refine ctv (owt fun _ _ => rfl) Tryz.func124 rfl rfl ?_
  repeat' first
    | intro _
    | exact rfl
    | (refine @id.{0} _ ?_; constructor)
    | apply c192
    | exact ()
theorem c25 {x0 : (List Int)} {v_x0 : Value} {x1 : Int} : Ct Tryz.prog 25 true (laws_markInt64S x0 x1) [v_x0, .int .i64 (x1)] [.own (sOwn 2 (sInt .i64)) v_x0 x0] (fun y (_ : Unit) => [.int .i64 y.1]) (fun y _ => [.own (sOwn 2 (sInt .i64)) v_x0 y.2]) := by
  refine ct (S := Unit) (owt fun _ _ => rfl) Tryz.func25 rfl rfl ?_
  repeat' first
    | intro _
    | exact rfl
    | (refine @id.{0} _ ?_; constructor)
    | apply Dk.loop 0 (V := Unit) (fun (s : Int × Int × (List Int)) v => [.own (sOwn 2 (sInt .i64)) v_x0 s.2.2]) (fun s v => [(1, .int .i64 (s.1)), (5, .int .i64 (s.2.1))]) () [(0, _)]
    | exact ()
theorem c30 {x0 : (List (List Int))} {v_x0 : Value} {x1 : Int} : Ct Tryz.prog 30 true (laws_markInt64SS x0 x1) [v_x0, .int .i64 (x1)] [.own (sOwn 22 (sOwn 2 (sInt .i64))) v_x0 x0] (fun y (_ : Unit) => [.int .i64 y.1]) (fun y _ => [.own (sOwn 22 (sOwn 2 (sInt .i64))) v_x0 y.2]) := by
  refine ct (S := Unit) (owt fun _ _ => rfl) Tryz.func30 rfl rfl ?_
  repeat' first
    | intro _
    | exact rfl
    | (refine @id.{0} _ ?_; constructor)
    | apply Dk.loop 0 (V := Unit) (fun (s : Int × Int × (List (List Int))) v => [.own (sOwn 22 (sOwn 2 (sInt .i64))) v_x0 s.2.2]) (fun s v => [(1, .int .i64 (s.1)), (5, .int .i64 (s.2.1))]) () [(0, _)]
    | apply c25
    | exact ()
theorem c26 {x0 : (List Int)} {v_x0 : Value} {x1 : Int} : Ct Tryz.prog 26 true (laws_heldInt64S x0 x1) [v_x0, .int .i64 (x1)] [.rd false (sImm (sInt .i64)) v_x0 x0] (fun y (_ : Unit) => [.int .i64 y]) (fun y _ => []) := by
  refine ct (S := Unit) (owt fun _ _ => rfl) Tryz.func26 rfl rfl ?_
  repeat' first
    | intro _
    | exact rfl
    | (refine @id.{0} _ ?_; constructor)
    | apply Dk.loop 0 (V := Unit) (fun (s : Int × Int) v => []) (fun s v => [(1, .int .i64 (s.1)), (5, .int .i64 (s.2))]) () [(0, _)]
    | exact ()
theorem c31 {x0 : (List (List Int))} {v_x0 : Value} {x1 : Int} : Ct Tryz.prog 31 true (laws_heldInt64SS x0 x1) [v_x0, .int .i64 (x1)] [.rd false (sImm (sImm (sInt .i64))) v_x0 x0] (fun y (_ : Unit) => [.int .i64 y]) (fun y _ => []) := by
  refine ct (S := Unit) (owt fun _ _ => rfl) Tryz.func31 rfl rfl ?_
  repeat' first
    | intro _
    | exact rfl
    | (refine @id.{0} _ ?_; constructor)
    | apply Dk.loop 0 (V := Unit) (fun (s : Int × Int) v => []) (fun s v => [(1, .int .i64 (s.1)), (5, .int .i64 (s.2))]) () [(0, _)]
    | apply c26
    | exact ()
theorem c184 {x0 : (List (List Int))} {v_x0 : Value} {x1 : (List (List Int))} {v_x1 : Value} : Ct Tryz.prog 184 true (spec_l01Same2 x0 x1) [v_x0, v_x1] [.rd false (sImm (sImm (sInt .i64))) v_x0 x0, .rd false (sImm (sImm (sInt .i64))) v_x1 x1] (fun y (_ : Unit) => [.bool y]) (fun y _ => []) := by
  refine ct (S := Unit) (owt fun _ _ => rfl) Tryz.func184 rfl rfl ?_
  repeat' first
    | intro _
    | exact rfl
    | (refine @id.{0} _ ?_; constructor)
    | apply Dk.loop 0 (V := Unit) (fun (s : Int) v => []) (fun s v => [(5, .int .i64 (s))]) () [(0, _), (1, _)]
    | apply Dk.quiet (id := 6) (by kernel_rfl)
    | apply c88
    | exact ()
end Go.Proofs.YtcmckiiafgcmjaaGreat
