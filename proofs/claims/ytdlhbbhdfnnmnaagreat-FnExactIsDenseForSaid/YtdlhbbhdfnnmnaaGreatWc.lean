/- Walks by the calculus D. No condition beside those that each theorem names. -/
import Derived.Test.YtdlhbbhdfnnmnaaGreatDi
import Derived.Test.YtdlhbbhdfnnmnaaGreatMo
import Derived.Test.YtdlhbbhdfnnmnaaGreatDs
import Derived.Test.YtdlhbbhdfnnmnaaGreatSo
namespace Go.Proofs.YtdlhbbhdfnnmnaaGreat
open Go Go.Li Go.Dk
set_option linter.unusedVariables false
set_option maxHeartbeats 1000000
set_option maxRecDepth 100000
theorem c317 {x0 : Int} {x1 : Int} {x2 : Int} : Ct Tryz.prog 317 true (spec_l01In x0 x1 x2) [.int .i64 (x0), .int .i64 (x1), .int .i64 (x2)] [] (fun y (_ : Unit) => [.bool y]) (fun y _ => []) := by
  refine ct (S := Unit) (owt fun _ _ => rfl) Tryz.func317 rfl rfl ?_
  repeat' first
    | intro _
    | exact rfl
    | (refine @id.{0} _ ?_; constructor)
    | exact ()
theorem c126 {x0 : (List Int)} {v_x0 : Value} {x1 : (List Int)} {v_x1 : Value} : Ct Tryz.prog 126 true (spec_l01Same x0 x1) [v_x0, v_x1] [.rd false (sImm (sInt .i64)) v_x0 x0, .rd false (sImm (sInt .i64)) v_x1 x1] (fun y (_ : Unit) => [.bool y]) (fun y _ => []) := by
  refine ct (S := Unit) (owt fun _ _ => rfl) Tryz.func126 rfl rfl ?_
  repeat' first
    | intro _
    | exact rfl
    | (refine @id.{0} _ ?_; constructor)
    | apply Dk.loop 0 (V := Unit) (fun (s : Int) v => []) (fun s v => [(5, .int .i64 (s))]) () [(0, _), (1, _)]
    | apply Dk.quiet (id := 6) (by kernel_rfl)
    | exact ()
theorem c102 {x0 : (List (List Int))} {v_x0 : Value} {x1 : (List Int)} {v_x1 : Value} : Ct Tryz.prog 102 true (spec_l05Place x0 x1) [v_x0, v_x1] [.rd false (sImm (sImm (sInt .i64))) v_x0 x0, .rd false (sImm (sInt .i64)) v_x1 x1] (fun y (_ : Unit) => [.int .i64 y]) (fun y _ => []) := by
  refine ct (S := Unit) (owt fun _ _ => rfl) Tryz.func102 rfl rfl ?_
  repeat' first
    | intro _
    | exact rfl
    | (refine @id.{0} _ ?_; constructor)
    | apply Dk.loop 0 (V := Unit) (fun (s : Int) v => []) (fun s v => [(5, .int .i64 (s))]) () [(0, _), (1, _)]
    | apply c126
    | exact ()
theorem c128 {x0 : (List Int)} {v_x0 : Value} : Ct Tryz.prog 128 true (spec_l01Own x0) [v_x0] [.rd false (sImm (sInt .i64)) v_x0 x0] (fun y (v : Value) => [v]) (fun y v => [.own (sOwn 2 (sInt .i64)) v y]) := by
  refine ct (S := Unit) (owt fun _ _ => rfl) Tryz.func128 rfl rfl ?_
  repeat' first
    | intro _
    | exact rfl
    | (refine @id.{0} _ ?_; constructor)
    | exact ()
theorem c203 {x0 : (List (List Int))} {v_x0 : Value} : Ct Tryz.prog 203 true (spec_l01Own2 x0) [v_x0] [.rd false (sImm (sImm (sInt .i64))) v_x0 x0] (fun y (v : Value) => [v]) (fun y v => [.own (sOwn 22 (sOwn 2 (sInt .i64))) v y]) := by
  refine ct (S := Unit) (owt fun _ _ => rfl) Tryz.func203 rfl rfl ?_
  repeat' first
    | intro _
    | exact rfl
    | (refine @id.{0} _ ?_; constructor)
    | apply Dk.loop 0 (V := Value) (fun (s : (List (List Int)) × Int) v => [.own (sOwn 22 (sOwn 2 (sInt .i64))) v s.1]) (fun s v => [(3, v), (4, .int .i64 (s.2))]) _ [(0, _)]
    | apply c128
    | exact ()
theorem c287 {x0 : MSetFunctor} {p_x0 : Addr} {v_x0_Shape_From : Value} {v_x0_Shape_To : Value} {v_x0_Shape_Identity : Value} {v_x0_Shape_Composites : Value} {v_x0_Sizes : Value} {v_x0_Actions : Value} : Ct Tryz.prog 287 true (impl_SetFunctor_fault x0) [.pointer (some (p_x0))] [.ats p_x0 [.int .i64 (x0.Shape.Objects), v_x0_Shape_From, v_x0_Shape_To, v_x0_Shape_Identity, v_x0_Shape_Composites, v_x0_Sizes, v_x0_Actions], .rd false (sImm (sInt .i64)) v_x0_Shape_From x0.Shape.From, .rd false (sImm (sInt .i64)) v_x0_Shape_To x0.Shape.To, .rd false (sImm (sInt .i64)) v_x0_Shape_Identity x0.Shape.Identity, .rd false (sImm (sImm (sInt .i64))) v_x0_Shape_Composites x0.Shape.Composites, .rd false (sImm (sInt .i64)) v_x0_Sizes x0.Sizes, .rd false (sImm (sImm (sInt .i64))) v_x0_Actions x0.Actions] (fun y (_ : Unit) => [.int .i64 y.1, .int .i64 y.2.1, .int .i64 y.2.2.1, .int .i64 y.2.2.2]) (fun y _ => []) := by
  refine ct (S := Unit) (owt fun _ _ => rfl) Tryz.func287 rfl rfl ?_
  repeat' first
    | intro _
    | exact rfl
    | (refine @id.{0} _ ?_; constructor)
    | apply Dk.loop 0 (V := Unit) (fun (s : Int) v => []) (fun s v => [(25, .int .i64 (s))]) () [(0, _), (6, _), (23, _), (24, _)]
    | apply Dk.loop 2 (V := Unit) (fun (s : Int) v => []) (fun s v => [(38, .int .i64 (s))]) () [(0, _), (6, _), (7, _), (23, _), (24, _), (25, _), (36, _), (37, _)]
    | apply Dk.loop 4 (V := Unit) (fun (s : Int) v => []) (fun s v => [(55, .int .i64 (s))]) () [(0, _), (53, _), (54, _)]
    | apply Dk.loop 6 (V := Unit) (fun (s : Int) v => []) (fun s v => [(62, .int .i64 (s))]) () [(0, _), (11, _), (53, _), (54, _), (55, _), (60, _), (61, _)]
    | apply Dk.loop 8 (V := Unit) (fun (s : Int) v => []) (fun s v => [(77, .int .i64 (s))]) () [(0, _), (11, _), (13, _), (14, _), (53, _), (54, _), (55, _), (60, _), (61, _), (62, _), (75, _), (76, _)]
    | apply Dk.quiet (id := 22) (by kernel_rfl)
    | exact ()
theorem c91 {x0 : (List Int)} {v_x0 : Value} {x1 : (List Int)} {v_x1 : Value} : Ct Tryz.prog 91 true (laws_eqInt64S x0 x1) [v_x0, v_x1] [.rd false (sImm (sInt .i64)) v_x0 x0, .rd false (sImm (sInt .i64)) v_x1 x1] (fun y (_ : Unit) => [.bool y]) (fun y _ => []) := by
  refine ct (S := Unit) (owt fun _ _ => rfl) Tryz.func91 rfl rfl ?_
  repeat' first
    | intro _
    | exact rfl
    | (refine @id.{0} _ ?_; constructor)
    | apply Dk.loop 0 (V := Unit) (fun (s : Int) v => []) (fun s v => [(5, .int .i64 (s))]) () [(0, _), (1, _)]
    | apply Dk.quiet (id := 6) (by kernel_rfl)
    | exact ()
theorem c20 {x0 : (List (List Int))} {v_x0 : Value} {x1 : (List (List Int))} {v_x1 : Value} : Ct Tryz.prog 20 true (laws_eqInt64SS x0 x1) [v_x0, v_x1] [.rd false (sImm (sImm (sInt .i64))) v_x0 x0, .rd false (sImm (sImm (sInt .i64))) v_x1 x1] (fun y (_ : Unit) => [.bool y]) (fun y _ => []) := by
  refine ct (S := Unit) (owt fun _ _ => rfl) Tryz.func20 rfl rfl ?_
  repeat' first
    | intro _
    | exact rfl
    | (refine @id.{0} _ ?_; constructor)
    | apply Dk.loop 0 (V := Unit) (fun (s : Int) v => []) (fun s v => [(5, .int .i64 (s))]) () [(0, _), (1, _)]
    | apply Dk.quiet (id := 6) (by kernel_rfl)
    | apply c91
    | exact ()
theorem c219 {x0 : (List (List Int))} {v_x0 : Value} {x1 : (List (List Int))} {v_x1 : Value} : Ct Tryz.prog 219 true (spec_l01Same2 x0 x1) [v_x0, v_x1] [.rd false (sImm (sImm (sInt .i64))) v_x0 x0, .rd false (sImm (sImm (sInt .i64))) v_x1 x1] (fun y (_ : Unit) => [.bool y]) (fun y _ => []) := by
  refine ct (S := Unit) (owt fun _ _ => rfl) Tryz.func219 rfl rfl ?_
  repeat' first
    | intro _
    | exact rfl
    | (refine @id.{0} _ ?_; constructor)
    | apply Dk.loop 0 (V := Unit) (fun (s : Int) v => []) (fun s v => [(5, .int .i64 (s))]) () [(0, _), (1, _)]
    | apply Dk.quiet (id := 6) (by kernel_rfl)
    | apply c126
    | exact ()
theorem c138 {x0 : (List (List Int))} {v_x0 : Value} {x1 : (List Int)} {v_x1 : Value} : Ct Tryz.prog 138 true (spec_l09Find x0 x1) [v_x0, v_x1] [.rd false (sImm (sImm (sInt .i64))) v_x0 x0, .rd false (sImm (sInt .i64)) v_x1 x1] (fun y (_ : Unit) => [.int .i64 y]) (fun y _ => []) := by
  refine ct (S := Unit) (owt fun _ _ => rfl) Tryz.func138 rfl rfl ?_
  repeat' first
    | intro _
    | exact rfl
    | (refine @id.{0} _ ?_; constructor)
    | apply Dk.loop 0 (V := Unit) (fun (s : Int) v => []) (fun s v => [(5, .int .i64 (s))]) () [(0, _), (1, _)]
    | apply c126
    | exact ()
theorem c255 {x0 : Int} {b_x0 : Nat} {x1 : Int} : Ct Tryz.prog 255 true (sync_atomic_Int64_Add x0 x1) [.pointer (some (⟨b_x0, 0, none⟩)), .int .i64 (x1)] [.row b_x0 [.int .i64 (x0)] 297] (fun y (_ : Unit) => [.int .i64 y.1]) (fun y _ => [.row b_x0 [.int .i64 y.2] 297]) := by
  refine ct (S := Unit) (owt fun _ _ => rfl) Tryz.func255 rfl rfl ?_
  repeat' first
    | intro _
    | exact rfl
    | (refine @id.{0} _ ?_; constructor)
    | exact ()
theorem c157 {x0 : MCoverage} {p_x0 : Addr} {p_x0_Classifier : Addr} {v_x0_Classifier_Sets_Shape_From : Value} {v_x0_Classifier_Sets_Shape_To : Value} {v_x0_Classifier_Sets_Shape_Identity : Value} {v_x0_Classifier_Sets_Shape_Composites : Value} {v_x0_Classifier_Sets_Sizes : Value} {v_x0_Classifier_Sets_Actions : Value} {v_x0_Classifier_Sieves : Value} {p_x0_C : Addr} {v_x0_C_From : Value} {v_x0_C_To : Value} {v_x0_C_Identity : Value} {v_x0_C_Composites : Value} {v_x0_Covers : Value} {b_x0_Count : Nat} {x1 : Int} {x2 : Int} : Ct Tryz.prog 157 true (impl_coverage_mark x0 x1 x2) [.pointer (some (p_x0)), .int .i64 (x1), .int .i64 (x2)] [.ats p_x0 [.pointer (some (p_x0_Classifier)), .pointer (some (p_x0_C)), v_x0_Covers, .pointer (some (⟨b_x0_Count, 0, none⟩))], .row b_x0_Count [.int .i64 (x0.Count)] 297, .ats p_x0_C [.int .i64 (x0.C.Objects), v_x0_C_From, v_x0_C_To, v_x0_C_Identity, v_x0_C_Composites], .ats p_x0_Classifier [.int .i64 (x0.Classifier.Sets.Shape.Objects), v_x0_Classifier_Sets_Shape_From, v_x0_Classifier_Sets_Shape_To, v_x0_Classifier_Sets_Shape_Identity, v_x0_Classifier_Sets_Shape_Composites, v_x0_Classifier_Sets_Sizes, v_x0_Classifier_Sets_Actions, v_x0_Classifier_Sieves], .rd false (sImm (sInt .i64)) v_x0_Classifier_Sets_Shape_From x0.Classifier.Sets.Shape.From, .rd false (sImm (sInt .i64)) v_x0_Classifier_Sets_Shape_To x0.Classifier.Sets.Shape.To, .rd false (sImm (sInt .i64)) v_x0_Classifier_Sets_Shape_Identity x0.Classifier.Sets.Shape.Identity, .rd false (sImm (sImm (sInt .i64))) v_x0_Classifier_Sets_Shape_Composites x0.Classifier.Sets.Shape.Composites, .rd false (sImm (sInt .i64)) v_x0_Classifier_Sets_Sizes x0.Classifier.Sets.Sizes, .rd false (sImm (sImm (sInt .i64))) v_x0_Classifier_Sets_Actions x0.Classifier.Sets.Actions, .rd false (sImm (sImm (sImm (sInt .i64)))) v_x0_Classifier_Sieves x0.Classifier.Sieves, .rd false (sImm (sInt .i64)) v_x0_C_From x0.C.From, .rd false (sImm (sInt .i64)) v_x0_C_To x0.C.To, .rd false (sImm (sInt .i64)) v_x0_C_Identity x0.C.Identity, .rd false (sImm (sImm (sInt .i64))) v_x0_C_Composites x0.C.Composites, .own (sOwn 213 (sOwn 4 sBool)) v_x0_Covers x0.Covers] (fun y (_ : Unit) => []) (fun y _ => [.own (sOwn 213 (sOwn 4 sBool)) v_x0_Covers y.1, .row b_x0_Count [.int .i64 y.2] 297]) := by
  refine ctv (owt fun _ _ => rfl) Tryz.func157 rfl rfl ?_
  repeat' first
    | intro _
    | exact rfl
    | (refine @id.{0} _ ?_; constructor)
    | apply c255
    | exact ()
theorem c309 {x0 : Int} {x1 : Int} {x2 : Bool} {b_x2 : Nat} {x3 : MCoverage} {p_x3q : Addr} {p_x3 : Addr} {p_x3_Classifier : Addr} {v_x3_Classifier_Sets_Shape_From : Value} {v_x3_Classifier_Sets_Shape_To : Value} {v_x3_Classifier_Sets_Shape_Identity : Value} {v_x3_Classifier_Sets_Shape_Composites : Value} {v_x3_Classifier_Sets_Sizes : Value} {v_x3_Classifier_Sets_Actions : Value} {v_x3_Classifier_Sieves : Value} {p_x3_C : Addr} {v_x3_C_From : Value} {v_x3_C_To : Value} {v_x3_C_Identity : Value} {v_x3_C_Composites : Value} {v_x3_Covers : Value} {p_x3_Count : Addr} : Ct Tryz.prog 309 true (impl_coverage_isTopology_1 x0 x1 x2 x3) [.int .i64 (x0), .int .i64 (x1), .pointer (some (⟨b_x2, 0, none⟩)), .pointer (some (p_x3q))] [.ats p_x3q [.pointer (some (p_x3))], .ats p_x3 [.pointer (some (p_x3_Classifier)), .pointer (some (p_x3_C)), v_x3_Covers, .pointer (some (p_x3_Count))], .ats p_x3_Count [.int .i64 (x3.Count)], .ats p_x3_C [.int .i64 (x3.C.Objects), v_x3_C_From, v_x3_C_To, v_x3_C_Identity, v_x3_C_Composites], .ats p_x3_Classifier [.int .i64 (x3.Classifier.Sets.Shape.Objects), v_x3_Classifier_Sets_Shape_From, v_x3_Classifier_Sets_Shape_To, v_x3_Classifier_Sets_Shape_Identity, v_x3_Classifier_Sets_Shape_Composites, v_x3_Classifier_Sets_Sizes, v_x3_Classifier_Sets_Actions, v_x3_Classifier_Sieves], .row b_x2 [.bool (x2)] 4, .rd false (sImm (sInt .i64)) v_x3_Classifier_Sets_Shape_From x3.Classifier.Sets.Shape.From, .rd false (sImm (sInt .i64)) v_x3_Classifier_Sets_Shape_To x3.Classifier.Sets.Shape.To, .rd false (sImm (sInt .i64)) v_x3_Classifier_Sets_Shape_Identity x3.Classifier.Sets.Shape.Identity, .rd false (sImm (sImm (sInt .i64))) v_x3_Classifier_Sets_Shape_Composites x3.Classifier.Sets.Shape.Composites, .rd false (sImm (sInt .i64)) v_x3_Classifier_Sets_Sizes x3.Classifier.Sets.Sizes, .rd false (sImm (sImm (sInt .i64))) v_x3_Classifier_Sets_Actions x3.Classifier.Sets.Actions, .rd false (sImm (sImm (sImm (sInt .i64)))) v_x3_Classifier_Sieves x3.Classifier.Sieves, .rd false (sImm (sInt .i64)) v_x3_C_From x3.C.From, .rd false (sImm (sInt .i64)) v_x3_C_To x3.C.To, .rd false (sImm (sInt .i64)) v_x3_C_Identity x3.C.Identity, .rd false (sImm (sImm (sInt .i64))) v_x3_C_Composites x3.C.Composites, .rd false (sImm (sImm sBool)) v_x3_Covers x3.Covers] (fun y (_ : Unit) => []) (fun y _ => [.row b_x2 [.bool y] 4]) := by
  refine ctv (owt fun _ _ => rfl) Tryz.func309 rfl rfl ?_
  repeat' first
    | intro _
    | exact rfl
    | (refine @id.{0} _ ?_; constructor)
    | exact ()
theorem c164 {x0 : MSetFunctor} {v_x0_Shape_From : Value} {v_x0_Shape_To : Value} {v_x0_Shape_Identity : Value} {v_x0_Shape_Composites : Value} {v_x0_Sizes : Value} {v_x0_Actions : Value} {x1 : (List (List Int))} {v_x1 : Value} : Ct Tryz.prog 164 true (spec_l26Full x0 x1) [.agg #[.int .i64 (x0.Shape.Objects), v_x0_Shape_From, v_x0_Shape_To, v_x0_Shape_Identity, v_x0_Shape_Composites, v_x0_Sizes, v_x0_Actions], v_x1] [.rd false (sImm (sInt .i64)) v_x0_Shape_From x0.Shape.From, .rd false (sImm (sInt .i64)) v_x0_Shape_To x0.Shape.To, .rd false (sImm (sInt .i64)) v_x0_Shape_Identity x0.Shape.Identity, .rd false (sImm (sImm (sInt .i64))) v_x0_Shape_Composites x0.Shape.Composites, .rd false (sImm (sInt .i64)) v_x0_Sizes x0.Sizes, .rd false (sImm (sImm (sInt .i64))) v_x0_Actions x0.Actions, .rd false (sImm (sImm (sInt .i64))) v_x1 x1] (fun y (_ : Unit) => [.bool y]) (fun y _ => []) := by
  refine ct (S := Unit) (owt fun _ _ => rfl) Tryz.func164 rfl rfl ?_
  repeat' first
    | intro _
    | exact rfl
    | (refine @id.{0} _ ?_; constructor)
    | apply Dk.loop 0 (V := Unit) (fun (s : Int) v => []) (fun s v => [(5, .int .i64 (s))]) () [(1, _), (2, _)]
    | apply Dk.quiet (id := 4) (by kernel_rfl)
    | exact ()
end Go.Proofs.YtdlhbbhdfnnmnaaGreat
