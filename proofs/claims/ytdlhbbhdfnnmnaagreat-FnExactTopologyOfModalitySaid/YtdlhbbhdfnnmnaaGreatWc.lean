/- Walks by the calculus D. No condition beside those that each theorem names. -/
import Derived.Test.YtdlhbbhdfnnmnaaGreatDi
import Derived.Test.YtdlhbbhdfnnmnaaGreatMo
import Derived.Test.YtdlhbbhdfnnmnaaGreatDs
import Derived.Test.YtdlhbbhdfnnmnaaGreatSo
namespace Go.Proofs.YtdlhbbhdfnnmnaaGreat
open Go Go.Li Go.Dk
set_option linter.unusedVariables false
set_option maxHeartbeats 1000000
set_option maxRecDepth 100000
theorem c95 {x0 : (List Int)} {v_x0 : Value} {x1 : Int} : Ct Tryz.prog 95 true (laws_szInt64S x0 x1) [v_x0, .int .i64 (x1)] [.rd false (sImm (sInt .i64)) v_x0 x0] (fun y (_ : Unit) => [.int .i64 y]) (fun y _ => []) := by
  refine ct (S := Unit) (owt fun _ _ => rfl) Tryz.func95 rfl rfl ?_
  repeat' first
    | intro _
    | exact rfl
    | (refine @id.{0} _ ?_; constructor)
    | exact ()
theorem c73 {x0 : (List (List Int))} {v_x0 : Value} {x1 : Int} : Ct Tryz.prog 73 true (laws_szInt64SS x0 x1) [v_x0, .int .i64 (x1)] [.rd false (sImm (sImm (sInt .i64))) v_x0 x0] (fun y (_ : Unit) => [.int .i64 y]) (fun y _ => []) := by
  refine ct (S := Unit) (owt fun _ _ => rfl) Tryz.func73 rfl rfl ?_
  repeat' first
    | intro _
    | exact rfl
    | (refine @id.{0} _ ?_; constructor)
    | apply Dk.loop 0 (V := Unit) (fun (s : Int × Int) v => []) (fun s v => [(1, .int .i64 (s.1)), (5, .int .i64 (s.2))]) () [(0, _)]
    | apply c95
    | exact ()
theorem c294 {x0 : MSetFunctor} {v_x0_Shape_From : Value} {v_x0_Shape_To : Value} {v_x0_Shape_Identity : Value} {v_x0_Shape_Composites : Value} {v_x0_Sizes : Value} {v_x0_Actions : Value} : Ct Tryz.prog 294 true (spec_l19Fault x0) [.agg #[.int .i64 (x0.Shape.Objects), v_x0_Shape_From, v_x0_Shape_To, v_x0_Shape_Identity, v_x0_Shape_Composites, v_x0_Sizes, v_x0_Actions]] [.rd false (sImm (sInt .i64)) v_x0_Shape_From x0.Shape.From, .rd false (sImm (sInt .i64)) v_x0_Shape_To x0.Shape.To, .rd false (sImm (sInt .i64)) v_x0_Shape_Identity x0.Shape.Identity, .rd false (sImm (sImm (sInt .i64))) v_x0_Shape_Composites x0.Shape.Composites, .rd false (sImm (sInt .i64)) v_x0_Sizes x0.Sizes, .rd false (sImm (sImm (sInt .i64))) v_x0_Actions x0.Actions] (fun y (_ : Unit) => [.int .i64 y.1, .int .i64 y.2.1, .int .i64 y.2.2.1, .int .i64 y.2.2.2]) (fun y _ => []) := by
  refine ct (S := Unit) (owt fun _ _ => rfl) Tryz.func294 rfl rfl ?_
  repeat' first
    | intro _
    | exact rfl
    | (refine @id.{0} _ ?_; constructor)
    | apply Dk.loop 0 (V := Unit) (fun (s : Int) v => []) (fun s v => [(7, .int .i64 (s))]) () [(1, _), (6, _)]
    | apply Dk.loop 2 (V := Unit) (fun (s : Int) v => []) (fun s v => [(8, .int .i64 (s))]) () [(1, _), (6, _), (7, _)]
    | apply Dk.loop 4 (V := Unit) (fun (s : Int) v => []) (fun s v => [(9, .int .i64 (s))]) () [(1, _), (6, _)]
    | apply Dk.loop 6 (V := Unit) (fun (s : Int) v => []) (fun s v => [(10, .int .i64 (s))]) () [(1, _), (6, _), (9, _)]
    | apply Dk.loop 8 (V := Unit) (fun (s : Int) v => []) (fun s v => [(11, .int .i64 (s))]) () [(1, _), (6, _), (9, _), (10, _)]
    | apply Dk.quiet (id := 8) (by kernel_rfl)
    | apply Dk.quiet (id := 16) (by kernel_rfl)
    | apply Dk.quiet (id := 18) (by kernel_rfl)
    | apply Dk.quiet (id := 20) (by kernel_rfl)
    | exact ()
theorem c126 {x0 : (List Int)} {v_x0 : Value} {x1 : (List Int)} {v_x1 : Value} : Ct Tryz.prog 126 true (spec_l01Same x0 x1) [v_x0, v_x1] [.rd false (sImm (sInt .i64)) v_x0 x0, .rd false (sImm (sInt .i64)) v_x1 x1] (fun y (_ : Unit) => [.bool y]) (fun y _ => []) := by
  refine ct (S := Unit) (owt fun _ _ => rfl) Tryz.func126 rfl rfl ?_
  repeat' first
    | intro _
    | exact rfl
    | (refine @id.{0} _ ?_; constructor)
    | apply Dk.loop 0 (V := Unit) (fun (s : Int) v => []) (fun s v => [(5, .int .i64 (s))]) () [(0, _), (1, _)]
    | apply Dk.quiet (id := 6) (by kernel_rfl)
    | exact ()
theorem c102 {x0 : (List (List Int))} {v_x0 : Value} {x1 : (List Int)} {v_x1 : Value} : Ct Tryz.prog 102 true (spec_l05Place x0 x1) [v_x0, v_x1] [.rd false (sImm (sImm (sInt .i64))) v_x0 x0, .rd false (sImm (sInt .i64)) v_x1 x1] (fun y (_ : Unit) => [.int .i64 y]) (fun y _ => []) := by
  refine ct (S := Unit) (owt fun _ _ => rfl) Tryz.func102 rfl rfl ?_
  repeat' first
    | intro _
    | exact rfl
    | (refine @id.{0} _ ?_; constructor)
    | apply Dk.loop 0 (V := Unit) (fun (s : Int) v => []) (fun s v => [(5, .int .i64 (s))]) () [(0, _), (1, _)]
    | apply c126
    | exact ()
theorem c176 {x0 : (List Int)} {v_x0 : Value} : Ct Tryz.prog 176 true (impl_clone x0) [v_x0] [.rd false (sImm (sInt .i64)) v_x0 x0] (fun y (v : Value) => [v]) (fun y v => [.own (sOwn 2 (sInt .i64)) v y]) := by
  refine ct (S := Unit) (owt fun _ _ => rfl) Tryz.func176 rfl rfl ?_
  repeat' first
    | intro _
    | exact rfl
    | (refine @id.{0} _ ?_; constructor)
    | exact ()
theorem c213 {x0 : (List (List Int))} {v_x0 : Value} : Ct Tryz.prog 213 true (impl_clones x0) [v_x0] [.rd false (sImm (sImm (sInt .i64))) v_x0 x0] (fun y (v : Value) => [v]) (fun y v => [.own (sOwn 22 (sOwn 2 (sInt .i64))) v y]) := by
  refine ct (S := Unit) (owt fun _ _ => rfl) Tryz.func213 rfl rfl ?_
  repeat' first
    | intro _
    | exact rfl
    | (refine @id.{0} _ ?_; constructor)
    | apply Dk.loop 0 (V := Value) (fun (s : (List (List Int)) × Int) v => [.own (sOwn 22 (sOwn 2 (sInt .i64))) v s.1]) (fun s v => [(3, v), (11, .int .i64 (s.2))]) _ [(9, _), (10, _)]
    | apply c176
    | exact ()
theorem c91 {x0 : (List Int)} {v_x0 : Value} {x1 : (List Int)} {v_x1 : Value} : Ct Tryz.prog 91 true (laws_eqInt64S x0 x1) [v_x0, v_x1] [.rd false (sImm (sInt .i64)) v_x0 x0, .rd false (sImm (sInt .i64)) v_x1 x1] (fun y (_ : Unit) => [.bool y]) (fun y _ => []) := by
  refine ct (S := Unit) (owt fun _ _ => rfl) Tryz.func91 rfl rfl ?_
  repeat' first
    | intro _
    | exact rfl
    | (refine @id.{0} _ ?_; constructor)
    | apply Dk.loop 0 (V := Unit) (fun (s : Int) v => []) (fun s v => [(5, .int .i64 (s))]) () [(0, _), (1, _)]
    | apply Dk.quiet (id := 6) (by kernel_rfl)
    | exact ()
theorem c20 {x0 : (List (List Int))} {v_x0 : Value} {x1 : (List (List Int))} {v_x1 : Value} : Ct Tryz.prog 20 true (laws_eqInt64SS x0 x1) [v_x0, v_x1] [.rd false (sImm (sImm (sInt .i64))) v_x0 x0, .rd false (sImm (sImm (sInt .i64))) v_x1 x1] (fun y (_ : Unit) => [.bool y]) (fun y _ => []) := by
  refine ct (S := Unit) (owt fun _ _ => rfl) Tryz.func20 rfl rfl ?_
  repeat' first
    | intro _
    | exact rfl
    | (refine @id.{0} _ ?_; constructor)
    | apply Dk.loop 0 (V := Unit) (fun (s : Int) v => []) (fun s v => [(5, .int .i64 (s))]) () [(0, _), (1, _)]
    | apply Dk.quiet (id := 6) (by kernel_rfl)
    | apply c91
    | exact ()
theorem c219 {x0 : (List (List Int))} {v_x0 : Value} {x1 : (List (List Int))} {v_x1 : Value} : Ct Tryz.prog 219 true (spec_l01Same2 x0 x1) [v_x0, v_x1] [.rd false (sImm (sImm (sInt .i64))) v_x0 x0, .rd false (sImm (sImm (sInt .i64))) v_x1 x1] (fun y (_ : Unit) => [.bool y]) (fun y _ => []) := by
  refine ct (S := Unit) (owt fun _ _ => rfl) Tryz.func219 rfl rfl ?_
  repeat' first
    | intro _
    | exact rfl
    | (refine @id.{0} _ ?_; constructor)
    | apply Dk.loop 0 (V := Unit) (fun (s : Int) v => []) (fun s v => [(5, .int .i64 (s))]) () [(0, _), (1, _)]
    | apply Dk.quiet (id := 6) (by kernel_rfl)
    | apply c126
    | exact ()
theorem c138 {x0 : (List (List Int))} {v_x0 : Value} {x1 : (List Int)} {v_x1 : Value} : Ct Tryz.prog 138 true (spec_l09Find x0 x1) [v_x0, v_x1] [.rd false (sImm (sImm (sInt .i64))) v_x0 x0, .rd false (sImm (sInt .i64)) v_x1 x1] (fun y (_ : Unit) => [.int .i64 y]) (fun y _ => []) := by
  refine ct (S := Unit) (owt fun _ _ => rfl) Tryz.func138 rfl rfl ?_
  repeat' first
    | intro _
    | exact rfl
    | (refine @id.{0} _ ?_; constructor)
    | apply Dk.loop 0 (V := Unit) (fun (s : Int) v => []) (fun s v => [(5, .int .i64 (s))]) () [(0, _), (1, _)]
    | apply c126
    | exact ()
theorem c255 {x0 : Int} {b_x0 : Nat} {x1 : Int} : Ct Tryz.prog 255 true (sync_atomic_Int64_Add x0 x1) [.pointer (some (⟨b_x0, 0, none⟩)), .int .i64 (x1)] [.row b_x0 [.int .i64 (x0)] 297] (fun y (_ : Unit) => [.int .i64 y.1]) (fun y _ => [.row b_x0 [.int .i64 y.2] 297]) := by
  refine ct (S := Unit) (owt fun _ _ => rfl) Tryz.func255 rfl rfl ?_
  repeat' first
    | intro _
    | exact rfl
    | (refine @id.{0} _ ?_; constructor)
    | exact ()
theorem c157 {x0 : MCoverage} {p_x0 : Addr} {p_x0_Classifier : Addr} {v_x0_Classifier_Sets_Shape_From : Value} {v_x0_Classifier_Sets_Shape_To : Value} {v_x0_Classifier_Sets_Shape_Identity : Value} {v_x0_Classifier_Sets_Shape_Composites : Value} {v_x0_Classifier_Sets_Sizes : Value} {v_x0_Classifier_Sets_Actions : Value} {v_x0_Classifier_Sieves : Value} {p_x0_C : Addr} {v_x0_C_From : Value} {v_x0_C_To : Value} {v_x0_C_Identity : Value} {v_x0_C_Composites : Value} {v_x0_Covers : Value} {b_x0_Count : Nat} {x1 : Int} {x2 : Int} : Ct Tryz.prog 157 true (impl_coverage_mark x0 x1 x2) [.pointer (some (p_x0)), .int .i64 (x1), .int .i64 (x2)] [.ats p_x0 [.pointer (some (p_x0_Classifier)), .pointer (some (p_x0_C)), v_x0_Covers, .pointer (some (⟨b_x0_Count, 0, none⟩))], .row b_x0_Count [.int .i64 (x0.Count)] 297, .ats p_x0_C [.int .i64 (x0.C.Objects), v_x0_C_From, v_x0_C_To, v_x0_C_Identity, v_x0_C_Composites], .ats p_x0_Classifier [.int .i64 (x0.Classifier.Sets.Shape.Objects), v_x0_Classifier_Sets_Shape_From, v_x0_Classifier_Sets_Shape_To, v_x0_Classifier_Sets_Shape_Identity, v_x0_Classifier_Sets_Shape_Composites, v_x0_Classifier_Sets_Sizes, v_x0_Classifier_Sets_Actions, v_x0_Classifier_Sieves], .rd false (sImm (sInt .i64)) v_x0_Classifier_Sets_Shape_From x0.Classifier.Sets.Shape.From, .rd false (sImm (sInt .i64)) v_x0_Classifier_Sets_Shape_To x0.Classifier.Sets.Shape.To, .rd false (sImm (sInt .i64)) v_x0_Classifier_Sets_Shape_Identity x0.Classifier.Sets.Shape.Identity, .rd false (sImm (sImm (sInt .i64))) v_x0_Classifier_Sets_Shape_Composites x0.Classifier.Sets.Shape.Composites, .rd false (sImm (sInt .i64)) v_x0_Classifier_Sets_Sizes x0.Classifier.Sets.Sizes, .rd false (sImm (sImm (sInt .i64))) v_x0_Classifier_Sets_Actions x0.Classifier.Sets.Actions, .rd false (sImm (sImm (sImm (sInt .i64)))) v_x0_Classifier_Sieves x0.Classifier.Sieves, .rd false (sImm (sInt .i64)) v_x0_C_From x0.C.From, .rd false (sImm (sInt .i64)) v_x0_C_To x0.C.To, .rd false (sImm (sInt .i64)) v_x0_C_Identity x0.C.Identity, .rd false (sImm (sImm (sInt .i64))) v_x0_C_Composites x0.C.Composites, .own (sOwn 213 (sOwn 4 sBool)) v_x0_Covers x0.Covers] (fun y (_ : Unit) => []) (fun y _ => [.own (sOwn 213 (sOwn 4 sBool)) v_x0_Covers y.1, .row b_x0_Count [.int .i64 y.2] 297]) := by
  refine ctv (owt fun _ _ => rfl) Tryz.func157 rfl rfl ?_
  repeat' first
    | intro _
    | exact rfl
    | (refine @id.{0} _ ?_; constructor)
    | apply c255
    | exact ()
theorem c188 {x0 : (List Int)} {v_x0 : Value} {x1 : (List Int)} {v_x1 : Value} : Ct Tryz.prog 188 true (impl_then x0 x1) [v_x0, v_x1] [.rd false (sImm (sInt .i64)) v_x0 x0, .rd false (sImm (sInt .i64)) v_x1 x1] (fun y (v : Value) => [v]) (fun y v => [.own (sOwn 2 (sInt .i64)) v y]) := by
  refine ct (S := Unit) (owt fun _ _ => rfl) Tryz.func188 rfl rfl ?_
  repeat' first
    | intro _
    | exact rfl
    | (refine @id.{0} _ ?_; constructor)
    | apply Dk.loopA 0 (V := Unit) (A := Value) _ (fun a (s : Int × (List Int)) v => [.own (sOwn 2 (sInt .i64)) a s.2]) (fun a s v => [(5, a), (13, .int .i64 (s.1))]) () [(1, _), (11, _), (12, _)]
    | exact ()
end Go.Proofs.YtdlhbbhdfnnmnaaGreat
