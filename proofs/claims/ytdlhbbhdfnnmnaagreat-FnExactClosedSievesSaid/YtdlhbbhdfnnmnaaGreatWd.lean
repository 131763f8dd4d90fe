/- Walks by the calculus D. No condition beside those that each theorem names. -/
import Derived.Test.YtdlhbbhdfnnmnaaGreatDi
import Derived.Test.YtdlhbbhdfnnmnaaGreatMo
import Derived.Test.YtdlhbbhdfnnmnaaGreatDs
import Derived.Test.YtdlhbbhdfnnmnaaGreatSo
namespace Go.Proofs.YtdlhbbhdfnnmnaaGreat
open Go Go.Li Go.Dk
set_option linter.unusedVariables false
set_option maxHeartbeats 1000000
set_option maxRecDepth 100000
theorem c126 {x0 : (List Int)} {v_x0 : Value} {x1 : (List Int)} {v_x1 : Value} : Ct Tryz.prog 126 true (spec_l01Same x0 x1) [v_x0, v_x1] [.rd false (sImm (sInt .i64)) v_x0 x0, .rd false (sImm (sInt .i64)) v_x1 x1] (fun y (_ : Unit) => [.bool y]) (fun y _ => []) := by
  refine ct (S := Unit) (owt fun _ _ => rfl) Tryz.func126 rfl rfl ?_
  repeat' first
    | intro _
    | exact rfl
    | (refine @id.{0} _ ?_; constructor)
    | apply Dk.loop 0 (V := Unit) (fun (s : Int) v => []) (fun s v => [(5, .int .i64 (s))]) () [(0, _), (1, _)]
    | apply Dk.quiet (id := 6) (by kernel_rfl)
    | exact ()
theorem c102 {x0 : (List (List Int))} {v_x0 : Value} {x1 : (List Int)} {v_x1 : Value} : Ct Tryz.prog 102 true (spec_l05Place x0 x1) [v_x0, v_x1] [.rd false (sImm (sImm (sInt .i64))) v_x0 x0, .rd false (sImm (sInt .i64)) v_x1 x1] (fun y (_ : Unit) => [.int .i64 y]) (fun y _ => []) := by
  refine ct (S := Unit) (owt fun _ _ => rfl) Tryz.func102 rfl rfl ?_
  repeat' first
    | intro _
    | exact rfl
    | (refine @id.{0} _ ?_; constructor)
    | apply Dk.loop 0 (V := Unit) (fun (s : Int) v => []) (fun s v => [(5, .int .i64 (s))]) () [(0, _), (1, _)]
    | apply c126
    | exact ()
theorem c131 {x0 : Int} {x1 : Int} {x2 : Int} : Ct Tryz.prog 131 true (impl_inRange x0 x1 x2) [.int .i64 (x0), .int .i64 (x1), .int .i64 (x2)] [] (fun y (_ : Unit) => [.bool y]) (fun y _ => []) := by
  refine ct (S := Unit) (owt fun _ _ => rfl) Tryz.func131 rfl rfl ?_
  repeat' first
    | intro _
    | exact rfl
    | (refine @id.{0} _ ?_; constructor)
    | exact ()
theorem c187 {x0 : (List Int)} {v_x0 : Value} {x1 : Int} : Ct Tryz.prog 187 true (impl_within x0 x1) [v_x0, .int .i64 (x1)] [.rd false (sImm (sInt .i64)) v_x0 x0] (fun y (_ : Unit) => [.bool y]) (fun y _ => []) := by
  refine ct (S := Unit) (owt fun _ _ => rfl) Tryz.func187 rfl rfl ?_
  repeat' first
    | intro _
    | exact rfl
    | (refine @id.{0} _ ?_; constructor)
    | apply Dk.loop 0 (V := Unit) (fun (s : Int) v => []) (fun s v => [(9, .int .i64 (s))]) () [(1, _), (7, _), (8, _)]
    | apply c131
    | exact ()
theorem c299 {x0 : (List Int)} {v_x0 : Value} : Ct Tryz.prog 299 true (impl_rising x0) [v_x0] [.rd false (sImm (sInt .i64)) v_x0 x0] (fun y (_ : Unit) => [.bool y]) (fun y _ => []) := by
  refine ct (S := Unit) (owt fun _ _ => rfl) Tryz.func299 rfl rfl ?_
  repeat' first
    | intro _
    | exact rfl
    | (refine @id.{0} _ ?_; constructor)
    | apply Dk.loop 0 (V := Unit) (fun (s : Int) v => []) (fun s v => [(3, .int .i64 (s))]) () [(0, _)]
    | apply Dk.quiet (id := 4) (by kernel_rfl)
    | exact ()
theorem c229 {x0 : (List Int)} {v_x0 : Value} {x1 : (List Int)} {v_x1 : Value} : Ct Tryz.prog 229 true (impl_compare x0 x1) [v_x0, v_x1] [.rd false (sImm (sInt .i64)) v_x0 x0, .rd false (sImm (sInt .i64)) v_x1 x1] (fun y (_ : Unit) => [.int .i64 y]) (fun y _ => []) := by
  refine ct (S := Unit) (owt fun _ _ => rfl) Tryz.func229 rfl rfl ?_
  repeat' first
    | intro _
    | exact rfl
    | (refine @id.{0} _ ?_; constructor)
    | apply Dk.loop 0 (V := Unit) (fun (s : Int) v => []) (fun s v => [(8, .int .i64 (s))]) () [(0, _), (1, _), (7, _)]
    | apply Dk.quiet (id := 6) (by kernel_rfl)
    | apply Dk.quiet (id := 7) (by kernel_rfl)
    | exact ()
theorem c172 {x0 : (List Int)} {v_x0 : Value} {x1 : (List Int)} {v_x1 : Value} : Ct Tryz.prog 172 true (impl_same x0 x1) [v_x0, v_x1] [.rd false (sImm (sInt .i64)) v_x0 x0, .rd false (sImm (sInt .i64)) v_x1 x1] (fun y (_ : Unit) => [.bool y]) (fun y _ => []) := by
  refine ct (S := Unit) (owt fun _ _ => rfl) Tryz.func172 rfl rfl ?_
  repeat' first
    | intro _
    | exact rfl
    | (refine @id.{0} _ ?_; constructor)
    | apply c229
    | exact ()
theorem c304 {x0 : (List Int)} {v_x0 : Value} {x1 : (List Int)} {v_x1 : Value} : Ct Tryz.prog 304 true (impl_Category_sieves_2 x0 x1) [v_x0, v_x1] [.rd false (sImm (sInt .i64)) v_x0 x0, .rd false (sImm (sInt .i64)) v_x1 x1] (fun y (_ : Unit) => [.int .i64 y]) (fun y _ => []) := by
  refine ct (S := Unit) (owt fun _ _ => rfl) Tryz.func304 rfl rfl ?_
  repeat' first
    | intro _
    | exact rfl
    | (refine @id.{0} _ ?_; constructor)
    | apply c229
    | exact ()
theorem c91 {x0 : (List Int)} {v_x0 : Value} {x1 : (List Int)} {v_x1 : Value} : Ct Tryz.prog 91 true (laws_eqInt64S x0 x1) [v_x0, v_x1] [.rd false (sImm (sInt .i64)) v_x0 x0, .rd false (sImm (sInt .i64)) v_x1 x1] (fun y (_ : Unit) => [.bool y]) (fun y _ => []) := by
  refine ct (S := Unit) (owt fun _ _ => rfl) Tryz.func91 rfl rfl ?_
  repeat' first
    | intro _
    | exact rfl
    | (refine @id.{0} _ ?_; constructor)
    | apply Dk.loop 0 (V := Unit) (fun (s : Int) v => []) (fun s v => [(5, .int .i64 (s))]) () [(0, _), (1, _)]
    | apply Dk.quiet (id := 6) (by kernel_rfl)
    | exact ()
theorem c20 {x0 : (List (List Int))} {v_x0 : Value} {x1 : (List (List Int))} {v_x1 : Value} : Ct Tryz.prog 20 true (laws_eqInt64SS x0 x1) [v_x0, v_x1] [.rd false (sImm (sImm (sInt .i64))) v_x0 x0, .rd false (sImm (sImm (sInt .i64))) v_x1 x1] (fun y (_ : Unit) => [.bool y]) (fun y _ => []) := by
  refine ct (S := Unit) (owt fun _ _ => rfl) Tryz.func20 rfl rfl ?_
  repeat' first
    | intro _
    | exact rfl
    | (refine @id.{0} _ ?_; constructor)
    | apply Dk.loop 0 (V := Unit) (fun (s : Int) v => []) (fun s v => [(5, .int .i64 (s))]) () [(0, _), (1, _)]
    | apply Dk.quiet (id := 6) (by kernel_rfl)
    | apply c91
    | exact ()
theorem c92 {x0 : (List Int)} {v_x0 : Value} {x1 : Int} : Ct Tryz.prog 92 true (laws_markInt64S x0 x1) [v_x0, .int .i64 (x1)] [.own (sOwn 2 (sInt .i64)) v_x0 x0] (fun y (_ : Unit) => [.int .i64 y.1]) (fun y _ => [.own (sOwn 2 (sInt .i64)) v_x0 y.2]) := by
  refine ct (S := Unit) (owt fun _ _ => rfl) Tryz.func92 rfl rfl ?_
  repeat' first
    | intro _
    | exact rfl
    | (refine @id.{0} _ ?_; constructor)
    | apply Dk.loop 0 (V := Unit) (fun (s : Int × Int × (List Int)) v => [.own (sOwn 2 (sInt .i64)) v_x0 s.2.2]) (fun s v => [(1, .int .i64 (s.1)), (5, .int .i64 (s.2.1))]) () [(0, _)]
    | exact ()
theorem c24 {x0 : (List (List Int))} {v_x0 : Value} {x1 : Int} : Ct Tryz.prog 24 true (laws_markInt64SS x0 x1) [v_x0, .int .i64 (x1)] [.own (sOwn 22 (sOwn 2 (sInt .i64))) v_x0 x0] (fun y (_ : Unit) => [.int .i64 y.1]) (fun y _ => [.own (sOwn 22 (sOwn 2 (sInt .i64))) v_x0 y.2]) := by
  refine ct (S := Unit) (owt fun _ _ => rfl) Tryz.func24 rfl rfl ?_
  repeat' first
    | intro _
    | exact rfl
    | (refine @id.{0} _ ?_; constructor)
    | apply Dk.loop 0 (V := Unit) (fun (s : Int × Int × (List (List Int))) v => [.own (sOwn 22 (sOwn 2 (sInt .i64))) v_x0 s.2.2]) (fun s v => [(1, .int .i64 (s.1)), (5, .int .i64 (s.2.1))]) () [(0, _)]
    | apply c92
    | exact ()
theorem c138 {x0 : (List (List Int))} {v_x0 : Value} {x1 : (List Int)} {v_x1 : Value} : Ct Tryz.prog 138 true (spec_l09Find x0 x1) [v_x0, v_x1] [.rd false (sImm (sImm (sInt .i64))) v_x0 x0, .rd false (sImm (sInt .i64)) v_x1 x1] (fun y (_ : Unit) => [.int .i64 y]) (fun y _ => []) := by
  refine ct (S := Unit) (owt fun _ _ => rfl) Tryz.func138 rfl rfl ?_
  repeat' first
    | intro _
    | exact rfl
    | (refine @id.{0} _ ?_; constructor)
    | apply Dk.loop 0 (V := Unit) (fun (s : Int) v => []) (fun s v => [(5, .int .i64 (s))]) () [(0, _), (1, _)]
    | apply c126
    | exact ()
theorem c309 {x0 : Int} {x1 : Int} {x2 : Bool} {b_x2 : Nat} {x3 : MCoverage} {p_x3q : Addr} {p_x3 : Addr} {p_x3_Classifier : Addr} {v_x3_Classifier_Sets_Shape_From : Value} {v_x3_Classifier_Sets_Shape_To : Value} {v_x3_Classifier_Sets_Shape_Identity : Value} {v_x3_Classifier_Sets_Shape_Composites : Value} {v_x3_Classifier_Sets_Sizes : Value} {v_x3_Classifier_Sets_Actions : Value} {v_x3_Classifier_Sieves : Value} {p_x3_C : Addr} {v_x3_C_From : Value} {v_x3_C_To : Value} {v_x3_C_Identity : Value} {v_x3_C_Composites : Value} {v_x3_Covers : Value} {p_x3_Count : Addr} : Ct Tryz.prog 309 true (impl_coverage_isTopology_1 x0 x1 x2 x3) [.int .i64 (x0), .int .i64 (x1), .pointer (some (⟨b_x2, 0, none⟩)), .pointer (some (p_x3q))] [.ats p_x3q [.pointer (some (p_x3))], .ats p_x3 [.pointer (some (p_x3_Classifier)), .pointer (some (p_x3_C)), v_x3_Covers, .pointer (some (p_x3_Count))], .ats p_x3_Count [.int .i64 (x3.Count)], .ats p_x3_C [.int .i64 (x3.C.Objects), v_x3_C_From, v_x3_C_To, v_x3_C_Identity, v_x3_C_Composites], .ats p_x3_Classifier [.int .i64 (x3.Classifier.Sets.Shape.Objects), v_x3_Classifier_Sets_Shape_From, v_x3_Classifier_Sets_Shape_To, v_x3_Classifier_Sets_Shape_Identity, v_x3_Classifier_Sets_Shape_Composites, v_x3_Classifier_Sets_Sizes, v_x3_Classifier_Sets_Actions, v_x3_Classifier_Sieves], .row b_x2 [.bool (x2)] 4, .rd false (sImm (sInt .i64)) v_x3_Classifier_Sets_Shape_From x3.Classifier.Sets.Shape.From, .rd false (sImm (sInt .i64)) v_x3_Classifier_Sets_Shape_To x3.Classifier.Sets.Shape.To, .rd false (sImm (sInt .i64)) v_x3_Classifier_Sets_Shape_Identity x3.Classifier.Sets.Shape.Identity, .rd false (sImm (sImm (sInt .i64))) v_x3_Classifier_Sets_Shape_Composites x3.Classifier.Sets.Shape.Composites, .rd false (sImm (sInt .i64)) v_x3_Classifier_Sets_Sizes x3.Classifier.Sets.Sizes, .rd false (sImm (sImm (sInt .i64))) v_x3_Classifier_Sets_Actions x3.Classifier.Sets.Actions, .rd false (sImm (sImm (sImm (sInt .i64)))) v_x3_Classifier_Sieves x3.Classifier.Sieves, .rd false (sImm (sInt .i64)) v_x3_C_From x3.C.From, .rd false (sImm (sInt .i64)) v_x3_C_To x3.C.To, .rd false (sImm (sInt .i64)) v_x3_C_Identity x3.C.Identity, .rd false (sImm (sImm (sInt .i64))) v_x3_C_Composites x3.C.Composites, .rd false (sImm (sImm sBool)) v_x3_Covers x3.Covers] (fun y (_ : Unit) => []) (fun y _ => [.row b_x2 [.bool y] 4]) := by
  refine ctv (owt fun _ _ => rfl) Tryz.func309 rfl rfl ?_
  repeat' first
    | intro _
    | exact rfl
    | (refine @id.{0} _ ?_; constructor)
    | exact ()
end Go.Proofs.YtdlhbbhdfnnmnaaGreat
