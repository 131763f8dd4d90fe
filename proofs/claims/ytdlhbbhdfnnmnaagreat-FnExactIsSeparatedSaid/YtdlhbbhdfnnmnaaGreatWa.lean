/- Walks by the calculus D. No condition beside those that each theorem names. -/
import Derived.Test.YtdlhbbhdfnnmnaaGreatDi
import Derived.Test.YtdlhbbhdfnnmnaaGreatMo
import Derived.Test.YtdlhbbhdfnnmnaaGreatDs
import Derived.Test.YtdlhbbhdfnnmnaaGreatSo
namespace Go.Proofs.YtdlhbbhdfnnmnaaGreat
open Go Go.Li Go.Dk
set_option linter.unusedVariables false
set_option maxHeartbeats 1000000
set_option maxRecDepth 100000
theorem c296 {x0 : Int} {x1 : (List Int)} {v_x1 : Value} : Ct Tryz.prog 296 true (spec_l01Map x0 x1) [.int .i64 (x0), v_x1] [.rd false (sImm (sInt .i64)) v_x1 x1] (fun y (_ : Unit) => [.bool y]) (fun y _ => []) := by
  refine ct (S := Unit) (owt fun _ _ => rfl) Tryz.func296 rfl rfl ?_
  repeat' first
    | intro _
    | exact rfl
    | (refine @id.{0} _ ?_; constructor)
    | apply Dk.loop 0 (V := Unit) (fun (s : Int) v => []) (fun s v => [(5, .int .i64 (s))]) () [(0, _), (1, _)]
    | exact ()
theorem c318 {x0 : (List Int)} {v_x0 : Value} {x1 : Int} {x2 : Int} : Ct Tryz.prog 318 true (spec_l02Ends x0 x1 x2) [v_x0, .int .i64 (x1), .int .i64 (x2)] [.rd false (sImm (sInt .i64)) v_x0 x0] (fun y (_ : Unit) => [.bool y]) (fun y _ => []) := by
  refine ct (S := Unit) (owt fun _ _ => rfl) Tryz.func318 rfl rfl ?_
  repeat' first
    | intro _
    | exact rfl
    | (refine @id.{0} _ ?_; constructor)
    | apply c296
    | exact ()
theorem c252 {x0 : MCategory} {v_x0_From : Value} {v_x0_To : Value} {v_x0_Identity : Value} {v_x0_Composites : Value} : Ct Tryz.prog 252 true (spec_l02Fault x0) [.agg #[.int .i64 (x0.Objects), v_x0_From, v_x0_To, v_x0_Identity, v_x0_Composites]] [.rd false (sImm (sInt .i64)) v_x0_From x0.From, .rd false (sImm (sInt .i64)) v_x0_To x0.To, .rd false (sImm (sInt .i64)) v_x0_Identity x0.Identity, .rd false (sImm (sImm (sInt .i64))) v_x0_Composites x0.Composites] (fun y (_ : Unit) => [.int .i64 y.1, .int .i64 y.2.1, .int .i64 y.2.2.1, .int .i64 y.2.2.2]) (fun y _ => []) := by
  refine ct (S := Unit) (owt fun _ _ => rfl) Tryz.func252 rfl rfl ?_
  repeat' first
    | intro _
    | exact rfl
    | (refine @id.{0} _ ?_; constructor)
    | apply Dk.loop 0 (V := Unit) (fun (s : Int) v => []) (fun s v => [(7, .int .i64 (s))]) () [(1, _), (6, _)]
    | apply Dk.loop 2 (V := Unit) (fun (s : Int) v => []) (fun s v => [(8, .int .i64 (s))]) () [(1, _), (6, _)]
    | apply Dk.loop 4 (V := Unit) (fun (s : Int) v => []) (fun s v => [(9, .int .i64 (s))]) () [(1, _), (6, _), (8, _)]
    | apply Dk.loop 6 (V := Unit) (fun (s : Int) v => []) (fun s v => [(10, .int .i64 (s))]) () [(1, _), (6, _), (8, _), (9, _)]
    | apply Dk.quiet (id := 5) (by kernel_rfl)
    | apply Dk.quiet (id := 13) (by kernel_rfl)
    | apply Dk.quiet (id := 17) (by kernel_rfl)
    | exact ()
theorem c295 {x0 : (List Int)} {v_x0 : Value} : Ct Tryz.prog 295 true (spec_l02Rises x0) [v_x0] [.rd false (sImm (sInt .i64)) v_x0 x0] (fun y (_ : Unit) => [.bool y]) (fun y _ => []) := by
  refine ct (S := Unit) (owt fun _ _ => rfl) Tryz.func295 rfl rfl ?_
  repeat' first
    | intro _
    | exact rfl
    | (refine @id.{0} _ ?_; constructor)
    | apply Dk.loop 0 (V := Unit) (fun (s : Int) v => []) (fun s v => [(3, .int .i64 (s))]) () [(0, _)]
    | apply Dk.quiet (id := 4) (by kernel_rfl)
    | exact ()
theorem c201 {x0 : (List Int)} {v_x0 : Value} {x1 : Int} : Ct Tryz.prog 201 true (spec_l01Has x0 x1) [v_x0, .int .i64 (x1)] [.rd false (sImm (sInt .i64)) v_x0 x0] (fun y (_ : Unit) => [.bool y]) (fun y _ => []) := by
  refine ct (S := Unit) (owt fun _ _ => rfl) Tryz.func201 rfl rfl ?_
  repeat' first
    | intro _
    | exact rfl
    | (refine @id.{0} _ ?_; constructor)
    | apply Dk.loop 0 (V := Unit) (fun (s : Int) v => []) (fun s v => [(5, .int .i64 (s))]) () [(0, _), (1, _)]
    | exact ()
theorem c220 {x0 : MCategory} {v_x0_From : Value} {v_x0_To : Value} {v_x0_Identity : Value} {v_x0_Composites : Value} {x1 : Int} : Ct Tryz.prog 220 true (spec_l25Out x0 x1) [.agg #[.int .i64 (x0.Objects), v_x0_From, v_x0_To, v_x0_Identity, v_x0_Composites], .int .i64 (x1)] [.rd false (sImm (sInt .i64)) v_x0_From x0.From, .rd false (sImm (sInt .i64)) v_x0_To x0.To, .rd false (sImm (sInt .i64)) v_x0_Identity x0.Identity, .rd false (sImm (sImm (sInt .i64))) v_x0_Composites x0.Composites] (fun y (v : Value) => [v]) (fun y v => [.own (sOwn 2 (sInt .i64)) v y]) := by
  refine ct (S := Unit) (owt fun _ _ => rfl) Tryz.func220 rfl rfl ?_
  repeat' first
    | intro _
    | exact rfl
    | (refine @id.{0} _ ?_; constructor)
    | apply Dk.loop 0 (V := Value) (fun (s : (List Int) × Int) v => [.own (sOwn 2 (sInt .i64)) v s.1]) (fun s v => [(5, v), (6, .int .i64 (s.2))]) _ [(1, _), (2, _)]
    | exact ()
theorem c237 {x0 : MCategory} {v_x0_From : Value} {v_x0_To : Value} {v_x0_Identity : Value} {v_x0_Composites : Value} {x1 : Int} {x2 : Int} : Ct Tryz.prog 237 true (spec_l02Then x0 x1 x2) [.agg #[.int .i64 (x0.Objects), v_x0_From, v_x0_To, v_x0_Identity, v_x0_Composites], .int .i64 (x1), .int .i64 (x2)] [.rd false (sImm (sInt .i64)) v_x0_From x0.From, .rd false (sImm (sInt .i64)) v_x0_To x0.To, .rd false (sImm (sInt .i64)) v_x0_Identity x0.Identity, .rd false (sImm (sImm (sInt .i64))) v_x0_Composites x0.Composites] (fun y (_ : Unit) => [.int .i64 y]) (fun y _ => []) := by
  refine ct (S := Unit) (owt fun _ _ => rfl) Tryz.func237 rfl rfl ?_
  repeat' first
    | intro _
    | exact rfl
    | (refine @id.{0} _ ?_; constructor)
    | exact ()
theorem c330 {x0 : MCategory} {v_x0_From : Value} {v_x0_To : Value} {v_x0_Identity : Value} {v_x0_Composites : Value} {x1 : (List Int)} {v_x1 : Value} : Ct Tryz.prog 330 true (spec_l25Close x0 x1) [.agg #[.int .i64 (x0.Objects), v_x0_From, v_x0_To, v_x0_Identity, v_x0_Composites], v_x1] [.rd false (sImm (sInt .i64)) v_x0_From x0.From, .rd false (sImm (sInt .i64)) v_x0_To x0.To, .rd false (sImm (sInt .i64)) v_x0_Identity x0.Identity, .rd false (sImm (sImm (sInt .i64))) v_x0_Composites x0.Composites, .rd false (sImm (sInt .i64)) v_x1 x1] (fun y (v : Value) => [v]) (fun y v => [.own (sOwn 2 (sInt .i64)) v y]) := by
  refine ct (S := Unit) (owt fun _ _ => rfl) Tryz.func330 rfl rfl ?_
  repeat' first
    | intro _
    | exact rfl
    | (refine @id.{0} _ ?_; constructor)
    | apply Dk.loopA 0 (V := Unit) (A := Value) _ (fun a (s : Int × (List Bool)) v => [.own (sOwn 4 sBool) a s.2]) (fun a s v => [(5, a), (6, .int .i64 (s.1))]) () [(1, _), (2, _)]
    | apply Dk.loopA 2 (V := Unit) (A := Value) _ (fun a (s : Int × (List Bool)) v => [.own (sOwn 4 sBool) a s.2]) (fun a s v => [(5, a), (7, .int .i64 (s.1))]) () [(1, _), (2, _), (6, _)]
    | apply Dk.loop 4 (V := Value) (fun (s : (List Int) × Int) v => [.own (sOwn 2 (sInt .i64)) v s.1]) (fun s v => [(8, v), (9, .int .i64 (s.2))]) _ [(5, _)]
    | apply Dk.quiet (id := 8) (by kernel_rfl)
    | apply Dk.any (id := 9) 7 [0] [] [[], [], [], [], [2, 3], [4, 2, 3], []] (by kernel_rfl)
    | apply c237
    | exact ()
theorem c204 {x0 : MCategory} {v_x0_From : Value} {v_x0_To : Value} {v_x0_Identity : Value} {v_x0_Composites : Value} {x1 : Int} {x2 : (List Int)} {v_x2 : Value} : Ct Tryz.prog 204 true (spec_l25Pull x0 x1 x2) [.agg #[.int .i64 (x0.Objects), v_x0_From, v_x0_To, v_x0_Identity, v_x0_Composites], .int .i64 (x1), v_x2] [.rd false (sImm (sInt .i64)) v_x0_From x0.From, .rd false (sImm (sInt .i64)) v_x0_To x0.To, .rd false (sImm (sInt .i64)) v_x0_Identity x0.Identity, .rd false (sImm (sImm (sInt .i64))) v_x0_Composites x0.Composites, .rd false (sImm (sInt .i64)) v_x2 x2] (fun y (v : Value) => [v]) (fun y v => [.own (sOwn 2 (sInt .i64)) v y]) := by
  refine ct (S := Unit) (owt fun _ _ => rfl) Tryz.func204 rfl rfl ?_
  repeat' first
    | intro _
    | exact rfl
    | (refine @id.{0} _ ?_; constructor)
    | apply Dk.loop 0 (V := Value) (fun (s : (List Int) × Int) v => [.own (sOwn 2 (sInt .i64)) v s.1]) (fun s v => [(7, v), (8, .int .i64 (s.2))]) _ [(1, _), (2, _), (3, _)]
    | apply Dk.quiet (id := 5) (by kernel_rfl)
    | apply c237
    | apply c201
    | exact ()
theorem c131 {x0 : Int} {x1 : Int} {x2 : Int} : Ct Tryz.prog 131 true (impl_inRange x0 x1 x2) [.int .i64 (x0), .int .i64 (x1), .int .i64 (x2)] [] (fun y (_ : Unit) => [.bool y]) (fun y _ => []) := by
  refine ct (S := Unit) (owt fun _ _ => rfl) Tryz.func131 rfl rfl ?_
  repeat' first
    | intro _
    | exact rfl
    | (refine @id.{0} _ ?_; constructor)
    | exact ()
theorem c187 {x0 : (List Int)} {v_x0 : Value} {x1 : Int} : Ct Tryz.prog 187 true (impl_within x0 x1) [v_x0, .int .i64 (x1)] [.rd false (sImm (sInt .i64)) v_x0 x0] (fun y (_ : Unit) => [.bool y]) (fun y _ => []) := by
  refine ct (S := Unit) (owt fun _ _ => rfl) Tryz.func187 rfl rfl ?_
  repeat' first
    | intro _
    | exact rfl
    | (refine @id.{0} _ ?_; constructor)
    | apply Dk.loop 0 (V := Unit) (fun (s : Int) v => []) (fun s v => [(9, .int .i64 (s))]) () [(1, _), (7, _), (8, _)]
    | apply c131
    | exact ()
theorem c224 {x0 : MCategory} {v_x0_From : Value} {v_x0_To : Value} {v_x0_Identity : Value} {v_x0_Composites : Value} {x1 : Int} {x2 : (List Int)} {v_x2 : Value} : Ct Tryz.prog 224 true (spec_l25Sieve x0 x1 x2) [.agg #[.int .i64 (x0.Objects), v_x0_From, v_x0_To, v_x0_Identity, v_x0_Composites], .int .i64 (x1), v_x2] [.rd false (sImm (sInt .i64)) v_x0_From x0.From, .rd false (sImm (sInt .i64)) v_x0_To x0.To, .rd false (sImm (sInt .i64)) v_x0_Identity x0.Identity, .rd false (sImm (sImm (sInt .i64))) v_x0_Composites x0.Composites, .rd false (sImm (sInt .i64)) v_x2 x2] (fun y (_ : Unit) => [.bool y]) (fun y _ => []) := by
  refine ct (S := Unit) (owt fun _ _ => rfl) Tryz.func224 rfl rfl ?_
  repeat' first
    | intro _
    | exact rfl
    | (refine @id.{0} _ ?_; constructor)
    | apply Dk.loop 0 (V := Unit) (fun (s : Int) v => []) (fun s v => [(7, .int .i64 (s))]) () [(1, _), (2, _), (3, _)]
    | apply Dk.loop 2 (V := Unit) (fun (s : Int) v => []) (fun s v => [(8, .int .i64 (s))]) () [(1, _), (2, _), (3, _), (7, _)]
    | apply Dk.quiet (id := 6) (by kernel_rfl)
    | apply Dk.quiet (id := 11) (by kernel_rfl)
    | apply c295
    | apply c296
    | apply c237
    | apply c201
    | exact ()
theorem c309 {x0 : Int} {x1 : Int} {x2 : Bool} {b_x2 : Nat} {x3 : MCoverage} {p_x3q : Addr} {p_x3 : Addr} {p_x3_Classifier : Addr} {v_x3_Classifier_Sets_Shape_From : Value} {v_x3_Classifier_Sets_Shape_To : Value} {v_x3_Classifier_Sets_Shape_Identity : Value} {v_x3_Classifier_Sets_Shape_Composites : Value} {v_x3_Classifier_Sets_Sizes : Value} {v_x3_Classifier_Sets_Actions : Value} {v_x3_Classifier_Sieves : Value} {p_x3_C : Addr} {v_x3_C_From : Value} {v_x3_C_To : Value} {v_x3_C_Identity : Value} {v_x3_C_Composites : Value} {v_x3_Covers : Value} {p_x3_Count : Addr} : Ct Tryz.prog 309 true (impl_coverage_isTopology_1 x0 x1 x2 x3) [.int .i64 (x0), .int .i64 (x1), .pointer (some (⟨b_x2, 0, none⟩)), .pointer (some (p_x3q))] [.ats p_x3q [.pointer (some (p_x3))], .ats p_x3 [.pointer (some (p_x3_Classifier)), .pointer (some (p_x3_C)), v_x3_Covers, .pointer (some (p_x3_Count))], .ats p_x3_Count [.int .i64 (x3.Count)], .ats p_x3_C [.int .i64 (x3.C.Objects), v_x3_C_From, v_x3_C_To, v_x3_C_Identity, v_x3_C_Composites], .ats p_x3_Classifier [.int .i64 (x3.Classifier.Sets.Shape.Objects), v_x3_Classifier_Sets_Shape_From, v_x3_Classifier_Sets_Shape_To, v_x3_Classifier_Sets_Shape_Identity, v_x3_Classifier_Sets_Shape_Composites, v_x3_Classifier_Sets_Sizes, v_x3_Classifier_Sets_Actions, v_x3_Classifier_Sieves], .row b_x2 [.bool (x2)] 4, .rd false (sImm (sInt .i64)) v_x3_Classifier_Sets_Shape_From x3.Classifier.Sets.Shape.From, .rd false (sImm (sInt .i64)) v_x3_Classifier_Sets_Shape_To x3.Classifier.Sets.Shape.To, .rd false (sImm (sInt .i64)) v_x3_Classifier_Sets_Shape_Identity x3.Classifier.Sets.Shape.Identity, .rd false (sImm (sImm (sInt .i64))) v_x3_Classifier_Sets_Shape_Composites x3.Classifier.Sets.Shape.Composites, .rd false (sImm (sInt .i64)) v_x3_Classifier_Sets_Sizes x3.Classifier.Sets.Sizes, .rd false (sImm (sImm (sInt .i64))) v_x3_Classifier_Sets_Actions x3.Classifier.Sets.Actions, .rd false (sImm (sImm (sImm (sInt .i64)))) v_x3_Classifier_Sieves x3.Classifier.Sieves, .rd false (sImm (sInt .i64)) v_x3_C_From x3.C.From, .rd false (sImm (sInt .i64)) v_x3_C_To x3.C.To, .rd false (sImm (sInt .i64)) v_x3_C_Identity x3.C.Identity, .rd false (sImm (sImm (sInt .i64))) v_x3_C_Composites x3.C.Composites, .rd false (sImm (sImm sBool)) v_x3_Covers x3.Covers] (fun y (_ : Unit) => []) (fun y _ => [.row b_x2 [.bool y] 4]) := by
  refine ctv (owt fun _ _ => rfl) Tryz.func309 rfl rfl ?_
  repeat' first
    | intro _
    | exact rfl
    | (refine @id.{0} _ ?_; constructor)
    | exact ()
theorem c160 {x0 : MTopology} {v_x0_Shape_From : Value} {v_x0_Shape_To : Value} {v_x0_Shape_Identity : Value} {v_x0_Shape_Composites : Value} {v_x0_Covers : Value} : Ct Tryz.prog 160 true (spec_l27Least x0) [.agg #[.int .i64 (x0.Shape.Objects), v_x0_Shape_From, v_x0_Shape_To, v_x0_Shape_Identity, v_x0_Shape_Composites, v_x0_Covers]] [.rd false (sImm (sInt .i64)) v_x0_Shape_From x0.Shape.From, .rd false (sImm (sInt .i64)) v_x0_Shape_To x0.Shape.To, .rd false (sImm (sInt .i64)) v_x0_Shape_Identity x0.Shape.Identity, .rd false (sImm (sImm (sInt .i64))) v_x0_Shape_Composites x0.Shape.Composites, .rd false (sImm (sImm (sImm (sInt .i64)))) v_x0_Covers x0.Covers] (fun y (v : Value) => [v]) (fun y v => [.own (sOwn 22 (sOwn 2 (sInt .i64))) v y]) := by
  refine ct (S := Unit) (owt fun _ _ => rfl) Tryz.func160 rfl rfl ?_
  repeat' first
    | intro _
    | exact rfl
    | (refine @id.{0} _ ?_; constructor)
    | apply Dk.loop 0 (V := Value) (fun (s : (List (List Int)) × Int) v => [.own (sOwn 22 (sOwn 2 (sInt .i64))) v s.1]) (fun s v => [(3, v), (4, .int .i64 (s.2))]) _ [(1, _)]
    | apply Dk.loop 2 (V := Value) (fun (s : (List Int) × Int) v => [.own (sOwn 2 (sInt .i64)) v s.1]) (fun s v => [(6, v), (7, .int .i64 (s.2))]) _ [(1, _), (3, _), (4, _), (5, _)]
    | apply Dk.loop 4 (V := Unit) (fun (s : Bool × Int) v => []) (fun s v => [(8, .bool (s.1)), (9, .int .i64 (s.2))]) () [(1, _), (3, _), (4, _), (5, _), (6, _), (7, _)]
    | apply Dk.quiet (id := 14) (by kernel_rfl)
    | apply c220
    | apply c201
    | exact ()
end Go.Proofs.YtdlhbbhdfnnmnaaGreat
