/- Walks by the calculus D. No condition beside those that each theorem names. -/
import Derived.Test.YtdlhbbhdfnnmnaaGreatDi
import Derived.Test.YtdlhbbhdfnnmnaaGreatMo
import Derived.Test.YtdlhbbhdfnnmnaaGreatDs
import Derived.Test.YtdlhbbhdfnnmnaaGreatSo
import Derived.Test.YtdlhbbhdfnnmnaaGreatWa
import Derived.Test.YtdlhbbhdfnnmnaaGreatWb
import Derived.Test.YtdlhbbhdfnnmnaaGreatWc
import Derived.Test.YtdlhbbhdfnnmnaaGreatWd
import Derived.Test.YtdlhbbhdfnnmnaaGreatWe
import Derived.Test.YtdlhbbhdfnnmnaaGreatWg
import Derived.Test.YtdlhbbhdfnnmnaaGreatWh
namespace Go.Proofs.YtdlhbbhdfnnmnaaGreat
open Go Go.Li Go.Dk
set_option linter.unusedVariables false
set_option maxHeartbeats 1000000
set_option maxRecDepth 100000
theorem c301_k302 {x0 : (List (List Int))} {v_x0 : Value} {q_x1 : (List Int)} {q_p_x1 : Addr} {q_v_x1 : Value} : Ct Tryz.prog 301 true (slices_ContainsFunc___impl_sieve_impl_sieve_ x0 (fun a0 => impl_Category_sieves_1 a0 q_x1)) [v_x0, .func (.func 302) #[] #[.pointer (some (q_p_x1))]] [.rd false (sImm (sImm (sInt .i64))) v_x0 x0, .ats q_p_x1 [q_v_x1], .rd false (sImm (sInt .i64)) q_v_x1 q_x1] (fun y (_ : Unit) => [.bool y]) (fun y _ => []) := by
  refine ct (S := Unit) (owt fun _ _ => rfl) Tryz.func301 rfl rfl ?_
  repeat' first
    | intro _
    | exact rfl
    | (refine @id.{0} _ ?_; constructor)
    | apply c208_k302
    | apply c302
    | exact ()
theorem c206 {x0 : MCategory} {p_x0 : Addr} {v_x0_From : Value} {v_x0_To : Value} {v_x0_Identity : Value} {v_x0_Composites : Value} {x1 : Int} : Ct Tryz.prog 206 true (impl_Category_sieves x0 x1) [.pointer (some (p_x0)), .int .i64 (x1)] [.ats p_x0 [.int .i64 (x0.Objects), v_x0_From, v_x0_To, v_x0_Identity, v_x0_Composites], .rd false (sImm (sInt .i64)) v_x0_From x0.From, .rd false (sImm (sInt .i64)) v_x0_To x0.To, .rd false (sImm (sInt .i64)) v_x0_Identity x0.Identity, .rd false (sImm (sImm (sInt .i64))) v_x0_Composites x0.Composites] (fun y (v : Value) => [v, .bool y.2]) (fun y v => [.own (sOwn 157 (sOwn 2 (sInt .i64))) v y.1]) := by
  refine ct (S := Unit) (owt fun _ _ => rfl) Tryz.func206 rfl rfl ?_
  repeat' first
    | intro _
    | exact rfl
    | (refine @id.{0} _ ?_; constructor)
    | apply Dk.loop 0 (V := Value) (fun (s : (List (List Int)) × Int) v => [.own (sOwn 157 (sOwn 2 (sInt .i64))) v s.1]) (fun s v => [(6, v), (7, .int .i64 (s.2))]) _ [(0, _), (1, _)]
    | apply Dk.loop 2 (V := Value) (fun (s : (List (List Int)) × Int) v => [.own (sOwn 157 (sOwn 2 (sInt .i64))) v s.1]) (fun s v => [(6, v), (23, .int .i64 (s.2))]) _ [(0, _), (1, _), (7, _), (21, _), (22, _)]
    | apply c210
    | apply c176
    | apply c300
    | apply c303
    | apply c302
    | apply c301_k302
    | exact ()
theorem c108 {x0 : MClassifier} {p_x0 : Addr} {v_x0_Sets_Shape_From : Value} {v_x0_Sets_Shape_To : Value} {v_x0_Sets_Shape_Identity : Value} {v_x0_Sets_Shape_Composites : Value} {v_x0_Sets_Sizes : Value} {v_x0_Sets_Actions : Value} {v_x0_Sieves : Value} {x1 : Int} {x2 : (List Int)} {v_x2 : Value} : Ct Tryz.prog 108 true (impl_classifier_number x0 x1 x2) [.pointer (some (p_x0)), .int .i64 (x1), v_x2] [.ats p_x0 [.int .i64 (x0.Sets.Shape.Objects), v_x0_Sets_Shape_From, v_x0_Sets_Shape_To, v_x0_Sets_Shape_Identity, v_x0_Sets_Shape_Composites, v_x0_Sets_Sizes, v_x0_Sets_Actions, v_x0_Sieves], .rd false (sImm (sInt .i64)) v_x0_Sets_Shape_From x0.Sets.Shape.From, .rd false (sImm (sInt .i64)) v_x0_Sets_Shape_To x0.Sets.Shape.To, .rd false (sImm (sInt .i64)) v_x0_Sets_Shape_Identity x0.Sets.Shape.Identity, .rd false (sImm (sImm (sInt .i64))) v_x0_Sets_Shape_Composites x0.Sets.Shape.Composites, .rd false (sImm (sInt .i64)) v_x0_Sets_Sizes x0.Sets.Sizes, .rd false (sImm (sImm (sInt .i64))) v_x0_Sets_Actions x0.Sets.Actions, .rd false (sImm (sImm (sImm (sInt .i64)))) v_x0_Sieves x0.Sieves, .rd false (sImm (sInt .i64)) v_x2 x2] (fun y (_ : Unit) => [.int .i64 y]) (fun y _ => []) := by
  refine ct (S := Unit) (owt fun _ _ => rfl) Tryz.func108 rfl rfl ?_
  repeat' first
    | intro _
    | exact rfl
    | (refine @id.{0} _ ?_; constructor)
    | apply c209
    | apply c208_k209
    | exact ()
theorem c107 {x0 : MCategory} {p_x0 : Addr} {v_x0_From : Value} {v_x0_To : Value} {v_x0_Identity : Value} {v_x0_Composites : Value} : Ct Tryz.prog 107 true (impl_Category_classifier x0) [.pointer (some (p_x0))] [.ats p_x0 [.int .i64 (x0.Objects), v_x0_From, v_x0_To, v_x0_Identity, v_x0_Composites], .rd false (sImm (sInt .i64)) v_x0_From x0.From, .rd false (sImm (sInt .i64)) v_x0_To x0.To, .rd false (sImm (sInt .i64)) v_x0_Identity x0.Identity, .rd false (sImm (sImm (sInt .i64))) v_x0_Composites x0.Composites] (fun y (v : Nat × Value × Value × Value × Value × Value × Value × Value) => [(match y.1 with | none => Value.pointer none | some _ => .pointer (some (⟨v.1, 0, none⟩))), .bool y.2]) (fun y v => match y.1 with | none => [] | some m0 => [.row v.1 [.int .i64 (m0.Sets.Shape.Objects), v.2.1, v.2.2.1, v.2.2.2.1, v.2.2.2.2.1, v.2.2.2.2.2.1, v.2.2.2.2.2.2.1, v.2.2.2.2.2.2.2] 162, .own (sOwn 2 (sInt .i64)) v.2.1 m0.Sets.Shape.From, .own (sOwn 2 (sInt .i64)) v.2.2.1 m0.Sets.Shape.To, .own (sOwn 2 (sInt .i64)) v.2.2.2.1 m0.Sets.Shape.Identity, .own (sOwn 22 (sOwn 2 (sInt .i64))) v.2.2.2.2.1 m0.Sets.Shape.Composites, .own (sOwn 2 (sInt .i64)) v.2.2.2.2.2.1 m0.Sets.Sizes, .own (sOwn 22 (sOwn 2 (sInt .i64))) v.2.2.2.2.2.2.1 m0.Sets.Actions, .own (sOwn 189 (sOwn 157 (sOwn 2 (sInt .i64)))) v.2.2.2.2.2.2.2 m0.Sieves]) := by
  refine ct (S := Unit) (by intro _ y v; obtain ⟨_ | _, _⟩ := y <;> rfl) Tryz.func107 rfl rfl ?_
  repeat' first
    | intro _
    | exact rfl
    | (refine @id.{0} _ ?_; constructor)
    | apply Dk.loopA 0 (V := Value × Value) (A := Nat × Value × Value × Value × Value × Value × Value) (_, _, _, _, _, _, _) (fun a (s : Int × (List Int) × (List (List (List Int)))) v => Dk.pc (fun a0 => Dk.pc (fun a1 => Dk.pc (fun a2 => Dk.pc (fun a3 => Dk.pc (fun a4 => Dk.pc (fun a5 a6 => [.row a0 [a1, a2, a3, a4, a5, v.1, a6, v.2] 162, .own (sOwn 2 (sInt .i64)) v.1 s.2.1, .own (sOwn 189 (sOwn 157 (sOwn 2 (sInt .i64)))) v.2 s.2.2])))))) a) (fun a s v => Dk.pc (fun a0 => Dk.pc (fun a1 => Dk.pc (fun a2 => Dk.pc (fun a3 => Dk.pc (fun a4 => Dk.pc (fun a5 a6 => [(4, .pointer (some ⟨a0, 0, none⟩)), (5, .int .i64 (s.1))])))))) a) (_, _) [(0, _)]
    | apply Dk.loopA 2 (V := Value) (A := Nat × Value × Value × Value × Value × Value × Value × Value) (_, _, _, _, _, _, _, _) (fun a (s : Int × (List (List Int))) v => Dk.pc (fun a0 => Dk.pc (fun a1 => Dk.pc (fun a2 => Dk.pc (fun a3 => Dk.pc (fun a4 => Dk.pc (fun a5 => Dk.pc (fun a6 a7 => [.row a0 [a1, a2, a3, a4, a5, a6, v, a7] 162, .own (sOwn 22 (sOwn 2 (sInt .i64))) v s.2]))))))) a) (fun a s v => Dk.pc (fun a0 => Dk.pc (fun a1 => Dk.pc (fun a2 => Dk.pc (fun a3 => Dk.pc (fun a4 => Dk.pc (fun a5 => Dk.pc (fun a6 a7 => [(4, .pointer (some ⟨a0, 0, none⟩)), (61, .int .i64 (s.1))]))))))) a) _ [(0, _), (60, _)]
    | apply Dk.loop 4 (V := Value) (fun (s : (List Int) × Int) v => [.own (sOwn 2 (sInt .i64)) v s.1]) (fun s v => [(9, v), (79, .int .i64 (s.2))]) _ [(0, _), (4, _), (8, _), (60, _), (61, _), (77, _), (78, _)]
    | apply Dk.quiet (id := 14) (by kernel_rfl)
    | apply Dk.any (id := 17) 15 [] [] [[], [], [], [2], [3, 2], [4, 3, 2], [], [5, 4, 3, 2, 6], [7, 5, 4, 3, 2, 6], [], [], [], [9, 10, 11], [1, 8, 7, 5, 4, 3, 2, 6, 12, 9, 10, 11, 12, 9, 10, 11], [13, 1, 8, 7, 5, 4, 3, 2, 6, 12, 9, 10, 11, 12, 9, 10, 11]] (by kernel_rfl)
    | apply c173
    | apply c206
    | apply c207
    | apply c108
    | exact ()
  all_goals try first | exact Value.nilFunc | exact (0 : Nat)
theorem c146 {x0 : MCategory} {p_x0 : Addr} {v_x0_From : Value} {v_x0_To : Value} {v_x0_Identity : Value} {v_x0_Composites : Value} : Ct Tryz.prog 146 true (impl_coverageOf x0) [.pointer (some (p_x0))] [.ats p_x0 [.int .i64 (x0.Objects), v_x0_From, v_x0_To, v_x0_Identity, v_x0_Composites], .rd false (sImm (sInt .i64)) v_x0_From x0.From, .rd false (sImm (sInt .i64)) v_x0_To x0.To, .rd false (sImm (sInt .i64)) v_x0_Identity x0.Identity, .rd false (sImm (sImm (sInt .i64))) v_x0_Composites x0.Composites] (fun y (v : Nat × Nat × Value × Value × Value × Value × Value × Value × Value × Value × Nat) => [(match y.1 with | none => Value.pointer none | some _ => .pointer (some (⟨v.1, 0, none⟩))), .bool y.2]) (fun y v => match y.1 with | none => [] | some m0 => [.row v.1 [.pointer (some (⟨v.2.1, 0, none⟩)), .pointer (some (p_x0)), v.2.2.2.2.2.2.2.2.2.1, .pointer (some (⟨v.2.2.2.2.2.2.2.2.2.2, 0, none⟩))] 217, .row v.2.2.2.2.2.2.2.2.2.2 [.int .i64 (m0.Count)] 297, .row v.2.1 [.int .i64 (m0.Classifier.Sets.Shape.Objects), v.2.2.1, v.2.2.2.1, v.2.2.2.2.1, v.2.2.2.2.2.1, v.2.2.2.2.2.2.1, v.2.2.2.2.2.2.2.1, v.2.2.2.2.2.2.2.2.1] 162, .own (sOwn 2 (sInt .i64)) v.2.2.1 m0.Classifier.Sets.Shape.From, .own (sOwn 2 (sInt .i64)) v.2.2.2.1 m0.Classifier.Sets.Shape.To, .own (sOwn 2 (sInt .i64)) v.2.2.2.2.1 m0.Classifier.Sets.Shape.Identity, .own (sOwn 22 (sOwn 2 (sInt .i64))) v.2.2.2.2.2.1 m0.Classifier.Sets.Shape.Composites, .own (sOwn 2 (sInt .i64)) v.2.2.2.2.2.2.1 m0.Classifier.Sets.Sizes, .own (sOwn 22 (sOwn 2 (sInt .i64))) v.2.2.2.2.2.2.2.1 m0.Classifier.Sets.Actions, .own (sOwn 189 (sOwn 157 (sOwn 2 (sInt .i64)))) v.2.2.2.2.2.2.2.2.1 m0.Classifier.Sieves, .own (sOwn 213 (sOwn 4 sBool)) v.2.2.2.2.2.2.2.2.2.1 m0.Covers]) := by
  refine ct (S := Unit) (by intro _ y v; obtain ⟨_ | _, _⟩ := y <;> rfl) Tryz.func146 rfl rfl ?_
  repeat' first
    | intro _
    | exact rfl
    | (refine @id.{0} _ ?_; constructor)
    | apply Dk.loopA 0 (V := Value) (A := Nat × Value × Value × Value) (_, _, _, _) (fun a (s : Int × (List (List Bool))) v => Dk.pc (fun a0 => Dk.pc (fun a1 => Dk.pc (fun a2 a3 => [.row a0 [a1, a2, v, a3] 217, .own (sOwn 213 (sOwn 4 sBool)) v s.2]))) a) (fun a s v => Dk.pc (fun a0 => Dk.pc (fun a1 => Dk.pc (fun a2 a3 => [(6, .pointer (some ⟨a0, 0, none⟩)), (26, .int .i64 (s.1))]))) a) _ [(24, _), (25, _)]
    | apply Dk.any (id := 8) 9 [0] [] [[], [], [1], [2, 1], [3, 2, 1], [], [5], [6, 5, 6, 5], [7, 6, 5, 6, 5]] (by kernel_rfl)
    | apply c107
    | exact ()
  all_goals try first | exact Value.nilFunc | exact (0 : Nat)
theorem c230 {x0 : MTopology} {p_x0 : Addr} {v_x0_Shape_From : Value} {v_x0_Shape_To : Value} {v_x0_Shape_Identity : Value} {v_x0_Shape_Composites : Value} {v_x0_Covers : Value} : Ct Tryz.prog 230 true (impl_Topology_coverage x0) [.pointer (some (p_x0))] [.ats p_x0 [.int .i64 (x0.Shape.Objects), v_x0_Shape_From, v_x0_Shape_To, v_x0_Shape_Identity, v_x0_Shape_Composites, v_x0_Covers], .rd false (sImm (sInt .i64)) v_x0_Shape_From x0.Shape.From, .rd false (sImm (sInt .i64)) v_x0_Shape_To x0.Shape.To, .rd false (sImm (sInt .i64)) v_x0_Shape_Identity x0.Shape.Identity, .rd false (sImm (sImm (sInt .i64))) v_x0_Shape_Composites x0.Shape.Composites, .rd false (sImm (sImm (sImm (sInt .i64)))) v_x0_Covers x0.Covers] (fun y (v : Nat × Nat × Value × Value × Value × Value × Value × Value × Value × Value × Nat) => [(match y.1 with | none => Value.pointer none | some _ => .pointer (some (⟨v.1, 0, none⟩))), .bool y.2]) (fun y v => match y.1 with | none => [] | some m0 => [.row v.1 [.pointer (some (⟨v.2.1, 0, none⟩)), .pointer (some ((p_x0.add 0))), v.2.2.2.2.2.2.2.2.2.1, .pointer (some (⟨v.2.2.2.2.2.2.2.2.2.2, 0, none⟩))] 217, .row v.2.2.2.2.2.2.2.2.2.2 [.int .i64 (m0.Count)] 297, .row v.2.1 [.int .i64 (m0.Classifier.Sets.Shape.Objects), v.2.2.1, v.2.2.2.1, v.2.2.2.2.1, v.2.2.2.2.2.1, v.2.2.2.2.2.2.1, v.2.2.2.2.2.2.2.1, v.2.2.2.2.2.2.2.2.1] 162, .own (sOwn 2 (sInt .i64)) v.2.2.1 m0.Classifier.Sets.Shape.From, .own (sOwn 2 (sInt .i64)) v.2.2.2.1 m0.Classifier.Sets.Shape.To, .own (sOwn 2 (sInt .i64)) v.2.2.2.2.1 m0.Classifier.Sets.Shape.Identity, .own (sOwn 22 (sOwn 2 (sInt .i64))) v.2.2.2.2.2.1 m0.Classifier.Sets.Shape.Composites, .own (sOwn 2 (sInt .i64)) v.2.2.2.2.2.2.1 m0.Classifier.Sets.Sizes, .own (sOwn 22 (sOwn 2 (sInt .i64))) v.2.2.2.2.2.2.2.1 m0.Classifier.Sets.Actions, .own (sOwn 189 (sOwn 157 (sOwn 2 (sInt .i64)))) v.2.2.2.2.2.2.2.2.1 m0.Classifier.Sieves, .own (sOwn 213 (sOwn 4 sBool)) v.2.2.2.2.2.2.2.2.2.1 m0.Covers]) := by
  refine ct (S := Unit) (by intro _ y v; obtain ⟨_ | _, _⟩ := y <;> rfl) Tryz.func230 rfl rfl ?_
  repeat' first
    | intro _
    | exact rfl
    | (refine @id.{0} _ ?_; constructor)
    | apply Dk.loop 0 (V := Unit) (fun (s : Int) v => []) (fun s v => [(24, .int .i64 (s))]) () [(4, _), (22, _), (23, _)]
    | apply Dk.loopA 0 (V := Unit) (A := Nat × Value) (_, _) (fun a (s : Int × Int × (List (List Bool))) v => Dk.pc (fun a0 a1 => [.row a0 [.int .i64 (s.2.1)] 297, .own (sOwn 213 (sOwn 4 sBool)) a1 s.2.2]) a) (fun a s v => Dk.pc (fun a0 a1 => [(24, .int .i64 (s.1))]) a) () [(4, _), (22, _), (23, _)]
    | apply Dk.loop 2 (V := Unit) (fun (s : Unit) v => []) (fun s v => []) () [(4, _), (6, _), (22, _), (23, _), (24, _), (29, _), (30, _), (31, _)]
    | apply Dk.loopA 2 (V := Unit) (A := Nat × Value) (_, _) (fun a (s : Int × Int × (List (List Bool))) v => Dk.pc (fun a0 a1 => [.row a0 [.int .i64 (s.2.1)] 297, .own (sOwn 213 (sOwn 4 sBool)) a1 s.2.2]) a) (fun a s v => Dk.pc (fun a0 a1 => [(31, .int .i64 (s.1))]) a) () [(4, _), (6, _), (22, _), (23, _), (24, _), (29, _), (30, _)]
    | apply c146
    | apply c108
    | apply c157
    | exact ()
  all_goals try first | exact Value.nilFunc | exact (0 : Nat)
theorem c262 {x0 : MCoverage} {p_x0 : Addr} {p_x0_Classifier : Addr} {v_x0_Classifier_Sets_Shape_From : Value} {v_x0_Classifier_Sets_Shape_To : Value} {v_x0_Classifier_Sets_Shape_Identity : Value} {v_x0_Classifier_Sets_Shape_Composites : Value} {v_x0_Classifier_Sets_Sizes : Value} {v_x0_Classifier_Sets_Actions : Value} {v_x0_Classifier_Sieves : Value} {p_x0_C : Addr} {v_x0_C_From : Value} {v_x0_C_To : Value} {v_x0_C_Identity : Value} {v_x0_C_Composites : Value} {v_x0_Covers : Value} {p_x0_Count : Addr} {x1 : Int} {x2 : (List Int)} {v_x2 : Value} : Ct Tryz.prog 262 true (impl_coverage_is x0 x1 x2) [.pointer (some (p_x0)), .int .i64 (x1), v_x2] [.ats p_x0 [.pointer (some (p_x0_Classifier)), .pointer (some (p_x0_C)), v_x0_Covers, .pointer (some (p_x0_Count))], .ats p_x0_Count [.int .i64 (x0.Count)], .ats p_x0_C [.int .i64 (x0.C.Objects), v_x0_C_From, v_x0_C_To, v_x0_C_Identity, v_x0_C_Composites], .ats p_x0_Classifier [.int .i64 (x0.Classifier.Sets.Shape.Objects), v_x0_Classifier_Sets_Shape_From, v_x0_Classifier_Sets_Shape_To, v_x0_Classifier_Sets_Shape_Identity, v_x0_Classifier_Sets_Shape_Composites, v_x0_Classifier_Sets_Sizes, v_x0_Classifier_Sets_Actions, v_x0_Classifier_Sieves], .rd false (sImm (sInt .i64)) v_x0_Classifier_Sets_Shape_From x0.Classifier.Sets.Shape.From, .rd false (sImm (sInt .i64)) v_x0_Classifier_Sets_Shape_To x0.Classifier.Sets.Shape.To, .rd false (sImm (sInt .i64)) v_x0_Classifier_Sets_Shape_Identity x0.Classifier.Sets.Shape.Identity, .rd false (sImm (sImm (sInt .i64))) v_x0_Classifier_Sets_Shape_Composites x0.Classifier.Sets.Shape.Composites, .rd false (sImm (sInt .i64)) v_x0_Classifier_Sets_Sizes x0.Classifier.Sets.Sizes, .rd false (sImm (sImm (sInt .i64))) v_x0_Classifier_Sets_Actions x0.Classifier.Sets.Actions, .rd false (sImm (sImm (sImm (sInt .i64)))) v_x0_Classifier_Sieves x0.Classifier.Sieves, .rd false (sImm (sInt .i64)) v_x0_C_From x0.C.From, .rd false (sImm (sInt .i64)) v_x0_C_To x0.C.To, .rd false (sImm (sInt .i64)) v_x0_C_Identity x0.C.Identity, .rd false (sImm (sImm (sInt .i64))) v_x0_C_Composites x0.C.Composites, .rd false (sImm (sImm sBool)) v_x0_Covers x0.Covers, .rd false (sImm (sInt .i64)) v_x2 x2] (fun y (_ : Unit) => [.bool y]) (fun y _ => []) := by
  refine ct (S := Unit) (owt fun _ _ => rfl) Tryz.func262 rfl rfl ?_
  repeat' first
    | intro _
    | exact rfl
    | (refine @id.{0} _ ?_; constructor)
    | apply Dk.quiet (id := 1) (by kernel_rfl)
    | apply c108
    | exact ()
theorem c334 {x0 : MCoverage} {p_x0 : Addr} {p_x0_Classifier : Addr} {v_x0_Classifier_Sets_Shape_From : Value} {v_x0_Classifier_Sets_Shape_To : Value} {v_x0_Classifier_Sets_Shape_Identity : Value} {v_x0_Classifier_Sets_Shape_Composites : Value} {v_x0_Classifier_Sets_Sizes : Value} {v_x0_Classifier_Sets_Actions : Value} {v_x0_Classifier_Sieves : Value} {p_x0_C : Addr} {v_x0_C_From : Value} {v_x0_C_To : Value} {v_x0_C_Identity : Value} {v_x0_C_Composites : Value} {v_x0_Covers : Value} {p_x0_Count : Addr} {x1 : (List Int)} {v_x1 : Value} {x2 : (List Int)} {v_x2 : Value} : Ct Tryz.prog 334 true (impl_coverage_locally x0 x1 x2) [.pointer (some (p_x0)), v_x1, v_x2] [.ats p_x0 [.pointer (some (p_x0_Classifier)), .pointer (some (p_x0_C)), v_x0_Covers, .pointer (some (p_x0_Count))], .ats p_x0_Count [.int .i64 (x0.Count)], .ats p_x0_C [.int .i64 (x0.C.Objects), v_x0_C_From, v_x0_C_To, v_x0_C_Identity, v_x0_C_Composites], .ats p_x0_Classifier [.int .i64 (x0.Classifier.Sets.Shape.Objects), v_x0_Classifier_Sets_Shape_From, v_x0_Classifier_Sets_Shape_To, v_x0_Classifier_Sets_Shape_Identity, v_x0_Classifier_Sets_Shape_Composites, v_x0_Classifier_Sets_Sizes, v_x0_Classifier_Sets_Actions, v_x0_Classifier_Sieves], .rd false (sImm (sInt .i64)) v_x0_Classifier_Sets_Shape_From x0.Classifier.Sets.Shape.From, .rd false (sImm (sInt .i64)) v_x0_Classifier_Sets_Shape_To x0.Classifier.Sets.Shape.To, .rd false (sImm (sInt .i64)) v_x0_Classifier_Sets_Shape_Identity x0.Classifier.Sets.Shape.Identity, .rd false (sImm (sImm (sInt .i64))) v_x0_Classifier_Sets_Shape_Composites x0.Classifier.Sets.Shape.Composites, .rd false (sImm (sInt .i64)) v_x0_Classifier_Sets_Sizes x0.Classifier.Sets.Sizes, .rd false (sImm (sImm (sInt .i64))) v_x0_Classifier_Sets_Actions x0.Classifier.Sets.Actions, .rd false (sImm (sImm (sImm (sInt .i64)))) v_x0_Classifier_Sieves x0.Classifier.Sieves, .rd false (sImm (sInt .i64)) v_x0_C_From x0.C.From, .rd false (sImm (sInt .i64)) v_x0_C_To x0.C.To, .rd false (sImm (sInt .i64)) v_x0_C_Identity x0.C.Identity, .rd false (sImm (sImm (sInt .i64))) v_x0_C_Composites x0.C.Composites, .rd false (sImm (sImm sBool)) v_x0_Covers x0.Covers, .rd false (sImm (sInt .i64)) v_x1 x1, .rd false (sImm (sInt .i64)) v_x2 x2] (fun y (_ : Unit) => [.bool y]) (fun y _ => []) := by
  refine ct (S := Unit) (owt fun _ _ => rfl) Tryz.func334 rfl rfl ?_
  repeat' first
    | intro _
    | exact rfl
    | (refine @id.{0} _ ?_; constructor)
    | apply Dk.loop 0 (V := Unit) (fun (s : Int) v => []) (fun s v => [(11, .int .i64 (s))]) () [(0, _), (1, _), (9, _), (10, _)]
    | apply Dk.any (id := 4) 18 [] [] [[], [], [1], [2, 1], [3, 2, 1], [4, 3, 2, 1], [5, 4, 3, 2, 1], [6, 5, 4, 3, 2, 1], [], [7, 6, 5, 4, 3, 2, 1, 8], [9, 7, 6, 5, 4, 3, 2, 1, 8], [], [11], [12, 11], [13, 12, 11], [], [], [14, 13, 12, 11, 15, 16]] (by kernel_rfl)
    | apply c207
    | apply c262
    | exact ()
theorem c308_isTop {x0 : MCoverage} {p_x0 : Addr} {p_x0_Classifier : Addr} {v_x0_Classifier_Sets_Shape_From : Value} {v_x0_Classifier_Sets_Shape_To : Value} {v_x0_Classifier_Sets_Shape_Identity : Value} {v_x0_Classifier_Sets_Shape_Composites : Value} {v_x0_Classifier_Sets_Sizes : Value} {v_x0_Classifier_Sets_Actions : Value} {v_x0_Classifier_Sieves : Value} {p_x0_C : Addr} {v_x0_C_From : Value} {v_x0_C_To : Value} {v_x0_C_Identity : Value} {v_x0_C_Composites : Value} {v_x0_Covers : Value} {p_x0_Count : Addr} {x1a : Bool} {b_x1a : Nat} {p_x1b : Addr} : Ct Tryz.prog 308 true (impl_coverage_follows_isTop x0 x1a) [.pointer (some (p_x0)), .func (.func 309) #[] #[.pointer (some (⟨b_x1a, 0, none⟩)), .pointer (some (p_x1b))]] [.ats p_x1b [.pointer (some (p_x0))], .row b_x1a [.bool (x1a)] 4, .ats p_x0 [.pointer (some (p_x0_Classifier)), .pointer (some (p_x0_C)), v_x0_Covers, .pointer (some (p_x0_Count))], .ats p_x0_Count [.int .i64 (x0.Count)], .ats p_x0_C [.int .i64 (x0.C.Objects), v_x0_C_From, v_x0_C_To, v_x0_C_Identity, v_x0_C_Composites], .ats p_x0_Classifier [.int .i64 (x0.Classifier.Sets.Shape.Objects), v_x0_Classifier_Sets_Shape_From, v_x0_Classifier_Sets_Shape_To, v_x0_Classifier_Sets_Shape_Identity, v_x0_Classifier_Sets_Shape_Composites, v_x0_Classifier_Sets_Sizes, v_x0_Classifier_Sets_Actions, v_x0_Classifier_Sieves], .rd false (sImm (sInt .i64)) v_x0_Classifier_Sets_Shape_From x0.Classifier.Sets.Shape.From, .rd false (sImm (sInt .i64)) v_x0_Classifier_Sets_Shape_To x0.Classifier.Sets.Shape.To, .rd false (sImm (sInt .i64)) v_x0_Classifier_Sets_Shape_Identity x0.Classifier.Sets.Shape.Identity, .rd false (sImm (sImm (sInt .i64))) v_x0_Classifier_Sets_Shape_Composites x0.Classifier.Sets.Shape.Composites, .rd false (sImm (sInt .i64)) v_x0_Classifier_Sets_Sizes x0.Classifier.Sets.Sizes, .rd false (sImm (sImm (sInt .i64))) v_x0_Classifier_Sets_Actions x0.Classifier.Sets.Actions, .rd false (sImm (sImm (sImm (sInt .i64)))) v_x0_Classifier_Sieves x0.Classifier.Sieves, .rd false (sImm (sInt .i64)) v_x0_C_From x0.C.From, .rd false (sImm (sInt .i64)) v_x0_C_To x0.C.To, .rd false (sImm (sInt .i64)) v_x0_C_Identity x0.C.Identity, .rd false (sImm (sImm (sInt .i64))) v_x0_C_Composites x0.C.Composites, .rd false (sImm (sImm sBool)) v_x0_Covers x0.Covers] (fun y (_ : Unit) => []) (fun y _ => [.row b_x1a [.bool y] 4]) := by
  refine ctv (owt fun _ _ => rfl) Tryz.func308 rfl rfl ?_
  repeat' first
    | intro _
    | exact rfl
    | (refine @id.{0} _ ?_; constructor)
    | apply Dk.loop 0 (V := Unit) (fun (s : Int × Bool) v => [.row b_x1a [.bool (s.2)] 4]) (fun s v => [(20, .int .i64 (s.1))]) () [(0, _), (1, _), (18, _), (19, _)]
    | apply Dk.loop 2 (V := Unit) (fun (s : Int × Bool) v => [.row b_x1a [.bool (s.2)] 4]) (fun s v => [(38, .int .i64 (s.1))]) () [(0, _), (1, _), (37, _)]
    | apply Dk.loop 4 (V := Unit) (fun (s : Int × Bool) v => [.row b_x1a [.bool (s.2)] 4]) (fun s v => [(59, .int .i64 (s.1))]) () [(0, _), (1, _), (6, _), (37, _), (38, _), (57, _), (58, _)]
    | apply Dk.loop 6 (V := Unit) (fun (s : Int × Bool) v => [.row b_x1a [.bool (s.2)] 4]) (fun s v => [(101, .int .i64 (s.1))]) () [(0, _), (1, _), (99, _), (100, _)]
    | apply Dk.loop 8 (V := Unit) (fun (s : Int × Bool) v => [.row b_x1a [.bool (s.2)] 4]) (fun s v => [(108, .int .i64 (s.1))]) () [(0, _), (1, _), (9, _), (10, _), (99, _), (100, _), (101, _), (107, _)]
    | apply Dk.loop 10 (V := Unit) (fun (s : Int × Bool) v => [.row b_x1a [.bool (s.2)] 4]) (fun s v => [(120, .int .i64 (s.1))]) () [(0, _), (1, _), (9, _), (10, _), (11, _), (99, _), (100, _), (101, _), (107, _), (108, _), (118, _), (119, _)]
    | apply Dk.quiet (id := 24) (by kernel_rfl)
    | apply Dk.any (id := 8) 19 [] [] [[], [0], [1, 0], [2, 1, 0], [], [4], [5, 4], [6, 5, 4], [7, 6, 5, 4], [8, 7, 6, 5, 4], [9, 8, 7, 6, 5, 4], [], [10, 9, 8, 7, 6, 5, 4, 11], [12, 10, 9, 8, 7, 6, 5, 4, 11], [3, 2, 1, 0, 13, 12, 10, 9, 8, 7, 6, 5, 4, 11], [14, 3, 2, 1, 0, 13, 12, 10, 9, 8, 7, 6, 5, 4, 11], [15, 14, 3, 2, 1, 0, 13, 12, 10, 9, 8, 7, 6, 5, 4, 11], [16, 15, 14, 3, 2, 1, 0, 13, 12, 10, 9, 8, 7, 6, 5, 4, 11], []] (by kernel_rfl)
    | apply Dk.any (id := 12) 25 [] [] [[], [], [1], [2, 1], [3, 2, 1], [4, 3, 2, 1], [5, 4, 3, 2, 1], [6, 5, 4, 3, 2, 1], [], [7, 6, 5, 4, 3, 2, 1, 8], [9, 7, 6, 5, 4, 3, 2, 1, 8], [], [11], [12, 11], [13, 12, 11], [14, 13, 12, 11], [15, 14, 13, 12, 11], [16, 15, 14, 13, 12, 11], [17, 16, 15, 14, 13, 12, 11], [], [18, 17, 16, 15, 14, 13, 12, 11, 19], [20, 18, 17, 16, 15, 14, 13, 12, 11, 19], [], [21, 20, 18, 17, 16, 15, 14, 13, 12, 11, 19, 22], [23, 21, 20, 18, 17, 16, 15, 14, 13, 12, 11, 19, 22]] (by kernel_rfl)
    | apply c119
    | apply c312
    | apply c334
    | apply c309
    | exact ()
theorem c308_close {x0 : MCoverage} {p_x0 : Addr} {p_x0_Classifier : Addr} {v_x0_Classifier_Sets_Shape_From : Value} {v_x0_Classifier_Sets_Shape_To : Value} {v_x0_Classifier_Sets_Shape_Identity : Value} {v_x0_Classifier_Sets_Shape_Composites : Value} {v_x0_Classifier_Sets_Sizes : Value} {v_x0_Classifier_Sets_Actions : Value} {v_x0_Classifier_Sieves : Value} {p_x0_C : Addr} {v_x0_C_From : Value} {v_x0_C_To : Value} {v_x0_C_Identity : Value} {v_x0_C_Composites : Value} {v_x0_Covers : Value} {b_x0_Count : Nat} : Ct Tryz.prog 308 true (impl_coverage_follows_close x0) [.pointer (some (p_x0)), .func (.func 157) #[.pointer (some (p_x0))] #[]] [.ats p_x0 [.pointer (some (p_x0_Classifier)), .pointer (some (p_x0_C)), v_x0_Covers, .pointer (some (⟨b_x0_Count, 0, none⟩))], .row b_x0_Count [.int .i64 (x0.Count)] 297, .ats p_x0_C [.int .i64 (x0.C.Objects), v_x0_C_From, v_x0_C_To, v_x0_C_Identity, v_x0_C_Composites], .ats p_x0_Classifier [.int .i64 (x0.Classifier.Sets.Shape.Objects), v_x0_Classifier_Sets_Shape_From, v_x0_Classifier_Sets_Shape_To, v_x0_Classifier_Sets_Shape_Identity, v_x0_Classifier_Sets_Shape_Composites, v_x0_Classifier_Sets_Sizes, v_x0_Classifier_Sets_Actions, v_x0_Classifier_Sieves], .rd false (sImm (sInt .i64)) v_x0_Classifier_Sets_Shape_From x0.Classifier.Sets.Shape.From, .rd false (sImm (sInt .i64)) v_x0_Classifier_Sets_Shape_To x0.Classifier.Sets.Shape.To, .rd false (sImm (sInt .i64)) v_x0_Classifier_Sets_Shape_Identity x0.Classifier.Sets.Shape.Identity, .rd false (sImm (sImm (sInt .i64))) v_x0_Classifier_Sets_Shape_Composites x0.Classifier.Sets.Shape.Composites, .rd false (sImm (sInt .i64)) v_x0_Classifier_Sets_Sizes x0.Classifier.Sets.Sizes, .rd false (sImm (sImm (sInt .i64))) v_x0_Classifier_Sets_Actions x0.Classifier.Sets.Actions, .rd false (sImm (sImm (sImm (sInt .i64)))) v_x0_Classifier_Sieves x0.Classifier.Sieves, .rd false (sImm (sInt .i64)) v_x0_C_From x0.C.From, .rd false (sImm (sInt .i64)) v_x0_C_To x0.C.To, .rd false (sImm (sInt .i64)) v_x0_C_Identity x0.C.Identity, .rd false (sImm (sImm (sInt .i64))) v_x0_C_Composites x0.C.Composites, .own (sOwn 213 (sOwn 4 sBool)) v_x0_Covers x0.Covers] (fun y (_ : Unit) => []) (fun y _ => [.own (sOwn 213 (sOwn 4 sBool)) v_x0_Covers y.1, .row b_x0_Count [.int .i64 y.2] 297]) := by
  refine ctv (owt fun _ _ => rfl) Tryz.func308 rfl rfl ?_
  repeat' first
    | intro _
    | exact rfl
    | (refine @id.{0} _ ?_; constructor)
    | apply Dk.loop 0 (V := Unit) (fun (s : Int × Int × (List (List Bool))) v => [.row b_x0_Count [.int .i64 (s.2.1)] 297, .own (sOwn 213 (sOwn 4 sBool)) v_x0_Covers s.2.2]) (fun s v => [(20, .int .i64 (s.1))]) () [(0, _), (1, _), (18, _), (19, _)]
    | apply Dk.loop 2 (V := Unit) (fun (s : Int × Int × (List (List Bool))) v => [.row b_x0_Count [.int .i64 (s.2.1)] 297, .own (sOwn 213 (sOwn 4 sBool)) v_x0_Covers s.2.2]) (fun s v => [(38, .int .i64 (s.1))]) () [(0, _), (1, _), (37, _)]
    | apply Dk.loop 4 (V := Unit) (fun (s : Int × Int × (List (List Bool))) v => [.row b_x0_Count [.int .i64 (s.2.1)] 297, .own (sOwn 213 (sOwn 4 sBool)) v_x0_Covers s.2.2]) (fun s v => [(59, .int .i64 (s.1))]) () [(0, _), (1, _), (6, _), (37, _), (38, _), (57, _), (58, _)]
    | apply Dk.loop 6 (V := Unit) (fun (s : Int × Int × (List (List Bool))) v => [.row b_x0_Count [.int .i64 (s.2.1)] 297, .own (sOwn 213 (sOwn 4 sBool)) v_x0_Covers s.2.2]) (fun s v => [(101, .int .i64 (s.1))]) () [(0, _), (1, _), (99, _), (100, _)]
    | apply Dk.loop 8 (V := Unit) (fun (s : Int × Int × (List (List Bool))) v => [.row b_x0_Count [.int .i64 (s.2.1)] 297, .own (sOwn 213 (sOwn 4 sBool)) v_x0_Covers s.2.2]) (fun s v => [(108, .int .i64 (s.1))]) () [(0, _), (1, _), (9, _), (10, _), (99, _), (100, _), (101, _), (107, _)]
    | apply Dk.loop 10 (V := Unit) (fun (s : Int × Int × (List (List Bool))) v => [.row b_x0_Count [.int .i64 (s.2.1)] 297, .own (sOwn 213 (sOwn 4 sBool)) v_x0_Covers s.2.2]) (fun s v => [(120, .int .i64 (s.1))]) () [(0, _), (1, _), (9, _), (10, _), (11, _), (99, _), (100, _), (101, _), (107, _), (108, _), (118, _), (119, _)]
    | apply Dk.quiet (id := 24) (by kernel_rfl)
    | apply Dk.any (id := 8) 19 [] [] [[], [0], [1, 0], [2, 1, 0], [], [4], [5, 4], [6, 5, 4], [7, 6, 5, 4], [8, 7, 6, 5, 4], [9, 8, 7, 6, 5, 4], [], [10, 9, 8, 7, 6, 5, 4, 11], [12, 10, 9, 8, 7, 6, 5, 4, 11], [3, 2, 1, 0, 13, 12, 10, 9, 8, 7, 6, 5, 4, 11], [14, 3, 2, 1, 0, 13, 12, 10, 9, 8, 7, 6, 5, 4, 11], [15, 14, 3, 2, 1, 0, 13, 12, 10, 9, 8, 7, 6, 5, 4, 11], [16, 15, 14, 3, 2, 1, 0, 13, 12, 10, 9, 8, 7, 6, 5, 4, 11], []] (by kernel_rfl)
    | apply Dk.any (id := 12) 25 [] [] [[], [], [1], [2, 1], [3, 2, 1], [4, 3, 2, 1], [5, 4, 3, 2, 1], [6, 5, 4, 3, 2, 1], [], [7, 6, 5, 4, 3, 2, 1, 8], [9, 7, 6, 5, 4, 3, 2, 1, 8], [], [11], [12, 11], [13, 12, 11], [14, 13, 12, 11], [15, 14, 13, 12, 11], [16, 15, 14, 13, 12, 11], [17, 16, 15, 14, 13, 12, 11], [], [18, 17, 16, 15, 14, 13, 12, 11, 19], [20, 18, 17, 16, 15, 14, 13, 12, 11, 19], [], [21, 20, 18, 17, 16, 15, 14, 13, 12, 11, 19, 22], [23, 21, 20, 18, 17, 16, 15, 14, 13, 12, 11, 19, 22]] (by kernel_rfl)
    | apply c119
    | apply c312
    | apply c334
    | apply c157
    | exact ()
theorem c231 {x0 : MCoverage} {p_x0 : Addr} {p_x0_Classifier : Addr} {v_x0_Classifier_Sets_Shape_From : Value} {v_x0_Classifier_Sets_Shape_To : Value} {v_x0_Classifier_Sets_Shape_Identity : Value} {v_x0_Classifier_Sets_Shape_Composites : Value} {v_x0_Classifier_Sets_Sizes : Value} {v_x0_Classifier_Sets_Actions : Value} {v_x0_Classifier_Sieves : Value} {p_x0_C : Addr} {v_x0_C_From : Value} {v_x0_C_To : Value} {v_x0_C_Identity : Value} {v_x0_C_Composites : Value} {v_x0_Covers : Value} {p_x0_Count : Addr} : Ct Tryz.prog 231 true (impl_coverage_isTopology x0) [.pointer (some (p_x0))] [.ats p_x0 [.pointer (some (p_x0_Classifier)), .pointer (some (p_x0_C)), v_x0_Covers, .pointer (some (p_x0_Count))], .ats p_x0_Count [.int .i64 (x0.Count)], .ats p_x0_C [.int .i64 (x0.C.Objects), v_x0_C_From, v_x0_C_To, v_x0_C_Identity, v_x0_C_Composites], .ats p_x0_Classifier [.int .i64 (x0.Classifier.Sets.Shape.Objects), v_x0_Classifier_Sets_Shape_From, v_x0_Classifier_Sets_Shape_To, v_x0_Classifier_Sets_Shape_Identity, v_x0_Classifier_Sets_Shape_Composites, v_x0_Classifier_Sets_Sizes, v_x0_Classifier_Sets_Actions, v_x0_Classifier_Sieves], .rd false (sImm (sInt .i64)) v_x0_Classifier_Sets_Shape_From x0.Classifier.Sets.Shape.From, .rd false (sImm (sInt .i64)) v_x0_Classifier_Sets_Shape_To x0.Classifier.Sets.Shape.To, .rd false (sImm (sInt .i64)) v_x0_Classifier_Sets_Shape_Identity x0.Classifier.Sets.Shape.Identity, .rd false (sImm (sImm (sInt .i64))) v_x0_Classifier_Sets_Shape_Composites x0.Classifier.Sets.Shape.Composites, .rd false (sImm (sInt .i64)) v_x0_Classifier_Sets_Sizes x0.Classifier.Sets.Sizes, .rd false (sImm (sImm (sInt .i64))) v_x0_Classifier_Sets_Actions x0.Classifier.Sets.Actions, .rd false (sImm (sImm (sImm (sInt .i64)))) v_x0_Classifier_Sieves x0.Classifier.Sieves, .rd false (sImm (sInt .i64)) v_x0_C_From x0.C.From, .rd false (sImm (sInt .i64)) v_x0_C_To x0.C.To, .rd false (sImm (sInt .i64)) v_x0_C_Identity x0.C.Identity, .rd false (sImm (sImm (sInt .i64))) v_x0_C_Composites x0.C.Composites, .rd false (sImm (sImm sBool)) v_x0_Covers x0.Covers] (fun y (_ : Unit) => [.bool y]) (fun y _ => []) := by
  refine ct (S := Unit) (owt fun _ _ => rfl) Tryz.func231 rfl rfl ?_
  repeat' first
    | intro _
    | exact rfl
    | (refine @id.{0} _ ?_; constructor)
    | apply c308_isTop
    | apply c308_close
    | apply c309
    | exact ()
theorem c132 {x0 : MTopology} {p_x0 : Addr} {v_x0_Shape_From : Value} {v_x0_Shape_To : Value} {v_x0_Shape_Identity : Value} {v_x0_Shape_Composites : Value} {v_x0_Covers : Value} : Ct Tryz.prog 132 true (impl_limitCode x0) [.pointer (some (p_x0))] [.ats p_x0 [.int .i64 (x0.Shape.Objects), v_x0_Shape_From, v_x0_Shape_To, v_x0_Shape_Identity, v_x0_Shape_Composites, v_x0_Covers], .rd false (sImm (sInt .i64)) v_x0_Shape_From x0.Shape.From, .rd false (sImm (sInt .i64)) v_x0_Shape_To x0.Shape.To, .rd false (sImm (sInt .i64)) v_x0_Shape_Identity x0.Shape.Identity, .rd false (sImm (sImm (sInt .i64))) v_x0_Shape_Composites x0.Shape.Composites, .rd false (sImm (sImm (sImm (sInt .i64)))) v_x0_Covers x0.Covers] (fun y (v : Nat × Nat × Value × Value × Value × Value × Value × Value × Value × Value × Nat) => [(match y.1 with | none => Value.pointer none | some _ => .pointer (some (⟨v.1, 0, none⟩))), .int .i64 y.2]) (fun y v => match y.1 with | none => [] | some m0 => [.row v.1 [.pointer (some (⟨v.2.1, 0, none⟩)), .pointer (some ((p_x0.add 0))), v.2.2.2.2.2.2.2.2.2.1, .pointer (some (⟨v.2.2.2.2.2.2.2.2.2.2, 0, none⟩))] 217, .row v.2.2.2.2.2.2.2.2.2.2 [.int .i64 (m0.Count)] 297, .row v.2.1 [.int .i64 (m0.Classifier.Sets.Shape.Objects), v.2.2.1, v.2.2.2.1, v.2.2.2.2.1, v.2.2.2.2.2.1, v.2.2.2.2.2.2.1, v.2.2.2.2.2.2.2.1, v.2.2.2.2.2.2.2.2.1] 162, .own (sOwn 2 (sInt .i64)) v.2.2.1 m0.Classifier.Sets.Shape.From, .own (sOwn 2 (sInt .i64)) v.2.2.2.1 m0.Classifier.Sets.Shape.To, .own (sOwn 2 (sInt .i64)) v.2.2.2.2.1 m0.Classifier.Sets.Shape.Identity, .own (sOwn 22 (sOwn 2 (sInt .i64))) v.2.2.2.2.2.1 m0.Classifier.Sets.Shape.Composites, .own (sOwn 2 (sInt .i64)) v.2.2.2.2.2.2.1 m0.Classifier.Sets.Sizes, .own (sOwn 22 (sOwn 2 (sInt .i64))) v.2.2.2.2.2.2.2.1 m0.Classifier.Sets.Actions, .own (sOwn 189 (sOwn 157 (sOwn 2 (sInt .i64)))) v.2.2.2.2.2.2.2.2.1 m0.Classifier.Sieves, .own (sOwn 213 (sOwn 4 sBool)) v.2.2.2.2.2.2.2.2.2.1 m0.Covers]) := by
  refine ct (S := Unit) (by intro _ y v; obtain ⟨_ | _, _⟩ := y <;> rfl) Tryz.func132 rfl rfl ?_
  repeat' first
    | intro _
    | exact rfl
    | (refine @id.{0} _ ?_; constructor)
    | apply c230
    | apply c231
    | exact ()
  all_goals try first | exact Value.nilFunc | exact (0 : Nat)
end Go.Proofs.YtdlhbbhdfnnmnaaGreat
