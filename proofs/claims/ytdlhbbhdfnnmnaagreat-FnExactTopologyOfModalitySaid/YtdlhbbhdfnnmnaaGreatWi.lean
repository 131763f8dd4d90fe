/- Walks by the calculus D. No condition beside those that each theorem names. -/
import Derived.Test.YtdlhbbhdfnnmnaaGreatDi
import Derived.Test.YtdlhbbhdfnnmnaaGreatMo
import Derived.Test.YtdlhbbhdfnnmnaaGreatDs
import Derived.Test.YtdlhbbhdfnnmnaaGreatSo
import Derived.Test.YtdlhbbhdfnnmnaaGreatWa
import Derived.Test.YtdlhbbhdfnnmnaaGreatWc
import Derived.Test.YtdlhbbhdfnnmnaaGreatWd
import Derived.Test.YtdlhbbhdfnnmnaaGreatWf
import Derived.Test.YtdlhbbhdfnnmnaaGreatWg
import Derived.Test.YtdlhbbhdfnnmnaaGreatWh
namespace Go.Proofs.YtdlhbbhdfnnmnaaGreat
open Go Go.Li Go.Dk
set_option linter.unusedVariables false
set_option maxHeartbeats 1000000
set_option maxRecDepth 100000
theorem c286 {x0 : MSetFunctor} {p_x0 : Addr} {v_x0_Shape_From : Value} {v_x0_Shape_To : Value} {v_x0_Shape_Identity : Value} {v_x0_Shape_Composites : Value} {v_x0_Sizes : Value} {v_x0_Actions : Value} : Ct Tryz.prog 286 true (impl_SetFunctor_isShape x0) [.pointer (some (p_x0))] [.ats p_x0 [.int .i64 (x0.Shape.Objects), v_x0_Shape_From, v_x0_Shape_To, v_x0_Shape_Identity, v_x0_Shape_Composites, v_x0_Sizes, v_x0_Actions], .rd false (sImm (sInt .i64)) v_x0_Shape_From x0.Shape.From, .rd false (sImm (sInt .i64)) v_x0_Shape_To x0.Shape.To, .rd false (sImm (sInt .i64)) v_x0_Shape_Identity x0.Shape.Identity, .rd false (sImm (sImm (sInt .i64))) v_x0_Shape_Composites x0.Shape.Composites, .rd false (sImm (sInt .i64)) v_x0_Sizes x0.Sizes, .rd false (sImm (sImm (sInt .i64))) v_x0_Actions x0.Actions] (fun y (_ : Unit) => [.bool y]) (fun y _ => []) := by
  refine ct (S := Unit) (owt fun _ _ => rfl) Tryz.func286 rfl rfl ?_
  repeat' first
    | intro _
    | exact rfl
    | (refine @id.{0} _ ?_; constructor)
    | apply Dk.loop 0 (V := Unit) (fun (s : Int) v => []) (fun s v => [(47, .int .i64 (s))]) () [(0, _), (3, _), (45, _), (46, _)]
    | apply Dk.quiet (id := 2) (by kernel_rfl)
    | apply Dk.quiet (id := 7) (by kernel_rfl)
    | apply c145
    | apply c187
    | apply c147
    | apply c325
    | exact ()
theorem c191 {x0 : MSetFunctor} {p_x0 : Addr} {v_x0_Shape_From : Value} {v_x0_Shape_To : Value} {v_x0_Shape_Identity : Value} {v_x0_Shape_Composites : Value} {v_x0_Sizes : Value} {v_x0_Actions : Value} : Ct Tryz.prog 191 true (impl_SetFunctor_isSetFunctor x0) [.pointer (some (p_x0))] [.ats p_x0 [.int .i64 (x0.Shape.Objects), v_x0_Shape_From, v_x0_Shape_To, v_x0_Shape_Identity, v_x0_Shape_Composites, v_x0_Sizes, v_x0_Actions], .rd false (sImm (sInt .i64)) v_x0_Shape_From x0.Shape.From, .rd false (sImm (sInt .i64)) v_x0_Shape_To x0.Shape.To, .rd false (sImm (sInt .i64)) v_x0_Shape_Identity x0.Shape.Identity, .rd false (sImm (sImm (sInt .i64))) v_x0_Shape_Composites x0.Shape.Composites, .rd false (sImm (sInt .i64)) v_x0_Sizes x0.Sizes, .rd false (sImm (sImm (sInt .i64))) v_x0_Actions x0.Actions] (fun y (_ : Unit) => [.bool y]) (fun y _ => []) := by
  refine ct (S := Unit) (owt fun _ _ => rfl) Tryz.func191 rfl rfl ?_
  repeat' first
    | intro _
    | exact rfl
    | (refine @id.{0} _ ?_; constructor)
    | apply c286
    | apply c287
    | exact ()
theorem c301_k302 {x0 : (List (List Int))} {v_x0 : Value} {q_x1 : (List Int)} {q_p_x1 : Addr} {q_v_x1 : Value} : Ct Tryz.prog 301 true (slices_ContainsFunc___impl_sieve_impl_sieve_ x0 (fun a0 => impl_Category_sieves_1 a0 q_x1)) [v_x0, .func (.func 302) #[] #[.pointer (some (q_p_x1))]] [.rd false (sImm (sImm (sInt .i64))) v_x0 x0, .ats q_p_x1 [q_v_x1], .rd false (sImm (sInt .i64)) q_v_x1 q_x1] (fun y (_ : Unit) => [.bool y]) (fun y _ => []) := by
  refine ct (S := Unit) (owt fun _ _ => rfl) Tryz.func301 rfl rfl ?_
  repeat' first
    | intro _
    | exact rfl
    | (refine @id.{0} _ ?_; constructor)
    | apply c208_k302
    | apply c302
    | exact ()
theorem c206 {x0 : MCategory} {p_x0 : Addr} {v_x0_From : Value} {v_x0_To : Value} {v_x0_Identity : Value} {v_x0_Composites : Value} {x1 : Int} : Ct Tryz.prog 206 true (impl_Category_sieves x0 x1) [.pointer (some (p_x0)), .int .i64 (x1)] [.ats p_x0 [.int .i64 (x0.Objects), v_x0_From, v_x0_To, v_x0_Identity, v_x0_Composites], .rd false (sImm (sInt .i64)) v_x0_From x0.From, .rd false (sImm (sInt .i64)) v_x0_To x0.To, .rd false (sImm (sInt .i64)) v_x0_Identity x0.Identity, .rd false (sImm (sImm (sInt .i64))) v_x0_Composites x0.Composites] (fun y (v : Value) => [v, .bool y.2]) (fun y v => [.own (sOwn 157 (sOwn 2 (sInt .i64))) v y.1]) := by
  refine ct (S := Unit) (owt fun _ _ => rfl) Tryz.func206 rfl rfl ?_
  repeat' first
    | intro _
    | exact rfl
    | (refine @id.{0} _ ?_; constructor)
    | apply Dk.loop 0 (V := Value) (fun (s : (List (List Int)) × Int) v => [.own (sOwn 157 (sOwn 2 (sInt .i64))) v s.1]) (fun s v => [(6, v), (7, .int .i64 (s.2))]) _ [(0, _), (1, _)]
    | apply Dk.loop 2 (V := Value) (fun (s : (List (List Int)) × Int) v => [.own (sOwn 157 (sOwn 2 (sInt .i64))) v s.1]) (fun s v => [(6, v), (23, .int .i64 (s.2))]) _ [(0, _), (1, _), (7, _), (21, _), (22, _)]
    | apply c210
    | apply c176
    | apply c300
    | apply c303
    | apply c302
    | apply c301_k302
    | exact ()
theorem c108 {x0 : MClassifier} {p_x0 : Addr} {v_x0_Sets_Shape_From : Value} {v_x0_Sets_Shape_To : Value} {v_x0_Sets_Shape_Identity : Value} {v_x0_Sets_Shape_Composites : Value} {v_x0_Sets_Sizes : Value} {v_x0_Sets_Actions : Value} {v_x0_Sieves : Value} {x1 : Int} {x2 : (List Int)} {v_x2 : Value} : Ct Tryz.prog 108 true (impl_classifier_number x0 x1 x2) [.pointer (some (p_x0)), .int .i64 (x1), v_x2] [.ats p_x0 [.int .i64 (x0.Sets.Shape.Objects), v_x0_Sets_Shape_From, v_x0_Sets_Shape_To, v_x0_Sets_Shape_Identity, v_x0_Sets_Shape_Composites, v_x0_Sets_Sizes, v_x0_Sets_Actions, v_x0_Sieves], .rd false (sImm (sInt .i64)) v_x0_Sets_Shape_From x0.Sets.Shape.From, .rd false (sImm (sInt .i64)) v_x0_Sets_Shape_To x0.Sets.Shape.To, .rd false (sImm (sInt .i64)) v_x0_Sets_Shape_Identity x0.Sets.Shape.Identity, .rd false (sImm (sImm (sInt .i64))) v_x0_Sets_Shape_Composites x0.Sets.Shape.Composites, .rd false (sImm (sInt .i64)) v_x0_Sets_Sizes x0.Sets.Sizes, .rd false (sImm (sImm (sInt .i64))) v_x0_Sets_Actions x0.Sets.Actions, .rd false (sImm (sImm (sImm (sInt .i64)))) v_x0_Sieves x0.Sieves, .rd false (sImm (sInt .i64)) v_x2 x2] (fun y (_ : Unit) => [.int .i64 y]) (fun y _ => []) := by
  refine ct (S := Unit) (owt fun _ _ => rfl) Tryz.func108 rfl rfl ?_
  repeat' first
    | intro _
    | exact rfl
    | (refine @id.{0} _ ?_; constructor)
    | apply c209
    | apply c208_k209
    | exact ()
theorem c107 {x0 : MCategory} {p_x0 : Addr} {v_x0_From : Value} {v_x0_To : Value} {v_x0_Identity : Value} {v_x0_Composites : Value} : Ct Tryz.prog 107 true (impl_Category_classifier x0) [.pointer (some (p_x0))] [.ats p_x0 [.int .i64 (x0.Objects), v_x0_From, v_x0_To, v_x0_Identity, v_x0_Composites], .rd false (sImm (sInt .i64)) v_x0_From x0.From, .rd false (sImm (sInt .i64)) v_x0_To x0.To, .rd false (sImm (sInt .i64)) v_x0_Identity x0.Identity, .rd false (sImm (sImm (sInt .i64))) v_x0_Composites x0.Composites] (fun y (v : Nat × Value × Value × Value × Value × Value × Value × Value) => [(match y.1 with | none => Value.pointer none | some _ => .pointer (some (⟨v.1, 0, none⟩))), .bool y.2]) (fun y v => match y.1 with | none => [] | some m0 => [.row v.1 [.int .i64 (m0.Sets.Shape.Objects), v.2.1, v.2.2.1, v.2.2.2.1, v.2.2.2.2.1, v.2.2.2.2.2.1, v.2.2.2.2.2.2.1, v.2.2.2.2.2.2.2] 162, .own (sOwn 2 (sInt .i64)) v.2.1 m0.Sets.Shape.From, .own (sOwn 2 (sInt .i64)) v.2.2.1 m0.Sets.Shape.To, .own (sOwn 2 (sInt .i64)) v.2.2.2.1 m0.Sets.Shape.Identity, .own (sOwn 22 (sOwn 2 (sInt .i64))) v.2.2.2.2.1 m0.Sets.Shape.Composites, .own (sOwn 2 (sInt .i64)) v.2.2.2.2.2.1 m0.Sets.Sizes, .own (sOwn 22 (sOwn 2 (sInt .i64))) v.2.2.2.2.2.2.1 m0.Sets.Actions, .own (sOwn 189 (sOwn 157 (sOwn 2 (sInt .i64)))) v.2.2.2.2.2.2.2 m0.Sieves]) := by
  refine ct (S := Unit) (by intro _ y v; obtain ⟨_ | _, _⟩ := y <;> rfl) Tryz.func107 rfl rfl ?_
  repeat' first
    | intro _
    | exact rfl
    | (refine @id.{0} _ ?_; constructor)
    | apply Dk.loopA 0 (V := Value × Value) (A := Nat × Value × Value × Value × Value × Value × Value) (_, _, _, _, _, _, _) (fun a (s : Int × (List Int) × (List (List (List Int)))) v => Dk.pc (fun a0 => Dk.pc (fun a1 => Dk.pc (fun a2 => Dk.pc (fun a3 => Dk.pc (fun a4 => Dk.pc (fun a5 a6 => [.row a0 [a1, a2, a3, a4, a5, v.1, a6, v.2] 162, .own (sOwn 2 (sInt .i64)) v.1 s.2.1, .own (sOwn 189 (sOwn 157 (sOwn 2 (sInt .i64)))) v.2 s.2.2])))))) a) (fun a s v => Dk.pc (fun a0 => Dk.pc (fun a1 => Dk.pc (fun a2 => Dk.pc (fun a3 => Dk.pc (fun a4 => Dk.pc (fun a5 a6 => [(4, .pointer (some ⟨a0, 0, none⟩)), (5, .int .i64 (s.1))])))))) a) (_, _) [(0, _)]
    | apply Dk.loopA 2 (V := Value) (A := Nat × Value × Value × Value × Value × Value × Value × Value) (_, _, _, _, _, _, _, _) (fun a (s : Int × (List (List Int))) v => Dk.pc (fun a0 => Dk.pc (fun a1 => Dk.pc (fun a2 => Dk.pc (fun a3 => Dk.pc (fun a4 => Dk.pc (fun a5 => Dk.pc (fun a6 a7 => [.row a0 [a1, a2, a3, a4, a5, a6, v, a7] 162, .own (sOwn 22 (sOwn 2 (sInt .i64))) v s.2]))))))) a) (fun a s v => Dk.pc (fun a0 => Dk.pc (fun a1 => Dk.pc (fun a2 => Dk.pc (fun a3 => Dk.pc (fun a4 => Dk.pc (fun a5 => Dk.pc (fun a6 a7 => [(4, .pointer (some ⟨a0, 0, none⟩)), (61, .int .i64 (s.1))]))))))) a) _ [(0, _), (60, _)]
    | apply Dk.loop 4 (V := Value) (fun (s : (List Int) × Int) v => [.own (sOwn 2 (sInt .i64)) v s.1]) (fun s v => [(9, v), (79, .int .i64 (s.2))]) _ [(0, _), (4, _), (8, _), (60, _), (61, _), (77, _), (78, _)]
    | apply Dk.quiet (id := 14) (by kernel_rfl)
    | apply Dk.any (id := 17) 15 [] [] [[], [], [], [2], [3, 2], [4, 3, 2], [], [5, 4, 3, 2, 6], [7, 5, 4, 3, 2, 6], [], [], [], [9, 10, 11], [1, 8, 7, 5, 4, 3, 2, 6, 12, 9, 10, 11, 12, 9, 10, 11], [13, 1, 8, 7, 5, 4, 3, 2, 6, 12, 9, 10, 11, 12, 9, 10, 11]] (by kernel_rfl)
    | apply c173
    | apply c206
    | apply c207
    | apply c108
    | exact ()
  all_goals try first | exact Value.nilFunc | exact (0 : Nat)
theorem c258 {x0 : (List MSetFunctor)} {v_x0 : Value} : Ct Tryz.prog 258 true (impl_areSetFunctors x0) [v_x0] [.rd false (sImm (sPtr sS33)) v_x0 x0] (fun y (_ : Unit) => [.bool y]) (fun y _ => []) := by
  refine ct (S := Unit) (owt fun _ _ => rfl) Tryz.func258 rfl rfl ?_
  repeat' first
    | intro _
    | exact rfl
    | (refine @id.{0} _ ?_; constructor)
    | apply Dk.loop 0 (V := Unit) (fun (s : Int) v => []) (fun s v => [(7, .int .i64 (s))]) () [(5, _), (6, _)]
    | apply c191
    | exact ()
theorem c221 {x0 : MSetMap} {p_x0 : Addr} {v_x0_Source_Shape_From : Value} {v_x0_Source_Shape_To : Value} {v_x0_Source_Shape_Identity : Value} {v_x0_Source_Shape_Composites : Value} {v_x0_Source_Sizes : Value} {v_x0_Source_Actions : Value} {v_x0_Target_Shape_From : Value} {v_x0_Target_Shape_To : Value} {v_x0_Target_Shape_Identity : Value} {v_x0_Target_Shape_Composites : Value} {v_x0_Target_Sizes : Value} {v_x0_Target_Actions : Value} {v_x0_Parts : Value} : Ct Tryz.prog 221 true (impl_SetMap_isShape x0) [.pointer (some (p_x0))] [.ats p_x0 [.int .i64 (x0.Source.Shape.Objects), v_x0_Source_Shape_From, v_x0_Source_Shape_To, v_x0_Source_Shape_Identity, v_x0_Source_Shape_Composites, v_x0_Source_Sizes, v_x0_Source_Actions, .int .i64 (x0.Target.Shape.Objects), v_x0_Target_Shape_From, v_x0_Target_Shape_To, v_x0_Target_Shape_Identity, v_x0_Target_Shape_Composites, v_x0_Target_Sizes, v_x0_Target_Actions, v_x0_Parts], .rd false (sImm (sInt .i64)) v_x0_Source_Shape_From x0.Source.Shape.From, .rd false (sImm (sInt .i64)) v_x0_Source_Shape_To x0.Source.Shape.To, .rd false (sImm (sInt .i64)) v_x0_Source_Shape_Identity x0.Source.Shape.Identity, .rd false (sImm (sImm (sInt .i64))) v_x0_Source_Shape_Composites x0.Source.Shape.Composites, .rd false (sImm (sInt .i64)) v_x0_Source_Sizes x0.Source.Sizes, .rd false (sImm (sImm (sInt .i64))) v_x0_Source_Actions x0.Source.Actions, .rd false (sImm (sInt .i64)) v_x0_Target_Shape_From x0.Target.Shape.From, .rd false (sImm (sInt .i64)) v_x0_Target_Shape_To x0.Target.Shape.To, .rd false (sImm (sInt .i64)) v_x0_Target_Shape_Identity x0.Target.Shape.Identity, .rd false (sImm (sImm (sInt .i64))) v_x0_Target_Shape_Composites x0.Target.Shape.Composites, .rd false (sImm (sInt .i64)) v_x0_Target_Sizes x0.Target.Sizes, .rd false (sImm (sImm (sInt .i64))) v_x0_Target_Actions x0.Target.Actions, .rd false (sImm (sImm (sInt .i64))) v_x0_Parts x0.Parts] (fun y (_ : Unit) => [.bool y]) (fun y _ => []) := by
  refine ct (S := Unit) (owt fun _ _ => rfl) Tryz.func221 rfl rfl ?_
  repeat' first
    | intro _
    | exact rfl
    | (refine @id.{0} _ ?_; constructor)
    | apply Dk.anyq (id := 1) 7 [] [[], [0], [1, 0], [], [3], [4, 3], [2, 1, 0, 5, 4, 3]] (by kernel_rfl)
    | apply c258
    | apply c171
    | apply c305
    | exact ()
theorem c118 {x0 : MSetMap} {p_x0 : Addr} {v_x0_Source_Shape_From : Value} {v_x0_Source_Shape_To : Value} {v_x0_Source_Shape_Identity : Value} {v_x0_Source_Shape_Composites : Value} {v_x0_Source_Sizes : Value} {v_x0_Source_Actions : Value} {v_x0_Target_Shape_From : Value} {v_x0_Target_Shape_To : Value} {v_x0_Target_Shape_Identity : Value} {v_x0_Target_Shape_Composites : Value} {v_x0_Target_Sizes : Value} {v_x0_Target_Actions : Value} {v_x0_Parts : Value} : Ct Tryz.prog 118 true (impl_SetMap_isNatural x0) [.pointer (some (p_x0))] [.ats p_x0 [.int .i64 (x0.Source.Shape.Objects), v_x0_Source_Shape_From, v_x0_Source_Shape_To, v_x0_Source_Shape_Identity, v_x0_Source_Shape_Composites, v_x0_Source_Sizes, v_x0_Source_Actions, .int .i64 (x0.Target.Shape.Objects), v_x0_Target_Shape_From, v_x0_Target_Shape_To, v_x0_Target_Shape_Identity, v_x0_Target_Shape_Composites, v_x0_Target_Sizes, v_x0_Target_Actions, v_x0_Parts], .rd false (sImm (sInt .i64)) v_x0_Source_Shape_From x0.Source.Shape.From, .rd false (sImm (sInt .i64)) v_x0_Source_Shape_To x0.Source.Shape.To, .rd false (sImm (sInt .i64)) v_x0_Source_Shape_Identity x0.Source.Shape.Identity, .rd false (sImm (sImm (sInt .i64))) v_x0_Source_Shape_Composites x0.Source.Shape.Composites, .rd false (sImm (sInt .i64)) v_x0_Source_Sizes x0.Source.Sizes, .rd false (sImm (sImm (sInt .i64))) v_x0_Source_Actions x0.Source.Actions, .rd false (sImm (sInt .i64)) v_x0_Target_Shape_From x0.Target.Shape.From, .rd false (sImm (sInt .i64)) v_x0_Target_Shape_To x0.Target.Shape.To, .rd false (sImm (sInt .i64)) v_x0_Target_Shape_Identity x0.Target.Shape.Identity, .rd false (sImm (sImm (sInt .i64))) v_x0_Target_Shape_Composites x0.Target.Shape.Composites, .rd false (sImm (sInt .i64)) v_x0_Target_Sizes x0.Target.Sizes, .rd false (sImm (sImm (sInt .i64))) v_x0_Target_Actions x0.Target.Actions, .rd false (sImm (sImm (sInt .i64))) v_x0_Parts x0.Parts] (fun y (_ : Unit) => [.bool y]) (fun y _ => []) := by
  refine ct (S := Unit) (owt fun _ _ => rfl) Tryz.func118 rfl rfl ?_
  repeat' first
    | intro _
    | exact rfl
    | (refine @id.{0} _ ?_; constructor)
    | apply c221
    | apply c222
    | exact ()
theorem c146 {x0 : MCategory} {p_x0 : Addr} {v_x0_From : Value} {v_x0_To : Value} {v_x0_Identity : Value} {v_x0_Composites : Value} : Ct Tryz.prog 146 true (impl_coverageOf x0) [.pointer (some (p_x0))] [.ats p_x0 [.int .i64 (x0.Objects), v_x0_From, v_x0_To, v_x0_Identity, v_x0_Composites], .rd false (sImm (sInt .i64)) v_x0_From x0.From, .rd false (sImm (sInt .i64)) v_x0_To x0.To, .rd false (sImm (sInt .i64)) v_x0_Identity x0.Identity, .rd false (sImm (sImm (sInt .i64))) v_x0_Composites x0.Composites] (fun y (v : Nat × Nat × Value × Value × Value × Value × Value × Value × Value × Value × Nat) => [(match y.1 with | none => Value.pointer none | some _ => .pointer (some (⟨v.1, 0, none⟩))), .bool y.2]) (fun y v => match y.1 with | none => [] | some m0 => [.row v.1 [.pointer (some (⟨v.2.1, 0, none⟩)), .pointer (some (p_x0)), v.2.2.2.2.2.2.2.2.2.1, .pointer (some (⟨v.2.2.2.2.2.2.2.2.2.2, 0, none⟩))] 217, .row v.2.2.2.2.2.2.2.2.2.2 [.int .i64 (m0.Count)] 297, .row v.2.1 [.int .i64 (m0.Classifier.Sets.Shape.Objects), v.2.2.1, v.2.2.2.1, v.2.2.2.2.1, v.2.2.2.2.2.1, v.2.2.2.2.2.2.1, v.2.2.2.2.2.2.2.1, v.2.2.2.2.2.2.2.2.1] 162, .own (sOwn 2 (sInt .i64)) v.2.2.1 m0.Classifier.Sets.Shape.From, .own (sOwn 2 (sInt .i64)) v.2.2.2.1 m0.Classifier.Sets.Shape.To, .own (sOwn 2 (sInt .i64)) v.2.2.2.2.1 m0.Classifier.Sets.Shape.Identity, .own (sOwn 22 (sOwn 2 (sInt .i64))) v.2.2.2.2.2.1 m0.Classifier.Sets.Shape.Composites, .own (sOwn 2 (sInt .i64)) v.2.2.2.2.2.2.1 m0.Classifier.Sets.Sizes, .own (sOwn 22 (sOwn 2 (sInt .i64))) v.2.2.2.2.2.2.2.1 m0.Classifier.Sets.Actions, .own (sOwn 189 (sOwn 157 (sOwn 2 (sInt .i64)))) v.2.2.2.2.2.2.2.2.1 m0.Classifier.Sieves, .own (sOwn 213 (sOwn 4 sBool)) v.2.2.2.2.2.2.2.2.2.1 m0.Covers]) := by
  refine ct (S := Unit) (by intro _ y v; obtain ⟨_ | _, _⟩ := y <;> rfl) Tryz.func146 rfl rfl ?_
  repeat' first
    | intro _
    | exact rfl
    | (refine @id.{0} _ ?_; constructor)
    | apply Dk.loopA 0 (V := Value) (A := Nat × Value × Value × Value) (_, _, _, _) (fun a (s : Int × (List (List Bool))) v => Dk.pc (fun a0 => Dk.pc (fun a1 => Dk.pc (fun a2 a3 => [.row a0 [a1, a2, v, a3] 217, .own (sOwn 213 (sOwn 4 sBool)) v s.2]))) a) (fun a s v => Dk.pc (fun a0 => Dk.pc (fun a1 => Dk.pc (fun a2 a3 => [(6, .pointer (some ⟨a0, 0, none⟩)), (26, .int .i64 (s.1))]))) a) _ [(24, _), (25, _)]
    | apply Dk.any (id := 8) 9 [0] [] [[], [], [1], [2, 1], [3, 2, 1], [], [5], [6, 5, 6, 5], [7, 6, 5, 6, 5]] (by kernel_rfl)
    | apply c107
    | exact ()
  all_goals try first | exact Value.nilFunc | exact (0 : Nat)
theorem c156 {x0 : MCoverage} {p_x0 : Addr} {p_x0_Classifier : Addr} {v_x0_Classifier_Sets_Shape_From : Value} {v_x0_Classifier_Sets_Shape_To : Value} {v_x0_Classifier_Sets_Shape_Identity : Value} {v_x0_Classifier_Sets_Shape_Composites : Value} {v_x0_Classifier_Sets_Sizes : Value} {v_x0_Classifier_Sets_Actions : Value} {v_x0_Classifier_Sieves : Value} {p_x0_C : Addr} {v_x0_C_From : Value} {v_x0_C_To : Value} {v_x0_C_Identity : Value} {v_x0_C_Composites : Value} {v_x0_Covers : Value} {p_x0_Count : Addr} {x1 : MSetMap} {p_x1 : Addr} {v_x1_Source_Shape_From : Value} {v_x1_Source_Shape_To : Value} {v_x1_Source_Shape_Identity : Value} {v_x1_Source_Shape_Composites : Value} {v_x1_Source_Sizes : Value} {v_x1_Source_Actions : Value} {v_x1_Target_Shape_From : Value} {v_x1_Target_Shape_To : Value} {v_x1_Target_Shape_Identity : Value} {v_x1_Target_Shape_Composites : Value} {v_x1_Target_Sizes : Value} {v_x1_Target_Actions : Value} {v_x1_Parts : Value} : Ct Tryz.prog 156 true (impl_coverage_isModality x0 x1) [.pointer (some (p_x0)), .pointer (some (p_x1))] [.ats p_x1 [.int .i64 (x1.Source.Shape.Objects), v_x1_Source_Shape_From, v_x1_Source_Shape_To, v_x1_Source_Shape_Identity, v_x1_Source_Shape_Composites, v_x1_Source_Sizes, v_x1_Source_Actions, .int .i64 (x1.Target.Shape.Objects), v_x1_Target_Shape_From, v_x1_Target_Shape_To, v_x1_Target_Shape_Identity, v_x1_Target_Shape_Composites, v_x1_Target_Sizes, v_x1_Target_Actions, v_x1_Parts], .ats p_x0 [.pointer (some (p_x0_Classifier)), .pointer (some (p_x0_C)), v_x0_Covers, .pointer (some (p_x0_Count))], .ats p_x0_Count [.int .i64 (x0.Count)], .ats p_x0_C [.int .i64 (x0.C.Objects), v_x0_C_From, v_x0_C_To, v_x0_C_Identity, v_x0_C_Composites], .ats p_x0_Classifier [.int .i64 (x0.Classifier.Sets.Shape.Objects), v_x0_Classifier_Sets_Shape_From, v_x0_Classifier_Sets_Shape_To, v_x0_Classifier_Sets_Shape_Identity, v_x0_Classifier_Sets_Shape_Composites, v_x0_Classifier_Sets_Sizes, v_x0_Classifier_Sets_Actions, v_x0_Classifier_Sieves], .rd false (sImm (sInt .i64)) v_x0_Classifier_Sets_Shape_From x0.Classifier.Sets.Shape.From, .rd false (sImm (sInt .i64)) v_x0_Classifier_Sets_Shape_To x0.Classifier.Sets.Shape.To, .rd false (sImm (sInt .i64)) v_x0_Classifier_Sets_Shape_Identity x0.Classifier.Sets.Shape.Identity, .rd false (sImm (sImm (sInt .i64))) v_x0_Classifier_Sets_Shape_Composites x0.Classifier.Sets.Shape.Composites, .rd false (sImm (sInt .i64)) v_x0_Classifier_Sets_Sizes x0.Classifier.Sets.Sizes, .rd false (sImm (sImm (sInt .i64))) v_x0_Classifier_Sets_Actions x0.Classifier.Sets.Actions, .rd false (sImm (sImm (sImm (sInt .i64)))) v_x0_Classifier_Sieves x0.Classifier.Sieves, .rd false (sImm (sInt .i64)) v_x0_C_From x0.C.From, .rd false (sImm (sInt .i64)) v_x0_C_To x0.C.To, .rd false (sImm (sInt .i64)) v_x0_C_Identity x0.C.Identity, .rd false (sImm (sImm (sInt .i64))) v_x0_C_Composites x0.C.Composites, .rd false (sImm (sImm sBool)) v_x0_Covers x0.Covers, .rd false (sImm (sInt .i64)) v_x1_Source_Shape_From x1.Source.Shape.From, .rd false (sImm (sInt .i64)) v_x1_Source_Shape_To x1.Source.Shape.To, .rd false (sImm (sInt .i64)) v_x1_Source_Shape_Identity x1.Source.Shape.Identity, .rd false (sImm (sImm (sInt .i64))) v_x1_Source_Shape_Composites x1.Source.Shape.Composites, .rd false (sImm (sInt .i64)) v_x1_Source_Sizes x1.Source.Sizes, .rd false (sImm (sImm (sInt .i64))) v_x1_Source_Actions x1.Source.Actions, .rd false (sImm (sInt .i64)) v_x1_Target_Shape_From x1.Target.Shape.From, .rd false (sImm (sInt .i64)) v_x1_Target_Shape_To x1.Target.Shape.To, .rd false (sImm (sInt .i64)) v_x1_Target_Shape_Identity x1.Target.Shape.Identity, .rd false (sImm (sImm (sInt .i64))) v_x1_Target_Shape_Composites x1.Target.Shape.Composites, .rd false (sImm (sInt .i64)) v_x1_Target_Sizes x1.Target.Sizes, .rd false (sImm (sImm (sInt .i64))) v_x1_Target_Actions x1.Target.Actions, .rd false (sImm (sImm (sInt .i64))) v_x1_Parts x1.Parts] (fun y (_ : Unit) => [.bool y]) (fun y _ => []) := by
  refine ct (S := Unit) (owt fun _ _ => rfl) Tryz.func156 rfl rfl ?_
  repeat' first
    | intro _
    | exact rfl
    | (refine @id.{0} _ ?_; constructor)
    | apply Dk.loop 0 (V := Unit) (fun (s : Int) v => []) (fun s v => [(42, .int .i64 (s))]) () [(0, _), (1, _), (40, _), (41, _)]
    | apply Dk.loop 2 (V := Unit) (fun (s : Int) v => []) (fun s v => [(80, .int .i64 (s))]) () [(0, _), (1, _), (5, _), (7, _), (8, _), (40, _), (41, _), (42, _), (79, _)]
    | apply Dk.loop 4 (V := Unit) (fun (s : Int) v => []) (fun s v => [(85, .int .i64 (s))]) () [(0, _), (1, _), (5, _), (7, _), (8, _), (9, _), (40, _), (41, _), (42, _), (79, _), (80, _), (84, _)]
    | apply Dk.quiet (id := 1) (by kernel_rfl)
    | apply Dk.any (id := 16) 14 [] [] [[], [0], [1, 0], [2, 1, 0], [], [], [], [5, 6], [7, 5, 6], [], [], [9, 10], [11, 9, 10], [8, 7, 5, 6, 12, 11, 9, 10]] (by kernel_rfl)
    | apply Dk.any (id := 17) 22 [] [] [[], [], [], [1, 2], [3, 1, 2], [0, 4, 3, 1, 2], [5, 0, 4, 3, 1, 2], [], [], [], [8, 9], [10, 8, 9], [7, 11, 10, 8, 9], [12, 7, 11, 10, 8, 9], [], [], [], [15, 16], [17, 15, 16], [14, 18, 17, 15, 16], [19, 14, 18, 17, 15, 16], [13, 12, 7, 11, 10, 8, 9, 20, 19, 14, 18, 17, 15, 16]] (by kernel_rfl)
    | apply c82
    | apply c119
    | apply c188
    | apply c172
    | apply c254
    | apply c108
    | exact ()
theorem c67 {x0 : MCategory} {v_x0_From : Value} {v_x0_To : Value} {v_x0_Identity : Value} {v_x0_Composites : Value} {x1 : MSetMap} {v_x1_Source_Shape_From : Value} {v_x1_Source_Shape_To : Value} {v_x1_Source_Shape_Identity : Value} {v_x1_Source_Shape_Composites : Value} {v_x1_Source_Sizes : Value} {v_x1_Source_Actions : Value} {v_x1_Target_Shape_From : Value} {v_x1_Target_Shape_To : Value} {v_x1_Target_Shape_Identity : Value} {v_x1_Target_Shape_Composites : Value} {v_x1_Target_Sizes : Value} {v_x1_Target_Actions : Value} {v_x1_Parts : Value} : Ct Tryz.prog 67 true (impl_TopologyOfModality x0 x1) [.agg #[.int .i64 (x0.Objects), v_x0_From, v_x0_To, v_x0_Identity, v_x0_Composites], .agg #[.int .i64 (x1.Source.Shape.Objects), v_x1_Source_Shape_From, v_x1_Source_Shape_To, v_x1_Source_Shape_Identity, v_x1_Source_Shape_Composites, v_x1_Source_Sizes, v_x1_Source_Actions, .int .i64 (x1.Target.Shape.Objects), v_x1_Target_Shape_From, v_x1_Target_Shape_To, v_x1_Target_Shape_Identity, v_x1_Target_Shape_Composites, v_x1_Target_Sizes, v_x1_Target_Actions, v_x1_Parts]] [.rd false (sImm (sInt .i64)) v_x0_From x0.From, .rd false (sImm (sInt .i64)) v_x0_To x0.To, .rd false (sImm (sInt .i64)) v_x0_Identity x0.Identity, .rd false (sImm (sImm (sInt .i64))) v_x0_Composites x0.Composites, .rd false (sImm (sInt .i64)) v_x1_Source_Shape_From x1.Source.Shape.From, .rd false (sImm (sInt .i64)) v_x1_Source_Shape_To x1.Source.Shape.To, .rd false (sImm (sInt .i64)) v_x1_Source_Shape_Identity x1.Source.Shape.Identity, .rd false (sImm (sImm (sInt .i64))) v_x1_Source_Shape_Composites x1.Source.Shape.Composites, .rd false (sImm (sInt .i64)) v_x1_Source_Sizes x1.Source.Sizes, .rd false (sImm (sImm (sInt .i64))) v_x1_Source_Actions x1.Source.Actions, .rd false (sImm (sInt .i64)) v_x1_Target_Shape_From x1.Target.Shape.From, .rd false (sImm (sInt .i64)) v_x1_Target_Shape_To x1.Target.Shape.To, .rd false (sImm (sInt .i64)) v_x1_Target_Shape_Identity x1.Target.Shape.Identity, .rd false (sImm (sImm (sInt .i64))) v_x1_Target_Shape_Composites x1.Target.Shape.Composites, .rd false (sImm (sInt .i64)) v_x1_Target_Sizes x1.Target.Sizes, .rd false (sImm (sImm (sInt .i64))) v_x1_Target_Actions x1.Target.Actions, .rd false (sImm (sImm (sInt .i64))) v_x1_Parts x1.Parts] (fun y (v : Value × Value × Value × Value × Value) => [.agg #[.int .i64 y.1.Shape.Objects, v.1, v.2.1, v.2.2.1, v.2.2.2.1, v.2.2.2.2], .int .i64 y.2]) (fun y v => [.own (sOwn 2 (sInt .i64)) v.1 y.1.Shape.From, .own (sOwn 2 (sInt .i64)) v.2.1 y.1.Shape.To, .own (sOwn 2 (sInt .i64)) v.2.2.1 y.1.Shape.Identity, .own (sOwn 22 (sOwn 2 (sInt .i64))) v.2.2.2.1 y.1.Shape.Composites, .own (sOwn 23 (sOwn 22 (sOwn 2 (sInt .i64)))) v.2.2.2.2 y.1.Covers]) := by
  refine ct (S := Unit) (owt fun _ _ => rfl) Tryz.func67 rfl rfl ?_
  repeat' first
    | intro _
    | exact rfl
    | (refine @id.{0} _ ?_; constructor)
    | apply Dk.loopA 0 (V := Unit) (A := Nat × Value) (_, _) (fun a (s : Int × Int × (List (List Bool))) v => Dk.pc (fun a0 a1 => [.row a0 [.int .i64 (s.2.1)] 297, .own (sOwn 213 (sOwn 4 sBool)) a1 s.2.2]) a) (fun a s v => Dk.pc (fun a0 a1 => [(36, .int .i64 (s.1))]) a) () [(3, _), (4, _), (6, _), (34, _), (35, _)]
    | apply Dk.loopA 2 (V := Unit) (A := Nat × Value) (_, _) (fun a (s : Int × Int × (List (List Bool))) v => Dk.pc (fun a0 a1 => [.row a0 [.int .i64 (s.2.1)] 297, .own (sOwn 213 (sOwn 4 sBool)) a1 s.2.2]) a) (fun a s v => Dk.pc (fun a0 a1 => [(47, .int .i64 (s.1))]) a) () [(3, _), (4, _), (6, _), (8, _), (9, _), (34, _), (35, _), (36, _), (45, _), (46, _)]
    | apply c145
    | apply c118
    | apply c146
    | apply c156
    | apply c119
    | apply c157
    | apply c149
    | exact ()
end Go.Proofs.YtdlhbbhdfnnmnaaGreat
