/- Walks by the calculus D. No condition beside those that each theorem names. -/
import Derived.Test.YtdlhbbhdfnnmnaaGreatDi
import Derived.Test.YtdlhbbhdfnnmnaaGreatMo
import Derived.Test.YtdlhbbhdfnnmnaaGreatDs
import Derived.Test.YtdlhbbhdfnnmnaaGreatSo
import Derived.Test.YtdlhbbhdfnnmnaaGreatWa
import Derived.Test.YtdlhbbhdfnnmnaaGreatWb
import Derived.Test.YtdlhbbhdfnnmnaaGreatWc
import Derived.Test.YtdlhbbhdfnnmnaaGreatWd
import Derived.Test.YtdlhbbhdfnnmnaaGreatWe
import Derived.Test.YtdlhbbhdfnnmnaaGreatWf
import Derived.Test.YtdlhbbhdfnnmnaaGreatWg
import Derived.Test.YtdlhbbhdfnnmnaaGreatWh
namespace Go.Proofs.YtdlhbbhdfnnmnaaGreat
open Go Go.Li Go.Dk
set_option linter.unusedVariables false
set_option maxHeartbeats 1000000
set_option maxRecDepth 100000
theorem c293 {x0 : MSetFunctor} {v_x0_Shape_From : Value} {v_x0_Shape_To : Value} {v_x0_Shape_Identity : Value} {v_x0_Shape_Composites : Value} {v_x0_Sizes : Value} {v_x0_Actions : Value} : Ct Tryz.prog 293 true (spec_l19Shape x0) [.agg #[.int .i64 (x0.Shape.Objects), v_x0_Shape_From, v_x0_Shape_To, v_x0_Shape_Identity, v_x0_Shape_Composites, v_x0_Sizes, v_x0_Actions]] [.rd false (sImm (sInt .i64)) v_x0_Shape_From x0.Shape.From, .rd false (sImm (sInt .i64)) v_x0_Shape_To x0.Shape.To, .rd false (sImm (sInt .i64)) v_x0_Shape_Identity x0.Shape.Identity, .rd false (sImm (sImm (sInt .i64))) v_x0_Shape_Composites x0.Shape.Composites, .rd false (sImm (sInt .i64)) v_x0_Sizes x0.Sizes, .rd false (sImm (sImm (sInt .i64))) v_x0_Actions x0.Actions] (fun y (_ : Unit) => [.bool y]) (fun y _ => []) := by
  refine ct (S := Unit) (owt fun _ _ => rfl) Tryz.func293 rfl rfl ?_
  repeat' first
    | intro _
    | exact rfl
    | (refine @id.{0} _ ?_; constructor)
    | apply Dk.loop 0 (V := Unit) (fun (s : Int) v => []) (fun s v => [(3, .int .i64 (s))]) () [(1, _)]
    | apply Dk.loop 2 (V := Unit) (fun (s : Int) v => []) (fun s v => [(4, .int .i64 (s))]) () [(1, _)]
    | apply Dk.quiet (id := 11) (by kernel_rfl)
    | apply c154
    | apply c317
    | apply c296
    | exact ()
theorem c198 {x0 : MSetFunctor} {v_x0_Shape_From : Value} {v_x0_Shape_To : Value} {v_x0_Shape_Identity : Value} {v_x0_Shape_Composites : Value} {v_x0_Sizes : Value} {v_x0_Actions : Value} : Ct Tryz.prog 198 true (spec_l19Is x0) [.agg #[.int .i64 (x0.Shape.Objects), v_x0_Shape_From, v_x0_Shape_To, v_x0_Shape_Identity, v_x0_Shape_Composites, v_x0_Sizes, v_x0_Actions]] [.rd false (sImm (sInt .i64)) v_x0_Shape_From x0.Shape.From, .rd false (sImm (sInt .i64)) v_x0_Shape_To x0.Shape.To, .rd false (sImm (sInt .i64)) v_x0_Shape_Identity x0.Shape.Identity, .rd false (sImm (sImm (sInt .i64))) v_x0_Shape_Composites x0.Shape.Composites, .rd false (sImm (sInt .i64)) v_x0_Sizes x0.Sizes, .rd false (sImm (sImm (sInt .i64))) v_x0_Actions x0.Actions] (fun y (_ : Unit) => [.bool y]) (fun y _ => []) := by
  refine ct (S := Unit) (owt fun _ _ => rfl) Tryz.func198 rfl rfl ?_
  repeat' first
    | intro _
    | exact rfl
    | (refine @id.{0} _ ?_; constructor)
    | apply c293
    | apply c294
    | exact ()
theorem c101 {x0 : MCategory} {v_x0_From : Value} {v_x0_To : Value} {v_x0_Identity : Value} {v_x0_Composites : Value} : Ct Tryz.prog 101 false (spec_l25Lists x0) [.agg #[.int .i64 (x0.Objects), v_x0_From, v_x0_To, v_x0_Identity, v_x0_Composites]] [.rd false (sImm (sInt .i64)) v_x0_From x0.From, .rd false (sImm (sInt .i64)) v_x0_To x0.To, .rd false (sImm (sInt .i64)) v_x0_Identity x0.Identity, .rd false (sImm (sImm (sInt .i64))) v_x0_Composites x0.Composites] (fun y (v : Value) => [v, .bool y.2]) (fun y v => [.rd false (sImm (sImm (sImm (sInt .i64)))) v y.1]) := by
  refine ct (S := Unit) owf Tryz.func101 rfl rfl ?_
  repeat' first
    | intro _
    | exact rfl
    | (refine @id.{0} _ ?_; constructor)
    | apply Dk.loop 0 (V := Value) (fun (s : (List (List (List Int))) × Int) v => [.om 23 (sImm (sImm (sInt .i64))) v s.1]) (fun s v => [(4, v), (5, .int .i64 (s.2))]) _ [(1, _)]
    | apply c200
    | exact ()
theorem c286 {x0 : MSetFunctor} {p_x0 : Addr} {v_x0_Shape_From : Value} {v_x0_Shape_To : Value} {v_x0_Shape_Identity : Value} {v_x0_Shape_Composites : Value} {v_x0_Sizes : Value} {v_x0_Actions : Value} : Ct Tryz.prog 286 true (impl_SetFunctor_isShape x0) [.pointer (some (p_x0))] [.ats p_x0 [.int .i64 (x0.Shape.Objects), v_x0_Shape_From, v_x0_Shape_To, v_x0_Shape_Identity, v_x0_Shape_Composites, v_x0_Sizes, v_x0_Actions], .rd false (sImm (sInt .i64)) v_x0_Shape_From x0.Shape.From, .rd false (sImm (sInt .i64)) v_x0_Shape_To x0.Shape.To, .rd false (sImm (sInt .i64)) v_x0_Shape_Identity x0.Shape.Identity, .rd false (sImm (sImm (sInt .i64))) v_x0_Shape_Composites x0.Shape.Composites, .rd false (sImm (sInt .i64)) v_x0_Sizes x0.Sizes, .rd false (sImm (sImm (sInt .i64))) v_x0_Actions x0.Actions] (fun y (_ : Unit) => [.bool y]) (fun y _ => []) := by
  refine ct (S := Unit) (owt fun _ _ => rfl) Tryz.func286 rfl rfl ?_
  repeat' first
    | intro _
    | exact rfl
    | (refine @id.{0} _ ?_; constructor)
    | apply Dk.loop 0 (V := Unit) (fun (s : Int) v => []) (fun s v => [(47, .int .i64 (s))]) () [(0, _), (3, _), (45, _), (46, _)]
    | apply Dk.quiet (id := 2) (by kernel_rfl)
    | apply Dk.quiet (id := 7) (by kernel_rfl)
    | apply c145
    | apply c187
    | apply c147
    | apply c325
    | exact ()
theorem c191 {x0 : MSetFunctor} {p_x0 : Addr} {v_x0_Shape_From : Value} {v_x0_Shape_To : Value} {v_x0_Shape_Identity : Value} {v_x0_Shape_Composites : Value} {v_x0_Sizes : Value} {v_x0_Actions : Value} : Ct Tryz.prog 191 true (impl_SetFunctor_isSetFunctor x0) [.pointer (some (p_x0))] [.ats p_x0 [.int .i64 (x0.Shape.Objects), v_x0_Shape_From, v_x0_Shape_To, v_x0_Shape_Identity, v_x0_Shape_Composites, v_x0_Sizes, v_x0_Actions], .rd false (sImm (sInt .i64)) v_x0_Shape_From x0.Shape.From, .rd false (sImm (sInt .i64)) v_x0_Shape_To x0.Shape.To, .rd false (sImm (sInt .i64)) v_x0_Shape_Identity x0.Shape.Identity, .rd false (sImm (sImm (sInt .i64))) v_x0_Shape_Composites x0.Shape.Composites, .rd false (sImm (sInt .i64)) v_x0_Sizes x0.Sizes, .rd false (sImm (sImm (sInt .i64))) v_x0_Actions x0.Actions] (fun y (_ : Unit) => [.bool y]) (fun y _ => []) := by
  refine ct (S := Unit) (owt fun _ _ => rfl) Tryz.func191 rfl rfl ?_
  repeat' first
    | intro _
    | exact rfl
    | (refine @id.{0} _ ?_; constructor)
    | apply c286
    | apply c287
    | exact ()
theorem c301_k302 {x0 : (List (List Int))} {v_x0 : Value} {q_x1 : (List Int)} {q_p_x1 : Addr} {q_v_x1 : Value} : Ct Tryz.prog 301 true (slices_ContainsFunc___impl_sieve_impl_sieve_ x0 (fun a0 => impl_Category_sieves_1 a0 q_x1)) [v_x0, .func (.func 302) #[] #[.pointer (some (q_p_x1))]] [.rd false (sImm (sImm (sInt .i64))) v_x0 x0, .ats q_p_x1 [q_v_x1], .rd false (sImm (sInt .i64)) q_v_x1 q_x1] (fun y (_ : Unit) => [.bool y]) (fun y _ => []) := by
  refine ct (S := Unit) (owt fun _ _ => rfl) Tryz.func301 rfl rfl ?_
  repeat' first
    | intro _
    | exact rfl
    | (refine @id.{0} _ ?_; constructor)
    | apply c208_k302
    | apply c302
    | exact ()
theorem c206 {x0 : MCategory} {p_x0 : Addr} {v_x0_From : Value} {v_x0_To : Value} {v_x0_Identity : Value} {v_x0_Composites : Value} {x1 : Int} : Ct Tryz.prog 206 true (impl_Category_sieves x0 x1) [.pointer (some (p_x0)), .int .i64 (x1)] [.ats p_x0 [.int .i64 (x0.Objects), v_x0_From, v_x0_To, v_x0_Identity, v_x0_Composites], .rd false (sImm (sInt .i64)) v_x0_From x0.From, .rd false (sImm (sInt .i64)) v_x0_To x0.To, .rd false (sImm (sInt .i64)) v_x0_Identity x0.Identity, .rd false (sImm (sImm (sInt .i64))) v_x0_Composites x0.Composites] (fun y (v : Value) => [v, .bool y.2]) (fun y v => [.own (sOwn 157 (sOwn 2 (sInt .i64))) v y.1]) := by
  refine ct (S := Unit) (owt fun _ _ => rfl) Tryz.func206 rfl rfl ?_
  repeat' first
    | intro _
    | exact rfl
    | (refine @id.{0} _ ?_; constructor)
    | apply Dk.loop 0 (V := Value) (fun (s : (List (List Int)) × Int) v => [.own (sOwn 157 (sOwn 2 (sInt .i64))) v s.1]) (fun s v => [(6, v), (7, .int .i64 (s.2))]) _ [(0, _), (1, _)]
    | apply Dk.loop 2 (V := Value) (fun (s : (List (List Int)) × Int) v => [.own (sOwn 157 (sOwn 2 (sInt .i64))) v s.1]) (fun s v => [(6, v), (23, .int .i64 (s.2))]) _ [(0, _), (1, _), (7, _), (21, _), (22, _)]
    | apply c210
    | apply c176
    | apply c300
    | apply c303
    | apply c302
    | apply c301_k302
    | exact ()
theorem c108 {x0 : MClassifier} {p_x0 : Addr} {v_x0_Sets_Shape_From : Value} {v_x0_Sets_Shape_To : Value} {v_x0_Sets_Shape_Identity : Value} {v_x0_Sets_Shape_Composites : Value} {v_x0_Sets_Sizes : Value} {v_x0_Sets_Actions : Value} {v_x0_Sieves : Value} {x1 : Int} {x2 : (List Int)} {v_x2 : Value} : Ct Tryz.prog 108 true (impl_classifier_number x0 x1 x2) [.pointer (some (p_x0)), .int .i64 (x1), v_x2] [.ats p_x0 [.int .i64 (x0.Sets.Shape.Objects), v_x0_Sets_Shape_From, v_x0_Sets_Shape_To, v_x0_Sets_Shape_Identity, v_x0_Sets_Shape_Composites, v_x0_Sets_Sizes, v_x0_Sets_Actions, v_x0_Sieves], .rd false (sImm (sInt .i64)) v_x0_Sets_Shape_From x0.Sets.Shape.From, .rd false (sImm (sInt .i64)) v_x0_Sets_Shape_To x0.Sets.Shape.To, .rd false (sImm (sInt .i64)) v_x0_Sets_Shape_Identity x0.Sets.Shape.Identity, .rd false (sImm (sImm (sInt .i64))) v_x0_Sets_Shape_Composites x0.Sets.Shape.Composites, .rd false (sImm (sInt .i64)) v_x0_Sets_Sizes x0.Sets.Sizes, .rd false (sImm (sImm (sInt .i64))) v_x0_Sets_Actions x0.Sets.Actions, .rd false (sImm (sImm (sImm (sInt .i64)))) v_x0_Sieves x0.Sieves, .rd false (sImm (sInt .i64)) v_x2 x2] (fun y (_ : Unit) => [.int .i64 y]) (fun y _ => []) := by
  refine ct (S := Unit) (owt fun _ _ => rfl) Tryz.func108 rfl rfl ?_
  repeat' first
    | intro _
    | exact rfl
    | (refine @id.{0} _ ?_; constructor)
    | apply c209
    | apply c208_k209
    | exact ()
theorem c107 {x0 : MCategory} {p_x0 : Addr} {v_x0_From : Value} {v_x0_To : Value} {v_x0_Identity : Value} {v_x0_Composites : Value} : Ct Tryz.prog 107 true (impl_Category_classifier x0) [.pointer (some (p_x0))] [.ats p_x0 [.int .i64 (x0.Objects), v_x0_From, v_x0_To, v_x0_Identity, v_x0_Composites], .rd false (sImm (sInt .i64)) v_x0_From x0.From, .rd false (sImm (sInt .i64)) v_x0_To x0.To, .rd false (sImm (sInt .i64)) v_x0_Identity x0.Identity, .rd false (sImm (sImm (sInt .i64))) v_x0_Composites x0.Composites] (fun y (v : Nat × Value × Value × Value × Value × Value × Value × Value) => [(match y.1 with | none => Value.pointer none | some _ => .pointer (some (⟨v.1, 0, none⟩))), .bool y.2]) (fun y v => match y.1 with | none => [] | some m0 => [.row v.1 [.int .i64 (m0.Sets.Shape.Objects), v.2.1, v.2.2.1, v.2.2.2.1, v.2.2.2.2.1, v.2.2.2.2.2.1, v.2.2.2.2.2.2.1, v.2.2.2.2.2.2.2] 162, .own (sOwn 2 (sInt .i64)) v.2.1 m0.Sets.Shape.From, .own (sOwn 2 (sInt .i64)) v.2.2.1 m0.Sets.Shape.To, .own (sOwn 2 (sInt .i64)) v.2.2.2.1 m0.Sets.Shape.Identity, .own (sOwn 22 (sOwn 2 (sInt .i64))) v.2.2.2.2.1 m0.Sets.Shape.Composites, .own (sOwn 2 (sInt .i64)) v.2.2.2.2.2.1 m0.Sets.Sizes, .own (sOwn 22 (sOwn 2 (sInt .i64))) v.2.2.2.2.2.2.1 m0.Sets.Actions, .own (sOwn 189 (sOwn 157 (sOwn 2 (sInt .i64)))) v.2.2.2.2.2.2.2 m0.Sieves]) := by
  refine ct (S := Unit) (by intro _ y v; obtain ⟨_ | _, _⟩ := y <;> rfl) Tryz.func107 rfl rfl ?_
  repeat' first
    | intro _
    | exact rfl
    | (refine @id.{0} _ ?_; constructor)
    | apply Dk.loopA 0 (V := Value × Value) (A := Nat × Value × Value × Value × Value × Value × Value) (_, _, _, _, _, _, _) (fun a (s : Int × (List Int) × (List (List (List Int)))) v => Dk.pc (fun a0 => Dk.pc (fun a1 => Dk.pc (fun a2 => Dk.pc (fun a3 => Dk.pc (fun a4 => Dk.pc (fun a5 a6 => [.row a0 [a1, a2, a3, a4, a5, v.1, a6, v.2] 162, .own (sOwn 2 (sInt .i64)) v.1 s.2.1, .own (sOwn 189 (sOwn 157 (sOwn 2 (sInt .i64)))) v.2 s.2.2])))))) a) (fun a s v => Dk.pc (fun a0 => Dk.pc (fun a1 => Dk.pc (fun a2 => Dk.pc (fun a3 => Dk.pc (fun a4 => Dk.pc (fun a5 a6 => [(4, .pointer (some ⟨a0, 0, none⟩)), (5, .int .i64 (s.1))])))))) a) (_, _) [(0, _)]
    | apply Dk.loopA 2 (V := Value) (A := Nat × Value × Value × Value × Value × Value × Value × Value) (_, _, _, _, _, _, _, _) (fun a (s : Int × (List (List Int))) v => Dk.pc (fun a0 => Dk.pc (fun a1 => Dk.pc (fun a2 => Dk.pc (fun a3 => Dk.pc (fun a4 => Dk.pc (fun a5 => Dk.pc (fun a6 a7 => [.row a0 [a1, a2, a3, a4, a5, a6, v, a7] 162, .own (sOwn 22 (sOwn 2 (sInt .i64))) v s.2]))))))) a) (fun a s v => Dk.pc (fun a0 => Dk.pc (fun a1 => Dk.pc (fun a2 => Dk.pc (fun a3 => Dk.pc (fun a4 => Dk.pc (fun a5 => Dk.pc (fun a6 a7 => [(4, .pointer (some ⟨a0, 0, none⟩)), (61, .int .i64 (s.1))]))))))) a) _ [(0, _), (60, _)]
    | apply Dk.loop 4 (V := Value) (fun (s : (List Int) × Int) v => [.own (sOwn 2 (sInt .i64)) v s.1]) (fun s v => [(9, v), (79, .int .i64 (s.2))]) _ [(0, _), (4, _), (8, _), (60, _), (61, _), (77, _), (78, _)]
    | apply Dk.quiet (id := 14) (by kernel_rfl)
    | apply Dk.any (id := 17) 15 [] [] [[], [], [], [2], [3, 2], [4, 3, 2], [], [5, 4, 3, 2, 6], [7, 5, 4, 3, 2, 6], [], [], [], [9, 10, 11], [1, 8, 7, 5, 4, 3, 2, 6, 12, 9, 10, 11, 12, 9, 10, 11], [13, 1, 8, 7, 5, 4, 3, 2, 6, 12, 9, 10, 11, 12, 9, 10, 11]] (by kernel_rfl)
    | apply c173
    | apply c206
    | apply c207
    | apply c108
    | exact ()
  all_goals try first | exact Value.nilFunc | exact (0 : Nat)
theorem c21 {x0 : MSetMap} {v_x0_Source_Shape_From : Value} {v_x0_Source_Shape_To : Value} {v_x0_Source_Shape_Identity : Value} {v_x0_Source_Shape_Composites : Value} {v_x0_Source_Sizes : Value} {v_x0_Source_Actions : Value} {v_x0_Target_Shape_From : Value} {v_x0_Target_Shape_To : Value} {v_x0_Target_Shape_Identity : Value} {v_x0_Target_Shape_Composites : Value} {v_x0_Target_Sizes : Value} {v_x0_Target_Actions : Value} {v_x0_Parts : Value} {x1 : MSetMap} {v_x1_Source_Shape_From : Value} {v_x1_Source_Shape_To : Value} {v_x1_Source_Shape_Identity : Value} {v_x1_Source_Shape_Composites : Value} {v_x1_Source_Sizes : Value} {v_x1_Source_Actions : Value} {v_x1_Target_Shape_From : Value} {v_x1_Target_Shape_To : Value} {v_x1_Target_Shape_Identity : Value} {v_x1_Target_Shape_Composites : Value} {v_x1_Target_Sizes : Value} {v_x1_Target_Actions : Value} {v_x1_Parts : Value} : Ct Tryz.prog 21 true (laws_eqSetMap x0 x1) [.agg #[.int .i64 (x0.Source.Shape.Objects), v_x0_Source_Shape_From, v_x0_Source_Shape_To, v_x0_Source_Shape_Identity, v_x0_Source_Shape_Composites, v_x0_Source_Sizes, v_x0_Source_Actions, .int .i64 (x0.Target.Shape.Objects), v_x0_Target_Shape_From, v_x0_Target_Shape_To, v_x0_Target_Shape_Identity, v_x0_Target_Shape_Composites, v_x0_Target_Sizes, v_x0_Target_Actions, v_x0_Parts], .agg #[.int .i64 (x1.Source.Shape.Objects), v_x1_Source_Shape_From, v_x1_Source_Shape_To, v_x1_Source_Shape_Identity, v_x1_Source_Shape_Composites, v_x1_Source_Sizes, v_x1_Source_Actions, .int .i64 (x1.Target.Shape.Objects), v_x1_Target_Shape_From, v_x1_Target_Shape_To, v_x1_Target_Shape_Identity, v_x1_Target_Shape_Composites, v_x1_Target_Sizes, v_x1_Target_Actions, v_x1_Parts]] [.rd false (sImm (sInt .i64)) v_x0_Source_Shape_From x0.Source.Shape.From, .rd false (sImm (sInt .i64)) v_x0_Source_Shape_To x0.Source.Shape.To, .rd false (sImm (sInt .i64)) v_x0_Source_Shape_Identity x0.Source.Shape.Identity, .rd false (sImm (sImm (sInt .i64))) v_x0_Source_Shape_Composites x0.Source.Shape.Composites, .rd false (sImm (sInt .i64)) v_x0_Source_Sizes x0.Source.Sizes, .rd false (sImm (sImm (sInt .i64))) v_x0_Source_Actions x0.Source.Actions, .rd false (sImm (sInt .i64)) v_x0_Target_Shape_From x0.Target.Shape.From, .rd false (sImm (sInt .i64)) v_x0_Target_Shape_To x0.Target.Shape.To, .rd false (sImm (sInt .i64)) v_x0_Target_Shape_Identity x0.Target.Shape.Identity, .rd false (sImm (sImm (sInt .i64))) v_x0_Target_Shape_Composites x0.Target.Shape.Composites, .rd false (sImm (sInt .i64)) v_x0_Target_Sizes x0.Target.Sizes, .rd false (sImm (sImm (sInt .i64))) v_x0_Target_Actions x0.Target.Actions, .rd false (sImm (sImm (sInt .i64))) v_x0_Parts x0.Parts, .rd false (sImm (sInt .i64)) v_x1_Source_Shape_From x1.Source.Shape.From, .rd false (sImm (sInt .i64)) v_x1_Source_Shape_To x1.Source.Shape.To, .rd false (sImm (sInt .i64)) v_x1_Source_Shape_Identity x1.Source.Shape.Identity, .rd false (sImm (sImm (sInt .i64))) v_x1_Source_Shape_Composites x1.Source.Shape.Composites, .rd false (sImm (sInt .i64)) v_x1_Source_Sizes x1.Source.Sizes, .rd false (sImm (sImm (sInt .i64))) v_x1_Source_Actions x1.Source.Actions, .rd false (sImm (sInt .i64)) v_x1_Target_Shape_From x1.Target.Shape.From, .rd false (sImm (sInt .i64)) v_x1_Target_Shape_To x1.Target.Shape.To, .rd false (sImm (sInt .i64)) v_x1_Target_Shape_Identity x1.Target.Shape.Identity, .rd false (sImm (sImm (sInt .i64))) v_x1_Target_Shape_Composites x1.Target.Shape.Composites, .rd false (sImm (sInt .i64)) v_x1_Target_Sizes x1.Target.Sizes, .rd false (sImm (sImm (sInt .i64))) v_x1_Target_Actions x1.Target.Actions, .rd false (sImm (sImm (sInt .i64))) v_x1_Parts x1.Parts] (fun y (_ : Unit) => [.bool y]) (fun y _ => []) := by
  refine ct (S := Unit) (owt fun _ _ => rfl) Tryz.func21 rfl rfl ?_
  repeat' first
    | intro _
    | exact rfl
    | (refine @id.{0} _ ?_; constructor)
    | apply c19
    | apply c20
    | exact ()
theorem c22 {x0 : MSetMap} {v_x0_Source_Shape_From : Value} {v_x0_Source_Shape_To : Value} {v_x0_Source_Shape_Identity : Value} {v_x0_Source_Shape_Composites : Value} {v_x0_Source_Sizes : Value} {v_x0_Source_Actions : Value} {v_x0_Target_Shape_From : Value} {v_x0_Target_Shape_To : Value} {v_x0_Target_Shape_Identity : Value} {v_x0_Target_Shape_Composites : Value} {v_x0_Target_Sizes : Value} {v_x0_Target_Actions : Value} {v_x0_Parts : Value} {x1 : Int} : Ct Tryz.prog 22 true (laws_markSetMap x0 x1) [.agg #[.int .i64 (x0.Source.Shape.Objects), v_x0_Source_Shape_From, v_x0_Source_Shape_To, v_x0_Source_Shape_Identity, v_x0_Source_Shape_Composites, v_x0_Source_Sizes, v_x0_Source_Actions, .int .i64 (x0.Target.Shape.Objects), v_x0_Target_Shape_From, v_x0_Target_Shape_To, v_x0_Target_Shape_Identity, v_x0_Target_Shape_Composites, v_x0_Target_Sizes, v_x0_Target_Actions, v_x0_Parts], .int .i64 (x1)] [.own (sOwn 2 (sInt .i64)) v_x0_Source_Shape_From x0.Source.Shape.From, .own (sOwn 2 (sInt .i64)) v_x0_Source_Shape_To x0.Source.Shape.To, .own (sOwn 2 (sInt .i64)) v_x0_Source_Shape_Identity x0.Source.Shape.Identity, .own (sOwn 22 (sOwn 2 (sInt .i64))) v_x0_Source_Shape_Composites x0.Source.Shape.Composites, .own (sOwn 2 (sInt .i64)) v_x0_Source_Sizes x0.Source.Sizes, .own (sOwn 22 (sOwn 2 (sInt .i64))) v_x0_Source_Actions x0.Source.Actions, .own (sOwn 2 (sInt .i64)) v_x0_Target_Shape_From x0.Target.Shape.From, .own (sOwn 2 (sInt .i64)) v_x0_Target_Shape_To x0.Target.Shape.To, .own (sOwn 2 (sInt .i64)) v_x0_Target_Shape_Identity x0.Target.Shape.Identity, .own (sOwn 22 (sOwn 2 (sInt .i64))) v_x0_Target_Shape_Composites x0.Target.Shape.Composites, .own (sOwn 2 (sInt .i64)) v_x0_Target_Sizes x0.Target.Sizes, .own (sOwn 22 (sOwn 2 (sInt .i64))) v_x0_Target_Actions x0.Target.Actions, .own (sOwn 22 (sOwn 2 (sInt .i64))) v_x0_Parts x0.Parts] (fun y (_ : Unit) => [.int .i64 y.1]) (fun y _ => [.own (sOwn 2 (sInt .i64)) v_x0_Source_Shape_From y.2.1, .own (sOwn 2 (sInt .i64)) v_x0_Source_Shape_To y.2.2.1, .own (sOwn 2 (sInt .i64)) v_x0_Source_Shape_Identity y.2.2.2.1, .own (sOwn 22 (sOwn 2 (sInt .i64))) v_x0_Source_Shape_Composites y.2.2.2.2.1, .own (sOwn 2 (sInt .i64)) v_x0_Source_Sizes y.2.2.2.2.2.1, .own (sOwn 22 (sOwn 2 (sInt .i64))) v_x0_Source_Actions y.2.2.2.2.2.2.1, .own (sOwn 2 (sInt .i64)) v_x0_Target_Shape_From y.2.2.2.2.2.2.2.1, .own (sOwn 2 (sInt .i64)) v_x0_Target_Shape_To y.2.2.2.2.2.2.2.2.1, .own (sOwn 2 (sInt .i64)) v_x0_Target_Shape_Identity y.2.2.2.2.2.2.2.2.2.1, .own (sOwn 22 (sOwn 2 (sInt .i64))) v_x0_Target_Shape_Composites y.2.2.2.2.2.2.2.2.2.2.1, .own (sOwn 2 (sInt .i64)) v_x0_Target_Sizes y.2.2.2.2.2.2.2.2.2.2.2.1, .own (sOwn 22 (sOwn 2 (sInt .i64))) v_x0_Target_Actions y.2.2.2.2.2.2.2.2.2.2.2.2.1, .own (sOwn 22 (sOwn 2 (sInt .i64))) v_x0_Parts y.2.2.2.2.2.2.2.2.2.2.2.2.2]) := by
  refine ct (S := Unit) (owt fun _ _ => rfl) Tryz.func22 rfl rfl ?_
  repeat' first
    | intro _
    | exact rfl
    | (refine @id.{0} _ ?_; constructor)
    | apply c23
    | apply c24
    | exact ()
theorem c15 {x0 : MSetMap} {v_x0_Source_Shape_From : Value} {v_x0_Source_Shape_To : Value} {v_x0_Source_Shape_Identity : Value} {v_x0_Source_Shape_Composites : Value} {v_x0_Source_Sizes : Value} {v_x0_Source_Actions : Value} {v_x0_Target_Shape_From : Value} {v_x0_Target_Shape_To : Value} {v_x0_Target_Shape_Identity : Value} {v_x0_Target_Shape_Composites : Value} {v_x0_Target_Sizes : Value} {v_x0_Target_Actions : Value} {v_x0_Parts : Value} {x1 : Int} : Ct Tryz.prog 15 true (laws_szSetMap x0 x1) [.agg #[.int .i64 (x0.Source.Shape.Objects), v_x0_Source_Shape_From, v_x0_Source_Shape_To, v_x0_Source_Shape_Identity, v_x0_Source_Shape_Composites, v_x0_Source_Sizes, v_x0_Source_Actions, .int .i64 (x0.Target.Shape.Objects), v_x0_Target_Shape_From, v_x0_Target_Shape_To, v_x0_Target_Shape_Identity, v_x0_Target_Shape_Composites, v_x0_Target_Sizes, v_x0_Target_Actions, v_x0_Parts], .int .i64 (x1)] [.rd false (sImm (sInt .i64)) v_x0_Source_Shape_From x0.Source.Shape.From, .rd false (sImm (sInt .i64)) v_x0_Source_Shape_To x0.Source.Shape.To, .rd false (sImm (sInt .i64)) v_x0_Source_Shape_Identity x0.Source.Shape.Identity, .rd false (sImm (sImm (sInt .i64))) v_x0_Source_Shape_Composites x0.Source.Shape.Composites, .rd false (sImm (sInt .i64)) v_x0_Source_Sizes x0.Source.Sizes, .rd false (sImm (sImm (sInt .i64))) v_x0_Source_Actions x0.Source.Actions, .rd false (sImm (sInt .i64)) v_x0_Target_Shape_From x0.Target.Shape.From, .rd false (sImm (sInt .i64)) v_x0_Target_Shape_To x0.Target.Shape.To, .rd false (sImm (sInt .i64)) v_x0_Target_Shape_Identity x0.Target.Shape.Identity, .rd false (sImm (sImm (sInt .i64))) v_x0_Target_Shape_Composites x0.Target.Shape.Composites, .rd false (sImm (sInt .i64)) v_x0_Target_Sizes x0.Target.Sizes, .rd false (sImm (sImm (sInt .i64))) v_x0_Target_Actions x0.Target.Actions, .rd false (sImm (sImm (sInt .i64))) v_x0_Parts x0.Parts] (fun y (_ : Unit) => [.int .i64 y]) (fun y _ => []) := by
  refine ct (S := Unit) (owt fun _ _ => rfl) Tryz.func15 rfl rfl ?_
  repeat' first
    | intro _
    | exact rfl
    | (refine @id.{0} _ ?_; constructor)
    | apply c28
    | apply c73
    | exact ()
theorem c17 {x0 : MSetMap} {v_x0_Source_Shape_From : Value} {v_x0_Source_Shape_To : Value} {v_x0_Source_Shape_Identity : Value} {v_x0_Source_Shape_Composites : Value} {v_x0_Source_Sizes : Value} {v_x0_Source_Actions : Value} {v_x0_Target_Shape_From : Value} {v_x0_Target_Shape_To : Value} {v_x0_Target_Shape_Identity : Value} {v_x0_Target_Shape_Composites : Value} {v_x0_Target_Sizes : Value} {v_x0_Target_Actions : Value} {v_x0_Parts : Value} : Ct Tryz.prog 17 true (laws_toSetMap x0) [.agg #[.int .i64 (x0.Source.Shape.Objects), v_x0_Source_Shape_From, v_x0_Source_Shape_To, v_x0_Source_Shape_Identity, v_x0_Source_Shape_Composites, v_x0_Source_Sizes, v_x0_Source_Actions, .int .i64 (x0.Target.Shape.Objects), v_x0_Target_Shape_From, v_x0_Target_Shape_To, v_x0_Target_Shape_Identity, v_x0_Target_Shape_Composites, v_x0_Target_Sizes, v_x0_Target_Actions, v_x0_Parts]] [.rd false (sImm (sInt .i64)) v_x0_Source_Shape_From x0.Source.Shape.From, .rd false (sImm (sInt .i64)) v_x0_Source_Shape_To x0.Source.Shape.To, .rd false (sImm (sInt .i64)) v_x0_Source_Shape_Identity x0.Source.Shape.Identity, .rd false (sImm (sImm (sInt .i64))) v_x0_Source_Shape_Composites x0.Source.Shape.Composites, .rd false (sImm (sInt .i64)) v_x0_Source_Sizes x0.Source.Sizes, .rd false (sImm (sImm (sInt .i64))) v_x0_Source_Actions x0.Source.Actions, .rd false (sImm (sInt .i64)) v_x0_Target_Shape_From x0.Target.Shape.From, .rd false (sImm (sInt .i64)) v_x0_Target_Shape_To x0.Target.Shape.To, .rd false (sImm (sInt .i64)) v_x0_Target_Shape_Identity x0.Target.Shape.Identity, .rd false (sImm (sImm (sInt .i64))) v_x0_Target_Shape_Composites x0.Target.Shape.Composites, .rd false (sImm (sInt .i64)) v_x0_Target_Sizes x0.Target.Sizes, .rd false (sImm (sImm (sInt .i64))) v_x0_Target_Actions x0.Target.Actions, .rd false (sImm (sImm (sInt .i64))) v_x0_Parts x0.Parts] (fun y (v : Value × Value × Value × Value × Value × Value × Value × Value × Value × Value × Value × Value × Value) => [.agg #[.int .i64 y.Source.Shape.Objects, v.1, v.2.1, v.2.2.1, v.2.2.2.1, v.2.2.2.2.1, v.2.2.2.2.2.1, .int .i64 y.Target.Shape.Objects, v.2.2.2.2.2.2.1, v.2.2.2.2.2.2.2.1, v.2.2.2.2.2.2.2.2.1, v.2.2.2.2.2.2.2.2.2.1, v.2.2.2.2.2.2.2.2.2.2.1, v.2.2.2.2.2.2.2.2.2.2.2.1, v.2.2.2.2.2.2.2.2.2.2.2.2]]) (fun y v => [.own (sOwn 2 (sInt .i64)) v.1 y.Source.Shape.From, .own (sOwn 2 (sInt .i64)) v.2.1 y.Source.Shape.To, .own (sOwn 2 (sInt .i64)) v.2.2.1 y.Source.Shape.Identity, .own (sOwn 22 (sOwn 2 (sInt .i64))) v.2.2.2.1 y.Source.Shape.Composites, .own (sOwn 2 (sInt .i64)) v.2.2.2.2.1 y.Source.Sizes, .own (sOwn 22 (sOwn 2 (sInt .i64))) v.2.2.2.2.2.1 y.Source.Actions, .own (sOwn 2 (sInt .i64)) v.2.2.2.2.2.2.1 y.Target.Shape.From, .own (sOwn 2 (sInt .i64)) v.2.2.2.2.2.2.2.1 y.Target.Shape.To, .own (sOwn 2 (sInt .i64)) v.2.2.2.2.2.2.2.2.1 y.Target.Shape.Identity, .own (sOwn 22 (sOwn 2 (sInt .i64))) v.2.2.2.2.2.2.2.2.2.1 y.Target.Shape.Composites, .own (sOwn 2 (sInt .i64)) v.2.2.2.2.2.2.2.2.2.2.1 y.Target.Sizes, .own (sOwn 22 (sOwn 2 (sInt .i64))) v.2.2.2.2.2.2.2.2.2.2.2.1 y.Target.Actions, .own (sOwn 22 (sOwn 2 (sInt .i64))) v.2.2.2.2.2.2.2.2.2.2.2.2 y.Parts]) := by
  refine ct (S := Unit) (owt fun _ _ => rfl) Tryz.func17 rfl rfl ?_
  repeat' first
    | intro _
    | exact rfl
    | (refine @id.{0} _ ?_; constructor)
    | apply c31
    | apply c80
    | exact ()
theorem c215 {x0 : MSetFunctor} {v_x0_Shape_From : Value} {v_x0_Shape_To : Value} {v_x0_Shape_Identity : Value} {v_x0_Shape_Composites : Value} {v_x0_Sizes : Value} {v_x0_Actions : Value} {x1 : MSetFunctor} {v_x1_Shape_From : Value} {v_x1_Shape_To : Value} {v_x1_Shape_Identity : Value} {v_x1_Shape_Composites : Value} {v_x1_Sizes : Value} {v_x1_Actions : Value} : Ct Tryz.prog 215 true (spec_l19Between x0 x1) [.agg #[.int .i64 (x0.Shape.Objects), v_x0_Shape_From, v_x0_Shape_To, v_x0_Shape_Identity, v_x0_Shape_Composites, v_x0_Sizes, v_x0_Actions], .agg #[.int .i64 (x1.Shape.Objects), v_x1_Shape_From, v_x1_Shape_To, v_x1_Shape_Identity, v_x1_Shape_Composites, v_x1_Sizes, v_x1_Actions]] [.rd false (sImm (sInt .i64)) v_x0_Shape_From x0.Shape.From, .rd false (sImm (sInt .i64)) v_x0_Shape_To x0.Shape.To, .rd false (sImm (sInt .i64)) v_x0_Shape_Identity x0.Shape.Identity, .rd false (sImm (sImm (sInt .i64))) v_x0_Shape_Composites x0.Shape.Composites, .rd false (sImm (sInt .i64)) v_x0_Sizes x0.Sizes, .rd false (sImm (sImm (sInt .i64))) v_x0_Actions x0.Actions, .rd false (sImm (sInt .i64)) v_x1_Shape_From x1.Shape.From, .rd false (sImm (sInt .i64)) v_x1_Shape_To x1.Shape.To, .rd false (sImm (sInt .i64)) v_x1_Shape_Identity x1.Shape.Identity, .rd false (sImm (sImm (sInt .i64))) v_x1_Shape_Composites x1.Shape.Composites, .rd false (sImm (sInt .i64)) v_x1_Sizes x1.Sizes, .rd false (sImm (sImm (sInt .i64))) v_x1_Actions x1.Actions] (fun y (_ : Unit) => [.bool y]) (fun y _ => []) := by
  refine ct (S := Unit) (owt fun _ _ => rfl) Tryz.func215 rfl rfl ?_
  repeat' first
    | intro _
    | exact rfl
    | (refine @id.{0} _ ?_; constructor)
    | apply c198
    | apply c218
    | exact ()
theorem c115 {x0 : MSetMap} {v_x0_Source_Shape_From : Value} {v_x0_Source_Shape_To : Value} {v_x0_Source_Shape_Identity : Value} {v_x0_Source_Shape_Composites : Value} {v_x0_Source_Sizes : Value} {v_x0_Source_Actions : Value} {v_x0_Target_Shape_From : Value} {v_x0_Target_Shape_To : Value} {v_x0_Target_Shape_Identity : Value} {v_x0_Target_Shape_Composites : Value} {v_x0_Target_Sizes : Value} {v_x0_Target_Actions : Value} {v_x0_Parts : Value} : Ct Tryz.prog 115 true (spec_l19IsMap x0) [.agg #[.int .i64 (x0.Source.Shape.Objects), v_x0_Source_Shape_From, v_x0_Source_Shape_To, v_x0_Source_Shape_Identity, v_x0_Source_Shape_Composites, v_x0_Source_Sizes, v_x0_Source_Actions, .int .i64 (x0.Target.Shape.Objects), v_x0_Target_Shape_From, v_x0_Target_Shape_To, v_x0_Target_Shape_Identity, v_x0_Target_Shape_Composites, v_x0_Target_Sizes, v_x0_Target_Actions, v_x0_Parts]] [.rd false (sImm (sInt .i64)) v_x0_Source_Shape_From x0.Source.Shape.From, .rd false (sImm (sInt .i64)) v_x0_Source_Shape_To x0.Source.Shape.To, .rd false (sImm (sInt .i64)) v_x0_Source_Shape_Identity x0.Source.Shape.Identity, .rd false (sImm (sImm (sInt .i64))) v_x0_Source_Shape_Composites x0.Source.Shape.Composites, .rd false (sImm (sInt .i64)) v_x0_Source_Sizes x0.Source.Sizes, .rd false (sImm (sImm (sInt .i64))) v_x0_Source_Actions x0.Source.Actions, .rd false (sImm (sInt .i64)) v_x0_Target_Shape_From x0.Target.Shape.From, .rd false (sImm (sInt .i64)) v_x0_Target_Shape_To x0.Target.Shape.To, .rd false (sImm (sInt .i64)) v_x0_Target_Shape_Identity x0.Target.Shape.Identity, .rd false (sImm (sImm (sInt .i64))) v_x0_Target_Shape_Composites x0.Target.Shape.Composites, .rd false (sImm (sInt .i64)) v_x0_Target_Sizes x0.Target.Sizes, .rd false (sImm (sImm (sInt .i64))) v_x0_Target_Actions x0.Target.Actions, .rd false (sImm (sImm (sInt .i64))) v_x0_Parts x0.Parts] (fun y (_ : Unit) => [.bool y]) (fun y _ => []) := by
  refine ct (S := Unit) (owt fun _ _ => rfl) Tryz.func115 rfl rfl ?_
  repeat' first
    | intro _
    | exact rfl
    | (refine @id.{0} _ ?_; constructor)
    | apply c215
    | apply c216
    | apply c217
    | exact ()
theorem c44 {x0 : MSetMap} {v_x0_Source_Shape_From : Value} {v_x0_Source_Shape_To : Value} {v_x0_Source_Shape_Identity : Value} {v_x0_Source_Shape_Composites : Value} {v_x0_Source_Sizes : Value} {v_x0_Source_Actions : Value} {v_x0_Target_Shape_From : Value} {v_x0_Target_Shape_To : Value} {v_x0_Target_Shape_Identity : Value} {v_x0_Target_Shape_Composites : Value} {v_x0_Target_Sizes : Value} {v_x0_Target_Actions : Value} {v_x0_Parts : Value} : Ct Tryz.prog 44 true (spec_PartOfMap x0) [.agg #[.int .i64 (x0.Source.Shape.Objects), v_x0_Source_Shape_From, v_x0_Source_Shape_To, v_x0_Source_Shape_Identity, v_x0_Source_Shape_Composites, v_x0_Source_Sizes, v_x0_Source_Actions, .int .i64 (x0.Target.Shape.Objects), v_x0_Target_Shape_From, v_x0_Target_Shape_To, v_x0_Target_Shape_Identity, v_x0_Target_Shape_Composites, v_x0_Target_Sizes, v_x0_Target_Actions, v_x0_Parts]] [.rd false (sImm (sInt .i64)) v_x0_Source_Shape_From x0.Source.Shape.From, .rd false (sImm (sInt .i64)) v_x0_Source_Shape_To x0.Source.Shape.To, .rd false (sImm (sInt .i64)) v_x0_Source_Shape_Identity x0.Source.Shape.Identity, .rd false (sImm (sImm (sInt .i64))) v_x0_Source_Shape_Composites x0.Source.Shape.Composites, .rd false (sImm (sInt .i64)) v_x0_Source_Sizes x0.Source.Sizes, .rd false (sImm (sImm (sInt .i64))) v_x0_Source_Actions x0.Source.Actions, .rd false (sImm (sInt .i64)) v_x0_Target_Shape_From x0.Target.Shape.From, .rd false (sImm (sInt .i64)) v_x0_Target_Shape_To x0.Target.Shape.To, .rd false (sImm (sInt .i64)) v_x0_Target_Shape_Identity x0.Target.Shape.Identity, .rd false (sImm (sImm (sInt .i64))) v_x0_Target_Shape_Composites x0.Target.Shape.Composites, .rd false (sImm (sInt .i64)) v_x0_Target_Sizes x0.Target.Sizes, .rd false (sImm (sImm (sInt .i64))) v_x0_Target_Actions x0.Target.Actions, .rd false (sImm (sImm (sInt .i64))) v_x0_Parts x0.Parts] (fun y (v : Value) => [.agg #[v], .int .i64 y.2]) (fun y v => [.own (sOwn 22 (sOwn 2 (sInt .i64))) v y.1.Members]) := by
  refine ct (S := Unit) (owt fun _ _ => rfl) Tryz.func44 rfl rfl ?_
  repeat' first
    | intro _
    | exact rfl
    | (refine @id.{0} _ ?_; constructor)
    | apply Dk.loop 0 (V := Value) (fun (s : (List (List Int)) × Int) v => [.own (sOwn 22 (sOwn 2 (sInt .i64))) v s.1]) (fun s v => [(8, v), (9, .int .i64 (s.2))]) _ [(1, _), (2, _), (7, _)]
    | apply Dk.loop 2 (V := Value) (fun (s : (List Int) × Int) v => [.own (sOwn 2 (sInt .i64)) v s.1]) (fun s v => [(10, v), (11, .int .i64 (s.2))]) _ [(1, _), (2, _), (7, _), (8, _), (9, _)]
    | apply Dk.quiet (id := 17) (by kernel_rfl)
    | apply Dk.any (id := 7) 5 [] [] [[], [0], [], [], [2, 3]] (by kernel_rfl)
    | apply c115
    | apply c101
    | apply c105
    | apply c116
    | apply c117
    | exact ()
theorem c258 {x0 : (List MSetFunctor)} {v_x0 : Value} : Ct Tryz.prog 258 true (impl_areSetFunctors x0) [v_x0] [.rd false (sImm (sPtr sS33)) v_x0 x0] (fun y (_ : Unit) => [.bool y]) (fun y _ => []) := by
  refine ct (S := Unit) (owt fun _ _ => rfl) Tryz.func258 rfl rfl ?_
  repeat' first
    | intro _
    | exact rfl
    | (refine @id.{0} _ ?_; constructor)
    | apply Dk.loop 0 (V := Unit) (fun (s : Int) v => []) (fun s v => [(7, .int .i64 (s))]) () [(5, _), (6, _)]
    | apply c191
    | exact ()
theorem c221 {x0 : MSetMap} {p_x0 : Addr} {v_x0_Source_Shape_From : Value} {v_x0_Source_Shape_To : Value} {v_x0_Source_Shape_Identity : Value} {v_x0_Source_Shape_Composites : Value} {v_x0_Source_Sizes : Value} {v_x0_Source_Actions : Value} {v_x0_Target_Shape_From : Value} {v_x0_Target_Shape_To : Value} {v_x0_Target_Shape_Identity : Value} {v_x0_Target_Shape_Composites : Value} {v_x0_Target_Sizes : Value} {v_x0_Target_Actions : Value} {v_x0_Parts : Value} : Ct Tryz.prog 221 true (impl_SetMap_isShape x0) [.pointer (some (p_x0))] [.ats p_x0 [.int .i64 (x0.Source.Shape.Objects), v_x0_Source_Shape_From, v_x0_Source_Shape_To, v_x0_Source_Shape_Identity, v_x0_Source_Shape_Composites, v_x0_Source_Sizes, v_x0_Source_Actions, .int .i64 (x0.Target.Shape.Objects), v_x0_Target_Shape_From, v_x0_Target_Shape_To, v_x0_Target_Shape_Identity, v_x0_Target_Shape_Composites, v_x0_Target_Sizes, v_x0_Target_Actions, v_x0_Parts], .rd false (sImm (sInt .i64)) v_x0_Source_Shape_From x0.Source.Shape.From, .rd false (sImm (sInt .i64)) v_x0_Source_Shape_To x0.Source.Shape.To, .rd false (sImm (sInt .i64)) v_x0_Source_Shape_Identity x0.Source.Shape.Identity, .rd false (sImm (sImm (sInt .i64))) v_x0_Source_Shape_Composites x0.Source.Shape.Composites, .rd false (sImm (sInt .i64)) v_x0_Source_Sizes x0.Source.Sizes, .rd false (sImm (sImm (sInt .i64))) v_x0_Source_Actions x0.Source.Actions, .rd false (sImm (sInt .i64)) v_x0_Target_Shape_From x0.Target.Shape.From, .rd false (sImm (sInt .i64)) v_x0_Target_Shape_To x0.Target.Shape.To, .rd false (sImm (sInt .i64)) v_x0_Target_Shape_Identity x0.Target.Shape.Identity, .rd false (sImm (sImm (sInt .i64))) v_x0_Target_Shape_Composites x0.Target.Shape.Composites, .rd false (sImm (sInt .i64)) v_x0_Target_Sizes x0.Target.Sizes, .rd false (sImm (sImm (sInt .i64))) v_x0_Target_Actions x0.Target.Actions, .rd false (sImm (sImm (sInt .i64))) v_x0_Parts x0.Parts] (fun y (_ : Unit) => [.bool y]) (fun y _ => []) := by
  refine ct (S := Unit) (owt fun _ _ => rfl) Tryz.func221 rfl rfl ?_
  repeat' first
    | intro _
    | exact rfl
    | (refine @id.{0} _ ?_; constructor)
    | apply Dk.anyq (id := 1) 7 [] [[], [0], [1, 0], [], [3], [4, 3], [2, 1, 0, 5, 4, 3]] (by kernel_rfl)
    | apply c258
    | apply c171
    | apply c305
    | exact ()
theorem c118 {x0 : MSetMap} {p_x0 : Addr} {v_x0_Source_Shape_From : Value} {v_x0_Source_Shape_To : Value} {v_x0_Source_Shape_Identity : Value} {v_x0_Source_Shape_Composites : Value} {v_x0_Source_Sizes : Value} {v_x0_Source_Actions : Value} {v_x0_Target_Shape_From : Value} {v_x0_Target_Shape_To : Value} {v_x0_Target_Shape_Identity : Value} {v_x0_Target_Shape_Composites : Value} {v_x0_Target_Sizes : Value} {v_x0_Target_Actions : Value} {v_x0_Parts : Value} : Ct Tryz.prog 118 true (impl_SetMap_isNatural x0) [.pointer (some (p_x0))] [.ats p_x0 [.int .i64 (x0.Source.Shape.Objects), v_x0_Source_Shape_From, v_x0_Source_Shape_To, v_x0_Source_Shape_Identity, v_x0_Source_Shape_Composites, v_x0_Source_Sizes, v_x0_Source_Actions, .int .i64 (x0.Target.Shape.Objects), v_x0_Target_Shape_From, v_x0_Target_Shape_To, v_x0_Target_Shape_Identity, v_x0_Target_Shape_Composites, v_x0_Target_Sizes, v_x0_Target_Actions, v_x0_Parts], .rd false (sImm (sInt .i64)) v_x0_Source_Shape_From x0.Source.Shape.From, .rd false (sImm (sInt .i64)) v_x0_Source_Shape_To x0.Source.Shape.To, .rd false (sImm (sInt .i64)) v_x0_Source_Shape_Identity x0.Source.Shape.Identity, .rd false (sImm (sImm (sInt .i64))) v_x0_Source_Shape_Composites x0.Source.Shape.Composites, .rd false (sImm (sInt .i64)) v_x0_Source_Sizes x0.Source.Sizes, .rd false (sImm (sImm (sInt .i64))) v_x0_Source_Actions x0.Source.Actions, .rd false (sImm (sInt .i64)) v_x0_Target_Shape_From x0.Target.Shape.From, .rd false (sImm (sInt .i64)) v_x0_Target_Shape_To x0.Target.Shape.To, .rd false (sImm (sInt .i64)) v_x0_Target_Shape_Identity x0.Target.Shape.Identity, .rd false (sImm (sImm (sInt .i64))) v_x0_Target_Shape_Composites x0.Target.Shape.Composites, .rd false (sImm (sInt .i64)) v_x0_Target_Sizes x0.Target.Sizes, .rd false (sImm (sImm (sInt .i64))) v_x0_Target_Actions x0.Target.Actions, .rd false (sImm (sImm (sInt .i64))) v_x0_Parts x0.Parts] (fun y (_ : Unit) => [.bool y]) (fun y _ => []) := by
  refine ct (S := Unit) (owt fun _ _ => rfl) Tryz.func118 rfl rfl ?_
  repeat' first
    | intro _
    | exact rfl
    | (refine @id.{0} _ ?_; constructor)
    | apply c221
    | apply c222
    | exact ()
theorem c45 {x0 : MSetMap} {v_x0_Source_Shape_From : Value} {v_x0_Source_Shape_To : Value} {v_x0_Source_Shape_Identity : Value} {v_x0_Source_Shape_Composites : Value} {v_x0_Source_Sizes : Value} {v_x0_Source_Actions : Value} {v_x0_Target_Shape_From : Value} {v_x0_Target_Shape_To : Value} {v_x0_Target_Shape_Identity : Value} {v_x0_Target_Shape_Composites : Value} {v_x0_Target_Sizes : Value} {v_x0_Target_Actions : Value} {v_x0_Parts : Value} : Ct Tryz.prog 45 true (impl_PartOfMap x0) [.agg #[.int .i64 (x0.Source.Shape.Objects), v_x0_Source_Shape_From, v_x0_Source_Shape_To, v_x0_Source_Shape_Identity, v_x0_Source_Shape_Composites, v_x0_Source_Sizes, v_x0_Source_Actions, .int .i64 (x0.Target.Shape.Objects), v_x0_Target_Shape_From, v_x0_Target_Shape_To, v_x0_Target_Shape_Identity, v_x0_Target_Shape_Composites, v_x0_Target_Sizes, v_x0_Target_Actions, v_x0_Parts]] [.rd false (sImm (sInt .i64)) v_x0_Source_Shape_From x0.Source.Shape.From, .rd false (sImm (sInt .i64)) v_x0_Source_Shape_To x0.Source.Shape.To, .rd false (sImm (sInt .i64)) v_x0_Source_Shape_Identity x0.Source.Shape.Identity, .rd false (sImm (sImm (sInt .i64))) v_x0_Source_Shape_Composites x0.Source.Shape.Composites, .rd false (sImm (sInt .i64)) v_x0_Source_Sizes x0.Source.Sizes, .rd false (sImm (sImm (sInt .i64))) v_x0_Source_Actions x0.Source.Actions, .rd false (sImm (sInt .i64)) v_x0_Target_Shape_From x0.Target.Shape.From, .rd false (sImm (sInt .i64)) v_x0_Target_Shape_To x0.Target.Shape.To, .rd false (sImm (sInt .i64)) v_x0_Target_Shape_Identity x0.Target.Shape.Identity, .rd false (sImm (sImm (sInt .i64))) v_x0_Target_Shape_Composites x0.Target.Shape.Composites, .rd false (sImm (sInt .i64)) v_x0_Target_Sizes x0.Target.Sizes, .rd false (sImm (sImm (sInt .i64))) v_x0_Target_Actions x0.Target.Actions, .rd false (sImm (sImm (sInt .i64))) v_x0_Parts x0.Parts] (fun y (v : Value) => [.agg #[v], .int .i64 y.2]) (fun y v => [.own (sOwn 22 (sOwn 2 (sInt .i64))) v y.1.Members]) := by
  refine ct (S := Unit) (owt fun _ _ => rfl) Tryz.func45 rfl rfl ?_
  repeat' first
    | intro _
    | exact rfl
    | (refine @id.{0} _ ?_; constructor)
    | apply c118
    | apply c107
    | apply c82
    | apply c119
    | apply c121
    | apply c120_k121
    | exact ()
theorem c7 {x0 : MSetMap} {v_x0_Source_Shape_From : Value} {v_x0_Source_Shape_To : Value} {v_x0_Source_Shape_Identity : Value} {v_x0_Source_Shape_Composites : Value} {v_x0_Source_Sizes : Value} {v_x0_Source_Actions : Value} {v_x0_Target_Shape_From : Value} {v_x0_Target_Shape_To : Value} {v_x0_Target_Shape_Identity : Value} {v_x0_Target_Shape_Composites : Value} {v_x0_Target_Sizes : Value} {v_x0_Target_Actions : Value} {v_x0_Parts : Value} : Ct Tryz.prog 7 true (laws_FnExactPartOfMap x0) [.agg #[.int .i64 (x0.Source.Shape.Objects), v_x0_Source_Shape_From, v_x0_Source_Shape_To, v_x0_Source_Shape_Identity, v_x0_Source_Shape_Composites, v_x0_Source_Sizes, v_x0_Source_Actions, .int .i64 (x0.Target.Shape.Objects), v_x0_Target_Shape_From, v_x0_Target_Shape_To, v_x0_Target_Shape_Identity, v_x0_Target_Shape_Composites, v_x0_Target_Sizes, v_x0_Target_Actions, v_x0_Parts]] [.rd false (sImm (sInt .i64)) v_x0_Source_Shape_From x0.Source.Shape.From, .rd false (sImm (sInt .i64)) v_x0_Source_Shape_To x0.Source.Shape.To, .rd false (sImm (sInt .i64)) v_x0_Source_Shape_Identity x0.Source.Shape.Identity, .rd false (sImm (sImm (sInt .i64))) v_x0_Source_Shape_Composites x0.Source.Shape.Composites, .rd false (sImm (sInt .i64)) v_x0_Source_Sizes x0.Source.Sizes, .rd false (sImm (sImm (sInt .i64))) v_x0_Source_Actions x0.Source.Actions, .rd false (sImm (sInt .i64)) v_x0_Target_Shape_From x0.Target.Shape.From, .rd false (sImm (sInt .i64)) v_x0_Target_Shape_To x0.Target.Shape.To, .rd false (sImm (sInt .i64)) v_x0_Target_Shape_Identity x0.Target.Shape.Identity, .rd false (sImm (sImm (sInt .i64))) v_x0_Target_Shape_Composites x0.Target.Shape.Composites, .rd false (sImm (sInt .i64)) v_x0_Target_Sizes x0.Target.Sizes, .rd false (sImm (sImm (sInt .i64))) v_x0_Target_Actions x0.Target.Actions, .rd false (sImm (sImm (sInt .i64))) v_x0_Parts x0.Parts] (fun y (_ : Unit) => [.bool y]) (fun y _ => []) := by
  refine ct (S := Unit) (owt fun _ _ => rfl) Tryz.func7 rfl rfl ?_
  repeat' first
    | intro _
    | exact rfl
    | (refine @id.{0} _ ?_; constructor)
    | apply Dk.any (id := 10) 3 [] [] [[], [], [1]] (by kernel_rfl)
    | apply c15
    | apply c17
    | apply c44
    | apply c45
    | apply c39
    | apply c21
    | apply c22
    | apply c40
    | apply c46
    | exact ()
theorem laws_FnExactPartOfMap_calls {w : World} {x0 : MSetMap} {v_x0_Source_Shape_From : Value} {f_x0_Source_Shape_From : List Nat} {v_x0_Source_Shape_To : Value} {f_x0_Source_Shape_To : List Nat} {v_x0_Source_Shape_Identity : Value} {f_x0_Source_Shape_Identity : List Nat} {v_x0_Source_Shape_Composites : Value} {f_x0_Source_Shape_Composites : List Nat} {v_x0_Source_Sizes : Value} {f_x0_Source_Sizes : List Nat} {v_x0_Source_Actions : Value} {f_x0_Source_Actions : List Nat} {v_x0_Target_Shape_From : Value} {f_x0_Target_Shape_From : List Nat} {v_x0_Target_Shape_To : Value} {f_x0_Target_Shape_To : List Nat} {v_x0_Target_Shape_Identity : Value} {f_x0_Target_Shape_Identity : List Nat} {v_x0_Target_Shape_Composites : Value} {f_x0_Target_Shape_Composites : List Nat} {v_x0_Target_Sizes : Value} {f_x0_Target_Sizes : List Nat} {v_x0_Target_Actions : Value} {f_x0_Target_Actions : List Nat} {v_x0_Parts : Value} {f_x0_Parts : List Nat} (h_x0_Source_Shape_From : (sImm (sInt .i64)).rep w.heap [v_x0_Source_Shape_From] x0.Source.Shape.From f_x0_Source_Shape_From) (h_x0_Source_Shape_To : (sImm (sInt .i64)).rep w.heap [v_x0_Source_Shape_To] x0.Source.Shape.To f_x0_Source_Shape_To) (h_x0_Source_Shape_Identity : (sImm (sInt .i64)).rep w.heap [v_x0_Source_Shape_Identity] x0.Source.Shape.Identity f_x0_Source_Shape_Identity) (h_x0_Source_Shape_Composites : (sImm (sImm (sInt .i64))).rep w.heap [v_x0_Source_Shape_Composites] x0.Source.Shape.Composites f_x0_Source_Shape_Composites) (h_x0_Source_Sizes : (sImm (sInt .i64)).rep w.heap [v_x0_Source_Sizes] x0.Source.Sizes f_x0_Source_Sizes) (h_x0_Source_Actions : (sImm (sImm (sInt .i64))).rep w.heap [v_x0_Source_Actions] x0.Source.Actions f_x0_Source_Actions) (h_x0_Target_Shape_From : (sImm (sInt .i64)).rep w.heap [v_x0_Target_Shape_From] x0.Target.Shape.From f_x0_Target_Shape_From) (h_x0_Target_Shape_To : (sImm (sInt .i64)).rep w.heap [v_x0_Target_Shape_To] x0.Target.Shape.To f_x0_Target_Shape_To) (h_x0_Target_Shape_Identity : (sImm (sInt .i64)).rep w.heap [v_x0_Target_Shape_Identity] x0.Target.Shape.Identity f_x0_Target_Shape_Identity) (h_x0_Target_Shape_Composites : (sImm (sImm (sInt .i64))).rep w.heap [v_x0_Target_Shape_Composites] x0.Target.Shape.Composites f_x0_Target_Shape_Composites) (h_x0_Target_Sizes : (sImm (sInt .i64)).rep w.heap [v_x0_Target_Sizes] x0.Target.Sizes f_x0_Target_Sizes) (h_x0_Target_Actions : (sImm (sImm (sInt .i64))).rep w.heap [v_x0_Target_Actions] x0.Target.Actions f_x0_Target_Actions) (h_x0_Parts : (sImm (sImm (sInt .i64))).rep w.heap [v_x0_Parts] x0.Parts f_x0_Parts) {y : (Bool)} (hm : laws_FnExactPartOfMap x0 = some y) : Calls Tryz.prog 7 #[.agg #[.int .i64 (x0.Source.Shape.Objects), v_x0_Source_Shape_From, v_x0_Source_Shape_To, v_x0_Source_Shape_Identity, v_x0_Source_Shape_Composites, v_x0_Source_Sizes, v_x0_Source_Actions, .int .i64 (x0.Target.Shape.Objects), v_x0_Target_Shape_From, v_x0_Target_Shape_To, v_x0_Target_Shape_Identity, v_x0_Target_Shape_Composites, v_x0_Target_Sizes, v_x0_Target_Actions, v_x0_Parts]] w (fun e w' => e = .returned (.bool y) ∧ Chg [] w w') :=
  ct_read c7 (.fact (fact_rd h_x0_Source_Shape_From) (.fact (fact_rd h_x0_Source_Shape_To) (.fact (fact_rd h_x0_Source_Shape_Identity) (.fact (fact_rd h_x0_Source_Shape_Composites) (.fact (fact_rd h_x0_Source_Sizes) (.fact (fact_rd h_x0_Source_Actions) (.fact (fact_rd h_x0_Target_Shape_From) (.fact (fact_rd h_x0_Target_Shape_To) (.fact (fact_rd h_x0_Target_Shape_Identity) (.fact (fact_rd h_x0_Target_Shape_Composites) (.fact (fact_rd h_x0_Target_Sizes) (.fact (fact_rd h_x0_Target_Actions) (.fact (fact_rd h_x0_Parts) (.nil)))))))))))))) hm
end Go.Proofs.YtdlhbbhdfnnmnaaGreat
