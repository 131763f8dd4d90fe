/- Walks by the calculus D. No condition beside those that each theorem names. -/
import Derived.Test.YtbedkejmebepcaaGreatDi
import Derived.Test.YtbedkejmebepcaaGreatMo
import Derived.Test.YtbedkejmebepcaaGreatDg
import Derived.Test.YtbedkejmebepcaaGreatDs
import Derived.Test.YtbedkejmebepcaaGreatSo
import Derived.Test.YtbedkejmebepcaaGreatWa
import Derived.Test.YtbedkejmebepcaaGreatWb
import Derived.Test.YtbedkejmebepcaaGreatWc
import Derived.Test.YtbedkejmebepcaaGreatWd
import Derived.Test.YtbedkejmebepcaaGreatWe
import Derived.Test.YtbedkejmebepcaaGreatWf
import Derived.Test.YtbedkejmebepcaaGreatWi
import Derived.Test.YtbedkejmebepcaaGreatWj
import Derived.Test.YtbedkejmebepcaaGreatWk
import Derived.Test.YtbedkejmebepcaaGreatWl
namespace Go.Proofs.YtbedkejmebepcaaGreat
open Go Go.Li Go.Dk
set_option linter.unusedVariables false
set_option maxHeartbeats 1000000
set_option maxRecDepth 100000
theorem c29 {x0 : ML01Source} {b_x0 : Nat} {v_x0_Code : Value} {x1 : Int} {x2 : Int} : Ct Tryz.prog 29 true (spec_l02Some x0 x1 x2) [.pointer (some (⟨b_x0, 0, none⟩)), .int .i64 (x1), .int .i64 (x2)] [.row b_x0 [v_x0_Code, .int .i64 (x0.At), .int .u64 (x0.Hash)] 68, .rd false (sImm (sInt .u8)) v_x0_Code x0.Code] (fun y (v : Value × Value × Value × Value) => [.agg #[.int .i64 y.1.Objects, v.1, v.2.1, v.2.2.1, v.2.2.2]]) (fun y v => [.own (sOwn 2 (sInt .i64)) v.1 y.1.From, .own (sOwn 2 (sInt .i64)) v.2.1 y.1.To, .own (sOwn 2 (sInt .i64)) v.2.2.1 y.1.Identity, .own (sOwn 24 (sOwn 2 (sInt .i64))) v.2.2.2 y.1.Composites, .row b_x0 [v_x0_Code, .int .i64 y.2.At, .int .u64 y.2.Hash] 68]) := by
  refine ct (S := Unit) (owt fun _ _ => rfl) Tryz.func29 rfl rfl ?_
  repeat' first
    | intro _
    | exact rfl
    | (refine @id.{0} _ ?_; constructor)
    | apply Dk.loop 0 (V := Unit) (fun (s : Int × Int × Int) v => [.row b_x0 [v_x0_Code, .int .i64 (s.2.1), .int .u64 (s.2.2)] 68]) (fun s v => [(7, .int .i64 (s.1))]) () [(0, _), (1, _), (2, _), (6, _)]
    | apply Dk.anyH (id := 6) [Dk.Ent.row _ _ 68] 3 [] [[], [], [5]] [[], [], [1]] (by kernel_rfl)
    | apply Dk.anyH (id := 8) [Dk.Ent.row _ _ 68] 3 [] [[], [], [5]] [[], [], [1]] (by kernel_rfl)
    | apply c52
    | apply c14
    | apply c53
    | apply c54
    | apply c55
    | apply c56
    | exact ()
theorem c15 {x0 : ML01Source} {b_x0 : Nat} {v_x0_Code : Value} {x1 : Int} {x2 : Int} : Ct Tryz.prog 15 false (spec_l02Draw x0 x1 x2) [.pointer (some (⟨b_x0, 0, none⟩)), .int .i64 (x1), .int .i64 (x2)] [.row b_x0 [v_x0_Code, .int .i64 (x0.At), .int .u64 (x0.Hash)] 68, .rd false (sImm (sInt .u8)) v_x0_Code x0.Code] (fun y (v : Value × Value × Value × Value) => [.agg #[.int .i64 y.1.Objects, v.1, v.2.1, v.2.2.1, v.2.2.2]]) (fun y v => [.rd false (sImm (sInt .i64)) v.1 y.1.From, .rd false (sImm (sInt .i64)) v.2.1 y.1.To, .rd false (sImm (sInt .i64)) v.2.2.1 y.1.Identity, .rd false (sImm (sImm (sInt .i64))) v.2.2.2 y.1.Composites, .row b_x0 [v_x0_Code, .int .i64 y.2.At, .int .u64 y.2.Hash] 68]) := by
  refine ct (S := Unit) owf Tryz.func15 rfl rfl ?_
  repeat' first
    | intro _
    | exact rfl
    | (refine @id.{0} _ ?_; constructor)
    | apply c29
    | apply c14
    | apply c30
    | exact ()
theorem c5 {x0 : (List Int)} {v_x0 : Value} : Ct Tryz.prog 5 false (spec_DrawIsTwoValued x0) [v_x0] [.rd false (sImm (sInt .u8)) v_x0 x0] (fun y (v : Value × Value × Value × Value) => [.agg #[.int .i64 y.Objects, v.1, v.2.1, v.2.2.1, v.2.2.2]]) (fun y v => [.rd false (sImm (sInt .i64)) v.1 y.From, .rd false (sImm (sInt .i64)) v.2.1 y.To, .rd false (sImm (sInt .i64)) v.2.2.1 y.Identity, .rd false (sImm (sImm (sInt .i64))) v.2.2.2 y.Composites]) := by
  refine ct (S := Unit) owf Tryz.func5 rfl rfl ?_
  repeat' first
    | intro _
    | exact rfl
    | (refine @id.{0} _ ?_; constructor)
    | apply c13
    | apply c14
    | apply c15
    | exact ()
theorem c23 {x0 : MCategory} {p_x0 : Addr} {v_x0_From : Value} {v_x0_To : Value} {v_x0_Identity : Value} {v_x0_Composites : Value} : Ct Tryz.prog 23 true (impl_Category_classifier x0) [.pointer (some (p_x0))] [.ats p_x0 [.int .i64 (x0.Objects), v_x0_From, v_x0_To, v_x0_Identity, v_x0_Composites], .rd false (sImm (sInt .i64)) v_x0_From x0.From, .rd false (sImm (sInt .i64)) v_x0_To x0.To, .rd false (sImm (sInt .i64)) v_x0_Identity x0.Identity, .rd false (sImm (sImm (sInt .i64))) v_x0_Composites x0.Composites] (fun y (v : Nat × Value × Value × Value × Value × Value × Value × Value) => [(match y.1 with | none => Value.pointer none | some _ => .pointer (some (⟨v.1, 0, none⟩))), .bool y.2]) (fun y v => match y.1 with | none => [] | some m0 => [.row v.1 [.int .i64 (m0.Sets.Shape.Objects), v.2.1, v.2.2.1, v.2.2.2.1, v.2.2.2.2.1, v.2.2.2.2.2.1, v.2.2.2.2.2.2.1, v.2.2.2.2.2.2.2] 59, .own (sOwn 2 (sInt .i64)) v.2.1 m0.Sets.Shape.From, .own (sOwn 2 (sInt .i64)) v.2.2.1 m0.Sets.Shape.To, .own (sOwn 2 (sInt .i64)) v.2.2.2.1 m0.Sets.Shape.Identity, .own (sOwn 24 (sOwn 2 (sInt .i64))) v.2.2.2.2.1 m0.Sets.Shape.Composites, .own (sOwn 2 (sInt .i64)) v.2.2.2.2.2.1 m0.Sets.Sizes, .own (sOwn 24 (sOwn 2 (sInt .i64))) v.2.2.2.2.2.2.1 m0.Sets.Actions, .own (sOwn 86 (sOwn 48 (sOwn 2 (sInt .i64)))) v.2.2.2.2.2.2.2 m0.Sieves]) := by
  refine ct (S := Unit) (by intro _ y v; obtain ⟨_ | _, _⟩ := y <;> rfl) Tryz.func23 rfl rfl ?_
  repeat' first
    | intro _
    | exact rfl
    | (refine @id.{0} _ ?_; constructor)
    | apply Dk.loopA 0 (V := Value × Value) (A := Nat × Value × Value × Value × Value × Value × Value) (_, _, _, _, _, _, _) (fun a (s : Int × (List Int) × (List (List (List Int)))) v => Dk.pc (fun a0 => Dk.pc (fun a1 => Dk.pc (fun a2 => Dk.pc (fun a3 => Dk.pc (fun a4 => Dk.pc (fun a5 a6 => [.row a0 [a1, a2, a3, a4, a5, v.1, a6, v.2] 59, .own (sOwn 2 (sInt .i64)) v.1 s.2.1, .own (sOwn 86 (sOwn 48 (sOwn 2 (sInt .i64)))) v.2 s.2.2])))))) a) (fun a s v => Dk.pc (fun a0 => Dk.pc (fun a1 => Dk.pc (fun a2 => Dk.pc (fun a3 => Dk.pc (fun a4 => Dk.pc (fun a5 a6 => [(4, .pointer (some ⟨a0, 0, none⟩)), (5, .int .i64 (s.1))])))))) a) (_, _) [(0, _)]
    | apply Dk.loopA 2 (V := Value) (A := Nat × Value × Value × Value × Value × Value × Value × Value) (_, _, _, _, _, _, _, _) (fun a (s : Int × (List (List Int))) v => Dk.pc (fun a0 => Dk.pc (fun a1 => Dk.pc (fun a2 => Dk.pc (fun a3 => Dk.pc (fun a4 => Dk.pc (fun a5 => Dk.pc (fun a6 a7 => [.row a0 [a1, a2, a3, a4, a5, a6, v, a7] 59, .own (sOwn 24 (sOwn 2 (sInt .i64))) v s.2]))))))) a) (fun a s v => Dk.pc (fun a0 => Dk.pc (fun a1 => Dk.pc (fun a2 => Dk.pc (fun a3 => Dk.pc (fun a4 => Dk.pc (fun a5 => Dk.pc (fun a6 a7 => [(4, .pointer (some ⟨a0, 0, none⟩)), (61, .int .i64 (s.1))]))))))) a) _ [(0, _), (60, _)]
    | apply Dk.loop 4 (V := Value) (fun (s : (List Int) × Int) v => [.own (sOwn 2 (sInt .i64)) v s.1]) (fun s v => [(9, v), (79, .int .i64 (s.2))]) _ [(0, _), (4, _), (8, _), (60, _), (61, _), (77, _), (78, _)]
    | apply Dk.quiet (id := 14) (by kernel_rfl)
    | apply Dk.any (id := 17) 15 [] [] [[], [], [], [2], [3, 2], [4, 3, 2], [], [5, 4, 3, 2, 6], [7, 5, 4, 3, 2, 6], [], [], [], [9, 10, 11], [1, 8, 7, 5, 4, 3, 2, 6, 12, 9, 10, 11, 12, 9, 10, 11], [13, 1, 8, 7, 5, 4, 3, 2, 6, 12, 9, 10, 11, 12, 9, 10, 11]] (by kernel_rfl)
    | apply c41
    | apply c42
    | apply c44
    | apply c43
    | exact ()
  all_goals try first | exact Value.nilFunc | exact (0 : Nat)
theorem c9 {x0 : MCategory} {v_x0_From : Value} {v_x0_To : Value} {v_x0_Identity : Value} {v_x0_Composites : Value} : Ct Tryz.prog 9 true (impl_Classifier x0) [.agg #[.int .i64 (x0.Objects), v_x0_From, v_x0_To, v_x0_Identity, v_x0_Composites]] [.rd false (sImm (sInt .i64)) v_x0_From x0.From, .rd false (sImm (sInt .i64)) v_x0_To x0.To, .rd false (sImm (sInt .i64)) v_x0_Identity x0.Identity, .rd false (sImm (sImm (sInt .i64))) v_x0_Composites x0.Composites] (fun y (v : Value × Value × Value × Value × Value × Value) => [.agg #[.int .i64 y.1.Shape.Objects, v.1, v.2.1, v.2.2.1, v.2.2.2.1, v.2.2.2.2.1, v.2.2.2.2.2], .int .i64 y.2]) (fun y v => [.own (sOwn 2 (sInt .i64)) v.1 y.1.Shape.From, .own (sOwn 2 (sInt .i64)) v.2.1 y.1.Shape.To, .own (sOwn 2 (sInt .i64)) v.2.2.1 y.1.Shape.Identity, .own (sOwn 24 (sOwn 2 (sInt .i64))) v.2.2.2.1 y.1.Shape.Composites, .own (sOwn 2 (sInt .i64)) v.2.2.2.2.1 y.1.Sizes, .own (sOwn 24 (sOwn 2 (sInt .i64))) v.2.2.2.2.2 y.1.Actions]) := by
  refine ct (S := Unit) (owt fun _ _ => rfl) Tryz.func9 rfl rfl ?_
  repeat' first
    | intro _
    | exact rfl
    | (refine @id.{0} _ ?_; constructor)
    | apply c16
    | apply c23
    | exact ()
theorem c10 {x0 : MCategory} {v_x0_From : Value} {v_x0_To : Value} {v_x0_Identity : Value} {v_x0_Composites : Value} : Ct Tryz.prog 10 true (impl_GreatestSieves x0) [.agg #[.int .i64 (x0.Objects), v_x0_From, v_x0_To, v_x0_Identity, v_x0_Composites]] [.rd false (sImm (sInt .i64)) v_x0_From x0.From, .rd false (sImm (sInt .i64)) v_x0_To x0.To, .rd false (sImm (sInt .i64)) v_x0_Identity x0.Identity, .rd false (sImm (sImm (sInt .i64))) v_x0_Composites x0.Composites] (fun y (v : Value) => [v, .int .i64 y.2]) (fun y v => [.own (sOwn 2 (sInt .i64)) v y.1]) := by
  refine ct (S := Unit) (owt fun _ _ => rfl) Tryz.func10 rfl rfl ?_
  repeat' first
    | intro _
    | exact rfl
    | (refine @id.{0} _ ?_; constructor)
    | apply c16
    | apply c23
    | apply c24
    | exact ()
theorem c25 {x0 : MSetFunctor} {p_x0 : Addr} {v_x0_Shape_From : Value} {v_x0_Shape_To : Value} {v_x0_Shape_Identity : Value} {v_x0_Shape_Composites : Value} {v_x0_Sizes : Value} {v_x0_Actions : Value} {x1 : (List MPart)} {v_x1 : Value} : Ct Tryz.prog 25 true (impl_areParts x0 x1) [.pointer (some (p_x0)), v_x1] [.ats p_x0 [.int .i64 (x0.Shape.Objects), v_x0_Shape_From, v_x0_Shape_To, v_x0_Shape_Identity, v_x0_Shape_Composites, v_x0_Sizes, v_x0_Actions], .rd false (sImm (sInt .i64)) v_x0_Shape_From x0.Shape.From, .rd false (sImm (sInt .i64)) v_x0_Shape_To x0.Shape.To, .rd false (sImm (sInt .i64)) v_x0_Shape_Identity x0.Shape.Identity, .rd false (sImm (sImm (sInt .i64))) v_x0_Shape_Composites x0.Shape.Composites, .rd false (sImm (sInt .i64)) v_x0_Sizes x0.Sizes, .rd false (sImm (sImm (sInt .i64))) v_x0_Actions x0.Actions, .rd false (sImm (sStr sS38)) v_x1 x1] (fun y (_ : Unit) => [.bool y]) (fun y _ => []) := by
  refine ct (S := Unit) (owt fun _ _ => rfl) Tryz.func25 rfl rfl ?_
  repeat' first
    | intro _
    | exact rfl
    | (refine @id.{0} _ ?_; constructor)
    | apply Dk.loop 0 (V := Unit) (fun (s : Int) v => []) (fun s v => [(12, .int .i64 (s))]) () [(0, _), (10, _), (11, _)]
    | apply c45
    | apply c46
    | exact ()
theorem c11 {x0 : MSetFunctor} {v_x0_Shape_From : Value} {v_x0_Shape_To : Value} {v_x0_Shape_Identity : Value} {v_x0_Shape_Composites : Value} {v_x0_Sizes : Value} {v_x0_Actions : Value} {x1 : MPart} {v_x1_Members : Value} : Ct Tryz.prog 11 true (impl_IsComplemented x0 x1) [.agg #[.int .i64 (x0.Shape.Objects), v_x0_Shape_From, v_x0_Shape_To, v_x0_Shape_Identity, v_x0_Shape_Composites, v_x0_Sizes, v_x0_Actions], .agg #[v_x1_Members]] [.rd false (sImm (sInt .i64)) v_x0_Shape_From x0.Shape.From, .rd false (sImm (sInt .i64)) v_x0_Shape_To x0.Shape.To, .rd false (sImm (sInt .i64)) v_x0_Shape_Identity x0.Shape.Identity, .rd false (sImm (sImm (sInt .i64))) v_x0_Shape_Composites x0.Shape.Composites, .rd false (sImm (sInt .i64)) v_x0_Sizes x0.Sizes, .rd false (sImm (sImm (sInt .i64))) v_x0_Actions x0.Actions, .rd false (sImm (sImm (sInt .i64))) v_x1_Members x1.Members] (fun y (_ : Unit) => [.bool y.1, .int .i64 y.2]) (fun y _ => []) := by
  refine ct (S := Unit) (owt fun _ _ => rfl) Tryz.func11 rfl rfl ?_
  repeat' first
    | intro _
    | exact rfl
    | (refine @id.{0} _ ?_; constructor)
    | apply Dk.any (id := 3) 3 [] [] [[], [], [1]] (by kernel_rfl)
    | apply c25
    | apply c28
    | apply c27
    | apply c26
    | exact ()
theorem c12 {x0 : MSetFunctor} {v_x0_Shape_From : Value} {v_x0_Shape_To : Value} {v_x0_Shape_Identity : Value} {v_x0_Shape_Composites : Value} {v_x0_Sizes : Value} {v_x0_Actions : Value} {x1 : MPart} {v_x1_Members : Value} : Ct Tryz.prog 12 true (impl_IsPart x0 x1) [.agg #[.int .i64 (x0.Shape.Objects), v_x0_Shape_From, v_x0_Shape_To, v_x0_Shape_Identity, v_x0_Shape_Composites, v_x0_Sizes, v_x0_Actions], .agg #[v_x1_Members]] [.rd false (sImm (sInt .i64)) v_x0_Shape_From x0.Shape.From, .rd false (sImm (sInt .i64)) v_x0_Shape_To x0.Shape.To, .rd false (sImm (sInt .i64)) v_x0_Shape_Identity x0.Shape.Identity, .rd false (sImm (sImm (sInt .i64))) v_x0_Shape_Composites x0.Shape.Composites, .rd false (sImm (sInt .i64)) v_x0_Sizes x0.Sizes, .rd false (sImm (sImm (sInt .i64))) v_x0_Actions x0.Actions, .rd false (sImm (sImm (sInt .i64))) v_x1_Members x1.Members] (fun y (_ : Unit) => [.bool y]) (fun y _ => []) := by
  refine ct (S := Unit) (owt fun _ _ => rfl) Tryz.func12 rfl rfl ?_
  repeat' first
    | intro _
    | exact rfl
    | (refine @id.{0} _ ?_; constructor)
    | apply c25
    | exact ()
theorem c3 {x0 : (List Int)} {v_x0 : Value} : Ct Tryz.prog 3 true (laws_FnTwoValued x0) [v_x0] [.rd false (sImm (sInt .u8)) v_x0 x0] (fun y (_ : Unit) => [.bool y]) (fun y _ => []) := by
  refine ct (S := Unit) (owt fun _ _ => rfl) Tryz.func3 rfl rfl ?_
  repeat' first
    | intro _
    | exact rfl
    | apply Dk.litO (d := 88)
    | (refine @id.{0} _ ?_; constructor)
    | apply Dk.loop 0 (V := Value) (fun (s : (List (List Int)) × Int) v => [.own (sOwn 24 (sOwn 2 (sInt .i64))) v s.1]) (fun s v => [(14, v), (15, .int .i64 (s.2))]) _ [(4, _), (10, _), (12, _)]
    | apply c4
    | apply c5
    | apply c6
    | apply c7
    | apply c8
    | apply c9
    | apply c10
    | apply c11
    | apply c12
    | exact ()
theorem laws_FnTwoValued_calls {w : World} {x0 : (List Int)} {v_x0 : Value} {f_x0 : List Nat} (h_x0 : (sImm (sInt .u8)).rep w.heap [v_x0] x0 f_x0) {y : (Bool)} (hm : laws_FnTwoValued x0 = some y) : Calls Tryz.prog 3 #[v_x0] w (fun e w' => e = .returned (.bool y) ∧ Chg [] w w') :=
  ct_read c3 (.fact (fact_rd h_x0) (.nil)) hm
end Go.Proofs.YtbedkejmebepcaaGreat
