/- Walks by the calculus D. No condition beside those that each theorem names. -/
import Derived.Test.YtcmckiiafgcmjaaGreatDi
import Derived.Test.YtcmckiiafgcmjaaGreatMo
import Derived.Test.YtcmckiiafgcmjaaGreatSo
import Derived.Test.YtcmckiiafgcmjaaGreatWe
import Derived.Test.YtcmckiiafgcmjaaGreatWg
import Derived.Test.YtcmckiiafgcmjaaGreatWh
import Derived.Test.YtcmckiiafgcmjaaGreatWi
import Derived.Test.YtcmckiiafgcmjaaGreatWj
import Derived.Test.YtcmckiiafgcmjaaGreatWk
import Derived.Test.YtcmckiiafgcmjaaGreatWl
namespace Go.Proofs.YtcmckiiafgcmjaaGreat
open Go Go.Li Go.Dk
set_option linter.unusedVariables false
set_option maxHeartbeats 1000000
set_option maxRecDepth 100000
theorem c83 {x0 : MTopology} {p_x0 : Addr} {v_x0_Shape_From : Value} {v_x0_Shape_To : Value} {v_x0_Shape_Identity : Value} {v_x0_Shape_Composites : Value} {v_x0_Covers : Value} : Ct Tryz.prog 83 true (impl_limitCode x0) [.pointer (some (p_x0))] [.ats p_x0 [.int .i64 (x0.Shape.Objects), v_x0_Shape_From, v_x0_Shape_To, v_x0_Shape_Identity, v_x0_Shape_Composites, v_x0_Covers], .rd false (sImm (sInt .i64)) v_x0_Shape_From x0.Shape.From, .rd false (sImm (sInt .i64)) v_x0_Shape_To x0.Shape.To, .rd false (sImm (sInt .i64)) v_x0_Shape_Identity x0.Shape.Identity, .rd false (sImm (sImm (sInt .i64))) v_x0_Shape_Composites x0.Shape.Composites, .rd false (sImm (sImm (sImm (sInt .i64)))) v_x0_Covers x0.Covers] (fun y (v : Nat × Nat × Value × Value × Value × Value × Value × Value × Value × Value × Nat) => [(match y.1 with | none => Value.pointer none | some _ => .pointer (some (⟨v.1, 0, none⟩))), .int .i64 y.2]) (fun y v => match y.1 with | none => [] | some m0 => [.row v.1 [.pointer (some (⟨v.2.1, 0, none⟩)), .pointer (some ((p_x0.add 0))), v.2.2.2.2.2.2.2.2.2.1, .pointer (some (⟨v.2.2.2.2.2.2.2.2.2.2, 0, none⟩))] 144, .row v.2.2.2.2.2.2.2.2.2.2 [.int .i64 (m0.Count)] 197, .row v.2.1 [.int .i64 (m0.Classifier.Sets.Shape.Objects), v.2.2.1, v.2.2.2.1, v.2.2.2.2.1, v.2.2.2.2.2.1, v.2.2.2.2.2.2.1, v.2.2.2.2.2.2.2.1, v.2.2.2.2.2.2.2.2.1] 151, .own (sOwn 2 (sInt .i64)) v.2.2.1 m0.Classifier.Sets.Shape.From, .own (sOwn 2 (sInt .i64)) v.2.2.2.1 m0.Classifier.Sets.Shape.To, .own (sOwn 2 (sInt .i64)) v.2.2.2.2.1 m0.Classifier.Sets.Shape.Identity, .own (sOwn 22 (sOwn 2 (sInt .i64))) v.2.2.2.2.2.1 m0.Classifier.Sets.Shape.Composites, .own (sOwn 2 (sInt .i64)) v.2.2.2.2.2.2.1 m0.Classifier.Sets.Sizes, .own (sOwn 22 (sOwn 2 (sInt .i64))) v.2.2.2.2.2.2.2.1 m0.Classifier.Sets.Actions, .own (sOwn 118 (sOwn 114 (sOwn 2 (sInt .i64)))) v.2.2.2.2.2.2.2.2.1 m0.Classifier.Sieves, .own (sOwn 138 (sOwn 4 sBool)) v.2.2.2.2.2.2.2.2.2.1 m0.Covers]) := by
  refine ct (S := Unit) (by intro _ y v; obtain ⟨_ | _, _⟩ := y <;> rfl) Tryz.func83 rfl rfl ?_
  repeat' first
    | intro _
    | exact rfl
    | (refine @id.{0} _ ?_; constructor)
    | apply c93
    | apply c151
    | exact ()
  all_goals try first | exact Value.nilFunc | exact (0 : Nat)
theorem c73 {x0 : MTopology} {p_x0 : Addr} {v_x0_Shape_From : Value} {v_x0_Shape_To : Value} {v_x0_Shape_Identity : Value} {v_x0_Shape_Composites : Value} {v_x0_Covers : Value} : Ct Tryz.prog 73 true (impl_topologyCode x0) [.pointer (some (p_x0))] [.ats p_x0 [.int .i64 (x0.Shape.Objects), v_x0_Shape_From, v_x0_Shape_To, v_x0_Shape_Identity, v_x0_Shape_Composites, v_x0_Covers], .rd false (sImm (sInt .i64)) v_x0_Shape_From x0.Shape.From, .rd false (sImm (sInt .i64)) v_x0_Shape_To x0.Shape.To, .rd false (sImm (sInt .i64)) v_x0_Shape_Identity x0.Shape.Identity, .rd false (sImm (sImm (sInt .i64))) v_x0_Shape_Composites x0.Shape.Composites, .rd false (sImm (sImm (sImm (sInt .i64)))) v_x0_Covers x0.Covers] (fun y (v : Nat × Nat × Value × Value × Value × Value × Value × Value × Value × Value × Nat) => [(match y.1 with | none => Value.pointer none | some _ => .pointer (some (⟨v.1, 0, none⟩))), .int .i64 y.2]) (fun y v => match y.1 with | none => [] | some m0 => [.row v.1 [.pointer (some (⟨v.2.1, 0, none⟩)), .pointer (some ((p_x0.add 0))), v.2.2.2.2.2.2.2.2.2.1, .pointer (some (⟨v.2.2.2.2.2.2.2.2.2.2, 0, none⟩))] 144, .row v.2.2.2.2.2.2.2.2.2.2 [.int .i64 (m0.Count)] 197, .row v.2.1 [.int .i64 (m0.Classifier.Sets.Shape.Objects), v.2.2.1, v.2.2.2.1, v.2.2.2.2.1, v.2.2.2.2.2.1, v.2.2.2.2.2.2.1, v.2.2.2.2.2.2.2.1, v.2.2.2.2.2.2.2.2.1] 151, .own (sOwn 2 (sInt .i64)) v.2.2.1 m0.Classifier.Sets.Shape.From, .own (sOwn 2 (sInt .i64)) v.2.2.2.1 m0.Classifier.Sets.Shape.To, .own (sOwn 2 (sInt .i64)) v.2.2.2.2.1 m0.Classifier.Sets.Shape.Identity, .own (sOwn 22 (sOwn 2 (sInt .i64))) v.2.2.2.2.2.1 m0.Classifier.Sets.Shape.Composites, .own (sOwn 2 (sInt .i64)) v.2.2.2.2.2.2.1 m0.Classifier.Sets.Sizes, .own (sOwn 22 (sOwn 2 (sInt .i64))) v.2.2.2.2.2.2.2.1 m0.Classifier.Sets.Actions, .own (sOwn 118 (sOwn 114 (sOwn 2 (sInt .i64)))) v.2.2.2.2.2.2.2.2.1 m0.Classifier.Sieves, .own (sOwn 138 (sOwn 4 sBool)) v.2.2.2.2.2.2.2.2.2.1 m0.Covers]) := by
  refine ct (S := Unit) (by intro _ y v; obtain ⟨_ | _, _⟩ := y <;> rfl) Tryz.func73 rfl rfl ?_
  repeat' first
    | intro _
    | exact rfl
    | (refine @id.{0} _ ?_; constructor)
    | apply c80
    | apply c83
    | exact ()
  all_goals try first | exact Value.nilFunc | exact (0 : Nat)
theorem c51 {x0 : MTopology} {v_x0_Shape_From : Value} {v_x0_Shape_To : Value} {v_x0_Shape_Identity : Value} {v_x0_Shape_Composites : Value} {v_x0_Covers : Value} : Ct Tryz.prog 51 true (impl_ModalityOf x0) [.agg #[.int .i64 (x0.Shape.Objects), v_x0_Shape_From, v_x0_Shape_To, v_x0_Shape_Identity, v_x0_Shape_Composites, v_x0_Covers]] [.rd false (sImm (sInt .i64)) v_x0_Shape_From x0.Shape.From, .rd false (sImm (sInt .i64)) v_x0_Shape_To x0.Shape.To, .rd false (sImm (sInt .i64)) v_x0_Shape_Identity x0.Shape.Identity, .rd false (sImm (sImm (sInt .i64))) v_x0_Shape_Composites x0.Shape.Composites, .rd false (sImm (sImm (sImm (sInt .i64)))) v_x0_Covers x0.Covers] (fun y (v : Value × Value × Value × Value × Value × Value × Value × Value × Value × Value × Value × Value × Value) => [.agg #[.int .i64 y.1.Source.Shape.Objects, v.1, v.2.1, v.2.2.1, v.2.2.2.1, v.2.2.2.2.1, v.2.2.2.2.2.1, .int .i64 y.1.Target.Shape.Objects, v.2.2.2.2.2.2.1, v.2.2.2.2.2.2.2.1, v.2.2.2.2.2.2.2.2.1, v.2.2.2.2.2.2.2.2.2.1, v.2.2.2.2.2.2.2.2.2.2.1, v.2.2.2.2.2.2.2.2.2.2.2.1, v.2.2.2.2.2.2.2.2.2.2.2.2], .int .i64 y.2]) (fun y v => [.own (sOwn 2 (sInt .i64)) v.1 y.1.Source.Shape.From, .own (sOwn 2 (sInt .i64)) v.2.1 y.1.Source.Shape.To, .own (sOwn 2 (sInt .i64)) v.2.2.1 y.1.Source.Shape.Identity, .own (sOwn 22 (sOwn 2 (sInt .i64))) v.2.2.2.1 y.1.Source.Shape.Composites, .own (sOwn 2 (sInt .i64)) v.2.2.2.2.1 y.1.Source.Sizes, .own (sOwn 22 (sOwn 2 (sInt .i64))) v.2.2.2.2.2.1 y.1.Source.Actions, .own (sOwn 2 (sInt .i64)) v.2.2.2.2.2.2.1 y.1.Target.Shape.From, .own (sOwn 2 (sInt .i64)) v.2.2.2.2.2.2.2.1 y.1.Target.Shape.To, .own (sOwn 2 (sInt .i64)) v.2.2.2.2.2.2.2.2.1 y.1.Target.Shape.Identity, .own (sOwn 22 (sOwn 2 (sInt .i64))) v.2.2.2.2.2.2.2.2.2.1 y.1.Target.Shape.Composites, .own (sOwn 2 (sInt .i64)) v.2.2.2.2.2.2.2.2.2.2.1 y.1.Target.Sizes, .own (sOwn 22 (sOwn 2 (sInt .i64))) v.2.2.2.2.2.2.2.2.2.2.2.1 y.1.Target.Actions, .own (sOwn 22 (sOwn 2 (sInt .i64))) v.2.2.2.2.2.2.2.2.2.2.2.2 y.1.Parts]) := by
  refine ct (S := Unit) (owt fun _ _ => rfl) Tryz.func51 rfl rfl ?_
  repeat' first
    | intro _
    | exact rfl
    | (refine @id.{0} _ ?_; constructor)
    | apply Dk.loop 0 (V := Value) (fun (s : (List (List Int)) × Int) v => [.own (sOwn 22 (sOwn 2 (sInt .i64))) v s.1]) (fun s v => [(6, v), (29, .int .i64 (s.2))]) _ [(2, _), (4, _), (27, _), (28, _)]
    | apply Dk.loop 2 (V := Value) (fun (s : (List Int) × Int) v => [.own (sOwn 2 (sInt .i64)) v s.1]) (fun s v => [(9, v), (37, .int .i64 (s.2))]) _ [(2, _), (4, _), (6, _), (7, _), (27, _), (28, _), (29, _), (35, _), (36, _)]
    | apply Dk.any (id := 12) 12 [] [] [[], [], [1], [2, 1], [3, 2, 1], [], [], [], [], [6, 7, 8], [4, 3, 2, 1, 5, 9, 6, 7, 8, 9, 6, 7, 8], [10, 4, 3, 2, 1, 5, 9, 6, 7, 8, 9, 6, 7, 8]] (by kernel_rfl)
    | apply Dk.any (id := 16) 13 [] [] [[], [0], [1, 0], [2, 1, 0], [3, 2, 1, 0], [4, 3, 2, 1, 0], [], [6], [7, 6], [8, 7, 6], [9, 8, 7, 6], [10, 9, 8, 7, 6], []] (by kernel_rfl)
    | apply c73
    | apply c84
    | apply c113
    | apply c114
    | exact ()
theorem c11 {x0 : MTopology} {v_x0_Shape_From : Value} {v_x0_Shape_To : Value} {v_x0_Shape_Identity : Value} {v_x0_Shape_Composites : Value} {v_x0_Covers : Value} : Ct Tryz.prog 11 true (laws_FnExactModalityOf x0) [.agg #[.int .i64 (x0.Shape.Objects), v_x0_Shape_From, v_x0_Shape_To, v_x0_Shape_Identity, v_x0_Shape_Composites, v_x0_Covers]] [.rd false (sImm (sInt .i64)) v_x0_Shape_From x0.Shape.From, .rd false (sImm (sInt .i64)) v_x0_Shape_To x0.Shape.To, .rd false (sImm (sInt .i64)) v_x0_Shape_Identity x0.Shape.Identity, .rd false (sImm (sImm (sInt .i64))) v_x0_Shape_Composites x0.Shape.Composites, .rd false (sImm (sImm (sImm (sInt .i64)))) v_x0_Covers x0.Covers] (fun y (_ : Unit) => [.bool y]) (fun y _ => []) := by
  refine ct (S := Unit) (owt fun _ _ => rfl) Tryz.func11 rfl rfl ?_
  repeat' first
    | intro _
    | exact rfl
    | (refine @id.{0} _ ?_; constructor)
    | apply Dk.any (id := 10) 3 [] [] [[], [], [1]] (by kernel_rfl)
    | apply c15
    | apply c17
    | apply c50
    | apply c51
    | apply c52
    | apply c19
    | apply c24
    | apply c53
    | apply c54
    | exact ()
theorem laws_FnExactModalityOf_calls {w : World} {x0 : MTopology} {v_x0_Shape_From : Value} {f_x0_Shape_From : List Nat} {v_x0_Shape_To : Value} {f_x0_Shape_To : List Nat} {v_x0_Shape_Identity : Value} {f_x0_Shape_Identity : List Nat} {v_x0_Shape_Composites : Value} {f_x0_Shape_Composites : List Nat} {v_x0_Covers : Value} {f_x0_Covers : List Nat} (h_x0_Shape_From : (sImm (sInt .i64)).rep w.heap [v_x0_Shape_From] x0.Shape.From f_x0_Shape_From) (h_x0_Shape_To : (sImm (sInt .i64)).rep w.heap [v_x0_Shape_To] x0.Shape.To f_x0_Shape_To) (h_x0_Shape_Identity : (sImm (sInt .i64)).rep w.heap [v_x0_Shape_Identity] x0.Shape.Identity f_x0_Shape_Identity) (h_x0_Shape_Composites : (sImm (sImm (sInt .i64))).rep w.heap [v_x0_Shape_Composites] x0.Shape.Composites f_x0_Shape_Composites) (h_x0_Covers : (sImm (sImm (sImm (sInt .i64)))).rep w.heap [v_x0_Covers] x0.Covers f_x0_Covers) {y : (Bool)} (hm : laws_FnExactModalityOf x0 = some y) : Calls Tryz.prog 11 #[.agg #[.int .i64 (x0.Shape.Objects), v_x0_Shape_From, v_x0_Shape_To, v_x0_Shape_Identity, v_x0_Shape_Composites, v_x0_Covers]] w (fun e w' => e = .returned (.bool y) ∧ Chg [] w w') :=
  ct_read c11 (.fact (fact_rd h_x0_Shape_From) (.fact (fact_rd h_x0_Shape_To) (.fact (fact_rd h_x0_Shape_Identity) (.fact (fact_rd h_x0_Shape_Composites) (.fact (fact_rd h_x0_Covers) (.nil)))))) hm
end Go.Proofs.YtcmckiiafgcmjaaGreat
