/- Walks by the calculus D. No condition beside those that each theorem names. -/
import Derived.Test.YtdlhbbhdfnnmnaaGreatDi
import Derived.Test.YtdlhbbhdfnnmnaaGreatMo
import Derived.Test.YtdlhbbhdfnnmnaaGreatDs
import Derived.Test.YtdlhbbhdfnnmnaaGreatSo
import Derived.Test.YtdlhbbhdfnnmnaaGreatWd
import Derived.Test.YtdlhbbhdfnnmnaaGreatWe
import Derived.Test.YtdlhbbhdfnnmnaaGreatWf
import Derived.Test.YtdlhbbhdfnnmnaaGreatWg
import Derived.Test.YtdlhbbhdfnnmnaaGreatWi
import Derived.Test.YtdlhbbhdfnnmnaaGreatWj
import Derived.Test.YtdlhbbhdfnnmnaaGreatWk
import Derived.Test.YtdlhbbhdfnnmnaaGreatWl
namespace Go.Proofs.YtdlhbbhdfnnmnaaGreat
open Go Go.Li Go.Dk
set_option linter.unusedVariables false
set_option maxHeartbeats 1000000
set_option maxRecDepth 100000
theorem c259 {x0 : MTopology} {p_x0 : Addr} {v_x0_Shape_From : Value} {v_x0_Shape_To : Value} {v_x0_Shape_Identity : Value} {v_x0_Shape_Composites : Value} {v_x0_Covers : Value} {x1 : (List MSetFunctor)} {v_x1 : Value} : Ct Tryz.prog 259 true (impl_onCode x0 x1) [.pointer (some (p_x0)), v_x1] [.ats p_x0 [.int .i64 (x0.Shape.Objects), v_x0_Shape_From, v_x0_Shape_To, v_x0_Shape_Identity, v_x0_Shape_Composites, v_x0_Covers], .rd false (sImm (sInt .i64)) v_x0_Shape_From x0.Shape.From, .rd false (sImm (sInt .i64)) v_x0_Shape_To x0.Shape.To, .rd false (sImm (sInt .i64)) v_x0_Shape_Identity x0.Shape.Identity, .rd false (sImm (sImm (sInt .i64))) v_x0_Shape_Composites x0.Shape.Composites, .rd false (sImm (sImm (sImm (sInt .i64)))) v_x0_Covers x0.Covers, .rd false (sImm (sPtr sS33)) v_x1 x1] (fun y (v : Nat × Nat × Value × Value × Value × Value × Value × Value × Value × Value × Nat) => [(match y.1 with | none => Value.pointer none | some _ => .pointer (some (⟨v.1, 0, none⟩))), .int .i64 y.2]) (fun y v => match y.1 with | none => [] | some m0 => [.row v.1 [.pointer (some (⟨v.2.1, 0, none⟩)), .pointer (some ((p_x0.add 0))), v.2.2.2.2.2.2.2.2.2.1, .pointer (some (⟨v.2.2.2.2.2.2.2.2.2.2, 0, none⟩))] 217, .row v.2.2.2.2.2.2.2.2.2.2 [.int .i64 (m0.Count)] 297, .row v.2.1 [.int .i64 (m0.Classifier.Sets.Shape.Objects), v.2.2.1, v.2.2.2.1, v.2.2.2.2.1, v.2.2.2.2.2.1, v.2.2.2.2.2.2.1, v.2.2.2.2.2.2.2.1, v.2.2.2.2.2.2.2.2.1] 162, .own (sOwn 2 (sInt .i64)) v.2.2.1 m0.Classifier.Sets.Shape.From, .own (sOwn 2 (sInt .i64)) v.2.2.2.1 m0.Classifier.Sets.Shape.To, .own (sOwn 2 (sInt .i64)) v.2.2.2.2.1 m0.Classifier.Sets.Shape.Identity, .own (sOwn 22 (sOwn 2 (sInt .i64))) v.2.2.2.2.2.1 m0.Classifier.Sets.Shape.Composites, .own (sOwn 2 (sInt .i64)) v.2.2.2.2.2.2.1 m0.Classifier.Sets.Sizes, .own (sOwn 22 (sOwn 2 (sInt .i64))) v.2.2.2.2.2.2.2.1 m0.Classifier.Sets.Actions, .own (sOwn 189 (sOwn 157 (sOwn 2 (sInt .i64)))) v.2.2.2.2.2.2.2.2.1 m0.Classifier.Sieves, .own (sOwn 213 (sOwn 4 sBool)) v.2.2.2.2.2.2.2.2.2.1 m0.Covers]) := by
  refine ct (S := Unit) (by intro _ y v; obtain ⟨_ | _, _⟩ := y <;> rfl) Tryz.func259 rfl rfl ?_
  repeat' first
    | intro _
    | exact rfl
    | (refine @id.{0} _ ?_; constructor)
    | apply Dk.loop 0 (V := Unit) (fun (s : Int) v => []) (fun s v => [(20, .int .i64 (s))]) () [(0, _), (6, _), (18, _), (19, _)]
    | apply Dk.quiet (id := 7) (by kernel_rfl)
    | apply c132
    | apply c171
    | exact ()
  all_goals try first | exact Value.nilFunc | exact (0 : Nat)
theorem c161 {x0 : MTopology} {p_x0 : Addr} {v_x0_Shape_From : Value} {v_x0_Shape_To : Value} {v_x0_Shape_Identity : Value} {v_x0_Shape_Composites : Value} {v_x0_Covers : Value} {x1 : (List MSetFunctor)} {v_x1 : Value} : Ct Tryz.prog 161 true (impl_sheafCode x0 x1) [.pointer (some (p_x0)), v_x1] [.ats p_x0 [.int .i64 (x0.Shape.Objects), v_x0_Shape_From, v_x0_Shape_To, v_x0_Shape_Identity, v_x0_Shape_Composites, v_x0_Covers], .rd false (sImm (sInt .i64)) v_x0_Shape_From x0.Shape.From, .rd false (sImm (sInt .i64)) v_x0_Shape_To x0.Shape.To, .rd false (sImm (sInt .i64)) v_x0_Shape_Identity x0.Shape.Identity, .rd false (sImm (sImm (sInt .i64))) v_x0_Shape_Composites x0.Shape.Composites, .rd false (sImm (sImm (sImm (sInt .i64)))) v_x0_Covers x0.Covers, .rd false (sImm (sPtr sS33)) v_x1 x1] (fun y (v : Nat × Nat × Value × Value × Value × Value × Value × Value × Value × Value × Nat) => [(match y.1 with | none => Value.pointer none | some _ => .pointer (some (⟨v.1, 0, none⟩))), .int .i64 y.2]) (fun y v => match y.1 with | none => [] | some m0 => [.row v.1 [.pointer (some (⟨v.2.1, 0, none⟩)), .pointer (some ((p_x0.add 0))), v.2.2.2.2.2.2.2.2.2.1, .pointer (some (⟨v.2.2.2.2.2.2.2.2.2.2, 0, none⟩))] 217, .row v.2.2.2.2.2.2.2.2.2.2 [.int .i64 (m0.Count)] 297, .row v.2.1 [.int .i64 (m0.Classifier.Sets.Shape.Objects), v.2.2.1, v.2.2.2.1, v.2.2.2.2.1, v.2.2.2.2.2.1, v.2.2.2.2.2.2.1, v.2.2.2.2.2.2.2.1, v.2.2.2.2.2.2.2.2.1] 162, .own (sOwn 2 (sInt .i64)) v.2.2.1 m0.Classifier.Sets.Shape.From, .own (sOwn 2 (sInt .i64)) v.2.2.2.1 m0.Classifier.Sets.Shape.To, .own (sOwn 2 (sInt .i64)) v.2.2.2.2.1 m0.Classifier.Sets.Shape.Identity, .own (sOwn 22 (sOwn 2 (sInt .i64))) v.2.2.2.2.2.1 m0.Classifier.Sets.Shape.Composites, .own (sOwn 2 (sInt .i64)) v.2.2.2.2.2.2.1 m0.Classifier.Sets.Sizes, .own (sOwn 22 (sOwn 2 (sInt .i64))) v.2.2.2.2.2.2.2.1 m0.Classifier.Sets.Actions, .own (sOwn 189 (sOwn 157 (sOwn 2 (sInt .i64)))) v.2.2.2.2.2.2.2.2.1 m0.Classifier.Sieves, .own (sOwn 213 (sOwn 4 sBool)) v.2.2.2.2.2.2.2.2.2.1 m0.Covers]) := by
  refine ct (S := Unit) (by intro _ y v; obtain ⟨_ | _, _⟩ := y <;> rfl) Tryz.func161 rfl rfl ?_
  repeat' first
    | intro _
    | exact rfl
    | (refine @id.{0} _ ?_; constructor)
    | apply c130
    | apply c258
    | apply c259
    | exact ()
  all_goals try first | exact Value.nilFunc | exact (0 : Nat)
theorem c70 {x0 : MTopology} {v_x0_Shape_From : Value} {v_x0_Shape_To : Value} {v_x0_Shape_Identity : Value} {v_x0_Shape_Composites : Value} {v_x0_Covers : Value} {x1 : MSetFunctor} {v_x1_Shape_From : Value} {v_x1_Shape_To : Value} {v_x1_Shape_Identity : Value} {v_x1_Shape_Composites : Value} {v_x1_Sizes : Value} {v_x1_Actions : Value} : Ct Tryz.prog 70 true (impl_IsSeparated x0 x1) [.agg #[.int .i64 (x0.Shape.Objects), v_x0_Shape_From, v_x0_Shape_To, v_x0_Shape_Identity, v_x0_Shape_Composites, v_x0_Covers], .agg #[.int .i64 (x1.Shape.Objects), v_x1_Shape_From, v_x1_Shape_To, v_x1_Shape_Identity, v_x1_Shape_Composites, v_x1_Sizes, v_x1_Actions]] [.rd false (sImm (sInt .i64)) v_x0_Shape_From x0.Shape.From, .rd false (sImm (sInt .i64)) v_x0_Shape_To x0.Shape.To, .rd false (sImm (sInt .i64)) v_x0_Shape_Identity x0.Shape.Identity, .rd false (sImm (sImm (sInt .i64))) v_x0_Shape_Composites x0.Shape.Composites, .rd false (sImm (sImm (sImm (sInt .i64)))) v_x0_Covers x0.Covers, .rd false (sImm (sInt .i64)) v_x1_Shape_From x1.Shape.From, .rd false (sImm (sInt .i64)) v_x1_Shape_To x1.Shape.To, .rd false (sImm (sInt .i64)) v_x1_Shape_Identity x1.Shape.Identity, .rd false (sImm (sImm (sInt .i64))) v_x1_Shape_Composites x1.Shape.Composites, .rd false (sImm (sInt .i64)) v_x1_Sizes x1.Sizes, .rd false (sImm (sImm (sInt .i64))) v_x1_Actions x1.Actions] (fun y (_ : Unit) => [.bool y.1, .int .i64 y.2]) (fun y _ => []) := by
  refine ct (S := Unit) (owt fun _ _ => rfl) Tryz.func70 rfl rfl ?_
  repeat' first
    | intro _
    | exact rfl
    | (refine @id.{0} _ ?_; constructor)
    | apply c161
    | apply c162
    | exact ()
theorem c13 {x0 : MTopology} {v_x0_Shape_From : Value} {v_x0_Shape_To : Value} {v_x0_Shape_Identity : Value} {v_x0_Shape_Composites : Value} {v_x0_Covers : Value} {x1 : MSetFunctor} {v_x1_Shape_From : Value} {v_x1_Shape_To : Value} {v_x1_Shape_Identity : Value} {v_x1_Shape_Composites : Value} {v_x1_Sizes : Value} {v_x1_Actions : Value} : Ct Tryz.prog 13 true (laws_FnExactIsSeparated x0 x1) [.agg #[.int .i64 (x0.Shape.Objects), v_x0_Shape_From, v_x0_Shape_To, v_x0_Shape_Identity, v_x0_Shape_Composites, v_x0_Covers], .agg #[.int .i64 (x1.Shape.Objects), v_x1_Shape_From, v_x1_Shape_To, v_x1_Shape_Identity, v_x1_Shape_Composites, v_x1_Sizes, v_x1_Actions]] [.rd false (sImm (sInt .i64)) v_x0_Shape_From x0.Shape.From, .rd false (sImm (sInt .i64)) v_x0_Shape_To x0.Shape.To, .rd false (sImm (sInt .i64)) v_x0_Shape_Identity x0.Shape.Identity, .rd false (sImm (sImm (sInt .i64))) v_x0_Shape_Composites x0.Shape.Composites, .rd false (sImm (sImm (sImm (sInt .i64)))) v_x0_Covers x0.Covers, .rd false (sImm (sInt .i64)) v_x1_Shape_From x1.Shape.From, .rd false (sImm (sInt .i64)) v_x1_Shape_To x1.Shape.To, .rd false (sImm (sInt .i64)) v_x1_Shape_Identity x1.Shape.Identity, .rd false (sImm (sImm (sInt .i64))) v_x1_Shape_Composites x1.Shape.Composites, .rd false (sImm (sInt .i64)) v_x1_Sizes x1.Sizes, .rd false (sImm (sImm (sInt .i64))) v_x1_Actions x1.Actions] (fun y (_ : Unit) => [.bool y]) (fun y _ => []) := by
  refine ct (S := Unit) (owt fun _ _ => rfl) Tryz.func13 rfl rfl ?_
  repeat' first
    | intro _
    | exact rfl
    | (refine @id.{0} _ ?_; constructor)
    | apply Dk.any (id := 8) 8 [7] [] [[], [0], [], [2, 1, 0], [1, 0, 3, 2, 1, 0, 3, 2, 1, 0], [4, 1, 0, 3, 2, 1, 0, 3, 2, 1, 0], [5, 4, 1, 0, 3, 2, 1, 0, 3, 2, 1, 0], [5, 4, 1, 0, 3, 2, 1, 0, 3, 2, 1, 0]] (by kernel_rfl)
    | apply Dk.any (id := 14) 3 [] [] [[], [], [1]] (by kernel_rfl)
    | apply Dk.any (id := 16) 3 [] [] [[], [], [1]] (by kernel_rfl)
    | apply c47
    | apply c28
    | apply c49
    | apply c31
    | apply c69
    | apply c70
    | apply c51
    | apply c19
    | exact ()
theorem laws_FnExactIsSeparated_calls {w : World} {x0 : MTopology} {v_x0_Shape_From : Value} {f_x0_Shape_From : List Nat} {v_x0_Shape_To : Value} {f_x0_Shape_To : List Nat} {v_x0_Shape_Identity : Value} {f_x0_Shape_Identity : List Nat} {v_x0_Shape_Composites : Value} {f_x0_Shape_Composites : List Nat} {v_x0_Covers : Value} {f_x0_Covers : List Nat} {x1 : MSetFunctor} {v_x1_Shape_From : Value} {f_x1_Shape_From : List Nat} {v_x1_Shape_To : Value} {f_x1_Shape_To : List Nat} {v_x1_Shape_Identity : Value} {f_x1_Shape_Identity : List Nat} {v_x1_Shape_Composites : Value} {f_x1_Shape_Composites : List Nat} {v_x1_Sizes : Value} {f_x1_Sizes : List Nat} {v_x1_Actions : Value} {f_x1_Actions : List Nat} (h_x0_Shape_From : (sImm (sInt .i64)).rep w.heap [v_x0_Shape_From] x0.Shape.From f_x0_Shape_From) (h_x0_Shape_To : (sImm (sInt .i64)).rep w.heap [v_x0_Shape_To] x0.Shape.To f_x0_Shape_To) (h_x0_Shape_Identity : (sImm (sInt .i64)).rep w.heap [v_x0_Shape_Identity] x0.Shape.Identity f_x0_Shape_Identity) (h_x0_Shape_Composites : (sImm (sImm (sInt .i64))).rep w.heap [v_x0_Shape_Composites] x0.Shape.Composites f_x0_Shape_Composites) (h_x0_Covers : (sImm (sImm (sImm (sInt .i64)))).rep w.heap [v_x0_Covers] x0.Covers f_x0_Covers) (h_x1_Shape_From : (sImm (sInt .i64)).rep w.heap [v_x1_Shape_From] x1.Shape.From f_x1_Shape_From) (h_x1_Shape_To : (sImm (sInt .i64)).rep w.heap [v_x1_Shape_To] x1.Shape.To f_x1_Shape_To) (h_x1_Shape_Identity : (sImm (sInt .i64)).rep w.heap [v_x1_Shape_Identity] x1.Shape.Identity f_x1_Shape_Identity) (h_x1_Shape_Composites : (sImm (sImm (sInt .i64))).rep w.heap [v_x1_Shape_Composites] x1.Shape.Composites f_x1_Shape_Composites) (h_x1_Sizes : (sImm (sInt .i64)).rep w.heap [v_x1_Sizes] x1.Sizes f_x1_Sizes) (h_x1_Actions : (sImm (sImm (sInt .i64))).rep w.heap [v_x1_Actions] x1.Actions f_x1_Actions) {y : (Bool)} (hm : laws_FnExactIsSeparated x0 x1 = some y) : Calls Tryz.prog 13 #[.agg #[.int .i64 (x0.Shape.Objects), v_x0_Shape_From, v_x0_Shape_To, v_x0_Shape_Identity, v_x0_Shape_Composites, v_x0_Covers], .agg #[.int .i64 (x1.Shape.Objects), v_x1_Shape_From, v_x1_Shape_To, v_x1_Shape_Identity, v_x1_Shape_Composites, v_x1_Sizes, v_x1_Actions]] w (fun e w' => e = .returned (.bool y) ∧ Chg [] w w') :=
  ct_read c13 (.fact (fact_rd h_x0_Shape_From) (.fact (fact_rd h_x0_Shape_To) (.fact (fact_rd h_x0_Shape_Identity) (.fact (fact_rd h_x0_Shape_Composites) (.fact (fact_rd h_x0_Covers) (.fact (fact_rd h_x1_Shape_From) (.fact (fact_rd h_x1_Shape_To) (.fact (fact_rd h_x1_Shape_Identity) (.fact (fact_rd h_x1_Shape_Composites) (.fact (fact_rd h_x1_Sizes) (.fact (fact_rd h_x1_Actions) (.nil)))))))))))) hm
end Go.Proofs.YtdlhbbhdfnnmnaaGreat
