/- Walks by the calculus D. No condition beside those that each theorem names. -/
import Derived.Test.YtdlhbbhdfnnmnaaGreatDi
import Derived.Test.YtdlhbbhdfnnmnaaGreatMo
import Derived.Test.YtdlhbbhdfnnmnaaGreatDs
import Derived.Test.YtdlhbbhdfnnmnaaGreatSo
import Derived.Test.YtdlhbbhdfnnmnaaGreatWb
import Derived.Test.YtdlhbbhdfnnmnaaGreatWd
import Derived.Test.YtdlhbbhdfnnmnaaGreatWf
import Derived.Test.YtdlhbbhdfnnmnaaGreatWg
import Derived.Test.YtdlhbbhdfnnmnaaGreatWh
import Derived.Test.YtdlhbbhdfnnmnaaGreatWi
import Derived.Test.YtdlhbbhdfnnmnaaGreatWj
import Derived.Test.YtdlhbbhdfnnmnaaGreatWk
namespace Go.Proofs.YtdlhbbhdfnnmnaaGreat
open Go Go.Li Go.Dk
set_option linter.unusedVariables false
set_option maxHeartbeats 1000000
set_option maxRecDepth 100000
theorem c132 {x0 : MTopology} {p_x0 : Addr} {v_x0_Shape_From : Value} {v_x0_Shape_To : Value} {v_x0_Shape_Identity : Value} {v_x0_Shape_Composites : Value} {v_x0_Covers : Value} : Ct Tryz.prog 132 true (impl_limitCode x0) [.pointer (some (p_x0))] [.ats p_x0 [.int .i64 (x0.Shape.Objects), v_x0_Shape_From, v_x0_Shape_To, v_x0_Shape_Identity, v_x0_Shape_Composites, v_x0_Covers], .rd false (sImm (sInt .i64)) v_x0_Shape_From x0.Shape.From, .rd false (sImm (sInt .i64)) v_x0_Shape_To x0.Shape.To, .rd false (sImm (sInt .i64)) v_x0_Shape_Identity x0.Shape.Identity, .rd false (sImm (sImm (sInt .i64))) v_x0_Shape_Composites x0.Shape.Composites, .rd false (sImm (sImm (sImm (sInt .i64)))) v_x0_Covers x0.Covers] (fun y (v : Nat × Nat × Value × Value × Value × Value × Value × Value × Value × Value × Nat) => [(match y.1 with | none => Value.pointer none | some _ => .pointer (some (⟨v.1, 0, none⟩))), .int .i64 y.2]) (fun y v => match y.1 with | none => [] | some m0 => [.row v.1 [.pointer (some (⟨v.2.1, 0, none⟩)), .pointer (some ((p_x0.add 0))), v.2.2.2.2.2.2.2.2.2.1, .pointer (some (⟨v.2.2.2.2.2.2.2.2.2.2, 0, none⟩))] 217, .row v.2.2.2.2.2.2.2.2.2.2 [.int .i64 (m0.Count)] 297, .row v.2.1 [.int .i64 (m0.Classifier.Sets.Shape.Objects), v.2.2.1, v.2.2.2.1, v.2.2.2.2.1, v.2.2.2.2.2.1, v.2.2.2.2.2.2.1, v.2.2.2.2.2.2.2.1, v.2.2.2.2.2.2.2.2.1] 162, .own (sOwn 2 (sInt .i64)) v.2.2.1 m0.Classifier.Sets.Shape.From, .own (sOwn 2 (sInt .i64)) v.2.2.2.1 m0.Classifier.Sets.Shape.To, .own (sOwn 2 (sInt .i64)) v.2.2.2.2.1 m0.Classifier.Sets.Shape.Identity, .own (sOwn 22 (sOwn 2 (sInt .i64))) v.2.2.2.2.2.1 m0.Classifier.Sets.Shape.Composites, .own (sOwn 2 (sInt .i64)) v.2.2.2.2.2.2.1 m0.Classifier.Sets.Sizes, .own (sOwn 22 (sOwn 2 (sInt .i64))) v.2.2.2.2.2.2.2.1 m0.Classifier.Sets.Actions, .own (sOwn 189 (sOwn 157 (sOwn 2 (sInt .i64)))) v.2.2.2.2.2.2.2.2.1 m0.Classifier.Sieves, .own (sOwn 213 (sOwn 4 sBool)) v.2.2.2.2.2.2.2.2.2.1 m0.Covers]) := by
  refine ct (S := Unit) (by intro _ y v; obtain ⟨_ | _, _⟩ := y <;> rfl) Tryz.func132 rfl rfl ?_
  repeat' first
    | intro _
    | exact rfl
    | (refine @id.{0} _ ?_; constructor)
    | apply c230
    | apply c231
    | exact ()
  all_goals try first | exact Value.nilFunc | exact (0 : Nat)
theorem c50 {x0 : MTopology} {v_x0_Shape_From : Value} {v_x0_Shape_To : Value} {v_x0_Shape_Identity : Value} {v_x0_Shape_Composites : Value} {v_x0_Covers : Value} {x1 : Int} : Ct Tryz.prog 50 true (impl_ClosedSieves x0 x1) [.agg #[.int .i64 (x0.Shape.Objects), v_x0_Shape_From, v_x0_Shape_To, v_x0_Shape_Identity, v_x0_Shape_Composites, v_x0_Covers], .int .i64 (x1)] [.rd false (sImm (sInt .i64)) v_x0_Shape_From x0.Shape.From, .rd false (sImm (sInt .i64)) v_x0_Shape_To x0.Shape.To, .rd false (sImm (sInt .i64)) v_x0_Shape_Identity x0.Shape.Identity, .rd false (sImm (sImm (sInt .i64))) v_x0_Shape_Composites x0.Shape.Composites, .rd false (sImm (sImm (sImm (sInt .i64)))) v_x0_Covers x0.Covers] (fun y (v : Value) => [v, .int .i64 y.2]) (fun y v => [.own (sOwn 22 (sOwn 2 (sInt .i64))) v y.1]) := by
  refine ct (S := Unit) (owt fun _ _ => rfl) Tryz.func50 rfl rfl ?_
  repeat' first
    | intro _
    | exact rfl
    | apply Dk.D.apn
    | (refine @id.{0} _ ?_; constructor)
    | apply Dk.loopM 0 30 (fun (s : (List (List Int)) × Int) v => [(8, v), (32, .int .i64 (s.2))]) (fun s => s.1) _ [(30, _), (31, _)] (e := 22) (e' := 2) (E := sInt .i64) (T := (sOwn 157 (sOwn 2 (sInt .i64)))) (T' := fun A => sImm (sIn A (sOwn 2 (sInt .i64)))) (ho := .step .row) (nf := Dk.NF.i)
    | apply c130
    | apply c131
    | apply c132
    | apply c133
    | exact ()
theorem c8 {x0 : MTopology} {v_x0_Shape_From : Value} {v_x0_Shape_To : Value} {v_x0_Shape_Identity : Value} {v_x0_Shape_Composites : Value} {v_x0_Covers : Value} {x1 : Int} : Ct Tryz.prog 8 true (laws_FnExactClosedSieves x0 x1) [.agg #[.int .i64 (x0.Shape.Objects), v_x0_Shape_From, v_x0_Shape_To, v_x0_Shape_Identity, v_x0_Shape_Composites, v_x0_Covers], .int .i64 (x1)] [.rd false (sImm (sInt .i64)) v_x0_Shape_From x0.Shape.From, .rd false (sImm (sInt .i64)) v_x0_Shape_To x0.Shape.To, .rd false (sImm (sInt .i64)) v_x0_Shape_Identity x0.Shape.Identity, .rd false (sImm (sImm (sInt .i64))) v_x0_Shape_Composites x0.Shape.Composites, .rd false (sImm (sImm (sImm (sInt .i64)))) v_x0_Covers x0.Covers] (fun y (_ : Unit) => [.bool y]) (fun y _ => []) := by
  refine ct (S := Unit) (owt fun _ _ => rfl) Tryz.func8 rfl rfl ?_
  repeat' first
    | intro _
    | exact rfl
    | (refine @id.{0} _ ?_; constructor)
    | apply Dk.any (id := 10) 3 [] [] [[], [], [1]] (by kernel_rfl)
    | apply c47
    | apply c49
    | apply c48
    | apply c50
    | apply c20
    | apply c51
    | apply c52
    | apply c24
    | apply c26
    | exact ()
theorem laws_FnExactClosedSieves_calls {w : World} {x0 : MTopology} {v_x0_Shape_From : Value} {f_x0_Shape_From : List Nat} {v_x0_Shape_To : Value} {f_x0_Shape_To : List Nat} {v_x0_Shape_Identity : Value} {f_x0_Shape_Identity : List Nat} {v_x0_Shape_Composites : Value} {f_x0_Shape_Composites : List Nat} {v_x0_Covers : Value} {f_x0_Covers : List Nat} {x1 : Int} (h_x0_Shape_From : (sImm (sInt .i64)).rep w.heap [v_x0_Shape_From] x0.Shape.From f_x0_Shape_From) (h_x0_Shape_To : (sImm (sInt .i64)).rep w.heap [v_x0_Shape_To] x0.Shape.To f_x0_Shape_To) (h_x0_Shape_Identity : (sImm (sInt .i64)).rep w.heap [v_x0_Shape_Identity] x0.Shape.Identity f_x0_Shape_Identity) (h_x0_Shape_Composites : (sImm (sImm (sInt .i64))).rep w.heap [v_x0_Shape_Composites] x0.Shape.Composites f_x0_Shape_Composites) (h_x0_Covers : (sImm (sImm (sImm (sInt .i64)))).rep w.heap [v_x0_Covers] x0.Covers f_x0_Covers) {y : (Bool)} (hm : laws_FnExactClosedSieves x0 x1 = some y) : Calls Tryz.prog 8 #[.agg #[.int .i64 (x0.Shape.Objects), v_x0_Shape_From, v_x0_Shape_To, v_x0_Shape_Identity, v_x0_Shape_Composites, v_x0_Covers], .int .i64 (x1)] w (fun e w' => e = .returned (.bool y) ∧ Chg [] w w') :=
  ct_read c8 (.fact (fact_rd h_x0_Shape_From) (.fact (fact_rd h_x0_Shape_To) (.fact (fact_rd h_x0_Shape_Identity) (.fact (fact_rd h_x0_Shape_Composites) (.fact (fact_rd h_x0_Covers) (.nil)))))) hm
end Go.Proofs.YtdlhbbhdfnnmnaaGreat
