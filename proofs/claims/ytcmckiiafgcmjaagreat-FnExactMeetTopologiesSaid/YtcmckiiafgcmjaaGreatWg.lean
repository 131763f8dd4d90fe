/- Walks by the calculus D. No condition beside those that each theorem names. -/
import Derived.Test.YtcmckiiafgcmjaaGreatDi
import Derived.Test.YtcmckiiafgcmjaaGreatMo
import Derived.Test.YtcmckiiafgcmjaaGreatSo
import Derived.Test.YtcmckiiafgcmjaaGreatWa
import Derived.Test.YtcmckiiafgcmjaaGreatWb
import Derived.Test.YtcmckiiafgcmjaaGreatWc
import Derived.Test.YtcmckiiafgcmjaaGreatWd
namespace Go.Proofs.YtcmckiiafgcmjaaGreat
open Go Go.Li Go.Dk
set_option linter.unusedVariables false
set_option maxHeartbeats 1000000
set_option maxRecDepth 100000
theorem c179 {x0 : MCategory} {v_x0_From : Value} {v_x0_To : Value} {v_x0_Identity : Value} {v_x0_Composites : Value} : Ct Tryz.prog 179 true (spec_IsShape x0) [.agg #[.int .i64 (x0.Objects), v_x0_From, v_x0_To, v_x0_Identity, v_x0_Composites]] [.rd false (sImm (sInt .i64)) v_x0_From x0.From, .rd false (sImm (sInt .i64)) v_x0_To x0.To, .rd false (sImm (sInt .i64)) v_x0_Identity x0.Identity, .rd false (sImm (sImm (sInt .i64))) v_x0_Composites x0.Composites] (fun y (_ : Unit) => [.bool y]) (fun y _ => []) := by
  refine ct (S := Unit) (owt fun _ _ => rfl) Tryz.func179 rfl rfl ?_
  repeat' first
    | intro _
    | exact rfl
    | (refine @id.{0} _ ?_; constructor)
    | apply Dk.loop 0 (V := Unit) (fun (s : Int) v => []) (fun s v => [(4, .int .i64 (s))]) () [(1, _), (3, _)]
    | apply Dk.loop 2 (V := Unit) (fun (s : Int) v => []) (fun s v => [(5, .int .i64 (s))]) () [(1, _), (3, _)]
    | apply Dk.loop 4 (V := Unit) (fun (s : Int) v => []) (fun s v => [(6, .int .i64 (s))]) () [(1, _), (3, _), (5, _)]
    | apply Dk.quiet (id := 9) (by kernel_rfl)
    | apply Dk.quiet (id := 20) (by kernel_rfl)
    | apply Dk.quiet (id := 23) (by kernel_rfl)
    | apply c217
    | apply c218
    | apply c140
    | exact ()
theorem c117 {x0 : MCategory} {v_x0_From : Value} {v_x0_To : Value} {v_x0_Identity : Value} {v_x0_Composites : Value} : Ct Tryz.prog 117 true (spec_l02Is x0) [.agg #[.int .i64 (x0.Objects), v_x0_From, v_x0_To, v_x0_Identity, v_x0_Composites]] [.rd false (sImm (sInt .i64)) v_x0_From x0.From, .rd false (sImm (sInt .i64)) v_x0_To x0.To, .rd false (sImm (sInt .i64)) v_x0_Identity x0.Identity, .rd false (sImm (sImm (sInt .i64))) v_x0_Composites x0.Composites] (fun y (_ : Unit) => [.bool y]) (fun y _ => []) := by
  refine ct (S := Unit) (owt fun _ _ => rfl) Tryz.func117 rfl rfl ?_
  repeat' first
    | intro _
    | exact rfl
    | (refine @id.{0} _ ?_; constructor)
    | apply c179
    | apply c180
    | exact ()
theorem c158 {x0 : MCategory} {p_x0 : Addr} {v_x0_From : Value} {v_x0_To : Value} {v_x0_Identity : Value} {v_x0_Composites : Value} : Ct Tryz.prog 158 true (impl_Category_copy x0) [.pointer (some (p_x0))] [.ats p_x0 [.int .i64 (x0.Objects), v_x0_From, v_x0_To, v_x0_Identity, v_x0_Composites], .rd false (sImm (sInt .i64)) v_x0_From x0.From, .rd false (sImm (sInt .i64)) v_x0_To x0.To, .rd false (sImm (sInt .i64)) v_x0_Identity x0.Identity, .rd false (sImm (sImm (sInt .i64))) v_x0_Composites x0.Composites] (fun y (v : Value × Value × Value × Value) => [.agg #[.int .i64 y.Objects, v.1, v.2.1, v.2.2.1, v.2.2.2]]) (fun y v => [.own (sOwn 2 (sInt .i64)) v.1 y.From, .own (sOwn 2 (sInt .i64)) v.2.1 y.To, .own (sOwn 2 (sInt .i64)) v.2.2.1 y.Identity, .own (sOwn 22 (sOwn 2 (sInt .i64))) v.2.2.2 y.Composites]) := by
  refine ct (S := Unit) (owt fun _ _ => rfl) Tryz.func158 rfl rfl ?_
  repeat' first
    | intro _
    | exact rfl
    | (refine @id.{0} _ ?_; constructor)
    | apply Dk.any (id := 1) 24 [] [] [[], [0], [1, 0], [2, 1, 0], [], [4], [5, 4], [6, 5, 4], [7, 6, 5, 4], [], [9], [10, 9], [11, 10, 9], [12, 11, 10, 9, 8, 7, 6, 5, 4], [], [14], [15, 14], [16, 15, 14], [17, 16, 15, 14, 13, 12, 11, 10, 9, 8, 7, 6, 5, 4], [], [19], [20, 19], [21, 20, 19], [22, 21, 20, 19, 18, 17, 16, 15, 14, 13, 12, 11, 10, 9, 8, 7, 6, 5, 4]] (by kernel_rfl)
    | apply c159
    | apply c178
    | exact ()
theorem c229 {x0 : (List Int)} {v_x0 : Value} {x1 : (List Int)} {p_x1 : Addr} {v_x1 : Value} : Ct Tryz.prog 229 true (impl_Category_sieves_1 x0 x1) [v_x0, .pointer (some (p_x1))] [.ats p_x1 [v_x1], .rd false (sImm (sInt .i64)) v_x0 x0, .rd false (sImm (sInt .i64)) v_x1 x1] (fun y (_ : Unit) => [.bool y]) (fun y _ => []) := by
  refine ct (S := Unit) (owt fun _ _ => rfl) Tryz.func229 rfl rfl ?_
  repeat' first
    | intro _
    | exact rfl
    | (refine @id.{0} _ ?_; constructor)
    | apply c154
    | exact ()
theorem c175_k229 {x0 : (List (List Int))} {v_x0 : Value} {q_x1 : (List Int)} {q_p_x1 : Addr} {q_v_x1 : Value} : Ct Tryz.prog 175 true (slices_IndexFunc___impl_sieve_impl_sieve_ x0 (fun a0 => impl_Category_sieves_1 a0 q_x1)) [v_x0, .func (.func 229) #[] #[.pointer (some (q_p_x1))]] [.rd false (sImm (sImm (sInt .i64))) v_x0 x0, .ats q_p_x1 [q_v_x1], .rd false (sImm (sInt .i64)) q_v_x1 q_x1] (fun y (_ : Unit) => [.int .i64 y]) (fun y _ => []) := by
  refine ct (S := Unit) (owt fun _ _ => rfl) Tryz.func175 rfl rfl ?_
  repeat' first
    | intro _
    | exact rfl
    | (refine @id.{0} _ ?_; constructor)
    | apply Dk.loop 0 (V := Unit) (fun (s : Int) v => []) (fun s v => [(8, .int .i64 (s))]) () [(0, _), (1, _), (7, _)]
    | apply c229
    | exact ()
theorem c43 {x0 : MCategory} {v_x0_From : Value} {v_x0_To : Value} {v_x0_Identity : Value} {v_x0_Composites : Value} {x1 : Int} : Ct Tryz.prog 43 true (laws_markCategory x0 x1) [.agg #[.int .i64 (x0.Objects), v_x0_From, v_x0_To, v_x0_Identity, v_x0_Composites], .int .i64 (x1)] [.own (sOwn 2 (sInt .i64)) v_x0_From x0.From, .own (sOwn 2 (sInt .i64)) v_x0_To x0.To, .own (sOwn 2 (sInt .i64)) v_x0_Identity x0.Identity, .own (sOwn 22 (sOwn 2 (sInt .i64))) v_x0_Composites x0.Composites] (fun y (_ : Unit) => [.int .i64 y.1]) (fun y _ => [.own (sOwn 2 (sInt .i64)) v_x0_From y.2.1, .own (sOwn 2 (sInt .i64)) v_x0_To y.2.2.1, .own (sOwn 2 (sInt .i64)) v_x0_Identity y.2.2.2.1, .own (sOwn 22 (sOwn 2 (sInt .i64))) v_x0_Composites y.2.2.2.2]) := by
  refine ct (S := Unit) (owt fun _ _ => rfl) Tryz.func43 rfl rfl ?_
  repeat' first
    | intro _
    | exact rfl
    | (refine @id.{0} _ ?_; constructor)
    | apply c25
    | apply c30
    | exact ()
theorem c85 {x0 : (List (List (List Int)))} {v_x0 : Value} {x1 : Int} : Ct Tryz.prog 85 true (laws_markInt64SSS x0 x1) [v_x0, .int .i64 (x1)] [.own (sOwn 23 (sOwn 22 (sOwn 2 (sInt .i64)))) v_x0 x0] (fun y (_ : Unit) => [.int .i64 y.1]) (fun y _ => [.own (sOwn 23 (sOwn 22 (sOwn 2 (sInt .i64)))) v_x0 y.2]) := by
  refine ct (S := Unit) (owt fun _ _ => rfl) Tryz.func85 rfl rfl ?_
  repeat' first
    | intro _
    | exact rfl
    | (refine @id.{0} _ ?_; constructor)
    | apply Dk.loop 0 (V := Unit) (fun (s : Int × Int × (List (List (List Int)))) v => [.own (sOwn 23 (sOwn 22 (sOwn 2 (sInt .i64)))) v_x0 s.2.2]) (fun s v => [(1, .int .i64 (s.1)), (5, .int .i64 (s.2.1))]) () [(0, _)]
    | apply c30
    | exact ()
theorem c24 {x0 : MTopology} {v_x0_Shape_From : Value} {v_x0_Shape_To : Value} {v_x0_Shape_Identity : Value} {v_x0_Shape_Composites : Value} {v_x0_Covers : Value} {x1 : Int} : Ct Tryz.prog 24 true (laws_markTopology x0 x1) [.agg #[.int .i64 (x0.Shape.Objects), v_x0_Shape_From, v_x0_Shape_To, v_x0_Shape_Identity, v_x0_Shape_Composites, v_x0_Covers], .int .i64 (x1)] [.own (sOwn 2 (sInt .i64)) v_x0_Shape_From x0.Shape.From, .own (sOwn 2 (sInt .i64)) v_x0_Shape_To x0.Shape.To, .own (sOwn 2 (sInt .i64)) v_x0_Shape_Identity x0.Shape.Identity, .own (sOwn 22 (sOwn 2 (sInt .i64))) v_x0_Shape_Composites x0.Shape.Composites, .own (sOwn 23 (sOwn 22 (sOwn 2 (sInt .i64)))) v_x0_Covers x0.Covers] (fun y (_ : Unit) => [.int .i64 y.1]) (fun y _ => [.own (sOwn 2 (sInt .i64)) v_x0_Shape_From y.2.1, .own (sOwn 2 (sInt .i64)) v_x0_Shape_To y.2.2.1, .own (sOwn 2 (sInt .i64)) v_x0_Shape_Identity y.2.2.2.1, .own (sOwn 22 (sOwn 2 (sInt .i64))) v_x0_Shape_Composites y.2.2.2.2.1, .own (sOwn 23 (sOwn 22 (sOwn 2 (sInt .i64)))) v_x0_Covers y.2.2.2.2.2]) := by
  refine ct (S := Unit) (owt fun _ _ => rfl) Tryz.func24 rfl rfl ?_
  repeat' first
    | intro _
    | exact rfl
    | (refine @id.{0} _ ?_; constructor)
    | apply c43
    | apply c85
    | exact ()
theorem c95 {x0 : MCoverage} {p_x0 : Addr} {p_x0_Classifier : Addr} {v_x0_Classifier_Sets_Shape_From : Value} {v_x0_Classifier_Sets_Shape_To : Value} {v_x0_Classifier_Sets_Shape_Identity : Value} {v_x0_Classifier_Sets_Shape_Composites : Value} {v_x0_Classifier_Sets_Sizes : Value} {v_x0_Classifier_Sets_Actions : Value} {v_x0_Classifier_Sieves : Value} {p_x0_C : Addr} {v_x0_C_From : Value} {v_x0_C_To : Value} {v_x0_C_Identity : Value} {v_x0_C_Composites : Value} {v_x0_Covers : Value} {p_x0_Count : Addr} : Ct Tryz.prog 95 true (impl_coverage_topology x0) [.pointer (some (p_x0))] [.ats p_x0 [.pointer (some (p_x0_Classifier)), .pointer (some (p_x0_C)), v_x0_Covers, .pointer (some (p_x0_Count))], .ats p_x0_Count [.int .i64 (x0.Count)], .ats p_x0_C [.int .i64 (x0.C.Objects), v_x0_C_From, v_x0_C_To, v_x0_C_Identity, v_x0_C_Composites], .ats p_x0_Classifier [.int .i64 (x0.Classifier.Sets.Shape.Objects), v_x0_Classifier_Sets_Shape_From, v_x0_Classifier_Sets_Shape_To, v_x0_Classifier_Sets_Shape_Identity, v_x0_Classifier_Sets_Shape_Composites, v_x0_Classifier_Sets_Sizes, v_x0_Classifier_Sets_Actions, v_x0_Classifier_Sieves], .rd false (sImm (sInt .i64)) v_x0_Classifier_Sets_Shape_From x0.Classifier.Sets.Shape.From, .rd false (sImm (sInt .i64)) v_x0_Classifier_Sets_Shape_To x0.Classifier.Sets.Shape.To, .rd false (sImm (sInt .i64)) v_x0_Classifier_Sets_Shape_Identity x0.Classifier.Sets.Shape.Identity, .rd false (sImm (sImm (sInt .i64))) v_x0_Classifier_Sets_Shape_Composites x0.Classifier.Sets.Shape.Composites, .rd false (sImm (sInt .i64)) v_x0_Classifier_Sets_Sizes x0.Classifier.Sets.Sizes, .rd false (sImm (sImm (sInt .i64))) v_x0_Classifier_Sets_Actions x0.Classifier.Sets.Actions, .rd false (sImm (sImm (sImm (sInt .i64)))) v_x0_Classifier_Sieves x0.Classifier.Sieves, .rd false (sImm (sInt .i64)) v_x0_C_From x0.C.From, .rd false (sImm (sInt .i64)) v_x0_C_To x0.C.To, .rd false (sImm (sInt .i64)) v_x0_C_Identity x0.C.Identity, .rd false (sImm (sImm (sInt .i64))) v_x0_C_Composites x0.C.Composites, .rd false (sImm (sImm sBool)) v_x0_Covers x0.Covers] (fun y (v : Value × Value × Value × Value × Value) => [.agg #[.int .i64 y.Shape.Objects, v.1, v.2.1, v.2.2.1, v.2.2.2.1, v.2.2.2.2]]) (fun y v => [.own (sOwn 2 (sInt .i64)) v.1 y.Shape.From, .own (sOwn 2 (sInt .i64)) v.2.1 y.Shape.To, .own (sOwn 2 (sInt .i64)) v.2.2.1 y.Shape.Identity, .own (sOwn 22 (sOwn 2 (sInt .i64))) v.2.2.2.1 y.Shape.Composites, .own (sOwn 23 (sOwn 22 (sOwn 2 (sInt .i64)))) v.2.2.2.2 y.Covers]) := by
  refine ct (S := Unit) (owt fun _ _ => rfl) Tryz.func95 rfl rfl ?_
  repeat' first
    | intro _
    | exact rfl
    | (refine @id.{0} _ ?_; constructor)
    | apply Dk.loopA 0 (V := Value) (A := Nat × Value × Value × Value × Value × Value) (_, _, _, _, _, _) (fun a (s : Int × (List (List (List Int)))) v => Dk.pc (fun a0 => Dk.pc (fun a1 => Dk.pc (fun a2 => Dk.pc (fun a3 => Dk.pc (fun a4 a5 => [.row a0 [a1, a2, a3, a4, a5, v] 34, .own (sOwn 23 (sOwn 22 (sOwn 2 (sInt .i64)))) v s.2]))))) a) (fun a s v => Dk.pc (fun a0 => Dk.pc (fun a1 => Dk.pc (fun a2 => Dk.pc (fun a3 => Dk.pc (fun a4 a5 => [(3, .pointer (some ⟨a0, 0, none⟩)), (23, .int .i64 (s.1))]))))) a) _ [(0, _), (2, _), (21, _), (22, _)]
    | apply Dk.loop 2 (V := Value) (fun (s : (List (List Int)) × Int) v => [.own (sOwn 22 (sOwn 2 (sInt .i64))) v s.1]) (fun s v => [(6, v), (37, .int .i64 (s.2))]) _ [(0, _), (2, _), (3, _), (5, _), (21, _), (22, _), (23, _), (35, _), (36, _)]
    | apply c158
    | apply c159
    | exact ()
theorem c170 {x0 : MCategory} {v_x0_From : Value} {v_x0_To : Value} {v_x0_Identity : Value} {v_x0_Composites : Value} {x1 : MCategory} {v_x1_From : Value} {v_x1_To : Value} {v_x1_Identity : Value} {v_x1_Composites : Value} : Ct Tryz.prog 170 true (spec_l02Same x0 x1) [.agg #[.int .i64 (x0.Objects), v_x0_From, v_x0_To, v_x0_Identity, v_x0_Composites], .agg #[.int .i64 (x1.Objects), v_x1_From, v_x1_To, v_x1_Identity, v_x1_Composites]] [.rd false (sImm (sInt .i64)) v_x0_From x0.From, .rd false (sImm (sInt .i64)) v_x0_To x0.To, .rd false (sImm (sInt .i64)) v_x0_Identity x0.Identity, .rd false (sImm (sImm (sInt .i64))) v_x0_Composites x0.Composites, .rd false (sImm (sInt .i64)) v_x1_From x1.From, .rd false (sImm (sInt .i64)) v_x1_To x1.To, .rd false (sImm (sInt .i64)) v_x1_Identity x1.Identity, .rd false (sImm (sImm (sInt .i64))) v_x1_Composites x1.Composites] (fun y (_ : Unit) => [.bool y]) (fun y _ => []) := by
  refine ct (S := Unit) (owt fun _ _ => rfl) Tryz.func170 rfl rfl ?_
  repeat' first
    | intro _
    | exact rfl
    | (refine @id.{0} _ ?_; constructor)
    | apply c88
    | apply c184
    | exact ()
end Go.Proofs.YtcmckiiafgcmjaaGreat
