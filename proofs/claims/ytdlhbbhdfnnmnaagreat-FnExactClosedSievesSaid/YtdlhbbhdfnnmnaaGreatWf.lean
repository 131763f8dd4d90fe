/- Walks by the calculus D. No condition beside those that each theorem names. -/
import Derived.Test.YtdlhbbhdfnnmnaaGreatDi
import Derived.Test.YtdlhbbhdfnnmnaaGreatMo
import Derived.Test.YtdlhbbhdfnnmnaaGreatDs
import Derived.Test.YtdlhbbhdfnnmnaaGreatSo
import Derived.Test.YtdlhbbhdfnnmnaaGreatWa
import Derived.Test.YtdlhbbhdfnnmnaaGreatWb
import Derived.Test.YtdlhbbhdfnnmnaaGreatWc
import Derived.Test.YtdlhbbhdfnnmnaaGreatWd
namespace Go.Proofs.YtdlhbbhdfnnmnaaGreat
open Go Go.Li Go.Dk
set_option linter.unusedVariables false
set_option maxHeartbeats 1000000
set_option maxRecDepth 100000
theorem c209 {x0 : (List Int)} {v_x0 : Value} {x1 : (List Int)} {p_x1 : Addr} {v_x1 : Value} : Ct Tryz.prog 209 true (impl_classifier_number_1 x0 x1) [v_x0, .pointer (some (p_x1))] [.ats p_x1 [v_x1], .rd false (sImm (sInt .i64)) v_x0 x0, .rd false (sImm (sInt .i64)) v_x1 x1] (fun y (_ : Unit) => [.bool y]) (fun y _ => []) := by
  refine ct (S := Unit) (owt fun _ _ => rfl) Tryz.func209 rfl rfl ?_
  repeat' first
    | intro _
    | exact rfl
    | (refine @id.{0} _ ?_; constructor)
    | apply c172
    | exact ()
theorem c208_k209 {x0 : (List (List Int))} {v_x0 : Value} {q_x1 : (List Int)} {q_p_x1 : Addr} {q_v_x1 : Value} : Ct Tryz.prog 208 true (slices_IndexFunc___impl_sieve_impl_sieve_ x0 (fun a0 => impl_classifier_number_1 a0 q_x1)) [v_x0, .func (.func 209) #[] #[.pointer (some (q_p_x1))]] [.rd false (sImm (sImm (sInt .i64))) v_x0 x0, .ats q_p_x1 [q_v_x1], .rd false (sImm (sInt .i64)) q_v_x1 q_x1] (fun y (_ : Unit) => [.int .i64 y]) (fun y _ => []) := by
  refine ct (S := Unit) (owt fun _ _ => rfl) Tryz.func208 rfl rfl ?_
  repeat' first
    | intro _
    | exact rfl
    | (refine @id.{0} _ ?_; constructor)
    | apply Dk.loop 0 (V := Unit) (fun (s : Int) v => []) (fun s v => [(8, .int .i64 (s))]) () [(0, _), (1, _), (7, _)]
    | apply c209
    | exact ()
theorem c60 {x0 : MCategory} {v_x0_From : Value} {v_x0_To : Value} {v_x0_Identity : Value} {v_x0_Composites : Value} {x1 : MCategory} {v_x1_From : Value} {v_x1_To : Value} {v_x1_Identity : Value} {v_x1_Composites : Value} : Ct Tryz.prog 60 true (laws_eqCategory x0 x1) [.agg #[.int .i64 (x0.Objects), v_x0_From, v_x0_To, v_x0_Identity, v_x0_Composites], .agg #[.int .i64 (x1.Objects), v_x1_From, v_x1_To, v_x1_Identity, v_x1_Composites]] [.rd false (sImm (sInt .i64)) v_x0_From x0.From, .rd false (sImm (sInt .i64)) v_x0_To x0.To, .rd false (sImm (sInt .i64)) v_x0_Identity x0.Identity, .rd false (sImm (sImm (sInt .i64))) v_x0_Composites x0.Composites, .rd false (sImm (sInt .i64)) v_x1_From x1.From, .rd false (sImm (sInt .i64)) v_x1_To x1.To, .rd false (sImm (sInt .i64)) v_x1_Identity x1.Identity, .rd false (sImm (sImm (sInt .i64))) v_x1_Composites x1.Composites] (fun y (_ : Unit) => [.bool y]) (fun y _ => []) := by
  refine ct (S := Unit) (owt fun _ _ => rfl) Tryz.func60 rfl rfl ?_
  repeat' first
    | intro _
    | exact rfl
    | (refine @id.{0} _ ?_; constructor)
    | apply c91
    | apply c20
    | exact ()
theorem c117 {x0 : MCategory} {v_x0_From : Value} {v_x0_To : Value} {v_x0_Identity : Value} {v_x0_Composites : Value} {x1 : (List (List (List Int)))} {v_x1 : Value} : Ct Tryz.prog 117 true (spec_l25Tops x0 x1) [.agg #[.int .i64 (x0.Objects), v_x0_From, v_x0_To, v_x0_Identity, v_x0_Composites], v_x1] [.rd false (sImm (sInt .i64)) v_x0_From x0.From, .rd false (sImm (sInt .i64)) v_x0_To x0.To, .rd false (sImm (sInt .i64)) v_x0_Identity x0.Identity, .rd false (sImm (sImm (sInt .i64))) v_x0_Composites x0.Composites, .rd false (sImm (sImm (sImm (sInt .i64)))) v_x1 x1] (fun y (v : Value) => [v]) (fun y v => [.own (sOwn 2 (sInt .i64)) v y]) := by
  refine ct (S := Unit) (owt fun _ _ => rfl) Tryz.func117 rfl rfl ?_
  repeat' first
    | intro _
    | exact rfl
    | (refine @id.{0} _ ?_; constructor)
    | apply Dk.loop 0 (V := Value) (fun (s : (List Int) × Int) v => [.own (sOwn 2 (sInt .i64)) v s.1]) (fun s v => [(5, v), (6, .int .i64 (s.2))]) _ [(1, _), (2, _)]
    | apply Dk.any (id := 5) 10 [] [] [[], [], [], [1, 2], [3, 1, 2], [], [], [5, 6], [4, 3, 1, 2, 7, 5, 6, 7, 5, 6], [8, 4, 3, 1, 2, 7, 5, 6, 7, 5, 6]] (by kernel_rfl)
    | apply c220
    | apply c102
    | exact ()
theorem c223 {x0 : MCategory} {p_x0 : Addr} {v_x0_From : Value} {v_x0_To : Value} {v_x0_Identity : Value} {v_x0_Composites : Value} {x1 : Int} {x2 : (List Int)} {v_x2 : Value} : Ct Tryz.prog 223 true (impl_all x0 x1 x2) [.pointer (some (p_x0)), .int .i64 (x1), .iface 157 (v_x2)] [.ats p_x0 [.int .i64 (x0.Objects), v_x0_From, v_x0_To, v_x0_Identity, v_x0_Composites], .rd false (sImm (sInt .i64)) v_x0_From x0.From, .rd false (sImm (sInt .i64)) v_x0_To x0.To, .rd false (sImm (sInt .i64)) v_x0_Identity x0.Identity, .rd false (sImm (sImm (sInt .i64))) v_x0_Composites x0.Composites, .rd false (sImm (sInt .i64)) v_x2 x2] (fun y (_ : Unit) => [.bool y]) (fun y _ => []) := by
  refine ct (S := Unit) (owt fun _ _ => rfl) Tryz.func223 rfl rfl ?_
  repeat' first
    | intro _
    | exact rfl
    | (refine @id.{0} _ ?_; constructor)
    | apply c388
    | exact Dk.bxi (by kernel_rfl)
    | exact ()
theorem c119 {x0 : MClassifier} {p_x0 : Addr} {v_x0_Sets_Shape_From : Value} {v_x0_Sets_Shape_To : Value} {v_x0_Sets_Shape_Identity : Value} {v_x0_Sets_Shape_Composites : Value} {v_x0_Sets_Sizes : Value} {v_x0_Sets_Actions : Value} {v_x0_Sieves : Value} : Ct Tryz.prog 119 true (impl_classifier_tops x0) [.pointer (some (p_x0))] [.ats p_x0 [.int .i64 (x0.Sets.Shape.Objects), v_x0_Sets_Shape_From, v_x0_Sets_Shape_To, v_x0_Sets_Shape_Identity, v_x0_Sets_Shape_Composites, v_x0_Sets_Sizes, v_x0_Sets_Actions, v_x0_Sieves], .rd false (sImm (sInt .i64)) v_x0_Sets_Shape_From x0.Sets.Shape.From, .rd false (sImm (sInt .i64)) v_x0_Sets_Shape_To x0.Sets.Shape.To, .rd false (sImm (sInt .i64)) v_x0_Sets_Shape_Identity x0.Sets.Shape.Identity, .rd false (sImm (sImm (sInt .i64))) v_x0_Sets_Shape_Composites x0.Sets.Shape.Composites, .rd false (sImm (sInt .i64)) v_x0_Sets_Sizes x0.Sets.Sizes, .rd false (sImm (sImm (sInt .i64))) v_x0_Sets_Actions x0.Sets.Actions, .rd false (sImm (sImm (sImm (sInt .i64)))) v_x0_Sieves x0.Sieves] (fun y (v : Value) => [v]) (fun y v => [.own (sOwn 2 (sInt .i64)) v y]) := by
  refine ct (S := Unit) (owt fun _ _ => rfl) Tryz.func119 rfl rfl ?_
  repeat' first
    | intro _
    | exact rfl
    | (refine @id.{0} _ ?_; constructor)
    | apply Dk.loop 0 (V := Value) (fun (s : (List Int) × Int) v => [.own (sOwn 2 (sInt .i64)) v s.1]) (fun s v => [(3, v), (14, .int .i64 (s.2))]) _ [(0, _), (12, _), (13, _)]
    | apply Dk.loop 2 (V := Value) (fun (s : (List Int) × Int) v => [.own (sOwn 2 (sInt .i64)) v s.1]) (fun s v => [(3, v), (21, .int .i64 (s.2))]) _ [(0, _), (4, _), (12, _), (13, _), (14, _), (19, _), (20, _)]
    | apply c223
    | exact ()
theorem c127 {x0 : MTopology} {v_x0_Shape_From : Value} {v_x0_Shape_To : Value} {v_x0_Shape_Identity : Value} {v_x0_Shape_Composites : Value} {v_x0_Covers : Value} {x1 : Int} {x2 : (List Int)} {v_x2 : Value} : Ct Tryz.prog 127 true (spec_l27Close x0 x1 x2) [.agg #[.int .i64 (x0.Shape.Objects), v_x0_Shape_From, v_x0_Shape_To, v_x0_Shape_Identity, v_x0_Shape_Composites, v_x0_Covers], .int .i64 (x1), v_x2] [.rd false (sImm (sInt .i64)) v_x0_Shape_From x0.Shape.From, .rd false (sImm (sInt .i64)) v_x0_Shape_To x0.Shape.To, .rd false (sImm (sInt .i64)) v_x0_Shape_Identity x0.Shape.Identity, .rd false (sImm (sImm (sInt .i64))) v_x0_Shape_Composites x0.Shape.Composites, .rd false (sImm (sImm (sImm (sInt .i64)))) v_x0_Covers x0.Covers, .rd false (sImm (sInt .i64)) v_x2 x2] (fun y (v : Value) => [v]) (fun y v => [.own (sOwn 2 (sInt .i64)) v y]) := by
  refine ct (S := Unit) (owt fun _ _ => rfl) Tryz.func127 rfl rfl ?_
  repeat' first
    | intro _
    | exact rfl
    | (refine @id.{0} _ ?_; constructor)
    | apply Dk.loop 0 (V := Value) (fun (s : (List Int) × Int) v => [.own (sOwn 2 (sInt .i64)) v s.1]) (fun s v => [(8, v), (9, .int .i64 (s.2))]) _ [(2, _), (3, _), (7, _)]
    | apply Dk.any (id := 6) 21 [] [] [[], [0], [], [2], [3, 2], [], [], [5, 6], [7, 5, 6], [4, 3, 2, 8, 7, 5, 6], [9, 4, 3, 2, 8, 7, 5, 6], [1, 0, 10, 9, 4, 3, 2, 8, 7, 5, 6], [11, 1, 0, 10, 9, 4, 3, 2, 8, 7, 5, 6], [], [13], [], [], [15, 16], [17, 15, 16], [], [14, 13, 18, 17, 15, 16, 19]] (by kernel_rfl)
    | apply c220
    | apply c204
    | apply c138
    | exact ()
theorem c134 {x0 : (List (List (List Int)))} {v_x0 : Value} {x1 : (List (List (List Int)))} {v_x1 : Value} : Ct Tryz.prog 134 true (laws_eqInt64SSS x0 x1) [v_x0, v_x1] [.rd false (sImm (sImm (sImm (sInt .i64)))) v_x0 x0, .rd false (sImm (sImm (sImm (sInt .i64)))) v_x1 x1] (fun y (_ : Unit) => [.bool y]) (fun y _ => []) := by
  refine ct (S := Unit) (owt fun _ _ => rfl) Tryz.func134 rfl rfl ?_
  repeat' first
    | intro _
    | exact rfl
    | (refine @id.{0} _ ?_; constructor)
    | apply Dk.loop 0 (V := Unit) (fun (s : Int) v => []) (fun s v => [(5, .int .i64 (s))]) () [(0, _), (1, _)]
    | apply Dk.quiet (id := 6) (by kernel_rfl)
    | apply c20
    | exact ()
theorem c51 {x0 : MTopology} {v_x0_Shape_From : Value} {v_x0_Shape_To : Value} {v_x0_Shape_Identity : Value} {v_x0_Shape_Composites : Value} {v_x0_Covers : Value} {x1 : MTopology} {v_x1_Shape_From : Value} {v_x1_Shape_To : Value} {v_x1_Shape_Identity : Value} {v_x1_Shape_Composites : Value} {v_x1_Covers : Value} : Ct Tryz.prog 51 true (laws_eqTopology x0 x1) [.agg #[.int .i64 (x0.Shape.Objects), v_x0_Shape_From, v_x0_Shape_To, v_x0_Shape_Identity, v_x0_Shape_Composites, v_x0_Covers], .agg #[.int .i64 (x1.Shape.Objects), v_x1_Shape_From, v_x1_Shape_To, v_x1_Shape_Identity, v_x1_Shape_Composites, v_x1_Covers]] [.rd false (sImm (sInt .i64)) v_x0_Shape_From x0.Shape.From, .rd false (sImm (sInt .i64)) v_x0_Shape_To x0.Shape.To, .rd false (sImm (sInt .i64)) v_x0_Shape_Identity x0.Shape.Identity, .rd false (sImm (sImm (sInt .i64))) v_x0_Shape_Composites x0.Shape.Composites, .rd false (sImm (sImm (sImm (sInt .i64)))) v_x0_Covers x0.Covers, .rd false (sImm (sInt .i64)) v_x1_Shape_From x1.Shape.From, .rd false (sImm (sInt .i64)) v_x1_Shape_To x1.Shape.To, .rd false (sImm (sInt .i64)) v_x1_Shape_Identity x1.Shape.Identity, .rd false (sImm (sImm (sInt .i64))) v_x1_Shape_Composites x1.Shape.Composites, .rd false (sImm (sImm (sImm (sInt .i64)))) v_x1_Covers x1.Covers] (fun y (_ : Unit) => [.bool y]) (fun y _ => []) := by
  refine ct (S := Unit) (owt fun _ _ => rfl) Tryz.func51 rfl rfl ?_
  repeat' first
    | intro _
    | exact rfl
    | (refine @id.{0} _ ?_; constructor)
    | apply c60
    | apply c134
    | exact ()
end Go.Proofs.YtdlhbbhdfnnmnaaGreat
