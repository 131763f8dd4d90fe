/- Walks by the calculus D. No condition beside those that each theorem names. -/
import Derived.Test.YtdlhbbhdfnnmnaaGreatDi
import Derived.Test.YtdlhbbhdfnnmnaaGreatMo
import Derived.Test.YtdlhbbhdfnnmnaaGreatDs
import Derived.Test.YtdlhbbhdfnnmnaaGreatSo
import Derived.Test.YtdlhbbhdfnnmnaaGreatWa
import Derived.Test.YtdlhbbhdfnnmnaaGreatWb
import Derived.Test.YtdlhbbhdfnnmnaaGreatWc
import Derived.Test.YtdlhbbhdfnnmnaaGreatWd
namespace Go.Proofs.YtdlhbbhdfnnmnaaGreat
open Go Go.Li Go.Dk
set_option linter.unusedVariables false
set_option maxHeartbeats 1000000
set_option maxRecDepth 100000
theorem c251 {x0 : MCategory} {v_x0_From : Value} {v_x0_To : Value} {v_x0_Identity : Value} {v_x0_Composites : Value} : Ct Tryz.prog 251 true (spec_IsShape x0) [.agg #[.int .i64 (x0.Objects), v_x0_From, v_x0_To, v_x0_Identity, v_x0_Composites]] [.rd false (sImm (sInt .i64)) v_x0_From x0.From, .rd false (sImm (sInt .i64)) v_x0_To x0.To, .rd false (sImm (sInt .i64)) v_x0_Identity x0.Identity, .rd false (sImm (sImm (sInt .i64))) v_x0_Composites x0.Composites] (fun y (_ : Unit) => [.bool y]) (fun y _ => []) := by
  refine ct (S := Unit) (owt fun _ _ => rfl) Tryz.func251 rfl rfl ?_
  repeat' first
    | intro _
    | exact rfl
    | (refine @id.{0} _ ?_; constructor)
    | apply Dk.loop 0 (V := Unit) (fun (s : Int) v => []) (fun s v => [(4, .int .i64 (s))]) () [(1, _), (3, _)]
    | apply Dk.loop 2 (V := Unit) (fun (s : Int) v => []) (fun s v => [(5, .int .i64 (s))]) () [(1, _), (3, _)]
    | apply Dk.loop 4 (V := Unit) (fun (s : Int) v => []) (fun s v => [(6, .int .i64 (s))]) () [(1, _), (3, _), (5, _)]
    | apply Dk.quiet (id := 9) (by kernel_rfl)
    | apply Dk.quiet (id := 20) (by kernel_rfl)
    | apply Dk.quiet (id := 23) (by kernel_rfl)
    | apply c317
    | apply c318
    | apply c296
    | exact ()
theorem c154 {x0 : MCategory} {v_x0_From : Value} {v_x0_To : Value} {v_x0_Identity : Value} {v_x0_Composites : Value} : Ct Tryz.prog 154 true (spec_l02Is x0) [.agg #[.int .i64 (x0.Objects), v_x0_From, v_x0_To, v_x0_Identity, v_x0_Composites]] [.rd false (sImm (sInt .i64)) v_x0_From x0.From, .rd false (sImm (sInt .i64)) v_x0_To x0.To, .rd false (sImm (sInt .i64)) v_x0_Identity x0.Identity, .rd false (sImm (sImm (sInt .i64))) v_x0_Composites x0.Composites] (fun y (_ : Unit) => [.bool y]) (fun y _ => []) := by
  refine ct (S := Unit) (owt fun _ _ => rfl) Tryz.func154 rfl rfl ?_
  repeat' first
    | intro _
    | exact rfl
    | (refine @id.{0} _ ?_; constructor)
    | apply c251
    | apply c252
    | exact ()
theorem c169 {x0 : MCategory} {v_x0_From : Value} {v_x0_To : Value} {v_x0_Identity : Value} {v_x0_Composites : Value} : Ct Tryz.prog 169 true (spec_l02Own x0) [.agg #[.int .i64 (x0.Objects), v_x0_From, v_x0_To, v_x0_Identity, v_x0_Composites]] [.rd false (sImm (sInt .i64)) v_x0_From x0.From, .rd false (sImm (sInt .i64)) v_x0_To x0.To, .rd false (sImm (sInt .i64)) v_x0_Identity x0.Identity, .rd false (sImm (sImm (sInt .i64))) v_x0_Composites x0.Composites] (fun y (v : Value × Value × Value × Value) => [.agg #[.int .i64 y.Objects, v.1, v.2.1, v.2.2.1, v.2.2.2]]) (fun y v => [.own (sOwn 2 (sInt .i64)) v.1 y.From, .own (sOwn 2 (sInt .i64)) v.2.1 y.To, .own (sOwn 2 (sInt .i64)) v.2.2.1 y.Identity, .own (sOwn 22 (sOwn 2 (sInt .i64))) v.2.2.2 y.Composites]) := by
  refine ct (S := Unit) (owt fun _ _ => rfl) Tryz.func169 rfl rfl ?_
  repeat' first
    | intro _
    | exact rfl
    | (refine @id.{0} _ ?_; constructor)
    | apply Dk.any (id := 1) 14 [] [] [[], [0], [], [2], [3, 2], [], [5], [6, 5, 4, 3, 2], [], [8], [9, 8, 7, 6, 5, 4, 3, 2], [], [11], [12, 11, 10, 9, 8, 7, 6, 5, 4, 3, 2]] (by kernel_rfl)
    | apply c128
    | apply c203
    | exact ()
theorem c105 {x0 : MCategory} {v_x0_From : Value} {v_x0_To : Value} {v_x0_Identity : Value} {v_x0_Composites : Value} {x1 : (List (List (List Int)))} {v_x1 : Value} : Ct Tryz.prog 105 true (spec_l25Make x0 x1) [.agg #[.int .i64 (x0.Objects), v_x0_From, v_x0_To, v_x0_Identity, v_x0_Composites], v_x1] [.rd false (sImm (sInt .i64)) v_x0_From x0.From, .rd false (sImm (sInt .i64)) v_x0_To x0.To, .rd false (sImm (sInt .i64)) v_x0_Identity x0.Identity, .rd false (sImm (sImm (sInt .i64))) v_x0_Composites x0.Composites, .rd false (sImm (sImm (sImm (sInt .i64)))) v_x1 x1] (fun y (v : Value × Value × Value × Value × Value × Value) => [.agg #[.int .i64 y.Shape.Objects, v.1, v.2.1, v.2.2.1, v.2.2.2.1, v.2.2.2.2.1, v.2.2.2.2.2]]) (fun y v => [.own (sOwn 2 (sInt .i64)) v.1 y.Shape.From, .own (sOwn 2 (sInt .i64)) v.2.1 y.Shape.To, .own (sOwn 2 (sInt .i64)) v.2.2.1 y.Shape.Identity, .own (sOwn 22 (sOwn 2 (sInt .i64))) v.2.2.2.1 y.Shape.Composites, .own (sOwn 2 (sInt .i64)) v.2.2.2.2.1 y.Sizes, .own (sOwn 22 (sOwn 2 (sInt .i64))) v.2.2.2.2.2 y.Actions]) := by
  refine ct (S := Unit) (owt fun _ _ => rfl) Tryz.func105 rfl rfl ?_
  repeat' first
    | intro _
    | exact rfl
    | (refine @id.{0} _ ?_; constructor)
    | apply Dk.loopA 0 (V := Value) (A := Nat × Value × Value × Value × Value × Value × Value) (_, _, _, _, _, _, _) (fun a (s : Int × (List Int)) v => Dk.pc (fun a0 => Dk.pc (fun a1 => Dk.pc (fun a2 => Dk.pc (fun a3 => Dk.pc (fun a4 => Dk.pc (fun a5 a6 => [.row a0 [a1, a2, a3, a4, a5, v, a6] 33, .own (sOwn 2 (sInt .i64)) v s.2])))))) a) (fun a s v => Dk.pc (fun a0 => Dk.pc (fun a1 => Dk.pc (fun a2 => Dk.pc (fun a3 => Dk.pc (fun a4 => Dk.pc (fun a5 a6 => [(5, .pointer (some ⟨a0, 0, none⟩)), (6, .int .i64 (s.1))])))))) a) _ [(1, _), (2, _), (4, _)]
    | apply Dk.loopA 2 (V := Value) (A := Nat × Value × Value × Value × Value × Value × Value) (_, _, _, _, _, _, _) (fun a (s : Int × (List (List Int))) v => Dk.pc (fun a0 => Dk.pc (fun a1 => Dk.pc (fun a2 => Dk.pc (fun a3 => Dk.pc (fun a4 => Dk.pc (fun a5 a6 => [.row a0 [a1, a2, a3, a4, a5, a6, v] 33, .own (sOwn 22 (sOwn 2 (sInt .i64))) v s.2])))))) a) (fun a s v => Dk.pc (fun a0 => Dk.pc (fun a1 => Dk.pc (fun a2 => Dk.pc (fun a3 => Dk.pc (fun a4 => Dk.pc (fun a5 a6 => [(5, .pointer (some ⟨a0, 0, none⟩)), (7, .int .i64 (s.1))])))))) a) _ [(1, _), (2, _), (4, _)]
    | apply Dk.loop 4 (V := Value) (fun (s : (List Int) × Int) v => [.own (sOwn 2 (sInt .i64)) v s.1]) (fun s v => [(8, v), (9, .int .i64 (s.2))]) _ [(1, _), (2, _), (4, _), (5, _), (7, _)]
    | apply Dk.any (id := 5) 8 [] [] [[], [0], [], [], [2, 3], [4, 2, 3], [5, 4, 2, 3], [6, 5, 4, 2, 3]] (by kernel_rfl)
    | apply Dk.any (id := 13) 25 [] [] [[], [], [], [2], [], [3, 2, 4], [5, 3, 2, 4], [1, 6, 5, 3, 2, 4], [7, 1, 6, 5, 3, 2, 4], [], [], [], [], [12], [], [13, 12, 14], [15, 13, 12, 14], [11, 16, 15, 13, 12, 14], [17, 11, 16, 15, 13, 12, 14], [], [18, 17, 11, 16, 15, 13, 12, 14, 19], [20, 18, 17, 11, 16, 15, 13, 12, 14, 19], [9, 10, 21, 20, 18, 17, 11, 16, 15, 13, 12, 14, 19], [8, 7, 1, 6, 5, 3, 2, 4, 22, 9, 10, 21, 20, 18, 17, 11, 16, 15, 13, 12, 14, 19, 22, 9, 10, 21, 20, 18, 17, 11, 16, 15, 13, 12, 14, 19], [23, 8, 7, 1, 6, 5, 3, 2, 4, 22, 9, 10, 21, 20, 18, 17, 11, 16, 15, 13, 12, 14, 19, 22, 9, 10, 21, 20, 18, 17, 11, 16, 15, 13, 12, 14, 19]] (by kernel_rfl)
    | apply c169
    | apply c204
    | apply c102
    | exact ()
theorem c173 {x0 : MCategory} {p_x0 : Addr} {v_x0_From : Value} {v_x0_To : Value} {v_x0_Identity : Value} {v_x0_Composites : Value} : Ct Tryz.prog 173 true (impl_Category_copy x0) [.pointer (some (p_x0))] [.ats p_x0 [.int .i64 (x0.Objects), v_x0_From, v_x0_To, v_x0_Identity, v_x0_Composites], .rd false (sImm (sInt .i64)) v_x0_From x0.From, .rd false (sImm (sInt .i64)) v_x0_To x0.To, .rd false (sImm (sInt .i64)) v_x0_Identity x0.Identity, .rd false (sImm (sImm (sInt .i64))) v_x0_Composites x0.Composites] (fun y (v : Value × Value × Value × Value) => [.agg #[.int .i64 y.Objects, v.1, v.2.1, v.2.2.1, v.2.2.2]]) (fun y v => [.own (sOwn 2 (sInt .i64)) v.1 y.From, .own (sOwn 2 (sInt .i64)) v.2.1 y.To, .own (sOwn 2 (sInt .i64)) v.2.2.1 y.Identity, .own (sOwn 22 (sOwn 2 (sInt .i64))) v.2.2.2 y.Composites]) := by
  refine ct (S := Unit) (owt fun _ _ => rfl) Tryz.func173 rfl rfl ?_
  repeat' first
    | intro _
    | exact rfl
    | (refine @id.{0} _ ?_; constructor)
    | apply Dk.any (id := 1) 24 [] [] [[], [0], [1, 0], [2, 1, 0], [], [4], [5, 4], [6, 5, 4], [7, 6, 5, 4], [], [9], [10, 9], [11, 10, 9], [12, 11, 10, 9, 8, 7, 6, 5, 4], [], [14], [15, 14], [16, 15, 14], [17, 16, 15, 14, 13, 12, 11, 10, 9, 8, 7, 6, 5, 4], [], [19], [20, 19], [21, 20, 19], [22, 21, 20, 19, 18, 17, 16, 15, 14, 13, 12, 11, 10, 9, 8, 7, 6, 5, 4]] (by kernel_rfl)
    | apply c176
    | apply c213
    | exact ()
theorem c39 {x0 : MPart} {v_x0_Members : Value} {x1 : MPart} {v_x1_Members : Value} : Ct Tryz.prog 39 true (laws_eqPart x0 x1) [.agg #[v_x0_Members], .agg #[v_x1_Members]] [.rd false (sImm (sImm (sInt .i64))) v_x0_Members x0.Members, .rd false (sImm (sImm (sInt .i64))) v_x1_Members x1.Members] (fun y (_ : Unit) => [.bool y]) (fun y _ => []) := by
  refine ct (S := Unit) (owt fun _ _ => rfl) Tryz.func39 rfl rfl ?_
  repeat' first
    | intro _
    | exact rfl
    | (refine @id.{0} _ ?_; constructor)
    | apply c20
    | exact ()
theorem c223 {x0 : MCategory} {p_x0 : Addr} {v_x0_From : Value} {v_x0_To : Value} {v_x0_Identity : Value} {v_x0_Composites : Value} {x1 : Int} {x2 : (List Int)} {v_x2 : Value} : Ct Tryz.prog 223 true (impl_all x0 x1 x2) [.pointer (some (p_x0)), .int .i64 (x1), .iface 157 (v_x2)] [.ats p_x0 [.int .i64 (x0.Objects), v_x0_From, v_x0_To, v_x0_Identity, v_x0_Composites], .rd false (sImm (sInt .i64)) v_x0_From x0.From, .rd false (sImm (sInt .i64)) v_x0_To x0.To, .rd false (sImm (sInt .i64)) v_x0_Identity x0.Identity, .rd false (sImm (sImm (sInt .i64))) v_x0_Composites x0.Composites, .rd false (sImm (sInt .i64)) v_x2 x2] (fun y (_ : Unit) => [.bool y]) (fun y _ => []) := by
  refine ct (S := Unit) (owt fun _ _ => rfl) Tryz.func223 rfl rfl ?_
  repeat' first
    | intro _
    | exact rfl
    | (refine @id.{0} _ ?_; constructor)
    | apply c388
    | exact Dk.bxi (by kernel_rfl)
    | exact ()
theorem c119 {x0 : MClassifier} {p_x0 : Addr} {v_x0_Sets_Shape_From : Value} {v_x0_Sets_Shape_To : Value} {v_x0_Sets_Shape_Identity : Value} {v_x0_Sets_Shape_Composites : Value} {v_x0_Sets_Sizes : Value} {v_x0_Sets_Actions : Value} {v_x0_Sieves : Value} : Ct Tryz.prog 119 true (impl_classifier_tops x0) [.pointer (some (p_x0))] [.ats p_x0 [.int .i64 (x0.Sets.Shape.Objects), v_x0_Sets_Shape_From, v_x0_Sets_Shape_To, v_x0_Sets_Shape_Identity, v_x0_Sets_Shape_Composites, v_x0_Sets_Sizes, v_x0_Sets_Actions, v_x0_Sieves], .rd false (sImm (sInt .i64)) v_x0_Sets_Shape_From x0.Sets.Shape.From, .rd false (sImm (sInt .i64)) v_x0_Sets_Shape_To x0.Sets.Shape.To, .rd false (sImm (sInt .i64)) v_x0_Sets_Shape_Identity x0.Sets.Shape.Identity, .rd false (sImm (sImm (sInt .i64))) v_x0_Sets_Shape_Composites x0.Sets.Shape.Composites, .rd false (sImm (sInt .i64)) v_x0_Sets_Sizes x0.Sets.Sizes, .rd false (sImm (sImm (sInt .i64))) v_x0_Sets_Actions x0.Sets.Actions, .rd false (sImm (sImm (sImm (sInt .i64)))) v_x0_Sieves x0.Sieves] (fun y (v : Value) => [v]) (fun y v => [.own (sOwn 2 (sInt .i64)) v y]) := by
  refine ct (S := Unit) (owt fun _ _ => rfl) Tryz.func119 rfl rfl ?_
  repeat' first
    | intro _
    | exact rfl
    | (refine @id.{0} _ ?_; constructor)
    | apply Dk.loop 0 (V := Value) (fun (s : (List Int) × Int) v => [.own (sOwn 2 (sInt .i64)) v s.1]) (fun s v => [(3, v), (14, .int .i64 (s.2))]) _ [(0, _), (12, _), (13, _)]
    | apply Dk.loop 2 (V := Value) (fun (s : (List Int) × Int) v => [.own (sOwn 2 (sInt .i64)) v s.1]) (fun s v => [(3, v), (21, .int .i64 (s.2))]) _ [(0, _), (4, _), (12, _), (13, _), (14, _), (19, _), (20, _)]
    | apply c223
    | exact ()
end Go.Proofs.YtdlhbbhdfnnmnaaGreat
