/- Walks by the calculus D. No condition beside those that each theorem names. -/
import Derived.Test.YtdlhbbhdfnnmnaaGreatDi
import Derived.Test.YtdlhbbhdfnnmnaaGreatMo
import Derived.Test.YtdlhbbhdfnnmnaaGreatDs
import Derived.Test.YtdlhbbhdfnnmnaaGreatSo
import Derived.Test.YtdlhbbhdfnnmnaaGreatWa
import Derived.Test.YtdlhbbhdfnnmnaaGreatWb
import Derived.Test.YtdlhbbhdfnnmnaaGreatWd
namespace Go.Proofs.YtdlhbbhdfnnmnaaGreat
open Go Go.Li Go.Dk
set_option linter.unusedVariables false
set_option maxHeartbeats 1000000
set_option maxRecDepth 100000
theorem c55 {x0 : MCategory} {v_x0_From : Value} {v_x0_To : Value} {v_x0_Identity : Value} {v_x0_Composites : Value} {x1 : Int} : Ct Tryz.prog 55 true (laws_szCategory x0 x1) [.agg #[.int .i64 (x0.Objects), v_x0_From, v_x0_To, v_x0_Identity, v_x0_Composites], .int .i64 (x1)] [.rd false (sImm (sInt .i64)) v_x0_From x0.From, .rd false (sImm (sInt .i64)) v_x0_To x0.To, .rd false (sImm (sInt .i64)) v_x0_Identity x0.Identity, .rd false (sImm (sImm (sInt .i64))) v_x0_Composites x0.Composites] (fun y (_ : Unit) => [.int .i64 y]) (fun y _ => []) := by
  refine ct (S := Unit) (owt fun _ _ => rfl) Tryz.func55 rfl rfl ?_
  repeat' first
    | intro _
    | exact rfl
    | (refine @id.{0} _ ?_; constructor)
    | apply c95
    | apply c73
    | exact ()
theorem c169 {x0 : MCategory} {v_x0_From : Value} {v_x0_To : Value} {v_x0_Identity : Value} {v_x0_Composites : Value} : Ct Tryz.prog 169 true (spec_l02Own x0) [.agg #[.int .i64 (x0.Objects), v_x0_From, v_x0_To, v_x0_Identity, v_x0_Composites]] [.rd false (sImm (sInt .i64)) v_x0_From x0.From, .rd false (sImm (sInt .i64)) v_x0_To x0.To, .rd false (sImm (sInt .i64)) v_x0_Identity x0.Identity, .rd false (sImm (sImm (sInt .i64))) v_x0_Composites x0.Composites] (fun y (v : Value × Value × Value × Value) => [.agg #[.int .i64 y.Objects, v.1, v.2.1, v.2.2.1, v.2.2.2]]) (fun y v => [.own (sOwn 2 (sInt .i64)) v.1 y.From, .own (sOwn 2 (sInt .i64)) v.2.1 y.To, .own (sOwn 2 (sInt .i64)) v.2.2.1 y.Identity, .own (sOwn 22 (sOwn 2 (sInt .i64))) v.2.2.2 y.Composites]) := by
  refine ct (S := Unit) (owt fun _ _ => rfl) Tryz.func169 rfl rfl ?_
  repeat' first
    | intro _
    | exact rfl
    | (refine @id.{0} _ ?_; constructor)
    | apply Dk.any (id := 1) 14 [] [] [[], [0], [], [2], [3, 2], [], [5], [6, 5, 4, 3, 2], [], [8], [9, 8, 7, 6, 5, 4, 3, 2], [], [11], [12, 11, 10, 9, 8, 7, 6, 5, 4, 3, 2]] (by kernel_rfl)
    | apply c128
    | apply c203
    | exact ()
theorem c105 {x0 : MCategory} {v_x0_From : Value} {v_x0_To : Value} {v_x0_Identity : Value} {v_x0_Composites : Value} {x1 : (List (List (List Int)))} {v_x1 : Value} : Ct Tryz.prog 105 true (spec_l25Make x0 x1) [.agg #[.int .i64 (x0.Objects), v_x0_From, v_x0_To, v_x0_Identity, v_x0_Composites], v_x1] [.rd false (sImm (sInt .i64)) v_x0_From x0.From, .rd false (sImm (sInt .i64)) v_x0_To x0.To, .rd false (sImm (sInt .i64)) v_x0_Identity x0.Identity, .rd false (sImm (sImm (sInt .i64))) v_x0_Composites x0.Composites, .rd false (sImm (sImm (sImm (sInt .i64)))) v_x1 x1] (fun y (v : Value × Value × Value × Value × Value × Value) => [.agg #[.int .i64 y.Shape.Objects, v.1, v.2.1, v.2.2.1, v.2.2.2.1, v.2.2.2.2.1, v.2.2.2.2.2]]) (fun y v => [.own (sOwn 2 (sInt .i64)) v.1 y.Shape.From, .own (sOwn 2 (sInt .i64)) v.2.1 y.Shape.To, .own (sOwn 2 (sInt .i64)) v.2.2.1 y.Shape.Identity, .own (sOwn 22 (sOwn 2 (sInt .i64))) v.2.2.2.1 y.Shape.Composites, .own (sOwn 2 (sInt .i64)) v.2.2.2.2.1 y.Sizes, .own (sOwn 22 (sOwn 2 (sInt .i64))) v.2.2.2.2.2 y.Actions]) := by
  refine ct (S := Unit) (owt fun _ _ => rfl) Tryz.func105 rfl rfl ?_
  repeat' first
    | intro _
    | exact rfl
    | (refine @id.{0} _ ?_; constructor)
    | apply Dk.loopA 0 (V := Value) (A := Nat × Value × Value × Value × Value × Value × Value) (_, _, _, _, _, _, _) (fun a (s : Int × (List Int)) v => Dk.pc (fun a0 => Dk.pc (fun a1 => Dk.pc (fun a2 => Dk.pc (fun a3 => Dk.pc (fun a4 => Dk.pc (fun a5 a6 => [.row a0 [a1, a2, a3, a4, a5, v, a6] 33, .own (sOwn 2 (sInt .i64)) v s.2])))))) a) (fun a s v => Dk.pc (fun a0 => Dk.pc (fun a1 => Dk.pc (fun a2 => Dk.pc (fun a3 => Dk.pc (fun a4 => Dk.pc (fun a5 a6 => [(5, .pointer (some ⟨a0, 0, none⟩)), (6, .int .i64 (s.1))])))))) a) _ [(1, _), (2, _), (4, _)]
    | apply Dk.loopA 2 (V := Value) (A := Nat × Value × Value × Value × Value × Value × Value) (_, _, _, _, _, _, _) (fun a (s : Int × (List (List Int))) v => Dk.pc (fun a0 => Dk.pc (fun a1 => Dk.pc (fun a2 => Dk.pc (fun a3 => Dk.pc (fun a4 => Dk.pc (fun a5 a6 => [.row a0 [a1, a2, a3, a4, a5, a6, v] 33, .own (sOwn 22 (sOwn 2 (sInt .i64))) v s.2])))))) a) (fun a s v => Dk.pc (fun a0 => Dk.pc (fun a1 => Dk.pc (fun a2 => Dk.pc (fun a3 => Dk.pc (fun a4 => Dk.pc (fun a5 a6 => [(5, .pointer (some ⟨a0, 0, none⟩)), (7, .int .i64 (s.1))])))))) a) _ [(1, _), (2, _), (4, _)]
    | apply Dk.loop 4 (V := Value) (fun (s : (List Int) × Int) v => [.own (sOwn 2 (sInt .i64)) v s.1]) (fun s v => [(8, v), (9, .int .i64 (s.2))]) _ [(1, _), (2, _), (4, _), (5, _), (7, _)]
    | apply Dk.any (id := 5) 8 [] [] [[], [0], [], [], [2, 3], [4, 2, 3], [5, 4, 2, 3], [6, 5, 4, 2, 3]] (by kernel_rfl)
    | apply Dk.any (id := 13) 25 [] [] [[], [], [], [2], [], [3, 2, 4], [5, 3, 2, 4], [1, 6, 5, 3, 2, 4], [7, 1, 6, 5, 3, 2, 4], [], [], [], [], [12], [], [13, 12, 14], [15, 13, 12, 14], [11, 16, 15, 13, 12, 14], [17, 11, 16, 15, 13, 12, 14], [], [18, 17, 11, 16, 15, 13, 12, 14, 19], [20, 18, 17, 11, 16, 15, 13, 12, 14, 19], [9, 10, 21, 20, 18, 17, 11, 16, 15, 13, 12, 14, 19], [8, 7, 1, 6, 5, 3, 2, 4, 22, 9, 10, 21, 20, 18, 17, 11, 16, 15, 13, 12, 14, 19, 22, 9, 10, 21, 20, 18, 17, 11, 16, 15, 13, 12, 14, 19], [23, 8, 7, 1, 6, 5, 3, 2, 4, 22, 9, 10, 21, 20, 18, 17, 11, 16, 15, 13, 12, 14, 19, 22, 9, 10, 21, 20, 18, 17, 11, 16, 15, 13, 12, 14, 19]] (by kernel_rfl)
    | apply c169
    | apply c204
    | apply c102
    | exact ()
theorem c302 {x0 : (List Int)} {v_x0 : Value} {x1 : (List Int)} {p_x1 : Addr} {v_x1 : Value} : Ct Tryz.prog 302 true (impl_Category_sieves_1 x0 x1) [v_x0, .pointer (some (p_x1))] [.ats p_x1 [v_x1], .rd false (sImm (sInt .i64)) v_x0 x0, .rd false (sImm (sInt .i64)) v_x1 x1] (fun y (_ : Unit) => [.bool y]) (fun y _ => []) := by
  refine ct (S := Unit) (owt fun _ _ => rfl) Tryz.func302 rfl rfl ?_
  repeat' first
    | intro _
    | exact rfl
    | (refine @id.{0} _ ?_; constructor)
    | apply c172
    | exact ()
theorem c208_k302 {x0 : (List (List Int))} {v_x0 : Value} {q_x1 : (List Int)} {q_p_x1 : Addr} {q_v_x1 : Value} : Ct Tryz.prog 208 true (slices_IndexFunc___impl_sieve_impl_sieve_ x0 (fun a0 => impl_Category_sieves_1 a0 q_x1)) [v_x0, .func (.func 302) #[] #[.pointer (some (q_p_x1))]] [.rd false (sImm (sImm (sInt .i64))) v_x0 x0, .ats q_p_x1 [q_v_x1], .rd false (sImm (sInt .i64)) q_v_x1 q_x1] (fun y (_ : Unit) => [.int .i64 y]) (fun y _ => []) := by
  refine ct (S := Unit) (owt fun _ _ => rfl) Tryz.func208 rfl rfl ?_
  repeat' first
    | intro _
    | exact rfl
    | (refine @id.{0} _ ?_; constructor)
    | apply Dk.loop 0 (V := Unit) (fun (s : Int) v => []) (fun s v => [(8, .int .i64 (s))]) () [(0, _), (1, _), (7, _)]
    | apply c302
    | exact ()
theorem c122 {x0 : (List (List (List Int)))} {v_x0 : Value} {x1 : Int} : Ct Tryz.prog 122 true (laws_szInt64SSS x0 x1) [v_x0, .int .i64 (x1)] [.rd false (sImm (sImm (sImm (sInt .i64)))) v_x0 x0] (fun y (_ : Unit) => [.int .i64 y]) (fun y _ => []) := by
  refine ct (S := Unit) (owt fun _ _ => rfl) Tryz.func122 rfl rfl ?_
  repeat' first
    | intro _
    | exact rfl
    | (refine @id.{0} _ ?_; constructor)
    | apply Dk.loop 0 (V := Unit) (fun (s : Int × Int) v => []) (fun s v => [(1, .int .i64 (s.1)), (5, .int .i64 (s.2))]) () [(0, _)]
    | apply c73
    | exact ()
theorem c47 {x0 : MTopology} {v_x0_Shape_From : Value} {v_x0_Shape_To : Value} {v_x0_Shape_Identity : Value} {v_x0_Shape_Composites : Value} {v_x0_Covers : Value} {x1 : Int} : Ct Tryz.prog 47 true (laws_szTopology x0 x1) [.agg #[.int .i64 (x0.Shape.Objects), v_x0_Shape_From, v_x0_Shape_To, v_x0_Shape_Identity, v_x0_Shape_Composites, v_x0_Covers], .int .i64 (x1)] [.rd false (sImm (sInt .i64)) v_x0_Shape_From x0.Shape.From, .rd false (sImm (sInt .i64)) v_x0_Shape_To x0.Shape.To, .rd false (sImm (sInt .i64)) v_x0_Shape_Identity x0.Shape.Identity, .rd false (sImm (sImm (sInt .i64))) v_x0_Shape_Composites x0.Shape.Composites, .rd false (sImm (sImm (sImm (sInt .i64)))) v_x0_Covers x0.Covers] (fun y (_ : Unit) => [.int .i64 y]) (fun y _ => []) := by
  refine ct (S := Unit) (owt fun _ _ => rfl) Tryz.func47 rfl rfl ?_
  repeat' first
    | intro _
    | exact rfl
    | (refine @id.{0} _ ?_; constructor)
    | apply c55
    | apply c122
    | exact ()
theorem c228 {x0 : MCategory} {p_x0 : Addr} {v_x0_From : Value} {v_x0_To : Value} {v_x0_Identity : Value} {v_x0_Composites : Value} {x1 : Int} {x2 : (List Int)} {v_x2 : Value} : Ct Tryz.prog 228 true (impl_Category_isSieve x0 x1 x2) [.pointer (some (p_x0)), .int .i64 (x1), v_x2] [.ats p_x0 [.int .i64 (x0.Objects), v_x0_From, v_x0_To, v_x0_Identity, v_x0_Composites], .rd false (sImm (sInt .i64)) v_x0_From x0.From, .rd false (sImm (sInt .i64)) v_x0_To x0.To, .rd false (sImm (sInt .i64)) v_x0_Identity x0.Identity, .rd false (sImm (sImm (sInt .i64))) v_x0_Composites x0.Composites, .rd false (sImm (sInt .i64)) v_x2 x2] (fun y (_ : Unit) => [.bool y]) (fun y _ => []) := by
  refine ct (S := Unit) (owt fun _ _ => rfl) Tryz.func228 rfl rfl ?_
  repeat' first
    | intro _
    | exact rfl
    | (refine @id.{0} _ ?_; constructor)
    | apply Dk.loop 0 (V := Unit) (fun (s : Int) v => []) (fun s v => [(23, .int .i64 (s))]) () [(0, _), (1, _), (2, _), (21, _), (22, _)]
    | apply Dk.loop 2 (V := Unit) (fun (s : Int) v => []) (fun s v => [(46, .int .i64 (s))]) () [(0, _), (1, _), (2, _), (8, _), (21, _), (22, _), (23, _), (44, _), (45, _)]
    | apply c299
    | apply c147
    | apply c187
    | apply c210
    | apply c197
    | apply c211
    | exact ()
end Go.Proofs.YtdlhbbhdfnnmnaaGreat
