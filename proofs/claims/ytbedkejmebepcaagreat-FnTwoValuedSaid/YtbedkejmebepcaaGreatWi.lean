/- Walks by the calculus D. No condition beside those that each theorem names. -/
import Derived.Test.YtbedkejmebepcaaGreatDi
import Derived.Test.YtbedkejmebepcaaGreatMo
import Derived.Test.YtbedkejmebepcaaGreatDg
import Derived.Test.YtbedkejmebepcaaGreatDs
import Derived.Test.YtbedkejmebepcaaGreatSo
import Derived.Test.YtbedkejmebepcaaGreatWb
import Derived.Test.YtbedkejmebepcaaGreatWc
import Derived.Test.YtbedkejmebepcaaGreatWd
import Derived.Test.YtbedkejmebepcaaGreatWe
import Derived.Test.YtbedkejmebepcaaGreatWf
import Derived.Test.YtbedkejmebepcaaGreatWg
import Derived.Test.YtbedkejmebepcaaGreatWh
namespace Go.Proofs.YtbedkejmebepcaaGreat
open Go Go.Li Go.Dk
set_option linter.unusedVariables false
set_option maxHeartbeats 1000000
set_option maxRecDepth 100000
theorem c82 {x0 : Int} {x1 : (List Int)} {v_x1 : Value} {x2 : (List Int)} {v_x2 : Value} : Ct Tryz.prog 82 true (spec_l03Paths x0 x1 x2) [.int .i64 (x0), v_x1, v_x2] [.rd false (sImm (sInt .i64)) v_x1 x1, .rd false (sImm (sInt .i64)) v_x2 x2] (fun y (v : Value × Value × Value × Value) => [.agg #[.int .i64 y.Objects, v.1, v.2.1, v.2.2.1, v.2.2.2]]) (fun y v => [.own (sOwn 2 (sInt .i64)) v.1 y.From, .own (sOwn 2 (sInt .i64)) v.2.1 y.To, .own (sOwn 2 (sInt .i64)) v.2.2.1 y.Identity, .own (sOwn 24 (sOwn 2 (sInt .i64))) v.2.2.2 y.Composites]) := by
  refine ct (S := Unit) (owt fun _ _ => rfl) Tryz.func82 rfl rfl ?_
  repeat' first
    | intro _
    | exact rfl
    | (refine Dk.cdR (t := 83) rfl ?_ ?_)
    | (refine Dk.cdR (t := 112) rfl ?_ ?_)
    | (refine @id.{0} _ ?_; constructor)
    | apply Dk.loopA 0 (V := Value × Value) (A := Nat × Value × Value) (_, _, _) (fun a (s : Int × (List Int) × (List Int) × (List Int)) v => Dk.pc (fun a0 => Dk.pc (fun a1 a2 => [.row a0 [.int .i64 (x0), v.1, v.2, a1, a2] 27, .own (sOwn 2 (sInt .i64)) a1 s.2.2.2, .own (sOwn 2 (sInt .i64)) v.1 s.2.1, .own (sOwn 2 (sInt .i64)) v.2 s.2.2.1])) a) (fun a s v => Dk.pc (fun a0 => Dk.pc (fun a1 a2 => [(8, .pointer (some ⟨a0, 0, none⟩)), (9, .int .i64 (s.1))])) a) (_, _) [(6, _), (7, _)]
    | apply Dk.loopA 2 (V := Value) (A := Nat × Value × Value × Value) (_, _, _, _) (fun a (s : Int × (List (List Int))) v => Dk.pc (fun a0 => Dk.pc (fun a1 => Dk.pc (fun a2 a3 => [.row a0 [.int .i64 (x0), a1, a2, a3, v] 27, .own (sOwn 24 (sOwn 2 (sInt .i64))) v s.2]))) a) (fun a s v => Dk.pc (fun a0 => Dk.pc (fun a1 => Dk.pc (fun a2 a3 => [(8, .pointer (some ⟨a0, 0, none⟩)), (10, .int .i64 (s.1))]))) a) _ [(6, _), (7, _)]
    | apply Dk.loop 4 (V := Value) (fun (s : (List Int) × Int) v => [.own (sOwn 2 (sInt .i64)) v s.1]) (fun s v => [(11, v), (12, .int .i64 (s.2))]) _ [(6, _), (7, _), (8, _), (10, _)]
    | apply Dk.loop 6 (V := Unit) (fun (s : Int × Int) v => []) (fun s v => [(13, .int .i64 (s.1)), (15, .int .i64 (s.2))]) () [(6, _), (7, _), (8, _), (10, _), (11, _), (12, _), (14, _)]
    | apply Dk.quiet (id := 20) (by kernel_rfl)
    | apply Dk.quiet (id := 25) (by kernel_rfl)
    | apply Dk.any (id := 6) 8 [] [] [[], [0], [], [], [2, 3], [4, 2, 3], [5, 4, 2, 3], [6, 5, 4, 2, 3]] (by kernel_rfl)
    | apply Dk.any (id := 7) 8 [] [] [[], [0], [], [], [2, 3], [4, 2, 3], [5, 4, 2, 3], [6, 5, 4, 2, 3]] (by kernel_rfl)
    | apply Dk.any (id := 9) 8 [] [] [[], [0], [], [], [2, 3], [4, 2, 3], [5, 4, 2, 3], []] (by kernel_rfl)
    | apply Dk.any (id := 21) 11 [] [] [[], [], [0, 1], [2, 0, 1], [3, 2, 0, 1], [4, 3, 2, 0, 1], [], [], [6, 7], [8, 6, 7], [9, 8, 6, 7]] (by kernel_rfl)
    | apply c93
    | apply c55
    | apply c88
    | apply c94
    | exact ()
theorem c53 {x0 : MCategory} {v_x0_From : Value} {v_x0_To : Value} {v_x0_Identity : Value} {v_x0_Composites : Value} {x1 : MCategory} {v_x1_From : Value} {v_x1_To : Value} {v_x1_Identity : Value} {v_x1_Composites : Value} : Ct Tryz.prog 53 true (spec_l03Sum x0 x1) [.agg #[.int .i64 (x0.Objects), v_x0_From, v_x0_To, v_x0_Identity, v_x0_Composites], .agg #[.int .i64 (x1.Objects), v_x1_From, v_x1_To, v_x1_Identity, v_x1_Composites]] [.rd false (sImm (sInt .i64)) v_x0_From x0.From, .rd false (sImm (sInt .i64)) v_x0_To x0.To, .rd false (sImm (sInt .i64)) v_x0_Identity x0.Identity, .rd false (sImm (sImm (sInt .i64))) v_x0_Composites x0.Composites, .rd false (sImm (sInt .i64)) v_x1_From x1.From, .rd false (sImm (sInt .i64)) v_x1_To x1.To, .rd false (sImm (sInt .i64)) v_x1_Identity x1.Identity, .rd false (sImm (sImm (sInt .i64))) v_x1_Composites x1.Composites] (fun y (v : Value × Value × Value × Value) => [.agg #[.int .i64 y.Objects, v.1, v.2.1, v.2.2.1, v.2.2.2]]) (fun y v => [.own (sOwn 2 (sInt .i64)) v.1 y.From, .own (sOwn 2 (sInt .i64)) v.2.1 y.To, .own (sOwn 2 (sInt .i64)) v.2.2.1 y.Identity, .own (sOwn 24 (sOwn 2 (sInt .i64))) v.2.2.2 y.Composites]) := by
  refine ct (S := Unit) (owt fun _ _ => rfl) Tryz.func53 rfl rfl ?_
  repeat' first
    | intro _
    | exact rfl
    | apply Dk.apR (d := 69)
    | apply Dk.ixH (d := 70)
    | apply Dk.stR (e := 24) (t := 24)
    | (refine @id.{0} _ ?_; constructor)
    | apply Dk.loopA 0 (V := Value) (A := Nat × Value × Value × Value) (_, _, _, _) (fun a (s : Int × (List Int)) v => Dk.pc (fun a0 => Dk.pc (fun a1 => Dk.pc (fun a2 a3 => [.row a0 [.int .i64 (w64 (x0.Objects + x1.Objects)), a1, a2, v, a3] 27, .own (sOwn 2 (sInt .i64)) v s.2]))) a) (fun a s v => Dk.pc (fun a0 => Dk.pc (fun a1 => Dk.pc (fun a2 a3 => [(7, .pointer (some ⟨a0, 0, none⟩)), (8, .int .i64 (s.1))]))) a) _ [(3, _), (4, _), (5, _), (6, _)]
    | apply Dk.loopA 2 (V := Unit) (A := Value) _ (fun a (s : Int × (List (List Int))) v => [.own (sOwn 24 (sOwn 2 (sInt .i64))) a s.2]) (fun a s v => [(9, .int .i64 (s.1))]) () [(3, _), (4, _), (5, _), (6, _), (7, _)]
    | apply Dk.loopA 4 (V := Unit) (A := Value) _ (fun a (s : Int × (List (List Int))) v => [.own (sOwn 24 (sOwn 2 (sInt .i64))) a s.2]) (fun a s v => [(10, .int .i64 (s.1))]) () [(3, _), (4, _), (5, _), (6, _), (7, _), (9, _)]
    | apply Dk.loopA 6 (V := Value × Value × Value) (A := Nat × Value) (_, _) (fun a (s : Int × (List Int) × (List Int) × (List (List Int))) v => Dk.pc (fun a0 a1 => [.row a0 [.int .i64 (w64 (x0.Objects + x1.Objects)), v.1, v.2.1, a1, v.2.2] 27, .own (sOwn 2 (sInt .i64)) v.1 s.2.1, .own (sOwn 2 (sInt .i64)) v.2.1 s.2.2.1, .own (sOwn 24 (sOwn 2 (sInt .i64))) v.2.2 s.2.2.2]) a) (fun a s v => Dk.pc (fun a0 a1 => [(7, .pointer (some ⟨a0, 0, none⟩)), (11, .int .i64 (s.1))]) a) (_, _, _) [(3, _), (4, _), (5, _), (6, _)]
    | apply Dk.loop 8 (V := Value) (fun (s : (List Int) × Int) v => [.own (sOwn 2 (sInt .i64)) v s.1]) (fun s v => [(12, v), (13, .int .i64 (s.2))]) _ [(3, _), (4, _), (5, _), (6, _), (7, _), (11, _)]
    | apply Dk.loop 10 (V := Value) (fun (s : (List Int) × Int) v => [.own (sOwn 2 (sInt .i64)) v s.1]) (fun s v => [(12, v), (14, .int .i64 (s.2))]) _ [(3, _), (4, _), (5, _), (6, _), (7, _), (11, _)]
    | apply Dk.quiet (id := 1) (by kernel_rfl)
    | apply Dk.any (id := 7) 10 [] [] [[], [0], [], [2], [], [3, 2, 4], [5, 3, 2, 4], [], [6, 5, 3, 2, 4, 7], [8, 6, 5, 3, 2, 4, 7]] (by kernel_rfl)
    | apply Dk.anyH (id := 14) [Dk.Ent.own (sOwn 24 (sOwn 2 (sInt .i64))) _ _] 10 [] [[], [], [], [], [], [], [], [], [], [12]] [[], [0], [], [], [3], [], [4, 3, 5], [6, 4, 3, 5], [], [7, 6, 4, 3, 5, 8]] (by kernel_rfl)
    | apply Dk.any (id := 18) 10 [] [] [[], [0], [], [2], [], [3, 2, 4], [5, 3, 2, 4], [], [6, 5, 3, 2, 4, 7], [8, 6, 5, 3, 2, 4, 7]] (by kernel_rfl)
    | apply Dk.any (id := 19) 10 [] [] [[], [0], [], [2], [], [3, 2, 4], [5, 3, 2, 4], [], [6, 5, 3, 2, 4, 7], [8, 6, 5, 3, 2, 4, 7]] (by kernel_rfl)
    | apply c57
    | exact ()
theorem c87 {x0 : MCategory} {v_x0_From : Value} {v_x0_To : Value} {v_x0_Identity : Value} {v_x0_Composites : Value} {x1 : MCategory} {v_x1_From : Value} {v_x1_To : Value} {v_x1_Identity : Value} {v_x1_Composites : Value} : Ct Tryz.prog 87 true (spec_l03Join x0 x1) [.agg #[.int .i64 (x0.Objects), v_x0_From, v_x0_To, v_x0_Identity, v_x0_Composites], .agg #[.int .i64 (x1.Objects), v_x1_From, v_x1_To, v_x1_Identity, v_x1_Composites]] [.rd false (sImm (sInt .i64)) v_x0_From x0.From, .rd false (sImm (sInt .i64)) v_x0_To x0.To, .rd false (sImm (sInt .i64)) v_x0_Identity x0.Identity, .rd false (sImm (sImm (sInt .i64))) v_x0_Composites x0.Composites, .rd false (sImm (sInt .i64)) v_x1_From x1.From, .rd false (sImm (sInt .i64)) v_x1_To x1.To, .rd false (sImm (sInt .i64)) v_x1_Identity x1.Identity, .rd false (sImm (sImm (sInt .i64))) v_x1_Composites x1.Composites] (fun y (v : Value × Value × Value × Value) => match v with | (q0, q1, q2, q3) => [.agg #[.int .i64 y.Objects, q0, q1, q2, q3]]) (fun y v => match v with | (q0, q1, q2, q3) => [.own (sOwn 2 (sInt .i64)) q0 y.From, .own (sOwn 2 (sInt .i64)) q1 y.To, .own (sOwn 2 (sInt .i64)) q2 y.Identity, .own (sOwn 24 (sOwn 2 (sInt .i64))) q3 y.Composites]) := by
  refine ct (S := Unit) (owt fun _ _ => rfl) Tryz.func87 rfl rfl ?_
  repeat' first
    | intro _
    | exact rfl
    | (refine Dk.cdR (t := 60) rfl ?_ ?_)
    | (refine @id.{0} _ ?_; constructor)
    | apply Dk.loopA 0 (V := Value × Value) (A := Nat × Value × Value × Value) (_, _, _, _) (fun a (s : Int × (List Int) × (List Int)) v => Dk.pc (fun a0 => Dk.pc (fun a1 => Dk.pc (fun a2 a3 => [.row a0 [a1, v.1, v.2, a2, a3] 27, .own (sOwn 2 (sInt .i64)) v.1 s.2.1, .own (sOwn 2 (sInt .i64)) v.2 s.2.2]))) a) (fun a s v => Dk.pc (fun a0 => Dk.pc (fun a1 => Dk.pc (fun a2 a3 => [(5, .pointer (some ⟨a0, 0, none⟩)), (7, .int .i64 (s.1))]))) a) (_, _) [(2, _), (3, _), (4, _), (6, _)]
    | apply Dk.loopA 2 (V := Value × Value) (A := Nat × Value × Value × Value) (_, _, _, _) (fun a (s : Int × (List Int) × (List Int)) v => Dk.pc (fun a0 => Dk.pc (fun a1 => Dk.pc (fun a2 a3 => [.row a0 [a1, v.1, v.2, a2, a3] 27, .own (sOwn 2 (sInt .i64)) v.1 s.2.1, .own (sOwn 2 (sInt .i64)) v.2 s.2.2]))) a) (fun a s v => Dk.pc (fun a0 => Dk.pc (fun a1 => Dk.pc (fun a2 a3 => [(5, .pointer (some ⟨a0, 0, none⟩)), (8, .int .i64 (s.1))]))) a) (_, _) [(2, _), (3, _), (4, _), (6, _), (7, _)]
    | apply Dk.loop 4 (V := Value) (fun (s : (List (List Int)) × Int) v => [.own (sOwn 24 (sOwn 2 (sInt .i64))) v s.1]) (fun s v => [(9, v), (10, .int .i64 (s.2))]) _ [(2, _), (3, _), (4, _), (5, _), (6, _)]
    | apply Dk.loop 6 (V := Value) (fun (s : (List Int) × Int) v => [.own (sOwn 2 (sInt .i64)) v s.1]) (fun s v => [(11, v), (12, .int .i64 (s.2))]) _ [(2, _), (3, _), (4, _), (5, _), (6, _), (9, _), (10, _)]
    | apply Dk.quiet (id := 20) (by kernel_rfl)
    | apply Dk.quiet (id := 21) (by kernel_rfl)
    | apply c53
    | exact ()
theorem c52 {x0 : ML01Source} {b_x0 : Nat} {v_x0_Code : Value} : Ct Tryz.prog 52 true (spec_l02Family x0) [.pointer (some (⟨b_x0, 0, none⟩))] [.row b_x0 [v_x0_Code, .int .i64 (x0.At), .int .u64 (x0.Hash)] 68, .rd false (sImm (sInt .u8)) v_x0_Code x0.Code] (fun y (v : Value × Value × Value × Value) => [.agg #[.int .i64 y.1.Objects, v.1, v.2.1, v.2.2.1, v.2.2.2]]) (fun y v => [.own (sOwn 2 (sInt .i64)) v.1 y.1.From, .own (sOwn 2 (sInt .i64)) v.2.1 y.1.To, .own (sOwn 2 (sInt .i64)) v.2.2.1 y.1.Identity, .own (sOwn 24 (sOwn 2 (sInt .i64))) v.2.2.2 y.1.Composites, .row b_x0 [v_x0_Code, .int .i64 y.2.At, .int .u64 y.2.Hash] 68]) := by
  refine ct (S := Unit) (owt fun _ _ => rfl) Tryz.func52 rfl rfl ?_
  repeat' first
    | intro _
    | exact rfl
    | (refine Dk.cdR (t := 59) rfl ?_ ?_)
    | (refine @id.{0} _ ?_; constructor)
    | apply Dk.loop 1 (V := Value) (fun (s : (List (List Int)) × Int) v => [.own (sOwn 24 (sOwn 2 (sInt .i64))) v s.1]) (fun s v => [(4, v), (5, .int .i64 (s.2))]) _ [(2, _), (3, _)]
    | apply Dk.loop 3 (V := Value) (fun (s : (List Int) × Int) v => [.own (sOwn 2 (sInt .i64)) v s.1]) (fun s v => [(6, v), (7, .int .i64 (s.2))]) _ [(2, _), (3, _), (4, _), (5, _)]
    | apply Dk.loop 5 (V := Value × Value) (fun (s : (List Int) × (List Int) × Int × Int × Int) v => [.row b_x0 [v_x0_Code, .int .i64 (s.2.2.2.1), .int .u64 (s.2.2.2.2)] 68, .own (sOwn 2 (sInt .i64)) v.1 s.1, .own (sOwn 2 (sInt .i64)) v.2 s.2.1]) (fun s v => [(9, v.1), (10, v.2), (11, .int .i64 (s.2.2.1))]) (_, _) [(0, _), (2, _), (8, _)]
    | apply c14
    | apply c81
    | apply c56
    | apply c82
    | apply c84
    | apply c83
    | apply c85
    | apply c87
    | apply c86
    | exact ()
end Go.Proofs.YtbedkejmebepcaaGreat
