/- Walks by the calculus D. No condition beside those that each theorem names. -/
import Derived.Test.YtbedkejmebepcaaGreatDi
import Derived.Test.YtbedkejmebepcaaGreatMo
import Derived.Test.YtbedkejmebepcaaGreatDg
import Derived.Test.YtbedkejmebepcaaGreatDs
import Derived.Test.YtbedkejmebepcaaGreatSo
namespace Go.Proofs.YtbedkejmebepcaaGreat
open Go Go.Li Go.Dk
set_option linter.unusedVariables false
set_option maxHeartbeats 1000000
set_option maxRecDepth 100000
theorem c111 {x0 : (List Int)} {v_x0 : Value} {x1 : (List Int)} {v_x1 : Value} : Ct Tryz.prog 111 true (spec_l01Less x0 x1) [v_x0, v_x1] [.rd false (sImm (sInt .i64)) v_x0 x0, .rd false (sImm (sInt .i64)) v_x1 x1] (fun y (_ : Unit) => [.bool y]) (fun y _ => []) := by
  refine ct (S := Unit) (owt fun _ _ => rfl) Tryz.func111 rfl rfl ?_
  repeat' first
    | intro _
    | exact rfl
    | (refine @id.{0} _ ?_; constructor)
    | apply Dk.loop 0 (V := Unit) (fun (s : Int) v => []) (fun s v => [(5, .int .i64 (s))]) () [(0, _), (1, _)]
    | apply Dk.quiet (id := 4) (by kernel_rfl)
    | apply Dk.quiet (id := 5) (by kernel_rfl)
    | exact ()
theorem c54 {x0 : MCategory} {v_x0_From : Value} {v_x0_To : Value} {v_x0_Identity : Value} {v_x0_Composites : Value} {x1 : MCategory} {v_x1_From : Value} {v_x1_To : Value} {v_x1_Identity : Value} {v_x1_Composites : Value} : Ct Tryz.prog 54 true (spec_l03Product x0 x1) [.agg #[.int .i64 (x0.Objects), v_x0_From, v_x0_To, v_x0_Identity, v_x0_Composites], .agg #[.int .i64 (x1.Objects), v_x1_From, v_x1_To, v_x1_Identity, v_x1_Composites]] [.rd false (sImm (sInt .i64)) v_x0_From x0.From, .rd false (sImm (sInt .i64)) v_x0_To x0.To, .rd false (sImm (sInt .i64)) v_x0_Identity x0.Identity, .rd false (sImm (sImm (sInt .i64))) v_x0_Composites x0.Composites, .rd false (sImm (sInt .i64)) v_x1_From x1.From, .rd false (sImm (sInt .i64)) v_x1_To x1.To, .rd false (sImm (sInt .i64)) v_x1_Identity x1.Identity, .rd false (sImm (sImm (sInt .i64))) v_x1_Composites x1.Composites] (fun y (v : Value × Value × Value × Value) => [.agg #[.int .i64 y.Objects, v.1, v.2.1, v.2.2.1, v.2.2.2]]) (fun y v => [.own (sOwn 2 (sInt .i64)) v.1 y.From, .own (sOwn 2 (sInt .i64)) v.2.1 y.To, .own (sOwn 2 (sInt .i64)) v.2.2.1 y.Identity, .own (sOwn 24 (sOwn 2 (sInt .i64))) v.2.2.2 y.Composites]) := by
  refine ct (S := Unit) (owt fun _ _ => rfl) Tryz.func54 rfl rfl ?_
  repeat' first
    | intro _
    | exact rfl
    | (refine Dk.cdR (t := 114) rfl ?_ ?_)
    | (refine Dk.cdR (t := 121) rfl ?_ ?_)
    | (refine @id.{0} _ ?_; constructor)
    | apply Dk.loopA 0 (V := Value) (A := Nat × Value × Value × Value) (_, _, _, _) (fun a (s : Int × (List Int)) v => Dk.pc (fun a0 => Dk.pc (fun a1 => Dk.pc (fun a2 a3 => [.row a0 [.int .i64 (w64 (x0.Objects * x1.Objects)), a1, a2, v, a3] 27, .own (sOwn 2 (sInt .i64)) v s.2]))) a) (fun a s v => Dk.pc (fun a0 => Dk.pc (fun a1 => Dk.pc (fun a2 a3 => [(7, .pointer (some ⟨a0, 0, none⟩)), (8, .int .i64 (s.1))]))) a) _ [(2, _), (3, _), (4, _), (5, _), (6, _)]
    | apply Dk.loopA 2 (V := Value) (A := Nat × Value × Value × Value) (_, _, _, _) (fun a (s : Int × (List Int)) v => Dk.pc (fun a0 => Dk.pc (fun a1 => Dk.pc (fun a2 a3 => [.row a0 [.int .i64 (w64 (x0.Objects * x1.Objects)), a1, a2, v, a3] 27, .own (sOwn 2 (sInt .i64)) v s.2]))) a) (fun a s v => Dk.pc (fun a0 => Dk.pc (fun a1 => Dk.pc (fun a2 a3 => [(7, .pointer (some ⟨a0, 0, none⟩)), (9, .int .i64 (s.1))]))) a) _ [(2, _), (3, _), (4, _), (5, _), (6, _), (8, _)]
    | apply Dk.loopA 4 (V := Value × Value × Value) (A := Nat × Value) (_, _) (fun a (s : Int × (List Int) × (List Int) × (List (List Int))) v => Dk.pc (fun a0 a1 => [.row a0 [.int .i64 (w64 (x0.Objects * x1.Objects)), v.1, v.2.1, a1, v.2.2] 27, .own (sOwn 2 (sInt .i64)) v.1 s.2.1, .own (sOwn 2 (sInt .i64)) v.2.1 s.2.2.1, .own (sOwn 24 (sOwn 2 (sInt .i64))) v.2.2 s.2.2.2]) a) (fun a s v => Dk.pc (fun a0 a1 => [(7, .pointer (some ⟨a0, 0, none⟩)), (10, .int .i64 (s.1))]) a) (_, _, _) [(2, _), (3, _), (4, _), (5, _), (6, _)]
    | apply Dk.loopA 6 (V := Value × Value × Value) (A := Nat × Value) (_, _) (fun a (s : Int × (List Int) × (List Int) × (List (List Int))) v => Dk.pc (fun a0 a1 => [.row a0 [.int .i64 (w64 (x0.Objects * x1.Objects)), v.1, v.2.1, a1, v.2.2] 27, .own (sOwn 2 (sInt .i64)) v.1 s.2.1, .own (sOwn 2 (sInt .i64)) v.2.1 s.2.2.1, .own (sOwn 24 (sOwn 2 (sInt .i64))) v.2.2 s.2.2.2]) a) (fun a s v => Dk.pc (fun a0 a1 => [(7, .pointer (some ⟨a0, 0, none⟩)), (11, .int .i64 (s.1))]) a) (_, _, _) [(2, _), (3, _), (4, _), (5, _), (6, _), (10, _)]
    | apply Dk.loop 8 (V := Value) (fun (s : (List Int) × Int) v => [.own (sOwn 2 (sInt .i64)) v s.1]) (fun s v => [(12, v), (13, .int .i64 (s.2))]) _ [(2, _), (3, _), (4, _), (5, _), (6, _), (7, _), (10, _), (11, _)]
    | apply Dk.loop 10 (V := Value) (fun (s : (List Int) × Int) v => [.own (sOwn 2 (sInt .i64)) v s.1]) (fun s v => [(12, v), (14, .int .i64 (s.2))]) _ [(2, _), (3, _), (4, _), (5, _), (6, _), (7, _), (10, _), (11, _), (13, _)]
    | apply Dk.quiet (id := 1) (by kernel_rfl)
    | apply Dk.quiet (id := 27) (by kernel_rfl)
    | apply Dk.any (id := 9) 16 [] [] [[], [0], [], [2], [], [3, 2, 4], [5, 3, 2, 4], [], [6, 5, 3, 2, 4, 7], [], [9], [], [10, 9, 11], [12, 10, 9, 11], [8, 6, 5, 3, 2, 4, 7, 13, 12, 10, 9, 11], [14, 8, 6, 5, 3, 2, 4, 7, 13, 12, 10, 9, 11]] (by kernel_rfl)
    | apply Dk.any (id := 16) 16 [] [] [[], [0], [], [2], [], [3, 2, 4], [5, 3, 2, 4], [], [6, 5, 3, 2, 4, 7], [], [9], [], [10, 9, 11], [12, 10, 9, 11], [8, 6, 5, 3, 2, 4, 7, 13, 12, 10, 9, 11], [14, 8, 6, 5, 3, 2, 4, 7, 13, 12, 10, 9, 11]] (by kernel_rfl)
    | apply Dk.any (id := 17) 16 [] [] [[], [0], [], [2], [], [3, 2, 4], [5, 3, 2, 4], [], [6, 5, 3, 2, 4, 7], [], [9], [], [10, 9, 11], [12, 10, 9, 11], [8, 6, 5, 3, 2, 4, 7, 13, 12, 10, 9, 11], [14, 8, 6, 5, 3, 2, 4, 7, 13, 12, 10, 9, 11]] (by kernel_rfl)
    | exact ()
theorem c59 {x0 : Int} {x1 : Int} {x2 : Int} : Ct Tryz.prog 59 true (impl_inRange x0 x1 x2) [.int .i64 (x0), .int .i64 (x1), .int .i64 (x2)] [] (fun y (_ : Unit) => [.bool y]) (fun y _ => []) := by
  refine ct (S := Unit) (owt fun _ _ => rfl) Tryz.func59 rfl rfl ?_
  repeat' first
    | intro _
    | exact rfl
    | (refine @id.{0} _ ?_; constructor)
    | exact ()
theorem c34 {x0 : MCategory} {p_x0 : Addr} {v_x0_From : Value} {v_x0_To : Value} {v_x0_Identity : Value} {v_x0_Composites : Value} {x1 : Int} : Ct Tryz.prog 34 true (impl_Category_outOf x0 x1) [.pointer (some (p_x0)), .int .i64 (x1)] [.ats p_x0 [.int .i64 (x0.Objects), v_x0_From, v_x0_To, v_x0_Identity, v_x0_Composites], .rd false (sImm (sInt .i64)) v_x0_From x0.From, .rd false (sImm (sInt .i64)) v_x0_To x0.To, .rd false (sImm (sInt .i64)) v_x0_Identity x0.Identity, .rd false (sImm (sImm (sInt .i64))) v_x0_Composites x0.Composites] (fun y (v : Value) => [v]) (fun y v => [.own (sOwn 2 (sInt .i64)) v y]) := by
  refine ct (S := Unit) (owt fun _ _ => rfl) Tryz.func34 rfl rfl ?_
  repeat' first
    | intro _
    | exact rfl
    | (refine @id.{0} _ ?_; constructor)
    | apply Dk.loop 0 (V := Value) (fun (s : (List Int) × Int) v => [.own (sOwn 2 (sInt .i64)) v s.1]) (fun s v => [(5, v), (14, .int .i64 (s.2))]) _ [(1, _), (12, _), (13, _)]
    | exact ()
theorem c75 {x0 : (List Int)} {v_x0 : Value} {x1 : Int} : Ct Tryz.prog 75 true (impl_has x0 x1) [v_x0, .int .i64 (x1)] [.rd false (sImm (sInt .i64)) v_x0 x0] (fun y (_ : Unit) => [.bool y]) (fun y _ => []) := by
  refine ct (S := Unit) (owt fun _ _ => rfl) Tryz.func75 rfl rfl ?_
  repeat' first
    | intro _
    | exact rfl
    | (refine @id.{0} _ ?_; constructor)
    | apply Dk.loop 0 (V := Unit) (fun (s : Int) v => []) (fun s v => [(9, .int .i64 (s))]) () [(1, _), (7, _), (8, _)]
    | exact ()
theorem c39 {x0 : MCategory} {v_x0_From : Value} {v_x0_To : Value} {v_x0_Identity : Value} {v_x0_Composites : Value} {x1 : Int} {x2 : Int} : Ct Tryz.prog 39 true (spec_l02Then x0 x1 x2) [.agg #[.int .i64 (x0.Objects), v_x0_From, v_x0_To, v_x0_Identity, v_x0_Composites], .int .i64 (x1), .int .i64 (x2)] [.rd false (sImm (sInt .i64)) v_x0_From x0.From, .rd false (sImm (sInt .i64)) v_x0_To x0.To, .rd false (sImm (sInt .i64)) v_x0_Identity x0.Identity, .rd false (sImm (sImm (sInt .i64))) v_x0_Composites x0.Composites] (fun y (_ : Unit) => [.int .i64 y]) (fun y _ => []) := by
  refine ct (S := Unit) (owt fun _ _ => rfl) Tryz.func39 rfl rfl ?_
  repeat' first
    | intro _
    | exact rfl
    | (refine @id.{0} _ ?_; constructor)
    | exact ()
end Go.Proofs.YtbedkejmebepcaaGreat
