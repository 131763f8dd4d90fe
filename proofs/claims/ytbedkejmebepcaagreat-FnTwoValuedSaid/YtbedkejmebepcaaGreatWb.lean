/- Walks by the calculus D. No condition beside those that each theorem names. -/
import Derived.Test.YtbedkejmebepcaaGreatDi
import Derived.Test.YtbedkejmebepcaaGreatMo
import Derived.Test.YtbedkejmebepcaaGreatDg
import Derived.Test.YtbedkejmebepcaaGreatDs
import Derived.Test.YtbedkejmebepcaaGreatSo
namespace Go.Proofs.YtbedkejmebepcaaGreat
open Go Go.Li Go.Dk
set_option linter.unusedVariables false
set_option maxHeartbeats 1000000
set_option maxRecDepth 100000
theorem c56 {x0 : (List (List Int))} {v_x0 : Value} : Ct Tryz.prog 56 true (spec_l03Poset x0) [v_x0] [.rd false (sImm (sImm (sInt .i64))) v_x0 x0] (fun y (v : Value × Value × Value × Value) => [.agg #[.int .i64 y.Objects, v.1, v.2.1, v.2.2.1, v.2.2.2]]) (fun y v => [.own (sOwn 2 (sInt .i64)) v.1 y.From, .own (sOwn 2 (sInt .i64)) v.2.1 y.To, .own (sOwn 2 (sInt .i64)) v.2.2.1 y.Identity, .own (sOwn 24 (sOwn 2 (sInt .i64))) v.2.2.2 y.Composites]) := by
  refine ct (S := Unit) (owt fun _ _ => rfl) Tryz.func56 rfl rfl ?_
  repeat' first
    | intro _
    | exact rfl
    | (refine Dk.cdR (t := 31) rfl ?_ ?_)
    | (refine Dk.cdR (t := 93) rfl ?_ ?_)
    | (refine @id.{0} _ ?_; constructor)
    | apply Dk.loopA 0 (V := Value × Value × Value) (A := Nat × Value × Value) (_, _, _) (fun a (s : (List (List Int)) × Int × (List Int) × (List Int)) v => Dk.pc (fun a0 => Dk.pc (fun a1 a2 => [.row a0 [.int .i64 ((x0.length : Int)), v.2.1, v.2.2, a1, a2] 27, .own (sOwn 24 (sOwn 2 (sInt .i64))) v.1 s.1, .own (sOwn 2 (sInt .i64)) v.2.1 s.2.2.1, .own (sOwn 2 (sInt .i64)) v.2.2 s.2.2.2])) a) (fun a s v => Dk.pc (fun a0 => Dk.pc (fun a1 a2 => [(4, v.1), (5, .pointer (some ⟨a0, 0, none⟩)), (6, .int .i64 (s.2.1))])) a) (_, _, _) [(0, _), (2, _), (3, _)]
    | apply Dk.loopA 2 (V := Value × Value × Value) (A := Nat × Value × Value) (_, _, _) (fun a (s : (List Int) × Int × (List Int) × (List Int)) v => Dk.pc (fun a0 => Dk.pc (fun a1 a2 => [.row a0 [.int .i64 ((x0.length : Int)), v.2.1, v.2.2, a1, a2] 27, .own (sOwn 2 (sInt .i64)) v.1 s.1, .own (sOwn 2 (sInt .i64)) v.2.1 s.2.2.1, .own (sOwn 2 (sInt .i64)) v.2.2 s.2.2.2])) a) (fun a s v => Dk.pc (fun a0 => Dk.pc (fun a1 a2 => [(5, .pointer (some ⟨a0, 0, none⟩)), (7, v.1), (8, .int .i64 (s.2.1))])) a) (_, _, _) [(0, _), (2, _), (3, _), (4, _), (6, _)]
    | apply Dk.loopA 4 (V := Value) (A := Nat × Value × Value × Value) (_, _, _, _) (fun a (s : Int × (List Int)) v => Dk.pc (fun a0 => Dk.pc (fun a1 => Dk.pc (fun a2 a3 => [.row a0 [.int .i64 ((x0.length : Int)), a1, a2, v, a3] 27, .own (sOwn 2 (sInt .i64)) v s.2]))) a) (fun a s v => Dk.pc (fun a0 => Dk.pc (fun a1 => Dk.pc (fun a2 a3 => [(5, .pointer (some ⟨a0, 0, none⟩)), (9, .int .i64 (s.1))]))) a) _ [(2, _), (3, _), (4, _)]
    | apply Dk.loopA 6 (V := Value) (A := Nat × Value × Value × Value) (_, _, _, _) (fun a (s : Int × (List (List Int))) v => Dk.pc (fun a0 => Dk.pc (fun a1 => Dk.pc (fun a2 a3 => [.row a0 [.int .i64 ((x0.length : Int)), a1, a2, a3, v] 27, .own (sOwn 24 (sOwn 2 (sInt .i64))) v s.2]))) a) (fun a s v => Dk.pc (fun a0 => Dk.pc (fun a1 => Dk.pc (fun a2 a3 => [(5, .pointer (some ⟨a0, 0, none⟩)), (10, .int .i64 (s.1))]))) a) _ [(2, _), (4, _)]
    | apply Dk.loop 8 (V := Value) (fun (s : (List Int) × Int) v => [.own (sOwn 2 (sInt .i64)) v s.1]) (fun s v => [(11, v), (12, .int .i64 (s.2))]) _ [(2, _), (4, _), (5, _), (10, _)]
    | apply Dk.quiet (id := 28) (by kernel_rfl)
    | apply Dk.quiet (id := 29) (by kernel_rfl)
    | apply Dk.any (id := 19) 10 [] [] [[], [0], [], [], [2, 3], [4, 2, 3], [], [5, 4, 2, 3, 6], [7, 5, 4, 2, 3, 6], [8, 7, 5, 4, 2, 3, 6]] (by kernel_rfl)
    | exact ()
theorem c94 {x0 : (List Int)} {v_x0 : Value} {x1 : (List Int)} {v_x1 : Value} : Ct Tryz.prog 94 true (spec_l01Same x0 x1) [v_x0, v_x1] [.rd false (sImm (sInt .i64)) v_x0 x0, .rd false (sImm (sInt .i64)) v_x1 x1] (fun y (_ : Unit) => [.bool y]) (fun y _ => []) := by
  refine ct (S := Unit) (owt fun _ _ => rfl) Tryz.func94 rfl rfl ?_
  repeat' first
    | intro _
    | exact rfl
    | (refine @id.{0} _ ?_; constructor)
    | apply Dk.loop 0 (V := Unit) (fun (s : Int) v => []) (fun s v => [(5, .int .i64 (s))]) () [(0, _), (1, _)]
    | apply Dk.quiet (id := 6) (by kernel_rfl)
    | exact ()
theorem c33 {x0 : MCategory} {p_x0 : Addr} {v_x0_From : Value} {v_x0_To : Value} {v_x0_Identity : Value} {v_x0_Composites : Value} : Ct Tryz.prog 33 true (impl_Category_arrows x0) [.pointer (some (p_x0))] [.ats p_x0 [.int .i64 (x0.Objects), v_x0_From, v_x0_To, v_x0_Identity, v_x0_Composites], .rd false (sImm (sInt .i64)) v_x0_From x0.From, .rd false (sImm (sInt .i64)) v_x0_To x0.To, .rd false (sImm (sInt .i64)) v_x0_Identity x0.Identity, .rd false (sImm (sImm (sInt .i64))) v_x0_Composites x0.Composites] (fun y (_ : Unit) => [.int .i64 y]) (fun y _ => []) := by
  refine ct (S := Unit) (owt fun _ _ => rfl) Tryz.func33 rfl rfl ?_
  repeat' first
    | intro _
    | exact rfl
    | (refine @id.{0} _ ?_; constructor)
    | exact ()
theorem c62 {x0 : Int} {x1 : Int} {x2 : Int} : Ct Tryz.prog 62 true (spec_l01In x0 x1 x2) [.int .i64 (x0), .int .i64 (x1), .int .i64 (x2)] [] (fun y (_ : Unit) => [.bool y]) (fun y _ => []) := by
  refine ct (S := Unit) (owt fun _ _ => rfl) Tryz.func62 rfl rfl ?_
  repeat' first
    | intro _
    | exact rfl
    | (refine @id.{0} _ ?_; constructor)
    | exact ()
theorem c64 {x0 : Int} {x1 : (List Int)} {v_x1 : Value} : Ct Tryz.prog 64 true (spec_l01Map x0 x1) [.int .i64 (x0), v_x1] [.rd false (sImm (sInt .i64)) v_x1 x1] (fun y (_ : Unit) => [.bool y]) (fun y _ => []) := by
  refine ct (S := Unit) (owt fun _ _ => rfl) Tryz.func64 rfl rfl ?_
  repeat' first
    | intro _
    | exact rfl
    | (refine @id.{0} _ ?_; constructor)
    | apply Dk.loop 0 (V := Unit) (fun (s : Int) v => []) (fun s v => [(5, .int .i64 (s))]) () [(0, _), (1, _)]
    | exact ()
theorem c21 {x0 : MCategory} {v_x0_From : Value} {v_x0_To : Value} {v_x0_Identity : Value} {v_x0_Composites : Value} {x1 : Int} : Ct Tryz.prog 21 true (spec_l25Out x0 x1) [.agg #[.int .i64 (x0.Objects), v_x0_From, v_x0_To, v_x0_Identity, v_x0_Composites], .int .i64 (x1)] [.rd false (sImm (sInt .i64)) v_x0_From x0.From, .rd false (sImm (sInt .i64)) v_x0_To x0.To, .rd false (sImm (sInt .i64)) v_x0_Identity x0.Identity, .rd false (sImm (sImm (sInt .i64))) v_x0_Composites x0.Composites] (fun y (v : Value) => [v]) (fun y v => [.own (sOwn 2 (sInt .i64)) v y]) := by
  refine ct (S := Unit) (owt fun _ _ => rfl) Tryz.func21 rfl rfl ?_
  repeat' first
    | intro _
    | exact rfl
    | (refine @id.{0} _ ?_; constructor)
    | apply Dk.loop 0 (V := Value) (fun (s : (List Int) × Int) v => [.own (sOwn 2 (sInt .i64)) v s.1]) (fun s v => [(5, v), (6, .int .i64 (s.2))]) _ [(1, _), (2, _)]
    | exact ()
theorem c40 {x0 : MCategory} {p_x0 : Addr} {v_x0_From : Value} {v_x0_To : Value} {v_x0_Identity : Value} {v_x0_Composites : Value} {x1 : Int} {x2 : Int} : Ct Tryz.prog 40 true (impl_Category_hom x0 x1 x2) [.pointer (some (p_x0)), .int .i64 (x1), .int .i64 (x2)] [.ats p_x0 [.int .i64 (x0.Objects), v_x0_From, v_x0_To, v_x0_Identity, v_x0_Composites], .rd false (sImm (sInt .i64)) v_x0_From x0.From, .rd false (sImm (sInt .i64)) v_x0_To x0.To, .rd false (sImm (sInt .i64)) v_x0_Identity x0.Identity, .rd false (sImm (sImm (sInt .i64))) v_x0_Composites x0.Composites] (fun y (v : Value) => [v]) (fun y v => [.own (sOwn 2 (sInt .i64)) v y]) := by
  refine ct (S := Unit) (owt fun _ _ => rfl) Tryz.func40 rfl rfl ?_
  repeat' first
    | intro _
    | exact rfl
    | (refine @id.{0} _ ?_; constructor)
    | apply Dk.loop 0 (V := Value) (fun (s : (List Int) × Int) v => [.own (sOwn 2 (sInt .i64)) v s.1]) (fun s v => [(7, v), (15, .int .i64 (s.2))]) _ [(0, _), (1, _), (2, _), (14, _)]
    | exact ()
end Go.Proofs.YtbedkejmebepcaaGreat
