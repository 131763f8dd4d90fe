/- Walks by the calculus D. No condition beside those that each theorem names. -/
import Derived.Test.YtbedkejmebepcaaGreatDi
import Derived.Test.YtbedkejmebepcaaGreatMo
import Derived.Test.YtbedkejmebepcaaGreatDg
import Derived.Test.YtbedkejmebepcaaGreatDs
import Derived.Test.YtbedkejmebepcaaGreatSo
namespace Go.Proofs.YtbedkejmebepcaaGreat
open Go Go.Li Go.Dk
set_option linter.unusedVariables false
set_option maxHeartbeats 1000000
set_option maxRecDepth 100000
theorem c13 {x0 : (List Int)} {v_x0 : Value} : Ct Tryz.prog 13 true (spec_l01From x0) [v_x0] [.rd false (sImm (sInt .u8)) v_x0 x0] (fun y (v : Nat) => [(match y with | none => Value.pointer none | some _ => .pointer (some (⟨v, 0, none⟩)))]) (fun y v => match y with | none => [] | some m0 => [.row v [v_x0, .int .i64 (m0.At), .int .u64 (m0.Hash)] 68]) := by
  refine ct (S := Unit) (by intro _ y v; obtain _ | _ := y <;> rfl) Tryz.func13 rfl rfl ?_
  repeat' first
    | intro _
    | exact rfl
    | apply Dk.D.ari (d := 9)
    | apply Dk.AD.ari (d := 9)
    | apply Dk.D.ari (d := 27)
    | apply Dk.AD.ari (d := 27)
    | apply Dk.D.ari (d := 33)
    | apply Dk.AD.ari (d := 33)
    | apply Dk.D.ari (d := 34)
    | apply Dk.AD.ari (d := 34)
    | (refine @id.{0} _ ?_; constructor)
    | apply Dk.loopA 0 (V := Unit) (A := Nat) _ (fun a (s : Int × Int) v => [.row a [v_x0, .int .i64 ((0 : Int)), .int .u64 (s.2)] 68]) (fun a s v => [(3, .pointer (some ⟨a, 0, none⟩)), (4, .int .i64 (s.1))]) () [(0, _)]
    | apply Dk.any (id := 5) 11 [0] [] [[], [], [1], [2, 1], [3, 2, 1], [4, 3, 2, 1], [], [], [6, 7], [8, 6, 7], [9, 8, 6, 7]] (by kernel_rfl)
    | exact ()
  all_goals try first | exact Value.nilFunc | exact (0 : Nat)
theorem c14 {x0 : ML01Source} {b_x0 : Nat} {v_x0_Code : Value} {x1 : Int} : Ct Tryz.prog 14 true (spec_l01Next x0 x1) [.pointer (some (⟨b_x0, 0, none⟩)), .int .i64 (x1)] [.row b_x0 [v_x0_Code, .int .i64 (x0.At), .int .u64 (x0.Hash)] 68, .rd false (sImm (sInt .u8)) v_x0_Code x0.Code] (fun y (_ : Unit) => [.int .i64 y.1]) (fun y _ => [.row b_x0 [v_x0_Code, .int .i64 y.2.At, .int .u64 y.2.Hash] 68]) := by
  refine ct (S := Unit) (owt fun _ _ => rfl) Tryz.func14 rfl rfl ?_
  repeat' first
    | intro _
    | exact rfl
    | apply Dk.D.ari (d := 13)
    | apply Dk.AD.ari (d := 13)
    | apply Dk.D.ari (d := 14)
    | apply Dk.AD.ari (d := 14)
    | apply Dk.D.ari (d := 21)
    | apply Dk.AD.ari (d := 21)
    | apply Dk.D.ari (d := 22)
    | apply Dk.AD.ari (d := 22)
    | apply Dk.D.ari (d := 57)
    | apply Dk.AD.ari (d := 57)
    | (refine @id.{0} _ ?_; constructor)
    | apply Dk.quiet (id := 5) (by kernel_rfl)
    | apply Dk.quiet (id := 6) (by kernel_rfl)
    | exact ()
theorem c35 {x0 : MCategory} {p_x0 : Addr} {v_x0_From : Value} {v_x0_To : Value} {v_x0_Identity : Value} {v_x0_Composites : Value} {x1 : Int} {x2 : Int} : Ct Tryz.prog 35 true (impl_Category_then x0 x1 x2) [.pointer (some (p_x0)), .int .i64 (x1), .int .i64 (x2)] [.ats p_x0 [.int .i64 (x0.Objects), v_x0_From, v_x0_To, v_x0_Identity, v_x0_Composites], .rd false (sImm (sInt .i64)) v_x0_From x0.From, .rd false (sImm (sInt .i64)) v_x0_To x0.To, .rd false (sImm (sInt .i64)) v_x0_Identity x0.Identity, .rd false (sImm (sImm (sInt .i64))) v_x0_Composites x0.Composites] (fun y (_ : Unit) => [.int .i64 y]) (fun y _ => []) := by
  refine ct (S := Unit) (owt fun _ _ => rfl) Tryz.func35 rfl rfl ?_
  repeat' first
    | intro _
    | exact rfl
    | (refine @id.{0} _ ?_; constructor)
    | exact ()
theorem c65 {x0 : (List Int)} {v_x0 : Value} : Ct Tryz.prog 65 true (impl_clone x0) [v_x0] [.rd false (sImm (sInt .i64)) v_x0 x0] (fun y (v : Value) => [v]) (fun y v => [.own (sOwn 2 (sInt .i64)) v y]) := by
  refine ct (S := Unit) (owt fun _ _ => rfl) Tryz.func65 rfl rfl ?_
  repeat' first
    | intro _
    | exact rfl
    | (refine @id.{0} _ ?_; constructor)
    | exact ()
theorem c72 {x0 : (List Int)} {v_x0 : Value} {x1 : (List Int)} {v_x1 : Value} : Ct Tryz.prog 72 true (impl_compare x0 x1) [v_x0, v_x1] [.rd false (sImm (sInt .i64)) v_x0 x0, .rd false (sImm (sInt .i64)) v_x1 x1] (fun y (_ : Unit) => [.int .i64 y]) (fun y _ => []) := by
  refine ct (S := Unit) (owt fun _ _ => rfl) Tryz.func72 rfl rfl ?_
  repeat' first
    | intro _
    | exact rfl
    | (refine @id.{0} _ ?_; constructor)
    | apply Dk.loop 0 (V := Unit) (fun (s : Int) v => []) (fun s v => [(8, .int .i64 (s))]) () [(0, _), (1, _), (7, _)]
    | apply Dk.quiet (id := 6) (by kernel_rfl)
    | apply Dk.quiet (id := 7) (by kernel_rfl)
    | exact ()
theorem c77 {x0 : MSetFunctor} {p_x0 : Addr} {v_x0_Shape_From : Value} {v_x0_Shape_To : Value} {v_x0_Shape_Identity : Value} {v_x0_Shape_Composites : Value} {v_x0_Sizes : Value} {v_x0_Actions : Value} : Ct Tryz.prog 77 true (impl_SetFunctor_fault x0) [.pointer (some (p_x0))] [.ats p_x0 [.int .i64 (x0.Shape.Objects), v_x0_Shape_From, v_x0_Shape_To, v_x0_Shape_Identity, v_x0_Shape_Composites, v_x0_Sizes, v_x0_Actions], .rd false (sImm (sInt .i64)) v_x0_Shape_From x0.Shape.From, .rd false (sImm (sInt .i64)) v_x0_Shape_To x0.Shape.To, .rd false (sImm (sInt .i64)) v_x0_Shape_Identity x0.Shape.Identity, .rd false (sImm (sImm (sInt .i64))) v_x0_Shape_Composites x0.Shape.Composites, .rd false (sImm (sInt .i64)) v_x0_Sizes x0.Sizes, .rd false (sImm (sImm (sInt .i64))) v_x0_Actions x0.Actions] (fun y (_ : Unit) => [.int .i64 y.1, .int .i64 y.2.1, .int .i64 y.2.2.1, .int .i64 y.2.2.2]) (fun y _ => []) := by
  refine ct (S := Unit) (owt fun _ _ => rfl) Tryz.func77 rfl rfl ?_
  repeat' first
    | intro _
    | exact rfl
    | (refine @id.{0} _ ?_; constructor)
    | apply Dk.loop 0 (V := Unit) (fun (s : Int) v => []) (fun s v => [(25, .int .i64 (s))]) () [(0, _), (6, _), (23, _), (24, _)]
    | apply Dk.loop 2 (V := Unit) (fun (s : Int) v => []) (fun s v => [(38, .int .i64 (s))]) () [(0, _), (6, _), (7, _), (23, _), (24, _), (25, _), (36, _), (37, _)]
    | apply Dk.loop 4 (V := Unit) (fun (s : Int) v => []) (fun s v => [(55, .int .i64 (s))]) () [(0, _), (53, _), (54, _)]
    | apply Dk.loop 6 (V := Unit) (fun (s : Int) v => []) (fun s v => [(62, .int .i64 (s))]) () [(0, _), (11, _), (53, _), (54, _), (55, _), (60, _), (61, _)]
    | apply Dk.loop 8 (V := Unit) (fun (s : Int) v => []) (fun s v => [(77, .int .i64 (s))]) () [(0, _), (11, _), (13, _), (14, _), (53, _), (54, _), (55, _), (60, _), (61, _), (62, _), (75, _), (76, _)]
    | apply Dk.quiet (id := 22) (by kernel_rfl)
    | exact ()
theorem c78 {x0 : (List Int)} {v_x0 : Value} : Ct Tryz.prog 78 true (impl_rising x0) [v_x0] [.rd false (sImm (sInt .i64)) v_x0 x0] (fun y (_ : Unit) => [.bool y]) (fun y _ => []) := by
  refine ct (S := Unit) (owt fun _ _ => rfl) Tryz.func78 rfl rfl ?_
  repeat' first
    | intro _
    | exact rfl
    | (refine @id.{0} _ ?_; constructor)
    | apply Dk.loop 0 (V := Unit) (fun (s : Int) v => []) (fun s v => [(3, .int .i64 (s))]) () [(0, _)]
    | apply Dk.quiet (id := 4) (by kernel_rfl)
    | exact ()
theorem c80 {x0 : Int} {x1 : Int} : Ct Tryz.prog 80 true (impl_SetFunctor_none_1 x0 x1) [.int .i64 (x0), .int .i64 (x1)] [] (fun y (_ : Unit) => [.bool y]) (fun y _ => []) := by
  refine ct (S := Unit) (owt fun _ _ => rfl) Tryz.func80 rfl rfl ?_
  repeat' first
    | intro _
    | exact rfl
    | (refine @id.{0} _ ?_; constructor)
    | exact ()
end Go.Proofs.YtbedkejmebepcaaGreat
