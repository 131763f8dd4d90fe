/- Walks by the calculus D. No condition beside those that each theorem names. -/
import Derived.Test.YtbedkejmebepcaaGreatDi
import Derived.Test.YtbedkejmebepcaaGreatMo
import Derived.Test.YtbedkejmebepcaaGreatDg
import Derived.Test.YtbedkejmebepcaaGreatDs
import Derived.Test.YtbedkejmebepcaaGreatSo
import Derived.Test.YtbedkejmebepcaaGreatWa
import Derived.Test.YtbedkejmebepcaaGreatWc
import Derived.Test.YtbedkejmebepcaaGreatWf
import Derived.Test.YtbedkejmebepcaaGreatWg
import Derived.Test.YtbedkejmebepcaaGreatWh
namespace Go.Proofs.YtbedkejmebepcaaGreat
open Go Go.Li Go.Dk
set_option linter.unusedVariables false
set_option maxHeartbeats 1000000
set_option maxRecDepth 100000
theorem c30 {x0 : ML01Source} {b_x0 : Nat} {v_x0_Code : Value} {x1 : MCategory} {v_x1_From : Value} {v_x1_To : Value} {v_x1_Identity : Value} {v_x1_Composites : Value} : Ct Tryz.prog 30 false (spec_l02Bend x0 x1) [.pointer (some (⟨b_x0, 0, none⟩)), .agg #[.int .i64 (x1.Objects), v_x1_From, v_x1_To, v_x1_Identity, v_x1_Composites]] [.row b_x0 [v_x0_Code, .int .i64 (x0.At), .int .u64 (x0.Hash)] 68, .rd false (sImm (sInt .u8)) v_x0_Code x0.Code, .rd false (sImm (sInt .i64)) v_x1_From x1.From, .rd false (sImm (sInt .i64)) v_x1_To x1.To, .rd false (sImm (sInt .i64)) v_x1_Identity x1.Identity, .rd false (sImm (sImm (sInt .i64))) v_x1_Composites x1.Composites] (fun y (v : Value × Value × Value × Value) => [.agg #[.int .i64 y.1.Objects, v.1, v.2.1, v.2.2.1, v.2.2.2]]) (fun y v => [.rd false (sImm (sInt .i64)) v.1 y.1.From, .rd false (sImm (sInt .i64)) v.2.1 y.1.To, .rd false (sImm (sInt .i64)) v.2.2.1 y.1.Identity, .rd false (sImm (sImm (sInt .i64))) v.2.2.2 y.1.Composites, .row b_x0 [v_x0_Code, .int .i64 y.2.At, .int .u64 y.2.Hash] 68]) := by
  refine ct (S := Unit) owf Tryz.func30 rfl rfl ?_
  repeat' first
    | intro _
    | exact rfl
    | (refine Dk.cdR (t := 58) rfl ?_ ?_)
    | apply Dk.slT (t := 24)
    | apply Dk.stN
    | (refine @id.{0} _ ?_; constructor)
    | apply Dk.anyH (id := 13) [Dk.Ent.row _ _ 68] 6 [] [[], [], [], [], [], [8]] [[], [0], [], [], [3], [2, 4, 3]] (by kernel_rfl)
    | apply Dk.anyH (id := 18) [Dk.Ent.row _ _ 68] 13 [] [[], [], [], [], [], [], [], [15], [], [], [], [7], []] [[], [0], [], [1, 0, 2], [3, 1, 0, 2], [], [], [5, 6], [], [], [9], [8, 10, 9, 7, 5, 6], [11, 8, 10, 9, 5, 6]] (by kernel_rfl)
    | apply Dk.anyH (id := 21) [Dk.Ent.row _ _ 68] 8 [] [[], [], [], [], [], [], [], [10]] [[], [0], [], [], [], [4], [5, 4], [3, 6, 5, 4]] (by kernel_rfl)
    | apply Dk.tailF (id := 6) 9 (e := 24) (e2 := 2) (T := (sInt .i64)) (by kernel_rfl)
    | apply c57
    | apply c14
    | apply c58
    | exact ()
theorem c73_k68 {x0 : (List (List Int))} {v_x0 : Value} {q_x1 : (List Int)} {q_p_x1 : Addr} {q_v_x1 : Value} : Ct Tryz.prog 73 true (slices_IndexFunc___impl_sieve_impl_sieve_ x0 (fun a0 => impl_Category_sieves_1 a0 q_x1)) [v_x0, .func (.func 68) #[] #[.pointer (some (q_p_x1))]] [.rd false (sImm (sImm (sInt .i64))) v_x0 x0, .ats q_p_x1 [q_v_x1], .rd false (sImm (sInt .i64)) q_v_x1 q_x1] (fun y (_ : Unit) => [.int .i64 y]) (fun y _ => []) := by
  refine ct (S := Unit) (owt fun _ _ => rfl) Tryz.func73 rfl rfl ?_
  repeat' first
    | intro _
    | exact rfl
    | (refine @id.{0} _ ?_; constructor)
    | apply Dk.loop 0 (V := Unit) (fun (s : Int) v => []) (fun s v => [(8, .int .i64 (s))]) () [(0, _), (1, _), (7, _)]
    | apply c68
    | exact ()
theorem c67_k68 {x0 : (List (List Int))} {v_x0 : Value} {q_x1 : (List Int)} {q_p_x1 : Addr} {q_v_x1 : Value} : Ct Tryz.prog 67 true (slices_ContainsFunc___impl_sieve_impl_sieve_ x0 (fun a0 => impl_Category_sieves_1 a0 q_x1)) [v_x0, .func (.func 68) #[] #[.pointer (some (q_p_x1))]] [.rd false (sImm (sImm (sInt .i64))) v_x0 x0, .ats q_p_x1 [q_v_x1], .rd false (sImm (sInt .i64)) q_v_x1 q_x1] (fun y (_ : Unit) => [.bool y]) (fun y _ => []) := by
  refine ct (S := Unit) (owt fun _ _ => rfl) Tryz.func67 rfl rfl ?_
  repeat' first
    | intro _
    | exact rfl
    | (refine @id.{0} _ ?_; constructor)
    | apply c73_k68
    | apply c68
    | exact ()
theorem c42 {x0 : MCategory} {p_x0 : Addr} {v_x0_From : Value} {v_x0_To : Value} {v_x0_Identity : Value} {v_x0_Composites : Value} {x1 : Int} : Ct Tryz.prog 42 true (impl_Category_sieves x0 x1) [.pointer (some (p_x0)), .int .i64 (x1)] [.ats p_x0 [.int .i64 (x0.Objects), v_x0_From, v_x0_To, v_x0_Identity, v_x0_Composites], .rd false (sImm (sInt .i64)) v_x0_From x0.From, .rd false (sImm (sInt .i64)) v_x0_To x0.To, .rd false (sImm (sInt .i64)) v_x0_Identity x0.Identity, .rd false (sImm (sImm (sInt .i64))) v_x0_Composites x0.Composites] (fun y (v : Value) => [v, .bool y.2]) (fun y v => [.own (sOwn 48 (sOwn 2 (sInt .i64))) v y.1]) := by
  refine ct (S := Unit) (owt fun _ _ => rfl) Tryz.func42 rfl rfl ?_
  repeat' first
    | intro _
    | exact rfl
    | apply Dk.D.asl (d := 6) (x := .tmp 12)
    | (refine @id.{0} _ ?_; constructor)
    | apply Dk.loop 0 (V := Value) (fun (s : (List (List Int)) × Int) v => [.own (sOwn 48 (sOwn 2 (sInt .i64))) v s.1]) (fun s v => [(6, v), (7, .int .i64 (s.2))]) _ [(0, _), (1, _)]
    | apply Dk.loop 2 (V := Value) (fun (s : (List (List Int)) × Int) v => [.own (sOwn 48 (sOwn 2 (sInt .i64))) v s.1]) (fun s v => [(6, v), (23, .int .i64 (s.2))]) _ [(0, _), (1, _), (7, _), (21, _), (22, _)]
    | apply c34
    | apply c65
    | apply c18
    | apply c70
    | apply c68
    | apply c67_k68
    | exact ()
theorem c47_k48 {x0 : MSetFunctor} {p_x0 : Addr} {v_x0_Shape_From : Value} {v_x0_Shape_To : Value} {v_x0_Shape_Identity : Value} {v_x0_Shape_Composites : Value} {v_x0_Sizes : Value} {v_x0_Actions : Value} {q_x2 : MPart} {q_p_x2 : Addr} {q_v_x2_Members : Value} {q_x3 : MPart} {q_p_x3 : Addr} {q_v_x3_Members : Value} : Ct Tryz.prog 47 true (impl_partOf x0 (fun a0 a1 => impl_SetFunctor_join_1 a0 a1 q_x2 q_x3)) [.pointer (some (p_x0)), .func (.func 48) #[] #[.pointer (some (q_p_x2)), .pointer (some (q_p_x3))]] [.ats p_x0 [.int .i64 (x0.Shape.Objects), v_x0_Shape_From, v_x0_Shape_To, v_x0_Shape_Identity, v_x0_Shape_Composites, v_x0_Sizes, v_x0_Actions], .rd false (sImm (sInt .i64)) v_x0_Shape_From x0.Shape.From, .rd false (sImm (sInt .i64)) v_x0_Shape_To x0.Shape.To, .rd false (sImm (sInt .i64)) v_x0_Shape_Identity x0.Shape.Identity, .rd false (sImm (sImm (sInt .i64))) v_x0_Shape_Composites x0.Shape.Composites, .rd false (sImm (sInt .i64)) v_x0_Sizes x0.Sizes, .rd false (sImm (sImm (sInt .i64))) v_x0_Actions x0.Actions, .ats q_p_x3 [q_v_x3_Members], .ats q_p_x2 [q_v_x2_Members], .rd false (sImm (sImm (sInt .i64))) q_v_x2_Members q_x2.Members, .rd false (sImm (sImm (sInt .i64))) q_v_x3_Members q_x3.Members] (fun y (v : Value) => [.agg #[v]]) (fun y v => [.own (sOwn 24 (sOwn 2 (sInt .i64))) v y.Members]) := by
  refine ct (S := Unit) (owt fun _ _ => rfl) Tryz.func47 rfl rfl ?_
  repeat' first
    | intro _
    | exact rfl
    | (refine @id.{0} _ ?_; constructor)
    | apply Dk.loopA 0 (V := Value) (A := Nat) _ (fun a (s : Int × (List (List Int))) v => [.row a [v] 38, .own (sOwn 24 (sOwn 2 (sInt .i64))) v s.2]) (fun a s v => [(5, .pointer (some ⟨a, 0, none⟩)), (16, .int .i64 (s.1))]) _ [(1, _), (4, _), (14, _), (15, _)]
    | apply Dk.loop 2 (V := Value) (fun (s : (List Int) × Int) v => [.own (sOwn 2 (sInt .i64)) v s.1]) (fun s v => [(8, v), (23, .int .i64 (s.2))]) _ [(1, _), (4, _), (5, _), (6, _), (14, _), (15, _), (16, _), (22, _)]
    | apply c48
    | exact ()
theorem c27 {x0 : MSetFunctor} {p_x0 : Addr} {v_x0_Shape_From : Value} {v_x0_Shape_To : Value} {v_x0_Shape_Identity : Value} {v_x0_Shape_Composites : Value} {v_x0_Sizes : Value} {v_x0_Actions : Value} {x1 : MPart} {v_x1_Members : Value} {x2 : MPart} {v_x2_Members : Value} : Ct Tryz.prog 27 true (impl_SetFunctor_join x0 x1 x2) [.pointer (some (p_x0)), .agg #[v_x1_Members], .agg #[v_x2_Members]] [.ats p_x0 [.int .i64 (x0.Shape.Objects), v_x0_Shape_From, v_x0_Shape_To, v_x0_Shape_Identity, v_x0_Shape_Composites, v_x0_Sizes, v_x0_Actions], .rd false (sImm (sInt .i64)) v_x0_Shape_From x0.Shape.From, .rd false (sImm (sInt .i64)) v_x0_Shape_To x0.Shape.To, .rd false (sImm (sInt .i64)) v_x0_Shape_Identity x0.Shape.Identity, .rd false (sImm (sImm (sInt .i64))) v_x0_Shape_Composites x0.Shape.Composites, .rd false (sImm (sInt .i64)) v_x0_Sizes x0.Sizes, .rd false (sImm (sImm (sInt .i64))) v_x0_Actions x0.Actions, .rd false (sImm (sImm (sInt .i64))) v_x1_Members x1.Members, .rd false (sImm (sImm (sInt .i64))) v_x2_Members x2.Members] (fun y (v : Value) => [.agg #[v]]) (fun y v => [.own (sOwn 24 (sOwn 2 (sInt .i64))) v y.Members]) := by
  refine ct (S := Unit) (owt fun _ _ => rfl) Tryz.func27 rfl rfl ?_
  repeat' first
    | intro _
    | exact rfl
    | (refine @id.{0} _ ?_; constructor)
    | apply c48
    | apply c47_k48
    | exact ()
end Go.Proofs.YtbedkejmebepcaaGreat
