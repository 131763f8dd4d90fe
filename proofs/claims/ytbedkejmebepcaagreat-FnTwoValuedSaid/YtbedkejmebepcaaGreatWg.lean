/- Walks by the calculus D. No condition beside those that each theorem names. -/
import Derived.Test.YtbedkejmebepcaaGreatDi
import Derived.Test.YtbedkejmebepcaaGreatMo
import Derived.Test.YtbedkejmebepcaaGreatDg
import Derived.Test.YtbedkejmebepcaaGreatDs
import Derived.Test.YtbedkejmebepcaaGreatSo
import Derived.Test.YtbedkejmebepcaaGreatWa
import Derived.Test.YtbedkejmebepcaaGreatWb
import Derived.Test.YtbedkejmebepcaaGreatWc
import Derived.Test.YtbedkejmebepcaaGreatWd
namespace Go.Proofs.YtbedkejmebepcaaGreat
open Go Go.Li Go.Dk
set_option linter.unusedVariables false
set_option maxHeartbeats 1000000
set_option maxRecDepth 100000
theorem c81 {x0 : ML01Source} {b_x0 : Nat} {v_x0_Code : Value} {x1 : Int} : Ct Tryz.prog 81 true (spec_l02Relation x0 x1) [.pointer (some (⟨b_x0, 0, none⟩)), .int .i64 (x1)] [.row b_x0 [v_x0_Code, .int .i64 (x0.At), .int .u64 (x0.Hash)] 68, .rd false (sImm (sInt .u8)) v_x0_Code x0.Code] (fun y (v : Value) => [v]) (fun y v => [.own (sOwn 24 (sOwn 2 (sInt .i64))) v y.1, .row b_x0 [v_x0_Code, .int .i64 y.2.At, .int .u64 y.2.Hash] 68]) := by
  refine ct (S := Unit) (owt fun _ _ => rfl) Tryz.func81 rfl rfl ?_
  repeat' first
    | intro _
    | exact rfl
    | (refine Dk.cdR (t := 62) rfl ?_ ?_)
    | (refine Dk.cdR (t := 67) rfl ?_ ?_)
    | (refine @id.{0} _ ?_; constructor)
    | apply Dk.loop 0 (V := Value) (fun (s : (List (List Int)) × Int × Int × Int) v => [.row b_x0 [v_x0_Code, .int .i64 (s.2.2.1), .int .u64 (s.2.2.2)] 68, .own (sOwn 24 (sOwn 2 (sInt .i64))) v s.1]) (fun s v => [(5, v), (6, .int .i64 (s.2.1))]) _ [(0, _), (1, _)]
    | apply Dk.loopA 2 (V := Unit) (A := Value) _ (fun a (s : Int × Int × Int × (List Int)) v => [.row b_x0 [v_x0_Code, .int .i64 (s.2.1), .int .u64 (s.2.2.1)] 68, .own (sOwn 2 (sInt .i64)) a s.2.2.2]) (fun a s v => [(7, a), (8, .int .i64 (s.1))]) () [(0, _), (1, _), (5, _), (6, _)]
    | apply Dk.loopA 4 (V := Unit) (A := Value) _ (fun a (s : Int × (List (List Int))) v => [.own (sOwn 24 (sOwn 2 (sInt .i64))) a s.2]) (fun a s v => [(5, a), (9, .int .i64 (s.1))]) () [(1, _)]
    | apply Dk.loopA 6 (V := Unit) (A := Value) _ (fun a (s : Int × (List (List Int))) v => [.own (sOwn 24 (sOwn 2 (sInt .i64))) a s.2]) (fun a s v => [(5, a), (10, .int .i64 (s.1))]) () [(1, _), (9, _)]
    | apply Dk.loopA 8 (V := Unit) (A := Value) _ (fun a (s : Int × (List (List Int))) v => [.own (sOwn 24 (sOwn 2 (sInt .i64))) a s.2]) (fun a s v => [(5, a), (11, .int .i64 (s.1))]) () [(1, _), (9, _), (10, _)]
    | apply Dk.anyH (id := 13) [Dk.Ent.row _ _ 68] 8 [] [[], [], [], [], [], [], [], [10]] [[], [], [1], [0, 2, 1], [3, 0, 2, 1], [], [], [5, 6]] (by kernel_rfl)
    | apply c14
    | exact ()
theorem c89 {x0 : (List (List Int))} {v_x0 : Value} : Ct Tryz.prog 89 true (spec_l01Own2 x0) [v_x0] [.rd false (sImm (sImm (sInt .i64))) v_x0 x0] (fun y (v : Value) => [v]) (fun y v => [.own (sOwn 24 (sOwn 2 (sInt .i64))) v y]) := by
  refine ct (S := Unit) (owt fun _ _ => rfl) Tryz.func89 rfl rfl ?_
  repeat' first
    | intro _
    | exact rfl
    | (refine @id.{0} _ ?_; constructor)
    | apply Dk.loop 0 (V := Value) (fun (s : (List (List Int)) × Int) v => [.own (sOwn 24 (sOwn 2 (sInt .i64))) v s.1]) (fun s v => [(3, v), (4, .int .i64 (s.2))]) _ [(0, _)]
    | apply c88
    | exact ()
theorem c83 {x0 : (List (List Int))} {v_x0 : Value} : Ct Tryz.prog 83 true (spec_l03Monoid x0) [v_x0] [.rd false (sImm (sImm (sInt .i64))) v_x0 x0] (fun y (v : Value × Value × Value × Value) => [.agg #[.int .i64 y.Objects, v.1, v.2.1, v.2.2.1, v.2.2.2]]) (fun y v => [.own (sOwn 2 (sInt .i64)) v.1 y.From, .own (sOwn 2 (sInt .i64)) v.2.1 y.To, .own (sOwn 2 (sInt .i64)) v.2.2.1 y.Identity, .own (sOwn 24 (sOwn 2 (sInt .i64))) v.2.2.2 y.Composites]) := by
  refine ct (S := Unit) (owt fun _ _ => rfl) Tryz.func83 rfl rfl ?_
  repeat' first
    | intro _
    | exact rfl
    | (refine @id.{0} _ ?_; constructor)
    | apply Dk.any (id := 2) 7 [] [] [[], [0, 0], [], [2, 2], [], [], [5]] (by kernel_rfl)
    | apply c89
    | exact ()
theorem c57 {x0 : MCategory} {v_x0_From : Value} {v_x0_To : Value} {v_x0_Identity : Value} {v_x0_Composites : Value} : Ct Tryz.prog 57 true (spec_l02Own x0) [.agg #[.int .i64 (x0.Objects), v_x0_From, v_x0_To, v_x0_Identity, v_x0_Composites]] [.rd false (sImm (sInt .i64)) v_x0_From x0.From, .rd false (sImm (sInt .i64)) v_x0_To x0.To, .rd false (sImm (sInt .i64)) v_x0_Identity x0.Identity, .rd false (sImm (sImm (sInt .i64))) v_x0_Composites x0.Composites] (fun y (v : Value × Value × Value × Value) => [.agg #[.int .i64 y.Objects, v.1, v.2.1, v.2.2.1, v.2.2.2]]) (fun y v => [.own (sOwn 2 (sInt .i64)) v.1 y.From, .own (sOwn 2 (sInt .i64)) v.2.1 y.To, .own (sOwn 2 (sInt .i64)) v.2.2.1 y.Identity, .own (sOwn 24 (sOwn 2 (sInt .i64))) v.2.2.2 y.Composites]) := by
  refine ct (S := Unit) (owt fun _ _ => rfl) Tryz.func57 rfl rfl ?_
  repeat' first
    | intro _
    | exact rfl
    | (refine @id.{0} _ ?_; constructor)
    | apply Dk.any (id := 1) 14 [] [] [[], [0], [], [2], [3, 2], [], [5], [6, 5, 4, 3, 2], [], [8], [9, 8, 7, 6, 5, 4, 3, 2], [], [11], [12, 11, 10, 9, 8, 7, 6, 5, 4, 3, 2]] (by kernel_rfl)
    | apply c88
    | apply c89
    | exact ()
theorem c20 {x0 : MCategory} {v_x0_From : Value} {v_x0_To : Value} {v_x0_Identity : Value} {v_x0_Composites : Value} {x1 : (List Int)} {v_x1 : Value} : Ct Tryz.prog 20 true (spec_l25Close x0 x1) [.agg #[.int .i64 (x0.Objects), v_x0_From, v_x0_To, v_x0_Identity, v_x0_Composites], v_x1] [.rd false (sImm (sInt .i64)) v_x0_From x0.From, .rd false (sImm (sInt .i64)) v_x0_To x0.To, .rd false (sImm (sInt .i64)) v_x0_Identity x0.Identity, .rd false (sImm (sImm (sInt .i64))) v_x0_Composites x0.Composites, .rd false (sImm (sInt .i64)) v_x1 x1] (fun y (v : Value) => [v]) (fun y v => [.own (sOwn 2 (sInt .i64)) v y]) := by
  refine ct (S := Unit) (owt fun _ _ => rfl) Tryz.func20 rfl rfl ?_
  repeat' first
    | intro _
    | exact rfl
    | (refine @id.{0} _ ?_; constructor)
    | apply Dk.loopA 0 (V := Unit) (A := Value) _ (fun a (s : Int × (List Bool)) v => [.own (sOwn 4 sBool) a s.2]) (fun a s v => [(5, a), (6, .int .i64 (s.1))]) () [(1, _), (2, _)]
    | apply Dk.loopA 2 (V := Unit) (A := Value) _ (fun a (s : Int × (List Bool)) v => [.own (sOwn 4 sBool) a s.2]) (fun a s v => [(5, a), (7, .int .i64 (s.1))]) () [(1, _), (2, _), (6, _)]
    | apply Dk.loop 4 (V := Value) (fun (s : (List Int) × Int) v => [.own (sOwn 2 (sInt .i64)) v s.1]) (fun s v => [(8, v), (9, .int .i64 (s.2))]) _ [(5, _)]
    | apply Dk.quiet (id := 8) (by kernel_rfl)
    | apply Dk.any (id := 9) 7 [0] [] [[], [], [], [], [2, 3], [4, 2, 3], []] (by kernel_rfl)
    | apply c39
    | exact ()
theorem c22 {x0 : MCategory} {p_x0 : Addr} {v_x0_From : Value} {v_x0_To : Value} {v_x0_Identity : Value} {v_x0_Composites : Value} {x1 : Int} : Ct Tryz.prog 22 true (impl_Category_inverse x0 x1) [.pointer (some (p_x0)), .int .i64 (x1)] [.ats p_x0 [.int .i64 (x0.Objects), v_x0_From, v_x0_To, v_x0_Identity, v_x0_Composites], .rd false (sImm (sInt .i64)) v_x0_From x0.From, .rd false (sImm (sInt .i64)) v_x0_To x0.To, .rd false (sImm (sInt .i64)) v_x0_Identity x0.Identity, .rd false (sImm (sImm (sInt .i64))) v_x0_Composites x0.Composites] (fun y (_ : Unit) => [.int .i64 y]) (fun y _ => []) := by
  refine ct (S := Unit) (owt fun _ _ => rfl) Tryz.func22 rfl rfl ?_
  repeat' first
    | intro _
    | exact rfl
    | (refine @id.{0} _ ?_; constructor)
    | apply Dk.loop 0 (V := Unit) (fun (s : Int) v => []) (fun s v => [(28, .int .i64 (s))]) () [(0, _), (1, _), (5, _), (6, _), (26, _), (27, _)]
    | apply Dk.quiet (id := 1) (by kernel_rfl)
    | apply Dk.quiet (id := 5) (by kernel_rfl)
    | apply c40
    | apply c35
    | exact ()
theorem c47_k80 {x0 : MSetFunctor} {p_x0 : Addr} {v_x0_Shape_From : Value} {v_x0_Shape_To : Value} {v_x0_Shape_Identity : Value} {v_x0_Shape_Composites : Value} {v_x0_Sizes : Value} {v_x0_Actions : Value} : Ct Tryz.prog 47 true (impl_partOf x0 (fun a0 a1 => impl_SetFunctor_none_1 a0 a1)) [.pointer (some (p_x0)), .func (.func 80) #[] #[]] [.ats p_x0 [.int .i64 (x0.Shape.Objects), v_x0_Shape_From, v_x0_Shape_To, v_x0_Shape_Identity, v_x0_Shape_Composites, v_x0_Sizes, v_x0_Actions], .rd false (sImm (sInt .i64)) v_x0_Shape_From x0.Shape.From, .rd false (sImm (sInt .i64)) v_x0_Shape_To x0.Shape.To, .rd false (sImm (sInt .i64)) v_x0_Shape_Identity x0.Shape.Identity, .rd false (sImm (sImm (sInt .i64))) v_x0_Shape_Composites x0.Shape.Composites, .rd false (sImm (sInt .i64)) v_x0_Sizes x0.Sizes, .rd false (sImm (sImm (sInt .i64))) v_x0_Actions x0.Actions] (fun y (v : Value) => [.agg #[v]]) (fun y v => [.own (sOwn 24 (sOwn 2 (sInt .i64))) v y.Members]) := by
  refine ct (S := Unit) (owt fun _ _ => rfl) Tryz.func47 rfl rfl ?_
  repeat' first
    | intro _
    | exact rfl
    | (refine @id.{0} _ ?_; constructor)
    | apply Dk.loopA 0 (V := Value) (A := Nat) _ (fun a (s : Int × (List (List Int))) v => [.row a [v] 38, .own (sOwn 24 (sOwn 2 (sInt .i64))) v s.2]) (fun a s v => [(5, .pointer (some ⟨a, 0, none⟩)), (16, .int .i64 (s.1))]) _ [(1, _), (4, _), (14, _), (15, _)]
    | apply Dk.loop 2 (V := Value) (fun (s : (List Int) × Int) v => [.own (sOwn 2 (sInt .i64)) v s.1]) (fun s v => [(8, v), (23, .int .i64 (s.2))]) _ [(1, _), (4, _), (5, _), (6, _), (14, _), (15, _), (16, _), (22, _)]
    | apply c80
    | exact ()
theorem c51 {x0 : MSetFunctor} {p_x0 : Addr} {v_x0_Shape_From : Value} {v_x0_Shape_To : Value} {v_x0_Shape_Identity : Value} {v_x0_Shape_Composites : Value} {v_x0_Sizes : Value} {v_x0_Actions : Value} : Ct Tryz.prog 51 true (impl_SetFunctor_none x0) [.pointer (some (p_x0))] [.ats p_x0 [.int .i64 (x0.Shape.Objects), v_x0_Shape_From, v_x0_Shape_To, v_x0_Shape_Identity, v_x0_Shape_Composites, v_x0_Sizes, v_x0_Actions], .rd false (sImm (sInt .i64)) v_x0_Shape_From x0.Shape.From, .rd false (sImm (sInt .i64)) v_x0_Shape_To x0.Shape.To, .rd false (sImm (sInt .i64)) v_x0_Shape_Identity x0.Shape.Identity, .rd false (sImm (sImm (sInt .i64))) v_x0_Shape_Composites x0.Shape.Composites, .rd false (sImm (sInt .i64)) v_x0_Sizes x0.Sizes, .rd false (sImm (sImm (sInt .i64))) v_x0_Actions x0.Actions] (fun y (v : Value) => [.agg #[v]]) (fun y v => [.own (sOwn 24 (sOwn 2 (sInt .i64))) v y.Members]) := by
  refine ct (S := Unit) (owt fun _ _ => rfl) Tryz.func51 rfl rfl ?_
  repeat' first
    | intro _
    | exact rfl
    | (refine @id.{0} _ ?_; constructor)
    | apply c47_k80
    | exact ()
end Go.Proofs.YtbedkejmebepcaaGreat
