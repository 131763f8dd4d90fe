/- Walks by the calculus D. No condition beside those that each theorem names. -/
import Derived.Test.YtcmckiiafgcmjaaGreatDi
import Derived.Test.YtcmckiiafgcmjaaGreatMo
import Derived.Test.YtcmckiiafgcmjaaGreatSo
import Derived.Test.YtcmckiiafgcmjaaGreatWa
import Derived.Test.YtcmckiiafgcmjaaGreatWb
import Derived.Test.YtcmckiiafgcmjaaGreatWc
import Derived.Test.YtcmckiiafgcmjaaGreatWd
namespace Go.Proofs.YtcmckiiafgcmjaaGreat
open Go Go.Li Go.Dk
set_option linter.unusedVariables false
set_option maxHeartbeats 1000000
set_option maxRecDepth 100000
theorem c155 {x0 : MCategory} {v_x0_From : Value} {v_x0_To : Value} {v_x0_Identity : Value} {v_x0_Composites : Value} : Ct Tryz.prog 155 true (spec_l02Own x0) [.agg #[.int .i64 (x0.Objects), v_x0_From, v_x0_To, v_x0_Identity, v_x0_Composites]] [.rd false (sImm (sInt .i64)) v_x0_From x0.From, .rd false (sImm (sInt .i64)) v_x0_To x0.To, .rd false (sImm (sInt .i64)) v_x0_Identity x0.Identity, .rd false (sImm (sImm (sInt .i64))) v_x0_Composites x0.Composites] (fun y (v : Value × Value × Value × Value) => [.agg #[.int .i64 y.Objects, v.1, v.2.1, v.2.2.1, v.2.2.2]]) (fun y v => [.own (sOwn 2 (sInt .i64)) v.1 y.From, .own (sOwn 2 (sInt .i64)) v.2.1 y.To, .own (sOwn 2 (sInt .i64)) v.2.2.1 y.Identity, .own (sOwn 22 (sOwn 2 (sInt .i64))) v.2.2.2 y.Composites]) := by
  refine ct (S := Unit) (owt fun _ _ => rfl) Tryz.func155 rfl rfl ?_
  repeat' first
    | intro _
    | exact rfl
    | (refine @id.{0} _ ?_; constructor)
    | apply Dk.any (id := 1) 14 [] [] [[], [0], [], [2], [3, 2], [], [5], [6, 5, 4, 3, 2], [], [8], [9, 8, 7, 6, 5, 4, 3, 2], [], [11], [12, 11, 10, 9, 8, 7, 6, 5, 4, 3, 2]] (by kernel_rfl)
    | apply c89
    | apply c174
    | exact ()
theorem c110 {x0 : MCategory} {v_x0_From : Value} {v_x0_To : Value} {v_x0_Identity : Value} {v_x0_Composites : Value} {x1 : (List (List (List Int)))} {v_x1 : Value} : Ct Tryz.prog 110 true (spec_l25Make x0 x1) [.agg #[.int .i64 (x0.Objects), v_x0_From, v_x0_To, v_x0_Identity, v_x0_Composites], v_x1] [.rd false (sImm (sInt .i64)) v_x0_From x0.From, .rd false (sImm (sInt .i64)) v_x0_To x0.To, .rd false (sImm (sInt .i64)) v_x0_Identity x0.Identity, .rd false (sImm (sImm (sInt .i64))) v_x0_Composites x0.Composites, .rd false (sImm (sImm (sImm (sInt .i64)))) v_x1 x1] (fun y (v : Value × Value × Value × Value × Value × Value) => [.agg #[.int .i64 y.Shape.Objects, v.1, v.2.1, v.2.2.1, v.2.2.2.1, v.2.2.2.2.1, v.2.2.2.2.2]]) (fun y v => [.own (sOwn 2 (sInt .i64)) v.1 y.Shape.From, .own (sOwn 2 (sInt .i64)) v.2.1 y.Shape.To, .own (sOwn 2 (sInt .i64)) v.2.2.1 y.Shape.Identity, .own (sOwn 22 (sOwn 2 (sInt .i64))) v.2.2.2.1 y.Shape.Composites, .own (sOwn 2 (sInt .i64)) v.2.2.2.2.1 y.Sizes, .own (sOwn 22 (sOwn 2 (sInt .i64))) v.2.2.2.2.2 y.Actions]) := by
  refine ct (S := Unit) (owt fun _ _ => rfl) Tryz.func110 rfl rfl ?_
  repeat' first
    | intro _
    | exact rfl
    | (refine @id.{0} _ ?_; constructor)
    | apply Dk.loopA 0 (V := Value) (A := Nat × Value × Value × Value × Value × Value × Value) (_, _, _, _, _, _, _) (fun a (s : Int × (List Int)) v => Dk.pc (fun a0 => Dk.pc (fun a1 => Dk.pc (fun a2 => Dk.pc (fun a3 => Dk.pc (fun a4 => Dk.pc (fun a5 a6 => [.row a0 [a1, a2, a3, a4, a5, v, a6] 66, .own (sOwn 2 (sInt .i64)) v s.2])))))) a) (fun a s v => Dk.pc (fun a0 => Dk.pc (fun a1 => Dk.pc (fun a2 => Dk.pc (fun a3 => Dk.pc (fun a4 => Dk.pc (fun a5 a6 => [(5, .pointer (some ⟨a0, 0, none⟩)), (6, .int .i64 (s.1))])))))) a) _ [(1, _), (2, _), (4, _)]
    | apply Dk.loopA 2 (V := Value) (A := Nat × Value × Value × Value × Value × Value × Value) (_, _, _, _, _, _, _) (fun a (s : Int × (List (List Int))) v => Dk.pc (fun a0 => Dk.pc (fun a1 => Dk.pc (fun a2 => Dk.pc (fun a3 => Dk.pc (fun a4 => Dk.pc (fun a5 a6 => [.row a0 [a1, a2, a3, a4, a5, a6, v] 66, .own (sOwn 22 (sOwn 2 (sInt .i64))) v s.2])))))) a) (fun a s v => Dk.pc (fun a0 => Dk.pc (fun a1 => Dk.pc (fun a2 => Dk.pc (fun a3 => Dk.pc (fun a4 => Dk.pc (fun a5 a6 => [(5, .pointer (some ⟨a0, 0, none⟩)), (7, .int .i64 (s.1))])))))) a) _ [(1, _), (2, _), (4, _)]
    | apply Dk.loop 4 (V := Value) (fun (s : (List Int) × Int) v => [.own (sOwn 2 (sInt .i64)) v s.1]) (fun s v => [(8, v), (9, .int .i64 (s.2))]) _ [(1, _), (2, _), (4, _), (5, _), (7, _)]
    | apply Dk.any (id := 5) 8 [] [] [[], [0], [], [], [2, 3], [4, 2, 3], [5, 4, 2, 3], [6, 5, 4, 2, 3]] (by kernel_rfl)
    | apply Dk.any (id := 13) 25 [] [] [[], [], [], [2], [], [3, 2, 4], [5, 3, 2, 4], [1, 6, 5, 3, 2, 4], [7, 1, 6, 5, 3, 2, 4], [], [], [], [], [12], [], [13, 12, 14], [15, 13, 12, 14], [11, 16, 15, 13, 12, 14], [17, 11, 16, 15, 13, 12, 14], [], [18, 17, 11, 16, 15, 13, 12, 14, 19], [20, 18, 17, 11, 16, 15, 13, 12, 14, 19], [9, 10, 21, 20, 18, 17, 11, 16, 15, 13, 12, 14, 19], [8, 7, 1, 6, 5, 3, 2, 4, 22, 9, 10, 21, 20, 18, 17, 11, 16, 15, 13, 12, 14, 19, 22, 9, 10, 21, 20, 18, 17, 11, 16, 15, 13, 12, 14, 19], [23, 8, 7, 1, 6, 5, 3, 2, 4, 22, 9, 10, 21, 20, 18, 17, 11, 16, 15, 13, 12, 14, 19, 22, 9, 10, 21, 20, 18, 17, 11, 16, 15, 13, 12, 14, 19]] (by kernel_rfl)
    | apply c155
    | apply c144
    | apply c172
    | exact ()
theorem c158 {x0 : MCategory} {p_x0 : Addr} {v_x0_From : Value} {v_x0_To : Value} {v_x0_Identity : Value} {v_x0_Composites : Value} : Ct Tryz.prog 158 true (impl_Category_copy x0) [.pointer (some (p_x0))] [.ats p_x0 [.int .i64 (x0.Objects), v_x0_From, v_x0_To, v_x0_Identity, v_x0_Composites], .rd false (sImm (sInt .i64)) v_x0_From x0.From, .rd false (sImm (sInt .i64)) v_x0_To x0.To, .rd false (sImm (sInt .i64)) v_x0_Identity x0.Identity, .rd false (sImm (sImm (sInt .i64))) v_x0_Composites x0.Composites] (fun y (v : Value × Value × Value × Value) => [.agg #[.int .i64 y.Objects, v.1, v.2.1, v.2.2.1, v.2.2.2]]) (fun y v => [.own (sOwn 2 (sInt .i64)) v.1 y.From, .own (sOwn 2 (sInt .i64)) v.2.1 y.To, .own (sOwn 2 (sInt .i64)) v.2.2.1 y.Identity, .own (sOwn 22 (sOwn 2 (sInt .i64))) v.2.2.2 y.Composites]) := by
  refine ct (S := Unit) (owt fun _ _ => rfl) Tryz.func158 rfl rfl ?_
  repeat' first
    | intro _
    | exact rfl
    | (refine @id.{0} _ ?_; constructor)
    | apply Dk.any (id := 1) 24 [] [] [[], [0], [1, 0], [2, 1, 0], [], [4], [5, 4], [6, 5, 4], [7, 6, 5, 4], [], [9], [10, 9], [11, 10, 9], [12, 11, 10, 9, 8, 7, 6, 5, 4], [], [14], [15, 14], [16, 15, 14], [17, 16, 15, 14, 13, 12, 11, 10, 9, 8, 7, 6, 5, 4], [], [19], [20, 19], [21, 20, 19], [22, 21, 20, 19, 18, 17, 16, 15, 14, 13, 12, 11, 10, 9, 8, 7, 6, 5, 4]] (by kernel_rfl)
    | apply c159
    | apply c178
    | exact ()
theorem c230 {x0 : List (List Int)} {v_x0 : Value} : Ct Tryz.prog 230 true (sortM_impl_Category_sieves_2 x0) [v_x0, .func (.func 231) #[] #[]] [.own (sOwn 114 (sOwn 2 (sInt .i64))) v_x0 x0] (fun _ (_ : Unit) => []) (fun y _ => [.own (sOwn 114 (sOwn 2 (sInt .i64))) v_x0 y]) := by
  refine ct_inout (m := sortM_impl_Category_sieves_2) fun {w} {f} o_x0 {y} hm => ?_
  unfold sortM_impl_Category_sieves_2 at hm
  split at hm
  · rename_i h
    cases hm
    have hcon := sort_rows Tryz.sort230 (g := 231) (e1 := 114) (T := (sOwn 2 (sInt .i64))) rfl (fun args w => enters_of Tryz.func231 (by kernel_rfl) rfl args w) (xs := x0)
      (fun {W} {x} {y} {vx} {vy} {fx} {fy} hx hy mx my => ct_read (c231 (x0 := x) (x1 := y) (v_x0 := vx) (v_x1 := vy)) (.fact (fact_rd ((Le.own (Le.refl _) 2).le hx)) (.fact (fact_rd ((Le.own (Le.refl _) 2).le hy)) .nil)) (h.2.2 x mx y my)) h.1 h.2.1 o_x0
    change Calls Tryz.prog 230 _ _ _ at hcon
    exact hcon
  · cases hm
theorem c79 {x0 : MTopology} {v_x0_Shape_From : Value} {v_x0_Shape_To : Value} {v_x0_Shape_Identity : Value} {v_x0_Shape_Composites : Value} {v_x0_Covers : Value} {x1 : Int} {x2 : (List Int)} {v_x2 : Value} : Ct Tryz.prog 79 true (spec_l27Close x0 x1 x2) [.agg #[.int .i64 (x0.Shape.Objects), v_x0_Shape_From, v_x0_Shape_To, v_x0_Shape_Identity, v_x0_Shape_Composites, v_x0_Covers], .int .i64 (x1), v_x2] [.rd false (sImm (sInt .i64)) v_x0_Shape_From x0.Shape.From, .rd false (sImm (sInt .i64)) v_x0_Shape_To x0.Shape.To, .rd false (sImm (sInt .i64)) v_x0_Shape_Identity x0.Shape.Identity, .rd false (sImm (sImm (sInt .i64))) v_x0_Shape_Composites x0.Shape.Composites, .rd false (sImm (sImm (sImm (sInt .i64)))) v_x0_Covers x0.Covers, .rd false (sImm (sInt .i64)) v_x2 x2] (fun y (v : Value) => [v]) (fun y v => [.own (sOwn 2 (sInt .i64)) v y]) := by
  refine ct (S := Unit) (owt fun _ _ => rfl) Tryz.func79 rfl rfl ?_
  repeat' first
    | intro _
    | exact rfl
    | (refine @id.{0} _ ?_; constructor)
    | apply Dk.loop 0 (V := Value) (fun (s : (List Int) × Int) v => [.own (sOwn 2 (sInt .i64)) v s.1]) (fun s v => [(8, v), (9, .int .i64 (s.2))]) _ [(2, _), (3, _), (7, _)]
    | apply Dk.any (id := 6) 21 [] [] [[], [0], [], [2], [3, 2], [], [], [5, 6], [7, 5, 6], [4, 3, 2, 8, 7, 5, 6], [9, 4, 3, 2, 8, 7, 5, 6], [1, 0, 10, 9, 4, 3, 2, 8, 7, 5, 6], [11, 1, 0, 10, 9, 4, 3, 2, 8, 7, 5, 6], [], [13], [], [], [15, 16], [17, 15, 16], [], [14, 13, 18, 17, 15, 16, 19]] (by kernel_rfl)
    | apply c143
    | apply c144
    | apply c111
    | exact ()
theorem c96 {x0 : MCategory} {v_x0_From : Value} {v_x0_To : Value} {v_x0_Identity : Value} {v_x0_Composites : Value} {x1 : Int} : Ct Tryz.prog 96 true (laws_heldCategory x0 x1) [.agg #[.int .i64 (x0.Objects), v_x0_From, v_x0_To, v_x0_Identity, v_x0_Composites], .int .i64 (x1)] [.rd false (sImm (sInt .i64)) v_x0_From x0.From, .rd false (sImm (sInt .i64)) v_x0_To x0.To, .rd false (sImm (sInt .i64)) v_x0_Identity x0.Identity, .rd false (sImm (sImm (sInt .i64))) v_x0_Composites x0.Composites] (fun y (_ : Unit) => [.int .i64 y]) (fun y _ => []) := by
  refine ct (S := Unit) (owt fun _ _ => rfl) Tryz.func96 rfl rfl ?_
  repeat' first
    | intro _
    | exact rfl
    | (refine @id.{0} _ ?_; constructor)
    | apply c26
    | apply c31
    | exact ()
theorem c173 {x0 : MSetFunctor} {v_x0_Shape_From : Value} {v_x0_Shape_To : Value} {v_x0_Shape_Identity : Value} {v_x0_Shape_Composites : Value} {v_x0_Sizes : Value} {v_x0_Actions : Value} : Ct Tryz.prog 173 true (spec_l19Own x0) [.agg #[.int .i64 (x0.Shape.Objects), v_x0_Shape_From, v_x0_Shape_To, v_x0_Shape_Identity, v_x0_Shape_Composites, v_x0_Sizes, v_x0_Actions]] [.rd false (sImm (sInt .i64)) v_x0_Shape_From x0.Shape.From, .rd false (sImm (sInt .i64)) v_x0_Shape_To x0.Shape.To, .rd false (sImm (sInt .i64)) v_x0_Shape_Identity x0.Shape.Identity, .rd false (sImm (sImm (sInt .i64))) v_x0_Shape_Composites x0.Shape.Composites, .rd false (sImm (sInt .i64)) v_x0_Sizes x0.Sizes, .rd false (sImm (sImm (sInt .i64))) v_x0_Actions x0.Actions] (fun y (v : Value × Value × Value × Value × Value × Value) => [.agg #[.int .i64 y.Shape.Objects, v.1, v.2.1, v.2.2.1, v.2.2.2.1, v.2.2.2.2.1, v.2.2.2.2.2]]) (fun y v => [.own (sOwn 2 (sInt .i64)) v.1 y.Shape.From, .own (sOwn 2 (sInt .i64)) v.2.1 y.Shape.To, .own (sOwn 2 (sInt .i64)) v.2.2.1 y.Shape.Identity, .own (sOwn 22 (sOwn 2 (sInt .i64))) v.2.2.2.1 y.Shape.Composites, .own (sOwn 2 (sInt .i64)) v.2.2.2.2.1 y.Sizes, .own (sOwn 22 (sOwn 2 (sInt .i64))) v.2.2.2.2.2 y.Actions]) := by
  refine ct (S := Unit) (owt fun _ _ => rfl) Tryz.func173 rfl rfl ?_
  repeat' first
    | intro _
    | exact rfl
    | (refine @id.{0} _ ?_; constructor)
    | apply Dk.any (id := 1) 8 [] [] [[], [0], [1, 0], [], [3], [4, 3, 2, 1, 0], [], [6]] (by kernel_rfl)
    | apply c155
    | apply c89
    | apply c174
    | exact ()
theorem c177 {x0 : MSetFunctor} {p_x0 : Addr} {v_x0_Shape_From : Value} {v_x0_Shape_To : Value} {v_x0_Shape_Identity : Value} {v_x0_Shape_Composites : Value} {v_x0_Sizes : Value} {v_x0_Actions : Value} : Ct Tryz.prog 177 true (impl_SetFunctor_copy x0) [.pointer (some (p_x0))] [.ats p_x0 [.int .i64 (x0.Shape.Objects), v_x0_Shape_From, v_x0_Shape_To, v_x0_Shape_Identity, v_x0_Shape_Composites, v_x0_Sizes, v_x0_Actions], .rd false (sImm (sInt .i64)) v_x0_Shape_From x0.Shape.From, .rd false (sImm (sInt .i64)) v_x0_Shape_To x0.Shape.To, .rd false (sImm (sInt .i64)) v_x0_Shape_Identity x0.Shape.Identity, .rd false (sImm (sImm (sInt .i64))) v_x0_Shape_Composites x0.Shape.Composites, .rd false (sImm (sInt .i64)) v_x0_Sizes x0.Sizes, .rd false (sImm (sImm (sInt .i64))) v_x0_Actions x0.Actions] (fun y (v : Value × Value × Value × Value × Value × Value) => [.agg #[.int .i64 y.Shape.Objects, v.1, v.2.1, v.2.2.1, v.2.2.2.1, v.2.2.2.2.1, v.2.2.2.2.2]]) (fun y v => [.own (sOwn 2 (sInt .i64)) v.1 y.Shape.From, .own (sOwn 2 (sInt .i64)) v.2.1 y.Shape.To, .own (sOwn 2 (sInt .i64)) v.2.2.1 y.Shape.Identity, .own (sOwn 22 (sOwn 2 (sInt .i64))) v.2.2.2.1 y.Shape.Composites, .own (sOwn 2 (sInt .i64)) v.2.2.2.2.1 y.Sizes, .own (sOwn 22 (sOwn 2 (sInt .i64))) v.2.2.2.2.2 y.Actions]) := by
  refine ct (S := Unit) (owt fun _ _ => rfl) Tryz.func177 rfl rfl ?_
  repeat' first
    | intro _
    | exact rfl
    | (refine @id.{0} _ ?_; constructor)
    | apply Dk.any (id := 1) 13 [] [] [[], [0], [1, 0], [2, 1, 0], [], [4], [5, 4], [6, 5, 4], [7, 6, 5, 4, 3, 2, 1, 0], [], [9], [10, 9], [11, 10, 9]] (by kernel_rfl)
    | apply c158
    | apply c159
    | apply c178
    | exact ()
theorem c116 {x0 : MSetFunctor} {v_x0_Shape_From : Value} {v_x0_Shape_To : Value} {v_x0_Shape_Identity : Value} {v_x0_Shape_Composites : Value} {v_x0_Sizes : Value} {v_x0_Actions : Value} {x1 : Int} : Ct Tryz.prog 116 true (laws_heldSetFunctor x0 x1) [.agg #[.int .i64 (x0.Shape.Objects), v_x0_Shape_From, v_x0_Shape_To, v_x0_Shape_Identity, v_x0_Shape_Composites, v_x0_Sizes, v_x0_Actions], .int .i64 (x1)] [.rd false (sImm (sInt .i64)) v_x0_Shape_From x0.Shape.From, .rd false (sImm (sInt .i64)) v_x0_Shape_To x0.Shape.To, .rd false (sImm (sInt .i64)) v_x0_Shape_Identity x0.Shape.Identity, .rd false (sImm (sImm (sInt .i64))) v_x0_Shape_Composites x0.Shape.Composites, .rd false (sImm (sInt .i64)) v_x0_Sizes x0.Sizes, .rd false (sImm (sImm (sInt .i64))) v_x0_Actions x0.Actions] (fun y (_ : Unit) => [.int .i64 y]) (fun y _ => []) := by
  refine ct (S := Unit) (owt fun _ _ => rfl) Tryz.func116 rfl rfl ?_
  repeat' first
    | intro _
    | exact rfl
    | (refine @id.{0} _ ?_; constructor)
    | apply c96
    | apply c26
    | apply c31
    | exact ()
end Go.Proofs.YtcmckiiafgcmjaaGreat
