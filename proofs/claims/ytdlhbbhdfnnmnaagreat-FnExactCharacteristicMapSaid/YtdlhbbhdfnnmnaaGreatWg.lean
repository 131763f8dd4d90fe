/- Walks by the calculus D. No condition beside those that each theorem names. -/
import Derived.Test.YtdlhbbhdfnnmnaaGreatDi
import Derived.Test.YtdlhbbhdfnnmnaaGreatMo
import Derived.Test.YtdlhbbhdfnnmnaaGreatDs
import Derived.Test.YtdlhbbhdfnnmnaaGreatSo
import Derived.Test.YtdlhbbhdfnnmnaaGreatWc
import Derived.Test.YtdlhbbhdfnnmnaaGreatWd
namespace Go.Proofs.YtdlhbbhdfnnmnaaGreat
open Go Go.Li Go.Dk
set_option linter.unusedVariables false
set_option maxHeartbeats 1000000
set_option maxRecDepth 100000
theorem c55 {x0 : MCategory} {v_x0_From : Value} {v_x0_To : Value} {v_x0_Identity : Value} {v_x0_Composites : Value} {x1 : Int} : Ct Tryz.prog 55 true (laws_szCategory x0 x1) [.agg #[.int .i64 (x0.Objects), v_x0_From, v_x0_To, v_x0_Identity, v_x0_Composites], .int .i64 (x1)] [.rd false (sImm (sInt .i64)) v_x0_From x0.From, .rd false (sImm (sInt .i64)) v_x0_To x0.To, .rd false (sImm (sInt .i64)) v_x0_Identity x0.Identity, .rd false (sImm (sImm (sInt .i64))) v_x0_Composites x0.Composites] (fun y (_ : Unit) => [.int .i64 y]) (fun y _ => []) := by
  refine ct (S := Unit) (owt fun _ _ => rfl) Tryz.func55 rfl rfl ?_
  repeat' first
    | intro _
    | exact rfl
    | (refine @id.{0} _ ?_; constructor)
    | apply c95
    | apply c73
    | exact ()
theorem c28 {x0 : MSetFunctor} {v_x0_Shape_From : Value} {v_x0_Shape_To : Value} {v_x0_Shape_Identity : Value} {v_x0_Shape_Composites : Value} {v_x0_Sizes : Value} {v_x0_Actions : Value} {x1 : Int} : Ct Tryz.prog 28 true (laws_szSetFunctor x0 x1) [.agg #[.int .i64 (x0.Shape.Objects), v_x0_Shape_From, v_x0_Shape_To, v_x0_Shape_Identity, v_x0_Shape_Composites, v_x0_Sizes, v_x0_Actions], .int .i64 (x1)] [.rd false (sImm (sInt .i64)) v_x0_Shape_From x0.Shape.From, .rd false (sImm (sInt .i64)) v_x0_Shape_To x0.Shape.To, .rd false (sImm (sInt .i64)) v_x0_Shape_Identity x0.Shape.Identity, .rd false (sImm (sImm (sInt .i64))) v_x0_Shape_Composites x0.Shape.Composites, .rd false (sImm (sInt .i64)) v_x0_Sizes x0.Sizes, .rd false (sImm (sImm (sInt .i64))) v_x0_Actions x0.Actions] (fun y (_ : Unit) => [.int .i64 y]) (fun y _ => []) := by
  refine ct (S := Unit) (owt fun _ _ => rfl) Tryz.func28 rfl rfl ?_
  repeat' first
    | intro _
    | exact rfl
    | (refine @id.{0} _ ?_; constructor)
    | apply c55
    | apply c95
    | apply c73
    | exact ()
theorem c173 {x0 : MCategory} {p_x0 : Addr} {v_x0_From : Value} {v_x0_To : Value} {v_x0_Identity : Value} {v_x0_Composites : Value} : Ct Tryz.prog 173 true (impl_Category_copy x0) [.pointer (some (p_x0))] [.ats p_x0 [.int .i64 (x0.Objects), v_x0_From, v_x0_To, v_x0_Identity, v_x0_Composites], .rd false (sImm (sInt .i64)) v_x0_From x0.From, .rd false (sImm (sInt .i64)) v_x0_To x0.To, .rd false (sImm (sInt .i64)) v_x0_Identity x0.Identity, .rd false (sImm (sImm (sInt .i64))) v_x0_Composites x0.Composites] (fun y (v : Value × Value × Value × Value) => [.agg #[.int .i64 y.Objects, v.1, v.2.1, v.2.2.1, v.2.2.2]]) (fun y v => [.own (sOwn 2 (sInt .i64)) v.1 y.From, .own (sOwn 2 (sInt .i64)) v.2.1 y.To, .own (sOwn 2 (sInt .i64)) v.2.2.1 y.Identity, .own (sOwn 22 (sOwn 2 (sInt .i64))) v.2.2.2 y.Composites]) := by
  refine ct (S := Unit) (owt fun _ _ => rfl) Tryz.func173 rfl rfl ?_
  repeat' first
    | intro _
    | exact rfl
    | (refine @id.{0} _ ?_; constructor)
    | apply Dk.any (id := 1) 24 [] [] [[], [0], [1, 0], [2, 1, 0], [], [4], [5, 4], [6, 5, 4], [7, 6, 5, 4], [], [9], [10, 9], [11, 10, 9], [12, 11, 10, 9, 8, 7, 6, 5, 4], [], [14], [15, 14], [16, 15, 14], [17, 16, 15, 14, 13, 12, 11, 10, 9, 8, 7, 6, 5, 4], [], [19], [20, 19], [21, 20, 19], [22, 21, 20, 19, 18, 17, 16, 15, 14, 13, 12, 11, 10, 9, 8, 7, 6, 5, 4]] (by kernel_rfl)
    | apply c176
    | apply c213
    | exact ()
theorem c303 {x0 : List (List Int)} {v_x0 : Value} : Ct Tryz.prog 303 true (sortM_impl_Category_sieves_2 x0) [v_x0, .func (.func 304) #[] #[]] [.own (sOwn 157 (sOwn 2 (sInt .i64))) v_x0 x0] (fun _ (_ : Unit) => []) (fun y _ => [.own (sOwn 157 (sOwn 2 (sInt .i64))) v_x0 y]) := by
  refine ct_inout (m := sortM_impl_Category_sieves_2) fun {w} {f} o_x0 {y} hm => ?_
  unfold sortM_impl_Category_sieves_2 at hm
  split at hm
  · rename_i h
    cases hm
    have hcon := sort_rows Tryz.sort303 (g := 304) (e1 := 157) (T := (sOwn 2 (sInt .i64))) rfl (fun args w => enters_of Tryz.func304 (by kernel_rfl) rfl args w) (xs := x0)
      (fun {W} {x} {y} {vx} {vy} {fx} {fy} hx hy mx my => ct_read (c304 (x0 := x) (x1 := y) (v_x0 := vx) (v_x1 := vy)) (.fact (fact_rd ((Le.own (Le.refl _) 2).le hx)) (.fact (fact_rd ((Le.own (Le.refl _) 2).le hy)) .nil)) (h.2.2 x mx y my)) h.1 h.2.1 o_x0
    change Calls Tryz.prog 303 _ _ _ at hcon
    exact hcon
  · cases hm
theorem c212 {x0 : MSetFunctor} {p_x0 : Addr} {v_x0_Shape_From : Value} {v_x0_Shape_To : Value} {v_x0_Shape_Identity : Value} {v_x0_Shape_Composites : Value} {v_x0_Sizes : Value} {v_x0_Actions : Value} : Ct Tryz.prog 212 true (impl_SetFunctor_copy x0) [.pointer (some (p_x0))] [.ats p_x0 [.int .i64 (x0.Shape.Objects), v_x0_Shape_From, v_x0_Shape_To, v_x0_Shape_Identity, v_x0_Shape_Composites, v_x0_Sizes, v_x0_Actions], .rd false (sImm (sInt .i64)) v_x0_Shape_From x0.Shape.From, .rd false (sImm (sInt .i64)) v_x0_Shape_To x0.Shape.To, .rd false (sImm (sInt .i64)) v_x0_Shape_Identity x0.Shape.Identity, .rd false (sImm (sImm (sInt .i64))) v_x0_Shape_Composites x0.Shape.Composites, .rd false (sImm (sInt .i64)) v_x0_Sizes x0.Sizes, .rd false (sImm (sImm (sInt .i64))) v_x0_Actions x0.Actions] (fun y (v : Value × Value × Value × Value × Value × Value) => [.agg #[.int .i64 y.Shape.Objects, v.1, v.2.1, v.2.2.1, v.2.2.2.1, v.2.2.2.2.1, v.2.2.2.2.2]]) (fun y v => [.own (sOwn 2 (sInt .i64)) v.1 y.Shape.From, .own (sOwn 2 (sInt .i64)) v.2.1 y.Shape.To, .own (sOwn 2 (sInt .i64)) v.2.2.1 y.Shape.Identity, .own (sOwn 22 (sOwn 2 (sInt .i64))) v.2.2.2.1 y.Shape.Composites, .own (sOwn 2 (sInt .i64)) v.2.2.2.2.1 y.Sizes, .own (sOwn 22 (sOwn 2 (sInt .i64))) v.2.2.2.2.2 y.Actions]) := by
  refine ct (S := Unit) (owt fun _ _ => rfl) Tryz.func212 rfl rfl ?_
  repeat' first
    | intro _
    | exact rfl
    | (refine @id.{0} _ ?_; constructor)
    | apply Dk.any (id := 1) 13 [] [] [[], [0], [1, 0], [2, 1, 0], [], [4], [5, 4], [6, 5, 4], [7, 6, 5, 4, 3, 2, 1, 0], [], [9], [10, 9], [11, 10, 9]] (by kernel_rfl)
    | apply c173
    | apply c176
    | apply c213
    | exact ()
theorem c61 {x0 : MCategory} {v_x0_From : Value} {v_x0_To : Value} {v_x0_Identity : Value} {v_x0_Composites : Value} {x1 : Int} : Ct Tryz.prog 61 true (laws_markCategory x0 x1) [.agg #[.int .i64 (x0.Objects), v_x0_From, v_x0_To, v_x0_Identity, v_x0_Composites], .int .i64 (x1)] [.own (sOwn 2 (sInt .i64)) v_x0_From x0.From, .own (sOwn 2 (sInt .i64)) v_x0_To x0.To, .own (sOwn 2 (sInt .i64)) v_x0_Identity x0.Identity, .own (sOwn 22 (sOwn 2 (sInt .i64))) v_x0_Composites x0.Composites] (fun y (_ : Unit) => [.int .i64 y.1]) (fun y _ => [.own (sOwn 2 (sInt .i64)) v_x0_From y.2.1, .own (sOwn 2 (sInt .i64)) v_x0_To y.2.2.1, .own (sOwn 2 (sInt .i64)) v_x0_Identity y.2.2.2.1, .own (sOwn 22 (sOwn 2 (sInt .i64))) v_x0_Composites y.2.2.2.2]) := by
  refine ct (S := Unit) (owt fun _ _ => rfl) Tryz.func61 rfl rfl ?_
  repeat' first
    | intro _
    | exact rfl
    | (refine @id.{0} _ ?_; constructor)
    | apply c92
    | apply c24
    | exact ()
theorem c23 {x0 : MSetFunctor} {v_x0_Shape_From : Value} {v_x0_Shape_To : Value} {v_x0_Shape_Identity : Value} {v_x0_Shape_Composites : Value} {v_x0_Sizes : Value} {v_x0_Actions : Value} {x1 : Int} : Ct Tryz.prog 23 true (laws_markSetFunctor x0 x1) [.agg #[.int .i64 (x0.Shape.Objects), v_x0_Shape_From, v_x0_Shape_To, v_x0_Shape_Identity, v_x0_Shape_Composites, v_x0_Sizes, v_x0_Actions], .int .i64 (x1)] [.own (sOwn 2 (sInt .i64)) v_x0_Shape_From x0.Shape.From, .own (sOwn 2 (sInt .i64)) v_x0_Shape_To x0.Shape.To, .own (sOwn 2 (sInt .i64)) v_x0_Shape_Identity x0.Shape.Identity, .own (sOwn 22 (sOwn 2 (sInt .i64))) v_x0_Shape_Composites x0.Shape.Composites, .own (sOwn 2 (sInt .i64)) v_x0_Sizes x0.Sizes, .own (sOwn 22 (sOwn 2 (sInt .i64))) v_x0_Actions x0.Actions] (fun y (_ : Unit) => [.int .i64 y.1]) (fun y _ => [.own (sOwn 2 (sInt .i64)) v_x0_Shape_From y.2.1, .own (sOwn 2 (sInt .i64)) v_x0_Shape_To y.2.2.1, .own (sOwn 2 (sInt .i64)) v_x0_Shape_Identity y.2.2.2.1, .own (sOwn 22 (sOwn 2 (sInt .i64))) v_x0_Shape_Composites y.2.2.2.2.1, .own (sOwn 2 (sInt .i64)) v_x0_Sizes y.2.2.2.2.2.1, .own (sOwn 22 (sOwn 2 (sInt .i64))) v_x0_Actions y.2.2.2.2.2.2]) := by
  refine ct (S := Unit) (owt fun _ _ => rfl) Tryz.func23 rfl rfl ?_
  repeat' first
    | intro _
    | exact rfl
    | (refine @id.{0} _ ?_; constructor)
    | apply c61
    | apply c92
    | apply c24
    | exact ()
theorem c40 {x0 : MPart} {v_x0_Members : Value} {x1 : Int} : Ct Tryz.prog 40 true (laws_markPart x0 x1) [.agg #[v_x0_Members], .int .i64 (x1)] [.own (sOwn 22 (sOwn 2 (sInt .i64))) v_x0_Members x0.Members] (fun y (_ : Unit) => [.int .i64 y.1]) (fun y _ => [.own (sOwn 22 (sOwn 2 (sInt .i64))) v_x0_Members y.2]) := by
  refine ct (S := Unit) (owt fun _ _ => rfl) Tryz.func40 rfl rfl ?_
  repeat' first
    | intro _
    | exact rfl
    | (refine @id.{0} _ ?_; constructor)
    | apply c24
    | exact ()
end Go.Proofs.YtdlhbbhdfnnmnaaGreat
