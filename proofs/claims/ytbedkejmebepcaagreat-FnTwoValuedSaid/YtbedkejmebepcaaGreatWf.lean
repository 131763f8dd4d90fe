/- Walks by the calculus D. No condition beside those that each theorem names. -/
import Derived.Test.YtbedkejmebepcaaGreatDi
import Derived.Test.YtbedkejmebepcaaGreatMo
import Derived.Test.YtbedkejmebepcaaGreatDg
import Derived.Test.YtbedkejmebepcaaGreatDs
import Derived.Test.YtbedkejmebepcaaGreatSo
import Derived.Test.YtbedkejmebepcaaGreatWa
import Derived.Test.YtbedkejmebepcaaGreatWb
import Derived.Test.YtbedkejmebepcaaGreatWc
namespace Go.Proofs.YtbedkejmebepcaaGreat
open Go Go.Li Go.Dk
set_option linter.unusedVariables false
set_option maxHeartbeats 1000000
set_option maxRecDepth 100000
theorem c84 {x0 : ML01Source} {b_x0 : Nat} {v_x0_Code : Value} : Ct Tryz.prog 84 true (spec_l02Monoid x0) [.pointer (some (⟨b_x0, 0, none⟩))] [.row b_x0 [v_x0_Code, .int .i64 (x0.At), .int .u64 (x0.Hash)] 68, .rd false (sImm (sInt .u8)) v_x0_Code x0.Code] (fun y (v : Value) => [v]) (fun y v => [.own (sOwn 24 (sOwn 2 (sInt .i64))) v y.1, .row b_x0 [v_x0_Code, .int .i64 y.2.At, .int .u64 y.2.Hash] 68]) := by
  refine ct (S := Unit) (owt fun _ _ => rfl) Tryz.func84 rfl rfl ?_
  repeat' first
    | intro _
    | exact rfl
    | apply Dk.D.asl (d := 2) (x := .tmp 8)
    | apply Dk.D.asl (d := 2) (x := .tmp 13)
    | apply Dk.D.asl (d := 2) (x := .tmp 18)
    | apply Dk.D.asl (d := 2) (x := .tmp 24)
    | apply Dk.D.asl (d := 2) (x := .tmp 30)
    | apply Dk.D.asl (d := 2) (x := .tmp 36)
    | apply Dk.D.asl (d := 2) (x := .tmp 43)
    | apply Dk.D.asl (d := 2) (x := .tmp 47)
    | (refine @id.{0} _ ?_; constructor)
    | apply c14
    | exact ()
theorem c32 {x0 : MCategory} {p_x0 : Addr} {v_x0_From : Value} {v_x0_To : Value} {v_x0_Identity : Value} {v_x0_Composites : Value} : Ct Tryz.prog 32 true (impl_Category_fault x0) [.pointer (some (p_x0))] [.ats p_x0 [.int .i64 (x0.Objects), v_x0_From, v_x0_To, v_x0_Identity, v_x0_Composites], .rd false (sImm (sInt .i64)) v_x0_From x0.From, .rd false (sImm (sInt .i64)) v_x0_To x0.To, .rd false (sImm (sInt .i64)) v_x0_Identity x0.Identity, .rd false (sImm (sImm (sInt .i64))) v_x0_Composites x0.Composites] (fun y (_ : Unit) => [.int .i64 y.1, .int .i64 y.2.1, .int .i64 y.2.2.1, .int .i64 y.2.2.2]) (fun y _ => []) := by
  refine ct (S := Unit) (owt fun _ _ => rfl) Tryz.func32 rfl rfl ?_
  repeat' first
    | intro _
    | exact rfl
    | (refine Dk.cdR (t := 64) rfl ?_ ?_)
    | (refine Dk.cdR (t := 74) rfl ?_ ?_)
    | (refine @id.{0} _ ?_; constructor)
    | apply Dk.loop 0 (V := Unit) (fun (s : Int) v => []) (fun s v => [(7, .int .i64 (s))]) () [(0, _), (6, _)]
    | apply Dk.loop 2 (V := Unit) (fun (s : Int) v => []) (fun s v => [(8, .int .i64 (s))]) () [(0, _), (6, _)]
    | apply Dk.loop 4 (V := Unit) (fun (s : Int) v => []) (fun s v => [(9, .int .i64 (s))]) () [(0, _), (6, _), (8, _)]
    | apply Dk.loop 6 (V := Unit) (fun (s : Int) v => []) (fun s v => [(10, .int .i64 (s))]) () [(0, _), (6, _), (8, _), (9, _)]
    | apply Dk.quiet (id := 5) (by kernel_rfl)
    | apply c33
    | apply c35
    | exact ()
theorem c66 {x0 : (List (List Int))} {v_x0 : Value} : Ct Tryz.prog 66 true (impl_clones x0) [v_x0] [.rd false (sImm (sImm (sInt .i64))) v_x0 x0] (fun y (v : Value) => [v]) (fun y v => [.own (sOwn 24 (sOwn 2 (sInt .i64))) v y]) := by
  refine ct (S := Unit) (owt fun _ _ => rfl) Tryz.func66 rfl rfl ?_
  repeat' first
    | intro _
    | exact rfl
    | (refine @id.{0} _ ?_; constructor)
    | apply Dk.loop 0 (V := Value) (fun (s : (List (List Int)) × Int) v => [.own (sOwn 24 (sOwn 2 (sInt .i64))) v s.1]) (fun s v => [(3, v), (11, .int .i64 (s.2))]) _ [(9, _), (10, _)]
    | apply c65
    | exact ()
theorem c41 {x0 : MCategory} {p_x0 : Addr} {v_x0_From : Value} {v_x0_To : Value} {v_x0_Identity : Value} {v_x0_Composites : Value} : Ct Tryz.prog 41 true (impl_Category_copy x0) [.pointer (some (p_x0))] [.ats p_x0 [.int .i64 (x0.Objects), v_x0_From, v_x0_To, v_x0_Identity, v_x0_Composites], .rd false (sImm (sInt .i64)) v_x0_From x0.From, .rd false (sImm (sInt .i64)) v_x0_To x0.To, .rd false (sImm (sInt .i64)) v_x0_Identity x0.Identity, .rd false (sImm (sImm (sInt .i64))) v_x0_Composites x0.Composites] (fun y (v : Value × Value × Value × Value) => [.agg #[.int .i64 y.Objects, v.1, v.2.1, v.2.2.1, v.2.2.2]]) (fun y v => [.own (sOwn 2 (sInt .i64)) v.1 y.From, .own (sOwn 2 (sInt .i64)) v.2.1 y.To, .own (sOwn 2 (sInt .i64)) v.2.2.1 y.Identity, .own (sOwn 24 (sOwn 2 (sInt .i64))) v.2.2.2 y.Composites]) := by
  refine ct (S := Unit) (owt fun _ _ => rfl) Tryz.func41 rfl rfl ?_
  repeat' first
    | intro _
    | exact rfl
    | (refine @id.{0} _ ?_; constructor)
    | apply Dk.any (id := 1) 24 [] [] [[], [0], [1, 0], [2, 1, 0], [], [4], [5, 4], [6, 5, 4], [7, 6, 5, 4], [], [9], [10, 9], [11, 10, 9], [12, 11, 10, 9, 8, 7, 6, 5, 4], [], [14], [15, 14], [16, 15, 14], [17, 16, 15, 14, 13, 12, 11, 10, 9, 8, 7, 6, 5, 4], [], [19], [20, 19], [21, 20, 19], [22, 21, 20, 19, 18, 17, 16, 15, 14, 13, 12, 11, 10, 9, 8, 7, 6, 5, 4]] (by kernel_rfl)
    | apply c65
    | apply c66
    | exact ()
theorem c71 {x0 : (List Int)} {v_x0 : Value} {x1 : (List Int)} {v_x1 : Value} : Ct Tryz.prog 71 true (impl_Category_sieves_2 x0 x1) [v_x0, v_x1] [.rd false (sImm (sInt .i64)) v_x0 x0, .rd false (sImm (sInt .i64)) v_x1 x1] (fun y (_ : Unit) => [.int .i64 y]) (fun y _ => []) := by
  refine ct (S := Unit) (owt fun _ _ => rfl) Tryz.func71 rfl rfl ?_
  repeat' first
    | intro _
    | exact rfl
    | (refine @id.{0} _ ?_; constructor)
    | apply c72
    | exact ()
theorem c70 {x0 : List (List Int)} {v_x0 : Value} : Ct Tryz.prog 70 true (sortM_impl_Category_sieves_2 x0) [v_x0, .func (.func 71) #[] #[]] [.own (sOwn 48 (sOwn 2 (sInt .i64))) v_x0 x0] (fun _ (_ : Unit) => []) (fun y _ => [.own (sOwn 48 (sOwn 2 (sInt .i64))) v_x0 y]) := by
  refine ct_inout (m := sortM_impl_Category_sieves_2) fun {w} {f} o_x0 {y} hm => ?_
  unfold sortM_impl_Category_sieves_2 at hm
  split at hm
  · rename_i h
    cases hm
    have hcon := sort_rows Tryz.sort70 (g := 71) (e1 := 48) (T := (sOwn 2 (sInt .i64))) rfl (fun args w => enters_of Tryz.func71 (by kernel_rfl) rfl args w) (xs := x0)
      (fun {W} {x} {y} {vx} {vy} {fx} {fy} hx hy mx my => ct_read (c71 (x0 := x) (x1 := y) (v_x0 := vx) (v_x1 := vy)) (.fact (fact_rd ((Le.own (Le.refl _) 2).le hx)) (.fact (fact_rd ((Le.own (Le.refl _) 2).le hy)) .nil)) (h.2.2 x mx y my)) h.1 h.2.1 o_x0
    change Calls Tryz.prog 70 _ _ _ at hcon
    exact hcon
  · cases hm
theorem c49 {x0 : MPart} {v_x0_Members : Value} {x1 : Int} {x2 : Int} : Ct Tryz.prog 49 true (impl_Part_holds x0 x1 x2) [.agg #[v_x0_Members], .int .i64 (x1), .int .i64 (x2)] [.rd false (sImm (sImm (sInt .i64))) v_x0_Members x0.Members] (fun y (_ : Unit) => [.bool y]) (fun y _ => []) := by
  refine ct (S := Unit) (owt fun _ _ => rfl) Tryz.func49 rfl rfl ?_
  repeat' first
    | intro _
    | exact rfl
    | (refine @id.{0} _ ?_; constructor)
    | apply c75
    | exact ()
theorem c79 {x0 : Int} {x1 : Int} {x2 : MSetFunctor} {p_x2q : Addr} {p_x2 : Addr} {v_x2_Shape_From : Value} {v_x2_Shape_To : Value} {v_x2_Shape_Identity : Value} {v_x2_Shape_Composites : Value} {v_x2_Sizes : Value} {v_x2_Actions : Value} {x3 : MPart} {p_x3 : Addr} {v_x3_Members : Value} {x4 : MPart} {p_x4 : Addr} {v_x4_Members : Value} : Ct Tryz.prog 79 true (impl_SetFunctor_imply_1 x0 x1 x2 x3 x4) [.int .i64 (x0), .int .i64 (x1), .pointer (some (p_x2q)), .pointer (some (p_x3)), .pointer (some (p_x4))] [.ats p_x4 [v_x4_Members], .ats p_x3 [v_x3_Members], .ats p_x2q [.pointer (some (p_x2))], .ats p_x2 [.int .i64 (x2.Shape.Objects), v_x2_Shape_From, v_x2_Shape_To, v_x2_Shape_Identity, v_x2_Shape_Composites, v_x2_Sizes, v_x2_Actions], .rd false (sImm (sInt .i64)) v_x2_Shape_From x2.Shape.From, .rd false (sImm (sInt .i64)) v_x2_Shape_To x2.Shape.To, .rd false (sImm (sInt .i64)) v_x2_Shape_Identity x2.Shape.Identity, .rd false (sImm (sImm (sInt .i64))) v_x2_Shape_Composites x2.Shape.Composites, .rd false (sImm (sInt .i64)) v_x2_Sizes x2.Sizes, .rd false (sImm (sImm (sInt .i64))) v_x2_Actions x2.Actions, .rd false (sImm (sImm (sInt .i64))) v_x3_Members x3.Members, .rd false (sImm (sImm (sInt .i64))) v_x4_Members x4.Members] (fun y (_ : Unit) => [.bool y]) (fun y _ => []) := by
  refine ct (S := Unit) (owt fun _ _ => rfl) Tryz.func79 rfl rfl ?_
  repeat' first
    | intro _
    | exact rfl
    | (refine @id.{0} _ ?_; constructor)
    | apply Dk.loop 0 (V := Unit) (fun (s : Int) v => []) (fun s v => [(18, .int .i64 (s))]) () [(1, _), (2, _), (3, _), (4, _), (16, _), (17, _)]
    | apply Dk.quiet (id := 4) (by kernel_rfl)
    | apply c34
    | apply c49
    | exact ()
theorem c48 {x0 : Int} {x1 : Int} {x2 : MPart} {p_x2 : Addr} {v_x2_Members : Value} {x3 : MPart} {p_x3 : Addr} {v_x3_Members : Value} : Ct Tryz.prog 48 true (impl_SetFunctor_join_1 x0 x1 x2 x3) [.int .i64 (x0), .int .i64 (x1), .pointer (some (p_x2)), .pointer (some (p_x3))] [.ats p_x3 [v_x3_Members], .ats p_x2 [v_x2_Members], .rd false (sImm (sImm (sInt .i64))) v_x2_Members x2.Members, .rd false (sImm (sImm (sInt .i64))) v_x3_Members x3.Members] (fun y (_ : Unit) => [.bool y]) (fun y _ => []) := by
  refine ct (S := Unit) (owt fun _ _ => rfl) Tryz.func48 rfl rfl ?_
  repeat' first
    | intro _
    | exact rfl
    | (refine @id.{0} _ ?_; constructor)
    | apply c49
    | exact ()
end Go.Proofs.YtbedkejmebepcaaGreat
