/- Walks by the calculus D. No condition beside those that each theorem names. -/
import Derived.Test.YtdlhbbhdfnnmnaaGreatDi
import Derived.Test.YtdlhbbhdfnnmnaaGreatMo
import Derived.Test.YtdlhbbhdfnnmnaaGreatDs
import Derived.Test.YtdlhbbhdfnnmnaaGreatSo
import Derived.Test.YtdlhbbhdfnnmnaaGreatWb
import Derived.Test.YtdlhbbhdfnnmnaaGreatWc
import Derived.Test.YtdlhbbhdfnnmnaaGreatWd
namespace Go.Proofs.YtdlhbbhdfnnmnaaGreat
open Go Go.Li Go.Dk
set_option linter.unusedVariables false
set_option maxHeartbeats 1000000
set_option maxRecDepth 100000
theorem c55 {x0 : MCategory} {v_x0_From : Value} {v_x0_To : Value} {v_x0_Identity : Value} {v_x0_Composites : Value} {x1 : Int} : Ct Tryz.prog 55 true (laws_szCategory x0 x1) [.agg #[.int .i64 (x0.Objects), v_x0_From, v_x0_To, v_x0_Identity, v_x0_Composites], .int .i64 (x1)] [.rd false (sImm (sInt .i64)) v_x0_From x0.From, .rd false (sImm (sInt .i64)) v_x0_To x0.To, .rd false (sImm (sInt .i64)) v_x0_Identity x0.Identity, .rd false (sImm (sImm (sInt .i64))) v_x0_Composites x0.Composites] (fun y (_ : Unit) => [.int .i64 y]) (fun y _ => []) := by
  refine ct (S := Unit) (owt fun _ _ => rfl) Tryz.func55 rfl rfl ?_
  repeat' first
    | intro _
    | exact rfl
    | (refine @id.{0} _ ?_; constructor)
    | apply c95
    | apply c73
    | exact ()
theorem c28 {x0 : MSetFunctor} {v_x0_Shape_From : Value} {v_x0_Shape_To : Value} {v_x0_Shape_Identity : Value} {v_x0_Shape_Composites : Value} {v_x0_Sizes : Value} {v_x0_Actions : Value} {x1 : Int} : Ct Tryz.prog 28 true (laws_szSetFunctor x0 x1) [.agg #[.int .i64 (x0.Shape.Objects), v_x0_Shape_From, v_x0_Shape_To, v_x0_Shape_Identity, v_x0_Shape_Composites, v_x0_Sizes, v_x0_Actions], .int .i64 (x1)] [.rd false (sImm (sInt .i64)) v_x0_Shape_From x0.Shape.From, .rd false (sImm (sInt .i64)) v_x0_Shape_To x0.Shape.To, .rd false (sImm (sInt .i64)) v_x0_Shape_Identity x0.Shape.Identity, .rd false (sImm (sImm (sInt .i64))) v_x0_Shape_Composites x0.Shape.Composites, .rd false (sImm (sInt .i64)) v_x0_Sizes x0.Sizes, .rd false (sImm (sImm (sInt .i64))) v_x0_Actions x0.Actions] (fun y (_ : Unit) => [.int .i64 y]) (fun y _ => []) := by
  refine ct (S := Unit) (owt fun _ _ => rfl) Tryz.func28 rfl rfl ?_
  repeat' first
    | intro _
    | exact rfl
    | (refine @id.{0} _ ?_; constructor)
    | apply c55
    | apply c95
    | apply c73
    | exact ()
theorem c303 {x0 : List (List Int)} {v_x0 : Value} : Ct Tryz.prog 303 true (sortM_impl_Category_sieves_2 x0) [v_x0, .func (.func 304) #[] #[]] [.own (sOwn 157 (sOwn 2 (sInt .i64))) v_x0 x0] (fun _ (_ : Unit) => []) (fun y _ => [.own (sOwn 157 (sOwn 2 (sInt .i64))) v_x0 y]) := by
  refine ct_inout (m := sortM_impl_Category_sieves_2) fun {w} {f} o_x0 {y} hm => ?_
  unfold sortM_impl_Category_sieves_2 at hm
  split at hm
  · rename_i h
    cases hm
    have hcon := sort_rows Tryz.sort303 (g := 304) (e1 := 157) (T := (sOwn 2 (sInt .i64))) rfl (fun args w => enters_of Tryz.func304 (by kernel_rfl) rfl args w) (xs := x0)
      (fun {W} {x} {y} {vx} {vy} {fx} {fy} hx hy mx my => ct_read (c304 (x0 := x) (x1 := y) (v_x0 := vx) (v_x1 := vy)) (.fact (fact_rd ((Le.own (Le.refl _) 2).le hx)) (.fact (fact_rd ((Le.own (Le.refl _) 2).le hy)) .nil)) (h.2.2 x mx y my)) h.1 h.2.1 o_x0
    change Calls Tryz.prog 303 _ _ _ at hcon
    exact hcon
  · cases hm
theorem c209 {x0 : (List Int)} {v_x0 : Value} {x1 : (List Int)} {p_x1 : Addr} {v_x1 : Value} : Ct Tryz.prog 209 true (impl_classifier_number_1 x0 x1) [v_x0, .pointer (some (p_x1))] [.ats p_x1 [v_x1], .rd false (sImm (sInt .i64)) v_x0 x0, .rd false (sImm (sInt .i64)) v_x1 x1] (fun y (_ : Unit) => [.bool y]) (fun y _ => []) := by
  refine ct (S := Unit) (owt fun _ _ => rfl) Tryz.func209 rfl rfl ?_
  repeat' first
    | intro _
    | exact rfl
    | (refine @id.{0} _ ?_; constructor)
    | apply c172
    | exact ()
theorem c208_k209 {x0 : (List (List Int))} {v_x0 : Value} {q_x1 : (List Int)} {q_p_x1 : Addr} {q_v_x1 : Value} : Ct Tryz.prog 208 true (slices_IndexFunc___impl_sieve_impl_sieve_ x0 (fun a0 => impl_classifier_number_1 a0 q_x1)) [v_x0, .func (.func 209) #[] #[.pointer (some (q_p_x1))]] [.rd false (sImm (sImm (sInt .i64))) v_x0 x0, .ats q_p_x1 [q_v_x1], .rd false (sImm (sInt .i64)) q_v_x1 q_x1] (fun y (_ : Unit) => [.int .i64 y]) (fun y _ => []) := by
  refine ct (S := Unit) (owt fun _ _ => rfl) Tryz.func208 rfl rfl ?_
  repeat' first
    | intro _
    | exact rfl
    | (refine @id.{0} _ ?_; constructor)
    | apply Dk.loop 0 (V := Unit) (fun (s : Int) v => []) (fun s v => [(8, .int .i64 (s))]) () [(0, _), (1, _), (7, _)]
    | apply c209
    | exact ()
theorem c223 {x0 : MCategory} {p_x0 : Addr} {v_x0_From : Value} {v_x0_To : Value} {v_x0_Identity : Value} {v_x0_Composites : Value} {x1 : Int} {x2 : (List Int)} {v_x2 : Value} : Ct Tryz.prog 223 true (impl_all x0 x1 x2) [.pointer (some (p_x0)), .int .i64 (x1), .iface 157 (v_x2)] [.ats p_x0 [.int .i64 (x0.Objects), v_x0_From, v_x0_To, v_x0_Identity, v_x0_Composites], .rd false (sImm (sInt .i64)) v_x0_From x0.From, .rd false (sImm (sInt .i64)) v_x0_To x0.To, .rd false (sImm (sInt .i64)) v_x0_Identity x0.Identity, .rd false (sImm (sImm (sInt .i64))) v_x0_Composites x0.Composites, .rd false (sImm (sInt .i64)) v_x2 x2] (fun y (_ : Unit) => [.bool y]) (fun y _ => []) := by
  refine ct (S := Unit) (owt fun _ _ => rfl) Tryz.func223 rfl rfl ?_
  repeat' first
    | intro _
    | exact rfl
    | (refine @id.{0} _ ?_; constructor)
    | apply c388
    | exact Dk.bxi (by kernel_rfl)
    | exact ()
theorem c119 {x0 : MClassifier} {p_x0 : Addr} {v_x0_Sets_Shape_From : Value} {v_x0_Sets_Shape_To : Value} {v_x0_Sets_Shape_Identity : Value} {v_x0_Sets_Shape_Composites : Value} {v_x0_Sets_Sizes : Value} {v_x0_Sets_Actions : Value} {v_x0_Sieves : Value} : Ct Tryz.prog 119 true (impl_classifier_tops x0) [.pointer (some (p_x0))] [.ats p_x0 [.int .i64 (x0.Sets.Shape.Objects), v_x0_Sets_Shape_From, v_x0_Sets_Shape_To, v_x0_Sets_Shape_Identity, v_x0_Sets_Shape_Composites, v_x0_Sets_Sizes, v_x0_Sets_Actions, v_x0_Sieves], .rd false (sImm (sInt .i64)) v_x0_Sets_Shape_From x0.Sets.Shape.From, .rd false (sImm (sInt .i64)) v_x0_Sets_Shape_To x0.Sets.Shape.To, .rd false (sImm (sInt .i64)) v_x0_Sets_Shape_Identity x0.Sets.Shape.Identity, .rd false (sImm (sImm (sInt .i64))) v_x0_Sets_Shape_Composites x0.Sets.Shape.Composites, .rd false (sImm (sInt .i64)) v_x0_Sets_Sizes x0.Sets.Sizes, .rd false (sImm (sImm (sInt .i64))) v_x0_Sets_Actions x0.Sets.Actions, .rd false (sImm (sImm (sImm (sInt .i64)))) v_x0_Sieves x0.Sieves] (fun y (v : Value) => [v]) (fun y v => [.own (sOwn 2 (sInt .i64)) v y]) := by
  refine ct (S := Unit) (owt fun _ _ => rfl) Tryz.func119 rfl rfl ?_
  repeat' first
    | intro _
    | exact rfl
    | (refine @id.{0} _ ?_; constructor)
    | apply Dk.loop 0 (V := Value) (fun (s : (List Int) × Int) v => [.own (sOwn 2 (sInt .i64)) v s.1]) (fun s v => [(3, v), (14, .int .i64 (s.2))]) _ [(0, _), (12, _), (13, _)]
    | apply Dk.loop 2 (V := Value) (fun (s : (List Int) × Int) v => [.own (sOwn 2 (sInt .i64)) v s.1]) (fun s v => [(3, v), (21, .int .i64 (s.2))]) _ [(0, _), (4, _), (12, _), (13, _), (14, _), (19, _), (20, _)]
    | apply c223
    | exact ()
theorem c122 {x0 : (List (List (List Int)))} {v_x0 : Value} {x1 : Int} : Ct Tryz.prog 122 true (laws_szInt64SSS x0 x1) [v_x0, .int .i64 (x1)] [.rd false (sImm (sImm (sImm (sInt .i64)))) v_x0 x0] (fun y (_ : Unit) => [.int .i64 y]) (fun y _ => []) := by
  refine ct (S := Unit) (owt fun _ _ => rfl) Tryz.func122 rfl rfl ?_
  repeat' first
    | intro _
    | exact rfl
    | (refine @id.{0} _ ?_; constructor)
    | apply Dk.loop 0 (V := Unit) (fun (s : Int × Int) v => []) (fun s v => [(1, .int .i64 (s.1)), (5, .int .i64 (s.2))]) () [(0, _)]
    | apply c73
    | exact ()
theorem c47 {x0 : MTopology} {v_x0_Shape_From : Value} {v_x0_Shape_To : Value} {v_x0_Shape_Identity : Value} {v_x0_Shape_Composites : Value} {v_x0_Covers : Value} {x1 : Int} : Ct Tryz.prog 47 true (laws_szTopology x0 x1) [.agg #[.int .i64 (x0.Shape.Objects), v_x0_Shape_From, v_x0_Shape_To, v_x0_Shape_Identity, v_x0_Shape_Composites, v_x0_Covers], .int .i64 (x1)] [.rd false (sImm (sInt .i64)) v_x0_Shape_From x0.Shape.From, .rd false (sImm (sInt .i64)) v_x0_Shape_To x0.Shape.To, .rd false (sImm (sInt .i64)) v_x0_Shape_Identity x0.Shape.Identity, .rd false (sImm (sImm (sInt .i64))) v_x0_Shape_Composites x0.Shape.Composites, .rd false (sImm (sImm (sImm (sInt .i64)))) v_x0_Covers x0.Covers] (fun y (_ : Unit) => [.int .i64 y]) (fun y _ => []) := by
  refine ct (S := Unit) (owt fun _ _ => rfl) Tryz.func47 rfl rfl ?_
  repeat' first
    | intro _
    | exact rfl
    | (refine @id.{0} _ ?_; constructor)
    | apply c55
    | apply c122
    | exact ()
theorem c227 {x0 : ML27Table} {v_x0_C_From : Value} {v_x0_C_To : Value} {v_x0_C_Identity : Value} {v_x0_C_Composites : Value} {v_x0_Lists : Value} {v_x0_Pulls : Value} {v_x0_Tops : Value} {x1 : (List (List Bool))} {v_x1 : Value} : Ct Tryz.prog 227 true (spec_l27Is x0 x1) [.agg #[.int .i64 (x0.C.Objects), v_x0_C_From, v_x0_C_To, v_x0_C_Identity, v_x0_C_Composites, v_x0_Lists, v_x0_Pulls, v_x0_Tops], v_x1] [.rd false (sImm (sInt .i64)) v_x0_C_From x0.C.From, .rd false (sImm (sInt .i64)) v_x0_C_To x0.C.To, .rd false (sImm (sInt .i64)) v_x0_C_Identity x0.C.Identity, .rd false (sImm (sImm (sInt .i64))) v_x0_C_Composites x0.C.Composites, .rd false (sImm (sImm (sImm (sInt .i64)))) v_x0_Lists x0.Lists, .rd false (sImm (sImm (sInt .i64))) v_x0_Pulls x0.Pulls, .rd false (sImm (sInt .i64)) v_x0_Tops x0.Tops, .rd false (sImm (sImm sBool)) v_x1 x1] (fun y (_ : Unit) => [.bool y]) (fun y _ => []) := by
  refine ct (S := Unit) (owt fun _ _ => rfl) Tryz.func227 rfl rfl ?_
  repeat' first
    | intro _
    | exact rfl
    | (refine @id.{0} _ ?_; constructor)
    | apply Dk.loop 0 (V := Value) (fun (s : (List (List Bool)) × Int) v => [.own (sOwn 213 (sOwn 4 sBool)) v s.1]) (fun s v => [(5, v), (6, .int .i64 (s.2))]) _ [(1, _), (2, _)]
    | apply c307
    | exact ()
end Go.Proofs.YtdlhbbhdfnnmnaaGreat
