/- Walks by the calculus D. No condition beside those that each theorem names. -/
import Derived.Test.YtcmckiiafgcmjaaGreatDi
import Derived.Test.YtcmckiiafgcmjaaGreatMo
import Derived.Test.YtcmckiiafgcmjaaGreatSo
import Derived.Test.YtcmckiiafgcmjaaGreatWa
import Derived.Test.YtcmckiiafgcmjaaGreatWb
import Derived.Test.YtcmckiiafgcmjaaGreatWc
import Derived.Test.YtcmckiiafgcmjaaGreatWd
namespace Go.Proofs.YtcmckiiafgcmjaaGreat
open Go Go.Li Go.Dk
set_option linter.unusedVariables false
set_option maxHeartbeats 1000000
set_option maxRecDepth 100000
theorem c39 {x0 : MCategory} {v_x0_From : Value} {v_x0_To : Value} {v_x0_Identity : Value} {v_x0_Composites : Value} : Ct Tryz.prog 39 true (laws_toCategory x0) [.agg #[.int .i64 (x0.Objects), v_x0_From, v_x0_To, v_x0_Identity, v_x0_Composites]] [.rd false (sImm (sInt .i64)) v_x0_From x0.From, .rd false (sImm (sInt .i64)) v_x0_To x0.To, .rd false (sImm (sInt .i64)) v_x0_Identity x0.Identity, .rd false (sImm (sImm (sInt .i64))) v_x0_Composites x0.Composites] (fun y (v : Value × Value × Value × Value) => [.agg #[.int .i64 y.Objects, v.1, v.2.1, v.2.2.1, v.2.2.2]]) (fun y v => [.own (sOwn 2 (sInt .i64)) v.1 y.From, .own (sOwn 2 (sInt .i64)) v.2.1 y.To, .own (sOwn 2 (sInt .i64)) v.2.2.1 y.Identity, .own (sOwn 22 (sOwn 2 (sInt .i64))) v.2.2.2 y.Composites]) := by
  refine ct (S := Unit) (owt fun _ _ => rfl) Tryz.func39 rfl rfl ?_
  repeat' first
    | intro _
    | exact rfl
    | (refine @id.{0} _ ?_; constructor)
    | apply c21
    | apply c102
    | exact ()
theorem c72 {x0 : (List (List (List Int)))} {v_x0 : Value} : Ct Tryz.prog 72 true (laws_toInt64SSS x0) [v_x0] [.rd false (sImm (sImm (sImm (sInt .i64)))) v_x0 x0] (fun y (v : Value) => [v]) (fun y v => [.own (sOwn 23 (sOwn 22 (sOwn 2 (sInt .i64)))) v y]) := by
  refine ct (S := Unit) (owt fun _ _ => rfl) Tryz.func72 rfl rfl ?_
  repeat' first
    | intro _
    | exact rfl
    | (refine @id.{0} _ ?_; constructor)
    | apply Dk.loopA 0 (V := Unit) (A := Value) _ (fun a (s : Int × (List (List (List Int)))) v => [.own (sOwn 23 (sOwn 22 (sOwn 2 (sInt .i64)))) a s.2]) (fun a s v => [(3, a), (4, .int .i64 (s.1))]) () [(0, _)]
    | apply c102
    | exact ()
theorem c17 {x0 : MTopology} {v_x0_Shape_From : Value} {v_x0_Shape_To : Value} {v_x0_Shape_Identity : Value} {v_x0_Shape_Composites : Value} {v_x0_Covers : Value} : Ct Tryz.prog 17 true (laws_toTopology x0) [.agg #[.int .i64 (x0.Shape.Objects), v_x0_Shape_From, v_x0_Shape_To, v_x0_Shape_Identity, v_x0_Shape_Composites, v_x0_Covers]] [.rd false (sImm (sInt .i64)) v_x0_Shape_From x0.Shape.From, .rd false (sImm (sInt .i64)) v_x0_Shape_To x0.Shape.To, .rd false (sImm (sInt .i64)) v_x0_Shape_Identity x0.Shape.Identity, .rd false (sImm (sImm (sInt .i64))) v_x0_Shape_Composites x0.Shape.Composites, .rd false (sImm (sImm (sImm (sInt .i64)))) v_x0_Covers x0.Covers] (fun y (v : Value × Value × Value × Value × Value) => [.agg #[.int .i64 y.Shape.Objects, v.1, v.2.1, v.2.2.1, v.2.2.2.1, v.2.2.2.2]]) (fun y v => [.own (sOwn 2 (sInt .i64)) v.1 y.Shape.From, .own (sOwn 2 (sInt .i64)) v.2.1 y.Shape.To, .own (sOwn 2 (sInt .i64)) v.2.2.1 y.Shape.Identity, .own (sOwn 22 (sOwn 2 (sInt .i64))) v.2.2.2.1 y.Shape.Composites, .own (sOwn 23 (sOwn 22 (sOwn 2 (sInt .i64)))) v.2.2.2.2 y.Covers]) := by
  refine ct (S := Unit) (owt fun _ _ => rfl) Tryz.func17 rfl rfl ?_
  repeat' first
    | intro _
    | exact rfl
    | (refine @id.{0} _ ?_; constructor)
    | apply c39
    | apply c72
    | exact ()
theorem c162 {x0 : MCategory} {p_x0 : Addr} {v_x0_From : Value} {v_x0_To : Value} {v_x0_Identity : Value} {v_x0_Composites : Value} : Ct Tryz.prog 162 true (impl_Category_isShape x0) [.pointer (some (p_x0))] [.ats p_x0 [.int .i64 (x0.Objects), v_x0_From, v_x0_To, v_x0_Identity, v_x0_Composites], .rd false (sImm (sInt .i64)) v_x0_From x0.From, .rd false (sImm (sInt .i64)) v_x0_To x0.To, .rd false (sImm (sInt .i64)) v_x0_Identity x0.Identity, .rd false (sImm (sImm (sInt .i64))) v_x0_Composites x0.Composites] (fun y (_ : Unit) => [.bool y]) (fun y _ => []) := by
  refine ct (S := Unit) (owt fun _ _ => rfl) Tryz.func162 rfl rfl ?_
  repeat' first
    | intro _
    | exact rfl
    | (refine @id.{0} _ ?_; constructor)
    | apply Dk.loop 0 (V := Unit) (fun (s : Int) v => []) (fun s v => [(88, .int .i64 (s))]) () [(0, _), (3, _), (86, _), (87, _)]
    | apply Dk.loop 2 (V := Unit) (fun (s : Int) v => []) (fun s v => [(106, .int .i64 (s))]) () [(0, _), (3, _), (104, _), (105, _)]
    | apply Dk.loop 4 (V := Unit) (fun (s : Int) v => []) (fun s v => [(117, .int .i64 (s))]) () [(0, _), (3, _), (6, _), (104, _), (105, _), (106, _), (115, _), (116, _)]
    | apply Dk.quiet (id := 2) (by kernel_rfl)
    | apply Dk.quiet (id := 4) (by kernel_rfl)
    | apply Dk.quiet (id := 20) (by kernel_rfl)
    | apply Dk.quiet (id := 23) (by kernel_rfl)
    | apply c105
    | apply c81
    | apply c147
    | apply c212
    | exact ()
theorem c103 {x0 : MCategory} {p_x0 : Addr} {v_x0_From : Value} {v_x0_To : Value} {v_x0_Identity : Value} {v_x0_Composites : Value} : Ct Tryz.prog 103 true (impl_Category_isCategory x0) [.pointer (some (p_x0))] [.ats p_x0 [.int .i64 (x0.Objects), v_x0_From, v_x0_To, v_x0_Identity, v_x0_Composites], .rd false (sImm (sInt .i64)) v_x0_From x0.From, .rd false (sImm (sInt .i64)) v_x0_To x0.To, .rd false (sImm (sInt .i64)) v_x0_Identity x0.Identity, .rd false (sImm (sImm (sInt .i64))) v_x0_Composites x0.Composites] (fun y (_ : Unit) => [.bool y]) (fun y _ => []) := by
  refine ct (S := Unit) (owt fun _ _ => rfl) Tryz.func103 rfl rfl ?_
  repeat' first
    | intro _
    | exact rfl
    | (refine @id.{0} _ ?_; constructor)
    | apply c162
    | apply c163
    | exact ()
theorem c82 {x0 : MCategory} {p_x0 : Addr} {v_x0_From : Value} {v_x0_To : Value} {v_x0_Identity : Value} {v_x0_Composites : Value} {x1 : Int} {x2 : (List Int)} {v_x2 : Value} : Ct Tryz.prog 82 true (impl_Category_isSieve x0 x1 x2) [.pointer (some (p_x0)), .int .i64 (x1), v_x2] [.ats p_x0 [.int .i64 (x0.Objects), v_x0_From, v_x0_To, v_x0_Identity, v_x0_Composites], .rd false (sImm (sInt .i64)) v_x0_From x0.From, .rd false (sImm (sInt .i64)) v_x0_To x0.To, .rd false (sImm (sInt .i64)) v_x0_Identity x0.Identity, .rd false (sImm (sImm (sInt .i64))) v_x0_Composites x0.Composites, .rd false (sImm (sInt .i64)) v_x2 x2] (fun y (_ : Unit) => [.bool y]) (fun y _ => []) := by
  refine ct (S := Unit) (owt fun _ _ => rfl) Tryz.func82 rfl rfl ?_
  repeat' first
    | intro _
    | exact rfl
    | (refine @id.{0} _ ?_; constructor)
    | apply Dk.loop 0 (V := Unit) (fun (s : Int) v => []) (fun s v => [(23, .int .i64 (s))]) () [(0, _), (1, _), (2, _), (21, _), (22, _)]
    | apply Dk.loop 2 (V := Unit) (fun (s : Int) v => []) (fun s v => [(46, .int .i64 (s))]) () [(0, _), (1, _), (2, _), (8, _), (21, _), (22, _), (23, _), (44, _), (45, _)]
    | apply c146
    | apply c105
    | apply c147
    | apply c148
    | apply c150
    | apply c149
    | exact ()
theorem c42 {x0 : MCategory} {v_x0_From : Value} {v_x0_To : Value} {v_x0_Identity : Value} {v_x0_Composites : Value} {x1 : MCategory} {v_x1_From : Value} {v_x1_To : Value} {v_x1_Identity : Value} {v_x1_Composites : Value} : Ct Tryz.prog 42 true (laws_eqCategory x0 x1) [.agg #[.int .i64 (x0.Objects), v_x0_From, v_x0_To, v_x0_Identity, v_x0_Composites], .agg #[.int .i64 (x1.Objects), v_x1_From, v_x1_To, v_x1_Identity, v_x1_Composites]] [.rd false (sImm (sInt .i64)) v_x0_From x0.From, .rd false (sImm (sInt .i64)) v_x0_To x0.To, .rd false (sImm (sInt .i64)) v_x0_Identity x0.Identity, .rd false (sImm (sImm (sInt .i64))) v_x0_Composites x0.Composites, .rd false (sImm (sInt .i64)) v_x1_From x1.From, .rd false (sImm (sInt .i64)) v_x1_To x1.To, .rd false (sImm (sInt .i64)) v_x1_Identity x1.Identity, .rd false (sImm (sImm (sInt .i64))) v_x1_Composites x1.Composites] (fun y (_ : Unit) => [.bool y]) (fun y _ => []) := by
  refine ct (S := Unit) (owt fun _ _ => rfl) Tryz.func42 rfl rfl ?_
  repeat' first
    | intro _
    | exact rfl
    | (refine @id.{0} _ ?_; constructor)
    | apply c23
    | apply c29
    | exact ()
theorem c74 {x0 : (List (List (List Int)))} {v_x0 : Value} {x1 : (List (List (List Int)))} {v_x1 : Value} : Ct Tryz.prog 74 true (laws_eqInt64SSS x0 x1) [v_x0, v_x1] [.rd false (sImm (sImm (sImm (sInt .i64)))) v_x0 x0, .rd false (sImm (sImm (sImm (sInt .i64)))) v_x1 x1] (fun y (_ : Unit) => [.bool y]) (fun y _ => []) := by
  refine ct (S := Unit) (owt fun _ _ => rfl) Tryz.func74 rfl rfl ?_
  repeat' first
    | intro _
    | exact rfl
    | (refine @id.{0} _ ?_; constructor)
    | apply Dk.loop 0 (V := Unit) (fun (s : Int) v => []) (fun s v => [(5, .int .i64 (s))]) () [(0, _), (1, _)]
    | apply Dk.quiet (id := 6) (by kernel_rfl)
    | apply c29
    | exact ()
theorem c19 {x0 : MTopology} {v_x0_Shape_From : Value} {v_x0_Shape_To : Value} {v_x0_Shape_Identity : Value} {v_x0_Shape_Composites : Value} {v_x0_Covers : Value} {x1 : MTopology} {v_x1_Shape_From : Value} {v_x1_Shape_To : Value} {v_x1_Shape_Identity : Value} {v_x1_Shape_Composites : Value} {v_x1_Covers : Value} : Ct Tryz.prog 19 true (laws_eqTopology x0 x1) [.agg #[.int .i64 (x0.Shape.Objects), v_x0_Shape_From, v_x0_Shape_To, v_x0_Shape_Identity, v_x0_Shape_Composites, v_x0_Covers], .agg #[.int .i64 (x1.Shape.Objects), v_x1_Shape_From, v_x1_Shape_To, v_x1_Shape_Identity, v_x1_Shape_Composites, v_x1_Covers]] [.rd false (sImm (sInt .i64)) v_x0_Shape_From x0.Shape.From, .rd false (sImm (sInt .i64)) v_x0_Shape_To x0.Shape.To, .rd false (sImm (sInt .i64)) v_x0_Shape_Identity x0.Shape.Identity, .rd false (sImm (sImm (sInt .i64))) v_x0_Shape_Composites x0.Shape.Composites, .rd false (sImm (sImm (sImm (sInt .i64)))) v_x0_Covers x0.Covers, .rd false (sImm (sInt .i64)) v_x1_Shape_From x1.Shape.From, .rd false (sImm (sInt .i64)) v_x1_Shape_To x1.Shape.To, .rd false (sImm (sInt .i64)) v_x1_Shape_Identity x1.Shape.Identity, .rd false (sImm (sImm (sInt .i64))) v_x1_Shape_Composites x1.Shape.Composites, .rd false (sImm (sImm (sImm (sInt .i64)))) v_x1_Covers x1.Covers] (fun y (_ : Unit) => [.bool y]) (fun y _ => []) := by
  refine ct (S := Unit) (owt fun _ _ => rfl) Tryz.func19 rfl rfl ?_
  repeat' first
    | intro _
    | exact rfl
    | (refine @id.{0} _ ?_; constructor)
    | apply c42
    | apply c74
    | exact ()
theorem c171 {x0 : MCategory} {p_x0 : Addr} {v_x0_From : Value} {v_x0_To : Value} {v_x0_Identity : Value} {v_x0_Composites : Value} {x1 : MCategory} {p_x1 : Addr} {v_x1_From : Value} {v_x1_To : Value} {v_x1_Identity : Value} {v_x1_Composites : Value} : Ct Tryz.prog 171 true (impl_sameCategory x0 x1) [.pointer (some (p_x0)), .pointer (some (p_x1))] [.ats p_x1 [.int .i64 (x1.Objects), v_x1_From, v_x1_To, v_x1_Identity, v_x1_Composites], .ats p_x0 [.int .i64 (x0.Objects), v_x0_From, v_x0_To, v_x0_Identity, v_x0_Composites], .rd false (sImm (sInt .i64)) v_x0_From x0.From, .rd false (sImm (sInt .i64)) v_x0_To x0.To, .rd false (sImm (sInt .i64)) v_x0_Identity x0.Identity, .rd false (sImm (sImm (sInt .i64))) v_x0_Composites x0.Composites, .rd false (sImm (sInt .i64)) v_x1_From x1.From, .rd false (sImm (sInt .i64)) v_x1_To x1.To, .rd false (sImm (sInt .i64)) v_x1_Identity x1.Identity, .rd false (sImm (sImm (sInt .i64))) v_x1_Composites x1.Composites] (fun y (_ : Unit) => [.bool y]) (fun y _ => []) := by
  refine ct (S := Unit) (owt fun _ _ => rfl) Tryz.func171 rfl rfl ?_
  repeat' first
    | intro _
    | exact rfl
    | (refine @id.{0} _ ?_; constructor)
    | apply Dk.loop 0 (V := Unit) (fun (s : Int) v => []) (fun s v => [(69, .int .i64 (s))]) () [(0, _), (1, _), (68, _)]
    | apply Dk.quiet (id := 1) (by kernel_rfl)
    | apply Dk.quiet (id := 6) (by kernel_rfl)
    | apply c154
    | exact ()
end Go.Proofs.YtcmckiiafgcmjaaGreat
