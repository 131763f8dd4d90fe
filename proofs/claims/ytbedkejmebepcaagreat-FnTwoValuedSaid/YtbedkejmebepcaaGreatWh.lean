/- Walks by the calculus D. No condition beside those that each theorem names. -/
import Derived.Test.YtbedkejmebepcaaGreatDi
import Derived.Test.YtbedkejmebepcaaGreatMo
import Derived.Test.YtbedkejmebepcaaGreatDg
import Derived.Test.YtbedkejmebepcaaGreatDs
import Derived.Test.YtbedkejmebepcaaGreatSo
import Derived.Test.YtbedkejmebepcaaGreatWa
import Derived.Test.YtbedkejmebepcaaGreatWb
import Derived.Test.YtbedkejmebepcaaGreatWc
import Derived.Test.YtbedkejmebepcaaGreatWd
namespace Go.Proofs.YtbedkejmebepcaaGreat
open Go Go.Li Go.Dk
set_option linter.unusedVariables false
set_option maxHeartbeats 1000000
set_option maxRecDepth 100000
theorem c105 {x0 : ML03Path} {v_x0_Edges : Value} {x1 : ML03Path} {v_x1_Edges : Value} : Ct Tryz.prog 105 true (spec_l03Before x0 x1) [.agg #[.int .i64 (x0.From), .int .i64 (x0.To), v_x0_Edges], .agg #[.int .i64 (x1.From), .int .i64 (x1.To), v_x1_Edges]] [.rd false (sImm (sInt .i64)) v_x0_Edges x0.Edges, .rd false (sImm (sInt .i64)) v_x1_Edges x1.Edges] (fun y (_ : Unit) => [.bool y]) (fun y _ => []) := by
  refine ct (S := Unit) (owt fun _ _ => rfl) Tryz.func105 rfl rfl ?_
  repeat' first
    | intro _
    | exact rfl
    | (refine @id.{0} _ ?_; constructor)
    | apply c111
    | exact ()
theorem c93 {x0 : Int} {x1 : (List Int)} {v_x1 : Value} {x2 : (List Int)} {v_x2 : Value} : Ct Tryz.prog 93 false (spec_l03All x0 x1 x2) [.int .i64 (x0), v_x1, v_x2] [.rd false (sImm (sInt .i64)) v_x1 x1, .rd false (sImm (sInt .i64)) v_x2 x2] (fun y (v : Value) => [v]) (fun y v => [.rd false (sImm (sStr sS126)) v y]) := by
  refine ct (S := Unit) owf Tryz.func93 rfl rfl ?_
  repeat' first
    | intro _
    | exact rfl
    | (refine (id (α := @Eq (List Value) _ _) ?_); dsimp only; try exact rfl)
    | apply Dk.lgS (t := 123) (S := sS126)
    | apply Dk.lnS (t := 123)
    | apply Dk.ixS (t := 123)
    | apply Dk.apS (t := 123) (ML03Path.mk _ _ _)
    | apply Dk.laS (n := 3)
    | apply Dk.laS0 (n := 3)
    | apply Dk.lsS (n := 3)
    | apply Dk.stS (n := 3) (S := sS126) _
    | apply Dk.AD.idxG
    | apply Dk.AD.laG (n := 3)
    | apply Dk.AD.laG0 (n := 3)
    | (refine @id.{0} _ ?_; constructor)
    | apply Dk.loopP 0 (V := Value) (W := List (List Value)) (fun (s : (List ML03Path) × Int) v u => [.own (sOwn 126 (sCel 3)) v u, .rd false (sGh sS126) (.bool true) (u, s.1)]) (fun s v u => [(7, v), (8, .int .i64 (s.2))]) _ _ [(0, _), (1, _), (2, _)]
    | apply Dk.loopP 2 (V := Value) (W := List (List Value)) (fun (s : (List ML03Path) × Int) v u => [.own (sOwn 126 (sCel 3)) v u, .rd false (sGh sS126) (.bool true) (u, s.1)]) (fun s v u => [(7, v), (9, .int .i64 (s.2))]) _ _ [(0, _), (1, _), (2, _)]
    | apply Dk.loopP 4 (V := Value) (W := List (List Value)) (fun (s : (List ML03Path) × Int) v u => [.own (sOwn 126 (sCel 3)) v u, .rd false (sGh sS126) (.bool true) (u, s.1)]) (fun s v u => [(7, v), (10, .int .i64 (s.2))]) _ _ [(0, _), (1, _), (2, _), (9, _)]
    | apply Dk.loopP 6 (V := Value) (W := List (List Value)) (fun (s : (List ML03Path) × Int) v u => [.own (sOwn 126 (sCel 3)) v u, .rd false (sGh sS126) (.bool true) (u, s.1)]) (fun s v u => [(7, v), (11, .int .i64 (s.2))]) _ _ []
    | apply Dk.loopP 8 (V := Value) (W := List (List Value)) (fun (s : (List ML03Path) × Int) v u => [.own (sOwn 126 (sCel 3)) v u, .rd false (sGh sS126) (.bool true) (u, s.1)]) (fun s v u => [(7, v), (12, .int .i64 (s.2))]) _ _ [(11, _)]
    | apply Dk.quiet (id := 12) (by kernel_rfl)
    | apply Dk.quiet (id := 18) (by kernel_rfl)
    | apply Dk.any (id := 13) 19 [0] [[], [], [], [], [], [], [], [], [], [], [], [], [], [], [], [], [], [], [15]] [[], [], [], [1, 2], [3, 1, 2], [4, 3, 1, 2], [], [], [6, 7], [8, 6, 7], [], [], [10, 11], [12, 10, 11], [13, 12, 10, 11], [14, 13, 12, 10, 11], [], [16], [15, 14, 13, 12, 10, 11, 17, 16, 15, 14, 13, 12, 10, 11]] (by kernel_rfl)
    | apply c88
    | apply c105
    | exact ()
theorem c58 {x0 : ML01Source} {b_x0 : Nat} {v_x0_Code : Value} {x1 : (List Int)} {v_x1 : Value} : Ct Tryz.prog 58 true (spec_l01Pick x0 x1) [.pointer (some (⟨b_x0, 0, none⟩)), v_x1] [.row b_x0 [v_x0_Code, .int .i64 (x0.At), .int .u64 (x0.Hash)] 68, .rd false (sImm (sInt .u8)) v_x0_Code x0.Code, .rd false (sImm (sInt .i64)) v_x1 x1] (fun y (_ : Unit) => [.int .i64 y.1]) (fun y _ => [.row b_x0 [v_x0_Code, .int .i64 y.2.At, .int .u64 y.2.Hash] 68]) := by
  refine ct (S := Unit) (owt fun _ _ => rfl) Tryz.func58 rfl rfl ?_
  repeat' first
    | intro _
    | exact rfl
    | (refine @id.{0} _ ?_; constructor)
    | apply c14
    | exact ()
theorem c18 {x0 : MCategory} {p_x0 : Addr} {v_x0_From : Value} {v_x0_To : Value} {v_x0_Identity : Value} {v_x0_Composites : Value} {x1 : (List Int)} {v_x1 : Value} : Ct Tryz.prog 18 true (impl_Category_sieveOf x0 x1) [.pointer (some (p_x0)), v_x1] [.ats p_x0 [.int .i64 (x0.Objects), v_x0_From, v_x0_To, v_x0_Identity, v_x0_Composites], .rd false (sImm (sInt .i64)) v_x0_From x0.From, .rd false (sImm (sInt .i64)) v_x0_To x0.To, .rd false (sImm (sInt .i64)) v_x0_Identity x0.Identity, .rd false (sImm (sImm (sInt .i64))) v_x0_Composites x0.Composites, .rd false (sImm (sInt .i64)) v_x1 x1] (fun y (v : Value) => [v]) (fun y v => [.own (sOwn 2 (sInt .i64)) v y]) := by
  refine ct (S := Unit) (owt fun _ _ => rfl) Tryz.func18 rfl rfl ?_
  repeat' first
    | intro _
    | exact rfl
    | (refine @id.{0} _ ?_; constructor)
    | apply Dk.loopA 0 (V := Unit) (A := Value) _ (fun a (s : Int × (List Bool)) v => [.own (sOwn 4 sBool) a s.2]) (fun a s v => [(5, a), (15, .int .i64 (s.1))]) () [(0, _), (13, _), (14, _)]
    | apply Dk.loopA 2 (V := Unit) (A := Value) _ (fun a (s : Int × (List Bool)) v => [.own (sOwn 4 sBool) a s.2]) (fun a s v => [(5, a), (29, .int .i64 (s.1))]) () [(0, _), (7, _), (13, _), (14, _), (15, _), (27, _), (28, _)]
    | apply c33
    | apply c34
    | apply c35
    | apply c36
    | exact ()
theorem c63 {x0 : (List Int)} {v_x0 : Value} {x1 : Int} {x2 : Int} : Ct Tryz.prog 63 true (spec_l02Ends x0 x1 x2) [v_x0, .int .i64 (x1), .int .i64 (x2)] [.rd false (sImm (sInt .i64)) v_x0 x0] (fun y (_ : Unit) => [.bool y]) (fun y _ => []) := by
  refine ct (S := Unit) (owt fun _ _ => rfl) Tryz.func63 rfl rfl ?_
  repeat' first
    | intro _
    | exact rfl
    | (refine @id.{0} _ ?_; constructor)
    | apply c64
    | exact ()
theorem c37 {x0 : MCategory} {v_x0_From : Value} {v_x0_To : Value} {v_x0_Identity : Value} {v_x0_Composites : Value} : Ct Tryz.prog 37 true (spec_IsShape x0) [.agg #[.int .i64 (x0.Objects), v_x0_From, v_x0_To, v_x0_Identity, v_x0_Composites]] [.rd false (sImm (sInt .i64)) v_x0_From x0.From, .rd false (sImm (sInt .i64)) v_x0_To x0.To, .rd false (sImm (sInt .i64)) v_x0_Identity x0.Identity, .rd false (sImm (sImm (sInt .i64))) v_x0_Composites x0.Composites] (fun y (_ : Unit) => [.bool y]) (fun y _ => []) := by
  refine ct (S := Unit) (owt fun _ _ => rfl) Tryz.func37 rfl rfl ?_
  repeat' first
    | intro _
    | exact rfl
    | (refine Dk.cdR (t := 102) rfl ?_ ?_)
    | (refine @id.{0} _ ?_; constructor)
    | apply Dk.loop 0 (V := Unit) (fun (s : Int) v => []) (fun s v => [(4, .int .i64 (s))]) () [(1, _), (3, _)]
    | apply Dk.loop 2 (V := Unit) (fun (s : Int) v => []) (fun s v => [(5, .int .i64 (s))]) () [(1, _), (3, _)]
    | apply Dk.loop 4 (V := Unit) (fun (s : Int) v => []) (fun s v => [(6, .int .i64 (s))]) () [(1, _), (3, _), (5, _)]
    | apply Dk.quiet (id := 9) (by kernel_rfl)
    | apply Dk.quiet (id := 20) (by kernel_rfl)
    | apply Dk.quiet (id := 23) (by kernel_rfl)
    | apply c62
    | apply c63
    | apply c64
    | exact ()
theorem c69 {x0 : (List Int)} {v_x0 : Value} {x1 : (List Int)} {v_x1 : Value} : Ct Tryz.prog 69 true (impl_same x0 x1) [v_x0, v_x1] [.rd false (sImm (sInt .i64)) v_x0 x0, .rd false (sImm (sInt .i64)) v_x1 x1] (fun y (_ : Unit) => [.bool y]) (fun y _ => []) := by
  refine ct (S := Unit) (owt fun _ _ => rfl) Tryz.func69 rfl rfl ?_
  repeat' first
    | intro _
    | exact rfl
    | (refine @id.{0} _ ?_; constructor)
    | apply c72
    | exact ()
theorem c68 {x0 : (List Int)} {v_x0 : Value} {x1 : (List Int)} {p_x1 : Addr} {v_x1 : Value} : Ct Tryz.prog 68 true (impl_Category_sieves_1 x0 x1) [v_x0, .pointer (some (p_x1))] [.ats p_x1 [v_x1], .rd false (sImm (sInt .i64)) v_x0 x0, .rd false (sImm (sInt .i64)) v_x1 x1] (fun y (_ : Unit) => [.bool y]) (fun y _ => []) := by
  refine ct (S := Unit) (owt fun _ _ => rfl) Tryz.func68 rfl rfl ?_
  repeat' first
    | intro _
    | exact rfl
    | (refine @id.{0} _ ?_; constructor)
    | apply c69
    | exact ()
theorem c74 {x0 : (List Int)} {v_x0 : Value} {x1 : (List Int)} {p_x1 : Addr} {v_x1 : Value} : Ct Tryz.prog 74 true (impl_classifier_number_1 x0 x1) [v_x0, .pointer (some (p_x1))] [.ats p_x1 [v_x1], .rd false (sImm (sInt .i64)) v_x0 x0, .rd false (sImm (sInt .i64)) v_x1 x1] (fun y (_ : Unit) => [.bool y]) (fun y _ => []) := by
  refine ct (S := Unit) (owt fun _ _ => rfl) Tryz.func74 rfl rfl ?_
  repeat' first
    | intro _
    | exact rfl
    | (refine @id.{0} _ ?_; constructor)
    | apply c69
    | exact ()
end Go.Proofs.YtbedkejmebepcaaGreat
