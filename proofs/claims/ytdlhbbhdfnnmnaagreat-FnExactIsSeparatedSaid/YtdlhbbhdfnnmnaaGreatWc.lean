/- Walks by the calculus D. No condition beside those that each theorem names. -/
import Derived.Test.YtdlhbbhdfnnmnaaGreatDi
import Derived.Test.YtdlhbbhdfnnmnaaGreatMo
import Derived.Test.YtdlhbbhdfnnmnaaGreatDs
import Derived.Test.YtdlhbbhdfnnmnaaGreatSo
namespace Go.Proofs.YtdlhbbhdfnnmnaaGreat
open Go Go.Li Go.Dk
set_option linter.unusedVariables false
set_option maxHeartbeats 1000000
set_option maxRecDepth 100000
theorem c126 {x0 : (List Int)} {v_x0 : Value} {x1 : (List Int)} {v_x1 : Value} : Ct Tryz.prog 126 true (spec_l01Same x0 x1) [v_x0, v_x1] [.rd false (sImm (sInt .i64)) v_x0 x0, .rd false (sImm (sInt .i64)) v_x1 x1] (fun y (_ : Unit) => [.bool y]) (fun y _ => []) := by
  refine ct (S := Unit) (owt fun _ _ => rfl) Tryz.func126 rfl rfl ?_
  repeat' first
    | intro _
    | exact rfl
    | (refine @id.{0} _ ?_; constructor)
    | apply Dk.loop 0 (V := Unit) (fun (s : Int) v => []) (fun s v => [(5, .int .i64 (s))]) () [(0, _), (1, _)]
    | apply Dk.quiet (id := 6) (by kernel_rfl)
    | exact ()
theorem c102 {x0 : (List (List Int))} {v_x0 : Value} {x1 : (List Int)} {v_x1 : Value} : Ct Tryz.prog 102 true (spec_l05Place x0 x1) [v_x0, v_x1] [.rd false (sImm (sImm (sInt .i64))) v_x0 x0, .rd false (sImm (sInt .i64)) v_x1 x1] (fun y (_ : Unit) => [.int .i64 y]) (fun y _ => []) := by
  refine ct (S := Unit) (owt fun _ _ => rfl) Tryz.func102 rfl rfl ?_
  repeat' first
    | intro _
    | exact rfl
    | (refine @id.{0} _ ?_; constructor)
    | apply Dk.loop 0 (V := Unit) (fun (s : Int) v => []) (fun s v => [(5, .int .i64 (s))]) () [(0, _), (1, _)]
    | apply c126
    | exact ()
theorem c225 {x0 : (List Int)} {v_x0 : Value} {x1 : (List Int)} {v_x1 : Value} : Ct Tryz.prog 225 true (spec_l01Less x0 x1) [v_x0, v_x1] [.rd false (sImm (sInt .i64)) v_x0 x0, .rd false (sImm (sInt .i64)) v_x1 x1] (fun y (_ : Unit) => [.bool y]) (fun y _ => []) := by
  refine ct (S := Unit) (owt fun _ _ => rfl) Tryz.func225 rfl rfl ?_
  repeat' first
    | intro _
    | exact rfl
    | (refine @id.{0} _ ?_; constructor)
    | apply Dk.loop 0 (V := Unit) (fun (s : Int) v => []) (fun s v => [(5, .int .i64 (s))]) () [(0, _), (1, _)]
    | apply Dk.quiet (id := 4) (by kernel_rfl)
    | apply Dk.quiet (id := 5) (by kernel_rfl)
    | exact ()
theorem c298 {x0 : (List (List Int))} {v_x0 : Value} : Ct Tryz.prog 298 false (spec_l25Sorted x0) [v_x0] [.rd false (sImm (sImm (sInt .i64))) v_x0 x0] (fun y (v : Value) => [v]) (fun y v => [.rd false (sImm (sImm (sInt .i64))) v y]) := by
  refine ct (S := Unit) owf Tryz.func298 rfl rfl ?_
  repeat' first
    | intro _
    | exact rfl
    | (refine @id.{0} _ ?_; constructor)
    | apply Dk.loopA 0 (V := Unit) (A := Value) _ (fun a (s : Int × (List (List Int))) v => [.om 22 (sImm (sInt .i64)) a s.2]) (fun a s v => [(3, a), (4, .int .i64 (s.1))]) () []
    | apply Dk.loopA 2 (V := Unit) (A := Value) _ (fun a (s : Int × (List (List Int))) v => [.om 22 (sImm (sInt .i64)) a s.2]) (fun a s v => [(3, a), (5, .int .i64 (s.1))]) () [(4, _)]
    | apply Dk.quiet (id := 6) (by kernel_rfl)
    | apply c225
    | exact ()
theorem c311 {x0 : MCategory} {p_x0 : Addr} {v_x0_From : Value} {v_x0_To : Value} {v_x0_Identity : Value} {v_x0_Composites : Value} {x1 : Int} : Ct Tryz.prog 311 true (impl_Category_ends x0 x1) [.pointer (some (p_x0)), .int .i64 (x1)] [.ats p_x0 [.int .i64 (x0.Objects), v_x0_From, v_x0_To, v_x0_Identity, v_x0_Composites], .rd false (sImm (sInt .i64)) v_x0_From x0.From, .rd false (sImm (sInt .i64)) v_x0_To x0.To, .rd false (sImm (sInt .i64)) v_x0_Identity x0.Identity, .rd false (sImm (sImm (sInt .i64))) v_x0_Composites x0.Composites] (fun y (_ : Unit) => [.agg #[.int .i64 y.From, .int .i64 y.To]]) (fun y _ => []) := by
  refine ct (S := Unit) (owt fun _ _ => rfl) Tryz.func311 rfl rfl ?_
  repeat' first
    | intro _
    | exact rfl
    | (refine @id.{0} _ ?_; constructor)
    | apply Dk.any (id := 1) 14 [] [] [[], [0], [1, 0], [2, 1, 0], [], [3, 2, 1, 0, 4], [5, 3, 2, 1, 0, 4], [], [7], [8, 7], [9, 8, 7], [], [10, 9, 8, 7, 11], [12, 10, 9, 8, 7, 11]] (by kernel_rfl)
    | exact ()
theorem c176 {x0 : (List Int)} {v_x0 : Value} : Ct Tryz.prog 176 true (impl_clone x0) [v_x0] [.rd false (sImm (sInt .i64)) v_x0 x0] (fun y (v : Value) => [v]) (fun y v => [.own (sOwn 2 (sInt .i64)) v y]) := by
  refine ct (S := Unit) (owt fun _ _ => rfl) Tryz.func176 rfl rfl ?_
  repeat' first
    | intro _
    | exact rfl
    | (refine @id.{0} _ ?_; constructor)
    | exact ()
theorem c213 {x0 : (List (List Int))} {v_x0 : Value} : Ct Tryz.prog 213 true (impl_clones x0) [v_x0] [.rd false (sImm (sImm (sInt .i64))) v_x0 x0] (fun y (v : Value) => [v]) (fun y v => [.own (sOwn 22 (sOwn 2 (sInt .i64))) v y]) := by
  refine ct (S := Unit) (owt fun _ _ => rfl) Tryz.func213 rfl rfl ?_
  repeat' first
    | intro _
    | exact rfl
    | (refine @id.{0} _ ?_; constructor)
    | apply Dk.loop 0 (V := Value) (fun (s : (List (List Int)) × Int) v => [.own (sOwn 22 (sOwn 2 (sInt .i64))) v s.1]) (fun s v => [(3, v), (11, .int .i64 (s.2))]) _ [(9, _), (10, _)]
    | apply c176
    | exact ()
theorem c229 {x0 : (List Int)} {v_x0 : Value} {x1 : (List Int)} {v_x1 : Value} : Ct Tryz.prog 229 true (impl_compare x0 x1) [v_x0, v_x1] [.rd false (sImm (sInt .i64)) v_x0 x0, .rd false (sImm (sInt .i64)) v_x1 x1] (fun y (_ : Unit) => [.int .i64 y]) (fun y _ => []) := by
  refine ct (S := Unit) (owt fun _ _ => rfl) Tryz.func229 rfl rfl ?_
  repeat' first
    | intro _
    | exact rfl
    | (refine @id.{0} _ ?_; constructor)
    | apply Dk.loop 0 (V := Unit) (fun (s : Int) v => []) (fun s v => [(8, .int .i64 (s))]) () [(0, _), (1, _), (7, _)]
    | apply Dk.quiet (id := 6) (by kernel_rfl)
    | apply Dk.quiet (id := 7) (by kernel_rfl)
    | exact ()
theorem c172 {x0 : (List Int)} {v_x0 : Value} {x1 : (List Int)} {v_x1 : Value} : Ct Tryz.prog 172 true (impl_same x0 x1) [v_x0, v_x1] [.rd false (sImm (sInt .i64)) v_x0 x0, .rd false (sImm (sInt .i64)) v_x1 x1] (fun y (_ : Unit) => [.bool y]) (fun y _ => []) := by
  refine ct (S := Unit) (owt fun _ _ => rfl) Tryz.func172 rfl rfl ?_
  repeat' first
    | intro _
    | exact rfl
    | (refine @id.{0} _ ?_; constructor)
    | apply c229
    | exact ()
theorem c304 {x0 : (List Int)} {v_x0 : Value} {x1 : (List Int)} {v_x1 : Value} : Ct Tryz.prog 304 true (impl_Category_sieves_2 x0 x1) [v_x0, v_x1] [.rd false (sImm (sInt .i64)) v_x0 x0, .rd false (sImm (sInt .i64)) v_x1 x1] (fun y (_ : Unit) => [.int .i64 y]) (fun y _ => []) := by
  refine ct (S := Unit) (owt fun _ _ => rfl) Tryz.func304 rfl rfl ?_
  repeat' first
    | intro _
    | exact rfl
    | (refine @id.{0} _ ?_; constructor)
    | apply c229
    | exact ()
theorem c219 {x0 : (List (List Int))} {v_x0 : Value} {x1 : (List (List Int))} {v_x1 : Value} : Ct Tryz.prog 219 true (spec_l01Same2 x0 x1) [v_x0, v_x1] [.rd false (sImm (sImm (sInt .i64))) v_x0 x0, .rd false (sImm (sImm (sInt .i64))) v_x1 x1] (fun y (_ : Unit) => [.bool y]) (fun y _ => []) := by
  refine ct (S := Unit) (owt fun _ _ => rfl) Tryz.func219 rfl rfl ?_
  repeat' first
    | intro _
    | exact rfl
    | (refine @id.{0} _ ?_; constructor)
    | apply Dk.loop 0 (V := Unit) (fun (s : Int) v => []) (fun s v => [(5, .int .i64 (s))]) () [(0, _), (1, _)]
    | apply Dk.quiet (id := 6) (by kernel_rfl)
    | apply c126
    | exact ()
theorem c138 {x0 : (List (List Int))} {v_x0 : Value} {x1 : (List Int)} {v_x1 : Value} : Ct Tryz.prog 138 true (spec_l09Find x0 x1) [v_x0, v_x1] [.rd false (sImm (sImm (sInt .i64))) v_x0 x0, .rd false (sImm (sInt .i64)) v_x1 x1] (fun y (_ : Unit) => [.int .i64 y]) (fun y _ => []) := by
  refine ct (S := Unit) (owt fun _ _ => rfl) Tryz.func138 rfl rfl ?_
  repeat' first
    | intro _
    | exact rfl
    | (refine @id.{0} _ ?_; constructor)
    | apply Dk.loop 0 (V := Unit) (fun (s : Int) v => []) (fun s v => [(5, .int .i64 (s))]) () [(0, _), (1, _)]
    | apply c126
    | exact ()
theorem c312x {w : World} {x0 : (List Bool)} {v_x0 : Value} {f_x0 : List Nat} (h_x0 : (sImm sBool).rep w.heap [v_x0] x0 f_x0) {y : (List Bool)} (hm : slices_Clone___bool_bool_ x0 = some y) :
    Calls Tryz.prog 312 #[v_x0] w (fun e w' => ∃ (v0 : Value) (f0 : List Nat), e = .returned (v0) ∧ Chg [] w w' ∧ OE [] w.heap.size w' (sOwn 4 sBool) [v0] y f0) := by
  obtain ⟨n, hn, hm⟩ := bind_some hm
  have hf := fits_some hn
  cases hm
  have h0 := h_x0
  obtain ⟨base, cap, hv, hr⟩ := h0
  obtain rfl : v_x0 = .slice base x0.length cap := by simpa using hv
  refine calls_of_W (args := [.slice base x0.length cap]) Tryz.func312 rfl Tryz.ntmps312 (Nat.le_of_ble_eq_true rfl) ?_
  refine W_seq <| Wq rfl (Chg.refl [] w) <| Qa (As rfl) <| fun wd1 hC1 => andThen_n <| W_seq <| W_seq <| Wq rfl hC1 <| Qa (Ms rfl) <| Qa (Bz Tryz.underlying213 rfl rfl) <| fun wd2 hC2 => andThen_n <| W_cond (b := base.isNone) rfl ?_ ?_
  · intro hb
    obtain rfl : x0 = [] := by
      rcases hr with ⟨h, _⟩ | ⟨b, off, cur, e, fz, f', h1, _⟩
      · exact h
      · rw [h1] at hb; cases hb
    refine W_seq <| Wq rfl hC2 <| Qa (As rfl) <| fun wd3 hC3 => andThen_n <| ?_
    exact W_ret ⟨.inr rfl, _, res_1 Tryz.results312, _, _, rfl, hC3, nil_OE⟩
  · intro hb
    refine W_skip <| andThen_n <| W_seq <| W_region rfl <| WL.lit0 sBool Tryz.underlying213 info4 fun v3 wd4 f5 hC6 o7 => ?_
    replace o7 := OE.low (G := []) o7 hC2.size
    have hT := hC2.trans hC6
    refine Wb (Ms rfl) <| WL.appendS (E := sBool) _ _ sBool_nofp Tryz.underlying213 info4 zr4 sz4 rfl rfl rfl o7 rfl (STy.keep0 _ h_x0 hT) (by rw [by4]; simpa using hf.1) (by simpa using hf.2) hT.size fun v9 wd10 f11 hC12 o13 hs14 => ?_
    refine Wb (Av v9 rfl) <| andThen_n <| W_ret ⟨.inr rfl, _, res_1 Tryz.results312, _, _, rfl, hT.then hC12 o7.2.2, o13⟩
theorem c312 {x0 : (List Bool)} {v_x0 : Value} : Ct Tryz.prog 312 true (slices_Clone___bool_bool_ x0) [v_x0] [.rd false (sImm sBool) v_x0 x0] (fun _ v => [v]) (fun y v => [.own (sOwn 4 sBool) v y]) := by
  exact ct_copy fun h _ hm => c312x h hm
theorem c257 {x0 : MSetFunctor} {v_x0_Shape_From : Value} {v_x0_Shape_To : Value} {v_x0_Shape_Identity : Value} {v_x0_Shape_Composites : Value} {v_x0_Sizes : Value} {v_x0_Actions : Value} {x1 : (List Int)} {v_x1 : Value} {x2 : Int} : Ct Tryz.prog 257 true (spec_l28Images x0 x1 x2) [.agg #[.int .i64 (x0.Shape.Objects), v_x0_Shape_From, v_x0_Shape_To, v_x0_Shape_Identity, v_x0_Shape_Composites, v_x0_Sizes, v_x0_Actions], v_x1, .int .i64 (x2)] [.rd false (sImm (sInt .i64)) v_x0_Shape_From x0.Shape.From, .rd false (sImm (sInt .i64)) v_x0_Shape_To x0.Shape.To, .rd false (sImm (sInt .i64)) v_x0_Shape_Identity x0.Shape.Identity, .rd false (sImm (sImm (sInt .i64))) v_x0_Shape_Composites x0.Shape.Composites, .rd false (sImm (sInt .i64)) v_x0_Sizes x0.Sizes, .rd false (sImm (sImm (sInt .i64))) v_x0_Actions x0.Actions, .rd false (sImm (sInt .i64)) v_x1 x1] (fun y (v : Value) => [v]) (fun y v => [.own (sOwn 2 (sInt .i64)) v y]) := by
  refine ct (S := Unit) (owt fun _ _ => rfl) Tryz.func257 rfl rfl ?_
  repeat' first
    | intro _
    | exact rfl
    | (refine @id.{0} _ ?_; constructor)
    | apply Dk.loop 0 (V := Value) (fun (s : (List Int) × Int) v => [.own (sOwn 2 (sInt .i64)) v s.1]) (fun s v => [(7, v), (8, .int .i64 (s.2))]) _ [(1, _), (2, _), (3, _)]
    | apply Dk.any (id := 5) 13 [] [] [[], [], [1], [], [], [3, 4], [5, 3, 4], [2, 1, 6, 5, 3, 4], [7, 2, 1, 6, 5, 3, 4], [], [8, 7, 2, 1, 6, 5, 3, 4, 9], [10, 8, 7, 2, 1, 6, 5, 3, 4, 9], [11, 10, 8, 7, 2, 1, 6, 5, 3, 4, 9]] (by kernel_rfl)
    | exact ()
theorem c256 {x0 : MSetFunctor} {v_x0_Shape_From : Value} {v_x0_Shape_To : Value} {v_x0_Shape_Identity : Value} {v_x0_Shape_Composites : Value} {v_x0_Sizes : Value} {v_x0_Actions : Value} {x1 : Int} {x2 : (List Int)} {v_x2 : Value} {x3 : (List Int)} {v_x3 : Value} : Ct Tryz.prog 256 true (spec_l28Glued x0 x1 x2 x3) [.agg #[.int .i64 (x0.Shape.Objects), v_x0_Shape_From, v_x0_Shape_To, v_x0_Shape_Identity, v_x0_Shape_Composites, v_x0_Sizes, v_x0_Actions], .int .i64 (x1), v_x2, v_x3] [.rd false (sImm (sInt .i64)) v_x0_Shape_From x0.Shape.From, .rd false (sImm (sInt .i64)) v_x0_Shape_To x0.Shape.To, .rd false (sImm (sInt .i64)) v_x0_Shape_Identity x0.Shape.Identity, .rd false (sImm (sImm (sInt .i64))) v_x0_Shape_Composites x0.Shape.Composites, .rd false (sImm (sInt .i64)) v_x0_Sizes x0.Sizes, .rd false (sImm (sImm (sInt .i64))) v_x0_Actions x0.Actions, .rd false (sImm (sInt .i64)) v_x2 x2, .rd false (sImm (sInt .i64)) v_x3 x3] (fun y (v : Value) => [v]) (fun y v => [.own (sOwn 2 (sInt .i64)) v y]) := by
  refine ct (S := Unit) (owt fun _ _ => rfl) Tryz.func256 rfl rfl ?_
  repeat' first
    | intro _
    | exact rfl
    | (refine @id.{0} _ ?_; constructor)
    | apply Dk.loop 0 (V := Value) (fun (s : (List Int) × Int) v => [.own (sOwn 2 (sInt .i64)) v s.1]) (fun s v => [(9, v), (10, .int .i64 (s.2))]) _ [(1, _), (2, _), (3, _), (4, _)]
    | apply c257
    | apply c126
    | exact ()
end Go.Proofs.YtdlhbbhdfnnmnaaGreat
