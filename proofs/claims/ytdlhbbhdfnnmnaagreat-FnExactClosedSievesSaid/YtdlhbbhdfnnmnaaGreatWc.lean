/- Walks by the calculus D. No condition beside those that each theorem names. -/
import Derived.Test.YtdlhbbhdfnnmnaaGreatDi
import Derived.Test.YtdlhbbhdfnnmnaaGreatMo
import Derived.Test.YtdlhbbhdfnnmnaaGreatDs
import Derived.Test.YtdlhbbhdfnnmnaaGreatSo
namespace Go.Proofs.YtdlhbbhdfnnmnaaGreat
open Go Go.Li Go.Dk
set_option linter.unusedVariables false
set_option maxHeartbeats 1000000
set_option maxRecDepth 100000
theorem c97 {x0 : (List Int)} {v_x0 : Value} : Ct Tryz.prog 97 true (laws_toInt64S x0) [v_x0] [.rd false (sImm (sInt .i64)) v_x0 x0] (fun y (v : Value) => [v]) (fun y v => [.own (sOwn 2 (sInt .i64)) v y]) := by
  refine ct (S := Unit) (owt fun _ _ => rfl) Tryz.func97 rfl rfl ?_
  repeat' first
    | intro _
    | exact rfl
    | (refine @id.{0} _ ?_; constructor)
    | apply Dk.loopA 0 (V := Unit) (A := Value) _ (fun a (s : Int × (List Int)) v => [.own (sOwn 2 (sInt .i64)) a s.2]) (fun a s v => [(3, a), (4, .int .i64 (s.1))]) () [(0, _)]
    | exact ()
theorem c80 {x0 : (List (List Int))} {v_x0 : Value} : Ct Tryz.prog 80 true (laws_toInt64SS x0) [v_x0] [.rd false (sImm (sImm (sInt .i64))) v_x0 x0] (fun y (v : Value) => [v]) (fun y v => [.own (sOwn 22 (sOwn 2 (sInt .i64))) v y]) := by
  refine ct (S := Unit) (owt fun _ _ => rfl) Tryz.func80 rfl rfl ?_
  repeat' first
    | intro _
    | exact rfl
    | (refine @id.{0} _ ?_; constructor)
    | apply Dk.loopA 0 (V := Unit) (A := Value) _ (fun a (s : Int × (List (List Int))) v => [.own (sOwn 22 (sOwn 2 (sInt .i64))) a s.2]) (fun a s v => [(3, a), (4, .int .i64 (s.1))]) () [(0, _)]
    | apply c97
    | exact ()
theorem c220 {x0 : MCategory} {v_x0_From : Value} {v_x0_To : Value} {v_x0_Identity : Value} {v_x0_Composites : Value} {x1 : Int} : Ct Tryz.prog 220 true (spec_l25Out x0 x1) [.agg #[.int .i64 (x0.Objects), v_x0_From, v_x0_To, v_x0_Identity, v_x0_Composites], .int .i64 (x1)] [.rd false (sImm (sInt .i64)) v_x0_From x0.From, .rd false (sImm (sInt .i64)) v_x0_To x0.To, .rd false (sImm (sInt .i64)) v_x0_Identity x0.Identity, .rd false (sImm (sImm (sInt .i64))) v_x0_Composites x0.Composites] (fun y (v : Value) => [v]) (fun y v => [.own (sOwn 2 (sInt .i64)) v y]) := by
  refine ct (S := Unit) (owt fun _ _ => rfl) Tryz.func220 rfl rfl ?_
  repeat' first
    | intro _
    | exact rfl
    | (refine @id.{0} _ ?_; constructor)
    | apply Dk.loop 0 (V := Value) (fun (s : (List Int) × Int) v => [.own (sOwn 2 (sInt .i64)) v s.1]) (fun s v => [(5, v), (6, .int .i64 (s.2))]) _ [(1, _), (2, _)]
    | exact ()
theorem c225 {x0 : (List Int)} {v_x0 : Value} {x1 : (List Int)} {v_x1 : Value} : Ct Tryz.prog 225 true (spec_l01Less x0 x1) [v_x0, v_x1] [.rd false (sImm (sInt .i64)) v_x0 x0, .rd false (sImm (sInt .i64)) v_x1 x1] (fun y (_ : Unit) => [.bool y]) (fun y _ => []) := by
  refine ct (S := Unit) (owt fun _ _ => rfl) Tryz.func225 rfl rfl ?_
  repeat' first
    | intro _
    | exact rfl
    | (refine @id.{0} _ ?_; constructor)
    | apply Dk.loop 0 (V := Unit) (fun (s : Int) v => []) (fun s v => [(5, .int .i64 (s))]) () [(0, _), (1, _)]
    | apply Dk.quiet (id := 4) (by kernel_rfl)
    | apply Dk.quiet (id := 5) (by kernel_rfl)
    | exact ()
theorem c298 {x0 : (List (List Int))} {v_x0 : Value} : Ct Tryz.prog 298 false (spec_l25Sorted x0) [v_x0] [.rd false (sImm (sImm (sInt .i64))) v_x0 x0] (fun y (v : Value) => [v]) (fun y v => [.rd false (sImm (sImm (sInt .i64))) v y]) := by
  refine ct (S := Unit) owf Tryz.func298 rfl rfl ?_
  repeat' first
    | intro _
    | exact rfl
    | (refine @id.{0} _ ?_; constructor)
    | apply Dk.loopA 0 (V := Unit) (A := Value) _ (fun a (s : Int × (List (List Int))) v => [.om 22 (sImm (sInt .i64)) a s.2]) (fun a s v => [(3, a), (4, .int .i64 (s.1))]) () []
    | apply Dk.loopA 2 (V := Unit) (A := Value) _ (fun a (s : Int × (List (List Int))) v => [.om 22 (sImm (sInt .i64)) a s.2]) (fun a s v => [(3, a), (5, .int .i64 (s.1))]) () [(4, _)]
    | apply Dk.quiet (id := 6) (by kernel_rfl)
    | apply c225
    | exact ()
theorem c176 {x0 : (List Int)} {v_x0 : Value} : Ct Tryz.prog 176 true (impl_clone x0) [v_x0] [.rd false (sImm (sInt .i64)) v_x0 x0] (fun y (v : Value) => [v]) (fun y v => [.own (sOwn 2 (sInt .i64)) v y]) := by
  refine ct (S := Unit) (owt fun _ _ => rfl) Tryz.func176 rfl rfl ?_
  repeat' first
    | intro _
    | exact rfl
    | (refine @id.{0} _ ?_; constructor)
    | exact ()
theorem c213 {x0 : (List (List Int))} {v_x0 : Value} : Ct Tryz.prog 213 true (impl_clones x0) [v_x0] [.rd false (sImm (sImm (sInt .i64))) v_x0 x0] (fun y (v : Value) => [v]) (fun y v => [.own (sOwn 22 (sOwn 2 (sInt .i64))) v y]) := by
  refine ct (S := Unit) (owt fun _ _ => rfl) Tryz.func213 rfl rfl ?_
  repeat' first
    | intro _
    | exact rfl
    | (refine @id.{0} _ ?_; constructor)
    | apply Dk.loop 0 (V := Value) (fun (s : (List (List Int)) × Int) v => [.own (sOwn 22 (sOwn 2 (sInt .i64))) v s.1]) (fun s v => [(3, v), (11, .int .i64 (s.2))]) _ [(9, _), (10, _)]
    | apply c176
    | exact ()
theorem c333 {x0 : ML27Table} {v_x0_C_From : Value} {v_x0_C_To : Value} {v_x0_C_Identity : Value} {v_x0_C_Composites : Value} {v_x0_Lists : Value} {v_x0_Pulls : Value} {v_x0_Tops : Value} {x1 : (List (List Bool))} {v_x1 : Value} {x2 : Int} {x3 : Int} {x4 : Int} : Ct Tryz.prog 333 true (spec_l27Local x0 x1 x2 x3 x4) [.agg #[.int .i64 (x0.C.Objects), v_x0_C_From, v_x0_C_To, v_x0_C_Identity, v_x0_C_Composites, v_x0_Lists, v_x0_Pulls, v_x0_Tops], v_x1, .int .i64 (x2), .int .i64 (x3), .int .i64 (x4)] [.rd false (sImm (sInt .i64)) v_x0_C_From x0.C.From, .rd false (sImm (sInt .i64)) v_x0_C_To x0.C.To, .rd false (sImm (sInt .i64)) v_x0_C_Identity x0.C.Identity, .rd false (sImm (sImm (sInt .i64))) v_x0_C_Composites x0.C.Composites, .rd false (sImm (sImm (sImm (sInt .i64)))) v_x0_Lists x0.Lists, .rd false (sImm (sImm (sInt .i64))) v_x0_Pulls x0.Pulls, .rd false (sImm (sInt .i64)) v_x0_Tops x0.Tops, .rd false (sImm (sImm sBool)) v_x1 x1] (fun y (_ : Unit) => [.bool y]) (fun y _ => []) := by
  refine ct (S := Unit) (owt fun _ _ => rfl) Tryz.func333 rfl rfl ?_
  repeat' first
    | intro _
    | exact rfl
    | (refine @id.{0} _ ?_; constructor)
    | apply Dk.loop 0 (V := Unit) (fun (s : Int) v => []) (fun s v => [(12, .int .i64 (s))]) () [(1, _), (4, _), (5, _), (11, _)]
    | apply Dk.quiet (id := 5) (by kernel_rfl)
    | exact ()
theorem c307 {x0 : ML27Table} {v_x0_C_From : Value} {v_x0_C_To : Value} {v_x0_C_Identity : Value} {v_x0_C_Composites : Value} {v_x0_Lists : Value} {v_x0_Pulls : Value} {v_x0_Tops : Value} {x1 : (List (List Bool))} {v_x1 : Value} : Ct Tryz.prog 307 true (spec_l27Step x0 x1) [.agg #[.int .i64 (x0.C.Objects), v_x0_C_From, v_x0_C_To, v_x0_C_Identity, v_x0_C_Composites, v_x0_Lists, v_x0_Pulls, v_x0_Tops], v_x1] [.rd false (sImm (sInt .i64)) v_x0_C_From x0.C.From, .rd false (sImm (sInt .i64)) v_x0_C_To x0.C.To, .rd false (sImm (sInt .i64)) v_x0_C_Identity x0.C.Identity, .rd false (sImm (sImm (sInt .i64))) v_x0_C_Composites x0.C.Composites, .rd false (sImm (sImm (sImm (sInt .i64)))) v_x0_Lists x0.Lists, .rd false (sImm (sImm (sInt .i64))) v_x0_Pulls x0.Pulls, .rd false (sImm (sInt .i64)) v_x0_Tops x0.Tops, .own (sOwn 213 (sOwn 4 sBool)) v_x1 x1] (fun y (_ : Unit) => [.bool y.1]) (fun y _ => [.own (sOwn 213 (sOwn 4 sBool)) v_x1 y.2]) := by
  refine ct (S := Unit) (owt fun _ _ => rfl) Tryz.func307 rfl rfl ?_
  repeat' first
    | intro _
    | exact rfl
    | (refine @id.{0} _ ?_; constructor)
    | apply Dk.loop 0 (V := Unit) (fun (s : Int) v => []) (fun s v => [(5, .int .i64 (s))]) () [(1, _), (2, _)]
    | apply Dk.loop 2 (V := Unit) (fun (s : Int) v => []) (fun s v => [(6, .int .i64 (s))]) () [(1, _), (2, _), (5, _)]
    | apply Dk.loop 4 (V := Unit) (fun (s : Int) v => []) (fun s v => [(7, .int .i64 (s))]) () [(1, _), (2, _), (5, _), (6, _)]
    | apply Dk.loop 6 (V := Unit) (fun (s : Int) v => []) (fun s v => [(8, .int .i64 (s))]) () [(1, _), (2, _), (5, _), (6, _)]
    | apply Dk.quiet (id := 4) (by kernel_rfl)
    | apply Dk.quiet (id := 14) (by kernel_rfl)
    | apply Dk.any (id := 5) 9 [] [] [[], [], [0, 1], [2, 0, 1], [], [4], [], [5, 4, 6], [7, 5, 4, 6]] (by kernel_rfl)
    | apply Dk.any (id := 15) 17 [] [] [[], [], [1], [2, 1], [], [3, 2, 1, 4], [5, 3, 2, 1, 4], [0, 6, 5, 3, 2, 1, 4], [7, 0, 6, 5, 3, 2, 1, 4], [], [9], [], [10, 9, 11], [12, 10, 9, 11], [], [13, 12, 10, 9, 11, 14], [15, 13, 12, 10, 9, 11, 14]] (by kernel_rfl)
    | apply c333
    | exact ()
theorem c255 {x0 : Int} {b_x0 : Nat} {x1 : Int} : Ct Tryz.prog 255 true (sync_atomic_Int64_Add x0 x1) [.pointer (some (⟨b_x0, 0, none⟩)), .int .i64 (x1)] [.row b_x0 [.int .i64 (x0)] 297] (fun y (_ : Unit) => [.int .i64 y.1]) (fun y _ => [.row b_x0 [.int .i64 y.2] 297]) := by
  refine ct (S := Unit) (owt fun _ _ => rfl) Tryz.func255 rfl rfl ?_
  repeat' first
    | intro _
    | exact rfl
    | (refine @id.{0} _ ?_; constructor)
    | exact ()
theorem c157 {x0 : MCoverage} {p_x0 : Addr} {p_x0_Classifier : Addr} {v_x0_Classifier_Sets_Shape_From : Value} {v_x0_Classifier_Sets_Shape_To : Value} {v_x0_Classifier_Sets_Shape_Identity : Value} {v_x0_Classifier_Sets_Shape_Composites : Value} {v_x0_Classifier_Sets_Sizes : Value} {v_x0_Classifier_Sets_Actions : Value} {v_x0_Classifier_Sieves : Value} {p_x0_C : Addr} {v_x0_C_From : Value} {v_x0_C_To : Value} {v_x0_C_Identity : Value} {v_x0_C_Composites : Value} {v_x0_Covers : Value} {b_x0_Count : Nat} {x1 : Int} {x2 : Int} : Ct Tryz.prog 157 true (impl_coverage_mark x0 x1 x2) [.pointer (some (p_x0)), .int .i64 (x1), .int .i64 (x2)] [.ats p_x0 [.pointer (some (p_x0_Classifier)), .pointer (some (p_x0_C)), v_x0_Covers, .pointer (some (⟨b_x0_Count, 0, none⟩))], .row b_x0_Count [.int .i64 (x0.Count)] 297, .ats p_x0_C [.int .i64 (x0.C.Objects), v_x0_C_From, v_x0_C_To, v_x0_C_Identity, v_x0_C_Composites], .ats p_x0_Classifier [.int .i64 (x0.Classifier.Sets.Shape.Objects), v_x0_Classifier_Sets_Shape_From, v_x0_Classifier_Sets_Shape_To, v_x0_Classifier_Sets_Shape_Identity, v_x0_Classifier_Sets_Shape_Composites, v_x0_Classifier_Sets_Sizes, v_x0_Classifier_Sets_Actions, v_x0_Classifier_Sieves], .rd false (sImm (sInt .i64)) v_x0_Classifier_Sets_Shape_From x0.Classifier.Sets.Shape.From, .rd false (sImm (sInt .i64)) v_x0_Classifier_Sets_Shape_To x0.Classifier.Sets.Shape.To, .rd false (sImm (sInt .i64)) v_x0_Classifier_Sets_Shape_Identity x0.Classifier.Sets.Shape.Identity, .rd false (sImm (sImm (sInt .i64))) v_x0_Classifier_Sets_Shape_Composites x0.Classifier.Sets.Shape.Composites, .rd false (sImm (sInt .i64)) v_x0_Classifier_Sets_Sizes x0.Classifier.Sets.Sizes, .rd false (sImm (sImm (sInt .i64))) v_x0_Classifier_Sets_Actions x0.Classifier.Sets.Actions, .rd false (sImm (sImm (sImm (sInt .i64)))) v_x0_Classifier_Sieves x0.Classifier.Sieves, .rd false (sImm (sInt .i64)) v_x0_C_From x0.C.From, .rd false (sImm (sInt .i64)) v_x0_C_To x0.C.To, .rd false (sImm (sInt .i64)) v_x0_C_Identity x0.C.Identity, .rd false (sImm (sImm (sInt .i64))) v_x0_C_Composites x0.C.Composites, .own (sOwn 213 (sOwn 4 sBool)) v_x0_Covers x0.Covers] (fun y (_ : Unit) => []) (fun y _ => [.own (sOwn 213 (sOwn 4 sBool)) v_x0_Covers y.1, .row b_x0_Count [.int .i64 y.2] 297]) := by
  refine ctv (owt fun _ _ => rfl) Tryz.func157 rfl rfl ?_
  repeat' first
    | intro _
    | exact rfl
    | (refine @id.{0} _ ?_; constructor)
    | apply c255
    | exact ()
theorem c312x {w : World} {x0 : (List Bool)} {v_x0 : Value} {f_x0 : List Nat} (h_x0 : (sImm sBool).rep w.heap [v_x0] x0 f_x0) {y : (List Bool)} (hm : slices_Clone___bool_bool_ x0 = some y) :
    Calls Tryz.prog 312 #[v_x0] w (fun e w' => ∃ (v0 : Value) (f0 : List Nat), e = .returned (v0) ∧ Chg [] w w' ∧ OE [] w.heap.size w' (sOwn 4 sBool) [v0] y f0) := by
  obtain ⟨n, hn, hm⟩ := bind_some hm
  have hf := fits_some hn
  cases hm
  have h0 := h_x0
  obtain ⟨base, cap, hv, hr⟩ := h0
  obtain rfl : v_x0 = .slice base x0.length cap := by simpa using hv
  refine calls_of_W (args := [.slice base x0.length cap]) Tryz.func312 rfl Tryz.ntmps312 (Nat.le_of_ble_eq_true rfl) ?_
  refine W_seq <| Wq rfl (Chg.refl [] w) <| Qa (As rfl) <| fun wd1 hC1 => andThen_n <| W_seq <| W_seq <| Wq rfl hC1 <| Qa (Ms rfl) <| Qa (Bz Tryz.underlying213 rfl rfl) <| fun wd2 hC2 => andThen_n <| W_cond (b := base.isNone) rfl ?_ ?_
  · intro hb
    obtain rfl : x0 = [] := by
      rcases hr with ⟨h, _⟩ | ⟨b, off, cur, e, fz, f', h1, _⟩
      · exact h
      · rw [h1] at hb; cases hb
    refine W_seq <| Wq rfl hC2 <| Qa (As rfl) <| fun wd3 hC3 => andThen_n <| ?_
    exact W_ret ⟨.inr rfl, _, res_1 Tryz.results312, _, _, rfl, hC3, nil_OE⟩
  · intro hb
    refine W_skip <| andThen_n <| W_seq <| W_region rfl <| WL.lit0 sBool Tryz.underlying213 info4 fun v3 wd4 f5 hC6 o7 => ?_
    replace o7 := OE.low (G := []) o7 hC2.size
    have hT := hC2.trans hC6
    refine Wb (Ms rfl) <| WL.appendS (E := sBool) _ _ sBool_nofp Tryz.underlying213 info4 zr4 sz4 rfl rfl rfl o7 rfl (STy.keep0 _ h_x0 hT) (by rw [by4]; simpa using hf.1) (by simpa using hf.2) hT.size fun v9 wd10 f11 hC12 o13 hs14 => ?_
    refine Wb (Av v9 rfl) <| andThen_n <| W_ret ⟨.inr rfl, _, res_1 Tryz.results312, _, _, rfl, hT.then hC12 o7.2.2, o13⟩
theorem c312 {x0 : (List Bool)} {v_x0 : Value} : Ct Tryz.prog 312 true (slices_Clone___bool_bool_ x0) [v_x0] [.rd false (sImm sBool) v_x0 x0] (fun _ v => [v]) (fun y v => [.own (sOwn 4 sBool) v y]) := by
  exact ct_copy fun h _ hm => c312x h hm
end Go.Proofs.YtdlhbbhdfnnmnaaGreat
