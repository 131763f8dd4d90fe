/- Walks by the calculus D. No condition beside those that each theorem names. -/
import Derived.Test.YtbedkejmebepcaaGreatDi
import Derived.Test.YtbedkejmebepcaaGreatMo
import Derived.Test.YtbedkejmebepcaaGreatDg
import Derived.Test.YtbedkejmebepcaaGreatDs
import Derived.Test.YtbedkejmebepcaaGreatSo
import Derived.Test.YtbedkejmebepcaaGreatWe
import Derived.Test.YtbedkejmebepcaaGreatWf
import Derived.Test.YtbedkejmebepcaaGreatWg
import Derived.Test.YtbedkejmebepcaaGreatWh
namespace Go.Proofs.YtbedkejmebepcaaGreat
open Go Go.Li Go.Dk
set_option linter.unusedVariables false
set_option maxHeartbeats 1000000
set_option maxRecDepth 100000
theorem c73_k74 {x0 : (List (List Int))} {v_x0 : Value} {q_x1 : (List Int)} {q_p_x1 : Addr} {q_v_x1 : Value} : Ct Tryz.prog 73 true (slices_IndexFunc___impl_sieve_impl_sieve_ x0 (fun a0 => impl_classifier_number_1 a0 q_x1)) [v_x0, .func (.func 74) #[] #[.pointer (some (q_p_x1))]] [.rd false (sImm (sImm (sInt .i64))) v_x0 x0, .ats q_p_x1 [q_v_x1], .rd false (sImm (sInt .i64)) q_v_x1 q_x1] (fun y (_ : Unit) => [.int .i64 y]) (fun y _ => []) := by
  refine ct (S := Unit) (owt fun _ _ => rfl) Tryz.func73 rfl rfl ?_
  repeat' first
    | intro _
    | exact rfl
    | (refine @id.{0} _ ?_; constructor)
    | apply Dk.loop 0 (V := Unit) (fun (s : Int) v => []) (fun s v => [(8, .int .i64 (s))]) () [(0, _), (1, _), (7, _)]
    | apply c74
    | exact ()
theorem c43 {x0 : MClassifier} {p_x0 : Addr} {v_x0_Sets_Shape_From : Value} {v_x0_Sets_Shape_To : Value} {v_x0_Sets_Shape_Identity : Value} {v_x0_Sets_Shape_Composites : Value} {v_x0_Sets_Sizes : Value} {v_x0_Sets_Actions : Value} {v_x0_Sieves : Value} {x1 : Int} {x2 : (List Int)} {v_x2 : Value} : Ct Tryz.prog 43 true (impl_classifier_number x0 x1 x2) [.pointer (some (p_x0)), .int .i64 (x1), v_x2] [.ats p_x0 [.int .i64 (x0.Sets.Shape.Objects), v_x0_Sets_Shape_From, v_x0_Sets_Shape_To, v_x0_Sets_Shape_Identity, v_x0_Sets_Shape_Composites, v_x0_Sets_Sizes, v_x0_Sets_Actions, v_x0_Sieves], .rd false (sImm (sInt .i64)) v_x0_Sets_Shape_From x0.Sets.Shape.From, .rd false (sImm (sInt .i64)) v_x0_Sets_Shape_To x0.Sets.Shape.To, .rd false (sImm (sInt .i64)) v_x0_Sets_Shape_Identity x0.Sets.Shape.Identity, .rd false (sImm (sImm (sInt .i64))) v_x0_Sets_Shape_Composites x0.Sets.Shape.Composites, .rd false (sImm (sInt .i64)) v_x0_Sets_Sizes x0.Sets.Sizes, .rd false (sImm (sImm (sInt .i64))) v_x0_Sets_Actions x0.Sets.Actions, .rd false (sImm (sImm (sImm (sInt .i64)))) v_x0_Sieves x0.Sieves, .rd false (sImm (sInt .i64)) v_x2 x2] (fun y (_ : Unit) => [.int .i64 y]) (fun y _ => []) := by
  refine ct (S := Unit) (owt fun _ _ => rfl) Tryz.func43 rfl rfl ?_
  repeat' first
    | intro _
    | exact rfl
    | (refine @id.{0} _ ?_; constructor)
    | apply c74
    | apply c73_k74
    | exact ()
theorem c24 {x0 : MClassifier} {p_x0 : Addr} {v_x0_Sets_Shape_From : Value} {v_x0_Sets_Shape_To : Value} {v_x0_Sets_Shape_Identity : Value} {v_x0_Sets_Shape_Composites : Value} {v_x0_Sets_Sizes : Value} {v_x0_Sets_Actions : Value} {v_x0_Sieves : Value} : Ct Tryz.prog 24 true (impl_classifier_tops x0) [.pointer (some (p_x0))] [.ats p_x0 [.int .i64 (x0.Sets.Shape.Objects), v_x0_Sets_Shape_From, v_x0_Sets_Shape_To, v_x0_Sets_Shape_Identity, v_x0_Sets_Shape_Composites, v_x0_Sets_Sizes, v_x0_Sets_Actions, v_x0_Sieves], .rd false (sImm (sInt .i64)) v_x0_Sets_Shape_From x0.Sets.Shape.From, .rd false (sImm (sInt .i64)) v_x0_Sets_Shape_To x0.Sets.Shape.To, .rd false (sImm (sInt .i64)) v_x0_Sets_Shape_Identity x0.Sets.Shape.Identity, .rd false (sImm (sImm (sInt .i64))) v_x0_Sets_Shape_Composites x0.Sets.Shape.Composites, .rd false (sImm (sInt .i64)) v_x0_Sets_Sizes x0.Sets.Sizes, .rd false (sImm (sImm (sInt .i64))) v_x0_Sets_Actions x0.Sets.Actions, .rd false (sImm (sImm (sImm (sInt .i64)))) v_x0_Sieves x0.Sieves] (fun y (v : Value) => [v]) (fun y v => [.own (sOwn 2 (sInt .i64)) v y]) := by
  refine ct (S := Unit) (owt fun _ _ => rfl) Tryz.func24 rfl rfl ?_
  repeat' first
    | intro _
    | exact rfl
    | (refine @id.{0} _ ?_; constructor)
    | apply Dk.loop 0 (V := Value) (fun (s : (List Int) × Int) v => [.own (sOwn 2 (sInt .i64)) v s.1]) (fun s v => [(3, v), (14, .int .i64 (s.2))]) _ [(0, _), (12, _), (13, _)]
    | apply Dk.loop 2 (V := Value) (fun (s : (List Int) × Int) v => [.own (sOwn 2 (sInt .i64)) v s.1]) (fun s v => [(3, v), (21, .int .i64 (s.2))]) _ [(0, _), (4, _), (12, _), (13, _), (14, _), (19, _), (20, _)]
    | apply c17
    | exact ()
theorem c47_k79 {x0 : MSetFunctor} {p_x0 : Addr} {v_x0_Shape_From : Value} {v_x0_Shape_To : Value} {v_x0_Shape_Identity : Value} {v_x0_Shape_Composites : Value} {v_x0_Sizes : Value} {v_x0_Actions : Value} {q_x2 : MSetFunctor} {q_p_x2q : Addr} {q_p_x2 : Addr} {q_v_x2_Shape_From : Value} {q_v_x2_Shape_To : Value} {q_v_x2_Shape_Identity : Value} {q_v_x2_Shape_Composites : Value} {q_v_x2_Sizes : Value} {q_v_x2_Actions : Value} {q_x3 : MPart} {q_p_x3 : Addr} {q_v_x3_Members : Value} {q_x4 : MPart} {q_p_x4 : Addr} {q_v_x4_Members : Value} : Ct Tryz.prog 47 true (impl_partOf x0 (fun a0 a1 => impl_SetFunctor_imply_1 a0 a1 q_x2 q_x3 q_x4)) [.pointer (some (p_x0)), .func (.func 79) #[] #[.pointer (some (q_p_x2q)), .pointer (some (q_p_x3)), .pointer (some (q_p_x4))]] [.ats p_x0 [.int .i64 (x0.Shape.Objects), v_x0_Shape_From, v_x0_Shape_To, v_x0_Shape_Identity, v_x0_Shape_Composites, v_x0_Sizes, v_x0_Actions], .rd false (sImm (sInt .i64)) v_x0_Shape_From x0.Shape.From, .rd false (sImm (sInt .i64)) v_x0_Shape_To x0.Shape.To, .rd false (sImm (sInt .i64)) v_x0_Shape_Identity x0.Shape.Identity, .rd false (sImm (sImm (sInt .i64))) v_x0_Shape_Composites x0.Shape.Composites, .rd false (sImm (sInt .i64)) v_x0_Sizes x0.Sizes, .rd false (sImm (sImm (sInt .i64))) v_x0_Actions x0.Actions, .ats q_p_x4 [q_v_x4_Members], .ats q_p_x3 [q_v_x3_Members], .ats q_p_x2q [.pointer (some (q_p_x2))], .ats q_p_x2 [.int .i64 (q_x2.Shape.Objects), q_v_x2_Shape_From, q_v_x2_Shape_To, q_v_x2_Shape_Identity, q_v_x2_Shape_Composites, q_v_x2_Sizes, q_v_x2_Actions], .rd false (sImm (sInt .i64)) q_v_x2_Shape_From q_x2.Shape.From, .rd false (sImm (sInt .i64)) q_v_x2_Shape_To q_x2.Shape.To, .rd false (sImm (sInt .i64)) q_v_x2_Shape_Identity q_x2.Shape.Identity, .rd false (sImm (sImm (sInt .i64))) q_v_x2_Shape_Composites q_x2.Shape.Composites, .rd false (sImm (sInt .i64)) q_v_x2_Sizes q_x2.Sizes, .rd false (sImm (sImm (sInt .i64))) q_v_x2_Actions q_x2.Actions, .rd false (sImm (sImm (sInt .i64))) q_v_x3_Members q_x3.Members, .rd false (sImm (sImm (sInt .i64))) q_v_x4_Members q_x4.Members] (fun y (v : Value) => [.agg #[v]]) (fun y v => [.own (sOwn 24 (sOwn 2 (sInt .i64))) v y.Members]) := by
  refine ct (S := Unit) (owt fun _ _ => rfl) Tryz.func47 rfl rfl ?_
  repeat' first
    | intro _
    | exact rfl
    | (refine @id.{0} _ ?_; constructor)
    | apply Dk.loopA 0 (V := Value) (A := Nat) _ (fun a (s : Int × (List (List Int))) v => [.row a [v] 38, .own (sOwn 24 (sOwn 2 (sInt .i64))) v s.2]) (fun a s v => [(5, .pointer (some ⟨a, 0, none⟩)), (16, .int .i64 (s.1))]) _ [(1, _), (4, _), (14, _), (15, _)]
    | apply Dk.loop 2 (V := Value) (fun (s : (List Int) × Int) v => [.own (sOwn 2 (sInt .i64)) v s.1]) (fun s v => [(8, v), (23, .int .i64 (s.2))]) _ [(1, _), (4, _), (5, _), (6, _), (14, _), (15, _), (16, _), (22, _)]
    | apply c79
    | exact ()
theorem c50 {x0 : MSetFunctor} {p_x0 : Addr} {v_x0_Shape_From : Value} {v_x0_Shape_To : Value} {v_x0_Shape_Identity : Value} {v_x0_Shape_Composites : Value} {v_x0_Sizes : Value} {v_x0_Actions : Value} {x1 : MPart} {v_x1_Members : Value} {x2 : MPart} {v_x2_Members : Value} : Ct Tryz.prog 50 true (impl_SetFunctor_imply x0 x1 x2) [.pointer (some (p_x0)), .agg #[v_x1_Members], .agg #[v_x2_Members]] [.ats p_x0 [.int .i64 (x0.Shape.Objects), v_x0_Shape_From, v_x0_Shape_To, v_x0_Shape_Identity, v_x0_Shape_Composites, v_x0_Sizes, v_x0_Actions], .rd false (sImm (sInt .i64)) v_x0_Shape_From x0.Shape.From, .rd false (sImm (sInt .i64)) v_x0_Shape_To x0.Shape.To, .rd false (sImm (sInt .i64)) v_x0_Shape_Identity x0.Shape.Identity, .rd false (sImm (sImm (sInt .i64))) v_x0_Shape_Composites x0.Shape.Composites, .rd false (sImm (sInt .i64)) v_x0_Sizes x0.Sizes, .rd false (sImm (sImm (sInt .i64))) v_x0_Actions x0.Actions, .rd false (sImm (sImm (sInt .i64))) v_x1_Members x1.Members, .rd false (sImm (sImm (sInt .i64))) v_x2_Members x2.Members] (fun y (v : Value) => [.agg #[v]]) (fun y v => [.own (sOwn 24 (sOwn 2 (sInt .i64))) v y.Members]) := by
  refine ct (S := Unit) (owt fun _ _ => rfl) Tryz.func50 rfl rfl ?_
  repeat' first
    | intro _
    | exact rfl
    | (refine @id.{0} _ ?_; constructor)
    | apply c79
    | apply c47_k79
    | exact ()
theorem c28 {x0 : MSetFunctor} {p_x0 : Addr} {v_x0_Shape_From : Value} {v_x0_Shape_To : Value} {v_x0_Shape_Identity : Value} {v_x0_Shape_Composites : Value} {v_x0_Sizes : Value} {v_x0_Actions : Value} {x1 : MPart} {v_x1_Members : Value} : Ct Tryz.prog 28 true (impl_SetFunctor_negate x0 x1) [.pointer (some (p_x0)), .agg #[v_x1_Members]] [.ats p_x0 [.int .i64 (x0.Shape.Objects), v_x0_Shape_From, v_x0_Shape_To, v_x0_Shape_Identity, v_x0_Shape_Composites, v_x0_Sizes, v_x0_Actions], .rd false (sImm (sInt .i64)) v_x0_Shape_From x0.Shape.From, .rd false (sImm (sInt .i64)) v_x0_Shape_To x0.Shape.To, .rd false (sImm (sInt .i64)) v_x0_Shape_Identity x0.Shape.Identity, .rd false (sImm (sImm (sInt .i64))) v_x0_Shape_Composites x0.Shape.Composites, .rd false (sImm (sInt .i64)) v_x0_Sizes x0.Sizes, .rd false (sImm (sImm (sInt .i64))) v_x0_Actions x0.Actions, .rd false (sImm (sImm (sInt .i64))) v_x1_Members x1.Members] (fun y (v : Value) => [.agg #[v]]) (fun y v => [.own (sOwn 24 (sOwn 2 (sInt .i64))) v y.Members]) := by
  refine ct (S := Unit) (owt fun _ _ => rfl) Tryz.func28 rfl rfl ?_
  repeat' first
    | intro _
    | exact rfl
    | (refine @id.{0} _ ?_; constructor)
    | apply Dk.any (id := 1) 4 [] [] [[], [], [], [2]] (by kernel_rfl)
    | apply c51
    | apply c50
    | exact ()
end Go.Proofs.YtbedkejmebepcaaGreat
