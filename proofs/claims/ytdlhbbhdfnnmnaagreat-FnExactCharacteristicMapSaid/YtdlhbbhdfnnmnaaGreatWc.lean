/- Walks by the calculus D. No condition beside those that each theorem names. -/
import Derived.Test.YtdlhbbhdfnnmnaaGreatDi
import Derived.Test.YtdlhbbhdfnnmnaaGreatMo
import Derived.Test.YtdlhbbhdfnnmnaaGreatDs
import Derived.Test.YtdlhbbhdfnnmnaaGreatSo
namespace Go.Proofs.YtdlhbbhdfnnmnaaGreat
open Go Go.Li Go.Dk
set_option linter.unusedVariables false
set_option maxHeartbeats 1000000
set_option maxRecDepth 100000
theorem c95 {x0 : (List Int)} {v_x0 : Value} {x1 : Int} : Ct Tryz.prog 95 true (laws_szInt64S x0 x1) [v_x0, .int .i64 (x1)] [.rd false (sImm (sInt .i64)) v_x0 x0] (fun y (_ : Unit) => [.int .i64 y]) (fun y _ => []) := by
  refine ct (S := Unit) (owt fun _ _ => rfl) Tryz.func95 rfl rfl ?_
  repeat' first
    | intro _
    | exact rfl
    | (refine @id.{0} _ ?_; constructor)
    | exact ()
theorem c73 {x0 : (List (List Int))} {v_x0 : Value} {x1 : Int} : Ct Tryz.prog 73 true (laws_szInt64SS x0 x1) [v_x0, .int .i64 (x1)] [.rd false (sImm (sImm (sInt .i64))) v_x0 x0] (fun y (_ : Unit) => [.int .i64 y]) (fun y _ => []) := by
  refine ct (S := Unit) (owt fun _ _ => rfl) Tryz.func73 rfl rfl ?_
  repeat' first
    | intro _
    | exact rfl
    | (refine @id.{0} _ ?_; constructor)
    | apply Dk.loop 0 (V := Unit) (fun (s : Int × Int) v => []) (fun s v => [(1, .int .i64 (s.1)), (5, .int .i64 (s.2))]) () [(0, _)]
    | apply c95
    | exact ()
theorem c97 {x0 : (List Int)} {v_x0 : Value} : Ct Tryz.prog 97 true (laws_toInt64S x0) [v_x0] [.rd false (sImm (sInt .i64)) v_x0 x0] (fun y (v : Value) => [v]) (fun y v => [.own (sOwn 2 (sInt .i64)) v y]) := by
  refine ct (S := Unit) (owt fun _ _ => rfl) Tryz.func97 rfl rfl ?_
  repeat' first
    | intro _
    | exact rfl
    | (refine @id.{0} _ ?_; constructor)
    | apply Dk.loopA 0 (V := Unit) (A := Value) _ (fun a (s : Int × (List Int)) v => [.own (sOwn 2 (sInt .i64)) a s.2]) (fun a s v => [(3, a), (4, .int .i64 (s.1))]) () [(0, _)]
    | exact ()
theorem c80 {x0 : (List (List Int))} {v_x0 : Value} : Ct Tryz.prog 80 true (laws_toInt64SS x0) [v_x0] [.rd false (sImm (sImm (sInt .i64))) v_x0 x0] (fun y (v : Value) => [v]) (fun y v => [.own (sOwn 22 (sOwn 2 (sInt .i64))) v y]) := by
  refine ct (S := Unit) (owt fun _ _ => rfl) Tryz.func80 rfl rfl ?_
  repeat' first
    | intro _
    | exact rfl
    | (refine @id.{0} _ ?_; constructor)
    | apply Dk.loopA 0 (V := Unit) (A := Value) _ (fun a (s : Int × (List (List Int))) v => [.own (sOwn 22 (sOwn 2 (sInt .i64))) a s.2]) (fun a s v => [(3, a), (4, .int .i64 (s.1))]) () [(0, _)]
    | apply c97
    | exact ()
theorem c252 {x0 : MCategory} {v_x0_From : Value} {v_x0_To : Value} {v_x0_Identity : Value} {v_x0_Composites : Value} : Ct Tryz.prog 252 true (spec_l02Fault x0) [.agg #[.int .i64 (x0.Objects), v_x0_From, v_x0_To, v_x0_Identity, v_x0_Composites]] [.rd false (sImm (sInt .i64)) v_x0_From x0.From, .rd false (sImm (sInt .i64)) v_x0_To x0.To, .rd false (sImm (sInt .i64)) v_x0_Identity x0.Identity, .rd false (sImm (sImm (sInt .i64))) v_x0_Composites x0.Composites] (fun y (_ : Unit) => [.int .i64 y.1, .int .i64 y.2.1, .int .i64 y.2.2.1, .int .i64 y.2.2.2]) (fun y _ => []) := by
  refine ct (S := Unit) (owt fun _ _ => rfl) Tryz.func252 rfl rfl ?_
  repeat' first
    | intro _
    | exact rfl
    | (refine @id.{0} _ ?_; constructor)
    | apply Dk.loop 0 (V := Unit) (fun (s : Int) v => []) (fun s v => [(7, .int .i64 (s))]) () [(1, _), (6, _)]
    | apply Dk.loop 2 (V := Unit) (fun (s : Int) v => []) (fun s v => [(8, .int .i64 (s))]) () [(1, _), (6, _)]
    | apply Dk.loop 4 (V := Unit) (fun (s : Int) v => []) (fun s v => [(9, .int .i64 (s))]) () [(1, _), (6, _), (8, _)]
    | apply Dk.loop 6 (V := Unit) (fun (s : Int) v => []) (fun s v => [(10, .int .i64 (s))]) () [(1, _), (6, _), (8, _), (9, _)]
    | apply Dk.quiet (id := 5) (by kernel_rfl)
    | apply Dk.quiet (id := 13) (by kernel_rfl)
    | apply Dk.quiet (id := 17) (by kernel_rfl)
    | exact ()
theorem c299 {x0 : (List Int)} {v_x0 : Value} : Ct Tryz.prog 299 true (impl_rising x0) [v_x0] [.rd false (sImm (sInt .i64)) v_x0 x0] (fun y (_ : Unit) => [.bool y]) (fun y _ => []) := by
  refine ct (S := Unit) (owt fun _ _ => rfl) Tryz.func299 rfl rfl ?_
  repeat' first
    | intro _
    | exact rfl
    | (refine @id.{0} _ ?_; constructor)
    | apply Dk.loop 0 (V := Unit) (fun (s : Int) v => []) (fun s v => [(3, .int .i64 (s))]) () [(0, _)]
    | apply Dk.quiet (id := 4) (by kernel_rfl)
    | exact ()
theorem c176 {x0 : (List Int)} {v_x0 : Value} : Ct Tryz.prog 176 true (impl_clone x0) [v_x0] [.rd false (sImm (sInt .i64)) v_x0 x0] (fun y (v : Value) => [v]) (fun y v => [.own (sOwn 2 (sInt .i64)) v y]) := by
  refine ct (S := Unit) (owt fun _ _ => rfl) Tryz.func176 rfl rfl ?_
  repeat' first
    | intro _
    | exact rfl
    | (refine @id.{0} _ ?_; constructor)
    | exact ()
theorem c213 {x0 : (List (List Int))} {v_x0 : Value} : Ct Tryz.prog 213 true (impl_clones x0) [v_x0] [.rd false (sImm (sImm (sInt .i64))) v_x0 x0] (fun y (v : Value) => [v]) (fun y v => [.own (sOwn 22 (sOwn 2 (sInt .i64))) v y]) := by
  refine ct (S := Unit) (owt fun _ _ => rfl) Tryz.func213 rfl rfl ?_
  repeat' first
    | intro _
    | exact rfl
    | (refine @id.{0} _ ?_; constructor)
    | apply Dk.loop 0 (V := Value) (fun (s : (List (List Int)) × Int) v => [.own (sOwn 22 (sOwn 2 (sInt .i64))) v s.1]) (fun s v => [(3, v), (11, .int .i64 (s.2))]) _ [(9, _), (10, _)]
    | apply c176
    | exact ()
theorem c229 {x0 : (List Int)} {v_x0 : Value} {x1 : (List Int)} {v_x1 : Value} : Ct Tryz.prog 229 true (impl_compare x0 x1) [v_x0, v_x1] [.rd false (sImm (sInt .i64)) v_x0 x0, .rd false (sImm (sInt .i64)) v_x1 x1] (fun y (_ : Unit) => [.int .i64 y]) (fun y _ => []) := by
  refine ct (S := Unit) (owt fun _ _ => rfl) Tryz.func229 rfl rfl ?_
  repeat' first
    | intro _
    | exact rfl
    | (refine @id.{0} _ ?_; constructor)
    | apply Dk.loop 0 (V := Unit) (fun (s : Int) v => []) (fun s v => [(8, .int .i64 (s))]) () [(0, _), (1, _), (7, _)]
    | apply Dk.quiet (id := 6) (by kernel_rfl)
    | apply Dk.quiet (id := 7) (by kernel_rfl)
    | exact ()
theorem c172 {x0 : (List Int)} {v_x0 : Value} {x1 : (List Int)} {v_x1 : Value} : Ct Tryz.prog 172 true (impl_same x0 x1) [v_x0, v_x1] [.rd false (sImm (sInt .i64)) v_x0 x0, .rd false (sImm (sInt .i64)) v_x1 x1] (fun y (_ : Unit) => [.bool y]) (fun y _ => []) := by
  refine ct (S := Unit) (owt fun _ _ => rfl) Tryz.func172 rfl rfl ?_
  repeat' first
    | intro _
    | exact rfl
    | (refine @id.{0} _ ?_; constructor)
    | apply c229
    | exact ()
theorem c304 {x0 : (List Int)} {v_x0 : Value} {x1 : (List Int)} {v_x1 : Value} : Ct Tryz.prog 304 true (impl_Category_sieves_2 x0 x1) [v_x0, v_x1] [.rd false (sImm (sInt .i64)) v_x0 x0, .rd false (sImm (sInt .i64)) v_x1 x1] (fun y (_ : Unit) => [.int .i64 y]) (fun y _ => []) := by
  refine ct (S := Unit) (owt fun _ _ => rfl) Tryz.func304 rfl rfl ?_
  repeat' first
    | intro _
    | exact rfl
    | (refine @id.{0} _ ?_; constructor)
    | apply c229
    | exact ()
theorem c91 {x0 : (List Int)} {v_x0 : Value} {x1 : (List Int)} {v_x1 : Value} : Ct Tryz.prog 91 true (laws_eqInt64S x0 x1) [v_x0, v_x1] [.rd false (sImm (sInt .i64)) v_x0 x0, .rd false (sImm (sInt .i64)) v_x1 x1] (fun y (_ : Unit) => [.bool y]) (fun y _ => []) := by
  refine ct (S := Unit) (owt fun _ _ => rfl) Tryz.func91 rfl rfl ?_
  repeat' first
    | intro _
    | exact rfl
    | (refine @id.{0} _ ?_; constructor)
    | apply Dk.loop 0 (V := Unit) (fun (s : Int) v => []) (fun s v => [(5, .int .i64 (s))]) () [(0, _), (1, _)]
    | apply Dk.quiet (id := 6) (by kernel_rfl)
    | exact ()
theorem c20 {x0 : (List (List Int))} {v_x0 : Value} {x1 : (List (List Int))} {v_x1 : Value} : Ct Tryz.prog 20 true (laws_eqInt64SS x0 x1) [v_x0, v_x1] [.rd false (sImm (sImm (sInt .i64))) v_x0 x0, .rd false (sImm (sImm (sInt .i64))) v_x1 x1] (fun y (_ : Unit) => [.bool y]) (fun y _ => []) := by
  refine ct (S := Unit) (owt fun _ _ => rfl) Tryz.func20 rfl rfl ?_
  repeat' first
    | intro _
    | exact rfl
    | (refine @id.{0} _ ?_; constructor)
    | apply Dk.loop 0 (V := Unit) (fun (s : Int) v => []) (fun s v => [(5, .int .i64 (s))]) () [(0, _), (1, _)]
    | apply Dk.quiet (id := 6) (by kernel_rfl)
    | apply c91
    | exact ()
end Go.Proofs.YtdlhbbhdfnnmnaaGreat
