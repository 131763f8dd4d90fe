/- Walks by the calculus D. No condition beside those that each theorem names. -/
import Derived.Test.YtjfahghkjblgjaaGreatDi
import Derived.Test.YtjfahghkjblgjaaGreatMo
import Derived.Test.YtjfahghkjblgjaaGreatDg
import Derived.Test.YtjfahghkjblgjaaGreatDs
namespace Go.Proofs.YtjfahghkjblgjaaGreat
open Go Go.Li Go.Dk
set_option linter.unusedVariables false
set_option maxHeartbeats 16000000
set_option maxRecDepth 100000
theorem c63 {x0:(List Int)} {v_x0:Value}:Ct Tryz.prog 63 true (spec_l01Own x0) [v_x0] [.rd false (sImm (sInt .i64)) v_x0 x0] (fun y (v:Value)=>[v]) (fun y v=>[.own (sOwn 2 (sInt .i64)) v y]):=by
 refine ct (S:=Unit) (owt fun _ _=>rfl) Tryz.func63 rfl rfl ?_
 repeat' first
  | intro _
  | exact rfl
  | (refine @id.{0} _ ?_; constructor)
  | exact ()
theorem c36 {x0:(List (List Int))} {v_x0:Value}:Ct Tryz.prog 36 true (spec_l01Own2 x0) [v_x0] [.rd false (sImm (sImm (sInt .i64))) v_x0 x0] (fun y (v:Value)=>[v]) (fun y v=>[.own (sOwn 24 (sOwn 2 (sInt .i64))) v y]):=by
 refine ct (S:=Unit) (owt fun _ _=>rfl) Tryz.func36 rfl rfl ?_
 repeat' first
  | intro _
  | exact rfl
  | (refine @id.{0} _ ?_; constructor)
  | apply Dk.loop 0 (V:=Value) (fun (s:(List (List Int))×Int) v=>[.own (sOwn 24 (sOwn 2 (sInt .i64))) v s.1]) (fun s v=>[(3,v),(4,.int .i64 (s.2))]) _ [(0,_)]
  | apply c63
  | exact ()
theorem c109 {x0:MCategory} {v_x0_From:Value} {v_x0_To:Value} {v_x0_Identity:Value} {v_x0_Composites:Value}:Ct Tryz.prog 109 true (spec_l03Op x0) [.agg #[.int .i64 (x0.Objects),v_x0_From,v_x0_To,v_x0_Identity,v_x0_Composites]] [.rd false (sImm (sInt .i64)) v_x0_From x0.From,.rd false (sImm (sInt .i64)) v_x0_To x0.To,.rd false (sImm (sInt .i64)) v_x0_Identity x0.Identity,.rd false (sImm (sImm (sInt .i64))) v_x0_Composites x0.Composites] (fun y (v:Value×Value×Value×Value)=>[.agg #[.int .i64 y.Objects,v.1,v.2.1,v.2.2.1,v.2.2.2]]) (fun y v=>[.own (sOwn 2 (sInt .i64)) v.1 y.From,.own (sOwn 2 (sInt .i64)) v.2.1 y.To,.own (sOwn 2 (sInt .i64)) v.2.2.1 y.Identity,.own (sOwn 24 (sOwn 2 (sInt .i64))) v.2.2.2 y.Composites]):=by
 refine ct (S:=Unit) (owt fun _ _=>rfl) Tryz.func109 rfl rfl ?_
 repeat' first
  | intro _
  | exact rfl
  | (refine Dk.cdR (t:=32) rfl ?_ ?_)
  | (refine @id.{0} _ ?_; constructor)
  | apply Dk.loopA 0 (V:=Value) (A:=Nat×Value×Value×Value) (_,_,_,_) (fun a (s:Int×(List (List Int))) v=>Dk.pc (fun a0=>Dk.pc (fun a1=>Dk.pc (fun a2 a3=>[.row a0 [.int .i64 (x0.Objects),a1,a2,a3,v] 27,.own (sOwn 24 (sOwn 2 (sInt .i64))) v s.2]))) a) (fun a s v=>Dk.pc (fun a0=>Dk.pc (fun a1=>Dk.pc (fun a2 a3=>[(3,.pointer (some ⟨a0,0,none⟩)),(4,.int .i64 (s.1))]))) a) _ [(1,_),(2,_)]
  | apply Dk.loop 2 (V:=Value) (fun (s:(List Int)×Int) v=>[.own (sOwn 2 (sInt .i64)) v s.1]) (fun s v=>[(5,v),(6,.int .i64 (s.2))]) _ [(1,_),(2,_),(3,_),(4,_)]
  | apply Dk.anyP (id:=1) [13,0,1,2,3,4,5,6,7,8,9,10,11,12,14] [1,2,3,4,5,6,7,8,9,10,11,12,13,0,14] [] 14 [] [] [[],[],[1],[],[3],[4,3],[],[6],[7,6,5,4,3],[],[9],[10,9,8,7,6,5,4,3],[],[2,1,5,4,3,8,7,6,5,4,3,11,10,9,8,7,6,5,4,3,12]] (by kernel_rfl)
  | apply c63
  | exact ()
theorem c67 {x0:MCategory} {v_x0_From:Value} {v_x0_To:Value} {v_x0_Identity:Value} {v_x0_Composites:Value} {x1:Int} {x2:Int}:Ct Tryz.prog 67 true (spec_l02Then x0 x1 x2) [.agg #[.int .i64 (x0.Objects),v_x0_From,v_x0_To,v_x0_Identity,v_x0_Composites],.int .i64 (x1),.int .i64 (x2)] [.rd false (sImm (sInt .i64)) v_x0_From x0.From,.rd false (sImm (sInt .i64)) v_x0_To x0.To,.rd false (sImm (sInt .i64)) v_x0_Identity x0.Identity,.rd false (sImm (sImm (sInt .i64))) v_x0_Composites x0.Composites] (fun y (_:Unit)=>[.int .i64 y]) (fun y _=>[]):=by
 refine ct (S:=Unit) (owt fun _ _=>rfl) Tryz.func67 rfl rfl ?_
 repeat' first
  | intro _
  | exact rfl
  | (refine @id.{0} _ ?_; constructor)
  | exact ()
theorem c86 {x0:(List Int)} {v_x0:Value} {x1:Int}:Ct Tryz.prog 86 true (spec_l01Index x0 x1) [v_x0,.int .i64 (x1)] [.rd false (sImm (sInt .i64)) v_x0 x0] (fun y (_:Unit)=>[.int .i64 y]) (fun y _=>[]):=by
 refine ct (S:=Unit) (owt fun _ _=>rfl) Tryz.func86 rfl rfl ?_
 repeat' first
  | intro _
  | exact rfl
  | (refine @id.{0} _ ?_; constructor)
  | apply Dk.loop 0 (V:=Unit) (fun (s:Int) v=>[]) (fun s v=>[(5,.int .i64 (s))]) () [(0,_),(1,_)]
  | exact ()
theorem c85 {x0:(List Int)} {v_x0:Value}:Ct Tryz.prog 85 true (spec_l01Classes x0) [v_x0] [.rd false (sImm (sInt .i64)) v_x0 x0] (fun y (v:Value)=>[v]) (fun y v=>[.own (sOwn 2 (sInt .i64)) v y]):=by
 refine ct (S:=Unit) (owt fun _ _=>rfl) Tryz.func85 rfl rfl ?_
 repeat' first
  | intro _
  | exact rfl
  | (refine @id.{0} _ ?_; constructor)
  | apply Dk.loop 0 (V:=Value×Value) (fun (s:(List Int)×(List Int)×Int) v=>[.own (sOwn 2 (sInt .i64)) v.1 s.1,.own (sOwn 2 (sInt .i64)) v.2 s.2.1]) (fun s v=>[(3,v.1),(4,v.2),(5,.int .i64 (s.2.2))]) (_,_) [(0,_)]
  | apply c86
  | exact ()
theorem c69 {x0:(List Int)} {v_x0:Value}:Ct Tryz.prog 69 true (spec_l01Pairs x0) [v_x0] [.rd false (sImm (sInt .i64)) v_x0 x0] (fun y (v:Value)=>[v]) (fun y v=>[.own (sOwn 24 (sOwn 2 (sInt .i64))) v y]):=by
 refine ct (S:=Unit) (owt fun _ _=>rfl) Tryz.func69 rfl rfl ?_
 repeat' first
  | intro _
  | exact rfl
  | apply Dk.litO (d:=20)
  | (refine @id.{0} _ ?_; constructor)
  | apply Dk.loop 0 (V:=Value) (fun (s:(List (List Int))×Int) v=>[.own (sOwn 24 (sOwn 2 (sInt .i64))) v s.1]) (fun s v=>[(3,v),(4,.int .i64 (s.2))]) _ [(0,_)]
  | apply c86
  | exact ()
theorem c20 {x0:MSetFunctor} {v_x0_Shape_From:Value} {v_x0_Shape_To:Value} {v_x0_Shape_Identity:Value} {v_x0_Shape_Composites:Value} {v_x0_Sizes:Value} {v_x0_Actions:Value}:Ct Tryz.prog 20 true (spec_l19Self x0) [.agg #[.int .i64 (x0.Shape.Objects),v_x0_Shape_From,v_x0_Shape_To,v_x0_Shape_Identity,v_x0_Shape_Composites,v_x0_Sizes,v_x0_Actions]] [.rd false (sImm (sInt .i64)) v_x0_Shape_From x0.Shape.From,.rd false (sImm (sInt .i64)) v_x0_Shape_To x0.Shape.To,.rd false (sImm (sInt .i64)) v_x0_Shape_Identity x0.Shape.Identity,.rd false (sImm (sImm (sInt .i64))) v_x0_Shape_Composites x0.Shape.Composites,.rd false (sImm (sInt .i64)) v_x0_Sizes x0.Sizes,.rd false (sImm (sImm (sInt .i64))) v_x0_Actions x0.Actions] (fun y (v:Value)=>[v]) (fun y v=>[.own (sOwn 24 (sOwn 2 (sInt .i64))) v y]):=by
 refine ct (S:=Unit) (owt fun _ _=>rfl) Tryz.func20 rfl rfl ?_
 repeat' first
  | intro _
  | exact rfl
  | (refine @id.{0} _ ?_; constructor)
  | apply Dk.loop 0 (V:=Value) (fun (s:(List (List Int))×Int) v=>[.own (sOwn 24 (sOwn 2 (sInt .i64))) v s.1]) (fun s v=>[(3,v),(4,.int .i64 (s.2))]) _ [(1,_)]
  | apply Dk.loop 2 (V:=Value) (fun (s:(List Int)×Int) v=>[.own (sOwn 2 (sInt .i64)) v s.1]) (fun s v=>[(5,v),(6,.int .i64 (s.2))]) _ [(1,_),(3,_),(4,_)]
  | exact ()
theorem c57 {x0:MSetFunctor} {p_x0:Addr} {v_x0_Shape_From:Value} {v_x0_Shape_To:Value} {v_x0_Shape_Identity:Value} {v_x0_Shape_Composites:Value} {v_x0_Sizes:Value} {v_x0_Actions:Value}:Ct Tryz.prog 57 true (impl_SetFunctor_fault x0) [.pointer (some (p_x0))] [.ats p_x0 [.int .i64 (x0.Shape.Objects),v_x0_Shape_From,v_x0_Shape_To,v_x0_Shape_Identity,v_x0_Shape_Composites,v_x0_Sizes,v_x0_Actions],.rd false (sImm (sInt .i64)) v_x0_Shape_From x0.Shape.From,.rd false (sImm (sInt .i64)) v_x0_Shape_To x0.Shape.To,.rd false (sImm (sInt .i64)) v_x0_Shape_Identity x0.Shape.Identity,.rd false (sImm (sImm (sInt .i64))) v_x0_Shape_Composites x0.Shape.Composites,.rd false (sImm (sInt .i64)) v_x0_Sizes x0.Sizes,.rd false (sImm (sImm (sInt .i64))) v_x0_Actions x0.Actions] (fun y (_:Unit)=>[.int .i64 y.1,.int .i64 y.2.1,.int .i64 y.2.2.1,.int .i64 y.2.2.2]) (fun y _=>[]):=by
 refine ct (S:=Unit) (owt fun _ _=>rfl) Tryz.func57 rfl rfl ?_
 repeat' first
  | intro _
  | exact rfl
  | (refine @id.{0} _ ?_; constructor)
  | apply Dk.loop 0 (V:=Unit) (fun (s:Int) v=>[]) (fun s v=>[(25,.int .i64 (s))]) () [(0,_),(6,_),(23,_),(24,_)]
  | apply Dk.loop 2 (V:=Unit) (fun (s:Int) v=>[]) (fun s v=>[(38,.int .i64 (s))]) () [(0,_),(6,_),(7,_),(23,_),(24,_),(25,_),(36,_),(37,_)]
  | apply Dk.loop 4 (V:=Unit) (fun (s:Int) v=>[]) (fun s v=>[(55,.int .i64 (s))]) () [(0,_),(53,_),(54,_)]
  | apply Dk.loop 6 (V:=Unit) (fun (s:Int) v=>[]) (fun s v=>[(62,.int .i64 (s))]) () [(0,_),(11,_),(53,_),(54,_),(55,_),(60,_),(61,_)]
  | apply Dk.loop 8 (V:=Unit) (fun (s:Int) v=>[]) (fun s v=>[(77,.int .i64 (s))]) () [(0,_),(11,_),(13,_),(14,_),(53,_),(54,_),(55,_),(60,_),(61,_),(62,_),(75,_),(76,_)]
  | apply Dk.quiet (id:=22) (by kernel_rfl)
  | exact ()
theorem c59 {x0:MSetMap} {p_x0:Addr} {v_x0_Source_Shape_From:Value} {v_x0_Source_Shape_To:Value} {v_x0_Source_Shape_Identity:Value} {v_x0_Source_Shape_Composites:Value} {v_x0_Source_Sizes:Value} {v_x0_Source_Actions:Value} {v_x0_Target_Shape_From:Value} {v_x0_Target_Shape_To:Value} {v_x0_Target_Shape_Identity:Value} {v_x0_Target_Shape_Composites:Value} {v_x0_Target_Sizes:Value} {v_x0_Target_Actions:Value} {v_x0_Parts:Value}:Ct Tryz.prog 59 true (impl_SetMap_unnatural x0) [.pointer (some (p_x0))] [.ats p_x0 [.int .i64 (x0.Source.Shape.Objects),v_x0_Source_Shape_From,v_x0_Source_Shape_To,v_x0_Source_Shape_Identity,v_x0_Source_Shape_Composites,v_x0_Source_Sizes,v_x0_Source_Actions,.int .i64 (x0.Target.Shape.Objects),v_x0_Target_Shape_From,v_x0_Target_Shape_To,v_x0_Target_Shape_Identity,v_x0_Target_Shape_Composites,v_x0_Target_Sizes,v_x0_Target_Actions,v_x0_Parts],.rd false (sImm (sInt .i64)) v_x0_Source_Shape_From x0.Source.Shape.From,.rd false (sImm (sInt .i64)) v_x0_Source_Shape_To x0.Source.Shape.To,.rd false (sImm (sInt .i64)) v_x0_Source_Shape_Identity x0.Source.Shape.Identity,.rd false (sImm (sImm (sInt .i64))) v_x0_Source_Shape_Composites x0.Source.Shape.Composites,.rd false (sImm (sInt .i64)) v_x0_Source_Sizes x0.Source.Sizes,.rd false (sImm (sImm (sInt .i64))) v_x0_Source_Actions x0.Source.Actions,.rd false (sImm (sInt .i64)) v_x0_Target_Shape_From x0.Target.Shape.From,.rd false (sImm (sInt .i64)) v_x0_Target_Shape_To x0.Target.Shape.To,.rd false (sImm (sInt .i64)) v_x0_Target_Shape_Identity x0.Target.Shape.Identity,.rd false (sImm (sImm (sInt .i64))) v_x0_Target_Shape_Composites x0.Target.Shape.Composites,.rd false (sImm (sInt .i64)) v_x0_Target_Sizes x0.Target.Sizes,.rd false (sImm (sImm (sInt .i64))) v_x0_Target_Actions x0.Target.Actions,.rd false (sImm (sImm (sInt .i64))) v_x0_Parts x0.Parts] (fun y (_:Unit)=>[.int .i64 y.1,.int .i64 y.2]) (fun y _=>[]):=by
 refine ct (S:=Unit) (owt fun _ _=>rfl) Tryz.func59 rfl rfl ?_
 repeat' first
  | intro _
  | exact rfl
  | (refine @id.{0} _ ?_; constructor)
  | apply Dk.loop 0 (V:=Unit) (fun (s:Int) v=>[]) (fun s v=>[(17,.int .i64 (s))]) () [(0,_),(4,_),(16,_)]
  | apply Dk.loop 2 (V:=Unit) (fun (s:Int) v=>[]) (fun s v=>[(29,.int .i64 (s))]) () [(0,_),(4,_),(5,_),(16,_),(17,_),(27,_),(28,_)]
  | apply Dk.quiet (id:=8) (by kernel_rfl)
  | exact ()
theorem c49 {x0:(List Int)} {v_x0:Value} {x1:(List Int)} {v_x1:Value}:Ct Tryz.prog 49 true (impl_then x0 x1) [v_x0,v_x1] [.rd false (sImm (sInt .i64)) v_x0 x0,.rd false (sImm (sInt .i64)) v_x1 x1] (fun y (v:Value)=>[v]) (fun y v=>[.own (sOwn 2 (sInt .i64)) v y]):=by
 refine ct (S:=Unit) (owt fun _ _=>rfl) Tryz.func49 rfl rfl ?_
 repeat' first
  | intro _
  | exact rfl
  | (refine @id.{0} _ ?_; constructor)
  | apply Dk.loopA 0 (V:=Unit) (A:=Value) _ (fun a (s:Int×(List Int)) v=>[.own (sOwn 2 (sInt .i64)) a s.2]) (fun a s v=>[(5,a),(13,.int .i64 (s.1))]) () [(1,_),(11,_),(12,_)]
  | exact ()
theorem c24 {x0:(List (List Int))} {v_x0:Value} {x1:(List (List Int))} {v_x1:Value}:Ct Tryz.prog 24 true (impl_thenParts x0 x1) [v_x0,v_x1] [.rd false (sImm (sImm (sInt .i64))) v_x0 x0,.rd false (sImm (sImm (sInt .i64))) v_x1 x1] (fun y (v:Value)=>[v]) (fun y v=>[.own (sOwn 24 (sOwn 2 (sInt .i64))) v y]):=by
 refine ct (S:=Unit) (owt fun _ _=>rfl) Tryz.func24 rfl rfl ?_
 repeat' first
  | intro _
  | exact rfl
  | (refine @id.{0} _ ?_; constructor)
  | apply Dk.loop 0 (V:=Value) (fun (s:(List (List Int))×Int) v=>[.own (sOwn 24 (sOwn 2 (sInt .i64))) v s.1]) (fun s v=>[(5,v),(10,.int .i64 (s.2))]) _ [(0,_),(1,_),(9,_)]
  | apply Dk.any (id:=5) 11 [] [] [[],[],[],[1,2],[3,1,2],[],[],[5,6],[7,5,6],[4,3,1,2,8,7,5,6],[9,4,3,1,2,8,7,5,6]] (by kernel_rfl)
  | apply c49
  | exact ()
theorem c30 {x0:Int}:Ct Tryz.prog 30 true (impl_numbers x0) [.int .i64 (x0)] [] (fun y (v:Value)=>[v]) (fun y v=>[.own (sOwn 2 (sInt .i64)) v y]):=by
 refine ct (S:=Unit) (owt fun _ _=>rfl) Tryz.func30 rfl rfl ?_
 repeat' first
  | intro _
  | exact rfl
  | (refine @id.{0} _ ?_; constructor)
  | apply Dk.loopA 0 (V:=Unit) (A:=Value) _ (fun a (s:Int×(List Int)) v=>[.own (sOwn 2 (sInt .i64)) a s.2]) (fun a s v=>[(3,a),(9,.int .i64 (s.1))]) () [(8,_)]
  | exact ()
end Go.Proofs.YtjfahghkjblgjaaGreat
