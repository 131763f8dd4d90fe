/- Walks by the calculus D. No condition beside those that each theorem names. -/
import Derived.Test.YtjfahghkjblgjaaGreatDi
import Derived.Test.YtjfahghkjblgjaaGreatMo
import Derived.Test.YtjfahghkjblgjaaGreatDg
import Derived.Test.YtjfahghkjblgjaaGreatDs
import Derived.Test.YtjfahghkjblgjaaGreatWa
import Derived.Test.YtjfahghkjblgjaaGreatWb
import Derived.Test.YtjfahghkjblgjaaGreatWc
import Derived.Test.YtjfahghkjblgjaaGreatWd
import Derived.Test.YtjfahghkjblgjaaGreatWg
import Derived.Test.YtjfahghkjblgjaaGreatWh
namespace Go.Proofs.YtjfahghkjblgjaaGreat
open Go Go.Li Go.Dk
set_option linter.unusedVariables false
set_option maxHeartbeats 16000000
set_option maxRecDepth 100000
theorem c56 {x0:MSetFunctor} {p_x0:Addr} {v_x0_Shape_From:Value} {v_x0_Shape_To:Value} {v_x0_Shape_Identity:Value} {v_x0_Shape_Composites:Value} {v_x0_Sizes:Value} {v_x0_Actions:Value}:Ct Tryz.prog 56 true (impl_SetFunctor_isShape x0) [.pointer (some (p_x0))] [.ats p_x0 [.int .i64 (x0.Shape.Objects),v_x0_Shape_From,v_x0_Shape_To,v_x0_Shape_Identity,v_x0_Shape_Composites,v_x0_Sizes,v_x0_Actions],.rd false (sImm (sInt .i64)) v_x0_Shape_From x0.Shape.From,.rd false (sImm (sInt .i64)) v_x0_Shape_To x0.Shape.To,.rd false (sImm (sInt .i64)) v_x0_Shape_Identity x0.Shape.Identity,.rd false (sImm (sImm (sInt .i64))) v_x0_Shape_Composites x0.Shape.Composites,.rd false (sImm (sInt .i64)) v_x0_Sizes x0.Sizes,.rd false (sImm (sImm (sInt .i64))) v_x0_Actions x0.Actions] (fun y (_:Unit)=>[.bool y]) (fun y _=>[]):=by
 refine ct (S:=Unit) (owt fun _ _=>rfl) Tryz.func56 rfl rfl ?_
 repeat' first
  | intro _
  | exact rfl
  | (refine @id.{0} _ ?_; constructor)
  | apply Dk.loop 0 (V:=Unit) (fun (s:Int) v=>[]) (fun s v=>[(47,.int .i64 (s))]) () [(0,_),(3,_),(45,_),(46,_)]
  | apply Dk.quiet (id:=2) (by kernel_rfl)
  | apply Dk.quiet (id:=7) (by kernel_rfl)
  | apply c75
  | apply c76
  | apply c33
  | apply c77
  | exact ()
theorem c29 {x0:MSetFunctor} {p_x0:Addr} {v_x0_Shape_From:Value} {v_x0_Shape_To:Value} {v_x0_Shape_Identity:Value} {v_x0_Shape_Composites:Value} {v_x0_Sizes:Value} {v_x0_Actions:Value}:Ct Tryz.prog 29 true (impl_SetFunctor_isSetFunctor x0) [.pointer (some (p_x0))] [.ats p_x0 [.int .i64 (x0.Shape.Objects),v_x0_Shape_From,v_x0_Shape_To,v_x0_Shape_Identity,v_x0_Shape_Composites,v_x0_Sizes,v_x0_Actions],.rd false (sImm (sInt .i64)) v_x0_Shape_From x0.Shape.From,.rd false (sImm (sInt .i64)) v_x0_Shape_To x0.Shape.To,.rd false (sImm (sInt .i64)) v_x0_Shape_Identity x0.Shape.Identity,.rd false (sImm (sImm (sInt .i64))) v_x0_Shape_Composites x0.Shape.Composites,.rd false (sImm (sInt .i64)) v_x0_Sizes x0.Sizes,.rd false (sImm (sImm (sInt .i64))) v_x0_Actions x0.Actions] (fun y (_:Unit)=>[.bool y]) (fun y _=>[]):=by
 refine ct (S:=Unit) (owt fun _ _=>rfl) Tryz.func29 rfl rfl ?_
 repeat' first
  | intro _
  | exact rfl
  | (refine @id.{0} _ ?_; constructor)
  | apply c56
  | apply c57
  | exact ()
theorem c78 {x0:(List MSetFunctor)} {v_x0:Value}:Ct Tryz.prog 78 true (impl_areSetFunctors x0) [v_x0] [.rd false (sImm (sPtr sS29)) v_x0 x0] (fun y (_:Unit)=>[.bool y]) (fun y _=>[]):=by
 refine ct (S:=Unit) (owt fun _ _=>rfl) Tryz.func78 rfl rfl ?_
 repeat' first
  | intro _
  | exact rfl
  | (refine @id.{0} _ ?_; constructor)
  | apply Dk.loop 0 (V:=Unit) (fun (s:Int) v=>[]) (fun s v=>[(7,.int .i64 (s))]) () [(5,_),(6,_)]
  | apply c29
  | exact ()
theorem c58 {x0:MSetMap} {p_x0:Addr} {v_x0_Source_Shape_From:Value} {v_x0_Source_Shape_To:Value} {v_x0_Source_Shape_Identity:Value} {v_x0_Source_Shape_Composites:Value} {v_x0_Source_Sizes:Value} {v_x0_Source_Actions:Value} {v_x0_Target_Shape_From:Value} {v_x0_Target_Shape_To:Value} {v_x0_Target_Shape_Identity:Value} {v_x0_Target_Shape_Composites:Value} {v_x0_Target_Sizes:Value} {v_x0_Target_Actions:Value} {v_x0_Parts:Value}:Ct Tryz.prog 58 true (impl_SetMap_isShape x0) [.pointer (some (p_x0))] [.ats p_x0 [.int .i64 (x0.Source.Shape.Objects),v_x0_Source_Shape_From,v_x0_Source_Shape_To,v_x0_Source_Shape_Identity,v_x0_Source_Shape_Composites,v_x0_Source_Sizes,v_x0_Source_Actions,.int .i64 (x0.Target.Shape.Objects),v_x0_Target_Shape_From,v_x0_Target_Shape_To,v_x0_Target_Shape_Identity,v_x0_Target_Shape_Composites,v_x0_Target_Sizes,v_x0_Target_Actions,v_x0_Parts],.rd false (sImm (sInt .i64)) v_x0_Source_Shape_From x0.Source.Shape.From,.rd false (sImm (sInt .i64)) v_x0_Source_Shape_To x0.Source.Shape.To,.rd false (sImm (sInt .i64)) v_x0_Source_Shape_Identity x0.Source.Shape.Identity,.rd false (sImm (sImm (sInt .i64))) v_x0_Source_Shape_Composites x0.Source.Shape.Composites,.rd false (sImm (sInt .i64)) v_x0_Source_Sizes x0.Source.Sizes,.rd false (sImm (sImm (sInt .i64))) v_x0_Source_Actions x0.Source.Actions,.rd false (sImm (sInt .i64)) v_x0_Target_Shape_From x0.Target.Shape.From,.rd false (sImm (sInt .i64)) v_x0_Target_Shape_To x0.Target.Shape.To,.rd false (sImm (sInt .i64)) v_x0_Target_Shape_Identity x0.Target.Shape.Identity,.rd false (sImm (sImm (sInt .i64))) v_x0_Target_Shape_Composites x0.Target.Shape.Composites,.rd false (sImm (sInt .i64)) v_x0_Target_Sizes x0.Target.Sizes,.rd false (sImm (sImm (sInt .i64))) v_x0_Target_Actions x0.Target.Actions,.rd false (sImm (sImm (sInt .i64))) v_x0_Parts x0.Parts] (fun y (_:Unit)=>[.bool y]) (fun y _=>[]):=by
 refine ct (S:=Unit) (owt fun _ _=>rfl) Tryz.func58 rfl rfl ?_
 repeat' first
  | intro _
  | exact rfl
  | (refine @id.{0} _ ?_; constructor)
  | apply Dk.anyq (id:=1) 7 [] [[],[0],[1,0],[],[3],[4,3],[2,1,0,5,4,3]] (by kernel_rfl)
  | apply c78
  | apply c45
  | apply c79
  | exact ()
theorem c31 {x0:MSetMap} {p_x0:Addr} {v_x0_Source_Shape_From:Value} {v_x0_Source_Shape_To:Value} {v_x0_Source_Shape_Identity:Value} {v_x0_Source_Shape_Composites:Value} {v_x0_Source_Sizes:Value} {v_x0_Source_Actions:Value} {v_x0_Target_Shape_From:Value} {v_x0_Target_Shape_To:Value} {v_x0_Target_Shape_Identity:Value} {v_x0_Target_Shape_Composites:Value} {v_x0_Target_Sizes:Value} {v_x0_Target_Actions:Value} {v_x0_Parts:Value}:Ct Tryz.prog 31 true (impl_SetMap_isNatural x0) [.pointer (some (p_x0))] [.ats p_x0 [.int .i64 (x0.Source.Shape.Objects),v_x0_Source_Shape_From,v_x0_Source_Shape_To,v_x0_Source_Shape_Identity,v_x0_Source_Shape_Composites,v_x0_Source_Sizes,v_x0_Source_Actions,.int .i64 (x0.Target.Shape.Objects),v_x0_Target_Shape_From,v_x0_Target_Shape_To,v_x0_Target_Shape_Identity,v_x0_Target_Shape_Composites,v_x0_Target_Sizes,v_x0_Target_Actions,v_x0_Parts],.rd false (sImm (sInt .i64)) v_x0_Source_Shape_From x0.Source.Shape.From,.rd false (sImm (sInt .i64)) v_x0_Source_Shape_To x0.Source.Shape.To,.rd false (sImm (sInt .i64)) v_x0_Source_Shape_Identity x0.Source.Shape.Identity,.rd false (sImm (sImm (sInt .i64))) v_x0_Source_Shape_Composites x0.Source.Shape.Composites,.rd false (sImm (sInt .i64)) v_x0_Source_Sizes x0.Source.Sizes,.rd false (sImm (sImm (sInt .i64))) v_x0_Source_Actions x0.Source.Actions,.rd false (sImm (sInt .i64)) v_x0_Target_Shape_From x0.Target.Shape.From,.rd false (sImm (sInt .i64)) v_x0_Target_Shape_To x0.Target.Shape.To,.rd false (sImm (sInt .i64)) v_x0_Target_Shape_Identity x0.Target.Shape.Identity,.rd false (sImm (sImm (sInt .i64))) v_x0_Target_Shape_Composites x0.Target.Shape.Composites,.rd false (sImm (sInt .i64)) v_x0_Target_Sizes x0.Target.Sizes,.rd false (sImm (sImm (sInt .i64))) v_x0_Target_Actions x0.Target.Actions,.rd false (sImm (sImm (sInt .i64))) v_x0_Parts x0.Parts] (fun y (_:Unit)=>[.bool y]) (fun y _=>[]):=by
 refine ct (S:=Unit) (owt fun _ _=>rfl) Tryz.func31 rfl rfl ?_
 repeat' first
  | intro _
  | exact rfl
  | (refine @id.{0} _ ?_; constructor)
  | apply c58
  | apply c59
  | exact ()
theorem c23 {x0:MSetFunctor} {p_x0:Addr} {v_x0_Shape_From:Value} {v_x0_Shape_To:Value} {v_x0_Shape_Identity:Value} {v_x0_Shape_Composites:Value} {v_x0_Sizes:Value} {v_x0_Actions:Value} {x1:MSetFunctor} {p_x1:Addr} {v_x1_Shape_From:Value} {v_x1_Shape_To:Value} {v_x1_Shape_Identity:Value} {v_x1_Shape_Composites:Value} {v_x1_Sizes:Value} {v_x1_Actions:Value} {x2:(List (List Int))} {v_x2:Value}:Ct Tryz.prog 23 true (impl_setMap x0 x1 x2) [.pointer (some (p_x0)),.pointer (some (p_x1)),v_x2] [.ats p_x1 [.int .i64 (x1.Shape.Objects),v_x1_Shape_From,v_x1_Shape_To,v_x1_Shape_Identity,v_x1_Shape_Composites,v_x1_Sizes,v_x1_Actions],.ats p_x0 [.int .i64 (x0.Shape.Objects),v_x0_Shape_From,v_x0_Shape_To,v_x0_Shape_Identity,v_x0_Shape_Composites,v_x0_Sizes,v_x0_Actions],.rd false (sImm (sInt .i64)) v_x0_Shape_From x0.Shape.From,.rd false (sImm (sInt .i64)) v_x0_Shape_To x0.Shape.To,.rd false (sImm (sInt .i64)) v_x0_Shape_Identity x0.Shape.Identity,.rd false (sImm (sImm (sInt .i64))) v_x0_Shape_Composites x0.Shape.Composites,.rd false (sImm (sInt .i64)) v_x0_Sizes x0.Sizes,.rd false (sImm (sImm (sInt .i64))) v_x0_Actions x0.Actions,.rd false (sImm (sInt .i64)) v_x1_Shape_From x1.Shape.From,.rd false (sImm (sInt .i64)) v_x1_Shape_To x1.Shape.To,.rd false (sImm (sInt .i64)) v_x1_Shape_Identity x1.Shape.Identity,.rd false (sImm (sImm (sInt .i64))) v_x1_Shape_Composites x1.Shape.Composites,.rd false (sImm (sInt .i64)) v_x1_Sizes x1.Sizes,.rd false (sImm (sImm (sInt .i64))) v_x1_Actions x1.Actions,.rd false (sImm (sImm (sInt .i64))) v_x2 x2] (fun y (v:Value×Value×Value×Value×Value×Value×Value×Value×Value×Value×Value×Value×Value)=>[.agg #[.int .i64 y.Source.Shape.Objects,v.1,v.2.1,v.2.2.1,v.2.2.2.1,v.2.2.2.2.1,v.2.2.2.2.2.1,.int .i64 y.Target.Shape.Objects,v.2.2.2.2.2.2.1,v.2.2.2.2.2.2.2.1,v.2.2.2.2.2.2.2.2.1,v.2.2.2.2.2.2.2.2.2.1,v.2.2.2.2.2.2.2.2.2.2.1,v.2.2.2.2.2.2.2.2.2.2.2.1,v.2.2.2.2.2.2.2.2.2.2.2.2]]) (fun y v=>[.own (sOwn 2 (sInt .i64)) v.1 y.Source.Shape.From,.own (sOwn 2 (sInt .i64)) v.2.1 y.Source.Shape.To,.own (sOwn 2 (sInt .i64)) v.2.2.1 y.Source.Shape.Identity,.own (sOwn 24 (sOwn 2 (sInt .i64))) v.2.2.2.1 y.Source.Shape.Composites,.own (sOwn 2 (sInt .i64)) v.2.2.2.2.1 y.Source.Sizes,.own (sOwn 24 (sOwn 2 (sInt .i64))) v.2.2.2.2.2.1 y.Source.Actions,.own (sOwn 2 (sInt .i64)) v.2.2.2.2.2.2.1 y.Target.Shape.From,.own (sOwn 2 (sInt .i64)) v.2.2.2.2.2.2.2.1 y.Target.Shape.To,.own (sOwn 2 (sInt .i64)) v.2.2.2.2.2.2.2.2.1 y.Target.Shape.Identity,.own (sOwn 24 (sOwn 2 (sInt .i64))) v.2.2.2.2.2.2.2.2.2.1 y.Target.Shape.Composites,.own (sOwn 2 (sInt .i64)) v.2.2.2.2.2.2.2.2.2.2.1 y.Target.Sizes,.own (sOwn 24 (sOwn 2 (sInt .i64))) v.2.2.2.2.2.2.2.2.2.2.2.1 y.Target.Actions,.own (sOwn 24 (sOwn 2 (sInt .i64))) v.2.2.2.2.2.2.2.2.2.2.2.2 y.Parts]):=by
 refine ct (S:=Unit) (owt fun _ _=>rfl) Tryz.func23 rfl rfl ?_
 repeat' first
  | intro _
  | exact rfl
  | (refine @id.{0} _ ?_; constructor)
  | apply c47
  | apply c48
  | exact ()
theorem c9 {x0:MSetFunctor} {v_x0_Shape_From:Value} {v_x0_Shape_To:Value} {v_x0_Shape_Identity:Value} {v_x0_Shape_Composites:Value} {v_x0_Sizes:Value} {v_x0_Actions:Value}:Ct Tryz.prog 9 true (impl_IdentitySetMap x0) [.agg #[.int .i64 (x0.Shape.Objects),v_x0_Shape_From,v_x0_Shape_To,v_x0_Shape_Identity,v_x0_Shape_Composites,v_x0_Sizes,v_x0_Actions]] [.rd false (sImm (sInt .i64)) v_x0_Shape_From x0.Shape.From,.rd false (sImm (sInt .i64)) v_x0_Shape_To x0.Shape.To,.rd false (sImm (sInt .i64)) v_x0_Shape_Identity x0.Shape.Identity,.rd false (sImm (sImm (sInt .i64))) v_x0_Shape_Composites x0.Shape.Composites,.rd false (sImm (sInt .i64)) v_x0_Sizes x0.Sizes,.rd false (sImm (sImm (sInt .i64))) v_x0_Actions x0.Actions] (fun y (v:Value×Value×Value×Value×Value×Value×Value×Value×Value×Value×Value×Value×Value)=>[.agg #[.int .i64 y.1.Source.Shape.Objects,v.1,v.2.1,v.2.2.1,v.2.2.2.1,v.2.2.2.2.1,v.2.2.2.2.2.1,.int .i64 y.1.Target.Shape.Objects,v.2.2.2.2.2.2.1,v.2.2.2.2.2.2.2.1,v.2.2.2.2.2.2.2.2.1,v.2.2.2.2.2.2.2.2.2.1,v.2.2.2.2.2.2.2.2.2.2.1,v.2.2.2.2.2.2.2.2.2.2.2.1,v.2.2.2.2.2.2.2.2.2.2.2.2],.int .i64 y.2]) (fun y v=>[.own (sOwn 2 (sInt .i64)) v.1 y.1.Source.Shape.From,.own (sOwn 2 (sInt .i64)) v.2.1 y.1.Source.Shape.To,.own (sOwn 2 (sInt .i64)) v.2.2.1 y.1.Source.Shape.Identity,.own (sOwn 24 (sOwn 2 (sInt .i64))) v.2.2.2.1 y.1.Source.Shape.Composites,.own (sOwn 2 (sInt .i64)) v.2.2.2.2.1 y.1.Source.Sizes,.own (sOwn 24 (sOwn 2 (sInt .i64))) v.2.2.2.2.2.1 y.1.Source.Actions,.own (sOwn 2 (sInt .i64)) v.2.2.2.2.2.2.1 y.1.Target.Shape.From,.own (sOwn 2 (sInt .i64)) v.2.2.2.2.2.2.2.1 y.1.Target.Shape.To,.own (sOwn 2 (sInt .i64)) v.2.2.2.2.2.2.2.2.1 y.1.Target.Shape.Identity,.own (sOwn 24 (sOwn 2 (sInt .i64))) v.2.2.2.2.2.2.2.2.2.1 y.1.Target.Shape.Composites,.own (sOwn 2 (sInt .i64)) v.2.2.2.2.2.2.2.2.2.2.1 y.1.Target.Sizes,.own (sOwn 24 (sOwn 2 (sInt .i64))) v.2.2.2.2.2.2.2.2.2.2.2.1 y.1.Target.Actions,.own (sOwn 24 (sOwn 2 (sInt .i64))) v.2.2.2.2.2.2.2.2.2.2.2.2 y.1.Parts]):=by
 refine ct (S:=Unit) (owt fun _ _=>rfl) Tryz.func9 rfl rfl ?_
 repeat' first
  | intro _
  | exact rfl
  | (refine @id.{0} _ ?_; constructor)
  | apply Dk.loop 0 (V:=Value) (fun (s:(List (List Int))×Int) v=>[.own (sOwn 24 (sOwn 2 (sInt .i64))) v s.1]) (fun s v=>[(4,v),(14,.int .i64 (s.2))]) _ [(1,_),(2,_),(12,_),(13,_)]
  | apply c29
  | apply c30
  | apply c23
  | exact ()
theorem c11 {x0:MSetFunctor} {v_x0_Shape_From:Value} {v_x0_Shape_To:Value} {v_x0_Shape_Identity:Value} {v_x0_Shape_Composites:Value} {v_x0_Sizes:Value} {v_x0_Actions:Value} {x1:Int} {x2:Int}:Ct Tryz.prog 11 true (impl_ActOnElement x0 x1 x2) [.agg #[.int .i64 (x0.Shape.Objects),v_x0_Shape_From,v_x0_Shape_To,v_x0_Shape_Identity,v_x0_Shape_Composites,v_x0_Sizes,v_x0_Actions],.int .i64 (x1),.int .i64 (x2)] [.rd false (sImm (sInt .i64)) v_x0_Shape_From x0.Shape.From,.rd false (sImm (sInt .i64)) v_x0_Shape_To x0.Shape.To,.rd false (sImm (sInt .i64)) v_x0_Shape_Identity x0.Shape.Identity,.rd false (sImm (sImm (sInt .i64))) v_x0_Shape_Composites x0.Shape.Composites,.rd false (sImm (sInt .i64)) v_x0_Sizes x0.Sizes,.rd false (sImm (sImm (sInt .i64))) v_x0_Actions x0.Actions] (fun y (_:Unit)=>[.int .i64 y.1,.int .i64 y.2]) (fun y _=>[]):=by
 refine ct (S:=Unit) (owt fun _ _=>rfl) Tryz.func11 rfl rfl ?_
 repeat' first
  | intro _
  | exact rfl
  | (refine @id.{0} _ ?_; constructor)
  | apply c29
  | apply c33
  | apply c32
  | exact ()
end Go.Proofs.YtjfahghkjblgjaaGreat
