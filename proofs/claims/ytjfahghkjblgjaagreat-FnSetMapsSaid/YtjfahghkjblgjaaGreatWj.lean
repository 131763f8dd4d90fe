/- Walks by the calculus D. No condition beside those that each theorem names. -/
import Derived.Test.YtjfahghkjblgjaaGreatDi
import Derived.Test.YtjfahghkjblgjaaGreatMo
import Derived.Test.YtjfahghkjblgjaaGreatDg
import Derived.Test.YtjfahghkjblgjaaGreatDs
import Derived.Test.YtjfahghkjblgjaaGreatWb
import Derived.Test.YtjfahghkjblgjaaGreatWc
import Derived.Test.YtjfahghkjblgjaaGreatWd
import Derived.Test.YtjfahghkjblgjaaGreatWe
import Derived.Test.YtjfahghkjblgjaaGreatWf
namespace Go.Proofs.YtjfahghkjblgjaaGreat
open Go Go.Li Go.Dk
set_option linter.unusedVariables false
set_option maxHeartbeats 16000000
set_option maxRecDepth 100000
theorem c83 {x0:MSetFunctor} {v_x0_Shape_From:Value} {v_x0_Shape_To:Value} {v_x0_Shape_Identity:Value} {v_x0_Shape_Composites:Value} {v_x0_Sizes:Value} {v_x0_Actions:Value}:Ct Tryz.prog 83 true (spec_l19Shape x0) [.agg #[.int .i64 (x0.Shape.Objects),v_x0_Shape_From,v_x0_Shape_To,v_x0_Shape_Identity,v_x0_Shape_Composites,v_x0_Sizes,v_x0_Actions]] [.rd false (sImm (sInt .i64)) v_x0_Shape_From x0.Shape.From,.rd false (sImm (sInt .i64)) v_x0_Shape_To x0.Shape.To,.rd false (sImm (sInt .i64)) v_x0_Shape_Identity x0.Shape.Identity,.rd false (sImm (sImm (sInt .i64))) v_x0_Shape_Composites x0.Shape.Composites,.rd false (sImm (sInt .i64)) v_x0_Sizes x0.Sizes,.rd false (sImm (sImm (sInt .i64))) v_x0_Actions x0.Actions] (fun y (_:Unit)=>[.bool y]) (fun y _=>[]):=by
 refine ct (S:=Unit) (owt fun _ _=>rfl) Tryz.func83 rfl rfl ?_
 repeat' first
  | intro _
  | exact rfl
  | (refine @id.{0} _ ?_; constructor)
  | apply Dk.loop 0 (V:=Unit) (fun (s:Int) v=>[]) (fun s v=>[(3,.int .i64 (s))]) () [(1,_)]
  | apply Dk.loop 2 (V:=Unit) (fun (s:Int) v=>[]) (fun s v=>[(4,.int .i64 (s))]) () [(1,_)]
  | apply Dk.quiet (id:=11) (by kernel_rfl)
  | apply c81
  | apply c95
  | apply c64
  | exact ()
theorem c62 {x0:MSetFunctor} {v_x0_Shape_From:Value} {v_x0_Shape_To:Value} {v_x0_Shape_Identity:Value} {v_x0_Shape_Composites:Value} {v_x0_Sizes:Value} {v_x0_Actions:Value}:Ct Tryz.prog 62 true (spec_l19Is x0) [.agg #[.int .i64 (x0.Shape.Objects),v_x0_Shape_From,v_x0_Shape_To,v_x0_Shape_Identity,v_x0_Shape_Composites,v_x0_Sizes,v_x0_Actions]] [.rd false (sImm (sInt .i64)) v_x0_Shape_From x0.Shape.From,.rd false (sImm (sInt .i64)) v_x0_Shape_To x0.Shape.To,.rd false (sImm (sInt .i64)) v_x0_Shape_Identity x0.Shape.Identity,.rd false (sImm (sImm (sInt .i64))) v_x0_Shape_Composites x0.Shape.Composites,.rd false (sImm (sInt .i64)) v_x0_Sizes x0.Sizes,.rd false (sImm (sImm (sInt .i64))) v_x0_Actions x0.Actions] (fun y (_:Unit)=>[.bool y]) (fun y _=>[]):=by
 refine ct (S:=Unit) (owt fun _ _=>rfl) Tryz.func62 rfl rfl ?_
 repeat' first
  | intro _
  | exact rfl
  | (refine @id.{0} _ ?_; constructor)
  | apply c83
  | apply c84
  | exact ()
theorem c35 {x0:MSetFunctor} {v_x0_Shape_From:Value} {v_x0_Shape_To:Value} {v_x0_Shape_Identity:Value} {v_x0_Shape_Composites:Value} {v_x0_Sizes:Value} {v_x0_Actions:Value} {x1:MSetFunctor} {v_x1_Shape_From:Value} {v_x1_Shape_To:Value} {v_x1_Shape_Identity:Value} {v_x1_Shape_Composites:Value} {v_x1_Sizes:Value} {v_x1_Actions:Value}:Ct Tryz.prog 35 true (spec_l19Between x0 x1) [.agg #[.int .i64 (x0.Shape.Objects),v_x0_Shape_From,v_x0_Shape_To,v_x0_Shape_Identity,v_x0_Shape_Composites,v_x0_Sizes,v_x0_Actions],.agg #[.int .i64 (x1.Shape.Objects),v_x1_Shape_From,v_x1_Shape_To,v_x1_Shape_Identity,v_x1_Shape_Composites,v_x1_Sizes,v_x1_Actions]] [.rd false (sImm (sInt .i64)) v_x0_Shape_From x0.Shape.From,.rd false (sImm (sInt .i64)) v_x0_Shape_To x0.Shape.To,.rd false (sImm (sInt .i64)) v_x0_Shape_Identity x0.Shape.Identity,.rd false (sImm (sImm (sInt .i64))) v_x0_Shape_Composites x0.Shape.Composites,.rd false (sImm (sInt .i64)) v_x0_Sizes x0.Sizes,.rd false (sImm (sImm (sInt .i64))) v_x0_Actions x0.Actions,.rd false (sImm (sInt .i64)) v_x1_Shape_From x1.Shape.From,.rd false (sImm (sInt .i64)) v_x1_Shape_To x1.Shape.To,.rd false (sImm (sInt .i64)) v_x1_Shape_Identity x1.Shape.Identity,.rd false (sImm (sImm (sInt .i64))) v_x1_Shape_Composites x1.Shape.Composites,.rd false (sImm (sInt .i64)) v_x1_Sizes x1.Sizes,.rd false (sImm (sImm (sInt .i64))) v_x1_Actions x1.Actions] (fun y (_:Unit)=>[.bool y]) (fun y _=>[]):=by
 refine ct (S:=Unit) (owt fun _ _=>rfl) Tryz.func35 rfl rfl ?_
 repeat' first
  | intro _
  | exact rfl
  | (refine @id.{0} _ ?_; constructor)
  | apply c62
  | apply c50
  | exact ()
theorem c19 {x0:MSetFunctor} {v_x0_Shape_From:Value} {v_x0_Shape_To:Value} {v_x0_Shape_Identity:Value} {v_x0_Shape_Composites:Value} {v_x0_Sizes:Value} {v_x0_Actions:Value} {x1:MSetFunctor} {v_x1_Shape_From:Value} {v_x1_Shape_To:Value} {v_x1_Shape_Identity:Value} {v_x1_Shape_Composites:Value} {v_x1_Sizes:Value} {v_x1_Actions:Value} {x2:(List (List Int))} {v_x2:Value}:Ct Tryz.prog 19 true (spec_l19Make x0 x1 x2) [.agg #[.int .i64 (x0.Shape.Objects),v_x0_Shape_From,v_x0_Shape_To,v_x0_Shape_Identity,v_x0_Shape_Composites,v_x0_Sizes,v_x0_Actions],.agg #[.int .i64 (x1.Shape.Objects),v_x1_Shape_From,v_x1_Shape_To,v_x1_Shape_Identity,v_x1_Shape_Composites,v_x1_Sizes,v_x1_Actions],v_x2] [.rd false (sImm (sInt .i64)) v_x0_Shape_From x0.Shape.From,.rd false (sImm (sInt .i64)) v_x0_Shape_To x0.Shape.To,.rd false (sImm (sInt .i64)) v_x0_Shape_Identity x0.Shape.Identity,.rd false (sImm (sImm (sInt .i64))) v_x0_Shape_Composites x0.Shape.Composites,.rd false (sImm (sInt .i64)) v_x0_Sizes x0.Sizes,.rd false (sImm (sImm (sInt .i64))) v_x0_Actions x0.Actions,.rd false (sImm (sInt .i64)) v_x1_Shape_From x1.Shape.From,.rd false (sImm (sInt .i64)) v_x1_Shape_To x1.Shape.To,.rd false (sImm (sInt .i64)) v_x1_Shape_Identity x1.Shape.Identity,.rd false (sImm (sImm (sInt .i64))) v_x1_Shape_Composites x1.Shape.Composites,.rd false (sImm (sInt .i64)) v_x1_Sizes x1.Sizes,.rd false (sImm (sImm (sInt .i64))) v_x1_Actions x1.Actions,.rd false (sImm (sImm (sInt .i64))) v_x2 x2] (fun y (v:Value×Value×Value×Value×Value×Value×Value×Value×Value×Value×Value×Value×Value)=>[.agg #[.int .i64 y.Source.Shape.Objects,v.1,v.2.1,v.2.2.1,v.2.2.2.1,v.2.2.2.2.1,v.2.2.2.2.2.1,.int .i64 y.Target.Shape.Objects,v.2.2.2.2.2.2.1,v.2.2.2.2.2.2.2.1,v.2.2.2.2.2.2.2.2.1,v.2.2.2.2.2.2.2.2.2.1,v.2.2.2.2.2.2.2.2.2.2.1,v.2.2.2.2.2.2.2.2.2.2.2.1,v.2.2.2.2.2.2.2.2.2.2.2.2]]) (fun y v=>[.own (sOwn 2 (sInt .i64)) v.1 y.Source.Shape.From,.own (sOwn 2 (sInt .i64)) v.2.1 y.Source.Shape.To,.own (sOwn 2 (sInt .i64)) v.2.2.1 y.Source.Shape.Identity,.own (sOwn 24 (sOwn 2 (sInt .i64))) v.2.2.2.1 y.Source.Shape.Composites,.own (sOwn 2 (sInt .i64)) v.2.2.2.2.1 y.Source.Sizes,.own (sOwn 24 (sOwn 2 (sInt .i64))) v.2.2.2.2.2.1 y.Source.Actions,.own (sOwn 2 (sInt .i64)) v.2.2.2.2.2.2.1 y.Target.Shape.From,.own (sOwn 2 (sInt .i64)) v.2.2.2.2.2.2.2.1 y.Target.Shape.To,.own (sOwn 2 (sInt .i64)) v.2.2.2.2.2.2.2.2.1 y.Target.Shape.Identity,.own (sOwn 24 (sOwn 2 (sInt .i64))) v.2.2.2.2.2.2.2.2.2.1 y.Target.Shape.Composites,.own (sOwn 2 (sInt .i64)) v.2.2.2.2.2.2.2.2.2.2.1 y.Target.Sizes,.own (sOwn 24 (sOwn 2 (sInt .i64))) v.2.2.2.2.2.2.2.2.2.2.2.1 y.Target.Actions,.own (sOwn 24 (sOwn 2 (sInt .i64))) v.2.2.2.2.2.2.2.2.2.2.2.2 y.Parts]):=by
 refine ct (S:=Unit) (owt fun _ _=>rfl) Tryz.func19 rfl rfl ?_
 repeat' first
  | intro _
  | exact rfl
  | (refine @id.{0} _ ?_; constructor)
  | apply Dk.any (id:=1) 5 [] [] [[],[0],[],[2,1,0],[]] (by kernel_rfl)
  | apply c44
  | apply c36
  | exact ()
theorem c14 {x0:MSetMap} {v_x0_Source_Shape_From:Value} {v_x0_Source_Shape_To:Value} {v_x0_Source_Shape_Identity:Value} {v_x0_Source_Shape_Composites:Value} {v_x0_Source_Sizes:Value} {v_x0_Source_Actions:Value} {v_x0_Target_Shape_From:Value} {v_x0_Target_Shape_To:Value} {v_x0_Target_Shape_Identity:Value} {v_x0_Target_Shape_Composites:Value} {v_x0_Target_Sizes:Value} {v_x0_Target_Actions:Value} {v_x0_Parts:Value}:Ct Tryz.prog 14 true (spec_l19IsMap x0) [.agg #[.int .i64 (x0.Source.Shape.Objects),v_x0_Source_Shape_From,v_x0_Source_Shape_To,v_x0_Source_Shape_Identity,v_x0_Source_Shape_Composites,v_x0_Source_Sizes,v_x0_Source_Actions,.int .i64 (x0.Target.Shape.Objects),v_x0_Target_Shape_From,v_x0_Target_Shape_To,v_x0_Target_Shape_Identity,v_x0_Target_Shape_Composites,v_x0_Target_Sizes,v_x0_Target_Actions,v_x0_Parts]] [.rd false (sImm (sInt .i64)) v_x0_Source_Shape_From x0.Source.Shape.From,.rd false (sImm (sInt .i64)) v_x0_Source_Shape_To x0.Source.Shape.To,.rd false (sImm (sInt .i64)) v_x0_Source_Shape_Identity x0.Source.Shape.Identity,.rd false (sImm (sImm (sInt .i64))) v_x0_Source_Shape_Composites x0.Source.Shape.Composites,.rd false (sImm (sInt .i64)) v_x0_Source_Sizes x0.Source.Sizes,.rd false (sImm (sImm (sInt .i64))) v_x0_Source_Actions x0.Source.Actions,.rd false (sImm (sInt .i64)) v_x0_Target_Shape_From x0.Target.Shape.From,.rd false (sImm (sInt .i64)) v_x0_Target_Shape_To x0.Target.Shape.To,.rd false (sImm (sInt .i64)) v_x0_Target_Shape_Identity x0.Target.Shape.Identity,.rd false (sImm (sImm (sInt .i64))) v_x0_Target_Shape_Composites x0.Target.Shape.Composites,.rd false (sImm (sInt .i64)) v_x0_Target_Sizes x0.Target.Sizes,.rd false (sImm (sImm (sInt .i64))) v_x0_Target_Actions x0.Target.Actions,.rd false (sImm (sImm (sInt .i64))) v_x0_Parts x0.Parts] (fun y (_:Unit)=>[.bool y]) (fun y _=>[]):=by
 refine ct (S:=Unit) (owt fun _ _=>rfl) Tryz.func14 rfl rfl ?_
 repeat' first
  | intro _
  | exact rfl
  | (refine @id.{0} _ ?_; constructor)
  | apply c35
  | apply c37
  | apply c38
  | exact ()
theorem c7 {x0:MSetMap} {v_x0_Source_Shape_From:Value} {v_x0_Source_Shape_To:Value} {v_x0_Source_Shape_Identity:Value} {v_x0_Source_Shape_Composites:Value} {v_x0_Source_Sizes:Value} {v_x0_Source_Actions:Value} {v_x0_Target_Shape_From:Value} {v_x0_Target_Shape_To:Value} {v_x0_Target_Shape_Identity:Value} {v_x0_Target_Shape_Composites:Value} {v_x0_Target_Sizes:Value} {v_x0_Target_Actions:Value} {v_x0_Parts:Value} {x1:MSetMap} {v_x1_Source_Shape_From:Value} {v_x1_Source_Shape_To:Value} {v_x1_Source_Shape_Identity:Value} {v_x1_Source_Shape_Composites:Value} {v_x1_Source_Sizes:Value} {v_x1_Source_Actions:Value} {v_x1_Target_Shape_From:Value} {v_x1_Target_Shape_To:Value} {v_x1_Target_Shape_Identity:Value} {v_x1_Target_Shape_Composites:Value} {v_x1_Target_Sizes:Value} {v_x1_Target_Actions:Value} {v_x1_Parts:Value}:Ct Tryz.prog 7 true (spec_ThenSetMaps x0 x1) [.agg #[.int .i64 (x0.Source.Shape.Objects),v_x0_Source_Shape_From,v_x0_Source_Shape_To,v_x0_Source_Shape_Identity,v_x0_Source_Shape_Composites,v_x0_Source_Sizes,v_x0_Source_Actions,.int .i64 (x0.Target.Shape.Objects),v_x0_Target_Shape_From,v_x0_Target_Shape_To,v_x0_Target_Shape_Identity,v_x0_Target_Shape_Composites,v_x0_Target_Sizes,v_x0_Target_Actions,v_x0_Parts],.agg #[.int .i64 (x1.Source.Shape.Objects),v_x1_Source_Shape_From,v_x1_Source_Shape_To,v_x1_Source_Shape_Identity,v_x1_Source_Shape_Composites,v_x1_Source_Sizes,v_x1_Source_Actions,.int .i64 (x1.Target.Shape.Objects),v_x1_Target_Shape_From,v_x1_Target_Shape_To,v_x1_Target_Shape_Identity,v_x1_Target_Shape_Composites,v_x1_Target_Sizes,v_x1_Target_Actions,v_x1_Parts]] [.rd false (sImm (sInt .i64)) v_x0_Source_Shape_From x0.Source.Shape.From,.rd false (sImm (sInt .i64)) v_x0_Source_Shape_To x0.Source.Shape.To,.rd false (sImm (sInt .i64)) v_x0_Source_Shape_Identity x0.Source.Shape.Identity,.rd false (sImm (sImm (sInt .i64))) v_x0_Source_Shape_Composites x0.Source.Shape.Composites,.rd false (sImm (sInt .i64)) v_x0_Source_Sizes x0.Source.Sizes,.rd false (sImm (sImm (sInt .i64))) v_x0_Source_Actions x0.Source.Actions,.rd false (sImm (sInt .i64)) v_x0_Target_Shape_From x0.Target.Shape.From,.rd false (sImm (sInt .i64)) v_x0_Target_Shape_To x0.Target.Shape.To,.rd false (sImm (sInt .i64)) v_x0_Target_Shape_Identity x0.Target.Shape.Identity,.rd false (sImm (sImm (sInt .i64))) v_x0_Target_Shape_Composites x0.Target.Shape.Composites,.rd false (sImm (sInt .i64)) v_x0_Target_Sizes x0.Target.Sizes,.rd false (sImm (sImm (sInt .i64))) v_x0_Target_Actions x0.Target.Actions,.rd false (sImm (sImm (sInt .i64))) v_x0_Parts x0.Parts,.rd false (sImm (sInt .i64)) v_x1_Source_Shape_From x1.Source.Shape.From,.rd false (sImm (sInt .i64)) v_x1_Source_Shape_To x1.Source.Shape.To,.rd false (sImm (sInt .i64)) v_x1_Source_Shape_Identity x1.Source.Shape.Identity,.rd false (sImm (sImm (sInt .i64))) v_x1_Source_Shape_Composites x1.Source.Shape.Composites,.rd false (sImm (sInt .i64)) v_x1_Source_Sizes x1.Source.Sizes,.rd false (sImm (sImm (sInt .i64))) v_x1_Source_Actions x1.Source.Actions,.rd false (sImm (sInt .i64)) v_x1_Target_Shape_From x1.Target.Shape.From,.rd false (sImm (sInt .i64)) v_x1_Target_Shape_To x1.Target.Shape.To,.rd false (sImm (sInt .i64)) v_x1_Target_Shape_Identity x1.Target.Shape.Identity,.rd false (sImm (sImm (sInt .i64))) v_x1_Target_Shape_Composites x1.Target.Shape.Composites,.rd false (sImm (sInt .i64)) v_x1_Target_Sizes x1.Target.Sizes,.rd false (sImm (sImm (sInt .i64))) v_x1_Target_Actions x1.Target.Actions,.rd false (sImm (sImm (sInt .i64))) v_x1_Parts x1.Parts] (fun y (v:Value×Value×Value×Value×Value×Value×Value×Value×Value×Value×Value×Value×Value)=>[.agg #[.int .i64 y.1.Source.Shape.Objects,v.1,v.2.1,v.2.2.1,v.2.2.2.1,v.2.2.2.2.1,v.2.2.2.2.2.1,.int .i64 y.1.Target.Shape.Objects,v.2.2.2.2.2.2.1,v.2.2.2.2.2.2.2.1,v.2.2.2.2.2.2.2.2.1,v.2.2.2.2.2.2.2.2.2.1,v.2.2.2.2.2.2.2.2.2.2.1,v.2.2.2.2.2.2.2.2.2.2.2.1,v.2.2.2.2.2.2.2.2.2.2.2.2],.int .i64 y.2]) (fun y v=>[.own (sOwn 2 (sInt .i64)) v.1 y.1.Source.Shape.From,.own (sOwn 2 (sInt .i64)) v.2.1 y.1.Source.Shape.To,.own (sOwn 2 (sInt .i64)) v.2.2.1 y.1.Source.Shape.Identity,.own (sOwn 24 (sOwn 2 (sInt .i64))) v.2.2.2.1 y.1.Source.Shape.Composites,.own (sOwn 2 (sInt .i64)) v.2.2.2.2.1 y.1.Source.Sizes,.own (sOwn 24 (sOwn 2 (sInt .i64))) v.2.2.2.2.2.1 y.1.Source.Actions,.own (sOwn 2 (sInt .i64)) v.2.2.2.2.2.2.1 y.1.Target.Shape.From,.own (sOwn 2 (sInt .i64)) v.2.2.2.2.2.2.2.1 y.1.Target.Shape.To,.own (sOwn 2 (sInt .i64)) v.2.2.2.2.2.2.2.2.1 y.1.Target.Shape.Identity,.own (sOwn 24 (sOwn 2 (sInt .i64))) v.2.2.2.2.2.2.2.2.2.1 y.1.Target.Shape.Composites,.own (sOwn 2 (sInt .i64)) v.2.2.2.2.2.2.2.2.2.2.1 y.1.Target.Sizes,.own (sOwn 24 (sOwn 2 (sInt .i64))) v.2.2.2.2.2.2.2.2.2.2.2.1 y.1.Target.Actions,.own (sOwn 24 (sOwn 2 (sInt .i64))) v.2.2.2.2.2.2.2.2.2.2.2.2 y.1.Parts]):=by
 refine ct (S:=Unit) (owt fun _ _=>rfl) Tryz.func7 rfl rfl ?_
 repeat' first
  | intro _
  | exact rfl
  | (refine @id.{0} _ ?_; constructor)
  | apply Dk.any (id:=5) 9 [] [] [[],[0],[],[2],[],[4],[],[6],[5,4,7,6]] (by kernel_rfl)
  | apply c14
  | apply c25
  | apply c26
  | apply c19
  | exact ()
end Go.Proofs.YtjfahghkjblgjaaGreat
