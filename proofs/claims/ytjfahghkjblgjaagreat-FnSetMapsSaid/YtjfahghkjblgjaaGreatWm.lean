/- Walks by the calculus D. No condition beside those that each theorem names. -/
import Derived.Test.YtjfahghkjblgjaaGreatDi
import Derived.Test.YtjfahghkjblgjaaGreatMo
import Derived.Test.YtjfahghkjblgjaaGreatDg
import Derived.Test.YtjfahghkjblgjaaGreatDs
import Derived.Test.YtjfahghkjblgjaaGreatWa
import Derived.Test.YtjfahghkjblgjaaGreatWc
import Derived.Test.YtjfahghkjblgjaaGreatWh
import Derived.Test.YtjfahghkjblgjaaGreatWi
import Derived.Test.YtjfahghkjblgjaaGreatWj
import Derived.Test.YtjfahghkjblgjaaGreatWk
import Derived.Test.YtjfahghkjblgjaaGreatWx
namespace Go.Proofs.YtjfahghkjblgjaaGreat
open Go Go.Li Go.Dk
set_option linter.unusedVariables false
set_option maxHeartbeats 16000000
set_option maxRecDepth 100000
theorem c21 {x0:(List MSetMap)} {v_x0:Value}:Ct Tryz.prog 21 true (impl_areSetMaps x0) [v_x0] [.rd false (sImm (sPtr sS31)) v_x0 x0] (fun y (_:Unit)=>[.bool y]) (fun y _=>[]):=by
 refine ct (S:=Unit) (owt fun _ _=>rfl) Tryz.func21 rfl rfl ?_
 repeat' first
  | intro _
  | exact rfl
  | (refine @id.{0} _ ?_; constructor)
  | apply Dk.loop 0 (V:=Unit) (fun (s:Int) v=>[]) (fun s v=>[(7,.int .i64 (s))]) () [(5,_),(6,_)]
  | apply c31
  | exact ()
theorem c6 {x0:MSetMap} {v_x0_Source_Shape_From:Value} {v_x0_Source_Shape_To:Value} {v_x0_Source_Shape_Identity:Value} {v_x0_Source_Shape_Composites:Value} {v_x0_Source_Sizes:Value} {v_x0_Source_Actions:Value} {v_x0_Target_Shape_From:Value} {v_x0_Target_Shape_To:Value} {v_x0_Target_Shape_Identity:Value} {v_x0_Target_Shape_Composites:Value} {v_x0_Target_Sizes:Value} {v_x0_Target_Actions:Value} {v_x0_Parts:Value} {x1:MSetMap} {v_x1_Source_Shape_From:Value} {v_x1_Source_Shape_To:Value} {v_x1_Source_Shape_Identity:Value} {v_x1_Source_Shape_Composites:Value} {v_x1_Source_Sizes:Value} {v_x1_Source_Actions:Value} {v_x1_Target_Shape_From:Value} {v_x1_Target_Shape_To:Value} {v_x1_Target_Shape_Identity:Value} {v_x1_Target_Shape_Composites:Value} {v_x1_Target_Sizes:Value} {v_x1_Target_Actions:Value} {v_x1_Parts:Value}:Ct Tryz.prog 6 true (impl_ThenSetMaps x0 x1) [.agg #[.int .i64 (x0.Source.Shape.Objects),v_x0_Source_Shape_From,v_x0_Source_Shape_To,v_x0_Source_Shape_Identity,v_x0_Source_Shape_Composites,v_x0_Source_Sizes,v_x0_Source_Actions,.int .i64 (x0.Target.Shape.Objects),v_x0_Target_Shape_From,v_x0_Target_Shape_To,v_x0_Target_Shape_Identity,v_x0_Target_Shape_Composites,v_x0_Target_Sizes,v_x0_Target_Actions,v_x0_Parts],.agg #[.int .i64 (x1.Source.Shape.Objects),v_x1_Source_Shape_From,v_x1_Source_Shape_To,v_x1_Source_Shape_Identity,v_x1_Source_Shape_Composites,v_x1_Source_Sizes,v_x1_Source_Actions,.int .i64 (x1.Target.Shape.Objects),v_x1_Target_Shape_From,v_x1_Target_Shape_To,v_x1_Target_Shape_Identity,v_x1_Target_Shape_Composites,v_x1_Target_Sizes,v_x1_Target_Actions,v_x1_Parts]] [.rd false (sImm (sInt .i64)) v_x0_Source_Shape_From x0.Source.Shape.From,.rd false (sImm (sInt .i64)) v_x0_Source_Shape_To x0.Source.Shape.To,.rd false (sImm (sInt .i64)) v_x0_Source_Shape_Identity x0.Source.Shape.Identity,.rd false (sImm (sImm (sInt .i64))) v_x0_Source_Shape_Composites x0.Source.Shape.Composites,.rd false (sImm (sInt .i64)) v_x0_Source_Sizes x0.Source.Sizes,.rd false (sImm (sImm (sInt .i64))) v_x0_Source_Actions x0.Source.Actions,.rd false (sImm (sInt .i64)) v_x0_Target_Shape_From x0.Target.Shape.From,.rd false (sImm (sInt .i64)) v_x0_Target_Shape_To x0.Target.Shape.To,.rd false (sImm (sInt .i64)) v_x0_Target_Shape_Identity x0.Target.Shape.Identity,.rd false (sImm (sImm (sInt .i64))) v_x0_Target_Shape_Composites x0.Target.Shape.Composites,.rd false (sImm (sInt .i64)) v_x0_Target_Sizes x0.Target.Sizes,.rd false (sImm (sImm (sInt .i64))) v_x0_Target_Actions x0.Target.Actions,.rd false (sImm (sImm (sInt .i64))) v_x0_Parts x0.Parts,.rd false (sImm (sInt .i64)) v_x1_Source_Shape_From x1.Source.Shape.From,.rd false (sImm (sInt .i64)) v_x1_Source_Shape_To x1.Source.Shape.To,.rd false (sImm (sInt .i64)) v_x1_Source_Shape_Identity x1.Source.Shape.Identity,.rd false (sImm (sImm (sInt .i64))) v_x1_Source_Shape_Composites x1.Source.Shape.Composites,.rd false (sImm (sInt .i64)) v_x1_Source_Sizes x1.Source.Sizes,.rd false (sImm (sImm (sInt .i64))) v_x1_Source_Actions x1.Source.Actions,.rd false (sImm (sInt .i64)) v_x1_Target_Shape_From x1.Target.Shape.From,.rd false (sImm (sInt .i64)) v_x1_Target_Shape_To x1.Target.Shape.To,.rd false (sImm (sInt .i64)) v_x1_Target_Shape_Identity x1.Target.Shape.Identity,.rd false (sImm (sImm (sInt .i64))) v_x1_Target_Shape_Composites x1.Target.Shape.Composites,.rd false (sImm (sInt .i64)) v_x1_Target_Sizes x1.Target.Sizes,.rd false (sImm (sImm (sInt .i64))) v_x1_Target_Actions x1.Target.Actions,.rd false (sImm (sImm (sInt .i64))) v_x1_Parts x1.Parts] (fun y (v:Value×Value×Value×Value×Value×Value×Value×Value×Value×Value×Value×Value×Value)=>[.agg #[.int .i64 y.1.Source.Shape.Objects,v.1,v.2.1,v.2.2.1,v.2.2.2.1,v.2.2.2.2.1,v.2.2.2.2.2.1,.int .i64 y.1.Target.Shape.Objects,v.2.2.2.2.2.2.1,v.2.2.2.2.2.2.2.1,v.2.2.2.2.2.2.2.2.1,v.2.2.2.2.2.2.2.2.2.1,v.2.2.2.2.2.2.2.2.2.2.1,v.2.2.2.2.2.2.2.2.2.2.2.1,v.2.2.2.2.2.2.2.2.2.2.2.2],.int .i64 y.2]) (fun y v=>[.own (sOwn 2 (sInt .i64)) v.1 y.1.Source.Shape.From,.own (sOwn 2 (sInt .i64)) v.2.1 y.1.Source.Shape.To,.own (sOwn 2 (sInt .i64)) v.2.2.1 y.1.Source.Shape.Identity,.own (sOwn 24 (sOwn 2 (sInt .i64))) v.2.2.2.1 y.1.Source.Shape.Composites,.own (sOwn 2 (sInt .i64)) v.2.2.2.2.1 y.1.Source.Sizes,.own (sOwn 24 (sOwn 2 (sInt .i64))) v.2.2.2.2.2.1 y.1.Source.Actions,.own (sOwn 2 (sInt .i64)) v.2.2.2.2.2.2.1 y.1.Target.Shape.From,.own (sOwn 2 (sInt .i64)) v.2.2.2.2.2.2.2.1 y.1.Target.Shape.To,.own (sOwn 2 (sInt .i64)) v.2.2.2.2.2.2.2.2.1 y.1.Target.Shape.Identity,.own (sOwn 24 (sOwn 2 (sInt .i64))) v.2.2.2.2.2.2.2.2.2.1 y.1.Target.Shape.Composites,.own (sOwn 2 (sInt .i64)) v.2.2.2.2.2.2.2.2.2.2.1 y.1.Target.Sizes,.own (sOwn 24 (sOwn 2 (sInt .i64))) v.2.2.2.2.2.2.2.2.2.2.2.1 y.1.Target.Actions,.own (sOwn 24 (sOwn 2 (sInt .i64))) v.2.2.2.2.2.2.2.2.2.2.2.2 y.1.Parts]):=by
 refine ct (S:=Unit) (owt fun _ _=>rfl) Tryz.func6 rfl rfl ?_
 repeat' first
  | intro _
  | exact rfl
  | (refine @id.{0} _ ?_; constructor)
  | apply c21
  | apply c22
  | apply c24
  | apply c23
  | exact ()
theorem c10 {x0:MSetMap} {v_x0_Source_Shape_From:Value} {v_x0_Source_Shape_To:Value} {v_x0_Source_Shape_Identity:Value} {v_x0_Source_Shape_Composites:Value} {v_x0_Source_Sizes:Value} {v_x0_Source_Actions:Value} {v_x0_Target_Shape_From:Value} {v_x0_Target_Shape_To:Value} {v_x0_Target_Shape_Identity:Value} {v_x0_Target_Shape_Composites:Value} {v_x0_Target_Sizes:Value} {v_x0_Target_Actions:Value} {v_x0_Parts:Value}:Ct Tryz.prog 10 true (impl_IsSetMap x0) [.agg #[.int .i64 (x0.Source.Shape.Objects),v_x0_Source_Shape_From,v_x0_Source_Shape_To,v_x0_Source_Shape_Identity,v_x0_Source_Shape_Composites,v_x0_Source_Sizes,v_x0_Source_Actions,.int .i64 (x0.Target.Shape.Objects),v_x0_Target_Shape_From,v_x0_Target_Shape_To,v_x0_Target_Shape_Identity,v_x0_Target_Shape_Composites,v_x0_Target_Sizes,v_x0_Target_Actions,v_x0_Parts]] [.rd false (sImm (sInt .i64)) v_x0_Source_Shape_From x0.Source.Shape.From,.rd false (sImm (sInt .i64)) v_x0_Source_Shape_To x0.Source.Shape.To,.rd false (sImm (sInt .i64)) v_x0_Source_Shape_Identity x0.Source.Shape.Identity,.rd false (sImm (sImm (sInt .i64))) v_x0_Source_Shape_Composites x0.Source.Shape.Composites,.rd false (sImm (sInt .i64)) v_x0_Source_Sizes x0.Source.Sizes,.rd false (sImm (sImm (sInt .i64))) v_x0_Source_Actions x0.Source.Actions,.rd false (sImm (sInt .i64)) v_x0_Target_Shape_From x0.Target.Shape.From,.rd false (sImm (sInt .i64)) v_x0_Target_Shape_To x0.Target.Shape.To,.rd false (sImm (sInt .i64)) v_x0_Target_Shape_Identity x0.Target.Shape.Identity,.rd false (sImm (sImm (sInt .i64))) v_x0_Target_Shape_Composites x0.Target.Shape.Composites,.rd false (sImm (sInt .i64)) v_x0_Target_Sizes x0.Target.Sizes,.rd false (sImm (sImm (sInt .i64))) v_x0_Target_Actions x0.Target.Actions,.rd false (sImm (sImm (sInt .i64))) v_x0_Parts x0.Parts] (fun y (_:Unit)=>[.bool y]) (fun y _=>[]):=by
 refine ct (S:=Unit) (owt fun _ _=>rfl) Tryz.func10 rfl rfl ?_
 repeat' first
  | intro _
  | exact rfl
  | (refine @id.{0} _ ?_; constructor)
  | apply c31
  | exact ()
theorem c3 {x0:(List Int)} {v_x0:Value}:Ct Tryz.prog 3 true (laws_FnSetMaps x0) [v_x0] [.rd false (sImm (sInt .u8)) v_x0 x0] (fun y (_:Unit)=>[.bool y]) (fun y _=>[]):=by
 refine ct (S:=Unit) (owt fun _ _=>rfl) Tryz.func3 rfl rfl ?_
 repeat' first
  | intro _
  | exact rfl
  | (refine @id.{0} _ ?_; constructor)
  | apply Dk.loop 0 (V:=Unit) (fun (s:Int) v=>[]) (fun s v=>[(15,.int .i64 (s))]) () [(3,_),(13,_),(14,_)]
  | apply Dk.loop 2 (V:=Unit) (fun (s:Int) v=>[]) (fun s v=>[(18,.int .i64 (s))]) () [(3,_),(13,_),(14,_),(15,_),(16,_),(17,_)]
  | apply Dk.quiet (id:=18) (by kernel_rfl)
  | apply Dk.quiet (id:=23) (by kernel_rfl)
  | apply Dk.any (id:=14) 7 [] [[],[],[],[],[],[],[4]] [[],[0],[],[2],[],[],[4,1,0,0,1,0,4,5]] (by kernel_rfl)
  | apply c4
  | apply c5
  | apply c6
  | apply c7
  | apply c8
  | apply c9
  | apply c10
  | apply c11
  | exact ()
theorem laws_FnSetMaps_calls {w:World} {x0:(List Int)} {v_x0:Value} {f_x0:List Nat} (h_x0:(sImm (sInt .u8)).rep w.heap [v_x0] x0 f_x0) {y:(Bool)} (hm:laws_FnSetMaps x0=some y):Calls Tryz.prog 3 #[v_x0] w (fun e w'=>e = .returned (.bool y)∧Chg [] w w'):=
 ct_read c3 (.fact (fact_rd h_x0) (.nil)) hm
end Go.Proofs.YtjfahghkjblgjaaGreat
