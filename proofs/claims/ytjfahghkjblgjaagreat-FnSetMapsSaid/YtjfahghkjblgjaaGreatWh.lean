/- Walks by the calculus D. No condition beside those that each theorem names. -/
import Derived.Test.YtjfahghkjblgjaaGreatDi
import Derived.Test.YtjfahghkjblgjaaGreatMo
import Derived.Test.YtjfahghkjblgjaaGreatDg
import Derived.Test.YtjfahghkjblgjaaGreatDs
import Derived.Test.YtjfahghkjblgjaaGreatWa
import Derived.Test.YtjfahghkjblgjaaGreatWb
import Derived.Test.YtjfahghkjblgjaaGreatWc
import Derived.Test.YtjfahghkjblgjaaGreatWd
namespace Go.Proofs.YtjfahghkjblgjaaGreat
open Go Go.Li Go.Dk
set_option linter.unusedVariables false
set_option maxHeartbeats 16000000
set_option maxRecDepth 100000
theorem c106 {x0:(List (List Int))} {v_x0:Value}:Ct Tryz.prog 106 true (spec_l03Monoid x0) [v_x0] [.rd false (sImm (sImm (sInt .i64))) v_x0 x0] (fun y (v:Value×Value×Value×Value)=>[.agg #[.int .i64 y.Objects,v.1,v.2.1,v.2.2.1,v.2.2.2]]) (fun y v=>[.own (sOwn 2 (sInt .i64)) v.1 y.From,.own (sOwn 2 (sInt .i64)) v.2.1 y.To,.own (sOwn 2 (sInt .i64)) v.2.2.1 y.Identity,.own (sOwn 24 (sOwn 2 (sInt .i64))) v.2.2.2 y.Composites]):=by
 refine ct (S:=Unit) (owt fun _ _=>rfl) Tryz.func106 rfl rfl ?_
 repeat' first
  | intro _
  | exact rfl
  | (refine @id.{0} _ ?_; constructor)
  | apply Dk.any (id:=2) 7 [] [] [[],[0,0],[],[2,2],[],[],[5]] (by kernel_rfl)
  | apply c36
  | exact ()
theorem c77 {x0:(List Int)} {v_x0:Value} {x1:Int} {x2:Int}:Ct Tryz.prog 77 true (impl_isMapOf x0 x1 x2) [v_x0,.int .i64 (x1),.int .i64 (x2)] [.rd false (sImm (sInt .i64)) v_x0 x0] (fun y (_:Unit)=>[.bool y]) (fun y _=>[]):=by
 refine ct (S:=Unit) (owt fun _ _=>rfl) Tryz.func77 rfl rfl ?_
 repeat' first
  | intro _
  | exact rfl
  | (refine @id.{0} _ ?_; constructor)
  | apply c76
  | exact ()
theorem c45 {x0:MCategory} {p_x0:Addr} {v_x0_From:Value} {v_x0_To:Value} {v_x0_Identity:Value} {v_x0_Composites:Value} {x1:MCategory} {p_x1:Addr} {v_x1_From:Value} {v_x1_To:Value} {v_x1_Identity:Value} {v_x1_Composites:Value}:Ct Tryz.prog 45 true (impl_sameCategory x0 x1) [.pointer (some (p_x0)),.pointer (some (p_x1))] [.ats p_x1 [.int .i64 (x1.Objects),v_x1_From,v_x1_To,v_x1_Identity,v_x1_Composites],.ats p_x0 [.int .i64 (x0.Objects),v_x0_From,v_x0_To,v_x0_Identity,v_x0_Composites],.rd false (sImm (sInt .i64)) v_x0_From x0.From,.rd false (sImm (sInt .i64)) v_x0_To x0.To,.rd false (sImm (sInt .i64)) v_x0_Identity x0.Identity,.rd false (sImm (sImm (sInt .i64))) v_x0_Composites x0.Composites,.rd false (sImm (sInt .i64)) v_x1_From x1.From,.rd false (sImm (sInt .i64)) v_x1_To x1.To,.rd false (sImm (sInt .i64)) v_x1_Identity x1.Identity,.rd false (sImm (sImm (sInt .i64))) v_x1_Composites x1.Composites] (fun y (_:Unit)=>[.bool y]) (fun y _=>[]):=by
 refine ct (S:=Unit) (owt fun _ _=>rfl) Tryz.func45 rfl rfl ?_
 repeat' first
  | intro _
  | exact rfl
  | (refine @id.{0} _ ?_; constructor)
  | apply Dk.loop 0 (V:=Unit) (fun (s:Int) v=>[]) (fun s v=>[(69,.int .i64 (s))]) () [(0,_),(1,_),(68,_)]
  | apply Dk.quiet (id:=1) (by kernel_rfl)
  | apply Dk.quiet (id:=6) (by kernel_rfl)
  | apply c46
  | exact ()
theorem c79 {x0:MSetMap} {p_x0:Addr} {v_x0_Source_Shape_From:Value} {v_x0_Source_Shape_To:Value} {v_x0_Source_Shape_Identity:Value} {v_x0_Source_Shape_Composites:Value} {v_x0_Source_Sizes:Value} {v_x0_Source_Actions:Value} {v_x0_Target_Shape_From:Value} {v_x0_Target_Shape_To:Value} {v_x0_Target_Shape_Identity:Value} {v_x0_Target_Shape_Composites:Value} {v_x0_Target_Sizes:Value} {v_x0_Target_Actions:Value} {v_x0_Parts:Value}:Ct Tryz.prog 79 true (impl_SetMap_fits x0) [.pointer (some (p_x0))] [.ats p_x0 [.int .i64 (x0.Source.Shape.Objects),v_x0_Source_Shape_From,v_x0_Source_Shape_To,v_x0_Source_Shape_Identity,v_x0_Source_Shape_Composites,v_x0_Source_Sizes,v_x0_Source_Actions,.int .i64 (x0.Target.Shape.Objects),v_x0_Target_Shape_From,v_x0_Target_Shape_To,v_x0_Target_Shape_Identity,v_x0_Target_Shape_Composites,v_x0_Target_Sizes,v_x0_Target_Actions,v_x0_Parts],.rd false (sImm (sInt .i64)) v_x0_Source_Shape_From x0.Source.Shape.From,.rd false (sImm (sInt .i64)) v_x0_Source_Shape_To x0.Source.Shape.To,.rd false (sImm (sInt .i64)) v_x0_Source_Shape_Identity x0.Source.Shape.Identity,.rd false (sImm (sImm (sInt .i64))) v_x0_Source_Shape_Composites x0.Source.Shape.Composites,.rd false (sImm (sInt .i64)) v_x0_Source_Sizes x0.Source.Sizes,.rd false (sImm (sImm (sInt .i64))) v_x0_Source_Actions x0.Source.Actions,.rd false (sImm (sInt .i64)) v_x0_Target_Shape_From x0.Target.Shape.From,.rd false (sImm (sInt .i64)) v_x0_Target_Shape_To x0.Target.Shape.To,.rd false (sImm (sInt .i64)) v_x0_Target_Shape_Identity x0.Target.Shape.Identity,.rd false (sImm (sImm (sInt .i64))) v_x0_Target_Shape_Composites x0.Target.Shape.Composites,.rd false (sImm (sInt .i64)) v_x0_Target_Sizes x0.Target.Sizes,.rd false (sImm (sImm (sInt .i64))) v_x0_Target_Actions x0.Target.Actions,.rd false (sImm (sImm (sInt .i64))) v_x0_Parts x0.Parts] (fun y (_:Unit)=>[.bool y]) (fun y _=>[]):=by
 refine ct (S:=Unit) (owt fun _ _=>rfl) Tryz.func79 rfl rfl ?_
 repeat' first
  | intro _
  | exact rfl
  | (refine @id.{0} _ ?_; constructor)
  | apply Dk.loop 0 (V:=Unit) (fun (s:Int) v=>[]) (fun s v=>[(22,.int .i64 (s))]) () [(0,_),(20,_),(21,_)]
  | apply Dk.quiet (id:=1) (by kernel_rfl)
  | apply Dk.quiet (id:=6) (by kernel_rfl)
  | apply c77
  | exact ()
theorem c22 {x0:MSetFunctor} {p_x0:Addr} {v_x0_Shape_From:Value} {v_x0_Shape_To:Value} {v_x0_Shape_Identity:Value} {v_x0_Shape_Composites:Value} {v_x0_Sizes:Value} {v_x0_Actions:Value} {x1:MSetFunctor} {p_x1:Addr} {v_x1_Shape_From:Value} {v_x1_Shape_To:Value} {v_x1_Shape_Identity:Value} {v_x1_Shape_Composites:Value} {v_x1_Sizes:Value} {v_x1_Actions:Value}:Ct Tryz.prog 22 true (impl_sameSets x0 x1) [.pointer (some (p_x0)),.pointer (some (p_x1))] [.ats p_x1 [.int .i64 (x1.Shape.Objects),v_x1_Shape_From,v_x1_Shape_To,v_x1_Shape_Identity,v_x1_Shape_Composites,v_x1_Sizes,v_x1_Actions],.ats p_x0 [.int .i64 (x0.Shape.Objects),v_x0_Shape_From,v_x0_Shape_To,v_x0_Shape_Identity,v_x0_Shape_Composites,v_x0_Sizes,v_x0_Actions],.rd false (sImm (sInt .i64)) v_x0_Shape_From x0.Shape.From,.rd false (sImm (sInt .i64)) v_x0_Shape_To x0.Shape.To,.rd false (sImm (sInt .i64)) v_x0_Shape_Identity x0.Shape.Identity,.rd false (sImm (sImm (sInt .i64))) v_x0_Shape_Composites x0.Shape.Composites,.rd false (sImm (sInt .i64)) v_x0_Sizes x0.Sizes,.rd false (sImm (sImm (sInt .i64))) v_x0_Actions x0.Actions,.rd false (sImm (sInt .i64)) v_x1_Shape_From x1.Shape.From,.rd false (sImm (sInt .i64)) v_x1_Shape_To x1.Shape.To,.rd false (sImm (sInt .i64)) v_x1_Shape_Identity x1.Shape.Identity,.rd false (sImm (sImm (sInt .i64))) v_x1_Shape_Composites x1.Shape.Composites,.rd false (sImm (sInt .i64)) v_x1_Sizes x1.Sizes,.rd false (sImm (sImm (sInt .i64))) v_x1_Actions x1.Actions] (fun y (_:Unit)=>[.bool y]) (fun y _=>[]):=by
 refine ct (S:=Unit) (owt fun _ _=>rfl) Tryz.func22 rfl rfl ?_
 repeat' first
  | intro _
  | exact rfl
  | (refine @id.{0} _ ?_; constructor)
  | apply Dk.loop 0 (V:=Unit) (fun (s:Int) v=>[]) (fun s v=>[(44,.int .i64 (s))]) () [(0,_),(1,_),(43,_)]
  | apply Dk.quiet (id:=1) (by kernel_rfl)
  | apply Dk.quiet (id:=6) (by kernel_rfl)
  | apply c45
  | apply c46
  | exact ()
theorem c73 {x0:MCategory} {p_x0:Addr} {v_x0_From:Value} {v_x0_To:Value} {v_x0_Identity:Value} {v_x0_Composites:Value}:Ct Tryz.prog 73 true (impl_Category_copy x0) [.pointer (some (p_x0))] [.ats p_x0 [.int .i64 (x0.Objects),v_x0_From,v_x0_To,v_x0_Identity,v_x0_Composites],.rd false (sImm (sInt .i64)) v_x0_From x0.From,.rd false (sImm (sInt .i64)) v_x0_To x0.To,.rd false (sImm (sInt .i64)) v_x0_Identity x0.Identity,.rd false (sImm (sImm (sInt .i64))) v_x0_Composites x0.Composites] (fun y (v:Value×Value×Value×Value)=>[.agg #[.int .i64 y.Objects,v.1,v.2.1,v.2.2.1,v.2.2.2]]) (fun y v=>[.own (sOwn 2 (sInt .i64)) v.1 y.From,.own (sOwn 2 (sInt .i64)) v.2.1 y.To,.own (sOwn 2 (sInt .i64)) v.2.2.1 y.Identity,.own (sOwn 24 (sOwn 2 (sInt .i64))) v.2.2.2 y.Composites]):=by
 refine ct (S:=Unit) (owt fun _ _=>rfl) Tryz.func73 rfl rfl ?_
 repeat' first
  | intro _
  | exact rfl
  | (refine @id.{0} _ ?_; constructor)
  | apply Dk.any (id:=1) 24 [] [] [[],[0],[1,0],[2,1,0],[],[4],[5,4],[6,5,4],[7,6,5,4],[],[9],[10,9],[11,10,9],[12,11,10,9,8,7,6,5,4],[],[14],[15,14],[16,15,14],[17,16,15,14,13,12,11,10,9,8,7,6,5,4],[],[19],[20,19],[21,20,19],[22,21,20,19,18,17,16,15,14,13,12,11,10,9,8,7,6,5,4]] (by kernel_rfl)
  | apply c74
  | apply c48
  | exact ()
theorem c47 {x0:MSetFunctor} {p_x0:Addr} {v_x0_Shape_From:Value} {v_x0_Shape_To:Value} {v_x0_Shape_Identity:Value} {v_x0_Shape_Composites:Value} {v_x0_Sizes:Value} {v_x0_Actions:Value}:Ct Tryz.prog 47 true (impl_SetFunctor_copy x0) [.pointer (some (p_x0))] [.ats p_x0 [.int .i64 (x0.Shape.Objects),v_x0_Shape_From,v_x0_Shape_To,v_x0_Shape_Identity,v_x0_Shape_Composites,v_x0_Sizes,v_x0_Actions],.rd false (sImm (sInt .i64)) v_x0_Shape_From x0.Shape.From,.rd false (sImm (sInt .i64)) v_x0_Shape_To x0.Shape.To,.rd false (sImm (sInt .i64)) v_x0_Shape_Identity x0.Shape.Identity,.rd false (sImm (sImm (sInt .i64))) v_x0_Shape_Composites x0.Shape.Composites,.rd false (sImm (sInt .i64)) v_x0_Sizes x0.Sizes,.rd false (sImm (sImm (sInt .i64))) v_x0_Actions x0.Actions] (fun y (v:Value×Value×Value×Value×Value×Value)=>[.agg #[.int .i64 y.Shape.Objects,v.1,v.2.1,v.2.2.1,v.2.2.2.1,v.2.2.2.2.1,v.2.2.2.2.2]]) (fun y v=>[.own (sOwn 2 (sInt .i64)) v.1 y.Shape.From,.own (sOwn 2 (sInt .i64)) v.2.1 y.Shape.To,.own (sOwn 2 (sInt .i64)) v.2.2.1 y.Shape.Identity,.own (sOwn 24 (sOwn 2 (sInt .i64))) v.2.2.2.1 y.Shape.Composites,.own (sOwn 2 (sInt .i64)) v.2.2.2.2.1 y.Sizes,.own (sOwn 24 (sOwn 2 (sInt .i64))) v.2.2.2.2.2 y.Actions]):=by
 refine ct (S:=Unit) (owt fun _ _=>rfl) Tryz.func47 rfl rfl ?_
 repeat' first
  | intro _
  | exact rfl
  | (refine @id.{0} _ ?_; constructor)
  | apply Dk.any (id:=1) 13 [] [] [[],[0],[1,0],[2,1,0],[],[4],[5,4],[6,5,4],[7,6,5,4,3,2,1,0],[],[9],[10,9],[11,10,9]] (by kernel_rfl)
  | apply c73
  | apply c74
  | apply c48
  | exact ()
end Go.Proofs.YtjfahghkjblgjaaGreat
