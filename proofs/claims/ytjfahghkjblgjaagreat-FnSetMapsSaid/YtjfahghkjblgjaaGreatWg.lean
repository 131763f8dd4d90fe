/- Walks by the calculus D. No condition beside those that each theorem names. -/
import Derived.Test.YtjfahghkjblgjaaGreatDi
import Derived.Test.YtjfahghkjblgjaaGreatMo
import Derived.Test.YtjfahghkjblgjaaGreatDg
import Derived.Test.YtjfahghkjblgjaaGreatDs
import Derived.Test.YtjfahghkjblgjaaGreatWa
import Derived.Test.YtjfahghkjblgjaaGreatWb
import Derived.Test.YtjfahghkjblgjaaGreatWc
import Derived.Test.YtjfahghkjblgjaaGreatWd
namespace Go.Proofs.YtjfahghkjblgjaaGreat
open Go Go.Li Go.Dk
set_option linter.unusedVariables false
set_option maxHeartbeats 16000000
set_option maxRecDepth 100000
theorem c71 {x0:ML19Search} {p_x0:Addr} {v_x0_F_Shape_From:Value} {v_x0_F_Shape_To:Value} {v_x0_F_Shape_Identity:Value} {v_x0_F_Shape_Composites:Value} {v_x0_F_Sizes:Value} {v_x0_F_Actions:Value} {v_x0_G_Shape_From:Value} {v_x0_G_Shape_To:Value} {v_x0_G_Shape_Identity:Value} {v_x0_G_Shape_Composites:Value} {v_x0_G_Sizes:Value} {v_x0_G_Actions:Value} {v_x0_Found:Value} {x1:(List (List Int))} {v_x1:Value} {x2:Int} {x3:Int} {x4:Int}:Ct Tryz.prog 71 true (spec_l19Set x0 x1 x2 x3 x4) [.pointer (some (p_x0)),v_x1,.int .i64 (x2),.int .i64 (x3),.int .i64 (x4)] [.ats p_x0 [.int .i64 (x0.F.Shape.Objects),v_x0_F_Shape_From,v_x0_F_Shape_To,v_x0_F_Shape_Identity,v_x0_F_Shape_Composites,v_x0_F_Sizes,v_x0_F_Actions,.int .i64 (x0.G.Shape.Objects),v_x0_G_Shape_From,v_x0_G_Shape_To,v_x0_G_Shape_Identity,v_x0_G_Shape_Composites,v_x0_G_Sizes,v_x0_G_Actions,.bool (x0.Onto),.int .i64 (x0.Most),v_x0_Found],.rd false (sImm (sInt .i64)) v_x0_F_Shape_From x0.F.Shape.From,.rd false (sImm (sInt .i64)) v_x0_F_Shape_To x0.F.Shape.To,.rd false (sImm (sInt .i64)) v_x0_F_Shape_Identity x0.F.Shape.Identity,.rd false (sImm (sImm (sInt .i64))) v_x0_F_Shape_Composites x0.F.Shape.Composites,.rd false (sImm (sInt .i64)) v_x0_F_Sizes x0.F.Sizes,.rd false (sImm (sImm (sInt .i64))) v_x0_F_Actions x0.F.Actions,.rd false (sImm (sInt .i64)) v_x0_G_Shape_From x0.G.Shape.From,.rd false (sImm (sInt .i64)) v_x0_G_Shape_To x0.G.Shape.To,.rd false (sImm (sInt .i64)) v_x0_G_Shape_Identity x0.G.Shape.Identity,.rd false (sImm (sImm (sInt .i64))) v_x0_G_Shape_Composites x0.G.Shape.Composites,.rd false (sImm (sInt .i64)) v_x0_G_Sizes x0.G.Sizes,.rd false (sImm (sImm (sInt .i64))) v_x0_G_Actions x0.G.Actions,.rd false (sImm (sImm (sImm (sInt .i64)))) v_x0_Found x0.Found,.rd false (sImm (sImm (sInt .i64))) v_x1 x1] (fun y (v:Value)=>[v,.bool y.2]) (fun y v=>[.own (sOwn 24 (sOwn 2 (sInt .i64))) v y.1]):=by
 refine ct (S:=Unit) (owt fun _ _=>rfl) Tryz.func71 rfl rfl ?_
 repeat' first
  | intro _
  | exact rfl
  | (refine @id.{0} _ ?_; constructor)
  | apply Dk.loopA 0 (V:=Unit) (A:=Value) _ (fun a (s:Int×(List (List Int))) v=>[.own (sOwn 24 (sOwn 2 (sInt .i64))) a s.2]) (fun a s v=>[(12,a),(13,.int .i64 (s.1))]) () [(0,_),(2,_),(3,_),(4,_)]
  | apply Dk.quiet (id:=6) (by kernel_rfl)
  | apply c36
  | apply c87
  | exact ()
theorem c70 {x0:ML19Search} {p_x0:Addr} {v_x0_F_Shape_From:Value} {v_x0_F_Shape_To:Value} {v_x0_F_Shape_Identity:Value} {v_x0_F_Shape_Composites:Value} {v_x0_F_Sizes:Value} {v_x0_F_Actions:Value} {v_x0_G_Shape_From:Value} {v_x0_G_Shape_To:Value} {v_x0_G_Shape_Identity:Value} {v_x0_G_Shape_Composites:Value} {v_x0_G_Sizes:Value} {v_x0_G_Actions:Value} {v_x0_Found:Value} {x1:(List (List Int))} {v_x1:Value} {x2:Int} {x3:Int}:Ct Tryz.prog 70 true (spec_l19Choices x0 x1 x2 x3) [.pointer (some (p_x0)),v_x1,.int .i64 (x2),.int .i64 (x3)] [.ats p_x0 [.int .i64 (x0.F.Shape.Objects),v_x0_F_Shape_From,v_x0_F_Shape_To,v_x0_F_Shape_Identity,v_x0_F_Shape_Composites,v_x0_F_Sizes,v_x0_F_Actions,.int .i64 (x0.G.Shape.Objects),v_x0_G_Shape_From,v_x0_G_Shape_To,v_x0_G_Shape_Identity,v_x0_G_Shape_Composites,v_x0_G_Sizes,v_x0_G_Actions,.bool (x0.Onto),.int .i64 (x0.Most),v_x0_Found],.rd false (sImm (sInt .i64)) v_x0_F_Shape_From x0.F.Shape.From,.rd false (sImm (sInt .i64)) v_x0_F_Shape_To x0.F.Shape.To,.rd false (sImm (sInt .i64)) v_x0_F_Shape_Identity x0.F.Shape.Identity,.rd false (sImm (sImm (sInt .i64))) v_x0_F_Shape_Composites x0.F.Shape.Composites,.rd false (sImm (sInt .i64)) v_x0_F_Sizes x0.F.Sizes,.rd false (sImm (sImm (sInt .i64))) v_x0_F_Actions x0.F.Actions,.rd false (sImm (sInt .i64)) v_x0_G_Shape_From x0.G.Shape.From,.rd false (sImm (sInt .i64)) v_x0_G_Shape_To x0.G.Shape.To,.rd false (sImm (sInt .i64)) v_x0_G_Shape_Identity x0.G.Shape.Identity,.rd false (sImm (sImm (sInt .i64))) v_x0_G_Shape_Composites x0.G.Shape.Composites,.rd false (sImm (sInt .i64)) v_x0_G_Sizes x0.G.Sizes,.rd false (sImm (sImm (sInt .i64))) v_x0_G_Actions x0.G.Actions,.rd false (sImm (sImm (sImm (sInt .i64)))) v_x0_Found x0.Found,.rd false (sImm (sImm (sInt .i64))) v_x1 x1] (fun y (v:Value)=>[v]) (fun y v=>[.own (sOwn 2 (sInt .i64)) v y]):=by
 refine ct (S:=Unit) (owt fun _ _=>rfl) Tryz.func70 rfl rfl ?_
 repeat' first
  | intro _
  | exact rfl
  | (refine @id.{0} _ ?_; constructor)
  | apply Dk.loop 0 (V:=Value) (fun (s:(List Int)×Int) v=>[.own (sOwn 2 (sInt .i64)) v s.1]) (fun s v=>[(9,v),(10,.int .i64 (s.2))]) _ [(0,_),(1,_),(2,_),(3,_)]
  | apply c71
  | exact ()
theorem c88 {x0:MCategory} {p_x0:Addr} {v_x0_From:Value} {v_x0_To:Value} {v_x0_Identity:Value} {v_x0_Composites:Value}:Ct Tryz.prog 88 true (impl_Category_isShape x0) [.pointer (some (p_x0))] [.ats p_x0 [.int .i64 (x0.Objects),v_x0_From,v_x0_To,v_x0_Identity,v_x0_Composites],.rd false (sImm (sInt .i64)) v_x0_From x0.From,.rd false (sImm (sInt .i64)) v_x0_To x0.To,.rd false (sImm (sInt .i64)) v_x0_Identity x0.Identity,.rd false (sImm (sImm (sInt .i64))) v_x0_Composites x0.Composites] (fun y (_:Unit)=>[.bool y]) (fun y _=>[]):=by
 refine ct (S:=Unit) (owt fun _ _=>rfl) Tryz.func88 rfl rfl ?_
 repeat' first
  | intro _
  | exact rfl
  | (refine @id.{0} _ ?_; constructor)
  | apply Dk.loop 0 (V:=Unit) (fun (s:Int) v=>[]) (fun s v=>[(88,.int .i64 (s))]) () [(0,_),(3,_),(86,_),(87,_)]
  | apply Dk.loop 2 (V:=Unit) (fun (s:Int) v=>[]) (fun s v=>[(106,.int .i64 (s))]) () [(0,_),(3,_),(104,_),(105,_)]
  | apply Dk.loop 4 (V:=Unit) (fun (s:Int) v=>[]) (fun s v=>[(117,.int .i64 (s))]) () [(0,_),(3,_),(6,_),(104,_),(105,_),(106,_),(115,_),(116,_)]
  | apply Dk.quiet (id:=2) (by kernel_rfl)
  | apply Dk.quiet (id:=4) (by kernel_rfl)
  | apply Dk.quiet (id:=20) (by kernel_rfl)
  | apply Dk.quiet (id:=23) (by kernel_rfl)
  | apply c33
  | apply c32
  | apply c76
  | apply c96
  | exact ()
theorem c75 {x0:MCategory} {p_x0:Addr} {v_x0_From:Value} {v_x0_To:Value} {v_x0_Identity:Value} {v_x0_Composites:Value}:Ct Tryz.prog 75 true (impl_Category_isCategory x0) [.pointer (some (p_x0))] [.ats p_x0 [.int .i64 (x0.Objects),v_x0_From,v_x0_To,v_x0_Identity,v_x0_Composites],.rd false (sImm (sInt .i64)) v_x0_From x0.From,.rd false (sImm (sInt .i64)) v_x0_To x0.To,.rd false (sImm (sInt .i64)) v_x0_Identity x0.Identity,.rd false (sImm (sImm (sInt .i64))) v_x0_Composites x0.Composites] (fun y (_:Unit)=>[.bool y]) (fun y _=>[]):=by
 refine ct (S:=Unit) (owt fun _ _=>rfl) Tryz.func75 rfl rfl ?_
 repeat' first
  | intro _
  | exact rfl
  | (refine @id.{0} _ ?_; constructor)
  | apply c88
  | apply c89
  | exact ()
theorem c54 {x0:MCategory} {v_x0_From:Value} {v_x0_To:Value} {v_x0_Identity:Value} {v_x0_Composites:Value} {x1:MCategory} {v_x1_From:Value} {v_x1_To:Value} {v_x1_Identity:Value} {v_x1_Composites:Value}:Ct Tryz.prog 54 true (laws_sameCat9 x0 x1) [.agg #[.int .i64 (x0.Objects),v_x0_From,v_x0_To,v_x0_Identity,v_x0_Composites],.agg #[.int .i64 (x1.Objects),v_x1_From,v_x1_To,v_x1_Identity,v_x1_Composites]] [.rd false (sImm (sInt .i64)) v_x0_From x0.From,.rd false (sImm (sInt .i64)) v_x0_To x0.To,.rd false (sImm (sInt .i64)) v_x0_Identity x0.Identity,.rd false (sImm (sImm (sInt .i64))) v_x0_Composites x0.Composites,.rd false (sImm (sInt .i64)) v_x1_From x1.From,.rd false (sImm (sInt .i64)) v_x1_To x1.To,.rd false (sImm (sInt .i64)) v_x1_Identity x1.Identity,.rd false (sImm (sImm (sInt .i64))) v_x1_Composites x1.Composites] (fun y (_:Unit)=>[.bool y]) (fun y _=>[]):=by
 refine ct (S:=Unit) (owt fun _ _=>rfl) Tryz.func54 rfl rfl ?_
 repeat' first
  | intro _
  | exact rfl
  | (refine @id.{0} _ ?_; constructor)
  | apply c55
  | apply c28
  | exact ()
theorem c27 {x0:MSetFunctor} {v_x0_Shape_From:Value} {v_x0_Shape_To:Value} {v_x0_Shape_Identity:Value} {v_x0_Shape_Composites:Value} {v_x0_Sizes:Value} {v_x0_Actions:Value} {x1:MSetFunctor} {v_x1_Shape_From:Value} {v_x1_Shape_To:Value} {v_x1_Shape_Identity:Value} {v_x1_Shape_Composites:Value} {v_x1_Sizes:Value} {v_x1_Actions:Value}:Ct Tryz.prog 27 true (laws_sameSets9 x0 x1) [.agg #[.int .i64 (x0.Shape.Objects),v_x0_Shape_From,v_x0_Shape_To,v_x0_Shape_Identity,v_x0_Shape_Composites,v_x0_Sizes,v_x0_Actions],.agg #[.int .i64 (x1.Shape.Objects),v_x1_Shape_From,v_x1_Shape_To,v_x1_Shape_Identity,v_x1_Shape_Composites,v_x1_Sizes,v_x1_Actions]] [.rd false (sImm (sInt .i64)) v_x0_Shape_From x0.Shape.From,.rd false (sImm (sInt .i64)) v_x0_Shape_To x0.Shape.To,.rd false (sImm (sInt .i64)) v_x0_Shape_Identity x0.Shape.Identity,.rd false (sImm (sImm (sInt .i64))) v_x0_Shape_Composites x0.Shape.Composites,.rd false (sImm (sInt .i64)) v_x0_Sizes x0.Sizes,.rd false (sImm (sImm (sInt .i64))) v_x0_Actions x0.Actions,.rd false (sImm (sInt .i64)) v_x1_Shape_From x1.Shape.From,.rd false (sImm (sInt .i64)) v_x1_Shape_To x1.Shape.To,.rd false (sImm (sInt .i64)) v_x1_Shape_Identity x1.Shape.Identity,.rd false (sImm (sImm (sInt .i64))) v_x1_Shape_Composites x1.Shape.Composites,.rd false (sImm (sInt .i64)) v_x1_Sizes x1.Sizes,.rd false (sImm (sImm (sInt .i64))) v_x1_Actions x1.Actions] (fun y (_:Unit)=>[.bool y]) (fun y _=>[]):=by
 refine ct (S:=Unit) (owt fun _ _=>rfl) Tryz.func27 rfl rfl ?_
 repeat' first
  | intro _
  | exact rfl
  | (refine @id.{0} _ ?_; constructor)
  | apply c54
  | apply c55
  | apply c28
  | exact ()
end Go.Proofs.YtjfahghkjblgjaaGreat
