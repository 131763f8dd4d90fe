/- Walks by the calculus D. No condition beside those that each theorem names. -/
import Derived.Test.YtjfahghkjblgjaaGreatDi
import Derived.Test.YtjfahghkjblgjaaGreatMo
import Derived.Test.YtjfahghkjblgjaaGreatDg
import Derived.Test.YtjfahghkjblgjaaGreatDs
namespace Go.Proofs.YtjfahghkjblgjaaGreat
open Go Go.Li Go.Dk
set_option linter.unusedVariables false
set_option maxHeartbeats 16000000
set_option maxRecDepth 100000
theorem c51 {x0:(List Int)} {v_x0:Value} {x1:(List Int)} {v_x1:Value}:Ct Tryz.prog 51 true (spec_l01Same x0 x1) [v_x0,v_x1] [.rd false (sImm (sInt .i64)) v_x0 x0,.rd false (sImm (sInt .i64)) v_x1 x1] (fun y (_:Unit)=>[.bool y]) (fun y _=>[]):=by
 refine ct (S:=Unit) (owt fun _ _=>rfl) Tryz.func51 rfl rfl ?_
 repeat' first
  | intro _
  | exact rfl
  | (refine @id.{0} _ ?_; constructor)
  | apply Dk.loop 0 (V:=Unit) (fun (s:Int) v=>[]) (fun s v=>[(5,.int .i64 (s))]) () [(0,_),(1,_)]
  | apply Dk.quiet (id:=6) (by kernel_rfl)
  | exact ()
theorem c95 {x0:Int} {x1:Int} {x2:Int}:Ct Tryz.prog 95 true (spec_l01In x0 x1 x2) [.int .i64 (x0),.int .i64 (x1),.int .i64 (x2)] [] (fun y (_:Unit)=>[.bool y]) (fun y _=>[]):=by
 refine ct (S:=Unit) (owt fun _ _=>rfl) Tryz.func95 rfl rfl ?_
 repeat' first
  | intro _
  | exact rfl
  | (refine @id.{0} _ ?_; constructor)
  | exact ()
theorem c64 {x0:Int} {x1:(List Int)} {v_x1:Value}:Ct Tryz.prog 64 true (spec_l01Map x0 x1) [.int .i64 (x0),v_x1] [.rd false (sImm (sInt .i64)) v_x1 x1] (fun y (_:Unit)=>[.bool y]) (fun y _=>[]):=by
 refine ct (S:=Unit) (owt fun _ _=>rfl) Tryz.func64 rfl rfl ?_
 repeat' first
  | intro _
  | exact rfl
  | (refine @id.{0} _ ?_; constructor)
  | apply Dk.loop 0 (V:=Unit) (fun (s:Int) v=>[]) (fun s v=>[(5,.int .i64 (s))]) () [(0,_),(1,_)]
  | exact ()
theorem c103 {x0:(List Int)} {v_x0:Value} {x1:Int} {x2:Int}:Ct Tryz.prog 103 true (spec_l02Ends x0 x1 x2) [v_x0,.int .i64 (x1),.int .i64 (x2)] [.rd false (sImm (sInt .i64)) v_x0 x0] (fun y (_:Unit)=>[.bool y]) (fun y _=>[]):=by
 refine ct (S:=Unit) (owt fun _ _=>rfl) Tryz.func103 rfl rfl ?_
 repeat' first
  | intro _
  | exact rfl
  | (refine @id.{0} _ ?_; constructor)
  | apply c64
  | exact ()
theorem c66 {x0:(List (List Int))} {v_x0:Value} {x1:(List Int)} {v_x1:Value}:Ct Tryz.prog 66 true (spec_l05Place x0 x1) [v_x0,v_x1] [.rd false (sImm (sImm (sInt .i64))) v_x0 x0,.rd false (sImm (sInt .i64)) v_x1 x1] (fun y (_:Unit)=>[.int .i64 y]) (fun y _=>[]):=by
 refine ct (S:=Unit) (owt fun _ _=>rfl) Tryz.func66 rfl rfl ?_
 repeat' first
  | intro _
  | exact rfl
  | (refine @id.{0} _ ?_; constructor)
  | apply Dk.loop 0 (V:=Unit) (fun (s:Int) v=>[]) (fun s v=>[(5,.int .i64 (s))]) () [(0,_),(1,_)]
  | apply c51
  | exact ()
theorem c84 {x0:MSetFunctor} {v_x0_Shape_From:Value} {v_x0_Shape_To:Value} {v_x0_Shape_Identity:Value} {v_x0_Shape_Composites:Value} {v_x0_Sizes:Value} {v_x0_Actions:Value}:Ct Tryz.prog 84 true (spec_l19Fault x0) [.agg #[.int .i64 (x0.Shape.Objects),v_x0_Shape_From,v_x0_Shape_To,v_x0_Shape_Identity,v_x0_Shape_Composites,v_x0_Sizes,v_x0_Actions]] [.rd false (sImm (sInt .i64)) v_x0_Shape_From x0.Shape.From,.rd false (sImm (sInt .i64)) v_x0_Shape_To x0.Shape.To,.rd false (sImm (sInt .i64)) v_x0_Shape_Identity x0.Shape.Identity,.rd false (sImm (sImm (sInt .i64))) v_x0_Shape_Composites x0.Shape.Composites,.rd false (sImm (sInt .i64)) v_x0_Sizes x0.Sizes,.rd false (sImm (sImm (sInt .i64))) v_x0_Actions x0.Actions] (fun y (_:Unit)=>[.int .i64 y.1,.int .i64 y.2.1,.int .i64 y.2.2.1,.int .i64 y.2.2.2]) (fun y _=>[]):=by
 refine ct (S:=Unit) (owt fun _ _=>rfl) Tryz.func84 rfl rfl ?_
 repeat' first
  | intro _
  | exact rfl
  | (refine Dk.cdR (t:=56) rfl ?_ ?_)
  | (refine @id.{0} _ ?_; constructor)
  | apply Dk.loop 0 (V:=Unit) (fun (s:Int) v=>[]) (fun s v=>[(7,.int .i64 (s))]) () [(1,_),(6,_)]
  | apply Dk.loop 2 (V:=Unit) (fun (s:Int) v=>[]) (fun s v=>[(8,.int .i64 (s))]) () [(1,_),(6,_),(7,_)]
  | apply Dk.loop 4 (V:=Unit) (fun (s:Int) v=>[]) (fun s v=>[(9,.int .i64 (s))]) () [(1,_),(6,_)]
  | apply Dk.loop 6 (V:=Unit) (fun (s:Int) v=>[]) (fun s v=>[(10,.int .i64 (s))]) () [(1,_),(6,_),(9,_)]
  | apply Dk.loop 8 (V:=Unit) (fun (s:Int) v=>[]) (fun s v=>[(11,.int .i64 (s))]) () [(1,_),(6,_),(9,_),(10,_)]
  | apply Dk.quiet (id:=8) (by kernel_rfl)
  | apply Dk.quiet (id:=16) (by kernel_rfl)
  | apply Dk.quiet (id:=18) (by kernel_rfl)
  | apply Dk.quiet (id:=20) (by kernel_rfl)
  | exact ()
theorem c52 {x0:(List (List Int))} {v_x0:Value} {x1:(List (List Int))} {v_x1:Value}:Ct Tryz.prog 52 true (spec_l01Same2 x0 x1) [v_x0,v_x1] [.rd false (sImm (sImm (sInt .i64))) v_x0 x0,.rd false (sImm (sImm (sInt .i64))) v_x1 x1] (fun y (_:Unit)=>[.bool y]) (fun y _=>[]):=by
 refine ct (S:=Unit) (owt fun _ _=>rfl) Tryz.func52 rfl rfl ?_
 repeat' first
  | intro _
  | exact rfl
  | (refine @id.{0} _ ?_; constructor)
  | apply Dk.loop 0 (V:=Unit) (fun (s:Int) v=>[]) (fun s v=>[(5,.int .i64 (s))]) () [(0,_),(1,_)]
  | apply Dk.quiet (id:=6) (by kernel_rfl)
  | apply c51
  | exact ()
theorem c43 {x0:MSetFunctor} {v_x0_Shape_From:Value} {v_x0_Shape_To:Value} {v_x0_Shape_Identity:Value} {v_x0_Shape_Composites:Value} {v_x0_Sizes:Value} {v_x0_Actions:Value}:Ct Tryz.prog 43 true (spec_l19Open x0) [.agg #[.int .i64 (x0.Shape.Objects),v_x0_Shape_From,v_x0_Shape_To,v_x0_Shape_Identity,v_x0_Shape_Composites,v_x0_Sizes,v_x0_Actions]] [.rd false (sImm (sInt .i64)) v_x0_Shape_From x0.Shape.From,.rd false (sImm (sInt .i64)) v_x0_Shape_To x0.Shape.To,.rd false (sImm (sInt .i64)) v_x0_Shape_Identity x0.Shape.Identity,.rd false (sImm (sImm (sInt .i64))) v_x0_Shape_Composites x0.Shape.Composites,.rd false (sImm (sInt .i64)) v_x0_Sizes x0.Sizes,.rd false (sImm (sImm (sInt .i64))) v_x0_Actions x0.Actions] (fun y (v:Value)=>[v]) (fun y v=>[.own (sOwn 24 (sOwn 2 (sInt .i64))) v y]):=by
 refine ct (S:=Unit) (owt fun _ _=>rfl) Tryz.func43 rfl rfl ?_
 repeat' first
  | intro _
  | exact rfl
  | (refine @id.{0} _ ?_; constructor)
  | apply Dk.loop 0 (V:=Value) (fun (s:(List (List Int))×Int) v=>[.own (sOwn 24 (sOwn 2 (sInt .i64))) v s.1]) (fun s v=>[(3,v),(4,.int .i64 (s.2))]) _ [(1,_)]
  | apply Dk.loop 2 (V:=Value) (fun (s:(List Int)×Int) v=>[.own (sOwn 2 (sInt .i64)) v s.1]) (fun s v=>[(5,v),(6,.int .i64 (s.2))]) _ [(1,_),(3,_),(4,_)]
  | exact ()
theorem c37 {x0:MSetFunctor} {v_x0_Shape_From:Value} {v_x0_Shape_To:Value} {v_x0_Shape_Identity:Value} {v_x0_Shape_Composites:Value} {v_x0_Sizes:Value} {v_x0_Actions:Value} {x1:MSetFunctor} {v_x1_Shape_From:Value} {v_x1_Shape_To:Value} {v_x1_Shape_Identity:Value} {v_x1_Shape_Composites:Value} {v_x1_Sizes:Value} {v_x1_Actions:Value} {x2:(List (List Int))} {v_x2:Value}:Ct Tryz.prog 37 true (spec_l19Parts x0 x1 x2) [.agg #[.int .i64 (x0.Shape.Objects),v_x0_Shape_From,v_x0_Shape_To,v_x0_Shape_Identity,v_x0_Shape_Composites,v_x0_Sizes,v_x0_Actions],.agg #[.int .i64 (x1.Shape.Objects),v_x1_Shape_From,v_x1_Shape_To,v_x1_Shape_Identity,v_x1_Shape_Composites,v_x1_Sizes,v_x1_Actions],v_x2] [.rd false (sImm (sInt .i64)) v_x0_Shape_From x0.Shape.From,.rd false (sImm (sInt .i64)) v_x0_Shape_To x0.Shape.To,.rd false (sImm (sInt .i64)) v_x0_Shape_Identity x0.Shape.Identity,.rd false (sImm (sImm (sInt .i64))) v_x0_Shape_Composites x0.Shape.Composites,.rd false (sImm (sInt .i64)) v_x0_Sizes x0.Sizes,.rd false (sImm (sImm (sInt .i64))) v_x0_Actions x0.Actions,.rd false (sImm (sInt .i64)) v_x1_Shape_From x1.Shape.From,.rd false (sImm (sInt .i64)) v_x1_Shape_To x1.Shape.To,.rd false (sImm (sInt .i64)) v_x1_Shape_Identity x1.Shape.Identity,.rd false (sImm (sImm (sInt .i64))) v_x1_Shape_Composites x1.Shape.Composites,.rd false (sImm (sInt .i64)) v_x1_Sizes x1.Sizes,.rd false (sImm (sImm (sInt .i64))) v_x1_Actions x1.Actions,.rd false (sImm (sImm (sInt .i64))) v_x2 x2] (fun y (_:Unit)=>[.bool y]) (fun y _=>[]):=by
 refine ct (S:=Unit) (owt fun _ _=>rfl) Tryz.func37 rfl rfl ?_
 repeat' first
  | intro _
  | exact rfl
  | (refine @id.{0} _ ?_; constructor)
  | apply Dk.loop 0 (V:=Unit) (fun (s:Int) v=>[]) (fun s v=>[(7,.int .i64 (s))]) () [(2,_),(3,_),(4,_)]
  | apply Dk.quiet (id:=6) (by kernel_rfl)
  | apply c64
  | exact ()
theorem c96 {x0:MCategory} {p_x0:Addr} {v_x0_From:Value} {v_x0_To:Value} {v_x0_Identity:Value} {v_x0_Composites:Value} {x1:Int}:Ct Tryz.prog 96 true (impl_Category_ends x0 x1) [.pointer (some (p_x0)),.int .i64 (x1)] [.ats p_x0 [.int .i64 (x0.Objects),v_x0_From,v_x0_To,v_x0_Identity,v_x0_Composites],.rd false (sImm (sInt .i64)) v_x0_From x0.From,.rd false (sImm (sInt .i64)) v_x0_To x0.To,.rd false (sImm (sInt .i64)) v_x0_Identity x0.Identity,.rd false (sImm (sImm (sInt .i64))) v_x0_Composites x0.Composites] (fun y (_:Unit)=>[.agg #[.int .i64 y.From,.int .i64 y.To]]) (fun y _=>[]):=by
 refine ct (S:=Unit) (owt fun _ _=>rfl) Tryz.func96 rfl rfl ?_
 repeat' first
  | intro _
  | exact rfl
  | (refine @id.{0} _ ?_; constructor)
  | apply Dk.any (id:=1) 14 [] [] [[],[0],[1,0],[2,1,0],[],[3,2,1,0,4],[5,3,2,1,0,4],[],[7],[8,7],[9,8,7],[],[10,9,8,7,11],[12,10,9,8,7,11]] (by kernel_rfl)
  | exact ()
theorem c74 {x0:(List Int)} {v_x0:Value}:Ct Tryz.prog 74 true (impl_clone x0) [v_x0] [.rd false (sImm (sInt .i64)) v_x0 x0] (fun y (v:Value)=>[v]) (fun y v=>[.own (sOwn 2 (sInt .i64)) v y]):=by
 refine ct (S:=Unit) (owt fun _ _=>rfl) Tryz.func74 rfl rfl ?_
 repeat' first
  | intro _
  | exact rfl
  | (refine @id.{0} _ ?_; constructor)
  | exact ()
theorem c48 {x0:(List (List Int))} {v_x0:Value}:Ct Tryz.prog 48 true (impl_clones x0) [v_x0] [.rd false (sImm (sImm (sInt .i64))) v_x0 x0] (fun y (v:Value)=>[v]) (fun y v=>[.own (sOwn 24 (sOwn 2 (sInt .i64))) v y]):=by
 refine ct (S:=Unit) (owt fun _ _=>rfl) Tryz.func48 rfl rfl ?_
 repeat' first
  | intro _
  | exact rfl
  | (refine @id.{0} _ ?_; constructor)
  | apply Dk.loop 0 (V:=Value) (fun (s:(List (List Int))×Int) v=>[.own (sOwn 24 (sOwn 2 (sInt .i64))) v s.1]) (fun s v=>[(3,v),(11,.int .i64 (s.2))]) _ [(9,_),(10,_)]
  | apply c74
  | exact ()
theorem c53 {x0:(List Int)} {v_x0:Value} {x1:(List Int)} {v_x1:Value}:Ct Tryz.prog 53 true (spec_l01Then x0 x1) [v_x0,v_x1] [.rd false (sImm (sInt .i64)) v_x0 x0,.rd false (sImm (sInt .i64)) v_x1 x1] (fun y (v:Value)=>[v]) (fun y v=>[.own (sOwn 2 (sInt .i64)) v y]):=by
 refine ct (S:=Unit) (owt fun _ _=>rfl) Tryz.func53 rfl rfl ?_
 repeat' first
  | intro _
  | exact rfl
  | (refine @id.{0} _ ?_; constructor)
  | apply Dk.loop 0 (V:=Value) (fun (s:(List Int)×Int) v=>[.own (sOwn 2 (sInt .i64)) v s.1]) (fun s v=>[(5,v),(6,.int .i64 (s.2))]) _ [(0,_),(1,_)]
  | exact ()
theorem c26 {x0:(List (List Int))} {v_x0:Value} {x1:(List (List Int))} {v_x1:Value}:Ct Tryz.prog 26 true (spec_l19Then x0 x1) [v_x0,v_x1] [.rd false (sImm (sImm (sInt .i64))) v_x0 x0,.rd false (sImm (sImm (sInt .i64))) v_x1 x1] (fun y (v:Value)=>[v]) (fun y v=>[.own (sOwn 24 (sOwn 2 (sInt .i64))) v y]):=by
 refine ct (S:=Unit) (owt fun _ _=>rfl) Tryz.func26 rfl rfl ?_
 repeat' first
  | intro _
  | exact rfl
  | (refine @id.{0} _ ?_; constructor)
  | apply Dk.loop 0 (V:=Value) (fun (s:(List (List Int))×Int) v=>[.own (sOwn 24 (sOwn 2 (sInt .i64))) v s.1]) (fun s v=>[(5,v),(6,.int .i64 (s.2))]) _ [(0,_),(1,_)]
  | apply Dk.any (id:=5) 11 [] [] [[],[],[],[1,2],[3,1,2],[],[],[5,6],[7,5,6],[4,3,1,2,8,7,5,6],[9,4,3,1,2,8,7,5,6]] (by kernel_rfl)
  | apply c53
  | exact ()
end Go.Proofs.YtjfahghkjblgjaaGreat
