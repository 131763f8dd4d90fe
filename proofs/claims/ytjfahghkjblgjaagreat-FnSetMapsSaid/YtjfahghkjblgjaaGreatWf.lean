/- Walks by the calculus D. No condition beside those that each theorem names. -/
import Derived.Test.YtjfahghkjblgjaaGreatDi
import Derived.Test.YtjfahghkjblgjaaGreatMo
import Derived.Test.YtjfahghkjblgjaaGreatDg
import Derived.Test.YtjfahghkjblgjaaGreatDs
import Derived.Test.YtjfahghkjblgjaaGreatWa
import Derived.Test.YtjfahghkjblgjaaGreatWb
import Derived.Test.YtjfahghkjblgjaaGreatWc
import Derived.Test.YtjfahghkjblgjaaGreatWd
namespace Go.Proofs.YtjfahghkjblgjaaGreat
open Go Go.Li Go.Dk
set_option linter.unusedVariables false
set_option maxHeartbeats 16000000
set_option maxRecDepth 100000
theorem c111 {x0:Int} {x1:(List Int)} {v_x1:Value} {x2:(List Int)} {v_x2:Value}:Ct Tryz.prog 111 false (spec_l03All x0 x1 x2) [.int .i64 (x0),v_x1,v_x2] [.rd false (sImm (sInt .i64)) v_x1 x1,.rd false (sImm (sInt .i64)) v_x2 x2] (fun y (v:Value)=>[v]) (fun y v=>[.rd false (sImm (sStr sS129)) v y]):=by
 refine ct (S:=Unit) owf Tryz.func111 rfl rfl ?_
 repeat' first
  | intro _
  | exact rfl
  | (refine (id (α:=@Eq (List Value) _ _) ?_); dsimp only; try exact rfl)
  | apply Dk.lgS (t:=126) (S:=sS129)
  | apply Dk.lnS (t:=126)
  | apply Dk.ixS (t:=126)
  | apply Dk.apS (t:=126) (ML03Path.mk _ _ _)
  | apply Dk.laS (n:=3)
  | apply Dk.laS0 (n:=3)
  | apply Dk.lsS (n:=3)
  | apply Dk.stS (n:=3) (S:=sS129) _
  | apply Dk.AD.idxG
  | apply Dk.AD.laG (n:=3)
  | apply Dk.AD.laG0 (n:=3)
  | (refine @id.{0} _ ?_; constructor)
  | apply Dk.loopP 0 (V:=Value) (W:=List (List Value)) (fun (s:(List ML03Path)×Int) v u=>[.own (sOwn 129 (sCel 3)) v u,.rd false (sGh sS129) (.bool true) (u,s.1)]) (fun s v u=>[(7,v),(8,.int .i64 (s.2))]) _ _ [(0,_),(1,_),(2,_)]
  | apply Dk.loopP 2 (V:=Value) (W:=List (List Value)) (fun (s:(List ML03Path)×Int) v u=>[.own (sOwn 129 (sCel 3)) v u,.rd false (sGh sS129) (.bool true) (u,s.1)]) (fun s v u=>[(7,v),(9,.int .i64 (s.2))]) _ _ [(0,_),(1,_),(2,_)]
  | apply Dk.loopP 4 (V:=Value) (W:=List (List Value)) (fun (s:(List ML03Path)×Int) v u=>[.own (sOwn 129 (sCel 3)) v u,.rd false (sGh sS129) (.bool true) (u,s.1)]) (fun s v u=>[(7,v),(10,.int .i64 (s.2))]) _ _ [(0,_),(1,_),(2,_),(9,_)]
  | apply Dk.loopP 6 (V:=Value) (W:=List (List Value)) (fun (s:(List ML03Path)×Int) v u=>[.own (sOwn 129 (sCel 3)) v u,.rd false (sGh sS129) (.bool true) (u,s.1)]) (fun s v u=>[(7,v),(11,.int .i64 (s.2))]) _ _ []
  | apply Dk.loopP 8 (V:=Value) (W:=List (List Value)) (fun (s:(List ML03Path)×Int) v u=>[.own (sOwn 129 (sCel 3)) v u,.rd false (sGh sS129) (.bool true) (u,s.1)]) (fun s v u=>[(7,v),(12,.int .i64 (s.2))]) _ _ [(11,_)]
  | apply Dk.quiet (id:=12) (by kernel_rfl)
  | apply Dk.quiet (id:=18) (by kernel_rfl)
  | apply Dk.any (id:=13) 19 [0] [[],[],[],[],[],[],[],[],[],[],[],[],[],[],[],[],[],[],[15]] [[],[],[],[1,2],[3,1,2],[4,3,1,2],[],[],[6,7],[8,6,7],[],[],[10,11],[12,10,11],[13,12,10,11],[14,13,12,10,11],[],[16],[15,14,13,12,10,11,17,16,15,14,13,12,10,11]] (by kernel_rfl)
  | apply c63
  | apply c112
  | exact ()
theorem c105 {x0:Int} {x1:(List Int)} {v_x1:Value} {x2:(List Int)} {v_x2:Value}:Ct Tryz.prog 105 true (spec_l03Paths x0 x1 x2) [.int .i64 (x0),v_x1,v_x2] [.rd false (sImm (sInt .i64)) v_x1 x1,.rd false (sImm (sInt .i64)) v_x2 x2] (fun y (v:Value×Value×Value×Value)=>[.agg #[.int .i64 y.Objects,v.1,v.2.1,v.2.2.1,v.2.2.2]]) (fun y v=>[.own (sOwn 2 (sInt .i64)) v.1 y.From,.own (sOwn 2 (sInt .i64)) v.2.1 y.To,.own (sOwn 2 (sInt .i64)) v.2.2.1 y.Identity,.own (sOwn 24 (sOwn 2 (sInt .i64))) v.2.2.2 y.Composites]):=by
 refine ct (S:=Unit) (owt fun _ _=>rfl) Tryz.func105 rfl rfl ?_
 repeat' first
  | intro _
  | exact rfl
  | (refine Dk.cdR (t:=83) rfl ?_ ?_)
  | (refine Dk.cdR (t:=112) rfl ?_ ?_)
  | (refine @id.{0} _ ?_; constructor)
  | apply Dk.loopA 0 (V:=Value×Value) (A:=Nat×Value×Value) (_,_,_) (fun a (s:Int×(List Int)×(List Int)×(List Int)) v=>Dk.pc (fun a0=>Dk.pc (fun a1 a2=>[.row a0 [.int .i64 (x0),v.1,v.2,a1,a2] 27,.own (sOwn 2 (sInt .i64)) a1 s.2.2.2,.own (sOwn 2 (sInt .i64)) v.1 s.2.1,.own (sOwn 2 (sInt .i64)) v.2 s.2.2.1])) a) (fun a s v=>Dk.pc (fun a0=>Dk.pc (fun a1 a2=>[(8,.pointer (some ⟨a0,0,none⟩)),(9,.int .i64 (s.1))])) a) (_,_) [(6,_),(7,_)]
  | apply Dk.loopA 2 (V:=Value) (A:=Nat×Value×Value×Value) (_,_,_,_) (fun a (s:Int×(List (List Int))) v=>Dk.pc (fun a0=>Dk.pc (fun a1=>Dk.pc (fun a2 a3=>[.row a0 [.int .i64 (x0),a1,a2,a3,v] 27,.own (sOwn 24 (sOwn 2 (sInt .i64))) v s.2]))) a) (fun a s v=>Dk.pc (fun a0=>Dk.pc (fun a1=>Dk.pc (fun a2 a3=>[(8,.pointer (some ⟨a0,0,none⟩)),(10,.int .i64 (s.1))]))) a) _ [(6,_),(7,_)]
  | apply Dk.loop 4 (V:=Value) (fun (s:(List Int)×Int) v=>[.own (sOwn 2 (sInt .i64)) v s.1]) (fun s v=>[(11,v),(12,.int .i64 (s.2))]) _ [(6,_),(7,_),(8,_),(10,_)]
  | apply Dk.loop 6 (V:=Unit) (fun (s:Int×Int) v=>[]) (fun s v=>[(13,.int .i64 (s.1)),(15,.int .i64 (s.2))]) () [(6,_),(7,_),(8,_),(10,_),(11,_),(12,_),(14,_)]
  | apply Dk.quiet (id:=20) (by kernel_rfl)
  | apply Dk.quiet (id:=25) (by kernel_rfl)
  | apply Dk.any (id:=6) 8 [] [] [[],[0],[],[],[2,3],[4,2,3],[5,4,2,3],[6,5,4,2,3]] (by kernel_rfl)
  | apply Dk.any (id:=7) 8 [] [] [[],[0],[],[],[2,3],[4,2,3],[5,4,2,3],[6,5,4,2,3]] (by kernel_rfl)
  | apply Dk.any (id:=9) 8 [] [] [[],[0],[],[],[2,3],[4,2,3],[5,4,2,3],[]] (by kernel_rfl)
  | apply Dk.any (id:=21) 11 [] [] [[],[],[0,1],[2,0,1],[3,2,0,1],[4,3,2,0,1],[],[],[6,7],[8,6,7],[9,8,6,7]] (by kernel_rfl)
  | apply c111
  | apply c101
  | apply c63
  | apply c51
  | exact ()
theorem c92 {x0:MCategory} {v_x0_From:Value} {v_x0_To:Value} {v_x0_Identity:Value} {v_x0_Composites:Value}:Ct Tryz.prog 92 true (spec_IsShape x0) [.agg #[.int .i64 (x0.Objects),v_x0_From,v_x0_To,v_x0_Identity,v_x0_Composites]] [.rd false (sImm (sInt .i64)) v_x0_From x0.From,.rd false (sImm (sInt .i64)) v_x0_To x0.To,.rd false (sImm (sInt .i64)) v_x0_Identity x0.Identity,.rd false (sImm (sImm (sInt .i64))) v_x0_Composites x0.Composites] (fun y (_:Unit)=>[.bool y]) (fun y _=>[]):=by
 refine ct (S:=Unit) (owt fun _ _=>rfl) Tryz.func92 rfl rfl ?_
 repeat' first
  | intro _
  | exact rfl
  | (refine Dk.cdR (t:=102) rfl ?_ ?_)
  | (refine @id.{0} _ ?_; constructor)
  | apply Dk.loop 0 (V:=Unit) (fun (s:Int) v=>[]) (fun s v=>[(4,.int .i64 (s))]) () [(1,_),(3,_)]
  | apply Dk.loop 2 (V:=Unit) (fun (s:Int) v=>[]) (fun s v=>[(5,.int .i64 (s))]) () [(1,_),(3,_)]
  | apply Dk.loop 4 (V:=Unit) (fun (s:Int) v=>[]) (fun s v=>[(6,.int .i64 (s))]) () [(1,_),(3,_),(5,_)]
  | apply Dk.quiet (id:=9) (by kernel_rfl)
  | apply Dk.quiet (id:=20) (by kernel_rfl)
  | apply Dk.quiet (id:=23) (by kernel_rfl)
  | apply c95
  | apply c103
  | apply c64
  | exact ()
theorem c81 {x0:MCategory} {v_x0_From:Value} {v_x0_To:Value} {v_x0_Identity:Value} {v_x0_Composites:Value}:Ct Tryz.prog 81 true (spec_l02Is x0) [.agg #[.int .i64 (x0.Objects),v_x0_From,v_x0_To,v_x0_Identity,v_x0_Composites]] [.rd false (sImm (sInt .i64)) v_x0_From x0.From,.rd false (sImm (sInt .i64)) v_x0_To x0.To,.rd false (sImm (sInt .i64)) v_x0_Identity x0.Identity,.rd false (sImm (sImm (sInt .i64))) v_x0_Composites x0.Composites] (fun y (_:Unit)=>[.bool y]) (fun y _=>[]):=by
 refine ct (S:=Unit) (owt fun _ _=>rfl) Tryz.func81 rfl rfl ?_
 repeat' first
  | intro _
  | exact rfl
  | (refine @id.{0} _ ?_; constructor)
  | apply c92
  | apply c93
  | exact ()
theorem c50 {x0:MCategory} {v_x0_From:Value} {v_x0_To:Value} {v_x0_Identity:Value} {v_x0_Composites:Value} {x1:MCategory} {v_x1_From:Value} {v_x1_To:Value} {v_x1_Identity:Value} {v_x1_Composites:Value}:Ct Tryz.prog 50 true (spec_l02Same x0 x1) [.agg #[.int .i64 (x0.Objects),v_x0_From,v_x0_To,v_x0_Identity,v_x0_Composites],.agg #[.int .i64 (x1.Objects),v_x1_From,v_x1_To,v_x1_Identity,v_x1_Composites]] [.rd false (sImm (sInt .i64)) v_x0_From x0.From,.rd false (sImm (sInt .i64)) v_x0_To x0.To,.rd false (sImm (sInt .i64)) v_x0_Identity x0.Identity,.rd false (sImm (sImm (sInt .i64))) v_x0_Composites x0.Composites,.rd false (sImm (sInt .i64)) v_x1_From x1.From,.rd false (sImm (sInt .i64)) v_x1_To x1.To,.rd false (sImm (sInt .i64)) v_x1_Identity x1.Identity,.rd false (sImm (sImm (sInt .i64))) v_x1_Composites x1.Composites] (fun y (_:Unit)=>[.bool y]) (fun y _=>[]):=by
 refine ct (S:=Unit) (owt fun _ _=>rfl) Tryz.func50 rfl rfl ?_
 repeat' first
  | intro _
  | exact rfl
  | (refine @id.{0} _ ?_; constructor)
  | apply c51
  | apply c52
  | exact ()
theorem c25 {x0:MSetFunctor} {v_x0_Shape_From:Value} {v_x0_Shape_To:Value} {v_x0_Shape_Identity:Value} {v_x0_Shape_Composites:Value} {v_x0_Sizes:Value} {v_x0_Actions:Value} {x1:MSetFunctor} {v_x1_Shape_From:Value} {v_x1_Shape_To:Value} {v_x1_Shape_Identity:Value} {v_x1_Shape_Composites:Value} {v_x1_Sizes:Value} {v_x1_Actions:Value}:Ct Tryz.prog 25 true (spec_l19Same x0 x1) [.agg #[.int .i64 (x0.Shape.Objects),v_x0_Shape_From,v_x0_Shape_To,v_x0_Shape_Identity,v_x0_Shape_Composites,v_x0_Sizes,v_x0_Actions],.agg #[.int .i64 (x1.Shape.Objects),v_x1_Shape_From,v_x1_Shape_To,v_x1_Shape_Identity,v_x1_Shape_Composites,v_x1_Sizes,v_x1_Actions]] [.rd false (sImm (sInt .i64)) v_x0_Shape_From x0.Shape.From,.rd false (sImm (sInt .i64)) v_x0_Shape_To x0.Shape.To,.rd false (sImm (sInt .i64)) v_x0_Shape_Identity x0.Shape.Identity,.rd false (sImm (sImm (sInt .i64))) v_x0_Shape_Composites x0.Shape.Composites,.rd false (sImm (sInt .i64)) v_x0_Sizes x0.Sizes,.rd false (sImm (sImm (sInt .i64))) v_x0_Actions x0.Actions,.rd false (sImm (sInt .i64)) v_x1_Shape_From x1.Shape.From,.rd false (sImm (sInt .i64)) v_x1_Shape_To x1.Shape.To,.rd false (sImm (sInt .i64)) v_x1_Shape_Identity x1.Shape.Identity,.rd false (sImm (sImm (sInt .i64))) v_x1_Shape_Composites x1.Shape.Composites,.rd false (sImm (sInt .i64)) v_x1_Sizes x1.Sizes,.rd false (sImm (sImm (sInt .i64))) v_x1_Actions x1.Actions] (fun y (_:Unit)=>[.bool y]) (fun y _=>[]):=by
 refine ct (S:=Unit) (owt fun _ _=>rfl) Tryz.func25 rfl rfl ?_
 repeat' first
  | intro _
  | exact rfl
  | (refine @id.{0} _ ?_; constructor)
  | apply c50
  | apply c51
  | apply c52
  | exact ()
end Go.Proofs.YtjfahghkjblgjaaGreat
