/- Walks by the calculus D. No condition beside those that each theorem names. -/
import Derived.Test.YtjfahghkjblgjaaGreatDi
import Derived.Test.YtjfahghkjblgjaaGreatMo
import Derived.Test.YtjfahghkjblgjaaGreatDg
import Derived.Test.YtjfahghkjblgjaaGreatDs
import Derived.Test.YtjfahghkjblgjaaGreatWa
import Derived.Test.YtjfahghkjblgjaaGreatWc
import Derived.Test.YtjfahghkjblgjaaGreatWd
namespace Go.Proofs.YtjfahghkjblgjaaGreat
open Go Go.Li Go.Dk
set_option linter.unusedVariables false
set_option maxHeartbeats 16000000
set_option maxRecDepth 100000
theorem c65 {x0:MCategory} {v_x0_From:Value} {v_x0_To:Value} {v_x0_Identity:Value} {v_x0_Composites:Value}:Ct Tryz.prog 65 true (spec_l02Own x0) [.agg #[.int .i64 (x0.Objects),v_x0_From,v_x0_To,v_x0_Identity,v_x0_Composites]] [.rd false (sImm (sInt .i64)) v_x0_From x0.From,.rd false (sImm (sInt .i64)) v_x0_To x0.To,.rd false (sImm (sInt .i64)) v_x0_Identity x0.Identity,.rd false (sImm (sImm (sInt .i64))) v_x0_Composites x0.Composites] (fun y (v:Value×Value×Value×Value)=>[.agg #[.int .i64 y.Objects,v.1,v.2.1,v.2.2.1,v.2.2.2]]) (fun y v=>[.own (sOwn 2 (sInt .i64)) v.1 y.From,.own (sOwn 2 (sInt .i64)) v.2.1 y.To,.own (sOwn 2 (sInt .i64)) v.2.2.1 y.Identity,.own (sOwn 24 (sOwn 2 (sInt .i64))) v.2.2.2 y.Composites]):=by
 refine ct (S:=Unit) (owt fun _ _=>rfl) Tryz.func65 rfl rfl ?_
 repeat' first
  | intro _
  | exact rfl
  | (refine @id.{0} _ ?_; constructor)
  | apply Dk.any (id:=1) 14 [] [] [[],[0],[],[2],[3,2],[],[5],[6,5,4,3,2],[],[8],[9,8,7,6,5,4,3,2],[],[11],[12,11,10,9,8,7,6,5,4,3,2]] (by kernel_rfl)
  | apply c63
  | apply c36
  | exact ()
theorem c99 {x0:MCategory} {v_x0_From:Value} {v_x0_To:Value} {v_x0_Identity:Value} {v_x0_Composites:Value} {x1:MCategory} {v_x1_From:Value} {v_x1_To:Value} {v_x1_Identity:Value} {v_x1_Composites:Value}:Ct Tryz.prog 99 true (spec_l03Sum x0 x1) [.agg #[.int .i64 (x0.Objects),v_x0_From,v_x0_To,v_x0_Identity,v_x0_Composites],.agg #[.int .i64 (x1.Objects),v_x1_From,v_x1_To,v_x1_Identity,v_x1_Composites]] [.rd false (sImm (sInt .i64)) v_x0_From x0.From,.rd false (sImm (sInt .i64)) v_x0_To x0.To,.rd false (sImm (sInt .i64)) v_x0_Identity x0.Identity,.rd false (sImm (sImm (sInt .i64))) v_x0_Composites x0.Composites,.rd false (sImm (sInt .i64)) v_x1_From x1.From,.rd false (sImm (sInt .i64)) v_x1_To x1.To,.rd false (sImm (sInt .i64)) v_x1_Identity x1.Identity,.rd false (sImm (sImm (sInt .i64))) v_x1_Composites x1.Composites] (fun y (v:Value×Value×Value×Value)=>[.agg #[.int .i64 y.Objects,v.1,v.2.1,v.2.2.1,v.2.2.2]]) (fun y v=>[.own (sOwn 2 (sInt .i64)) v.1 y.From,.own (sOwn 2 (sInt .i64)) v.2.1 y.To,.own (sOwn 2 (sInt .i64)) v.2.2.1 y.Identity,.own (sOwn 24 (sOwn 2 (sInt .i64))) v.2.2.2 y.Composites]):=by
 refine ct (S:=Unit) (owt fun _ _=>rfl) Tryz.func99 rfl rfl ?_
 repeat' first
  | intro _
  | exact rfl
  | apply Dk.apR (d:=69)
  | apply Dk.ixH (d:=70)
  | apply Dk.stR (e:=24) (t:=24)
  | (refine @id.{0} _ ?_; constructor)
  | apply Dk.loopA 0 (V:=Value) (A:=Nat×Value×Value×Value) (_,_,_,_) (fun a (s:Int×(List Int)) v=>Dk.pc (fun a0=>Dk.pc (fun a1=>Dk.pc (fun a2 a3=>[.row a0 [.int .i64 (w64 (x0.Objects+x1.Objects)),a1,a2,v,a3] 27,.own (sOwn 2 (sInt .i64)) v s.2]))) a) (fun a s v=>Dk.pc (fun a0=>Dk.pc (fun a1=>Dk.pc (fun a2 a3=>[(7,.pointer (some ⟨a0,0,none⟩)),(8,.int .i64 (s.1))]))) a) _ [(3,_),(4,_),(5,_),(6,_)]
  | apply Dk.loopA 2 (V:=Unit) (A:=Value) _ (fun a (s:Int×(List (List Int))) v=>[.own (sOwn 24 (sOwn 2 (sInt .i64))) a s.2]) (fun a s v=>[(9,.int .i64 (s.1))]) () [(3,_),(4,_),(5,_),(6,_),(7,_)]
  | apply Dk.loopA 4 (V:=Unit) (A:=Value) _ (fun a (s:Int×(List (List Int))) v=>[.own (sOwn 24 (sOwn 2 (sInt .i64))) a s.2]) (fun a s v=>[(10,.int .i64 (s.1))]) () [(3,_),(4,_),(5,_),(6,_),(7,_),(9,_)]
  | apply Dk.loopA 6 (V:=Value×Value×Value) (A:=Nat×Value) (_,_) (fun a (s:Int×(List Int)×(List Int)×(List (List Int))) v=>Dk.pc (fun a0 a1=>[.row a0 [.int .i64 (w64 (x0.Objects+x1.Objects)),v.1,v.2.1,a1,v.2.2] 27,.own (sOwn 2 (sInt .i64)) v.1 s.2.1,.own (sOwn 2 (sInt .i64)) v.2.1 s.2.2.1,.own (sOwn 24 (sOwn 2 (sInt .i64))) v.2.2 s.2.2.2]) a) (fun a s v=>Dk.pc (fun a0 a1=>[(7,.pointer (some ⟨a0,0,none⟩)),(11,.int .i64 (s.1))]) a) (_,_,_) [(3,_),(4,_),(5,_),(6,_)]
  | apply Dk.loop 8 (V:=Value) (fun (s:(List Int)×Int) v=>[.own (sOwn 2 (sInt .i64)) v s.1]) (fun s v=>[(12,v),(13,.int .i64 (s.2))]) _ [(3,_),(4,_),(5,_),(6,_),(7,_),(11,_)]
  | apply Dk.loop 10 (V:=Value) (fun (s:(List Int)×Int) v=>[.own (sOwn 2 (sInt .i64)) v s.1]) (fun s v=>[(12,v),(14,.int .i64 (s.2))]) _ [(3,_),(4,_),(5,_),(6,_),(7,_),(11,_)]
  | apply Dk.quiet (id:=1) (by kernel_rfl)
  | apply Dk.any (id:=7) 10 [] [] [[],[0],[],[2],[],[3,2,4],[5,3,2,4],[],[6,5,3,2,4,7],[8,6,5,3,2,4,7]] (by kernel_rfl)
  | apply Dk.anyH (id:=14) [Dk.Ent.own (sOwn 24 (sOwn 2 (sInt .i64))) _ _] 10 [] [[],[],[],[],[],[],[],[],[],[12]] [[],[0],[],[],[3],[],[4,3,5],[6,4,3,5],[],[7,6,4,3,5,8]] (by kernel_rfl)
  | apply Dk.any (id:=18) 10 [] [] [[],[0],[],[2],[],[3,2,4],[5,3,2,4],[],[6,5,3,2,4,7],[8,6,5,3,2,4,7]] (by kernel_rfl)
  | apply Dk.any (id:=19) 10 [] [] [[],[0],[],[2],[],[3,2,4],[5,3,2,4],[],[6,5,3,2,4,7],[8,6,5,3,2,4,7]] (by kernel_rfl)
  | apply c65
  | exact ()
theorem c91 {x0:ML01Source} {b_x0:Nat} {v_x0_Code:Value} {x1:MCategory} {v_x1_From:Value} {v_x1_To:Value} {v_x1_Identity:Value} {v_x1_Composites:Value}:Ct Tryz.prog 91 false (spec_l02Bend x0 x1) [.pointer (some (⟨b_x0,0,none⟩)),.agg #[.int .i64 (x1.Objects),v_x1_From,v_x1_To,v_x1_Identity,v_x1_Composites]] [.row b_x0 [v_x0_Code,.int .i64 (x0.At),.int .u64 (x0.Hash)] 65,.rd false (sImm (sInt .u8)) v_x0_Code x0.Code,.rd false (sImm (sInt .i64)) v_x1_From x1.From,.rd false (sImm (sInt .i64)) v_x1_To x1.To,.rd false (sImm (sInt .i64)) v_x1_Identity x1.Identity,.rd false (sImm (sImm (sInt .i64))) v_x1_Composites x1.Composites] (fun y (v:Value×Value×Value×Value)=>[.agg #[.int .i64 y.1.Objects,v.1,v.2.1,v.2.2.1,v.2.2.2]]) (fun y v=>[.rd false (sImm (sInt .i64)) v.1 y.1.From,.rd false (sImm (sInt .i64)) v.2.1 y.1.To,.rd false (sImm (sInt .i64)) v.2.2.1 y.1.Identity,.rd false (sImm (sImm (sInt .i64))) v.2.2.2 y.1.Composites,.row b_x0 [v_x0_Code,.int .i64 y.2.At,.int .u64 y.2.Hash] 65]):=by
 refine ct (S:=Unit) owf Tryz.func91 rfl rfl ?_
 repeat' first
  | intro _
  | exact rfl
  | (refine Dk.cdR (t:=58) rfl ?_ ?_)
  | apply Dk.slT (t:=24)
  | apply Dk.stN
  | (refine @id.{0} _ ?_; constructor)
  | apply Dk.anyH (id:=13) [Dk.Ent.row _ _ 65] 6 [] [[],[],[],[],[],[8]] [[],[0],[],[],[3],[2,4,3]] (by kernel_rfl)
  | apply Dk.anyH (id:=18) [Dk.Ent.row _ _ 65] 13 [] [[],[],[],[],[],[],[],[15],[],[],[],[7],[]] [[],[0],[],[1,0,2],[3,1,0,2],[],[],[5,6],[],[],[9],[8,10,9,7,5,6],[11,8,10,9,5,6]] (by kernel_rfl)
  | apply Dk.anyH (id:=21) [Dk.Ent.row _ _ 65] 8 [] [[],[],[],[],[],[],[],[10]] [[],[0],[],[],[],[4],[5,4],[3,6,5,4]] (by kernel_rfl)
  | apply Dk.tailF (id:=6) 9 (e:=24) (e2:=2) (T:=(sInt .i64)) (by kernel_rfl)
  | apply c65
  | apply c15
  | apply c94
  | exact ()
theorem c39 {x0:MCategory} {v_x0_From:Value} {v_x0_To:Value} {v_x0_Identity:Value} {v_x0_Composites:Value} {x1:(List Int)} {v_x1:Value}:Ct Tryz.prog 39 true (spec_l19Free x0 x1) [.agg #[.int .i64 (x0.Objects),v_x0_From,v_x0_To,v_x0_Identity,v_x0_Composites],v_x1] [.rd false (sImm (sInt .i64)) v_x0_From x0.From,.rd false (sImm (sInt .i64)) v_x0_To x0.To,.rd false (sImm (sInt .i64)) v_x0_Identity x0.Identity,.rd false (sImm (sImm (sInt .i64))) v_x0_Composites x0.Composites,.rd false (sImm (sInt .i64)) v_x1 x1] (fun y (v:Value×Value×Value×Value×Value×Value)=>[.agg #[.int .i64 y.Shape.Objects,v.1,v.2.1,v.2.2.1,v.2.2.2.1,v.2.2.2.2.1,v.2.2.2.2.2]]) (fun y v=>[.own (sOwn 2 (sInt .i64)) v.1 y.Shape.From,.own (sOwn 2 (sInt .i64)) v.2.1 y.Shape.To,.own (sOwn 2 (sInt .i64)) v.2.2.1 y.Shape.Identity,.own (sOwn 24 (sOwn 2 (sInt .i64))) v.2.2.2.1 y.Shape.Composites,.own (sOwn 2 (sInt .i64)) v.2.2.2.2.1 y.Sizes,.own (sOwn 24 (sOwn 2 (sInt .i64))) v.2.2.2.2.2 y.Actions]):=by
 refine ct (S:=Unit) (owt fun _ _=>rfl) Tryz.func39 rfl rfl ?_
 repeat' first
  | intro _
  | exact rfl
  | apply Dk.ixk (d:=51)
  | apply Dk.AD.ixk (d:=51)
  | apply Dk.apR (d:=59)
  | apply Dk.ixH (d:=60)
  | apply Dk.stR (e:=25) (t:=25)
  | (refine @id.{0} _ ?_; constructor)
  | apply Dk.loopA 0 (V:=Unit) (A:=Value) _ (fun a (s:Int×(List (List (List Int)))) v=>[.own (sOwn 25 (sOwn 24 (sOwn 2 (sInt .i64)))) a s.2]) (fun a s v=>[(5,a),(6,.int .i64 (s.1))]) () [(1,_),(2,_),(4,_)]
  | apply Dk.loopA 2 (V:=Unit) (A:=Value) _ (fun a (s:Int×(List (List (List Int)))) v=>[.own (sOwn 25 (sOwn 24 (sOwn 2 (sInt .i64)))) a s.2]) (fun a s v=>[(5,a),(7,.int .i64 (s.1))]) () [(1,_),(2,_),(4,_),(6,_)]
  | apply Dk.loopA 4 (V:=Value) (A:=Nat×Value×Value×Value×Value×Value×Value) (_,_,_,_,_,_,_) (fun a (s:Int×(List Int)) v=>Dk.pc (fun a0=>Dk.pc (fun a1=>Dk.pc (fun a2=>Dk.pc (fun a3=>Dk.pc (fun a4=>Dk.pc (fun a5 a6=>[.row a0 [a1,a2,a3,a4,a5,v,a6] 29,.own (sOwn 2 (sInt .i64)) v s.2])))))) a) (fun a s v=>Dk.pc (fun a0=>Dk.pc (fun a1=>Dk.pc (fun a2=>Dk.pc (fun a3=>Dk.pc (fun a4=>Dk.pc (fun a5 a6=>[(8,.pointer (some ⟨a0,0,none⟩)),(9,.int .i64 (s.1))])))))) a) _ [(2,_),(4,_),(5,_)]
  | apply Dk.loopA 6 (V:=Value) (A:=Nat×Value×Value×Value×Value×Value×Value) (_,_,_,_,_,_,_) (fun a (s:Int×(List (List Int))) v=>Dk.pc (fun a0=>Dk.pc (fun a1=>Dk.pc (fun a2=>Dk.pc (fun a3=>Dk.pc (fun a4=>Dk.pc (fun a5 a6=>[.row a0 [a1,a2,a3,a4,a5,a6,v] 29,.own (sOwn 24 (sOwn 2 (sInt .i64))) v s.2])))))) a) (fun a s v=>Dk.pc (fun a0=>Dk.pc (fun a1=>Dk.pc (fun a2=>Dk.pc (fun a3=>Dk.pc (fun a4=>Dk.pc (fun a5 a6=>[(8,.pointer (some ⟨a0,0,none⟩)),(10,.int .i64 (s.1))])))))) a) _ [(2,_),(4,_),(5,_)]
  | apply Dk.loop 8 (V:=Value) (fun (s:(List Int)×Int) v=>[.own (sOwn 2 (sInt .i64)) v s.1]) (fun s v=>[(11,v),(14,.int .i64 (s.2))]) _ [(2,_),(4,_),(5,_),(8,_),(10,_),(12,_),(13,_)]
  | apply Dk.quiet (id:=8) (by kernel_rfl)
  | apply Dk.quiet (id:=19) (by kernel_rfl)
  | apply Dk.anyH (id:=9) [Dk.Ent.own (sOwn 25 (sOwn 24 (sOwn 2 (sInt .i64)))) _ _] 19 [] [[],[],[],[],[],[],[],[],[],[],[],[],[],[],[],[],[],[],[21,16]] [[],[],[1],[],[2,1,3],[4,2,1,3],[],[],[7],[],[8,7,9],[10,8,7,9],[6,11,10,8,7,9],[12,6,11,10,8,7,9],[],[],[14,15],[16,14,15],[13,12,6,11,10,8,7,9,17,16,14,15]] (by kernel_rfl)
  | apply Dk.any (id:=14) 8 [] [] [[],[0],[],[],[2,3],[4,2,3],[5,4,2,3],[6,5,4,2,3]] (by kernel_rfl)
  | apply Dk.any (id:=23) 20 [] [] [[],[],[],[],[2,3],[4,2,3],[5,4,2,3],[6,5,4,2,3],[],[],[],[9,10],[11,9,10],[12,11,9,10],[13,12,11,9,10],[],[8,14,13,12,11,9,10,15],[7,6,5,4,2,3,16,8,14,13,12,11,9,10,15],[1,17,7,6,5,4,2,3,16,8,14,13,12,11,9,10,15,16,8,14,13,12,11,9,10,15],[18,1,17,7,6,5,4,2,3,16,8,14,13,12,11,9,10,15,16,8,14,13,12,11,9,10,15]] (by kernel_rfl)
  | apply c65
  | apply c67
  | apply c66
  | exact ()
theorem c68 {x0:Int} {x1:(List (List Int))} {v_x1:Value}:Ct Tryz.prog 68 true (spec_l01Join x0 x1) [.int .i64 (x0),v_x1] [.rd false (sImm (sImm (sInt .i64))) v_x1 x1] (fun y (v:Value)=>[v]) (fun y v=>[.own (sOwn 2 (sInt .i64)) v y]):=by
 refine ct (S:=Unit) (owt fun _ _=>rfl) Tryz.func68 rfl rfl ?_
 repeat' first
  | intro _
  | exact rfl
  | (refine @id.{0} _ ?_; constructor)
  | apply Dk.loop 0 (V:=Value) (fun (s:(List Int)×Int) v=>[.own (sOwn 2 (sInt .i64)) v s.1]) (fun s v=>[(5,v),(6,.int .i64 (s.2))]) _ [(0,_),(1,_)]
  | apply Dk.loopA 2 (V:=Unit) (A:=Value) _ (fun a (s:Int×(List Int)) v=>[.own (sOwn 2 (sInt .i64)) a s.2]) (fun a s v=>[(5,a),(7,.int .i64 (s.1))]) () [(1,_)]
  | apply Dk.loopA 4 (V:=Unit) (A:=Value) _ (fun a (s:Int×(List Int)) v=>[.own (sOwn 2 (sInt .i64)) a s.2]) (fun a s v=>[(5,a),(10,.int .i64 (s.1))]) () [(1,_),(7,_),(8,_),(9,_)]
  | apply Dk.quiet (id:=9) (by kernel_rfl)
  | apply c85
  | exact ()
theorem c40 {x0:MSetFunctor} {v_x0_Shape_From:Value} {v_x0_Shape_To:Value} {v_x0_Shape_Identity:Value} {v_x0_Shape_Composites:Value} {v_x0_Sizes:Value} {v_x0_Actions:Value} {x1:(List (List (List Int)))} {v_x1:Value}:Ct Tryz.prog 40 true (spec_l19Glue x0 x1) [.agg #[.int .i64 (x0.Shape.Objects),v_x0_Shape_From,v_x0_Shape_To,v_x0_Shape_Identity,v_x0_Shape_Composites,v_x0_Sizes,v_x0_Actions],v_x1] [.rd false (sImm (sInt .i64)) v_x0_Shape_From x0.Shape.From,.rd false (sImm (sInt .i64)) v_x0_Shape_To x0.Shape.To,.rd false (sImm (sInt .i64)) v_x0_Shape_Identity x0.Shape.Identity,.rd false (sImm (sImm (sInt .i64))) v_x0_Shape_Composites x0.Shape.Composites,.rd false (sImm (sInt .i64)) v_x0_Sizes x0.Sizes,.rd false (sImm (sImm (sInt .i64))) v_x0_Actions x0.Actions,.rd false (sImm (sImm (sImm (sInt .i64)))) v_x1 x1] (fun y (v:Value×Value×Value×Value×Value×Value)=>[.agg #[.int .i64 y.Shape.Objects,v.1,v.2.1,v.2.2.1,v.2.2.2.1,v.2.2.2.2.1,v.2.2.2.2.2]]) (fun y v=>[.own (sOwn 2 (sInt .i64)) v.1 y.Shape.From,.own (sOwn 2 (sInt .i64)) v.2.1 y.Shape.To,.own (sOwn 2 (sInt .i64)) v.2.2.1 y.Shape.Identity,.own (sOwn 24 (sOwn 2 (sInt .i64))) v.2.2.2.1 y.Shape.Composites,.own (sOwn 2 (sInt .i64)) v.2.2.2.2.1 y.Sizes,.own (sOwn 24 (sOwn 2 (sInt .i64))) v.2.2.2.2.2 y.Actions]):=by
 refine ct (S:=Unit) (owt fun _ _=>rfl) Tryz.func40 rfl rfl ?_
 repeat' first
  | intro _
  | exact rfl
  | apply Dk.litO (d:=141)
  | (refine @id.{0} _ ?_; constructor)
  | apply Dk.loop 0 (V:=Value) (fun (s:(List (List Int))×Int) v=>[.own (sOwn 24 (sOwn 2 (sInt .i64))) v s.1]) (fun s v=>[(5,v),(6,.int .i64 (s.2))]) _ [(1,_),(2,_),(4,_)]
  | apply Dk.loopA 2 (V:=Unit) (A:=Value) _ (fun a (s:Bool×(List (List Int))) v=>[.own (sOwn 24 (sOwn 2 (sInt .i64))) a s.2]) (fun a s v=>[(5,a),(7,.bool (s.1))]) () [(2,_),(4,_)]
  | apply Dk.loopA 4 (V:=Unit) (A:=Value) _ (fun a (s:Bool×Int×(List (List Int))) v=>[.own (sOwn 24 (sOwn 2 (sInt .i64))) a s.2.2]) (fun a s v=>[(5,a),(7,.bool (s.1)),(8,.int .i64 (s.2.1))]) () [(2,_),(4,_)]
  | apply Dk.loopA 6 (V:=Unit) (A:=Value) _ (fun a (s:Bool×Int×(List (List Int))) v=>[.own (sOwn 24 (sOwn 2 (sInt .i64))) a s.2.2]) (fun a s v=>[(5,a),(7,.bool (s.1)),(11,.int .i64 (s.2.1))]) () [(2,_),(4,_),(8,_),(9,_),(10,_)]
  | apply Dk.loopA 8 (V:=Unit) (A:=Value) _ (fun a (s:Bool×Int×(List (List Int))) v=>[.own (sOwn 24 (sOwn 2 (sInt .i64))) a s.2.2]) (fun a s v=>[(5,a),(7,.bool (s.1)),(12,.int .i64 (s.2.1))]) () [(2,_),(4,_),(8,_),(9,_),(10,_),(11,_)]
  | apply Dk.loopA 10 (V:=Value) (A:=Nat×Value×Value×Value×Value×Value×Value) (_,_,_,_,_,_,_) (fun a (s:Int×(List Int)) v=>Dk.pc (fun a0=>Dk.pc (fun a1=>Dk.pc (fun a2=>Dk.pc (fun a3=>Dk.pc (fun a4=>Dk.pc (fun a5 a6=>[.row a0 [a1,a2,a3,a4,a5,v,a6] 29,.own (sOwn 2 (sInt .i64)) v s.2])))))) a) (fun a s v=>Dk.pc (fun a0=>Dk.pc (fun a1=>Dk.pc (fun a2=>Dk.pc (fun a3=>Dk.pc (fun a4=>Dk.pc (fun a5 a6=>[(15,.pointer (some ⟨a0,0,none⟩)),(16,.int .i64 (s.1))])))))) a) _ [(2,_),(4,_),(5,_)]
  | apply Dk.loop 12 (V:=Unit) (fun (s:Int×Int) v=>[]) (fun s v=>[(17,.int .i64 (s.1)),(18,.int .i64 (s.2))]) () [(2,_),(4,_),(5,_),(15,_),(16,_)]
  | apply Dk.loopA 14 (V:=Value) (A:=Nat×Value×Value×Value×Value×Value×Value) (_,_,_,_,_,_,_) (fun a (s:Int×(List (List Int))) v=>Dk.pc (fun a0=>Dk.pc (fun a1=>Dk.pc (fun a2=>Dk.pc (fun a3=>Dk.pc (fun a4=>Dk.pc (fun a5 a6=>[.row a0 [a1,a2,a3,a4,a5,a6,v] 29,.own (sOwn 24 (sOwn 2 (sInt .i64))) v s.2])))))) a) (fun a s v=>Dk.pc (fun a0=>Dk.pc (fun a1=>Dk.pc (fun a2=>Dk.pc (fun a3=>Dk.pc (fun a4=>Dk.pc (fun a5 a6=>[(15,.pointer (some ⟨a0,0,none⟩)),(19,.int .i64 (s.1))])))))) a) _ [(2,_),(4,_),(5,_)]
  | apply Dk.loopA 16 (V:=Unit) (A:=Value) _ (fun a (s:Int×(List Int)) v=>[.own (sOwn 2 (sInt .i64)) a s.2]) (fun a s v=>[(22,a),(23,.int .i64 (s.1))]) () [(2,_),(4,_),(5,_),(15,_),(19,_),(20,_),(21,_)]
  | apply Dk.quiet (id:=12) (by kernel_rfl)
  | apply Dk.quiet (id:=19) (by kernel_rfl)
  | apply Dk.quiet (id:=20) (by kernel_rfl)
  | apply Dk.quiet (id:=36) (by kernel_rfl)
  | apply Dk.any (id:=5) 12 [] [] [[],[],[1],[],[2,1,3],[4,2,1,3],[],[],[6,7],[8,6,7],[5,4,2,1,3,9,8,6,7],[10,5,4,2,1,3,9,8,6,7]] (by kernel_rfl)
  | apply Dk.any (id:=21) 17 [0,1] [[],[],[],[],[],[],[],[],[],[],[],[],[],[],[],[],[11,14]] [[],[],[],[2],[],[3,2,4],[5,3,2,4],[],[],[7,8],[9,7,8],[10,9,7,8],[],[],[12,13],[14,12,13],[11,10,9,7,8,15,14,12,13,11,10,9,7,8]] (by kernel_rfl)
  | apply Dk.any (id:=41) 22 [] [] [[],[],[],[1,2],[3,1,2],[],[4,3,1,2,5],[6,4,3,1,2,5],[],[],[8,9],[10,8,9],[],[12],[],[13,12,14],[15,13,12,14],[],[16,15,13,12,14,17],[18,16,15,13,12,14,17],[11,10,8,9,19,18,16,15,13,12,14,17],[20,11,10,8,9,19,18,16,15,13,12,14,17]] (by kernel_rfl)
  | apply c68
  | apply c69
  | apply c65
  | exact ()
theorem c41 {x0:MCategory} {v_x0_From:Value} {v_x0_To:Value} {v_x0_Identity:Value} {v_x0_Composites:Value} {x1:Int}:Ct Tryz.prog 41 true (spec_l19Constant x0 x1) [.agg #[.int .i64 (x0.Objects),v_x0_From,v_x0_To,v_x0_Identity,v_x0_Composites],.int .i64 (x1)] [.rd false (sImm (sInt .i64)) v_x0_From x0.From,.rd false (sImm (sInt .i64)) v_x0_To x0.To,.rd false (sImm (sInt .i64)) v_x0_Identity x0.Identity,.rd false (sImm (sImm (sInt .i64))) v_x0_Composites x0.Composites] (fun y (v:Value×Value×Value×Value×Value×Value)=>[.agg #[.int .i64 y.Shape.Objects,v.1,v.2.1,v.2.2.1,v.2.2.2.1,v.2.2.2.2.1,v.2.2.2.2.2]]) (fun y v=>[.own (sOwn 2 (sInt .i64)) v.1 y.Shape.From,.own (sOwn 2 (sInt .i64)) v.2.1 y.Shape.To,.own (sOwn 2 (sInt .i64)) v.2.2.1 y.Shape.Identity,.own (sOwn 24 (sOwn 2 (sInt .i64))) v.2.2.2.1 y.Shape.Composites,.own (sOwn 2 (sInt .i64)) v.2.2.2.2.1 y.Sizes,.own (sOwn 24 (sOwn 2 (sInt .i64))) v.2.2.2.2.2 y.Actions]):=by
 refine ct (S:=Unit) (owt fun _ _=>rfl) Tryz.func41 rfl rfl ?_
 repeat' first
  | intro _
  | exact rfl
  | (refine @id.{0} _ ?_; constructor)
  | apply Dk.loopA 0 (V:=Value) (A:=Nat×Value×Value×Value×Value×Value×Value) (_,_,_,_,_,_,_) (fun a (s:Int×(List Int)) v=>Dk.pc (fun a0=>Dk.pc (fun a1=>Dk.pc (fun a2=>Dk.pc (fun a3=>Dk.pc (fun a4=>Dk.pc (fun a5 a6=>[.row a0 [a1,a2,a3,a4,a5,v,a6] 29,.own (sOwn 2 (sInt .i64)) v s.2])))))) a) (fun a s v=>Dk.pc (fun a0=>Dk.pc (fun a1=>Dk.pc (fun a2=>Dk.pc (fun a3=>Dk.pc (fun a4=>Dk.pc (fun a5 a6=>[(5,.pointer (some ⟨a0,0,none⟩)),(6,.int .i64 (s.1))])))))) a) _ [(1,_),(2,_),(4,_)]
  | apply Dk.loopA 2 (V:=Value) (A:=Nat×Value×Value×Value×Value×Value×Value) (_,_,_,_,_,_,_) (fun a (s:Int×(List (List Int))) v=>Dk.pc (fun a0=>Dk.pc (fun a1=>Dk.pc (fun a2=>Dk.pc (fun a3=>Dk.pc (fun a4=>Dk.pc (fun a5 a6=>[.row a0 [a1,a2,a3,a4,a5,a6,v] 29,.own (sOwn 24 (sOwn 2 (sInt .i64))) v s.2])))))) a) (fun a s v=>Dk.pc (fun a0=>Dk.pc (fun a1=>Dk.pc (fun a2=>Dk.pc (fun a3=>Dk.pc (fun a4=>Dk.pc (fun a5 a6=>[(5,.pointer (some ⟨a0,0,none⟩)),(7,.int .i64 (s.1))])))))) a) _ [(1,_),(2,_),(4,_)]
  | apply Dk.loop 4 (V:=Value) (fun (s:(List Int)×Int) v=>[.own (sOwn 2 (sInt .i64)) v s.1]) (fun s v=>[(8,v),(9,.int .i64 (s.2))]) _ [(1,_),(2,_),(4,_),(5,_),(7,_)]
  | apply c65
  | exact ()
theorem c44 {x0:MSetFunctor} {v_x0_Shape_From:Value} {v_x0_Shape_To:Value} {v_x0_Shape_Identity:Value} {v_x0_Shape_Composites:Value} {v_x0_Sizes:Value} {v_x0_Actions:Value}:Ct Tryz.prog 44 true (spec_l19Own x0) [.agg #[.int .i64 (x0.Shape.Objects),v_x0_Shape_From,v_x0_Shape_To,v_x0_Shape_Identity,v_x0_Shape_Composites,v_x0_Sizes,v_x0_Actions]] [.rd false (sImm (sInt .i64)) v_x0_Shape_From x0.Shape.From,.rd false (sImm (sInt .i64)) v_x0_Shape_To x0.Shape.To,.rd false (sImm (sInt .i64)) v_x0_Shape_Identity x0.Shape.Identity,.rd false (sImm (sImm (sInt .i64))) v_x0_Shape_Composites x0.Shape.Composites,.rd false (sImm (sInt .i64)) v_x0_Sizes x0.Sizes,.rd false (sImm (sImm (sInt .i64))) v_x0_Actions x0.Actions] (fun y (v:Value×Value×Value×Value×Value×Value)=>[.agg #[.int .i64 y.Shape.Objects,v.1,v.2.1,v.2.2.1,v.2.2.2.1,v.2.2.2.2.1,v.2.2.2.2.2]]) (fun y v=>[.own (sOwn 2 (sInt .i64)) v.1 y.Shape.From,.own (sOwn 2 (sInt .i64)) v.2.1 y.Shape.To,.own (sOwn 2 (sInt .i64)) v.2.2.1 y.Shape.Identity,.own (sOwn 24 (sOwn 2 (sInt .i64))) v.2.2.2.1 y.Shape.Composites,.own (sOwn 2 (sInt .i64)) v.2.2.2.2.1 y.Sizes,.own (sOwn 24 (sOwn 2 (sInt .i64))) v.2.2.2.2.2 y.Actions]):=by
 refine ct (S:=Unit) (owt fun _ _=>rfl) Tryz.func44 rfl rfl ?_
 repeat' first
  | intro _
  | exact rfl
  | (refine @id.{0} _ ?_; constructor)
  | apply Dk.any (id:=1) 8 [] [] [[],[0],[1,0],[],[3],[4,3,2,1,0],[],[6]] (by kernel_rfl)
  | apply c65
  | apply c63
  | apply c36
  | exact ()
end Go.Proofs.YtjfahghkjblgjaaGreat
