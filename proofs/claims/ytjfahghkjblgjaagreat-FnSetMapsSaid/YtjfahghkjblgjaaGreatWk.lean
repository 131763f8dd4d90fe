/- Walks by the calculus D. No condition beside those that each theorem names. -/
import Derived.Test.YtjfahghkjblgjaaGreatDi
import Derived.Test.YtjfahghkjblgjaaGreatMo
import Derived.Test.YtjfahghkjblgjaaGreatDg
import Derived.Test.YtjfahghkjblgjaaGreatDs
import Derived.Test.YtjfahghkjblgjaaGreatWa
import Derived.Test.YtjfahghkjblgjaaGreatWb
import Derived.Test.YtjfahghkjblgjaaGreatWc
import Derived.Test.YtjfahghkjblgjaaGreatWe
import Derived.Test.YtjfahghkjblgjaaGreatWf
import Derived.Test.YtjfahghkjblgjaaGreatWg
import Derived.Test.YtjfahghkjblgjaaGreatWh
namespace Go.Proofs.YtjfahghkjblgjaaGreat
open Go Go.Li Go.Dk
set_option linter.unusedVariables false
set_option maxHeartbeats 16000000
set_option maxRecDepth 100000
theorem c110 {x0:MCategory} {v_x0_From:Value} {v_x0_To:Value} {v_x0_Identity:Value} {v_x0_Composites:Value} {x1:MCategory} {v_x1_From:Value} {v_x1_To:Value} {v_x1_Identity:Value} {v_x1_Composites:Value}:Ct Tryz.prog 110 true (spec_l03Join x0 x1) [.agg #[.int .i64 (x0.Objects),v_x0_From,v_x0_To,v_x0_Identity,v_x0_Composites],.agg #[.int .i64 (x1.Objects),v_x1_From,v_x1_To,v_x1_Identity,v_x1_Composites]] [.rd false (sImm (sInt .i64)) v_x0_From x0.From,.rd false (sImm (sInt .i64)) v_x0_To x0.To,.rd false (sImm (sInt .i64)) v_x0_Identity x0.Identity,.rd false (sImm (sImm (sInt .i64))) v_x0_Composites x0.Composites,.rd false (sImm (sInt .i64)) v_x1_From x1.From,.rd false (sImm (sInt .i64)) v_x1_To x1.To,.rd false (sImm (sInt .i64)) v_x1_Identity x1.Identity,.rd false (sImm (sImm (sInt .i64))) v_x1_Composites x1.Composites] (fun y (v:Value×Value×Value×Value)=>match v with | (q0,q1,q2,q3)=>[.agg #[.int .i64 y.Objects,q0,q1,q2,q3]]) (fun y v=>match v with | (q0,q1,q2,q3)=>[.own (sOwn 2 (sInt .i64)) q0 y.From,.own (sOwn 2 (sInt .i64)) q1 y.To,.own (sOwn 2 (sInt .i64)) q2 y.Identity,.own (sOwn 24 (sOwn 2 (sInt .i64))) q3 y.Composites]):=by
 refine ct (S:=Unit) (owt fun _ _=>rfl) Tryz.func110 rfl rfl ?_
 repeat' first
  | intro _
  | exact rfl
  | (refine Dk.cdR (t:=60) rfl ?_ ?_)
  | (refine @id.{0} _ ?_; constructor)
  | apply Dk.loopA 0 (V:=Value×Value) (A:=Nat×Value×Value×Value) (_,_,_,_) (fun a (s:Int×(List Int)×(List Int)) v=>Dk.pc (fun a0=>Dk.pc (fun a1=>Dk.pc (fun a2 a3=>[.row a0 [a1,v.1,v.2,a2,a3] 27,.own (sOwn 2 (sInt .i64)) v.1 s.2.1,.own (sOwn 2 (sInt .i64)) v.2 s.2.2]))) a) (fun a s v=>Dk.pc (fun a0=>Dk.pc (fun a1=>Dk.pc (fun a2 a3=>[(5,.pointer (some ⟨a0,0,none⟩)),(7,.int .i64 (s.1))]))) a) (_,_) [(2,_),(3,_),(4,_),(6,_)]
  | apply Dk.loopA 2 (V:=Value×Value) (A:=Nat×Value×Value×Value) (_,_,_,_) (fun a (s:Int×(List Int)×(List Int)) v=>Dk.pc (fun a0=>Dk.pc (fun a1=>Dk.pc (fun a2 a3=>[.row a0 [a1,v.1,v.2,a2,a3] 27,.own (sOwn 2 (sInt .i64)) v.1 s.2.1,.own (sOwn 2 (sInt .i64)) v.2 s.2.2]))) a) (fun a s v=>Dk.pc (fun a0=>Dk.pc (fun a1=>Dk.pc (fun a2 a3=>[(5,.pointer (some ⟨a0,0,none⟩)),(8,.int .i64 (s.1))]))) a) (_,_) [(2,_),(3,_),(4,_),(6,_),(7,_)]
  | apply Dk.loop 4 (V:=Value) (fun (s:(List (List Int))×Int) v=>[.own (sOwn 24 (sOwn 2 (sInt .i64))) v s.1]) (fun s v=>[(9,v),(10,.int .i64 (s.2))]) _ [(2,_),(3,_),(4,_),(5,_),(6,_)]
  | apply Dk.loop 6 (V:=Value) (fun (s:(List Int)×Int) v=>[.own (sOwn 2 (sInt .i64)) v s.1]) (fun s v=>[(11,v),(12,.int .i64 (s.2))]) _ [(2,_),(3,_),(4,_),(5,_),(6,_),(9,_),(10,_)]
  | apply Dk.quiet (id:=20) (by kernel_rfl)
  | apply Dk.quiet (id:=21) (by kernel_rfl)
  | apply c99
  | exact ()
theorem c98 {x0:ML01Source} {b_x0:Nat} {v_x0_Code:Value}:Ct Tryz.prog 98 true (spec_l02Family x0) [.pointer (some (⟨b_x0,0,none⟩))] [.row b_x0 [v_x0_Code,.int .i64 (x0.At),.int .u64 (x0.Hash)] 65,.rd false (sImm (sInt .u8)) v_x0_Code x0.Code] (fun y (v:Value×Value×Value×Value)=>[.agg #[.int .i64 y.1.Objects,v.1,v.2.1,v.2.2.1,v.2.2.2]]) (fun y v=>[.own (sOwn 2 (sInt .i64)) v.1 y.1.From,.own (sOwn 2 (sInt .i64)) v.2.1 y.1.To,.own (sOwn 2 (sInt .i64)) v.2.2.1 y.1.Identity,.own (sOwn 24 (sOwn 2 (sInt .i64))) v.2.2.2 y.1.Composites,.row b_x0 [v_x0_Code,.int .i64 y.2.At,.int .u64 y.2.Hash] 65]):=by
 refine ct (S:=Unit) (owt fun _ _=>rfl) Tryz.func98 rfl rfl ?_
 repeat' first
  | intro _
  | exact rfl
  | (refine Dk.cdR (t:=59) rfl ?_ ?_)
  | (refine @id.{0} _ ?_; constructor)
  | apply Dk.loop 1 (V:=Value) (fun (s:(List (List Int))×Int) v=>[.own (sOwn 24 (sOwn 2 (sInt .i64))) v s.1]) (fun s v=>[(4,v),(5,.int .i64 (s.2))]) _ [(2,_),(3,_)]
  | apply Dk.loop 3 (V:=Value) (fun (s:(List Int)×Int) v=>[.own (sOwn 2 (sInt .i64)) v s.1]) (fun s v=>[(6,v),(7,.int .i64 (s.2))]) _ [(2,_),(3,_),(4,_),(5,_)]
  | apply Dk.loop 5 (V:=Value×Value) (fun (s:(List Int)×(List Int)×Int×Int×Int) v=>[.row b_x0 [v_x0_Code,.int .i64 (s.2.2.2.1),.int .u64 (s.2.2.2.2)] 65,.own (sOwn 2 (sInt .i64)) v.1 s.1,.own (sOwn 2 (sInt .i64)) v.2 s.2.1]) (fun s v=>[(9,v.1),(10,v.2),(11,.int .i64 (s.2.2.1))]) (_,_) [(0,_),(2,_),(8,_)]
  | apply c15
  | apply c104
  | apply c102
  | apply c105
  | apply c107
  | apply c106
  | apply c108
  | apply c110
  | apply c109
  | exact ()
theorem c90 {x0:ML01Source} {b_x0:Nat} {v_x0_Code:Value} {x1:Int} {x2:Int}:Ct Tryz.prog 90 true (spec_l02Some x0 x1 x2) [.pointer (some (⟨b_x0,0,none⟩)),.int .i64 (x1),.int .i64 (x2)] [.row b_x0 [v_x0_Code,.int .i64 (x0.At),.int .u64 (x0.Hash)] 65,.rd false (sImm (sInt .u8)) v_x0_Code x0.Code] (fun y (v:Value×Value×Value×Value)=>[.agg #[.int .i64 y.1.Objects,v.1,v.2.1,v.2.2.1,v.2.2.2]]) (fun y v=>[.own (sOwn 2 (sInt .i64)) v.1 y.1.From,.own (sOwn 2 (sInt .i64)) v.2.1 y.1.To,.own (sOwn 2 (sInt .i64)) v.2.2.1 y.1.Identity,.own (sOwn 24 (sOwn 2 (sInt .i64))) v.2.2.2 y.1.Composites,.row b_x0 [v_x0_Code,.int .i64 y.2.At,.int .u64 y.2.Hash] 65]):=by
 refine ct (S:=Unit) (owt fun _ _=>rfl) Tryz.func90 rfl rfl ?_
 repeat' first
  | intro _
  | exact rfl
  | (refine @id.{0} _ ?_; constructor)
  | apply Dk.loop 0 (V:=Unit) (fun (s:Int×Int×Int) v=>[.row b_x0 [v_x0_Code,.int .i64 (s.2.1),.int .u64 (s.2.2)] 65]) (fun s v=>[(7,.int .i64 (s.1))]) () [(0,_),(1,_),(2,_),(6,_)]
  | apply Dk.anyH (id:=6) [Dk.Ent.row _ _ 65] 3 [] [[],[],[5]] [[],[],[1]] (by kernel_rfl)
  | apply Dk.anyH (id:=8) [Dk.Ent.row _ _ 65] 3 [] [[],[],[5]] [[],[],[1]] (by kernel_rfl)
  | apply c98
  | apply c15
  | apply c99
  | apply c100
  | apply c101
  | apply c102
  | exact ()
theorem c80 {x0:ML01Source} {b_x0:Nat} {v_x0_Code:Value} {x1:Int} {x2:Int}:Ct Tryz.prog 80 false (spec_l02Draw x0 x1 x2) [.pointer (some (⟨b_x0,0,none⟩)),.int .i64 (x1),.int .i64 (x2)] [.row b_x0 [v_x0_Code,.int .i64 (x0.At),.int .u64 (x0.Hash)] 65,.rd false (sImm (sInt .u8)) v_x0_Code x0.Code] (fun y (v:Value×Value×Value×Value)=>[.agg #[.int .i64 y.1.Objects,v.1,v.2.1,v.2.2.1,v.2.2.2]]) (fun y v=>[.rd false (sImm (sInt .i64)) v.1 y.1.From,.rd false (sImm (sInt .i64)) v.2.1 y.1.To,.rd false (sImm (sInt .i64)) v.2.2.1 y.1.Identity,.rd false (sImm (sImm (sInt .i64))) v.2.2.2 y.1.Composites,.row b_x0 [v_x0_Code,.int .i64 y.2.At,.int .u64 y.2.Hash] 65]):=by
 refine ct (S:=Unit) owf Tryz.func80 rfl rfl ?_
 repeat' first
  | intro _
  | exact rfl
  | (refine @id.{0} _ ?_; constructor)
  | apply c90
  | apply c15
  | apply c91
  | exact ()
theorem c60 {x0:ML01Source} {b_x0:Nat} {v_x0_Code:Value}:Ct Tryz.prog 60 false (spec_l19Base x0) [.pointer (some (⟨b_x0,0,none⟩))] [.row b_x0 [v_x0_Code,.int .i64 (x0.At),.int .u64 (x0.Hash)] 65,.rd false (sImm (sInt .u8)) v_x0_Code x0.Code] (fun y (v:Value×Value×Value×Value)=>[.agg #[.int .i64 y.1.Objects,v.1,v.2.1,v.2.2.1,v.2.2.2]]) (fun y v=>[.rd false (sImm (sInt .i64)) v.1 y.1.From,.rd false (sImm (sInt .i64)) v.2.1 y.1.To,.rd false (sImm (sInt .i64)) v.2.2.1 y.1.Identity,.rd false (sImm (sImm (sInt .i64))) v.2.2.2 y.1.Composites,.row b_x0 [v_x0_Code,.int .i64 y.2.At,.int .u64 y.2.Hash] 65]):=by
 refine ct (S:=Unit) owf Tryz.func60 rfl rfl ?_
 repeat' first
  | intro _
  | exact rfl
  | (refine @id.{0} _ ?_; constructor)
  | apply c15
  | apply c80
  | exact ()
theorem c8 {x0:MSetMap} {v_x0_Source_Shape_From:Value} {v_x0_Source_Shape_To:Value} {v_x0_Source_Shape_Identity:Value} {v_x0_Source_Shape_Composites:Value} {v_x0_Source_Sizes:Value} {v_x0_Source_Actions:Value} {v_x0_Target_Shape_From:Value} {v_x0_Target_Shape_To:Value} {v_x0_Target_Shape_Identity:Value} {v_x0_Target_Shape_Composites:Value} {v_x0_Target_Sizes:Value} {v_x0_Target_Actions:Value} {v_x0_Parts:Value} {x1:MSetMap} {v_x1_Source_Shape_From:Value} {v_x1_Source_Shape_To:Value} {v_x1_Source_Shape_Identity:Value} {v_x1_Source_Shape_Composites:Value} {v_x1_Source_Sizes:Value} {v_x1_Source_Actions:Value} {v_x1_Target_Shape_From:Value} {v_x1_Target_Shape_To:Value} {v_x1_Target_Shape_Identity:Value} {v_x1_Target_Shape_Composites:Value} {v_x1_Target_Sizes:Value} {v_x1_Target_Actions:Value} {v_x1_Parts:Value}:Ct Tryz.prog 8 true (laws_sameMap9 x0 x1) [.agg #[.int .i64 (x0.Source.Shape.Objects),v_x0_Source_Shape_From,v_x0_Source_Shape_To,v_x0_Source_Shape_Identity,v_x0_Source_Shape_Composites,v_x0_Source_Sizes,v_x0_Source_Actions,.int .i64 (x0.Target.Shape.Objects),v_x0_Target_Shape_From,v_x0_Target_Shape_To,v_x0_Target_Shape_Identity,v_x0_Target_Shape_Composites,v_x0_Target_Sizes,v_x0_Target_Actions,v_x0_Parts],.agg #[.int .i64 (x1.Source.Shape.Objects),v_x1_Source_Shape_From,v_x1_Source_Shape_To,v_x1_Source_Shape_Identity,v_x1_Source_Shape_Composites,v_x1_Source_Sizes,v_x1_Source_Actions,.int .i64 (x1.Target.Shape.Objects),v_x1_Target_Shape_From,v_x1_Target_Shape_To,v_x1_Target_Shape_Identity,v_x1_Target_Shape_Composites,v_x1_Target_Sizes,v_x1_Target_Actions,v_x1_Parts]] [.rd false (sImm (sInt .i64)) v_x0_Source_Shape_From x0.Source.Shape.From,.rd false (sImm (sInt .i64)) v_x0_Source_Shape_To x0.Source.Shape.To,.rd false (sImm (sInt .i64)) v_x0_Source_Shape_Identity x0.Source.Shape.Identity,.rd false (sImm (sImm (sInt .i64))) v_x0_Source_Shape_Composites x0.Source.Shape.Composites,.rd false (sImm (sInt .i64)) v_x0_Source_Sizes x0.Source.Sizes,.rd false (sImm (sImm (sInt .i64))) v_x0_Source_Actions x0.Source.Actions,.rd false (sImm (sInt .i64)) v_x0_Target_Shape_From x0.Target.Shape.From,.rd false (sImm (sInt .i64)) v_x0_Target_Shape_To x0.Target.Shape.To,.rd false (sImm (sInt .i64)) v_x0_Target_Shape_Identity x0.Target.Shape.Identity,.rd false (sImm (sImm (sInt .i64))) v_x0_Target_Shape_Composites x0.Target.Shape.Composites,.rd false (sImm (sInt .i64)) v_x0_Target_Sizes x0.Target.Sizes,.rd false (sImm (sImm (sInt .i64))) v_x0_Target_Actions x0.Target.Actions,.rd false (sImm (sImm (sInt .i64))) v_x0_Parts x0.Parts,.rd false (sImm (sInt .i64)) v_x1_Source_Shape_From x1.Source.Shape.From,.rd false (sImm (sInt .i64)) v_x1_Source_Shape_To x1.Source.Shape.To,.rd false (sImm (sInt .i64)) v_x1_Source_Shape_Identity x1.Source.Shape.Identity,.rd false (sImm (sImm (sInt .i64))) v_x1_Source_Shape_Composites x1.Source.Shape.Composites,.rd false (sImm (sInt .i64)) v_x1_Source_Sizes x1.Source.Sizes,.rd false (sImm (sImm (sInt .i64))) v_x1_Source_Actions x1.Source.Actions,.rd false (sImm (sInt .i64)) v_x1_Target_Shape_From x1.Target.Shape.From,.rd false (sImm (sInt .i64)) v_x1_Target_Shape_To x1.Target.Shape.To,.rd false (sImm (sInt .i64)) v_x1_Target_Shape_Identity x1.Target.Shape.Identity,.rd false (sImm (sImm (sInt .i64))) v_x1_Target_Shape_Composites x1.Target.Shape.Composites,.rd false (sImm (sInt .i64)) v_x1_Target_Sizes x1.Target.Sizes,.rd false (sImm (sImm (sInt .i64))) v_x1_Target_Actions x1.Target.Actions,.rd false (sImm (sImm (sInt .i64))) v_x1_Parts x1.Parts] (fun y (_:Unit)=>[.bool y]) (fun y _=>[]):=by
 refine ct (S:=Unit) (owt fun _ _=>rfl) Tryz.func8 rfl rfl ?_
 repeat' first
  | intro _
  | exact rfl
  | (refine @id.{0} _ ?_; constructor)
  | apply c27
  | apply c28
  | exact ()
end Go.Proofs.YtjfahghkjblgjaaGreat
