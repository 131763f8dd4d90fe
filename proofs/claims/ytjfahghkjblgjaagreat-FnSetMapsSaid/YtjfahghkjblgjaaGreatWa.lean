/- Walks by the calculus D. No condition beside those that each theorem names. -/
import Derived.Test.YtjfahghkjblgjaaGreatDi
import Derived.Test.YtjfahghkjblgjaaGreatMo
import Derived.Test.YtjfahghkjblgjaaGreatDg
import Derived.Test.YtjfahghkjblgjaaGreatDs
namespace Go.Proofs.YtjfahghkjblgjaaGreat
open Go Go.Li Go.Dk
set_option linter.unusedVariables false
set_option maxHeartbeats 16000000
set_option maxRecDepth 100000
theorem c4 {x0:(List Int)} {v_x0:Value}:Ct Tryz.prog 4 true (laws_big x0) [v_x0] [.rd false (sImm (sInt .u8)) v_x0 x0] (fun y (_:Unit)=>[.bool y]) (fun y _=>[]):=by
 refine ct (S:=Unit) (owt fun _ _=>rfl) Tryz.func4 rfl rfl ?_
 repeat' first
  | intro _
  | exact rfl
  | (refine @id.{0} _ ?_; constructor)
  | exact ()
theorem c15 {x0:ML01Source} {b_x0:Nat} {v_x0_Code:Value} {x1:Int}:Ct Tryz.prog 15 true (spec_l01Next x0 x1) [.pointer (some (⟨b_x0,0,none⟩)),.int .i64 (x1)] [.row b_x0 [v_x0_Code,.int .i64 (x0.At),.int .u64 (x0.Hash)] 65,.rd false (sImm (sInt .u8)) v_x0_Code x0.Code] (fun y (_:Unit)=>[.int .i64 y.1]) (fun y _=>[.row b_x0 [v_x0_Code,.int .i64 y.2.At,.int .u64 y.2.Hash] 65]):=by
 refine ct (S:=Unit) (owt fun _ _=>rfl) Tryz.func15 rfl rfl ?_
 repeat' first
  | intro _
  | exact rfl
  | apply Dk.D.ari (d:=13)
  | apply Dk.AD.ari (d:=13)
  | apply Dk.D.ari (d:=14)
  | apply Dk.AD.ari (d:=14)
  | apply Dk.D.ari (d:=21)
  | apply Dk.AD.ari (d:=21)
  | apply Dk.D.ari (d:=22)
  | apply Dk.AD.ari (d:=22)
  | apply Dk.D.ari (d:=57)
  | apply Dk.AD.ari (d:=57)
  | (refine @id.{0} _ ?_; constructor)
  | apply Dk.quiet (id:=5) (by kernel_rfl)
  | apply Dk.quiet (id:=6) (by kernel_rfl)
  | exact ()
theorem c104 {x0:ML01Source} {b_x0:Nat} {v_x0_Code:Value} {x1:Int}:Ct Tryz.prog 104 true (spec_l02Relation x0 x1) [.pointer (some (⟨b_x0,0,none⟩)),.int .i64 (x1)] [.row b_x0 [v_x0_Code,.int .i64 (x0.At),.int .u64 (x0.Hash)] 65,.rd false (sImm (sInt .u8)) v_x0_Code x0.Code] (fun y (v:Value)=>[v]) (fun y v=>[.own (sOwn 24 (sOwn 2 (sInt .i64))) v y.1,.row b_x0 [v_x0_Code,.int .i64 y.2.At,.int .u64 y.2.Hash] 65]):=by
 refine ct (S:=Unit) (owt fun _ _=>rfl) Tryz.func104 rfl rfl ?_
 repeat' first
  | intro _
  | exact rfl
  | (refine Dk.rwU (t:=45) rfl ?_)
  | (refine Dk.cdR (t:=62) rfl ?_ ?_)
  | (refine Dk.cdR (t:=67) rfl ?_ ?_)
  | (refine @id.{0} _ ?_; constructor)
  | apply Dk.loop 0 (V:=Value) (fun (s:(List (List Int))×Int×Int×Int) v=>[.row b_x0 [v_x0_Code,.int .i64 (s.2.2.1),.int .u64 (s.2.2.2)] 65,.own (sOwn 24 (sOwn 2 (sInt .i64))) v s.1]) (fun s v=>[(5,v),(6,.int .i64 (s.2.1))]) _ [(0,_),(1,_)]
  | apply Dk.loopA 2 (V:=Unit) (A:=Value) _ (fun a (s:Int×Int×Int×(List Int)) v=>[.row b_x0 [v_x0_Code,.int .i64 (s.2.1),.int .u64 (s.2.2.1)] 65,.own (sOwn 2 (sInt .i64)) a s.2.2.2]) (fun a s v=>[(7,a),(8,.int .i64 (s.1))]) () [(0,_),(1,_),(5,_),(6,_)]
  | apply Dk.loopA 4 (V:=Unit) (A:=Value) _ (fun a (s:Int×(List (List Int))) v=>[.own (sOwn 24 (sOwn 2 (sInt .i64))) a s.2]) (fun a s v=>[(5,a),(9,.int .i64 (s.1))]) () [(1,_)]
  | apply Dk.loopA 6 (V:=Unit) (A:=Value) _ (fun a (s:Int×(List (List Int))) v=>[.own (sOwn 24 (sOwn 2 (sInt .i64))) a s.2]) (fun a s v=>[(5,a),(10,.int .i64 (s.1))]) () [(1,_),(9,_)]
  | apply Dk.loopA 8 (V:=Unit) (A:=Value) _ (fun a (s:Int×(List (List Int))) v=>[.own (sOwn 24 (sOwn 2 (sInt .i64))) a s.2]) (fun a s v=>[(5,a),(11,.int .i64 (s.1))]) () [(1,_),(9,_),(10,_)]
  | apply Dk.anyH (id:=13) [Dk.Ent.row _ _ 65] 8 [] [[],[],[],[],[],[],[],[10]] [[],[],[1],[0,2,1],[3,0,2,1],[],[],[5,6]] (by kernel_rfl)
  | apply c15
  | exact ()
theorem c102 {x0:(List (List Int))} {v_x0:Value}:Ct Tryz.prog 102 true (spec_l03Poset x0) [v_x0] [.rd false (sImm (sImm (sInt .i64))) v_x0 x0] (fun y (v:Value×Value×Value×Value)=>[.agg #[.int .i64 y.Objects,v.1,v.2.1,v.2.2.1,v.2.2.2]]) (fun y v=>[.own (sOwn 2 (sInt .i64)) v.1 y.From,.own (sOwn 2 (sInt .i64)) v.2.1 y.To,.own (sOwn 2 (sInt .i64)) v.2.2.1 y.Identity,.own (sOwn 24 (sOwn 2 (sInt .i64))) v.2.2.2 y.Composites]):=by
 refine ct (S:=Unit) (owt fun _ _=>rfl) Tryz.func102 rfl rfl ?_
 repeat' first
  | intro _
  | exact rfl
  | (refine Dk.cdR (t:=31) rfl ?_ ?_)
  | (refine Dk.cdR (t:=93) rfl ?_ ?_)
  | (refine @id.{0} _ ?_; constructor)
  | apply Dk.loopA 0 (V:=Value×Value×Value) (A:=Nat×Value×Value) (_,_,_) (fun a (s:(List (List Int))×Int×(List Int)×(List Int)) v=>Dk.pc (fun a0=>Dk.pc (fun a1 a2=>[.row a0 [.int .i64 ((x0.length:Int)),v.2.1,v.2.2,a1,a2] 27,.own (sOwn 24 (sOwn 2 (sInt .i64))) v.1 s.1,.own (sOwn 2 (sInt .i64)) v.2.1 s.2.2.1,.own (sOwn 2 (sInt .i64)) v.2.2 s.2.2.2])) a) (fun a s v=>Dk.pc (fun a0=>Dk.pc (fun a1 a2=>[(4,v.1),(5,.pointer (some ⟨a0,0,none⟩)),(6,.int .i64 (s.2.1))])) a) (_,_,_) [(0,_),(2,_),(3,_)]
  | apply Dk.loopA 2 (V:=Value×Value×Value) (A:=Nat×Value×Value) (_,_,_) (fun a (s:(List Int)×Int×(List Int)×(List Int)) v=>Dk.pc (fun a0=>Dk.pc (fun a1 a2=>[.row a0 [.int .i64 ((x0.length:Int)),v.2.1,v.2.2,a1,a2] 27,.own (sOwn 2 (sInt .i64)) v.1 s.1,.own (sOwn 2 (sInt .i64)) v.2.1 s.2.2.1,.own (sOwn 2 (sInt .i64)) v.2.2 s.2.2.2])) a) (fun a s v=>Dk.pc (fun a0=>Dk.pc (fun a1 a2=>[(5,.pointer (some ⟨a0,0,none⟩)),(7,v.1),(8,.int .i64 (s.2.1))])) a) (_,_,_) [(0,_),(2,_),(3,_),(4,_),(6,_)]
  | apply Dk.loopA 4 (V:=Value) (A:=Nat×Value×Value×Value) (_,_,_,_) (fun a (s:Int×(List Int)) v=>Dk.pc (fun a0=>Dk.pc (fun a1=>Dk.pc (fun a2 a3=>[.row a0 [.int .i64 ((x0.length:Int)),a1,a2,v,a3] 27,.own (sOwn 2 (sInt .i64)) v s.2]))) a) (fun a s v=>Dk.pc (fun a0=>Dk.pc (fun a1=>Dk.pc (fun a2 a3=>[(5,.pointer (some ⟨a0,0,none⟩)),(9,.int .i64 (s.1))]))) a) _ [(2,_),(3,_),(4,_)]
  | apply Dk.loopA 6 (V:=Value) (A:=Nat×Value×Value×Value) (_,_,_,_) (fun a (s:Int×(List (List Int))) v=>Dk.pc (fun a0=>Dk.pc (fun a1=>Dk.pc (fun a2 a3=>[.row a0 [.int .i64 ((x0.length:Int)),a1,a2,a3,v] 27,.own (sOwn 24 (sOwn 2 (sInt .i64))) v s.2]))) a) (fun a s v=>Dk.pc (fun a0=>Dk.pc (fun a1=>Dk.pc (fun a2 a3=>[(5,.pointer (some ⟨a0,0,none⟩)),(10,.int .i64 (s.1))]))) a) _ [(2,_),(4,_)]
  | apply Dk.loop 8 (V:=Value) (fun (s:(List Int)×Int) v=>[.own (sOwn 2 (sInt .i64)) v s.1]) (fun s v=>[(11,v),(12,.int .i64 (s.2))]) _ [(2,_),(4,_),(5,_),(10,_)]
  | apply Dk.quiet (id:=28) (by kernel_rfl)
  | apply Dk.quiet (id:=29) (by kernel_rfl)
  | apply Dk.any (id:=19) 10 [] [] [[],[0],[],[],[2,3],[4,2,3],[],[5,4,2,3,6],[7,5,4,2,3,6],[8,7,5,4,2,3,6]] (by kernel_rfl)
  | exact ()
theorem c101 {x0:MCategory} {v_x0_From:Value} {v_x0_To:Value} {v_x0_Identity:Value} {v_x0_Composites:Value}:Ct Tryz.prog 101 true (spec_l02Fits x0) [.agg #[.int .i64 (x0.Objects),v_x0_From,v_x0_To,v_x0_Identity,v_x0_Composites]] [.rd false (sImm (sInt .i64)) v_x0_From x0.From,.rd false (sImm (sInt .i64)) v_x0_To x0.To,.rd false (sImm (sInt .i64)) v_x0_Identity x0.Identity,.rd false (sImm (sImm (sInt .i64))) v_x0_Composites x0.Composites] (fun y (_:Unit)=>[.bool y]) (fun y _=>[]):=by
 refine ct (S:=Unit) (owt fun _ _=>rfl) Tryz.func101 rfl rfl ?_
 repeat' first
  | intro _
  | exact rfl
  | (refine @id.{0} _ ?_; constructor)
  | exact ()
theorem c107 {x0:ML01Source} {b_x0:Nat} {v_x0_Code:Value}:Ct Tryz.prog 107 true (spec_l02Monoid x0) [.pointer (some (⟨b_x0,0,none⟩))] [.row b_x0 [v_x0_Code,.int .i64 (x0.At),.int .u64 (x0.Hash)] 65,.rd false (sImm (sInt .u8)) v_x0_Code x0.Code] (fun y (v:Value)=>[v]) (fun y v=>[.own (sOwn 24 (sOwn 2 (sInt .i64))) v y.1,.row b_x0 [v_x0_Code,.int .i64 y.2.At,.int .u64 y.2.Hash] 65]):=by
 refine ct (S:=Unit) (owt fun _ _=>rfl) Tryz.func107 rfl rfl ?_
 repeat' first
  | intro _
  | exact rfl
  | apply Dk.D.asl (d:=2) (x:=.tmp 8)
  | apply Dk.D.asl (d:=2) (x:=.tmp 13)
  | apply Dk.D.asl (d:=2) (x:=.tmp 18)
  | apply Dk.D.asl (d:=2) (x:=.tmp 24)
  | apply Dk.D.asl (d:=2) (x:=.tmp 30)
  | apply Dk.D.asl (d:=2) (x:=.tmp 36)
  | apply Dk.D.asl (d:=2) (x:=.tmp 43)
  | apply Dk.D.asl (d:=2) (x:=.tmp 47)
  | (refine @id.{0} _ ?_; constructor)
  | apply c15
  | exact ()
theorem c94 {x0:ML01Source} {b_x0:Nat} {v_x0_Code:Value} {x1:(List Int)} {v_x1:Value}:Ct Tryz.prog 94 true (spec_l01Pick x0 x1) [.pointer (some (⟨b_x0,0,none⟩)),v_x1] [.row b_x0 [v_x0_Code,.int .i64 (x0.At),.int .u64 (x0.Hash)] 65,.rd false (sImm (sInt .u8)) v_x0_Code x0.Code,.rd false (sImm (sInt .i64)) v_x1 x1] (fun y (_:Unit)=>[.int .i64 y.1]) (fun y _=>[.row b_x0 [v_x0_Code,.int .i64 y.2.At,.int .u64 y.2.Hash] 65]):=by
 refine ct (S:=Unit) (owt fun _ _=>rfl) Tryz.func94 rfl rfl ?_
 repeat' first
  | intro _
  | exact rfl
  | (refine @id.{0} _ ?_; constructor)
  | apply c15
  | exact ()
theorem c93 {x0:MCategory} {v_x0_From:Value} {v_x0_To:Value} {v_x0_Identity:Value} {v_x0_Composites:Value}:Ct Tryz.prog 93 true (spec_l02Fault x0) [.agg #[.int .i64 (x0.Objects),v_x0_From,v_x0_To,v_x0_Identity,v_x0_Composites]] [.rd false (sImm (sInt .i64)) v_x0_From x0.From,.rd false (sImm (sInt .i64)) v_x0_To x0.To,.rd false (sImm (sInt .i64)) v_x0_Identity x0.Identity,.rd false (sImm (sImm (sInt .i64))) v_x0_Composites x0.Composites] (fun y (_:Unit)=>[.int .i64 y.1,.int .i64 y.2.1,.int .i64 y.2.2.1,.int .i64 y.2.2.2]) (fun y _=>[]):=by
 refine ct (S:=Unit) (owt fun _ _=>rfl) Tryz.func93 rfl rfl ?_
 repeat' first
  | intro _
  | exact rfl
  | (refine Dk.cdR (t:=65) rfl ?_ ?_)
  | (refine Dk.cdR (t:=81) rfl ?_ ?_)
  | (refine @id.{0} _ ?_; constructor)
  | apply Dk.loop 0 (V:=Unit) (fun (s:Int) v=>[]) (fun s v=>[(7,.int .i64 (s))]) () [(1,_),(6,_)]
  | apply Dk.loop 2 (V:=Unit) (fun (s:Int) v=>[]) (fun s v=>[(8,.int .i64 (s))]) () [(1,_),(6,_)]
  | apply Dk.loop 4 (V:=Unit) (fun (s:Int) v=>[]) (fun s v=>[(9,.int .i64 (s))]) () [(1,_),(6,_),(8,_)]
  | apply Dk.loop 6 (V:=Unit) (fun (s:Int) v=>[]) (fun s v=>[(10,.int .i64 (s))]) () [(1,_),(6,_),(8,_),(9,_)]
  | apply Dk.quiet (id:=5) (by kernel_rfl)
  | apply Dk.quiet (id:=13) (by kernel_rfl)
  | apply Dk.quiet (id:=17) (by kernel_rfl)
  | exact ()
theorem c17 {x0:MSetFunctor} {v_x0_Shape_From:Value} {v_x0_Shape_To:Value} {v_x0_Shape_Identity:Value} {v_x0_Shape_Composites:Value} {v_x0_Sizes:Value} {v_x0_Actions:Value}:Ct Tryz.prog 17 true (spec_l19Count x0) [.agg #[.int .i64 (x0.Shape.Objects),v_x0_Shape_From,v_x0_Shape_To,v_x0_Shape_Identity,v_x0_Shape_Composites,v_x0_Sizes,v_x0_Actions]] [.rd false (sImm (sInt .i64)) v_x0_Shape_From x0.Shape.From,.rd false (sImm (sInt .i64)) v_x0_Shape_To x0.Shape.To,.rd false (sImm (sInt .i64)) v_x0_Shape_Identity x0.Shape.Identity,.rd false (sImm (sImm (sInt .i64))) v_x0_Shape_Composites x0.Shape.Composites,.rd false (sImm (sInt .i64)) v_x0_Sizes x0.Sizes,.rd false (sImm (sImm (sInt .i64))) v_x0_Actions x0.Actions] (fun y (_:Unit)=>[.int .i64 y]) (fun y _=>[]):=by
 refine ct (S:=Unit) (owt fun _ _=>rfl) Tryz.func17 rfl rfl ?_
 repeat' first
  | intro _
  | exact rfl
  | (refine @id.{0} _ ?_; constructor)
  | apply Dk.loop 0 (V:=Unit) (fun (s:Int×Int) v=>[]) (fun s v=>[(3,.int .i64 (s.1)),(4,.int .i64 (s.2))]) () [(1,_)]
  | exact ()
theorem c32 {x0:Int} {x1:Int} {x2:Int}:Ct Tryz.prog 32 true (impl_inRange x0 x1 x2) [.int .i64 (x0),.int .i64 (x1),.int .i64 (x2)] [] (fun y (_:Unit)=>[.bool y]) (fun y _=>[]):=by
 refine ct (S:=Unit) (owt fun _ _=>rfl) Tryz.func32 rfl rfl ?_
 repeat' first
  | intro _
  | exact rfl
  | (refine @id.{0} _ ?_; constructor)
  | exact ()
theorem c76 {x0:(List Int)} {v_x0:Value} {x1:Int}:Ct Tryz.prog 76 true (impl_within x0 x1) [v_x0,.int .i64 (x1)] [.rd false (sImm (sInt .i64)) v_x0 x0] (fun y (_:Unit)=>[.bool y]) (fun y _=>[]):=by
 refine ct (S:=Unit) (owt fun _ _=>rfl) Tryz.func76 rfl rfl ?_
 repeat' first
  | intro _
  | exact rfl
  | (refine @id.{0} _ ?_; constructor)
  | apply Dk.loop 0 (V:=Unit) (fun (s:Int) v=>[]) (fun s v=>[(9,.int .i64 (s))]) () [(1,_),(7,_),(8,_)]
  | apply c32
  | exact ()
theorem c55 {x0:(List Int)} {v_x0:Value} {x1:(List Int)} {v_x1:Value}:Ct Tryz.prog 55 true (laws_likeInts x0 x1) [v_x0,v_x1] [.rd false (sImm (sInt .i64)) v_x0 x0,.rd false (sImm (sInt .i64)) v_x1 x1] (fun y (_:Unit)=>[.bool y]) (fun y _=>[]):=by
 refine ct (S:=Unit) (owt fun _ _=>rfl) Tryz.func55 rfl rfl ?_
 repeat' first
  | intro _
  | exact rfl
  | (refine @id.{0} _ ?_; constructor)
  | apply Dk.loop 0 (V:=Unit) (fun (s:Int) v=>[]) (fun s v=>[(5,.int .i64 (s))]) () [(0,_),(1,_)]
  | apply Dk.quiet (id:=6) (by kernel_rfl)
  | exact ()
theorem c28 {x0:(List (List Int))} {v_x0:Value} {x1:(List (List Int))} {v_x1:Value}:Ct Tryz.prog 28 true (laws_same29 x0 x1) [v_x0,v_x1] [.rd false (sImm (sImm (sInt .i64))) v_x0 x0,.rd false (sImm (sImm (sInt .i64))) v_x1 x1] (fun y (_:Unit)=>[.bool y]) (fun y _=>[]):=by
 refine ct (S:=Unit) (owt fun _ _=>rfl) Tryz.func28 rfl rfl ?_
 repeat' first
  | intro _
  | exact rfl
  | (refine @id.{0} _ ?_; constructor)
  | apply Dk.loop 0 (V:=Unit) (fun (s:Int) v=>[]) (fun s v=>[(5,.int .i64 (s))]) () [(0,_),(1,_)]
  | apply Dk.quiet (id:=6) (by kernel_rfl)
  | apply c55
  | exact ()
end Go.Proofs.YtjfahghkjblgjaaGreat
