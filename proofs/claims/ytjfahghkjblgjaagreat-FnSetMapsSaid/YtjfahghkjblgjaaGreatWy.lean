/- Walks by the calculus D. No condition beside those that each theorem names. -/
import Derived.Test.YtjfahghkjblgjaaGreatDi
import Derived.Test.YtjfahghkjblgjaaGreatMo
import Derived.Test.YtjfahghkjblgjaaGreatDg
import Derived.Test.YtjfahghkjblgjaaGreatDs
import Derived.Test.YtjfahghkjblgjaaGreatWa
import Derived.Test.YtjfahghkjblgjaaGreatWc
import Derived.Test.YtjfahghkjblgjaaGreatWj
import Derived.Test.YtjfahghkjblgjaaGreatWl
import Derived.Test.YtjfahghkjblgjaaGreatWz
namespace Go.Proofs.YtjfahghkjblgjaaGreat
open Go Go.Li Go.Dk
set_option linter.unusedVariables false
set_option maxHeartbeats 16000000
set_option maxRecDepth 100000
theorem c13 {x0:ML01Source} {b_x0:Nat} {v_x0_Code:Value} {x1:Int}:Ct Tryz.prog 13 false (spec_l19Map x0 x1) [.pointer (some (⟨b_x0,0,none⟩)),.int .i64 (x1)] [.row b_x0 [v_x0_Code,.int .i64 (x0.At),.int .u64 (x0.Hash)] 65,.rd false (sImm (sInt .u8)) v_x0_Code x0.Code] (fun y (v:Value×Value×Value×Value×Value×Value×Value×Value×Value×Value×Value×Value×Value)=>[.agg #[.int .i64 y.1.Source.Shape.Objects,v.1,v.2.1,v.2.2.1,v.2.2.2.1,v.2.2.2.2.1,v.2.2.2.2.2.1,.int .i64 y.1.Target.Shape.Objects,v.2.2.2.2.2.2.1,v.2.2.2.2.2.2.2.1,v.2.2.2.2.2.2.2.2.1,v.2.2.2.2.2.2.2.2.2.1,v.2.2.2.2.2.2.2.2.2.2.1,v.2.2.2.2.2.2.2.2.2.2.2.1,v.2.2.2.2.2.2.2.2.2.2.2.2]]) (fun y v=>[.rd false (sImm (sInt .i64)) v.1 y.1.Source.Shape.From,.rd false (sImm (sInt .i64)) v.2.1 y.1.Source.Shape.To,.rd false (sImm (sInt .i64)) v.2.2.1 y.1.Source.Shape.Identity,.rd false (sImm (sImm (sInt .i64))) v.2.2.2.1 y.1.Source.Shape.Composites,.rd false (sImm (sInt .i64)) v.2.2.2.2.1 y.1.Source.Sizes,.rd false (sImm (sImm (sInt .i64))) v.2.2.2.2.2.1 y.1.Source.Actions,.rd false (sImm (sInt .i64)) v.2.2.2.2.2.2.1 y.1.Target.Shape.From,.rd false (sImm (sInt .i64)) v.2.2.2.2.2.2.2.1 y.1.Target.Shape.To,.rd false (sImm (sInt .i64)) v.2.2.2.2.2.2.2.2.1 y.1.Target.Shape.Identity,.rd false (sImm (sImm (sInt .i64))) v.2.2.2.2.2.2.2.2.2.1 y.1.Target.Shape.Composites,.rd false (sImm (sInt .i64)) v.2.2.2.2.2.2.2.2.2.2.1 y.1.Target.Sizes,.rd false (sImm (sImm (sInt .i64))) v.2.2.2.2.2.2.2.2.2.2.2.1 y.1.Target.Actions,.rd false (sImm (sImm (sInt .i64))) v.2.2.2.2.2.2.2.2.2.2.2.2 y.1.Parts,.row b_x0 [v_x0_Code,.int .i64 y.2.At,.int .u64 y.2.Hash] 65]):=by
 refine ct (S:=Unit) owf Tryz.func13 rfl rfl ?_
 repeat' first
  | (intro (v:Value×Value×Value×Value×Value×Value×Value×Value×Value×Value×Value×Value×Value); obtain ⟨_,_,_,_,_,_,_,_,_,_,_,_,_⟩:=v; dsimp only)
  | intro _
  | exact rfl
  | (refine Dk.gjn 18 ?_; apply Dk.joinA (t:=18) (k:=1018) (V:=Value×Value×Value×Value×Value×Value) (A:=Nat) _ (fun a (s:Int×(List Int)×(List Int)×(List Int)×(List (List Int))×(List Int)×(List (List Int))) v=>[.row a [.int .i64 (s.1),v.1,v.2.1,v.2.2.1,v.2.2.2.1,v.2.2.2.2.1,v.2.2.2.2.2] 29,.rd false (sImm (sInt .i64)) v.1 s.2.1,.rd false (sImm (sInt .i64)) v.2.1 s.2.2.1,.rd false (sImm (sInt .i64)) v.2.2.1 s.2.2.2.1,.rd false (sImm (sImm (sInt .i64))) v.2.2.2.1 s.2.2.2.2.1,.rd false (sImm (sInt .i64)) v.2.2.2.2.1 s.2.2.2.2.2.1,.rd false (sImm (sImm (sInt .i64))) v.2.2.2.2.2 s.2.2.2.2.2.2]) (fun a s v=>[(6,.pointer (some ⟨a,0,none⟩))]) (_,_,_,_,_,_) [(0,_),(4,_),(5,_)])
  | (refine Dk.gje 1018 ?_; apply Dk.jend)
  | (refine Dk.gjn 25 ?_; apply Dk.joinA (t:=25) (k:=1025) (V:=Value×Value×Value×Value×Value×Value×Value×Value×Value×Value×Value×Value×Value) (A:=Nat) _ (fun a (s:Int×Int×Int×(List Int)×(List Int)×(List Int)×(List (List Int))×(List Int)×(List (List Int))×Int×(List Int)×(List Int)×(List Int)×(List (List Int))×(List Int)×(List (List Int))×(List (List Int))) v=>[.row b_x0 [v_x0_Code,.int .i64 (s.1),.int .u64 (s.2.1)] 65,.row a [.int .i64 (s.2.2.1),v.1,v.2.1,v.2.2.1,v.2.2.2.1,v.2.2.2.2.1,v.2.2.2.2.2.1,.int .i64 (s.2.2.2.2.2.2.2.2.2.1),v.2.2.2.2.2.2.1,v.2.2.2.2.2.2.2.1,v.2.2.2.2.2.2.2.2.1,v.2.2.2.2.2.2.2.2.2.1,v.2.2.2.2.2.2.2.2.2.2.1,v.2.2.2.2.2.2.2.2.2.2.2.1,v.2.2.2.2.2.2.2.2.2.2.2.2] 31,.rd false (sImm (sInt .i64)) v.1 s.2.2.2.1,.rd false (sImm (sInt .i64)) v.2.1 s.2.2.2.2.1,.rd false (sImm (sInt .i64)) v.2.2.1 s.2.2.2.2.2.1,.rd false (sImm (sImm (sInt .i64))) v.2.2.2.1 s.2.2.2.2.2.2.1,.rd false (sImm (sInt .i64)) v.2.2.2.2.1 s.2.2.2.2.2.2.2.1,.rd false (sImm (sImm (sInt .i64))) v.2.2.2.2.2.1 s.2.2.2.2.2.2.2.2.1,.rd false (sImm (sInt .i64)) v.2.2.2.2.2.2.1 s.2.2.2.2.2.2.2.2.2.2.1,.rd false (sImm (sInt .i64)) v.2.2.2.2.2.2.2.1 s.2.2.2.2.2.2.2.2.2.2.2.1,.rd false (sImm (sInt .i64)) v.2.2.2.2.2.2.2.2.1 s.2.2.2.2.2.2.2.2.2.2.2.2.1,.rd false (sImm (sImm (sInt .i64))) v.2.2.2.2.2.2.2.2.2.1 s.2.2.2.2.2.2.2.2.2.2.2.2.2.1,.rd false (sImm (sInt .i64)) v.2.2.2.2.2.2.2.2.2.2.1 s.2.2.2.2.2.2.2.2.2.2.2.2.2.2.1,.rd false (sImm (sImm (sInt .i64))) v.2.2.2.2.2.2.2.2.2.2.2.1 s.2.2.2.2.2.2.2.2.2.2.2.2.2.2.2.1,.rd false (sImm (sImm (sInt .i64))) v.2.2.2.2.2.2.2.2.2.2.2.2 s.2.2.2.2.2.2.2.2.2.2.2.2.2.2.2.2]) (fun a s v=>[(7,.pointer (some ⟨a,0,none⟩))]) (_,_,_,_,_,_,_,_,_,_,_,_,_) [(0,_),(4,_)])
  | (refine Dk.gje 1025 ?_; apply Dk.jend)
  | (refine Dk.rwU (t:=60) rfl ?_)
  | apply Dk.D.ari (d:=94)
  | apply Dk.AD.ari (d:=94)
  | apply Dk.litO (d:=100)
  | apply Dk.stO (y0:=.tmp 100)
  | (refine @id.{0} _ ?_; constructor)
  | apply Dk.any (id:=11) 4 [] [] [[],[],[],[2]] (by kernel_rfl)
  | apply Dk.anyH (id:=16) [Dk.Ent.row _ _ 65] 19 [] [[],[],[],[],[],[],[],[],[],[],[],[],[21],[],[12],[],[14],[],[]] [[],[0],[],[1,0,2],[3,1,0,2],[],[],[6],[],[7,6,8],[9,7,6,8],[10,9,7,6,8],[5,11,10,9,7,6,8],[],[13,12,5,11,10,9,7,6,8],[],[15,14,13,5,11,10,9,7,6,8],[16,15,13,5,11,10,9,7,6,8],[13,5,11,10,9,7,6,8,17,16,15,13,5,11,10,9,7,6,8]] (by kernel_rfl)
  | apply c34
  | apply c15
  | apply c35
  | apply c17
  | apply c18
  | apply c20
  | apply c19
  | apply c36
  | exact ()
end Go.Proofs.YtjfahghkjblgjaaGreat
