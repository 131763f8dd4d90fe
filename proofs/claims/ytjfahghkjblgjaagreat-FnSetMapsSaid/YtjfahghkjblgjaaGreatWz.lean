/- Walks by the calculus D. No condition beside those that each theorem names. -/
import Derived.Test.YtjfahghkjblgjaaGreatDi
import Derived.Test.YtjfahghkjblgjaaGreatMo
import Derived.Test.YtjfahghkjblgjaaGreatDg
import Derived.Test.YtjfahghkjblgjaaGreatDs
import Derived.Test.YtjfahghkjblgjaaGreatWa
import Derived.Test.YtjfahghkjblgjaaGreatWk
import Derived.Test.YtjfahghkjblgjaaGreatWl
namespace Go.Proofs.YtjfahghkjblgjaaGreat
open Go Go.Li Go.Dk
set_option linter.unusedVariables false
set_option maxHeartbeats 16000000
set_option maxRecDepth 100000
theorem c34 {x0:ML01Source} {b_x0:Nat} {v_x0_Code:Value} {x1:Int}:Ct Tryz.prog 34 false (spec_l19Pair x0 x1) [.pointer (some (⟨b_x0,0,none⟩)),.int .i64 (x1)] [.row b_x0 [v_x0_Code,.int .i64 (x0.At),.int .u64 (x0.Hash)] 65,.rd false (sImm (sInt .u8)) v_x0_Code x0.Code] (fun y (v:Value×Value×Value×Value×Value×Value×Value×Value×Value×Value×Value×Value)=>[.agg #[.int .i64 y.1.Shape.Objects,v.1,v.2.1,v.2.2.1,v.2.2.2.1,v.2.2.2.2.1,v.2.2.2.2.2.1],.agg #[.int .i64 y.2.1.Shape.Objects,v.2.2.2.2.2.2.1,v.2.2.2.2.2.2.2.1,v.2.2.2.2.2.2.2.2.1,v.2.2.2.2.2.2.2.2.2.1,v.2.2.2.2.2.2.2.2.2.2.1,v.2.2.2.2.2.2.2.2.2.2.2]]) (fun y v=>[.rd false (sImm (sInt .i64)) v.1 y.1.Shape.From,.rd false (sImm (sInt .i64)) v.2.1 y.1.Shape.To,.rd false (sImm (sInt .i64)) v.2.2.1 y.1.Shape.Identity,.rd false (sImm (sImm (sInt .i64))) v.2.2.2.1 y.1.Shape.Composites,.rd false (sImm (sInt .i64)) v.2.2.2.2.1 y.1.Sizes,.rd false (sImm (sImm (sInt .i64))) v.2.2.2.2.2.1 y.1.Actions,.rd false (sImm (sInt .i64)) v.2.2.2.2.2.2.1 y.2.1.Shape.From,.rd false (sImm (sInt .i64)) v.2.2.2.2.2.2.2.1 y.2.1.Shape.To,.rd false (sImm (sInt .i64)) v.2.2.2.2.2.2.2.2.1 y.2.1.Shape.Identity,.rd false (sImm (sImm (sInt .i64))) v.2.2.2.2.2.2.2.2.2.1 y.2.1.Shape.Composites,.rd false (sImm (sInt .i64)) v.2.2.2.2.2.2.2.2.2.2.1 y.2.1.Sizes,.rd false (sImm (sImm (sInt .i64))) v.2.2.2.2.2.2.2.2.2.2.2 y.2.1.Actions,.row b_x0 [v_x0_Code,.int .i64 y.2.2.At,.int .u64 y.2.2.Hash] 65]):=by
 refine ct (S:=Unit) owf Tryz.func34 rfl rfl ?_
 repeat' first
  | intro _
  | exact rfl
  | apply Dk.AD.callR (f:=60)
  | apply Dk.AD.callHR (f:=60)
  | apply Dk.AD.callMR (f:=60)
  | apply Dk.AD.callR (f:=61)
  | apply Dk.AD.callHR (f:=61)
  | apply Dk.AD.callMR (f:=61)
  | (refine @id.{0} _ ?_; constructor)
  | apply Dk.anyH (id:=4) [Dk.Ent.row _ _ 65] 6 [] [[],[],[],[8],[],[3]] [[],[],[],[2],[],[1,3,2,4,3,2]] (by kernel_rfl)
  | apply Dk.anyH (id:=5) [Dk.Ent.row _ _ 65] 5 [] [[],[],[],[],[7]] [[],[],[],[],[1,2,3]] (by kernel_rfl)
  | apply c60
  | apply c61
  | apply c15
  | exact ()
end Go.Proofs.YtjfahghkjblgjaaGreat
