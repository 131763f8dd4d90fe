/- Walks by the calculus D. No condition beside those that each theorem names. -/
import Derived.Test.YtjfahghkjblgjaaGreatDi
import Derived.Test.YtjfahghkjblgjaaGreatMo
import Derived.Test.YtjfahghkjblgjaaGreatDg
import Derived.Test.YtjfahghkjblgjaaGreatDs
import Derived.Test.YtjfahghkjblgjaaGreatWa
import Derived.Test.YtjfahghkjblgjaaGreatWb
import Derived.Test.YtjfahghkjblgjaaGreatWc
import Derived.Test.YtjfahghkjblgjaaGreatWj
import Derived.Test.YtjfahghkjblgjaaGreatWl
import Derived.Test.YtjfahghkjblgjaaGreatWy
namespace Go.Proofs.YtjfahghkjblgjaaGreat
open Go Go.Li Go.Dk
set_option linter.unusedVariables false
set_option maxHeartbeats 16000000
set_option maxRecDepth 100000
theorem c5 {x0:(List Int)} {v_x0:Value}:Ct Tryz.prog 5 false (spec_DrawThenSetMaps x0) [v_x0] [.rd false (sImm (sInt .u8)) v_x0 x0] (fun y (v:Value×Value×Value×Value×Value×Value×Value×Value×Value×Value×Value×Value×Value×Value×Value×Value×Value×Value×Value×Value×Value×Value×Value×Value×Value×Value)=>[.agg #[.int .i64 y.1.Source.Shape.Objects,v.1,v.2.1,v.2.2.1,v.2.2.2.1,v.2.2.2.2.1,v.2.2.2.2.2.1,.int .i64 y.1.Target.Shape.Objects,v.2.2.2.2.2.2.1,v.2.2.2.2.2.2.2.1,v.2.2.2.2.2.2.2.2.1,v.2.2.2.2.2.2.2.2.2.1,v.2.2.2.2.2.2.2.2.2.2.1,v.2.2.2.2.2.2.2.2.2.2.2.1,v.2.2.2.2.2.2.2.2.2.2.2.2.1],.agg #[.int .i64 y.2.Source.Shape.Objects,v.2.2.2.2.2.2.2.2.2.2.2.2.2.1,v.2.2.2.2.2.2.2.2.2.2.2.2.2.2.1,v.2.2.2.2.2.2.2.2.2.2.2.2.2.2.2.1,v.2.2.2.2.2.2.2.2.2.2.2.2.2.2.2.2.1,v.2.2.2.2.2.2.2.2.2.2.2.2.2.2.2.2.2.1,v.2.2.2.2.2.2.2.2.2.2.2.2.2.2.2.2.2.2.1,.int .i64 y.2.Target.Shape.Objects,v.2.2.2.2.2.2.2.2.2.2.2.2.2.2.2.2.2.2.2.1,v.2.2.2.2.2.2.2.2.2.2.2.2.2.2.2.2.2.2.2.2.1,v.2.2.2.2.2.2.2.2.2.2.2.2.2.2.2.2.2.2.2.2.2.1,v.2.2.2.2.2.2.2.2.2.2.2.2.2.2.2.2.2.2.2.2.2.2.1,v.2.2.2.2.2.2.2.2.2.2.2.2.2.2.2.2.2.2.2.2.2.2.2.1,v.2.2.2.2.2.2.2.2.2.2.2.2.2.2.2.2.2.2.2.2.2.2.2.2.1,v.2.2.2.2.2.2.2.2.2.2.2.2.2.2.2.2.2.2.2.2.2.2.2.2.2]]) (fun y v=>[.rd false (sImm (sInt .i64)) v.1 y.1.Source.Shape.From,.rd false (sImm (sInt .i64)) v.2.1 y.1.Source.Shape.To,.rd false (sImm (sInt .i64)) v.2.2.1 y.1.Source.Shape.Identity,.rd false (sImm (sImm (sInt .i64))) v.2.2.2.1 y.1.Source.Shape.Composites,.rd false (sImm (sInt .i64)) v.2.2.2.2.1 y.1.Source.Sizes,.rd false (sImm (sImm (sInt .i64))) v.2.2.2.2.2.1 y.1.Source.Actions,.rd false (sImm (sInt .i64)) v.2.2.2.2.2.2.1 y.1.Target.Shape.From,.rd false (sImm (sInt .i64)) v.2.2.2.2.2.2.2.1 y.1.Target.Shape.To,.rd false (sImm (sInt .i64)) v.2.2.2.2.2.2.2.2.1 y.1.Target.Shape.Identity,.rd false (sImm (sImm (sInt .i64))) v.2.2.2.2.2.2.2.2.2.1 y.1.Target.Shape.Composites,.rd false (sImm (sInt .i64)) v.2.2.2.2.2.2.2.2.2.2.1 y.1.Target.Sizes,.rd false (sImm (sImm (sInt .i64))) v.2.2.2.2.2.2.2.2.2.2.2.1 y.1.Target.Actions,.rd false (sImm (sImm (sInt .i64))) v.2.2.2.2.2.2.2.2.2.2.2.2.1 y.1.Parts,.rd false (sImm (sInt .i64)) v.2.2.2.2.2.2.2.2.2.2.2.2.2.1 y.2.Source.Shape.From,.rd false (sImm (sInt .i64)) v.2.2.2.2.2.2.2.2.2.2.2.2.2.2.1 y.2.Source.Shape.To,.rd false (sImm (sInt .i64)) v.2.2.2.2.2.2.2.2.2.2.2.2.2.2.2.1 y.2.Source.Shape.Identity,.rd false (sImm (sImm (sInt .i64))) v.2.2.2.2.2.2.2.2.2.2.2.2.2.2.2.2.1 y.2.Source.Shape.Composites,.rd false (sImm (sInt .i64)) v.2.2.2.2.2.2.2.2.2.2.2.2.2.2.2.2.2.1 y.2.Source.Sizes,.rd false (sImm (sImm (sInt .i64))) v.2.2.2.2.2.2.2.2.2.2.2.2.2.2.2.2.2.2.1 y.2.Source.Actions,.rd false (sImm (sInt .i64)) v.2.2.2.2.2.2.2.2.2.2.2.2.2.2.2.2.2.2.2.1 y.2.Target.Shape.From,.rd false (sImm (sInt .i64)) v.2.2.2.2.2.2.2.2.2.2.2.2.2.2.2.2.2.2.2.2.1 y.2.Target.Shape.To,.rd false (sImm (sInt .i64)) v.2.2.2.2.2.2.2.2.2.2.2.2.2.2.2.2.2.2.2.2.2.1 y.2.Target.Shape.Identity,.rd false (sImm (sImm (sInt .i64))) v.2.2.2.2.2.2.2.2.2.2.2.2.2.2.2.2.2.2.2.2.2.2.1 y.2.Target.Shape.Composites,.rd false (sImm (sInt .i64)) v.2.2.2.2.2.2.2.2.2.2.2.2.2.2.2.2.2.2.2.2.2.2.2.1 y.2.Target.Sizes,.rd false (sImm (sImm (sInt .i64))) v.2.2.2.2.2.2.2.2.2.2.2.2.2.2.2.2.2.2.2.2.2.2.2.2.1 y.2.Target.Actions,.rd false (sImm (sImm (sInt .i64))) v.2.2.2.2.2.2.2.2.2.2.2.2.2.2.2.2.2.2.2.2.2.2.2.2.2 y.2.Parts]):=by
 refine ct (S:=Unit) owf Tryz.func5 rfl rfl ?_
 repeat' first
  | intro _
  | exact rfl
  | (refine Dk.rwU (t:=18) rfl ?_)
  | apply Dk.AD.callR (f:=13)
  | apply Dk.AD.callHR (f:=13)
  | apply Dk.AD.callMR (f:=13)
  | (refine @id.{0} _ ?_; constructor)
  | apply Dk.anyH (id:=8) [Dk.Ent.row _ _ 65] 12 [] [[],[],[],[],[],[],[],[],[14],[],[],[]] [[],[],[1],[],[],[],[],[6],[5,7,6],[4,8,5,7,6],[9,4,8,5,7,6],[2,1,3,10,9,4,8,5,7,6,8,5,7,6]] (by kernel_rfl)
  | apply Dk.any (id:=9) 9 [] [] [[],[],[1],[],[3],[],[5],[6,5],[2,1,4,3,7,6,5,7,6,5]] (by kernel_rfl)
  | apply Dk.anyH (id:=10) [Dk.Ent.row _ _ 65] 3 [] [[],[],[5]] [[],[],[1]] (by kernel_rfl)
  | apply c12
  | apply c13
  | apply c14
  | apply c15
  | apply c16
  | apply c17
  | apply c18
  | apply c19
  | apply c20
  | exact ()
end Go.Proofs.YtjfahghkjblgjaaGreat
