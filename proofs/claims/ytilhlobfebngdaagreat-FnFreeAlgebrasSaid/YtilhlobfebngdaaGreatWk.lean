/- Walks by the calculus D. No condition beside those that each theorem names. -/
import Derived.Test.YtilhlobfebngdaaGreatDp
import Derived.Test.YtilhlobfebngdaaGreatDi
import Derived.Test.YtilhlobfebngdaaGreatMo
import Derived.Test.YtilhlobfebngdaaGreatDs
import Derived.Test.YtilhlobfebngdaaGreatWb
import Derived.Test.YtilhlobfebngdaaGreatWh
namespace Go.Proofs.YtilhlobfebngdaaGreat
open Go Go.Li Go.Dk
set_option linter.unusedVariables false
set_option maxHeartbeats 16000000
set_option maxRecDepth 100000
theorem c24 {x0:aI} {aV bE aP aO:Value} {x1:Int} {x2:Int}:Ct Tryz.prog 24 true (sJ x0 x1 x2) [.agg #[.int .i64 (x0.aA),aV,bE,aP,aO],.int .i64 (x1),.int .i64 (x2)] [rI aV x0.aG,rI bE x0.To,rI aP x0.aJ,rJ aO x0.aE] (fun y (v:Value)=>[v,.int .i64 y.2]) (fun y v=>[.own (aL 2 (aN .i64)) v y.1]):=by
 refine ct (S:=Unit) (b9 fun _ _=>rfl) Tryz.func24 rfl rfl ?_
 repeat' first
  | (apply Dk.fe; repeat' first | exact rfl | (refine @id.{0} _ ?_; constructor))
  | intro _
  | exact rfl
  | (refine @id.{0} _ ?_; constructor)
  | apply c54
  | apply c55
  | exact ()
end Go.Proofs.YtilhlobfebngdaaGreat
