/- Walks by the calculus D. No condition beside those that each theorem names. -/
import Derived.Test.YtjdkifckhidlbaaGreatDp
import Derived.Test.YtjdkifckhidlbaaGreatDi
import Derived.Test.YtjdkifckhidlbaaGreatMo
import Derived.Test.YtjdkifckhidlbaaGreatDs
import Derived.Test.YtjdkifckhidlbaaGreatWd
import Derived.Test.YtjdkifckhidlbaaGreatWh
namespace Go.Proofs.YtjdkifckhidlbaaGreat
open Go Go.Li Go.Dk
set_option linter.unusedVariables false
set_option maxHeartbeats 16000000
set_option maxRecDepth 100000
theorem c29 {x0:aI} {aQ bF aO aM:Value} {x1:Int} {x2:Int}:Ct Tryz.prog 29 true (mK x0 x1 x2) [.agg #[.int .i64 (x0.aA),aQ,bF,aO,aM],.int .i64 (x1),.int .i64 (x2)] [rI aQ x0.aG,rI bF x0.To,rI aO x0.aJ,rJ aM x0.aB] (fun y (v:Value)=>[v,.int .i64 y.2]) (fun y v=>[.own (aL 2 (aN .i64)) v y.1]):=by
 refine ct (S:=Unit) (bw fun _ _=>rfl) Tryz.func29 rfl rfl ?_
 repeat' first
  | (apply Dk.fe; repeat' first | exact rfl | (refine @id.{0} _ ?_; constructor))
  | intro _
  | exact rfl
  | (refine @id.{0} _ ?_; constructor)
  | apply abH
  | apply abk
  | exact ()
end Go.Proofs.YtjdkifckhidlbaaGreat
