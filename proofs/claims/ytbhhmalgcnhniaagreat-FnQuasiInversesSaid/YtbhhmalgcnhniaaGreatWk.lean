/- Walks by the calculus D. No condition beside those that each theorem names. -/
import Derived.Test.YtbhhmalgcnhniaaGreatDi
import Derived.Test.YtbhhmalgcnhniaaGreatMo
import Derived.Test.YtbhhmalgcnhniaaGreatDp
import Derived.Test.YtbhhmalgcnhniaaGreatDs
import Derived.Test.YtbhhmalgcnhniaaGreatWe
import Derived.Test.YtbhhmalgcnhniaaGreatWg
import Derived.Test.YtbhhmalgcnhniaaGreatWh
namespace Go.Proofs.YtbhhmalgcnhniaaGreat
open Go Go.Li Go.Dk
set_option linter.unusedVariables false
set_option maxHeartbeats 16000000
set_option maxRecDepth 100000
theorem c44 {x0:aJ} {aS aV aQ aN aT aW aR aO aZ bB:Value}:Ct Tryz.prog 44 true (gX x0) [.agg #[.int .i64 (x0.aD.aA),aS,aV,aQ,aN,.int .i64 (x0.aB.aA),aT,aW,aR,aO,aZ,bB]] [rI aS x0.aD.aF,rI aV x0.aD.To,rI aQ x0.aD.aH,rJ aN x0.aD.aC,rI aT x0.aB.aF,rI aW x0.aB.To,rI aR x0.aB.aH,rJ aO x0.aB.aC,rI aZ x0.aA,rI bB x0.ab] (fun y (v:Value×Value×Value×Value×Value×Value×Value×Value×Value×Value×Value)=>[.agg #[.int .i64 y.1.aD.aA,v.1,v.2.1,v.2.2.1,v.2.2.2.1,.int .i64 y.1.aB.aA,v.2.2.2.2.1,v.2.2.2.2.2.1,v.2.2.2.2.2.2.1,v.2.2.2.2.2.2.2.1,v.2.2.2.2.2.2.2.2.1,v.2.2.2.2.2.2.2.2.2.1],v.2.2.2.2.2.2.2.2.2.2,.int .i64 y.2.2]) (fun y v=>[.own (aI 2 (aK .i64)) v.1 y.1.aD.aF,.own (aI 2 (aK .i64)) v.2.1 y.1.aD.To,.own (aI 2 (aK .i64)) v.2.2.1 y.1.aD.aH,.own (aI 22 (aI 2 (aK .i64))) v.2.2.2.1 y.1.aD.aC,.own (aI 2 (aK .i64)) v.2.2.2.2.1 y.1.aB.aF,.own (aI 2 (aK .i64)) v.2.2.2.2.2.1 y.1.aB.To,.own (aI 2 (aK .i64)) v.2.2.2.2.2.2.1 y.1.aB.aH,.own (aI 22 (aI 2 (aK .i64))) v.2.2.2.2.2.2.2.1 y.1.aB.aC,.own (aI 2 (aK .i64)) v.2.2.2.2.2.2.2.2.1 y.1.aA,.own (aI 2 (aK .i64)) v.2.2.2.2.2.2.2.2.2.1 y.1.ab,.own (aI 2 (aK .i64)) v.2.2.2.2.2.2.2.2.2.2 y.2.1]):=by
 refine ct (S:=Unit) (bo fun _ _=>rfl) Tryz.func44 rfl rfl ?_
 repeat' first
  | (apply Dk.fe; repeat' first | exact rfl | (refine @id.{0} _ ?_; constructor))
  | intro _
  | exact rfl
  | (refine @id.{0} _ ?_; constructor)
  | apply adG
  | apply Wr
  | apply Wo
  | exact ()
end Go.Proofs.YtbhhmalgcnhniaaGreat
