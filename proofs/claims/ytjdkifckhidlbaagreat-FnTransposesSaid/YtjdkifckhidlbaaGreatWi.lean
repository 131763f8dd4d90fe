/- Walks by the calculus D. No condition beside those that each theorem names. -/
import Derived.Test.YtjdkifckhidlbaaGreatDp
import Derived.Test.YtjdkifckhidlbaaGreatDi
import Derived.Test.YtjdkifckhidlbaaGreatMo
import Derived.Test.YtjdkifckhidlbaaGreatDs
import Derived.Test.YtjdkifckhidlbaaGreatWa
import Derived.Test.YtjdkifckhidlbaaGreatWd
import Derived.Test.YtjdkifckhidlbaaGreatWt
namespace Go.Proofs.YtjdkifckhidlbaaGreat
open Go Go.Li Go.Dk
set_option linter.unusedVariables false
set_option maxHeartbeats 16000000
set_option maxRecDepth 100000
theorem c27 {x0:bN} {bK bR bA aT bL bS bB aU bX cB bG bP aV aR bH bQ aW aS bW bY cS cO:Value} {x1:Int} {x2:Int} {x3:Int}:Ct Tryz.prog 27 true (fN x0 x1 x2 x3) [.agg #[.int .i64 (x0.Left.aE.aA),bK,bR,bA,aT,.int .i64 (x0.Left.aH.aA),bL,bS,bB,aU,bX,cB,.int .i64 (x0.ab.aE.aA),bG,bP,aV,aR,.int .i64 (x0.ab.aH.aA),bH,bQ,aW,aS,bW,bY,cS,cO],.int .i64 (x1),.int .i64 (x2),.int .i64 (x3)] [rI bK x0.Left.aE.aG,rI bR x0.Left.aE.To,rI bA x0.Left.aE.aJ,rJ aT x0.Left.aE.aB,rI bL x0.Left.aH.aG,rI bS x0.Left.aH.To,rI bB x0.Left.aH.aJ,rJ aU x0.Left.aH.aB,rI bX x0.Left.aA,rI cB x0.Left.ae,rI bG x0.ab.aE.aG,rI bP x0.ab.aE.To,rI aV x0.ab.aE.aJ,rJ aR x0.ab.aE.aB,rI bH x0.ab.aH.aG,rI bQ x0.ab.aH.To,rI aW x0.ab.aH.aJ,rJ aS x0.ab.aH.aB,rI bW x0.ab.aA,rI bY x0.ab.ae,rI cS x0.Unit,rI cO x0.br] (fun y (_:Unit)=>[.int .i64 y.1,.int .i64 y.2]) (fun y _=>[]):=by
 refine ct (S:=Unit) (bw fun _ _=>rfl) Tryz.func27 rfl rfl ?_
 repeat' first
  | (apply Dk.fe; repeat' first | exact rfl | (refine @id.{0} _ ?_; constructor))
  | intro _
  | exact rfl
  | (refine @id.{0} _ ?_; constructor)
  | apply Dk.quiet (id:=7) (by kernel_rfl)
  | apply Un
  | apply abj
  | apply aaZ
  | exact ()
end Go.Proofs.YtjdkifckhidlbaaGreat
