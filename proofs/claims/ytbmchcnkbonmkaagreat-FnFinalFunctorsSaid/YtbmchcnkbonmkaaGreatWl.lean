/- Walks by the calculus D. No condition beside those that each theorem names. -/
import Derived.Test.YtbmchcnkbonmkaaGreatDi
import Derived.Test.YtbmchcnkbonmkaaGreatMo
import Derived.Test.YtbmchcnkbonmkaaGreatDp
import Derived.Test.YtbmchcnkbonmkaaGreatDs
import Derived.Test.YtbmchcnkbonmkaaGreatWa
import Derived.Test.YtbmchcnkbonmkaaGreatWf
namespace Go.Proofs.YtbmchcnkbonmkaaGreat
open Go Go.Li Go.Dk
set_option linter.unusedVariables false
set_option maxHeartbeats 16000000
set_option maxRecDepth 100000
theorem c30 {x0:aJ} {aS aV aQ aO aT aW aR aP bA bC:Value}:Ct Tryz.prog 30 true (qU x0) [.agg #[.int .i64 (x0.aE.aA),aS,aV,aQ,aO,.int .i64 (x0.aF.aA),aT,aW,aR,aP,bA,bC]] [rI aS x0.aE.aC,rI aV x0.aE.To,rI aQ x0.aE.aH,rJ aO x0.aE.aB,rI aT x0.aF.aC,rI aW x0.aF.To,rI aR x0.aF.aH,rJ aP x0.aF.aB,rI bA x0.aA,rI bC x0.ah] (fun y (v:Value×Value×Value×Value×Value×Value×Value×Value×Value×Value)=>[.agg #[.int .i64 y.aE.aA,v.1,v.2.1,v.2.2.1,v.2.2.2.1,.int .i64 y.aF.aA,v.2.2.2.2.1,v.2.2.2.2.2.1,v.2.2.2.2.2.2.1,v.2.2.2.2.2.2.2.1,v.2.2.2.2.2.2.2.2.1,v.2.2.2.2.2.2.2.2.2]]) (fun y v=>[.own (aI 2 (aL .i64)) v.1 y.aE.aC,.own (aI 2 (aL .i64)) v.2.1 y.aE.To,.own (aI 2 (aL .i64)) v.2.2.1 y.aE.aH,.own (aI 24 (aI 2 (aL .i64))) v.2.2.2.1 y.aE.aB,.own (aI 2 (aL .i64)) v.2.2.2.2.1 y.aF.aC,.own (aI 2 (aL .i64)) v.2.2.2.2.2.1 y.aF.To,.own (aI 2 (aL .i64)) v.2.2.2.2.2.2.1 y.aF.aH,.own (aI 24 (aI 2 (aL .i64))) v.2.2.2.2.2.2.2.1 y.aF.aB,.own (aI 2 (aL .i64)) v.2.2.2.2.2.2.2.2.1 y.aA,.own (aI 2 (aL .i64)) v.2.2.2.2.2.2.2.2.2 y.ah]):=by
 refine ct (S:=Unit) (bw fun _ _=>rfl) Tryz.func30 rfl rfl ?_
 repeat' first
  | (apply Dk.fe; repeat' first | exact rfl | (refine @id.{0} _ ?_; constructor))
  | intro _
  | exact rfl
  | (refine @id.{0} _ ?_; constructor)
  | apply Dk.any (id:=1) 10 [] [] [[],[0],[1,0],[],[3],[4,3,2,1,0],[],[6],[],[8]] (by kernel_rfl)
  | apply c63
  | apply TE
  | exact ()
end Go.Proofs.YtbmchcnkbonmkaaGreat
