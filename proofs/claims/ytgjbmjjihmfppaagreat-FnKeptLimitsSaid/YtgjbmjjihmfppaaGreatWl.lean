/- Walks by the calculus D. No condition beside those that each theorem names. -/
import Derived.Test.YtgjbmjjihmfppaaGreatDi
import Derived.Test.YtgjbmjjihmfppaaGreatMo
import Derived.Test.YtgjbmjjihmfppaaGreatDp
import Derived.Test.YtgjbmjjihmfppaaGreatDs
import Derived.Test.YtgjbmjjihmfppaaGreatWf
import Derived.Test.YtgjbmjjihmfppaaGreatWh
namespace Go.Proofs.YtgjbmjjihmfppaaGreat
open Go Go.Li Go.Dk
set_option linter.unusedVariables false
set_option maxHeartbeats 16000000
set_option maxRecDepth 100000
theorem c42 {x0:aM} {dE:Addr} {aU:Value} {aW:Value} {aR:Value} {aP:Value} {aV:Value} {aY:Value} {aS:Value} {aQ:Value} {bC:Value} {bF:Value}:Ct Tryz.prog 42 true (kD x0) [.pointer (some (dE))] [.au dE [.int .i64 (x0.aE.aA),aU,aW,aR,aP,.int .i64 (x0.aH.aA),aV,aY,aS,aQ,bC,bF],.rd false (aB (aC .i64)) aU x0.aE.aF,.rd false (aB (aC .i64)) aW x0.aE.To,.rd false (aB (aC .i64)) aR x0.aE.aJ,.rd false (aB (aB (aC .i64))) aP x0.aE.aD,.rd false (aB (aC .i64)) aV x0.aH.aF,.rd false (aB (aC .i64)) aY x0.aH.To,.rd false (aB (aC .i64)) aS x0.aH.aJ,.rd false (aB (aB (aC .i64))) aQ x0.aH.aD,.rd false (aB (aC .i64)) bC x0.aA,.rd false (aB (aC .i64)) bF x0.ab] (fun y (v:Value×Value×Value×Value×Value×Value×Value×Value×Value×Value)=>[.agg #[.int .i64 y.aE.aA,v.1,v.2.1,v.2.2.1,v.2.2.2.1,.int .i64 y.aH.aA,v.2.2.2.2.1,v.2.2.2.2.2.1,v.2.2.2.2.2.2.1,v.2.2.2.2.2.2.2.1,v.2.2.2.2.2.2.2.2.1,v.2.2.2.2.2.2.2.2.2]]) (fun y v=>[.own (aL 2 (aC .i64)) v.1 y.aE.aF,.own (aL 2 (aC .i64)) v.2.1 y.aE.To,.own (aL 2 (aC .i64)) v.2.2.1 y.aE.aJ,.own (aL 24 (aL 2 (aC .i64))) v.2.2.2.1 y.aE.aD,.own (aL 2 (aC .i64)) v.2.2.2.2.1 y.aH.aF,.own (aL 2 (aC .i64)) v.2.2.2.2.2.1 y.aH.To,.own (aL 2 (aC .i64)) v.2.2.2.2.2.2.1 y.aH.aJ,.own (aL 24 (aL 2 (aC .i64))) v.2.2.2.2.2.2.2.1 y.aH.aD,.own (aL 2 (aC .i64)) v.2.2.2.2.2.2.2.2.1 y.aA,.own (aL 2 (aC .i64)) v.2.2.2.2.2.2.2.2.2 y.ab]):=by
 refine ct (S:=Unit) (ca fun _ _=>rfl) Tryz.func42 rfl rfl ?_
 repeat' first
  | ((first | show Dk.ER _ _ _ | show Dk.ba _ _ | show Dk.EF _ _ _ | show Dk.EO _ _ _ | show Dk.EP _ _ | show Dk.aX _ _ _ _ | show Dk.aq _ _ _ _ | show Dk.Kp _ _ _ _ | show Dk.bn _ _ | show Dk.bb _ _ _ _); repeat' first | exact rfl | (refine @id.{0} _ ?_; constructor))
  | intro _
  | exact rfl
  | (refine @id.{0} _ ?_; constructor)
  | apply Dk.any (id:=1) 10 [] [] [[],[0],[1,0],[2,1,0],[],[4],[5,4],[6,5,4,3,2,1,0],[],[]] (by kernel_rfl)
  | apply Dk.any (id:=2) 8 [] [] [[],[0],[1,0],[2,1,0],[],[4],[5,4],[6,5,4]] (by kernel_rfl)
  | apply c73
  | apply ZB
  | exact ()
theorem c85 {x0:iY} {dE:Addr} {dG:Value} {dQ:Value} {cT:Value} {cR:Value} {dH:Value} {dR:Value} {cU:Value} {cS:Value} {dU:Value} {dY:Value} {dV:Value} {eB:Value} {dS:Value} {dM:Value} {dW:Value} {eC:Value} {dT:Value} {dN:Value} {eG:Value} {eL:Value} {qG:Addr} {bX:Value} {cE:Value} {bQ:Value} {bK:Value} {bY:Value} {cF:Value} {bR:Value} {bL:Value} {cL:Value} {cN:Value} {mG:Value} {kO:Value}:Ct Tryz.prog 85 true (kX x0) [.pointer (some (dE))] [.au dE [.int .i64 (x0.D.aE.aA),dG,dQ,cT,cR,.int .i64 (x0.D.aH.aA),dH,dR,cU,cS,dU,dY,.int .i64 (x0.cq.aE.aA),dV,eB,dS,dM,.int .i64 (x0.cq.aH.aA),dW,eC,dT,dN,eG,eL,.pointer (some (qG)),mG,kO],.au qG [.int .i64 (x0.F.aE.aA),bX,cE,bQ,bK,.int .i64 (x0.F.aH.aA),bY,cF,bR,bL,cL,cN],.rd false (aB (aC .i64)) dG x0.D.aE.aF,.rd false (aB (aC .i64)) dQ x0.D.aE.To,.rd false (aB (aC .i64)) cT x0.D.aE.aJ,.rd false (aB (aB (aC .i64))) cR x0.D.aE.aD,.rd false (aB (aC .i64)) dH x0.D.aH.aF,.rd false (aB (aC .i64)) dR x0.D.aH.To,.rd false (aB (aC .i64)) cU x0.D.aH.aJ,.rd false (aB (aB (aC .i64))) cS x0.D.aH.aD,.rd false (aB (aC .i64)) dU x0.D.aA,.rd false (aB (aC .i64)) dY x0.D.ab,.rd false (aB (aC .i64)) dV x0.cq.aE.aF,.rd false (aB (aC .i64)) eB x0.cq.aE.To,.rd false (aB (aC .i64)) dS x0.cq.aE.aJ,.rd false (aB (aB (aC .i64))) dM x0.cq.aE.aD,.rd false (aB (aC .i64)) dW x0.cq.aH.aF,.rd false (aB (aC .i64)) eC x0.cq.aH.To,.rd false (aB (aC .i64)) dT x0.cq.aH.aJ,.rd false (aB (aB (aC .i64))) dN x0.cq.aH.aD,.rd false (aB (aC .i64)) eG x0.cq.aA,.rd false (aB (aC .i64)) eL x0.cq.ab,.rd false (aB (aC .i64)) bX x0.F.aE.aF,.rd false (aB (aC .i64)) cE x0.F.aE.To,.rd false (aB (aC .i64)) bQ x0.F.aE.aJ,.rd false (aB (aB (aC .i64))) bK x0.F.aE.aD,.rd false (aB (aC .i64)) bY x0.F.aH.aF,.rd false (aB (aC .i64)) cF x0.F.aH.To,.rd false (aB (aC .i64)) bR x0.F.aH.aJ,.rd false (aB (aB (aC .i64))) bL x0.F.aH.aD,.rd false (aB (aC .i64)) cL x0.F.aA,.rd false (aB (aC .i64)) cN x0.F.ab,.rd false (aB (iy kz)) mG x0.FE,.rd false (aB (iy kz)) kO x0.ED] (fun y (_:Unit)=>[.bool y.1,.bool y.2]) (fun y _=>[]):=by
 refine ct (S:=Unit) (ca fun _ _=>rfl) Tryz.func85 rfl rfl ?_
 repeat' first
  | ((first | show Dk.ER _ _ _ | show Dk.ba _ _ | show Dk.EF _ _ _ | show Dk.EO _ _ _ | show Dk.EP _ _ | show Dk.aX _ _ _ _ | show Dk.aq _ _ _ _ | show Dk.Kp _ _ _ _ | show Dk.bn _ _ | show Dk.bb _ _ _ _); repeat' first | exact rfl | (refine @id.{0} _ ?_; constructor))
  | intro _
  | exact rfl
  | (refine @id.{0} _ ?_; constructor)
  | apply ady
  | apply c90
  | exact ()
end Go.Proofs.YtgjbmjjihmfppaaGreat
