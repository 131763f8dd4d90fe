/- Walks by the calculus D. No condition beside those that each theorem names. -/
import Derived.Test.YtgjbmjjihmfppaaGreatDp
import Derived.Test.YtgjbmjjihmfppaaGreatDi
import Derived.Test.YtgjbmjjihmfppaaGreatMo
import Derived.Test.YtgjbmjjihmfppaaGreatDs
import Derived.Test.YtgjbmjjihmfppaaGreatWe
import Derived.Test.YtgjbmjjihmfppaaGreatWf
import Derived.Test.YtgjbmjjihmfppaaGreatWg
namespace Go.Proofs.YtgjbmjjihmfppaaGreat
open Go Go.Li Go.Dk
set_option linter.unusedVariables false
set_option maxHeartbeats 16000000
set_option maxRecDepth 100000
theorem c42 {x0:aI} {dG:Addr} {aS aV aQ aO aT aW aR aP bC bG:Value}:Ct Tryz.prog 42 true (kN x0) [.pointer (some (dG))] [.ay dG [.int .i64 (x0.aC.aA),aS,aV,aQ,aO,.int .i64 (x0.aD.aA),aT,aW,aR,aP,bC,bG],rI aS x0.aC.aE,rI aV x0.aC.To,rI aQ x0.aC.aH,rJ aO x0.aC.aB,rI aT x0.aD.aE,rI aW x0.aD.To,rI aR x0.aD.aH,rJ aP x0.aD.aB,rI bC x0.aA,rI bG x0.ab] (fun y (v:Value×Value×Value×Value×Value×Value×Value×Value×Value×Value)=>[.agg #[.int .i64 y.aC.aA,v.1,v.2.1,v.2.2.1,v.2.2.2.1,.int .i64 y.aD.aA,v.2.2.2.2.1,v.2.2.2.2.2.1,v.2.2.2.2.2.2.1,v.2.2.2.2.2.2.2.1,v.2.2.2.2.2.2.2.2.1,v.2.2.2.2.2.2.2.2.2]]) (fun y v=>[.own (aJ 2 (aM .i64)) v.1 y.aC.aE,.own (aJ 2 (aM .i64)) v.2.1 y.aC.To,.own (aJ 2 (aM .i64)) v.2.2.1 y.aC.aH,.own (aJ 24 (aJ 2 (aM .i64))) v.2.2.2.1 y.aC.aB,.own (aJ 2 (aM .i64)) v.2.2.2.2.1 y.aD.aE,.own (aJ 2 (aM .i64)) v.2.2.2.2.2.1 y.aD.To,.own (aJ 2 (aM .i64)) v.2.2.2.2.2.2.1 y.aD.aH,.own (aJ 24 (aJ 2 (aM .i64))) v.2.2.2.2.2.2.2.1 y.aD.aB,.own (aJ 2 (aM .i64)) v.2.2.2.2.2.2.2.2.1 y.aA,.own (aJ 2 (aM .i64)) v.2.2.2.2.2.2.2.2.2 y.ab]):=by
 refine ct (S:=Unit) (ca fun _ _=>rfl) Tryz.func42 rfl rfl ?_
 repeat' first
  | (apply Dk.fe; repeat' first | exact rfl | (refine @id.{0} _ ?_; constructor))
  | intro _
  | exact rfl
  | (refine @id.{0} _ ?_; constructor)
  | apply Dk.any (id:=1) 10 [] [] [[],[0],[1,0],[2,1,0],[],[4],[5,4],[6,5,4,3,2,1,0],[],[]] (by kernel_rfl)
  | apply Dk.any (id:=2) 8 [] [] [[],[0],[1,0],[2,1,0],[],[4],[5,4],[6,5,4]] (by kernel_rfl)
  | apply c73
  | apply c74
  | exact ()
theorem c50 {x0:eB} {dG:Addr} {dP dY cY cT dQ dZ cZ cU eA eD dA dJ cR cN dB dK cS cO dR dU:Value} {jV:Addr} {bS bY bJ bE bT bZ bK bF cD cI fY fC:Value}:Ct Tryz.prog 50 true (gC x0) [.pointer (some (dG))] [.ay dG [.int .i64 (x0.D.aC.aA),dP,dY,cY,cT,.int .i64 (x0.D.aD.aA),dQ,dZ,cZ,cU,eA,eD,.int .i64 (x0.bu.aC.aA),dA,dJ,cR,cN,.int .i64 (x0.bu.aD.aA),dB,dK,cS,cO,dR,dU,.pointer (some (jV)),fY,fC],.ay jV [.int .i64 (x0.F.aC.aA),bS,bY,bJ,bE,.int .i64 (x0.F.aD.aA),bT,bZ,bK,bF,cD,cI],rI dP x0.D.aC.aE,rI dY x0.D.aC.To,rI cY x0.D.aC.aH,rJ cT x0.D.aC.aB,rI dQ x0.D.aD.aE,rI dZ x0.D.aD.To,rI cZ x0.D.aD.aH,rJ cU x0.D.aD.aB,rI eA x0.D.aA,rI eD x0.D.ab,rI dA x0.bu.aC.aE,rI dJ x0.bu.aC.To,rI cR x0.bu.aC.aH,rJ cN x0.bu.aC.aB,rI dB x0.bu.aD.aE,rI dK x0.bu.aD.To,rI cS x0.bu.aD.aH,rJ cO x0.bu.aD.aB,rI dR x0.bu.aA,rI dU x0.bu.ab,rI bS x0.F.aC.aE,rI bY x0.F.aC.To,rI bJ x0.F.aC.aH,rJ bE x0.F.aC.aB,rI bT x0.F.aD.aE,rI bZ x0.F.aD.To,rI bK x0.F.aD.aH,rJ bF x0.F.aD.aB,rI cD x0.F.aA,rI cI x0.F.ab,.rd false (bL (iu kj)) fY x0.xM,.rd false (bL (iu kj)) fC x0.yE] (fun y (_:Unit)=>[.bool y]) (fun y _=>[]):=by
 refine ct (S:=Unit) (ca fun _ _=>rfl) Tryz.func50 rfl rfl ?_
 repeat' first
  | (apply Dk.fe; repeat' first | exact rfl | (refine @id.{0} _ ?_; constructor))
  | intro _
  | exact rfl
  | (refine @id.{0} _ ?_; constructor)
  | apply Dk.loop 0 (V:=Unit) (fun (s:Int) v=>[]) (fun s v=>[(10,.int .i64 (s))]) () [(0,_),(8,_),(9,_)]
  | apply Dk.quiet (id:=4) (by kernel_rfl)
  | apply c90
  | apply Py
  | exact ()
theorem c85 {x0:eB} {dG:Addr} {dP dY cY cT dQ dZ cZ cU eA eD dA dJ cR cN dB dK cS cO dR dU:Value} {jV:Addr} {bS bY bJ bE bT bZ bK bF cD cI fY fC:Value}:Ct Tryz.prog 85 true (lH x0) [.pointer (some (dG))] [.ay dG [.int .i64 (x0.D.aC.aA),dP,dY,cY,cT,.int .i64 (x0.D.aD.aA),dQ,dZ,cZ,cU,eA,eD,.int .i64 (x0.bu.aC.aA),dA,dJ,cR,cN,.int .i64 (x0.bu.aD.aA),dB,dK,cS,cO,dR,dU,.pointer (some (jV)),fY,fC],.ay jV [.int .i64 (x0.F.aC.aA),bS,bY,bJ,bE,.int .i64 (x0.F.aD.aA),bT,bZ,bK,bF,cD,cI],rI dP x0.D.aC.aE,rI dY x0.D.aC.To,rI cY x0.D.aC.aH,rJ cT x0.D.aC.aB,rI dQ x0.D.aD.aE,rI dZ x0.D.aD.To,rI cZ x0.D.aD.aH,rJ cU x0.D.aD.aB,rI eA x0.D.aA,rI eD x0.D.ab,rI dA x0.bu.aC.aE,rI dJ x0.bu.aC.To,rI cR x0.bu.aC.aH,rJ cN x0.bu.aC.aB,rI dB x0.bu.aD.aE,rI dK x0.bu.aD.To,rI cS x0.bu.aD.aH,rJ cO x0.bu.aD.aB,rI dR x0.bu.aA,rI dU x0.bu.ab,rI bS x0.F.aC.aE,rI bY x0.F.aC.To,rI bJ x0.F.aC.aH,rJ bE x0.F.aC.aB,rI bT x0.F.aD.aE,rI bZ x0.F.aD.To,rI bK x0.F.aD.aH,rJ bF x0.F.aD.aB,rI cD x0.F.aA,rI cI x0.F.ab,.rd false (bL (iu kj)) fY x0.xM,.rd false (bL (iu kj)) fC x0.yE] (fun y (_:Unit)=>[.bool y.1,.bool y.2]) (fun y _=>[]):=by
 refine ct (S:=Unit) (ca fun _ _=>rfl) Tryz.func85 rfl rfl ?_
 repeat' first
  | (apply Dk.fe; repeat' first | exact rfl | (refine @id.{0} _ ?_; constructor))
  | intro _
  | exact rfl
  | (refine @id.{0} _ ?_; constructor)
  | apply afC
  | apply c90
  | exact ()
end Go.Proofs.YtgjbmjjihmfppaaGreat
