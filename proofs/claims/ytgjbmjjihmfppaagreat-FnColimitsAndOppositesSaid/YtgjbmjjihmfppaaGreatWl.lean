/- Walks by the calculus D. No condition beside those that each theorem names. -/
import Derived.Test.YtgjbmjjihmfppaaGreatDp
import Derived.Test.YtgjbmjjihmfppaaGreatDi
import Derived.Test.YtgjbmjjihmfppaaGreatMo
import Derived.Test.YtgjbmjjihmfppaaGreatDs
import Derived.Test.YtgjbmjjihmfppaaGreatWa
import Derived.Test.YtgjbmjjihmfppaaGreatWe
import Derived.Test.YtgjbmjjihmfppaaGreatWg
namespace Go.Proofs.YtgjbmjjihmfppaaGreat
open Go Go.Li Go.Dk
set_option linter.unusedVariables false
set_option maxHeartbeats 16000000
set_option maxRecDepth 100000
theorem c85 {x0:dZ} {dR:Addr} {dN dX cX cT dP dY cY cU eB eD cZ dG cR cO dA dH cS cP dQ dT:Value} {kC:Addr} {bS bY bH bC bT bZ bI bD cE cJ gE fE:Value}:Ct Tryz.prog 85 true (fL x0) [.pointer (some (dR))] [.au dR [.int .i64 (x0.D.aC.aA),dN,dX,cX,cT,.int .i64 (x0.D.aE.aA),dP,dY,cY,cU,eB,eD,.int .i64 (x0.bh.aC.aA),cZ,dG,cR,cO,.int .i64 (x0.bh.aE.aA),dA,dH,cS,cP,dQ,dT,.pointer (some (kC)),gE,fE],.au kC [.int .i64 (x0.F.aC.aA),bS,bY,bH,bC,.int .i64 (x0.F.aE.aA),bT,bZ,bI,bD,cE,cJ],rI dN x0.D.aC.aD,rI dX x0.D.aC.To,rI cX x0.D.aC.aH,rJ cT x0.D.aC.aB,rI dP x0.D.aE.aD,rI dY x0.D.aE.To,rI cY x0.D.aE.aH,rJ cU x0.D.aE.aB,rI eB x0.D.aA,rI eD x0.D.ab,rI cZ x0.bh.aC.aD,rI dG x0.bh.aC.To,rI cR x0.bh.aC.aH,rJ cO x0.bh.aC.aB,rI dA x0.bh.aE.aD,rI dH x0.bh.aE.To,rI cS x0.bh.aE.aH,rJ cP x0.bh.aE.aB,rI dQ x0.bh.aA,rI dT x0.bh.ab,rI bS x0.F.aC.aD,rI bY x0.F.aC.To,rI bH x0.F.aC.aH,rJ bC x0.F.aC.aB,rI bT x0.F.aE.aD,rI bZ x0.F.aE.To,rI bI x0.F.aE.aH,rJ bD x0.F.aE.aB,rI cE x0.F.aA,rI cJ x0.F.ab,.rd false (bJ (iq kp)) gE x0.wR,.rd false (bJ (iq kp)) fE x0.xi] (fun y (_:Unit)=>[.bool y.1,.bool y.2]) (fun y _=>[]):=by
 refine ct (S:=Unit) (b9 fun _ _=>rfl) Tryz.func85 rfl rfl ?_
 repeat' first
  | (apply Dk.fe; repeat' first | exact rfl | (refine @id.{0} _ ?_; constructor))
  | intro _
  | exact rfl
  | (refine @id.{0} _ ?_; constructor)
  | apply aeX
  | apply c90
  | exact ()
theorem c40 {x0:aI} {aU aZ aQ aO aV bA aR aP bK bP:Value}:Ct Tryz.prog 40 true (iR x0) [.agg #[.int .i64 (x0.aC.aA),aU,aZ,aQ,aO,.int .i64 (x0.aE.aA),aV,bA,aR,aP,bK,bP]] [rI aU x0.aC.aD,rI aZ x0.aC.To,rI aQ x0.aC.aH,rJ aO x0.aC.aB,rI aV x0.aE.aD,rI bA x0.aE.To,rI aR x0.aE.aH,rJ aP x0.aE.aB,rI bK x0.aA,rI bP x0.ab] (fun y (v:Value×Value×Value×Value×Value×Value×Value×Value×Value×Value)=>[.agg #[.int .i64 y.aC.aA,v.1,v.2.1,v.2.2.1,v.2.2.2.1,.int .i64 y.aE.aA,v.2.2.2.2.1,v.2.2.2.2.2.1,v.2.2.2.2.2.2.1,v.2.2.2.2.2.2.2.1,v.2.2.2.2.2.2.2.2.1,v.2.2.2.2.2.2.2.2.2]]) (fun y v=>[.own (aJ 2 (aM .i64)) v.1 y.aC.aD,.own (aJ 2 (aM .i64)) v.2.1 y.aC.To,.own (aJ 2 (aM .i64)) v.2.2.1 y.aC.aH,.own (aJ 24 (aJ 2 (aM .i64))) v.2.2.2.1 y.aC.aB,.own (aJ 2 (aM .i64)) v.2.2.2.2.1 y.aE.aD,.own (aJ 2 (aM .i64)) v.2.2.2.2.2.1 y.aE.To,.own (aJ 2 (aM .i64)) v.2.2.2.2.2.2.1 y.aE.aH,.own (aJ 24 (aJ 2 (aM .i64))) v.2.2.2.2.2.2.2.1 y.aE.aB,.own (aJ 2 (aM .i64)) v.2.2.2.2.2.2.2.2.1 y.aA,.own (aJ 2 (aM .i64)) v.2.2.2.2.2.2.2.2.2 y.ab]):=by
 refine ct (S:=Unit) (b9 fun _ _=>rfl) Tryz.func40 rfl rfl ?_
 repeat' first
  | (apply Dk.fe; repeat' first | exact rfl | (refine @id.{0} _ ?_; constructor))
  | intro _
  | exact rfl
  | (refine @id.{0} _ ?_; constructor)
  | apply Dk.any (id:=1) 10 [] [] [[],[0],[1,0],[],[3],[4,3,2,1,0],[],[6],[],[8]] (by kernel_rfl)
  | apply Ya
  | apply O5
  | exact ()
theorem c50 {x0:dZ} {dR:Addr} {dN dX cX cT dP dY cY cU eB eD cZ dG cR cO dA dH cS cP dQ dT:Value} {kC:Addr} {bS bY bH bC bT bZ bI bD cE cJ gE fE:Value}:Ct Tryz.prog 50 true (eM x0) [.pointer (some (dR))] [.au dR [.int .i64 (x0.D.aC.aA),dN,dX,cX,cT,.int .i64 (x0.D.aE.aA),dP,dY,cY,cU,eB,eD,.int .i64 (x0.bh.aC.aA),cZ,dG,cR,cO,.int .i64 (x0.bh.aE.aA),dA,dH,cS,cP,dQ,dT,.pointer (some (kC)),gE,fE],.au kC [.int .i64 (x0.F.aC.aA),bS,bY,bH,bC,.int .i64 (x0.F.aE.aA),bT,bZ,bI,bD,cE,cJ],rI dN x0.D.aC.aD,rI dX x0.D.aC.To,rI cX x0.D.aC.aH,rJ cT x0.D.aC.aB,rI dP x0.D.aE.aD,rI dY x0.D.aE.To,rI cY x0.D.aE.aH,rJ cU x0.D.aE.aB,rI eB x0.D.aA,rI eD x0.D.ab,rI cZ x0.bh.aC.aD,rI dG x0.bh.aC.To,rI cR x0.bh.aC.aH,rJ cO x0.bh.aC.aB,rI dA x0.bh.aE.aD,rI dH x0.bh.aE.To,rI cS x0.bh.aE.aH,rJ cP x0.bh.aE.aB,rI dQ x0.bh.aA,rI dT x0.bh.ab,rI bS x0.F.aC.aD,rI bY x0.F.aC.To,rI bH x0.F.aC.aH,rJ bC x0.F.aC.aB,rI bT x0.F.aE.aD,rI bZ x0.F.aE.To,rI bI x0.F.aE.aH,rJ bD x0.F.aE.aB,rI cE x0.F.aA,rI cJ x0.F.ab,.rd false (bJ (iq kp)) gE x0.wR,.rd false (bJ (iq kp)) fE x0.xi] (fun y (_:Unit)=>[.bool y]) (fun y _=>[]):=by
 refine ct (S:=Unit) (b9 fun _ _=>rfl) Tryz.func50 rfl rfl ?_
 repeat' first
  | (apply Dk.fe; repeat' first | exact rfl | (refine @id.{0} _ ?_; constructor))
  | intro _
  | exact rfl
  | (refine @id.{0} _ ?_; constructor)
  | apply Dk.loop 0 (V:=Unit) (fun (s:Int) v=>[]) (fun s v=>[(10,.int .i64 (s))]) () [(0,_),(8,_),(9,_)]
  | apply Dk.quiet (id:=4) (by kernel_rfl)
  | apply c90
  | apply Tc
  | exact ()
end Go.Proofs.YtgjbmjjihmfppaaGreat
