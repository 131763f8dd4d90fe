/- Walks by the calculus D. No condition beside those that each theorem names. -/
import Derived.Test.YtgjbmjjihmfppaaGreatDp
import Derived.Test.YtgjbmjjihmfppaaGreatDi
import Derived.Test.YtgjbmjjihmfppaaGreatMo
import Derived.Test.YtgjbmjjihmfppaaGreatDs
import Derived.Test.YtgjbmjjihmfppaaGreatWa
import Derived.Test.YtgjbmjjihmfppaaGreatWb
import Derived.Test.YtgjbmjjihmfppaaGreatWc
import Derived.Test.YtgjbmjjihmfppaaGreatWd
namespace Go.Proofs.YtgjbmjjihmfppaaGreat
open Go Go.Li Go.Dk
set_option linter.unusedVariables false
set_option maxHeartbeats 16000000
set_option maxRecDepth 100000
theorem Ym {x0:(List (List Int))} {dC:Value}:Ct Tryz.prog 137 true (gL x0) [dC] [rJ dC x0] (fun y (v:Value×Value×Value×Value)=>[.agg #[.int .i64 y.aA,v.1,v.2.1,v.2.2.1,v.2.2.2]]) (fun y v=>[.own (aJ 2 (aM .i64)) v.1 y.aD,.own (aJ 2 (aM .i64)) v.2.1 y.To,.own (aJ 2 (aM .i64)) v.2.2.1 y.aH,.own (aJ 24 (aJ 2 (aM .i64))) v.2.2.2 y.aB]):=by
 refine ct (S:=Unit) (b9 fun _ _=>rfl) Tryz.func137 rfl rfl ?_
 repeat' first
  | (apply Dk.fe; repeat' first | exact rfl | (refine @id.{0} _ ?_; constructor))
  | intro _
  | exact rfl
  | (refine @id.{0} _ ?_; constructor)
  | apply Dk.any (id:=2) 7 [] [] [[],[0,0],[],[2,2],[],[],[5]] (by kernel_rfl)
  | apply X9
  | exact ()
theorem aeV {x0:aG} {dR:Addr} {aS aY aN aL:Value}:Ct Tryz.prog 139 true (iG x0) [.pointer (some (dR))] [.au dR [.int .i64 (x0.aA),aS,aY,aN,aL],rI aS x0.aD,rI aY x0.To,rI aN x0.aH,rJ aL x0.aB] (fun y (_:Unit)=>[.bool y]) (fun y _=>[]):=by
 refine ct (S:=Unit) (b9 fun _ _=>rfl) Tryz.func139 rfl rfl ?_
 repeat' first
  | (apply Dk.fe; repeat' first | exact rfl | (refine @id.{0} _ ?_; constructor))
  | intro _
  | exact rfl
  | (refine @id.{0} _ ?_; constructor)
  | apply Dk.loop 0 (V:=Unit) (fun (s:Int) v=>[]) (fun s v=>[(88,.int .i64 (s))]) () [(0,_),(3,_),(86,_),(87,_)]
  | apply Dk.loop 2 (V:=Unit) (fun (s:Int) v=>[]) (fun s v=>[(106,.int .i64 (s))]) () [(0,_),(3,_),(104,_),(105,_)]
  | apply Dk.loop 4 (V:=Unit) (fun (s:Int) v=>[]) (fun s v=>[(117,.int .i64 (s))]) () [(0,_),(3,_),(6,_),(104,_),(105,_),(106,_),(115,_),(116,_)]
  | apply Dk.quiet (id:=2) (by kernel_rfl)
  | apply Dk.quiet (id:=4) (by kernel_rfl)
  | apply Dk.quiet (id:=20) (by kernel_rfl)
  | apply Dk.quiet (id:=23) (by kernel_rfl)
  | apply Tb
  | apply c92
  | apply c93
  | apply c95
  | exact ()
theorem aeW {x0:aG} {dR:Addr} {aS aY aN aL:Value}:Ct Tryz.prog 105 true (fX x0) [.pointer (some (dR))] [.au dR [.int .i64 (x0.aA),aS,aY,aN,aL],rI aS x0.aD,rI aY x0.To,rI aN x0.aH,rJ aL x0.aB] (fun y (_:Unit)=>[.bool y]) (fun y _=>[]):=by
 refine ct (S:=Unit) (b9 fun _ _=>rfl) Tryz.func105 rfl rfl ?_
 repeat' first
  | (apply Dk.fe; repeat' first | exact rfl | (refine @id.{0} _ ?_; constructor))
  | intro _
  | exact rfl
  | (refine @id.{0} _ ?_; constructor)
  | apply aeV
  | apply aeD
  | exact ()
theorem c54 {x0:aG} {dR:Addr} {aS aY aN aL:Value} {x1:aG} {qY:Addr} {bU cI bB aW:Value}:Ct Tryz.prog 54 true (kK x0 x1) [.pointer (some (dR)),.pointer (some (qY))] [.au qY [.int .i64 (x1.aA),bU,cI,bB,aW],.au dR [.int .i64 (x0.aA),aS,aY,aN,aL],rI aS x0.aD,rI aY x0.To,rI aN x0.aH,rJ aL x0.aB,rI bU x1.aD,rI cI x1.To,rI bB x1.aH,rJ aW x1.aB] (fun y (_:Unit)=>[.bool y]) (fun y _=>[]):=by
 refine ct (S:=Unit) (b9 fun _ _=>rfl) Tryz.func54 rfl rfl ?_
 repeat' first
  | (apply Dk.fe; repeat' first | exact rfl | (refine @id.{0} _ ?_; constructor))
  | intro _
  | exact rfl
  | (refine @id.{0} _ ?_; constructor)
  | apply Dk.loop 0 (V:=Unit) (fun (s:Int) v=>[]) (fun s v=>[(69,.int .i64 (s))]) () [(0,_),(1,_),(68,_)]
  | apply Dk.quiet (id:=1) (by kernel_rfl)
  | apply Dk.quiet (id:=6) (by kernel_rfl)
  | apply c97
  | exact ()
theorem Tc {x0:aI} {dR:Addr} {aU aZ aQ aO aV bA aR aP bK bP:Value} {x1:(List bG)} {eA:Value} {x2:bG} {lD:Value}:Ct Tryz.prog 77 true (eH x0 x1 x2) [.pointer (some (dR)),eA,.agg #[.int .i64 (x2.dy),lD]] [.au dR [.int .i64 (x0.aC.aA),aU,aZ,aQ,aO,.int .i64 (x0.aE.aA),aV,bA,aR,aP,bK,bP],rI aU x0.aC.aD,rI aZ x0.aC.To,rI aQ x0.aC.aH,rJ aO x0.aC.aB,rI aV x0.aE.aD,rI bA x0.aE.To,rI aR x0.aE.aH,rJ aP x0.aE.aB,rI bK x0.aA,rI bP x0.ab,.rd false (bJ (iq kp)) eA x1,rI lD x2.br] (fun y (_:Unit)=>[.bool y]) (fun y _=>[]):=by
 refine ct (S:=Unit) (b9 fun _ _=>rfl) Tryz.func77 rfl rfl ?_
 repeat' first
  | (apply Dk.fe; repeat' first | exact rfl | (refine @id.{0} _ ?_; constructor))
  | intro _
  | exact rfl
  | (refine @id.{0} _ ?_; constructor)
  | apply Dk.loop 0 (V:=Unit) (fun (s:Int) v=>[]) (fun s v=>[(11,.int .i64 (s))]) () [(0,_),(5,_),(9,_),(10,_)]
  | apply c78
  | exact ()
theorem aeX {x0:dZ} {dR:Addr} {dN dX cX cT dP dY cY cU eB eD cZ dG cR cO dA dH cS cP dQ dT:Value} {kC:Addr} {bS bY bH bC bT bZ bI bD cE cJ gE fE:Value}:Ct Tryz.prog 125 false (kM x0) [.pointer (some (dR))] [.au dR [.int .i64 (x0.D.aC.aA),dN,dX,cX,cT,.int .i64 (x0.D.aE.aA),dP,dY,cY,cU,eB,eD,.int .i64 (x0.bh.aC.aA),cZ,dG,cR,cO,.int .i64 (x0.bh.aE.aA),dA,dH,cS,cP,dQ,dT,.pointer (some (kC)),gE,fE],.au kC [.int .i64 (x0.F.aC.aA),bS,bY,bH,bC,.int .i64 (x0.F.aE.aA),bT,bZ,bI,bD,cE,cJ],rI dN x0.D.aC.aD,rI dX x0.D.aC.To,rI cX x0.D.aC.aH,rJ cT x0.D.aC.aB,rI dP x0.D.aE.aD,rI dY x0.D.aE.To,rI cY x0.D.aE.aH,rJ cU x0.D.aE.aB,rI eB x0.D.aA,rI eD x0.D.ab,rI cZ x0.bh.aC.aD,rI dG x0.bh.aC.To,rI cR x0.bh.aC.aH,rJ cO x0.bh.aC.aB,rI dA x0.bh.aE.aD,rI dH x0.bh.aE.To,rI cS x0.bh.aE.aH,rJ cP x0.bh.aE.aB,rI dQ x0.bh.aA,rI dT x0.bh.ab,rI bS x0.F.aC.aD,rI bY x0.F.aC.To,rI bH x0.F.aC.aH,rJ bC x0.F.aC.aB,rI bT x0.F.aE.aD,rI bZ x0.F.aE.To,rI bI x0.F.aE.aH,rJ bD x0.F.aE.aB,rI cE x0.F.aA,rI cJ x0.F.ab,.rd false (bJ (iq kp)) gE x0.wR,.rd false (bJ (iq kp)) fE x0.xi] (fun y (v:Value)=>[v]) (fun y v=>[.rd false (bJ (iq kp)) v y]):=by
 refine ct (S:=Unit) vK Tryz.func125 rfl rfl ?_
 repeat' first
  | (apply Dk.fe; repeat' first | exact rfl | (refine @id.{0} _ ?_; constructor))
  | intro _
  | exact rfl
  | apply Dk.VU (t:=83) (S:=kp)
  | apply Dk.Si (t:=83) (bG.mk _ _)
  | (refine @id.{0} _ ?_; constructor)
  | apply Dk.wq 0 (V:=Value) (W:=List (List Value)) (fun (s:List bG×Int) v u=>[.own (aJ 32 (ee 2)) v u,.rd false (qt kp) (.bool true) (u,s.1)]) (fun s v u=>[(3,v),(12,.int .i64 s.2)]) _ _ [(0,_),(10,_),(11,_)]
  | apply Dk.quiet (id:=5) (by kernel_rfl)
  | apply Tc
  | exact ()
theorem c90 {x0:dZ} {dR:Addr} {dN dX cX cT dP dY cY cU eB eD cZ dG cR cO dA dH cS cP dQ dT:Value} {kC:Addr} {bS bY bH bC bT bZ bI bD cE cJ gE fE:Value} {x1:bG} {qJ:Value}:Ct Tryz.prog 90 true (fN x0 x1) [.pointer (some (dR)),.agg #[.int .i64 (x1.dy),qJ]] [.au dR [.int .i64 (x0.D.aC.aA),dN,dX,cX,cT,.int .i64 (x0.D.aE.aA),dP,dY,cY,cU,eB,eD,.int .i64 (x0.bh.aC.aA),cZ,dG,cR,cO,.int .i64 (x0.bh.aE.aA),dA,dH,cS,cP,dQ,dT,.pointer (some (kC)),gE,fE],.au kC [.int .i64 (x0.F.aC.aA),bS,bY,bH,bC,.int .i64 (x0.F.aE.aA),bT,bZ,bI,bD,cE,cJ],rI dN x0.D.aC.aD,rI dX x0.D.aC.To,rI cX x0.D.aC.aH,rJ cT x0.D.aC.aB,rI dP x0.D.aE.aD,rI dY x0.D.aE.To,rI cY x0.D.aE.aH,rJ cU x0.D.aE.aB,rI eB x0.D.aA,rI eD x0.D.ab,rI cZ x0.bh.aC.aD,rI dG x0.bh.aC.To,rI cR x0.bh.aC.aH,rJ cO x0.bh.aC.aB,rI dA x0.bh.aE.aD,rI dH x0.bh.aE.To,rI cS x0.bh.aE.aH,rJ cP x0.bh.aE.aB,rI dQ x0.bh.aA,rI dT x0.bh.ab,rI bS x0.F.aC.aD,rI bY x0.F.aC.To,rI bH x0.F.aC.aH,rJ bC x0.F.aC.aB,rI bT x0.F.aE.aD,rI bZ x0.F.aE.To,rI bI x0.F.aE.aH,rJ bD x0.F.aE.aB,rI cE x0.F.aA,rI cJ x0.F.ab,.rd false (bJ (iq kp)) gE x0.wR,.rd false (bJ (iq kp)) fE x0.xi,rI qJ x1.br] (fun y (_:Unit)=>[.bool y]) (fun y _=>[]):=by
 refine ct (S:=Unit) (b9 fun _ _=>rfl) Tryz.func90 rfl rfl ?_
 repeat' first
  | (apply Dk.fe; repeat' first | exact rfl | (refine @id.{0} _ ?_; constructor))
  | intro _
  | exact rfl
  | (refine @id.{0} _ ?_; constructor)
  | apply Dk.any (id:=1) 13 [] [] [[],[0],[1,0],[],[3],[4,3],[5,4,3],[],[],[8],[9,8],[10,9,8],[7,11,10,9,8]] (by kernel_rfl)
  | apply c55
  | apply Tc
  | exact ()
theorem c51 {x0:dZ} {dR:Addr} {dN dX cX cT dP dY cY cU eB eD cZ dG cR cO dA dH cS cP dQ dT:Value} {kC:Addr} {bS bY bH bC bT bZ bI bD cE cJ gE fE:Value}:Ct Tryz.prog 51 true (fA x0) [.pointer (some (dR))] [.au dR [.int .i64 (x0.D.aC.aA),dN,dX,cX,cT,.int .i64 (x0.D.aE.aA),dP,dY,cY,cU,eB,eD,.int .i64 (x0.bh.aC.aA),cZ,dG,cR,cO,.int .i64 (x0.bh.aE.aA),dA,dH,cS,cP,dQ,dT,.pointer (some (kC)),gE,fE],.au kC [.int .i64 (x0.F.aC.aA),bS,bY,bH,bC,.int .i64 (x0.F.aE.aA),bT,bZ,bI,bD,cE,cJ],rI dN x0.D.aC.aD,rI dX x0.D.aC.To,rI cX x0.D.aC.aH,rJ cT x0.D.aC.aB,rI dP x0.D.aE.aD,rI dY x0.D.aE.To,rI cY x0.D.aE.aH,rJ cU x0.D.aE.aB,rI eB x0.D.aA,rI eD x0.D.ab,rI cZ x0.bh.aC.aD,rI dG x0.bh.aC.To,rI cR x0.bh.aC.aH,rJ cO x0.bh.aC.aB,rI dA x0.bh.aE.aD,rI dH x0.bh.aE.To,rI cS x0.bh.aE.aH,rJ cP x0.bh.aE.aB,rI dQ x0.bh.aA,rI dT x0.bh.ab,rI bS x0.F.aC.aD,rI bY x0.F.aC.To,rI bH x0.F.aC.aH,rJ bC x0.F.aC.aB,rI bT x0.F.aE.aD,rI bZ x0.F.aE.To,rI bI x0.F.aE.aH,rJ bD x0.F.aE.aB,rI cE x0.F.aA,rI cJ x0.F.ab,.rd false (bJ (iq kp)) gE x0.wR,.rd false (bJ (iq kp)) fE x0.xi] (fun y (_:Unit)=>[.bool y]) (fun y _=>[]):=by
 refine ct (S:=Unit) (b9 fun _ _=>rfl) Tryz.func51 rfl rfl ?_
 repeat' first
  | (apply Dk.fe; repeat' first | exact rfl | (refine @id.{0} _ ?_; constructor))
  | intro _
  | exact rfl
  | (apply Dk.clR 79; · (repeat (first | exact Dk.di.own (by repeat constructor) | apply Dk.di.there)))
  | (show Dk.D _ _ (Dk.Jd.e _ _ _ _ _ _ _ _ _ _); first | apply Dk.mkR (t:=118) kp 32 2 | apply Dk.lkR (t:=118) | apply Dk.puR (t:=118) | apply Dk.crR (t:=118) | apply Dk.Si (t:=83) (bG.mk _ _) | apply Dk.VV (t:=83) (x:=.tmp 62) | apply Dk.Z9 (t:=83) (x:=.tmp 74))
  | apply Dk.NH (n:=2) (d:=76)
  | (refine @id.{0} _ ?_; constructor)
  | apply Dk.wq 0 (V:=Value) (W:=List (ByteArray×Value×List (List Value))) (fun (s:List (ByteArray×List bG)×Int) v u=>[.own (zT (fun s:ByteArray=>Value.string s) (aJ 32 (ee 2)) none) v u,.rd false (Iq kp) (.bool true) (u,s.1)]) (fun s v u=>[(3,v),(17,.int .i64 s.2)]) _ _ [(0,_),(15,_),(16,_)]
  | apply Dk.loop 2 (V:=Unit) (fun (s:Bool×Int) v=>[]) (fun s v=>[(7,.bool s.1),(42,.int .i64 s.2)]) () [(0,_),(3,_),(40,_),(41,_)]
  | apply Dk.quiet (id:=12) (by kernel_rfl)
  | apply Dk.quiet (id:=14) (by kernel_rfl)
  | apply Dk.any (id:=5) 5 [] [] [[],[],[1],[2,1],[3,2,1]] (by kernel_rfl)
  | apply c55
  | apply c91
  | apply Tc
  | exact ()
end Go.Proofs.YtgjbmjjihmfppaaGreat
