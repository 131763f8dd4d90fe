/- Walks by the calculus D. No condition beside those that each theorem names. -/
import Derived.Test.YtgjbmjjihmfppaaGreatDp
import Derived.Test.YtgjbmjjihmfppaaGreatDi
import Derived.Test.YtgjbmjjihmfppaaGreatMo
import Derived.Test.YtgjbmjjihmfppaaGreatDs
import Derived.Test.YtgjbmjjihmfppaaGreatWa
import Derived.Test.YtgjbmjjihmfppaaGreatWb
import Derived.Test.YtgjbmjjihmfppaaGreatWc
import Derived.Test.YtgjbmjjihmfppaaGreatWd
namespace Go.Proofs.YtgjbmjjihmfppaaGreat
open Go Go.Li Go.Dk
set_option linter.unusedVariables false
set_option maxHeartbeats 16000000
set_option maxRecDepth 100000
theorem YY {x0:aG} {aU bB aN aL:Value} {x1:aG} {bU cG bD bA:Value}:Ct Tryz.prog 81 true (iF x0 x1) [.agg #[.int .i64 (x0.aA),aU,bB,aN,aL],.agg #[.int .i64 (x1.aA),bU,cG,bD,bA]] [rI aU x0.aE,rI bB x0.To,rI aN x0.aH,rJ aL x0.aB,rI bU x1.aE,rI cG x1.To,rI bD x1.aH,rJ bA x1.aB] (fun y (_:Unit)=>[.bool y]) (fun y _=>[]):=by
 refine ct (S:=Unit) (ca fun _ _=>rfl) Tryz.func81 rfl rfl ?_
 repeat' first
  | (apply Dk.fe; repeat' first | exact rfl | (refine @id.{0} _ ?_; constructor))
  | intro _
  | exact rfl
  | (apply Dk.N8 (t:=4); exact rfl)
  | (refine @id.{0} _ ?_; constructor)
  | apply afe
  | exact ()
theorem afA {x0:aG} {dG:Addr} {aU bB aN aL:Value}:Ct Tryz.prog 139 true (iC x0) [.pointer (some (dG))] [.ay dG [.int .i64 (x0.aA),aU,bB,aN,aL],rI aU x0.aE,rI bB x0.To,rI aN x0.aH,rJ aL x0.aB] (fun y (_:Unit)=>[.bool y]) (fun y _=>[]):=by
 refine ct (S:=Unit) (ca fun _ _=>rfl) Tryz.func139 rfl rfl ?_
 repeat' first
  | (apply Dk.fe; repeat' first | exact rfl | (refine @id.{0} _ ?_; constructor))
  | intro _
  | exact rfl
  | (refine @id.{0} _ ?_; constructor)
  | apply Dk.loop 0 (V:=Unit) (fun (s:Int) v=>[]) (fun s v=>[(88,.int .i64 (s))]) () [(0,_),(3,_),(86,_),(87,_)]
  | apply Dk.loop 2 (V:=Unit) (fun (s:Int) v=>[]) (fun s v=>[(106,.int .i64 (s))]) () [(0,_),(3,_),(104,_),(105,_)]
  | apply Dk.loop 4 (V:=Unit) (fun (s:Int) v=>[]) (fun s v=>[(117,.int .i64 (s))]) () [(0,_),(3,_),(6,_),(104,_),(105,_),(106,_),(115,_),(116,_)]
  | apply Dk.quiet (id:=2) (by kernel_rfl)
  | apply Dk.quiet (id:=4) (by kernel_rfl)
  | apply Dk.quiet (id:=20) (by kernel_rfl)
  | apply Dk.quiet (id:=23) (by kernel_rfl)
  | apply Pw
  | apply c92
  | apply YX
  | apply c95
  | exact ()
theorem afB {x0:aG} {dG:Addr} {aU bB aN aL:Value}:Ct Tryz.prog 105 true (fS x0) [.pointer (some (dG))] [.ay dG [.int .i64 (x0.aA),aU,bB,aN,aL],rI aU x0.aE,rI bB x0.To,rI aN x0.aH,rJ aL x0.aB] (fun y (_:Unit)=>[.bool y]) (fun y _=>[]):=by
 refine ct (S:=Unit) (ca fun _ _=>rfl) Tryz.func105 rfl rfl ?_
 repeat' first
  | (apply Dk.fe; repeat' first | exact rfl | (refine @id.{0} _ ?_; constructor))
  | intro _
  | exact rfl
  | (refine @id.{0} _ ?_; constructor)
  | apply afA
  | apply afh
  | exact ()
theorem Py {x0:aI} {dG:Addr} {aS aV aQ aO aT aW aR aP bC bG:Value} {x1:(List aZ)} {dX:Value} {x2:aZ} {kX:Value}:Ct Tryz.prog 77 true (eE x0 x1 x2) [.pointer (some (dG)),dX,.agg #[.int .i64 (x2.cn),kX]] [.ay dG [.int .i64 (x0.aC.aA),aS,aV,aQ,aO,.int .i64 (x0.aD.aA),aT,aW,aR,aP,bC,bG],rI aS x0.aC.aE,rI aV x0.aC.To,rI aQ x0.aC.aH,rJ aO x0.aC.aB,rI aT x0.aD.aE,rI aW x0.aD.To,rI aR x0.aD.aH,rJ aP x0.aD.aB,rI bC x0.aA,rI bG x0.ab,.rd false (bL (iu kj)) dX x1,rI kX x2.bb] (fun y (_:Unit)=>[.bool y]) (fun y _=>[]):=by
 refine ct (S:=Unit) (ca fun _ _=>rfl) Tryz.func77 rfl rfl ?_
 repeat' first
  | (apply Dk.fe; repeat' first | exact rfl | (refine @id.{0} _ ?_; constructor))
  | intro _
  | exact rfl
  | (refine @id.{0} _ ?_; constructor)
  | apply Dk.loop 0 (V:=Unit) (fun (s:Int) v=>[]) (fun s v=>[(11,.int .i64 (s))]) () [(0,_),(5,_),(9,_),(10,_)]
  | apply c78
  | exact ()
theorem c90 {x0:eB} {dG:Addr} {dP dY cY cT dQ dZ cZ cU eA eD dA dJ cR cN dB dK cS cO dR dU:Value} {jV:Addr} {bS bY bJ bE bT bZ bK bF cD cI fY fC:Value} {x1:aZ} {qJ:Value}:Ct Tryz.prog 90 true (fH x0 x1) [.pointer (some (dG)),.agg #[.int .i64 (x1.cn),qJ]] [.ay dG [.int .i64 (x0.D.aC.aA),dP,dY,cY,cT,.int .i64 (x0.D.aD.aA),dQ,dZ,cZ,cU,eA,eD,.int .i64 (x0.bu.aC.aA),dA,dJ,cR,cN,.int .i64 (x0.bu.aD.aA),dB,dK,cS,cO,dR,dU,.pointer (some (jV)),fY,fC],.ay jV [.int .i64 (x0.F.aC.aA),bS,bY,bJ,bE,.int .i64 (x0.F.aD.aA),bT,bZ,bK,bF,cD,cI],rI dP x0.D.aC.aE,rI dY x0.D.aC.To,rI cY x0.D.aC.aH,rJ cT x0.D.aC.aB,rI dQ x0.D.aD.aE,rI dZ x0.D.aD.To,rI cZ x0.D.aD.aH,rJ cU x0.D.aD.aB,rI eA x0.D.aA,rI eD x0.D.ab,rI dA x0.bu.aC.aE,rI dJ x0.bu.aC.To,rI cR x0.bu.aC.aH,rJ cN x0.bu.aC.aB,rI dB x0.bu.aD.aE,rI dK x0.bu.aD.To,rI cS x0.bu.aD.aH,rJ cO x0.bu.aD.aB,rI dR x0.bu.aA,rI dU x0.bu.ab,rI bS x0.F.aC.aE,rI bY x0.F.aC.To,rI bJ x0.F.aC.aH,rJ bE x0.F.aC.aB,rI bT x0.F.aD.aE,rI bZ x0.F.aD.To,rI bK x0.F.aD.aH,rJ bF x0.F.aD.aB,rI cD x0.F.aA,rI cI x0.F.ab,.rd false (bL (iu kj)) fY x0.xM,.rd false (bL (iu kj)) fC x0.yE,rI qJ x1.bb] (fun y (_:Unit)=>[.bool y]) (fun y _=>[]):=by
 refine ct (S:=Unit) (ca fun _ _=>rfl) Tryz.func90 rfl rfl ?_
 repeat' first
  | (apply Dk.fe; repeat' first | exact rfl | (refine @id.{0} _ ?_; constructor))
  | intro _
  | exact rfl
  | (refine @id.{0} _ ?_; constructor)
  | apply Dk.any (id:=1) 13 [] [] [[],[0],[1,0],[],[3],[4,3],[5,4,3],[],[],[8],[9,8],[10,9,8],[7,11,10,9,8]] (by kernel_rfl)
  | apply c55
  | apply Py
  | exact ()
theorem c51 {x0:eB} {dG:Addr} {dP dY cY cT dQ dZ cZ cU eA eD dA dJ cR cN dB dK cS cO dR dU:Value} {jV:Addr} {bS bY bJ bE bT bZ bK bF cD cI fY fC:Value}:Ct Tryz.prog 51 true (hJ x0) [.pointer (some (dG))] [.ay dG [.int .i64 (x0.D.aC.aA),dP,dY,cY,cT,.int .i64 (x0.D.aD.aA),dQ,dZ,cZ,cU,eA,eD,.int .i64 (x0.bu.aC.aA),dA,dJ,cR,cN,.int .i64 (x0.bu.aD.aA),dB,dK,cS,cO,dR,dU,.pointer (some (jV)),fY,fC],.ay jV [.int .i64 (x0.F.aC.aA),bS,bY,bJ,bE,.int .i64 (x0.F.aD.aA),bT,bZ,bK,bF,cD,cI],rI dP x0.D.aC.aE,rI dY x0.D.aC.To,rI cY x0.D.aC.aH,rJ cT x0.D.aC.aB,rI dQ x0.D.aD.aE,rI dZ x0.D.aD.To,rI cZ x0.D.aD.aH,rJ cU x0.D.aD.aB,rI eA x0.D.aA,rI eD x0.D.ab,rI dA x0.bu.aC.aE,rI dJ x0.bu.aC.To,rI cR x0.bu.aC.aH,rJ cN x0.bu.aC.aB,rI dB x0.bu.aD.aE,rI dK x0.bu.aD.To,rI cS x0.bu.aD.aH,rJ cO x0.bu.aD.aB,rI dR x0.bu.aA,rI dU x0.bu.ab,rI bS x0.F.aC.aE,rI bY x0.F.aC.To,rI bJ x0.F.aC.aH,rJ bE x0.F.aC.aB,rI bT x0.F.aD.aE,rI bZ x0.F.aD.To,rI bK x0.F.aD.aH,rJ bF x0.F.aD.aB,rI cD x0.F.aA,rI cI x0.F.ab,.rd false (bL (iu kj)) fY x0.xM,.rd false (bL (iu kj)) fC x0.yE] (fun y (_:Unit)=>[.bool y]) (fun y _=>[]):=by
 refine ct (S:=Unit) (ca fun _ _=>rfl) Tryz.func51 rfl rfl ?_
 repeat' first
  | (apply Dk.fe; repeat' first | exact rfl | (refine @id.{0} _ ?_; constructor))
  | intro _
  | exact rfl
  | (apply Dk.clR 79; · (repeat (first | exact Dk.dp.own (by repeat constructor) | apply Dk.dp.there)))
  | (show Dk.D _ _ (Dk.Jd.e _ _ _ _ _ _ _ _ _ _); first | apply Dk.mkR (t:=118) kj 32 2 | apply Dk.lkR (t:=118) | apply Dk.puR (t:=118) | apply Dk.crR (t:=118) | apply Dk.N5 (t:=83) (aZ.mk _ _) | apply Dk.SZ (t:=83) (x:=.tmp 62) | apply Dk.ixS (t:=83) (x:=.tmp 74))
  | apply Dk.N4 (n:=2) (d:=76)
  | (refine @id.{0} _ ?_; constructor)
  | apply Dk.vL 0 (V:=Value) (W:=List (ByteArray×Value×List (List Value))) (fun (s:List (ByteArray×List aZ)×Int) v u=>[.own (An (fun s:ByteArray=>Value.string s) (aJ 32 (ef 2)) none) v u,.rd false (IP kj) (.bool true) (u,s.1)]) (fun s v u=>[(3,v),(17,.int .i64 s.2)]) _ _ [(0,_),(15,_),(16,_)]
  | apply Dk.loop 2 (V:=Unit) (fun (s:Bool×Int) v=>[]) (fun s v=>[(7,.bool s.1),(42,.int .i64 s.2)]) () [(0,_),(3,_),(40,_),(41,_)]
  | apply Dk.quiet (id:=12) (by kernel_rfl)
  | apply Dk.quiet (id:=14) (by kernel_rfl)
  | apply Dk.any (id:=5) 5 [] [] [[],[],[1],[2,1],[3,2,1]] (by kernel_rfl)
  | apply c55
  | apply c91
  | apply Py
  | exact ()
theorem c70 {x0:aI} {aS aV aQ aO aT aW aR aP bC bG:Value} {x1:(List aZ)} {dX:Value} {x2:aZ} {kX:Value}:Ct Tryz.prog 70 true (iL x0 x1 x2) [.agg #[.int .i64 (x0.aC.aA),aS,aV,aQ,aO,.int .i64 (x0.aD.aA),aT,aW,aR,aP,bC,bG],dX,.agg #[.int .i64 (x2.cn),kX]] [rI aS x0.aC.aE,rI aV x0.aC.To,rI aQ x0.aC.aH,rJ aO x0.aC.aB,rI aT x0.aD.aE,rI aW x0.aD.To,rI aR x0.aD.aH,rJ aP x0.aD.aB,rI bC x0.aA,rI bG x0.ab,.rd false (bL (iu kj)) dX x1,rI kX x2.bb] (fun y (_:Unit)=>[.bool y]) (fun y _=>[]):=by
 refine ct (S:=Unit) (ca fun _ _=>rfl) Tryz.func70 rfl rfl ?_
 repeat' first
  | (apply Dk.fe; repeat' first | exact rfl | (refine @id.{0} _ ?_; constructor))
  | intro _
  | exact rfl
  | (refine @id.{0} _ ?_; constructor)
  | apply Dk.loop 0 (V:=Unit) (fun (s:Int) v=>[]) (fun s v=>[(7,.int .i64 (s))]) () [(1,_),(3,_),(5,_)]
  | apply Dk.any (id:=4) 6 [] [] [[],[],[],[1,2],[3,1,2],[]] (by kernel_rfl)
  | apply afb
  | exact ()
theorem afC {x0:eB} {dG:Addr} {dP dY cY cT dQ dZ cZ cU eA eD dA dJ cR cN dB dK cS cO dR dU:Value} {jV:Addr} {bS bY bJ bE bT bZ bK bF cD cI fY fC:Value}:Ct Tryz.prog 125 false (kD x0) [.pointer (some (dG))] [.ay dG [.int .i64 (x0.D.aC.aA),dP,dY,cY,cT,.int .i64 (x0.D.aD.aA),dQ,dZ,cZ,cU,eA,eD,.int .i64 (x0.bu.aC.aA),dA,dJ,cR,cN,.int .i64 (x0.bu.aD.aA),dB,dK,cS,cO,dR,dU,.pointer (some (jV)),fY,fC],.ay jV [.int .i64 (x0.F.aC.aA),bS,bY,bJ,bE,.int .i64 (x0.F.aD.aA),bT,bZ,bK,bF,cD,cI],rI dP x0.D.aC.aE,rI dY x0.D.aC.To,rI cY x0.D.aC.aH,rJ cT x0.D.aC.aB,rI dQ x0.D.aD.aE,rI dZ x0.D.aD.To,rI cZ x0.D.aD.aH,rJ cU x0.D.aD.aB,rI eA x0.D.aA,rI eD x0.D.ab,rI dA x0.bu.aC.aE,rI dJ x0.bu.aC.To,rI cR x0.bu.aC.aH,rJ cN x0.bu.aC.aB,rI dB x0.bu.aD.aE,rI dK x0.bu.aD.To,rI cS x0.bu.aD.aH,rJ cO x0.bu.aD.aB,rI dR x0.bu.aA,rI dU x0.bu.ab,rI bS x0.F.aC.aE,rI bY x0.F.aC.To,rI bJ x0.F.aC.aH,rJ bE x0.F.aC.aB,rI bT x0.F.aD.aE,rI bZ x0.F.aD.To,rI bK x0.F.aD.aH,rJ bF x0.F.aD.aB,rI cD x0.F.aA,rI cI x0.F.ab,.rd false (bL (iu kj)) fY x0.xM,.rd false (bL (iu kj)) fC x0.yE] (fun y (v:Value)=>[v]) (fun y v=>[.rd false (bL (iu kj)) v y]):=by
 refine ct (S:=Unit) u9 Tryz.func125 rfl rfl ?_
 repeat' first
  | (apply Dk.fe; repeat' first | exact rfl | (refine @id.{0} _ ?_; constructor))
  | intro _
  | exact rfl
  | apply Dk.SY (t:=83) (S:=kj)
  | apply Dk.N5 (t:=83) (aZ.mk _ _)
  | (refine @id.{0} _ ?_; constructor)
  | apply Dk.vL 0 (V:=Value) (W:=List (List Value)) (fun (s:List aZ×Int) v u=>[.own (aJ 32 (ef 2)) v u,.rd false (qf kj) (.bool true) (u,s.1)]) (fun s v u=>[(3,v),(12,.int .i64 s.2)]) _ _ [(0,_),(10,_),(11,_)]
  | apply Dk.quiet (id:=5) (by kernel_rfl)
  | apply Py
  | exact ()
end Go.Proofs.YtgjbmjjihmfppaaGreat
