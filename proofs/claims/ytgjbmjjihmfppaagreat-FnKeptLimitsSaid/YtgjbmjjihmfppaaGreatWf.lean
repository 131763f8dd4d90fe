/- Walks by the calculus D. No condition beside those that each theorem names. -/
import Derived.Test.YtgjbmjjihmfppaaGreatDi
import Derived.Test.YtgjbmjjihmfppaaGreatMo
import Derived.Test.YtgjbmjjihmfppaaGreatDp
import Derived.Test.YtgjbmjjihmfppaaGreatDs
import Derived.Test.YtgjbmjjihmfppaaGreatWa
import Derived.Test.YtgjbmjjihmfppaaGreatWb
import Derived.Test.YtgjbmjjihmfppaaGreatWc
import Derived.Test.YtgjbmjjihmfppaaGreatWd
namespace Go.Proofs.YtgjbmjjihmfppaaGreat
open Go Go.Li Go.Dk
set_option linter.unusedVariables false
set_option maxHeartbeats 16000000
set_option maxRecDepth 100000
theorem c65 {x0:aM} {dE:Addr} {aU:Value} {aW:Value} {aR:Value} {aP:Value} {aV:Value} {aY:Value} {aS:Value} {aQ:Value} {bC:Value} {bF:Value}:Ct Tryz.prog 65 true (jS x0) [.pointer (some (dE))] [.au dE [.int .i64 (x0.aE.aA),aU,aW,aR,aP,.int .i64 (x0.aH.aA),aV,aY,aS,aQ,bC,bF],.rd false (aB (aC .i64)) aU x0.aE.aF,.rd false (aB (aC .i64)) aW x0.aE.To,.rd false (aB (aC .i64)) aR x0.aE.aJ,.rd false (aB (aB (aC .i64))) aP x0.aE.aD,.rd false (aB (aC .i64)) aV x0.aH.aF,.rd false (aB (aC .i64)) aY x0.aH.To,.rd false (aB (aC .i64)) aS x0.aH.aJ,.rd false (aB (aB (aC .i64))) aQ x0.aH.aD,.rd false (aB (aC .i64)) bC x0.aA,.rd false (aB (aC .i64)) bF x0.ab] (fun y (_:Unit)=>[.bool y]) (fun y _=>[]):=by
 refine ct (S:=Unit) (ca fun _ _=>rfl) Tryz.func65 rfl rfl ?_
 repeat' first
  | ((first | show Dk.ER _ _ _ | show Dk.ba _ _ | show Dk.EF _ _ _ | show Dk.EO _ _ _ | show Dk.EP _ _ | show Dk.aX _ _ _ _ | show Dk.aq _ _ _ _ | show Dk.Kp _ _ _ _ | show Dk.bn _ _ | show Dk.bb _ _ _ _); repeat' first | exact rfl | (refine @id.{0} _ ?_; constructor))
  | intro _
  | exact rfl
  | (refine @id.{0} _ ?_; constructor)
  | apply Dk.loop 0 (V:=Unit) (fun (s:Int) v=>[]) (fun s v=>[(66,.int .i64 (s))]) () [(0,_),(3,_),(4,_),(64,_),(65,_)]
  | apply Dk.loop 2 (V:=Unit) (fun (s:Int) v=>[]) (fun s v=>[(121,.int .i64 (s))]) () [(0,_),(3,_),(4,_),(119,_),(120,_)]
  | apply Dk.loop 4 (V:=Unit) (fun (s:Int) v=>[]) (fun s v=>[(153,.int .i64 (s))]) () [(0,_),(4,_),(151,_),(152,_)]
  | apply Dk.loop 6 (V:=Unit) (fun (s:Int) v=>[]) (fun s v=>[(160,.int .i64 (s))]) () [(0,_),(4,_),(9,_),(151,_),(152,_),(153,_),(158,_),(159,_)]
  | apply Dk.quiet (id:=1) (by kernel_rfl)
  | apply Dk.quiet (id:=2) (by kernel_rfl)
  | apply Dk.quiet (id:=7) (by kernel_rfl)
  | apply Dk.quiet (id:=13) (by kernel_rfl)
  | apply Dk.quiet (id:=22) (by kernel_rfl)
  | apply N1
  | apply W0
  | apply Ki
  | exact ()
theorem N2 {x0:aI} {cV:Nat} {aT:Value} {bB:Value} {aO:Value} {aN:Value} {ET:aI} {Kj:Addr} {N3:Addr} {CK:Value} {F5:Value} {yI:Value} {wK:Value}:Ct Tryz.prog 113 true (pV x0 (fun a0 a1=>oZ a0 a1 ET)) [.pointer (some (⟨cV,0,none⟩)),.func (.func 114) #[] #[.pointer (some (Kj))]] [.row cV [.int .i64 (x0.aA),aT,bB,aO,aN] 27,.rd false (aB (aC .i64)) aT x0.aF,.rd false (aB (aC .i64)) bB x0.To,.rd false (aB (aC .i64)) aO x0.aJ,.own (aL 24 (aL 2 (aC .i64))) aN x0.aD,.au Kj [.pointer (some (N3))],.au N3 [.int .i64 (ET.aA),CK,F5,yI,wK],.rd false (aB (aC .i64)) CK ET.aF,.rd false (aB (aC .i64)) F5 ET.To,.rd false (aB (aC .i64)) yI ET.aJ,.rd false (aB (aB (aC .i64))) wK ET.aD] (fun y (v:Value)=>[]) (fun y v=>[.row cV [.int .i64 y.aA,aT,bB,aO,v] 27,.own (aL 24 (aL 2 (aC .i64))) v y.aD]):=by
 refine Yv (ca fun _ _=>rfl) Tryz.func113 rfl rfl ?_
 repeat' first
  | ((first | show Dk.ER _ _ _ | show Dk.ba _ _ | show Dk.EF _ _ _ | show Dk.EO _ _ _ | show Dk.EP _ _ | show Dk.aX _ _ _ _ | show Dk.aq _ _ _ _ | show Dk.Kp _ _ _ _ | show Dk.bn _ _ | show Dk.bb _ _ _ _); repeat' first | exact rfl | (refine @id.{0} _ ?_; constructor))
  | intro _
  | exact rfl
  | (refine @id.{0} _ ?_; constructor)
  | apply Dk.jr 0 (V:=Unit) (A:=Value) _ (fun a (s:Int×(List (List Int))) v=>[.own (aL 24 (aL 2 (aC .i64))) a s.2]) (fun a s v=>[(19,.int .i64 (s.1))]) () [(0,_),(1,_),(4,_),(18,_)]
  | apply Dk.jr 2 (V:=Unit) (A:=Value) _ (fun a (s:Int×(List (List Int))) v=>[.own (aL 24 (aL 2 (aC .i64))) a s.2]) (fun a s v=>[(38,.int .i64 (s.1))]) () [(0,_),(1,_),(4,_),(5,_),(18,_),(19,_),(37,_)]
  | apply Dk.quiet (id:=10) (by kernel_rfl)
  | apply Dk.any (id:=5) 7 [] [] [[],[0],[1,0],[2,1,0],[],[],[5,5]] (by kernel_rfl)
  | apply Dk.any (id:=11) 12 [] [] [[],[0],[1,0],[2,1,0],[],[3,2,1,0,4],[5,3,2,1,0,4],[],[],[],[],[8,9,10]] (by kernel_rfl)
  | apply N1
  | apply WS
  | exact ()
theorem c73 {x0:aI} {dE:Addr} {aT:Value} {bB:Value} {aO:Value} {aN:Value}:Ct Tryz.prog 73 true (qN x0) [.pointer (some (dE))] [.au dE [.int .i64 (x0.aA),aT,bB,aO,aN],.rd false (aB (aC .i64)) aT x0.aF,.rd false (aB (aC .i64)) bB x0.To,.rd false (aB (aC .i64)) aO x0.aJ,.rd false (aB (aB (aC .i64))) aN x0.aD] (fun y (v:Value×Value×Value×Value)=>[.agg #[.int .i64 y.aA,v.1,v.2.1,v.2.2.1,v.2.2.2]]) (fun y v=>[.own (aL 2 (aC .i64)) v.1 y.aF,.own (aL 2 (aC .i64)) v.2.1 y.To,.own (aL 2 (aC .i64)) v.2.2.1 y.aJ,.own (aL 24 (aL 2 (aC .i64))) v.2.2.2 y.aD]):=by
 refine ct (S:=Unit) (ca fun _ _=>rfl) Tryz.func73 rfl rfl ?_
 repeat' first
  | ((first | show Dk.ER _ _ _ | show Dk.ba _ _ | show Dk.EF _ _ _ | show Dk.EO _ _ _ | show Dk.EP _ _ | show Dk.aX _ _ _ _ | show Dk.aq _ _ _ _ | show Dk.Kp _ _ _ _ | show Dk.bn _ _ | show Dk.bb _ _ _ _); repeat' first | exact rfl | (refine @id.{0} _ ?_; constructor))
  | intro _
  | exact rfl
  | (refine @id.{0} _ ?_; constructor)
  | apply Dk.Uj (id:=1) [20,0,1,2,3,4,5,6,7,8,9,10,11,12,13,14,15,16,17,18,19,21] [1,2,3,4,5,6,7,8,9,10,11,12,13,14,15,16,17,18,19,20,0,21] [] 21 [] [] [[],[],[1],[2,1],[3,2,1],[],[5],[6,5],[7,6,5],[8,7,6,5],[],[10],[11,10],[12,11,10],[13,12,11,10,9,8,7,6,5],[],[15],[16,15],[17,16,15],[18,17,16,15,14,13,12,11,10,9,8,7,6,5],[4,3,2,1,9,8,7,6,5,14,13,12,11,10,9,8,7,6,5,19,18,17,16,15,14,13,12,11,10,9,8,7,6,5]] (by kernel_rfl)
  | apply IL
  | apply WS
  | apply N2
  | exact ()
theorem RN {x0:aM} {dE:Addr} {aU:Value} {aW:Value} {aR:Value} {aP:Value} {aV:Value} {aY:Value} {aS:Value} {aQ:Value} {bC:Value} {bF:Value} {x1:(List bE)} {dP:Value} {x2:bE} {kN:Value}:Ct Tryz.prog 77 true (fJ x0 x1 x2) [.pointer (some (dE)),dP,.agg #[.int .i64 (x2.fv),kN]] [.au dE [.int .i64 (x0.aE.aA),aU,aW,aR,aP,.int .i64 (x0.aH.aA),aV,aY,aS,aQ,bC,bF],.rd false (aB (aC .i64)) aU x0.aE.aF,.rd false (aB (aC .i64)) aW x0.aE.To,.rd false (aB (aC .i64)) aR x0.aE.aJ,.rd false (aB (aB (aC .i64))) aP x0.aE.aD,.rd false (aB (aC .i64)) aV x0.aH.aF,.rd false (aB (aC .i64)) aY x0.aH.To,.rd false (aB (aC .i64)) aS x0.aH.aJ,.rd false (aB (aB (aC .i64))) aQ x0.aH.aD,.rd false (aB (aC .i64)) bC x0.aA,.rd false (aB (aC .i64)) bF x0.ab,.rd false (aB (iy kz)) dP x1,.rd false (aB (aC .i64)) kN x2.bw] (fun y (_:Unit)=>[.bool y]) (fun y _=>[]):=by
 refine ct (S:=Unit) (ca fun _ _=>rfl) Tryz.func77 rfl rfl ?_
 repeat' first
  | ((first | show Dk.ER _ _ _ | show Dk.ba _ _ | show Dk.EF _ _ _ | show Dk.EO _ _ _ | show Dk.EP _ _ | show Dk.aX _ _ _ _ | show Dk.aq _ _ _ _ | show Dk.Kp _ _ _ _ | show Dk.bn _ _ | show Dk.bb _ _ _ _); repeat' first | exact rfl | (refine @id.{0} _ ?_; constructor))
  | intro _
  | exact rfl
  | (refine @id.{0} _ ?_; constructor)
  | apply Dk.loop 0 (V:=Unit) (fun (s:Int) v=>[]) (fun s v=>[(11,.int .i64 (s))]) () [(0,_),(5,_),(9,_),(10,_)]
  | apply c78
  | exact ()
theorem ady {x0:iY} {dE:Addr} {dG:Value} {dQ:Value} {cT:Value} {cR:Value} {dH:Value} {dR:Value} {cU:Value} {cS:Value} {dU:Value} {dY:Value} {dV:Value} {eB:Value} {dS:Value} {dM:Value} {dW:Value} {eC:Value} {dT:Value} {dN:Value} {eG:Value} {eL:Value} {qG:Addr} {bX:Value} {cE:Value} {bQ:Value} {bK:Value} {bY:Value} {cF:Value} {bR:Value} {bL:Value} {cL:Value} {cN:Value} {mG:Value} {kO:Value}:Ct Tryz.prog 125 false (jT x0) [.pointer (some (dE))] [.au dE [.int .i64 (x0.D.aE.aA),dG,dQ,cT,cR,.int .i64 (x0.D.aH.aA),dH,dR,cU,cS,dU,dY,.int .i64 (x0.cq.aE.aA),dV,eB,dS,dM,.int .i64 (x0.cq.aH.aA),dW,eC,dT,dN,eG,eL,.pointer (some (qG)),mG,kO],.au qG [.int .i64 (x0.F.aE.aA),bX,cE,bQ,bK,.int .i64 (x0.F.aH.aA),bY,cF,bR,bL,cL,cN],.rd false (aB (aC .i64)) dG x0.D.aE.aF,.rd false (aB (aC .i64)) dQ x0.D.aE.To,.rd false (aB (aC .i64)) cT x0.D.aE.aJ,.rd false (aB (aB (aC .i64))) cR x0.D.aE.aD,.rd false (aB (aC .i64)) dH x0.D.aH.aF,.rd false (aB (aC .i64)) dR x0.D.aH.To,.rd false (aB (aC .i64)) cU x0.D.aH.aJ,.rd false (aB (aB (aC .i64))) cS x0.D.aH.aD,.rd false (aB (aC .i64)) dU x0.D.aA,.rd false (aB (aC .i64)) dY x0.D.ab,.rd false (aB (aC .i64)) dV x0.cq.aE.aF,.rd false (aB (aC .i64)) eB x0.cq.aE.To,.rd false (aB (aC .i64)) dS x0.cq.aE.aJ,.rd false (aB (aB (aC .i64))) dM x0.cq.aE.aD,.rd false (aB (aC .i64)) dW x0.cq.aH.aF,.rd false (aB (aC .i64)) eC x0.cq.aH.To,.rd false (aB (aC .i64)) dT x0.cq.aH.aJ,.rd false (aB (aB (aC .i64))) dN x0.cq.aH.aD,.rd false (aB (aC .i64)) eG x0.cq.aA,.rd false (aB (aC .i64)) eL x0.cq.ab,.rd false (aB (aC .i64)) bX x0.F.aE.aF,.rd false (aB (aC .i64)) cE x0.F.aE.To,.rd false (aB (aC .i64)) bQ x0.F.aE.aJ,.rd false (aB (aB (aC .i64))) bK x0.F.aE.aD,.rd false (aB (aC .i64)) bY x0.F.aH.aF,.rd false (aB (aC .i64)) cF x0.F.aH.To,.rd false (aB (aC .i64)) bR x0.F.aH.aJ,.rd false (aB (aB (aC .i64))) bL x0.F.aH.aD,.rd false (aB (aC .i64)) cL x0.F.aA,.rd false (aB (aC .i64)) cN x0.F.ab,.rd false (aB (iy kz)) mG x0.FE,.rd false (aB (iy kz)) kO x0.ED] (fun y (v:Value)=>[v]) (fun y v=>[.rd false (aB (iy kz)) v y]):=by
 refine ct (S:=Unit) tZ Tryz.func125 rfl rfl ?_
 repeat' first
  | ((first | show Dk.ER _ _ _ | show Dk.ba _ _ | show Dk.EF _ _ _ | show Dk.EO _ _ _ | show Dk.EP _ _ | show Dk.aX _ _ _ _ | show Dk.aq _ _ _ _ | show Dk.Kp _ _ _ _ | show Dk.bn _ _ | show Dk.bb _ _ _ _); repeat' first | exact rfl | (refine @id.{0} _ ?_; constructor))
  | intro _
  | exact rfl
  | apply Dk.Q7 (t:=83) (S:=kz)
  | apply Dk.Q9 (t:=83) (bE.mk _ _)
  | (refine @id.{0} _ ?_; constructor)
  | apply Dk.vB 0 (V:=Value) (W:=List (List Value)) (fun (s:List bE×Int) v u=>[.own (aL 32 (ij 2)) v u,.rd false (tn kz) (.bool true) (u,s.1)]) (fun s v u=>[(3,v),(12,.int .i64 s.2)]) _ _ [(0,_),(10,_),(11,_)]
  | apply Dk.quiet (id:=5) (by kernel_rfl)
  | apply RN
  | exact ()
theorem c90 {x0:iY} {dE:Addr} {dG:Value} {dQ:Value} {cT:Value} {cR:Value} {dH:Value} {dR:Value} {cU:Value} {cS:Value} {dU:Value} {dY:Value} {dV:Value} {eB:Value} {dS:Value} {dM:Value} {dW:Value} {eC:Value} {dT:Value} {dN:Value} {eG:Value} {eL:Value} {qG:Addr} {bX:Value} {cE:Value} {bQ:Value} {bK:Value} {bY:Value} {cF:Value} {bR:Value} {bL:Value} {cL:Value} {cN:Value} {mG:Value} {kO:Value} {x1:bE} {eZ:Value}:Ct Tryz.prog 90 true (lW x0 x1) [.pointer (some (dE)),.agg #[.int .i64 (x1.fv),eZ]] [.au dE [.int .i64 (x0.D.aE.aA),dG,dQ,cT,cR,.int .i64 (x0.D.aH.aA),dH,dR,cU,cS,dU,dY,.int .i64 (x0.cq.aE.aA),dV,eB,dS,dM,.int .i64 (x0.cq.aH.aA),dW,eC,dT,dN,eG,eL,.pointer (some (qG)),mG,kO],.au qG [.int .i64 (x0.F.aE.aA),bX,cE,bQ,bK,.int .i64 (x0.F.aH.aA),bY,cF,bR,bL,cL,cN],.rd false (aB (aC .i64)) dG x0.D.aE.aF,.rd false (aB (aC .i64)) dQ x0.D.aE.To,.rd false (aB (aC .i64)) cT x0.D.aE.aJ,.rd false (aB (aB (aC .i64))) cR x0.D.aE.aD,.rd false (aB (aC .i64)) dH x0.D.aH.aF,.rd false (aB (aC .i64)) dR x0.D.aH.To,.rd false (aB (aC .i64)) cU x0.D.aH.aJ,.rd false (aB (aB (aC .i64))) cS x0.D.aH.aD,.rd false (aB (aC .i64)) dU x0.D.aA,.rd false (aB (aC .i64)) dY x0.D.ab,.rd false (aB (aC .i64)) dV x0.cq.aE.aF,.rd false (aB (aC .i64)) eB x0.cq.aE.To,.rd false (aB (aC .i64)) dS x0.cq.aE.aJ,.rd false (aB (aB (aC .i64))) dM x0.cq.aE.aD,.rd false (aB (aC .i64)) dW x0.cq.aH.aF,.rd false (aB (aC .i64)) eC x0.cq.aH.To,.rd false (aB (aC .i64)) dT x0.cq.aH.aJ,.rd false (aB (aB (aC .i64))) dN x0.cq.aH.aD,.rd false (aB (aC .i64)) eG x0.cq.aA,.rd false (aB (aC .i64)) eL x0.cq.ab,.rd false (aB (aC .i64)) bX x0.F.aE.aF,.rd false (aB (aC .i64)) cE x0.F.aE.To,.rd false (aB (aC .i64)) bQ x0.F.aE.aJ,.rd false (aB (aB (aC .i64))) bK x0.F.aE.aD,.rd false (aB (aC .i64)) bY x0.F.aH.aF,.rd false (aB (aC .i64)) cF x0.F.aH.To,.rd false (aB (aC .i64)) bR x0.F.aH.aJ,.rd false (aB (aB (aC .i64))) bL x0.F.aH.aD,.rd false (aB (aC .i64)) cL x0.F.aA,.rd false (aB (aC .i64)) cN x0.F.ab,.rd false (aB (iy kz)) mG x0.FE,.rd false (aB (iy kz)) kO x0.ED,.rd false (aB (aC .i64)) eZ x1.bw] (fun y (_:Unit)=>[.bool y]) (fun y _=>[]):=by
 refine ct (S:=Unit) (ca fun _ _=>rfl) Tryz.func90 rfl rfl ?_
 repeat' first
  | ((first | show Dk.ER _ _ _ | show Dk.ba _ _ | show Dk.EF _ _ _ | show Dk.EO _ _ _ | show Dk.EP _ _ | show Dk.aX _ _ _ _ | show Dk.aq _ _ _ _ | show Dk.Kp _ _ _ _ | show Dk.bn _ _ | show Dk.bb _ _ _ _); repeat' first | exact rfl | (refine @id.{0} _ ?_; constructor))
  | intro _
  | exact rfl
  | (refine @id.{0} _ ?_; constructor)
  | apply Dk.any (id:=1) 13 [] [] [[],[0],[1,0],[],[3],[4,3],[5,4,3],[],[],[8],[9,8],[10,9,8],[7,11,10,9,8]] (by kernel_rfl)
  | apply Zz
  | apply RN
  | exact ()
theorem adz {x0:Int} {x1:(List (List Int))} {dP:Value}:Ct Tryz.prog 156 true (pG x0 x1) [.int .i64 (x0),dP] [.rd false (aB (aB (aC .i64))) dP x1] (fun y (v:Value)=>[v]) (fun y v=>[.own (aL 2 (aC .i64)) v y]):=by
 refine ct (S:=Unit) (ca fun _ _=>rfl) Tryz.func156 rfl rfl ?_
 repeat' first
  | ((first | show Dk.ER _ _ _ | show Dk.ba _ _ | show Dk.EF _ _ _ | show Dk.EO _ _ _ | show Dk.EP _ _ | show Dk.aX _ _ _ _ | show Dk.aq _ _ _ _ | show Dk.Kp _ _ _ _ | show Dk.bn _ _ | show Dk.bb _ _ _ _); repeat' first | exact rfl | (refine @id.{0} _ ?_; constructor))
  | intro _
  | exact rfl
  | (refine @id.{0} _ ?_; constructor)
  | apply Dk.loop 0 (V:=Value) (fun (s:(List Int)×Int) v=>[.own (aL 2 (aC .i64)) v s.1]) (fun s v=>[(5,v),(6,.int .i64 (s.2))]) _ [(0,_),(1,_)]
  | apply Dk.jr 2 (V:=Unit) (A:=Value) _ (fun a (s:Int×(List Int)) v=>[.own (aL 2 (aC .i64)) a s.2]) (fun a s v=>[(5,a),(7,.int .i64 (s.1))]) () [(1,_)]
  | apply Dk.jr 4 (V:=Unit) (A:=Value) _ (fun a (s:Int×(List Int)) v=>[.own (aL 2 (aC .i64)) a s.2]) (fun a s v=>[(5,a),(10,.int .i64 (s.1))]) () [(1,_),(7,_),(8,_),(9,_)]
  | apply Dk.quiet (id:=9) (by kernel_rfl)
  | apply adb
  | exact ()
theorem c70 {x0:aM} {aU:Value} {aW:Value} {aR:Value} {aP:Value} {aV:Value} {aY:Value} {aS:Value} {aQ:Value} {bC:Value} {bF:Value} {x1:(List bE)} {dP:Value} {x2:bE} {kN:Value}:Ct Tryz.prog 70 true (iC x0 x1 x2) [.agg #[.int .i64 (x0.aE.aA),aU,aW,aR,aP,.int .i64 (x0.aH.aA),aV,aY,aS,aQ,bC,bF],dP,.agg #[.int .i64 (x2.fv),kN]] [.rd false (aB (aC .i64)) aU x0.aE.aF,.rd false (aB (aC .i64)) aW x0.aE.To,.rd false (aB (aC .i64)) aR x0.aE.aJ,.rd false (aB (aB (aC .i64))) aP x0.aE.aD,.rd false (aB (aC .i64)) aV x0.aH.aF,.rd false (aB (aC .i64)) aY x0.aH.To,.rd false (aB (aC .i64)) aS x0.aH.aJ,.rd false (aB (aB (aC .i64))) aQ x0.aH.aD,.rd false (aB (aC .i64)) bC x0.aA,.rd false (aB (aC .i64)) bF x0.ab,.rd false (aB (iy kz)) dP x1,.rd false (aB (aC .i64)) kN x2.bw] (fun y (_:Unit)=>[.bool y]) (fun y _=>[]):=by
 refine ct (S:=Unit) (ca fun _ _=>rfl) Tryz.func70 rfl rfl ?_
 repeat' first
  | ((first | show Dk.ER _ _ _ | show Dk.ba _ _ | show Dk.EF _ _ _ | show Dk.EO _ _ _ | show Dk.EP _ _ | show Dk.aX _ _ _ _ | show Dk.aq _ _ _ _ | show Dk.Kp _ _ _ _ | show Dk.bn _ _ | show Dk.bb _ _ _ _); repeat' first | exact rfl | (refine @id.{0} _ ?_; constructor))
  | intro _
  | exact rfl
  | (refine @id.{0} _ ?_; constructor)
  | apply Dk.loop 0 (V:=Unit) (fun (s:Int) v=>[]) (fun s v=>[(7,.int .i64 (s))]) () [(1,_),(3,_),(5,_)]
  | apply Dk.any (id:=4) 6 [] [] [[],[],[],[1,2],[3,1,2],[]] (by kernel_rfl)
  | apply ac4
  | exact ()
end Go.Proofs.YtgjbmjjihmfppaaGreat
