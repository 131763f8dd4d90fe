/- Walks by the calculus D. No condition beside those that each theorem names. -/
import Derived.Test.YtcnehblmgfbfoaaGreatDp
import Derived.Test.YtcnehblmgfbfoaaGreatDi
import Derived.Test.YtcnehblmgfbfoaaGreatMo
import Derived.Test.YtcnehblmgfbfoaaGreatDs
import Derived.Test.YtcnehblmgfbfoaaGreatWa
import Derived.Test.YtcnehblmgfbfoaaGreatWc
import Derived.Test.YtcnehblmgfbfoaaGreatWd
namespace Go.Proofs.YtcnehblmgfbfoaaGreat
open Go Go.Li Go.Dk
set_option linter.unusedVariables false
set_option maxHeartbeats 16000000
set_option maxRecDepth 100000
theorem GJ {x0:(List (List Int))} {cO:Value}:Ct Tryz.prog 211 true (gC x0) [cO] [rJ cO x0] (fun y (v:Value)=>[v]) (fun y v=>[.own (aJ 22 (aJ 2 (aN .i64))) v y]):=by
 refine ct (S:=Unit) (bx fun _ _=>rfl) Tryz.func211 rfl rfl ?_
 repeat' first
  | (apply Dk.fe; repeat' first | exact rfl | (refine @id.{0} _ ?_; constructor))
  | intro _
  | exact rfl
  | (refine @id.{0} _ ?_; constructor)
  | apply Dk.loop 0 (V:=Value) (fun (s:(List (List Int))×Int) v=>[.own (aJ 22 (aJ 2 (aN .i64))) v s.1]) (fun s v=>[(3,v),(4,.int .i64 (s.2))]) _ [(0,_)]
  | apply Eo
  | exact ()
theorem af9 {x0:(List (List Int))} {cO:Value}:Ct Tryz.prog 249 true (iP x0) [cO] [rJ cO x0] (fun y (v:Value×Value×Value×Value)=>[.agg #[.int .i64 y.aD,v.1,v.2.1,v.2.2.1,v.2.2.2]]) (fun y v=>[.own (aJ 2 (aN .i64)) v.1 y.aG,.own (aJ 2 (aN .i64)) v.2.1 y.To,.own (aJ 2 (aN .i64)) v.2.2.1 y.aI,.own (aJ 22 (aJ 2 (aN .i64))) v.2.2.2 y.aB]):=by
 refine ct (S:=Unit) (bx fun _ _=>rfl) Tryz.func249 rfl rfl ?_
 repeat' first
  | (apply Dk.fe; repeat' first | exact rfl | (refine @id.{0} _ ?_; constructor))
  | intro _
  | exact rfl
  | (refine @id.{0} _ ?_; constructor)
  | apply Dk.any (id:=2) 7 [] [] [[],[0],[],[2],[],[],[5]] (by kernel_rfl)
  | apply GJ
  | exact ()
theorem Ep {x0:aH} {bA bJ aT aR:Value}:Ct Tryz.prog 138 true (fJ x0) [.agg #[.int .i64 (x0.aD),bA,bJ,aT,aR]] [rI bA x0.aG,rI bJ x0.To,rI aT x0.aI,rJ aR x0.aB] (fun y (v:Value×Value×Value×Value)=>[.agg #[.int .i64 y.aD,v.1,v.2.1,v.2.2.1,v.2.2.2]]) (fun y v=>[.own (aJ 2 (aN .i64)) v.1 y.aG,.own (aJ 2 (aN .i64)) v.2.1 y.To,.own (aJ 2 (aN .i64)) v.2.2.1 y.aI,.own (aJ 22 (aJ 2 (aN .i64))) v.2.2.2 y.aB]):=by
 refine ct (S:=Unit) (bx fun _ _=>rfl) Tryz.func138 rfl rfl ?_
 repeat' first
  | (apply Dk.fe; repeat' first | exact rfl | (refine @id.{0} _ ?_; constructor))
  | intro _
  | exact rfl
  | (refine @id.{0} _ ?_; constructor)
  | apply Dk.any (id:=1) 14 [] [] [[],[0],[],[2],[2,3],[],[5],[2,3,4,5,6],[],[8],[2,3,4,5,6,7,8,9],[],[11],[2,3,4,5,6,7,8,9,10,11,12]] (by kernel_rfl)
  | apply Eo
  | apply GJ
  | exact ()
theorem aga {x0:(List Int)} {cO:Value}:Ct Tryz.prog 284 true (lF x0) [cO] [rI cO x0] (fun y (v:Value)=>[v]) (fun y v=>[.own (aJ 22 (aJ 2 (aN .i64))) v y]):=by
 refine ct (S:=Unit) (bx fun _ _=>rfl) Tryz.func284 rfl rfl ?_
 repeat' first
  | (apply Dk.fe; repeat' first | exact rfl | (refine @id.{0} _ ?_; constructor))
  | intro _
  | exact rfl
  | apply Dk.ui (d:=20)
  | (refine @id.{0} _ ?_; constructor)
  | apply Dk.loop 0 (V:=Value) (fun (s:(List (List Int))×Int) v=>[.own (aJ 22 (aJ 2 (aN .i64))) v s.1]) (fun s v=>[(3,v),(4,.int .i64 (s.2))]) _ [(0,_)]
  | apply Y2
  | exact ()
theorem agb {x0:(List (List Int))} {cO:Value} {x1:(List (List Int))} {dG:Value}:Ct Tryz.prog 169 true (qP x0 x1) [cO,dG] [rJ cO x0,rJ dG x1] (fun y (_:Unit)=>[.bool y]) (fun y _=>[]):=by
 refine ct (S:=Unit) (bx fun _ _=>rfl) Tryz.func169 rfl rfl ?_
 repeat' first
  | (apply Dk.fe; repeat' first | exact rfl | (refine @id.{0} _ ?_; constructor))
  | intro _
  | exact rfl
  | (refine @id.{0} _ ?_; constructor)
  | apply Dk.loop 0 (V:=Unit) (fun (s:Int) v=>[]) (fun s v=>[(5,.int .i64 (s))]) () [(0,_),(1,_)]
  | apply Dk.quiet (id:=6) (by kernel_rfl)
  | apply Nj
  | exact ()
theorem c91 {x0:aH} {bA bJ aT aR:Value} {x1:aH} {dC dQ cL bY:Value}:Ct Tryz.prog 91 true (pH x0 x1) [.agg #[.int .i64 (x0.aD),bA,bJ,aT,aR],.agg #[.int .i64 (x1.aD),dC,dQ,cL,bY]] [rI bA x0.aG,rI bJ x0.To,rI aT x0.aI,rJ aR x0.aB,rI dC x1.aG,rI dQ x1.To,rI cL x1.aI,rJ bY x1.aB] (fun y (_:Unit)=>[.bool y]) (fun y _=>[]):=by
 refine ct (S:=Unit) (bx fun _ _=>rfl) Tryz.func91 rfl rfl ?_
 repeat' first
  | (apply Dk.fe; repeat' first | exact rfl | (refine @id.{0} _ ?_; constructor))
  | intro _
  | exact rfl
  | (refine @id.{0} _ ?_; constructor)
  | apply Nj
  | apply agb
  | exact ()
theorem Zd {x0:cI} {cU:Addr} {cP cV bZ bT dH dA cQ cW cA bU dI dB dW:Value} {x1:(List (List Int))} {dG:Value} {x2:Int} {x3:Int} {x4:Int}:Ct Tryz.prog 286 true (gT x0 x1 x2 x3 x4) [.pointer (some (cU)),dG,.int .i64 (x2),.int .i64 (x3),.int .i64 (x4)] [.au cU [.int .i64 (x0.F.aC.aD),cP,cV,bZ,bT,dH,dA,.int .i64 (x0.G.aC.aD),cQ,cW,cA,bU,dI,dB,.bool (x0.pg),.int .i64 (x0.nz),dW],rI cP x0.F.aC.aG,rI cV x0.F.aC.To,rI bZ x0.F.aC.aI,rJ bT x0.F.aC.aB,rI dH x0.F.aP,rJ dA x0.F.aO,rI cQ x0.G.aC.aG,rI cW x0.G.aC.To,rI cA x0.G.aC.aI,rJ bU x0.G.aC.aB,rI dI x0.G.aP,rJ dB x0.G.aO,.rd false (aV (aV (aV (aN .i64)))) dW x0.Found,rJ dG x1] (fun y (v:Value)=>[v,.bool y.2]) (fun y v=>[.own (aJ 22 (aJ 2 (aN .i64))) v y.1]):=by
 refine ct (S:=Unit) (bx fun _ _=>rfl) Tryz.func286 rfl rfl ?_
 repeat' first
  | (apply Dk.fe; repeat' first | exact rfl | (refine @id.{0} _ ?_; constructor))
  | intro _
  | exact rfl
  | (refine @id.{0} _ ?_; constructor)
  | apply Dk.de 0 (V:=Unit) (A:=Value) _ (fun a (s:Int×(List (List Int))) v=>[.own (aJ 22 (aJ 2 (aN .i64))) a s.2]) (fun a s v=>[(12,a),(13,.int .i64 (s.1))]) () [(0,_),(2,_),(3,_),(4,_)]
  | apply Dk.quiet (id:=6) (by kernel_rfl)
  | apply GJ
  | apply afP
  | exact ()
theorem agc {x0:aK} {aW bC aU aS bP bD:Value} {x1:aK} {dK dP cY cR eC dS:Value} {x2:(List (List Int))} {kJ:Value}:Ct Tryz.prog 214 true (lH x0 x1 x2) [.agg #[.int .i64 (x0.aC.aD),aW,bC,aU,aS,bP,bD],.agg #[.int .i64 (x1.aC.aD),dK,dP,cY,cR,eC,dS],kJ] [rI aW x0.aC.aG,rI bC x0.aC.To,rI aU x0.aC.aI,rJ aS x0.aC.aB,rI bP x0.aP,rJ bD x0.aO,rI dK x1.aC.aG,rI dP x1.aC.To,rI cY x1.aC.aI,rJ cR x1.aC.aB,rI eC x1.aP,rJ dS x1.aO,rJ kJ x2] (fun y (_:Unit)=>[.bool y]) (fun y _=>[]):=by
 refine ct (S:=Unit) (bx fun _ _=>rfl) Tryz.func214 rfl rfl ?_
 repeat' first
  | (apply Dk.fe; repeat' first | exact rfl | (refine @id.{0} _ ?_; constructor))
  | intro _
  | exact rfl
  | (refine @id.{0} _ ?_; constructor)
  | apply Dk.loop 0 (V:=Unit) (fun (s:Int) v=>[]) (fun s v=>[(7,.int .i64 (s))]) () [(2,_),(3,_),(4,_)]
  | apply Dk.quiet (id:=6) (by kernel_rfl)
  | apply Nn
  | exact ()
theorem agd {x0:aY} {cU:Addr} {cJ cS bR bK cK cT bS bL cZ dD:Value} {x1:Int} {x2:Int}:Ct Tryz.prog 122 true (jV x0 x1 x2) [.pointer (some (cU)),.int .i64 (x1),.int .i64 (x2)] [.au cU [.int .i64 (x0.aF.aD),cJ,cS,bR,bK,.int .i64 (x0.aM.aD),cK,cT,bS,bL,cZ,dD],rI cJ x0.aF.aG,rI cS x0.aF.To,rI bR x0.aF.aI,rJ bK x0.aF.aB,rI cK x0.aM.aG,rI cT x0.aM.To,rI bS x0.aM.aI,rJ bL x0.aM.aB,rI cZ x0.aD,rI dD x0.bc] (fun y (v:Value)=>[v]) (fun y v=>[.own (aJ 2 (aN .i64)) v y]):=by
 refine ct (S:=Unit) (bx fun _ _=>rfl) Tryz.func122 rfl rfl ?_
 repeat' first
  | (apply Dk.fe; repeat' first | exact rfl | (refine @id.{0} _ ?_; constructor))
  | intro _
  | exact rfl
  | (refine @id.{0} _ ?_; constructor)
  | apply Dk.loop 0 (V:=Value) (fun (s:(List Int)×Int) v=>[.own (aJ 2 (aN .i64)) v s.1]) (fun s v=>[(7,v),(17,.int .i64 (s.2))]) _ [(0,_),(2,_),(15,_),(16,_)]
  | apply Y9
  | exact ()
theorem age {x0:aY} {cU:Addr} {cJ cS bR bK cK cT bS bL cZ dD:Value}:Ct Tryz.prog 118 true (dV x0) [.pointer (some (cU))] [.au cU [.int .i64 (x0.aF.aD),cJ,cS,bR,bK,.int .i64 (x0.aM.aD),cK,cT,bS,bL,cZ,dD],rI cJ x0.aF.aG,rI cS x0.aF.To,rI bR x0.aF.aI,rJ bK x0.aF.aB,rI cK x0.aM.aG,rI cT x0.aM.To,rI bS x0.aM.aI,rJ bL x0.aM.aB,rI cZ x0.aD,rI dD x0.bc] (fun y (_:Unit)=>[.bool y]) (fun y _=>[]):=by
 refine ct (S:=Unit) (bx fun _ _=>rfl) Tryz.func118 rfl rfl ?_
 repeat' first
  | (apply Dk.fe; repeat' first | exact rfl | (refine @id.{0} _ ?_; constructor))
  | intro _
  | exact rfl
  | (refine @id.{0} _ ?_; constructor)
  | apply Dk.loop 0 (V:=Unit) (fun (s:Int) v=>[]) (fun s v=>[(12,.int .i64 (s))]) () [(0,_),(10,_),(11,_)]
  | apply Dk.loop 2 (V:=Unit) (fun (s:Int) v=>[]) (fun s v=>[(23,.int .i64 (s))]) () [(0,_),(3,_),(10,_),(11,_),(12,_),(21,_),(22,_)]
  | apply Y9
  | apply agd
  | exact ()
end Go.Proofs.YtcnehblmgfbfoaaGreat
