/- Walks by the calculus D. No condition beside those that each theorem names. -/
import Derived.Test.YtcnehblmgfbfoaaGreatDp
import Derived.Test.YtcnehblmgfbfoaaGreatDi
import Derived.Test.YtcnehblmgfbfoaaGreatMo
import Derived.Test.YtcnehblmgfbfoaaGreatDs
import Derived.Test.YtcnehblmgfbfoaaGreatWb
import Derived.Test.YtcnehblmgfbfoaaGreatWc
import Derived.Test.YtcnehblmgfbfoaaGreatWd
namespace Go.Proofs.YtcnehblmgfbfoaaGreat
open Go Go.Li Go.Dk
set_option linter.unusedVariables false
set_option maxHeartbeats 16000000
set_option maxRecDepth 100000
theorem ZQ {x0:aJ} {bO cF aT aS:Value}:Ct Tryz.prog 139 true (kW x0) [.agg #[.int .i64 (x0.aE),bO,cF,aT,aS]] [rI bO x0.aH,rI cF x0.To,rI aT x0.aI,rJ aS x0.aG] (fun y (v:Value×Value×Value×Value)=>[.agg #[.int .i64 y.aE,v.1,v.2.1,v.2.2.1,v.2.2.2]]) (fun y v=>[.own (aL 2 (aK .i64)) v.1 y.aH,.own (aL 2 (aK .i64)) v.2.1 y.To,.own (aL 2 (aK .i64)) v.2.2.1 y.aI,.own (aL 22 (aL 2 (aK .i64))) v.2.2.2 y.aG]):=by
 refine ct (S:=Unit) (bn fun _ _=>rfl) Tryz.func139 rfl rfl ?_
 repeat' first
  | (apply Dk.fe; repeat' first | exact rfl | (refine @id.{0} _ ?_; constructor))
  | intro _
  | exact rfl
  | (refine @id.{0} _ ?_; constructor)
  | apply Oi
  | apply Zm
  | exact ()
theorem c60 {x0:aN} {aW bG aQ aO aY bH aR aP bN bU:Value}:Ct Tryz.prog 60 true (lX x0) [.agg #[.int .i64 (x0.aA.aE),aW,bG,aQ,aO,.int .i64 (x0.aF.aE),aY,bH,aR,aP,bN,bU]] [rI aW x0.aA.aH,rI bG x0.aA.To,rI aQ x0.aA.aI,rJ aO x0.aA.aG,rI aY x0.aF.aH,rI bH x0.aF.To,rI aR x0.aF.aI,rJ aP x0.aF.aG,rI bN x0.aE,rI bU x0.ab] (fun y (v:Value×Value×Value×Value×Value×Value×Value×Value×Value×Value)=>[.agg #[.int .i64 y.aA.aE,v.1,v.2.1,v.2.2.1,v.2.2.2.1,.int .i64 y.aF.aE,v.2.2.2.2.1,v.2.2.2.2.2.1,v.2.2.2.2.2.2.1,v.2.2.2.2.2.2.2.1,v.2.2.2.2.2.2.2.2.1,v.2.2.2.2.2.2.2.2.2]]) (fun y v=>[.own (aL 2 (aK .i64)) v.1 y.aA.aH,.own (aL 2 (aK .i64)) v.2.1 y.aA.To,.own (aL 2 (aK .i64)) v.2.2.1 y.aA.aI,.own (aL 22 (aL 2 (aK .i64))) v.2.2.2.1 y.aA.aG,.own (aL 2 (aK .i64)) v.2.2.2.2.1 y.aF.aH,.own (aL 2 (aK .i64)) v.2.2.2.2.2.1 y.aF.To,.own (aL 2 (aK .i64)) v.2.2.2.2.2.2.1 y.aF.aI,.own (aL 22 (aL 2 (aK .i64))) v.2.2.2.2.2.2.2.1 y.aF.aG,.own (aL 2 (aK .i64)) v.2.2.2.2.2.2.2.2.1 y.aE,.own (aL 2 (aK .i64)) v.2.2.2.2.2.2.2.2.2 y.ab]):=by
 refine ct (S:=Unit) (bn fun _ _=>rfl) Tryz.func60 rfl rfl ?_
 repeat' first
  | (apply Dk.fe; repeat' first | exact rfl | (refine @id.{0} _ ?_; constructor))
  | intro _
  | exact rfl
  | (refine @id.{0} _ ?_; constructor)
  | apply ZQ
  | apply Oi
  | exact ()
theorem EY {x0:bI} {bL bS bE aZ bM bT bF bA bZ cE bJ bP bC aU bK bQ bD aV bV cA cG cT:Value}:Ct Tryz.prog 19 true (iD x0) [.agg #[.int .i64 (x0.Left.aA.aE),bL,bS,bE,aZ,.int .i64 (x0.Left.aF.aE),bM,bT,bF,bA,bZ,cE,.int .i64 (x0.ae.aA.aE),bJ,bP,bC,aU,.int .i64 (x0.ae.aF.aE),bK,bQ,bD,aV,bV,cA,cG,cT]] [rI bL x0.Left.aA.aH,rI bS x0.Left.aA.To,rI bE x0.Left.aA.aI,rJ aZ x0.Left.aA.aG,rI bM x0.Left.aF.aH,rI bT x0.Left.aF.To,rI bF x0.Left.aF.aI,rJ bA x0.Left.aF.aG,rI bZ x0.Left.aE,rI cE x0.Left.ab,rI bJ x0.ae.aA.aH,rI bP x0.ae.aA.To,rI bC x0.ae.aA.aI,rJ aU x0.ae.aA.aG,rI bK x0.ae.aF.aH,rI bQ x0.ae.aF.To,rI bD x0.ae.aF.aI,rJ aV x0.ae.aF.aG,rI bV x0.ae.aE,rI cA x0.ae.ab,rI cG x0.Unit,rI cT x0.aw] (fun y (v:Value×Value×Value×Value×Value×Value×Value×Value×Value×Value×Value×Value×Value×Value×Value×Value×Value×Value×Value×Value×Value×Value)=>[.agg #[.int .i64 y.Left.aA.aE,v.1,v.2.1,v.2.2.1,v.2.2.2.1,.int .i64 y.Left.aF.aE,v.2.2.2.2.1,v.2.2.2.2.2.1,v.2.2.2.2.2.2.1,v.2.2.2.2.2.2.2.1,v.2.2.2.2.2.2.2.2.1,v.2.2.2.2.2.2.2.2.2.1,.int .i64 y.ae.aA.aE,v.2.2.2.2.2.2.2.2.2.2.1,v.2.2.2.2.2.2.2.2.2.2.2.1,v.2.2.2.2.2.2.2.2.2.2.2.2.1,v.2.2.2.2.2.2.2.2.2.2.2.2.2.1,.int .i64 y.ae.aF.aE,v.2.2.2.2.2.2.2.2.2.2.2.2.2.2.1,v.2.2.2.2.2.2.2.2.2.2.2.2.2.2.2.1,v.2.2.2.2.2.2.2.2.2.2.2.2.2.2.2.2.1,v.2.2.2.2.2.2.2.2.2.2.2.2.2.2.2.2.2.1,v.2.2.2.2.2.2.2.2.2.2.2.2.2.2.2.2.2.2.1,v.2.2.2.2.2.2.2.2.2.2.2.2.2.2.2.2.2.2.2.1,v.2.2.2.2.2.2.2.2.2.2.2.2.2.2.2.2.2.2.2.2.1,v.2.2.2.2.2.2.2.2.2.2.2.2.2.2.2.2.2.2.2.2.2]]) (fun y v=>[.own (aL 2 (aK .i64)) v.1 y.Left.aA.aH,.own (aL 2 (aK .i64)) v.2.1 y.Left.aA.To,.own (aL 2 (aK .i64)) v.2.2.1 y.Left.aA.aI,.own (aL 22 (aL 2 (aK .i64))) v.2.2.2.1 y.Left.aA.aG,.own (aL 2 (aK .i64)) v.2.2.2.2.1 y.Left.aF.aH,.own (aL 2 (aK .i64)) v.2.2.2.2.2.1 y.Left.aF.To,.own (aL 2 (aK .i64)) v.2.2.2.2.2.2.1 y.Left.aF.aI,.own (aL 22 (aL 2 (aK .i64))) v.2.2.2.2.2.2.2.1 y.Left.aF.aG,.own (aL 2 (aK .i64)) v.2.2.2.2.2.2.2.2.1 y.Left.aE,.own (aL 2 (aK .i64)) v.2.2.2.2.2.2.2.2.2.1 y.Left.ab,.own (aL 2 (aK .i64)) v.2.2.2.2.2.2.2.2.2.2.1 y.ae.aA.aH,.own (aL 2 (aK .i64)) v.2.2.2.2.2.2.2.2.2.2.2.1 y.ae.aA.To,.own (aL 2 (aK .i64)) v.2.2.2.2.2.2.2.2.2.2.2.2.1 y.ae.aA.aI,.own (aL 22 (aL 2 (aK .i64))) v.2.2.2.2.2.2.2.2.2.2.2.2.2.1 y.ae.aA.aG,.own (aL 2 (aK .i64)) v.2.2.2.2.2.2.2.2.2.2.2.2.2.2.1 y.ae.aF.aH,.own (aL 2 (aK .i64)) v.2.2.2.2.2.2.2.2.2.2.2.2.2.2.2.1 y.ae.aF.To,.own (aL 2 (aK .i64)) v.2.2.2.2.2.2.2.2.2.2.2.2.2.2.2.2.1 y.ae.aF.aI,.own (aL 22 (aL 2 (aK .i64))) v.2.2.2.2.2.2.2.2.2.2.2.2.2.2.2.2.2.1 y.ae.aF.aG,.own (aL 2 (aK .i64)) v.2.2.2.2.2.2.2.2.2.2.2.2.2.2.2.2.2.2.1 y.ae.aE,.own (aL 2 (aK .i64)) v.2.2.2.2.2.2.2.2.2.2.2.2.2.2.2.2.2.2.2.1 y.ae.ab,.own (aL 2 (aK .i64)) v.2.2.2.2.2.2.2.2.2.2.2.2.2.2.2.2.2.2.2.2.1 y.Unit,.own (aL 2 (aK .i64)) v.2.2.2.2.2.2.2.2.2.2.2.2.2.2.2.2.2.2.2.2.2 y.aw]):=by
 refine ct (S:=Unit) (bn fun _ _=>rfl) Tryz.func19 rfl rfl ?_
 repeat' first
  | (apply Dk.fe; repeat' first | exact rfl | (refine @id.{0} _ ?_; constructor))
  | intro _
  | exact rfl
  | (refine @id.{0} _ ?_; constructor)
  | apply c60
  | apply Oi
  | exact ()
theorem Wk {x0:aJ} {bO cF aT aS:Value} {x1:aJ} {gC jI eN eA:Value}:Ct Tryz.prog 91 true (lZ x0 x1) [.agg #[.int .i64 (x0.aE),bO,cF,aT,aS],.agg #[.int .i64 (x1.aE),gC,jI,eN,eA]] [rI bO x0.aH,rI cF x0.To,rI aT x0.aI,rJ aS x0.aG,rI gC x1.aH,rI jI x1.To,rI eN x1.aI,rJ eA x1.aG] (fun y (_:Unit)=>[.bool y]) (fun y _=>[]):=by
 refine ct (S:=Unit) (bn fun _ _=>rfl) Tryz.func91 rfl rfl ?_
 repeat' first
  | (apply Dk.fe; repeat' first | exact rfl | (refine @id.{0} _ ?_; constructor))
  | intro _
  | exact rfl
  | (refine @id.{0} _ ?_; constructor)
  | apply MT
  | apply Zo
  | exact ()
theorem ZR {x0:aN} {aW bG aQ aO aY bH aR aP bN bU:Value} {x1:aN} {cY dA cR cL cZ dB cS cM dG dI:Value}:Ct Tryz.prog 234 true (nY x0 x1) [.agg #[.int .i64 (x0.aA.aE),aW,bG,aQ,aO,.int .i64 (x0.aF.aE),aY,bH,aR,aP,bN,bU],.agg #[.int .i64 (x1.aA.aE),cY,dA,cR,cL,.int .i64 (x1.aF.aE),cZ,dB,cS,cM,dG,dI]] [rI aW x0.aA.aH,rI bG x0.aA.To,rI aQ x0.aA.aI,rJ aO x0.aA.aG,rI aY x0.aF.aH,rI bH x0.aF.To,rI aR x0.aF.aI,rJ aP x0.aF.aG,rI bN x0.aE,rI bU x0.ab,rI cY x1.aA.aH,rI dA x1.aA.To,rI cR x1.aA.aI,rJ cL x1.aA.aG,rI cZ x1.aF.aH,rI dB x1.aF.To,rI cS x1.aF.aI,rJ cM x1.aF.aG,rI dG x1.aE,rI dI x1.ab] (fun y (_:Unit)=>[.bool y]) (fun y _=>[]):=by
 refine ct (S:=Unit) (bn fun _ _=>rfl) Tryz.func234 rfl rfl ?_
 repeat' first
  | (apply Dk.fe; repeat' first | exact rfl | (refine @id.{0} _ ?_; constructor))
  | intro _
  | exact rfl
  | (refine @id.{0} _ ?_; constructor)
  | apply Wk
  | exact ()
theorem ZS {x0:aJ} {bO cF aT aS:Value} {x1:Int} {x2:Int}:Ct Tryz.prog 240 true (oB x0 x1 x2) [.agg #[.int .i64 (x0.aE),bO,cF,aT,aS],.int .i64 (x1),.int .i64 (x2)] [rI bO x0.aH,rI cF x0.To,rI aT x0.aI,rJ aS x0.aG] (fun y (_:Unit)=>[.bool y]) (fun y _=>[]):=by
 refine ct (S:=Unit) (bn fun _ _=>rfl) Tryz.func240 rfl rfl ?_
 repeat' first
  | (apply Dk.fe; repeat' first | exact rfl | (refine @id.{0} _ ?_; constructor))
  | intro _
  | exact rfl
  | (refine @id.{0} _ ?_; constructor)
  | apply Dk.loop 0 (V:=Unit) (fun (s:Int) v=>[]) (fun s v=>[(8,.int .i64 (s))]) () [(3,_),(7,_)]
  | apply Dk.quiet (id:=5) (by kernel_rfl)
  | apply Fb
  | apply Zb
  | exact ()
theorem ZT {x0:aN} {aW bG aQ aO aY bH aR aP bN bU:Value}:Ct Tryz.prog 153 true (lB x0) [.agg #[.int .i64 (x0.aA.aE),aW,bG,aQ,aO,.int .i64 (x0.aF.aE),aY,bH,aR,aP,bN,bU]] [rI aW x0.aA.aH,rI bG x0.aA.To,rI aQ x0.aA.aI,rJ aO x0.aA.aG,rI aY x0.aF.aH,rI bH x0.aF.To,rI aR x0.aF.aI,rJ aP x0.aF.aG,rI bN x0.aE,rI bU x0.ab] (fun y (_:Unit)=>[.bool y]) (fun y _=>[]):=by
 refine ct (S:=Unit) (bn fun _ _=>rfl) Tryz.func153 rfl rfl ?_
 repeat' first
  | (apply Dk.fe; repeat' first | exact rfl | (refine @id.{0} _ ?_; constructor))
  | intro _
  | exact rfl
  | (refine @id.{0} _ ?_; constructor)
  | apply Dk.loop 0 (V:=Unit) (fun (s:Int) v=>[]) (fun s v=>[(3,.int .i64 (s))]) () [(1,_)]
  | apply Dk.loop 2 (V:=Unit) (fun (s:Bool×Int) v=>[]) (fun s v=>[(4,.bool (s.1)),(5,.int .i64 (s.2))]) () [(1,_),(3,_)]
  | apply Dk.quiet (id:=8) (by kernel_rfl)
  | apply ZS
  | exact ()
theorem c76 {x0:aN} {aW bG aQ aO aY bH aR aP bN bU:Value}:Ct Tryz.prog 76 true (iG x0) [.agg #[.int .i64 (x0.aA.aE),aW,bG,aQ,aO,.int .i64 (x0.aF.aE),aY,bH,aR,aP,bN,bU]] [rI aW x0.aA.aH,rI bG x0.aA.To,rI aQ x0.aA.aI,rJ aO x0.aA.aG,rI aY x0.aF.aH,rI bH x0.aF.To,rI aR x0.aF.aI,rJ aP x0.aF.aG,rI bN x0.aE,rI bU x0.ab] (fun y (_:Unit)=>[.bool y]) (fun y _=>[]):=by
 refine ct (S:=Unit) (bn fun _ _=>rfl) Tryz.func76 rfl rfl ?_
 repeat' first
  | (apply Dk.fe; repeat' first | exact rfl | (refine @id.{0} _ ?_; constructor))
  | intro _
  | exact rfl
  | (refine @id.{0} _ ?_; constructor)
  | apply Za
  | apply Zr
  | apply ZT
  | exact ()
theorem c69 {x0:aJ} {bO cF aT aS:Value} {x1:aJ} {gC jI eN eA:Value}:Ct Tryz.prog 69 true (lG x0 x1) [.agg #[.int .i64 (x0.aE),bO,cF,aT,aS],.agg #[.int .i64 (x1.aE),gC,jI,eN,eA]] [rI bO x0.aH,rI cF x0.To,rI aT x0.aI,rJ aS x0.aG,rI gC x1.aH,rI jI x1.To,rI eN x1.aI,rJ eA x1.aG] (fun y (_:Unit)=>[.bool y]) (fun y _=>[]):=by
 refine ct (S:=Unit) (bn fun _ _=>rfl) Tryz.func69 rfl rfl ?_
 repeat' first
  | (apply Dk.fe; repeat' first | exact rfl | (refine @id.{0} _ ?_; constructor))
  | intro _
  | exact rfl
  | (refine @id.{0} _ ?_; constructor)
  | apply Oh
  | apply Zk
  | exact ()
theorem EV {x0:aN} {aW bG aQ aO aY bH aR aP bN bU:Value} {x1:aN} {cY dA cR cL cZ dB cS cM dG dI:Value}:Ct Tryz.prog 12 true (lY x0 x1) [.agg #[.int .i64 (x0.aA.aE),aW,bG,aQ,aO,.int .i64 (x0.aF.aE),aY,bH,aR,aP,bN,bU],.agg #[.int .i64 (x1.aA.aE),cY,dA,cR,cL,.int .i64 (x1.aF.aE),cZ,dB,cS,cM,dG,dI]] [rI aW x0.aA.aH,rI bG x0.aA.To,rI aQ x0.aA.aI,rJ aO x0.aA.aG,rI aY x0.aF.aH,rI bH x0.aF.To,rI aR x0.aF.aI,rJ aP x0.aF.aG,rI bN x0.aE,rI bU x0.ab,rI cY x1.aA.aH,rI dA x1.aA.To,rI cR x1.aA.aI,rJ cL x1.aA.aG,rI cZ x1.aF.aH,rI dB x1.aF.To,rI cS x1.aF.aI,rJ cM x1.aF.aG,rI dG x1.aE,rI dI x1.ab] (fun y (_:Unit)=>[.bool y]) (fun y _=>[]):=by
 refine ct (S:=Unit) (bn fun _ _=>rfl) Tryz.func12 rfl rfl ?_
 repeat' first
  | (apply Dk.fe; repeat' first | exact rfl | (refine @id.{0} _ ?_; constructor))
  | intro _
  | exact rfl
  | (refine @id.{0} _ ?_; constructor)
  | apply c69
  | apply Oh
  | exact ()
theorem E0 {x0:bI} {bL bS bE aZ bM bT bF bA bZ cE bJ bP bC aU bK bQ bD aV bV cA cG cT:Value} {x1:bI} {eO fA dY dP eP fB dZ dQ fN fS eL eW dW dN eM eX dX dO fF fO mJ jY:Value}:Ct Tryz.prog 21 true (lP x0 x1) [.agg #[.int .i64 (x0.Left.aA.aE),bL,bS,bE,aZ,.int .i64 (x0.Left.aF.aE),bM,bT,bF,bA,bZ,cE,.int .i64 (x0.ae.aA.aE),bJ,bP,bC,aU,.int .i64 (x0.ae.aF.aE),bK,bQ,bD,aV,bV,cA,cG,cT],.agg #[.int .i64 (x1.Left.aA.aE),eO,fA,dY,dP,.int .i64 (x1.Left.aF.aE),eP,fB,dZ,dQ,fN,fS,.int .i64 (x1.ae.aA.aE),eL,eW,dW,dN,.int .i64 (x1.ae.aF.aE),eM,eX,dX,dO,fF,fO,mJ,jY]] [rI bL x0.Left.aA.aH,rI bS x0.Left.aA.To,rI bE x0.Left.aA.aI,rJ aZ x0.Left.aA.aG,rI bM x0.Left.aF.aH,rI bT x0.Left.aF.To,rI bF x0.Left.aF.aI,rJ bA x0.Left.aF.aG,rI bZ x0.Left.aE,rI cE x0.Left.ab,rI bJ x0.ae.aA.aH,rI bP x0.ae.aA.To,rI bC x0.ae.aA.aI,rJ aU x0.ae.aA.aG,rI bK x0.ae.aF.aH,rI bQ x0.ae.aF.To,rI bD x0.ae.aF.aI,rJ aV x0.ae.aF.aG,rI bV x0.ae.aE,rI cA x0.ae.ab,rI cG x0.Unit,rI cT x0.aw,rI eO x1.Left.aA.aH,rI fA x1.Left.aA.To,rI dY x1.Left.aA.aI,rJ dP x1.Left.aA.aG,rI eP x1.Left.aF.aH,rI fB x1.Left.aF.To,rI dZ x1.Left.aF.aI,rJ dQ x1.Left.aF.aG,rI fN x1.Left.aE,rI fS x1.Left.ab,rI eL x1.ae.aA.aH,rI eW x1.ae.aA.To,rI dW x1.ae.aA.aI,rJ dN x1.ae.aA.aG,rI eM x1.ae.aF.aH,rI eX x1.ae.aF.To,rI dX x1.ae.aF.aI,rJ dO x1.ae.aF.aG,rI fF x1.ae.aE,rI fO x1.ae.ab,rI mJ x1.Unit,rI jY x1.aw] (fun y (_:Unit)=>[.bool y]) (fun y _=>[]):=by
 refine ct (S:=Unit) (bn fun _ _=>rfl) Tryz.func21 rfl rfl ?_
 repeat' first
  | (apply Dk.fe; repeat' first | exact rfl | (refine @id.{0} _ ?_; constructor))
  | intro _
  | exact rfl
  | (refine @id.{0} _ ?_; constructor)
  | apply EV
  | apply Oh
  | exact ()
end Go.Proofs.YtcnehblmgfbfoaaGreat
