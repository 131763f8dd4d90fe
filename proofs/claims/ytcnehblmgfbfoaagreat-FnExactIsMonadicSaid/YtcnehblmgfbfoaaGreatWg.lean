/- Walks by the calculus D. No condition beside those that each theorem names. -/
import Derived.Test.YtcnehblmgfbfoaaGreatDp
import Derived.Test.YtcnehblmgfbfoaaGreatDi
import Derived.Test.YtcnehblmgfbfoaaGreatMo
import Derived.Test.YtcnehblmgfbfoaaGreatDs
import Derived.Test.YtcnehblmgfbfoaaGreatWa
import Derived.Test.YtcnehblmgfbfoaaGreatWb
import Derived.Test.YtcnehblmgfbfoaaGreatWc
import Derived.Test.YtcnehblmgfbfoaaGreatWd
namespace Go.Proofs.YtcnehblmgfbfoaaGreat
open Go Go.Li Go.Dk
set_option linter.unusedVariables false
set_option maxHeartbeats 16000000
set_option maxRecDepth 100000
theorem ZM {x0:aJ} {bO cF aT aS:Value} {x1:Int}:Ct Tryz.prog 133 true (kV x0 x1) [.agg #[.int .i64 (x0.aE),bO,cF,aT,aS],.int .i64 (x1)] [rI bO x0.aH,rI cF x0.To,rI aT x0.aI,rJ aS x0.aG] (fun y (_:Unit)=>[.int .i64 y]) (fun y _=>[]):=by
 refine ct (S:=Unit) (bn fun _ _=>rfl) Tryz.func133 rfl rfl ?_
 repeat' first
  | (apply Dk.fe; repeat' first | exact rfl | (refine @id.{0} _ ?_; constructor))
  | intro _
  | exact rfl
  | (refine @id.{0} _ ?_; constructor)
  | apply Of
  | apply Zc
  | exact ()
theorem c53 {x0:aN} {aW bG aQ aO aY bH aR aP bN bU:Value} {x1:Int}:Ct Tryz.prog 53 true (lW x0 x1) [.agg #[.int .i64 (x0.aA.aE),aW,bG,aQ,aO,.int .i64 (x0.aF.aE),aY,bH,aR,aP,bN,bU],.int .i64 (x1)] [rI aW x0.aA.aH,rI bG x0.aA.To,rI aQ x0.aA.aI,rJ aO x0.aA.aG,rI aY x0.aF.aH,rI bH x0.aF.To,rI aR x0.aF.aI,rJ aP x0.aF.aG,rI bN x0.aE,rI bU x0.ab] (fun y (_:Unit)=>[.int .i64 y]) (fun y _=>[]):=by
 refine ct (S:=Unit) (bn fun _ _=>rfl) Tryz.func53 rfl rfl ?_
 repeat' first
  | (apply Dk.fe; repeat' first | exact rfl | (refine @id.{0} _ ?_; constructor))
  | intro _
  | exact rfl
  | (refine @id.{0} _ ?_; constructor)
  | apply ZM
  | apply Of
  | exact ()
theorem EW {x0:bI} {bL bS bE aZ bM bT bF bA bZ cE bJ bP bC aU bK bQ bD aV bV cA cG cT:Value} {x1:Int}:Ct Tryz.prog 17 true (lO x0 x1) [.agg #[.int .i64 (x0.Left.aA.aE),bL,bS,bE,aZ,.int .i64 (x0.Left.aF.aE),bM,bT,bF,bA,bZ,cE,.int .i64 (x0.ae.aA.aE),bJ,bP,bC,aU,.int .i64 (x0.ae.aF.aE),bK,bQ,bD,aV,bV,cA,cG,cT],.int .i64 (x1)] [rI bL x0.Left.aA.aH,rI bS x0.Left.aA.To,rI bE x0.Left.aA.aI,rJ aZ x0.Left.aA.aG,rI bM x0.Left.aF.aH,rI bT x0.Left.aF.To,rI bF x0.Left.aF.aI,rJ bA x0.Left.aF.aG,rI bZ x0.Left.aE,rI cE x0.Left.ab,rI bJ x0.ae.aA.aH,rI bP x0.ae.aA.To,rI bC x0.ae.aA.aI,rJ aU x0.ae.aA.aG,rI bK x0.ae.aF.aH,rI bQ x0.ae.aF.To,rI bD x0.ae.aF.aI,rJ aV x0.ae.aF.aG,rI bV x0.ae.aE,rI cA x0.ae.ab,rI cG x0.Unit,rI cT x0.aw] (fun y (_:Unit)=>[.int .i64 y]) (fun y _=>[]):=by
 refine ct (S:=Unit) (bn fun _ _=>rfl) Tryz.func17 rfl rfl ?_
 repeat' first
  | (apply Dk.fe; repeat' first | exact rfl | (refine @id.{0} _ ?_; constructor))
  | intro _
  | exact rfl
  | (refine @id.{0} _ ?_; constructor)
  | apply c53
  | apply Of
  | exact ()
theorem ZN {x0:aJ} {bO cF aT aS:Value}:Ct Tryz.prog 138 true (nS x0) [.agg #[.int .i64 (x0.aE),bO,cF,aT,aS]] [rI bO x0.aH,rI cF x0.To,rI aT x0.aI,rJ aS x0.aG] (fun y (v:Value×Value×Value×Value)=>[.agg #[.int .i64 y.aE,v.1,v.2.1,v.2.2.1,v.2.2.2]]) (fun y v=>[.own (aL 2 (aK .i64)) v.1 y.aH,.own (aL 2 (aK .i64)) v.2.1 y.To,.own (aL 2 (aK .i64)) v.2.2.1 y.aI,.own (aL 22 (aL 2 (aK .i64))) v.2.2.2 y.aG]):=by
 refine ct (S:=Unit) (bn fun _ _=>rfl) Tryz.func138 rfl rfl ?_
 repeat' first
  | (apply Dk.fe; repeat' first | exact rfl | (refine @id.{0} _ ?_; constructor))
  | intro _
  | exact rfl
  | (refine @id.{0} _ ?_; constructor)
  | apply Dk.any (id:=1) 14 [] [] [[],[0],[],[2],[2,3],[],[5],[2,3,4,5,6],[],[8],[2,3,4,5,6,7,8,9],[],[11],[2,3,4,5,6,7,8,9,10,11,12]] (by kernel_rfl)
  | apply Io
  | apply Zp
  | exact ()
theorem Tu {x0:aJ} {bO cF aT aS:Value} {x1:aJ} {gC jI eN eA:Value} {x2:(List Int)} {mI:Value} {x3:(List Int)} {pW:Value}:Ct Tryz.prog 59 true (mA x0 x1 x2 x3) [.agg #[.int .i64 (x0.aE),bO,cF,aT,aS],.agg #[.int .i64 (x1.aE),gC,jI,eN,eA],mI,pW] [rI bO x0.aH,rI cF x0.To,rI aT x0.aI,rJ aS x0.aG,rI gC x1.aH,rI jI x1.To,rI eN x1.aI,rJ eA x1.aG,rI mI x2,rI pW x3] (fun y (v:Value×Value×Value×Value×Value×Value×Value×Value×Value×Value)=>[.agg #[.int .i64 y.aA.aE,v.1,v.2.1,v.2.2.1,v.2.2.2.1,.int .i64 y.aF.aE,v.2.2.2.2.1,v.2.2.2.2.2.1,v.2.2.2.2.2.2.1,v.2.2.2.2.2.2.2.1,v.2.2.2.2.2.2.2.2.1,v.2.2.2.2.2.2.2.2.2]]) (fun y v=>[.own (aL 2 (aK .i64)) v.1 y.aA.aH,.own (aL 2 (aK .i64)) v.2.1 y.aA.To,.own (aL 2 (aK .i64)) v.2.2.1 y.aA.aI,.own (aL 22 (aL 2 (aK .i64))) v.2.2.2.1 y.aA.aG,.own (aL 2 (aK .i64)) v.2.2.2.2.1 y.aF.aH,.own (aL 2 (aK .i64)) v.2.2.2.2.2.1 y.aF.To,.own (aL 2 (aK .i64)) v.2.2.2.2.2.2.1 y.aF.aI,.own (aL 22 (aL 2 (aK .i64))) v.2.2.2.2.2.2.2.1 y.aF.aG,.own (aL 2 (aK .i64)) v.2.2.2.2.2.2.2.2.1 y.aE,.own (aL 2 (aK .i64)) v.2.2.2.2.2.2.2.2.2 y.ab]):=by
 refine ct (S:=Unit) (bn fun _ _=>rfl) Tryz.func59 rfl rfl ?_
 repeat' first
  | (apply Dk.fe; repeat' first | exact rfl | (refine @id.{0} _ ?_; constructor))
  | intro _
  | exact rfl
  | (refine @id.{0} _ ?_; constructor)
  | apply Dk.any (id:=1) 7 [] [] [[],[0],[],[0,1,2],[],[0,1,2,3,4],[]] (by kernel_rfl)
  | apply ZN
  | apply Io
  | exact ()
theorem Tv {x0:aJ} {bO cF aT aS:Value}:Ct Tryz.prog 103 true (iW x0) [.agg #[.int .i64 (x0.aE),bO,cF,aT,aS]] [rI bO x0.aH,rI cF x0.To,rI aT x0.aI,rJ aS x0.aG] (fun y (v:Value×Value×Value×Value×Value×Value×Value×Value×Value×Value)=>[.agg #[.int .i64 y.aA.aE,v.1,v.2.1,v.2.2.1,v.2.2.2.1,.int .i64 y.aF.aE,v.2.2.2.2.1,v.2.2.2.2.2.1,v.2.2.2.2.2.2.1,v.2.2.2.2.2.2.2.1,v.2.2.2.2.2.2.2.2.1,v.2.2.2.2.2.2.2.2.2]]) (fun y v=>[.own (aL 2 (aK .i64)) v.1 y.aA.aH,.own (aL 2 (aK .i64)) v.2.1 y.aA.To,.own (aL 2 (aK .i64)) v.2.2.1 y.aA.aI,.own (aL 22 (aL 2 (aK .i64))) v.2.2.2.1 y.aA.aG,.own (aL 2 (aK .i64)) v.2.2.2.2.1 y.aF.aH,.own (aL 2 (aK .i64)) v.2.2.2.2.2.1 y.aF.To,.own (aL 2 (aK .i64)) v.2.2.2.2.2.2.1 y.aF.aI,.own (aL 22 (aL 2 (aK .i64))) v.2.2.2.2.2.2.2.1 y.aF.aG,.own (aL 2 (aK .i64)) v.2.2.2.2.2.2.2.2.1 y.aE,.own (aL 2 (aK .i64)) v.2.2.2.2.2.2.2.2.2 y.ab]):=by
 refine ct (S:=Unit) (bn fun _ _=>rfl) Tryz.func103 rfl rfl ?_
 repeat' first
  | (apply Dk.fe; repeat' first | exact rfl | (refine @id.{0} _ ?_; constructor))
  | intro _
  | exact rfl
  | (refine @id.{0} _ ?_; constructor)
  | apply Dk.loop 0 (V:=Value) (fun (s:(List Int)×Int) v=>[.own (aL 2 (aK .i64)) v s.1]) (fun s v=>[(3,v),(5,.int .i64 (s.2))]) _ [(1,_),(2,_),(4,_)]
  | apply Dk.loop 2 (V:=Value) (fun (s:(List Int)×Int) v=>[.own (aL 2 (aK .i64)) v s.1]) (fun s v=>[(4,v),(6,.int .i64 (s.2))]) _ [(1,_),(2,_),(3,_)]
  | apply Tu
  | exact ()
theorem MZ {x0:aN} {aW bG aQ aO aY bH aR aP bN bU:Value} {x1:aN} {cY dA cR cL cZ dB cS cM dG dI:Value}:Ct Tryz.prog 235 true (gR x0 x1) [.agg #[.int .i64 (x0.aA.aE),aW,bG,aQ,aO,.int .i64 (x0.aF.aE),aY,bH,aR,aP,bN,bU],.agg #[.int .i64 (x1.aA.aE),cY,dA,cR,cL,.int .i64 (x1.aF.aE),cZ,dB,cS,cM,dG,dI]] [rI aW x0.aA.aH,rI bG x0.aA.To,rI aQ x0.aA.aI,rJ aO x0.aA.aG,rI aY x0.aF.aH,rI bH x0.aF.To,rI aR x0.aF.aI,rJ aP x0.aF.aG,rI bN x0.aE,rI bU x0.ab,rI cY x1.aA.aH,rI dA x1.aA.To,rI cR x1.aA.aI,rJ cL x1.aA.aG,rI cZ x1.aF.aH,rI dB x1.aF.To,rI cS x1.aF.aI,rJ cM x1.aF.aG,rI dG x1.aE,rI dI x1.ab] (fun y (v:Value×Value×Value×Value×Value×Value×Value×Value×Value×Value)=>[.agg #[.int .i64 y.aA.aE,v.1,v.2.1,v.2.2.1,v.2.2.2.1,.int .i64 y.aF.aE,v.2.2.2.2.1,v.2.2.2.2.2.1,v.2.2.2.2.2.2.1,v.2.2.2.2.2.2.2.1,v.2.2.2.2.2.2.2.2.1,v.2.2.2.2.2.2.2.2.2]]) (fun y v=>[.own (aL 2 (aK .i64)) v.1 y.aA.aH,.own (aL 2 (aK .i64)) v.2.1 y.aA.To,.own (aL 2 (aK .i64)) v.2.2.1 y.aA.aI,.own (aL 22 (aL 2 (aK .i64))) v.2.2.2.1 y.aA.aG,.own (aL 2 (aK .i64)) v.2.2.2.2.1 y.aF.aH,.own (aL 2 (aK .i64)) v.2.2.2.2.2.1 y.aF.To,.own (aL 2 (aK .i64)) v.2.2.2.2.2.2.1 y.aF.aI,.own (aL 22 (aL 2 (aK .i64))) v.2.2.2.2.2.2.2.1 y.aF.aG,.own (aL 2 (aK .i64)) v.2.2.2.2.2.2.2.2.1 y.aE,.own (aL 2 (aK .i64)) v.2.2.2.2.2.2.2.2.2 y.ab]):=by
 refine ct (S:=Unit) (bn fun _ _=>rfl) Tryz.func235 rfl rfl ?_
 repeat' first
  | (apply Dk.fe; repeat' first | exact rfl | (refine @id.{0} _ ?_; constructor))
  | intro _
  | exact rfl
  | (refine @id.{0} _ ?_; constructor)
  | apply Dk.any (id:=1) 14 [] [] [[],[0],[],[2],[],[4],[],[6],[4,5,6,7],[],[9],[],[11],[4,5,6,7,8,9,10,11,12]] (by kernel_rfl)
  | apply Tc
  | apply Tu
  | exact ()
theorem Wj {x0:aJ} {cV:Addr} {bO cF aT aS:Value} {x1:aJ} {iZ:Addr} {gC jI eN eA:Value}:Ct Tryz.prog 85 true (fZ x0 x1) [.pointer (some (cV)),.pointer (some (iZ))] [.bb iZ [.int .i64 (x1.aE),gC,jI,eN,eA],.bb cV [.int .i64 (x0.aE),bO,cF,aT,aS],rI bO x0.aH,rI cF x0.To,rI aT x0.aI,rJ aS x0.aG,rI gC x1.aH,rI jI x1.To,rI eN x1.aI,rJ eA x1.aG] (fun y (_:Unit)=>[.bool y]) (fun y _=>[]):=by
 refine ct (S:=Unit) (bn fun _ _=>rfl) Tryz.func85 rfl rfl ?_
 repeat' first
  | (apply Dk.fe; repeat' first | exact rfl | (refine @id.{0} _ ?_; constructor))
  | intro _
  | exact rfl
  | (refine @id.{0} _ ?_; constructor)
  | apply Dk.loop 0 (V:=Unit) (fun (s:Int) v=>[]) (fun s v=>[(69,.int .i64 (s))]) () [(0,_),(1,_),(68,_)]
  | apply Dk.quiet (id:=1) (by kernel_rfl)
  | apply Dk.quiet (id:=6) (by kernel_rfl)
  | apply Zt
  | exact ()
theorem ZO {x0:aN} {cV:Addr} {aW bG aQ aO aY bH aR aP bN bU:Value} {x1:aN} {iZ:Addr} {cY dA cR cL cZ dB cS cM dG dI:Value}:Ct Tryz.prog 241 true (oC x0 x1) [.pointer (some (cV)),.pointer (some (iZ))] [.bb iZ [.int .i64 (x1.aA.aE),cY,dA,cR,cL,.int .i64 (x1.aF.aE),cZ,dB,cS,cM,dG,dI],.bb cV [.int .i64 (x0.aA.aE),aW,bG,aQ,aO,.int .i64 (x0.aF.aE),aY,bH,aR,aP,bN,bU],rI aW x0.aA.aH,rI bG x0.aA.To,rI aQ x0.aA.aI,rJ aO x0.aA.aG,rI aY x0.aF.aH,rI bH x0.aF.To,rI aR x0.aF.aI,rJ aP x0.aF.aG,rI bN x0.aE,rI bU x0.ab,rI cY x1.aA.aH,rI dA x1.aA.To,rI cR x1.aA.aI,rJ cL x1.aA.aG,rI cZ x1.aF.aH,rI dB x1.aF.To,rI cS x1.aF.aI,rJ cM x1.aF.aG,rI dG x1.aE,rI dI x1.ab] (fun y (_:Unit)=>[.bool y]) (fun y _=>[]):=by
 refine ct (S:=Unit) (bn fun _ _=>rfl) Tryz.func241 rfl rfl ?_
 repeat' first
  | (apply Dk.fe; repeat' first | exact rfl | (refine @id.{0} _ ?_; constructor))
  | intro _
  | exact rfl
  | (refine @id.{0} _ ?_; constructor)
  | apply Dk.quiet (id:=1) (by kernel_rfl)
  | apply Wj
  | exact ()
theorem ZP {x0:aN} {cV:Addr} {aW bG aQ aO aY bH aR aP bN bU:Value} {x1:aN} {iZ:Addr} {cY dA cR cL cZ dB cS cM dG dI:Value}:Ct Tryz.prog 293 true (jG x0 x1) [.pointer (some (cV)),.pointer (some (iZ))] [.bb iZ [.int .i64 (x1.aA.aE),cY,dA,cR,cL,.int .i64 (x1.aF.aE),cZ,dB,cS,cM,dG,dI],.bb cV [.int .i64 (x0.aA.aE),aW,bG,aQ,aO,.int .i64 (x0.aF.aE),aY,bH,aR,aP,bN,bU],rI aW x0.aA.aH,rI bG x0.aA.To,rI aQ x0.aA.aI,rJ aO x0.aA.aG,rI aY x0.aF.aH,rI bH x0.aF.To,rI aR x0.aF.aI,rJ aP x0.aF.aG,rI bN x0.aE,rI bU x0.ab,rI cY x1.aA.aH,rI dA x1.aA.To,rI cR x1.aA.aI,rJ cL x1.aA.aG,rI cZ x1.aF.aH,rI dB x1.aF.To,rI cS x1.aF.aI,rJ cM x1.aF.aG,rI dG x1.aE,rI dI x1.ab] (fun y (_:Unit)=>[.bool y]) (fun y _=>[]):=by
 refine ct (S:=Unit) (bn fun _ _=>rfl) Tryz.func293 rfl rfl ?_
 repeat' first
  | (apply Dk.fe; repeat' first | exact rfl | (refine @id.{0} _ ?_; constructor))
  | intro _
  | exact rfl
  | (refine @id.{0} _ ?_; constructor)
  | apply Dk.quiet (id:=1) (by kernel_rfl)
  | apply Wj
  | exact ()
theorem Kr {x0:bY} {cV:Addr} {eE eQ dR dJ eF eR dS dK fC fG eG eS dT dL eH eT dU dM fD fH gD:Value}:Ct Tryz.prog 288 true (lR x0 (fun a0 a1 a2 a3=>jJ a0 a1 a2 a3)) [.pointer (some (cV)),.func (.func 289) #[] #[]] [.bb cV [.int .i64 (x0.aA.aA.aE),eE,eQ,dR,dJ,.int .i64 (x0.aA.aF.aE),eF,eR,dS,dK,fC,fG,.int .i64 (x0.aF.aA.aE),eG,eS,dT,dL,.int .i64 (x0.aF.aF.aE),eH,eT,dU,dM,fD,fH,gD],rI eE x0.aA.aA.aH,rI eQ x0.aA.aA.To,rI dR x0.aA.aA.aI,rJ dJ x0.aA.aA.aG,rI eF x0.aA.aF.aH,rI eR x0.aA.aF.To,rI dS x0.aA.aF.aI,rJ dK x0.aA.aF.aG,rI fC x0.aA.aE,rI fG x0.aA.ab,rI eG x0.aF.aA.aH,rI eS x0.aF.aA.To,rI dT x0.aF.aA.aI,rJ dL x0.aF.aA.aG,rI eH x0.aF.aF.aH,rI eT x0.aF.aF.To,rI dU x0.aF.aF.aI,rJ dM x0.aF.aF.aG,rI fD x0.aF.aE,rI fH x0.aF.ab,rI gD x0.aX] (fun y (_:Unit)=>[.int .i64 y]) (fun y _=>[]):=by
 refine ct (S:=Unit) (bn fun _ _=>rfl) Tryz.func288 rfl rfl ?_
 repeat' first
  | (apply Dk.fe; repeat' first | exact rfl | (refine @id.{0} _ ?_; constructor))
  | intro _
  | exact rfl
  | (refine @id.{0} _ ?_; constructor)
  | apply Dk.loop 0 (V:=Unit) (fun (s:Int) v=>[]) (fun s v=>[(12,.int .i64 (s))]) () [(0,_),(1,_),(11,_)]
  | apply Dk.quiet (id:=4) (by kernel_rfl)
  | apply YX
  | exact ()
end Go.Proofs.YtcnehblmgfbfoaaGreat
