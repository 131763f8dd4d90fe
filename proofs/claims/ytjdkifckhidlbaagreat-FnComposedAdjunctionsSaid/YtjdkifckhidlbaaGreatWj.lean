/- Walks by the calculus D. No condition beside those that each theorem names. -/
import Derived.Test.YtjdkifckhidlbaaGreatDp
import Derived.Test.YtjdkifckhidlbaaGreatDi
import Derived.Test.YtjdkifckhidlbaaGreatMo
import Derived.Test.YtjdkifckhidlbaaGreatDs
import Derived.Test.YtjdkifckhidlbaaGreatWb
import Derived.Test.YtjdkifckhidlbaaGreatWd
import Derived.Test.YtjdkifckhidlbaaGreatWf
import Derived.Test.YtjdkifckhidlbaaGreatWg
import Derived.Test.YtjdkifckhidlbaaGreatWh
namespace Go.Proofs.YtjdkifckhidlbaaGreat
open Go Go.Li Go.Dk
set_option linter.unusedVariables false
set_option maxHeartbeats 16000000
set_option maxRecDepth 100000
theorem afT {x0:aO} {cZ:Addr} {bT cB bD bB bU cC bE bC cD cG:Value}:Ct Tryz.prog 103 true (jA x0) [.pointer (some (cZ))] [.bb cZ [.int .i64 (x0.aB.aA),bT,cB,bD,bB,.int .i64 (x0.aF.aA),bU,cC,bE,bC,cD,cG],rI bT x0.aB.aH,rI cB x0.aB.To,rI bD x0.aB.aJ,rJ bB x0.aB.aE,rI bU x0.aF.aH,rI cC x0.aF.To,rI bE x0.aF.aJ,rJ bC x0.aF.aE,rI cD x0.aA,rI cG x0.ae] (fun y (_:Unit)=>[.bool y]) (fun y _=>[]):=by
 refine ct (S:=Unit) (cf fun _ _=>rfl) Tryz.func103 rfl rfl ?_
 repeat' first
  | (apply Dk.fe; repeat' first | exact rfl | (refine @id.{0} _ ?_; constructor))
  | intro _
  | exact rfl
  | (refine @id.{0} _ ?_; constructor)
  | apply Dk.P1 (id:=1) 7 [] [[],[0],[0,1],[],[3],[3,4],[0,1,2,3,4,5]] (by kernel_rfl)
  | apply afM
  | apply afD
  | exact ()
theorem c77 {x0:(List aO)} {cX:Value}:Ct Tryz.prog 77 true (kM x0) [cX] [.rd false (bY (xa LX)) cX x0] (fun y (_:Unit)=>[.bool y]) (fun y _=>[]):=by
 refine ct (S:=Unit) (cf fun _ _=>rfl) Tryz.func77 rfl rfl ?_
 repeat' first
  | (apply Dk.fe; repeat' first | exact rfl | (refine @id.{0} _ ?_; constructor))
  | intro _
  | exact rfl
  | (refine @id.{0} _ ?_; constructor)
  | apply Dk.loop 0 (V:=Unit) (fun (s:Int) v=>[]) (fun s v=>[(7,.int .i64 (s))]) () [(5,_),(6,_)]
  | apply afT
  | exact ()
theorem afU {x0:bZ} {cZ:Addr} {eD eM dN dF eE eN dP dG fC fI eG eP dQ dH eH eQ dR dI fD fJ gM:Value}:Ct Tryz.prog 233 true (gK x0) [.pointer (some (cZ))] [.bb cZ [.int .i64 (x0.aB.aB.aA),eD,eM,dN,dF,.int .i64 (x0.aB.aF.aA),eE,eN,dP,dG,fC,fI,.int .i64 (x0.aF.aB.aA),eG,eP,dQ,dH,.int .i64 (x0.aF.aF.aA),eH,eQ,dR,dI,fD,fJ,gM],rI eD x0.aB.aB.aH,rI eM x0.aB.aB.To,rI dN x0.aB.aB.aJ,rJ dF x0.aB.aB.aE,rI eE x0.aB.aF.aH,rI eN x0.aB.aF.To,rI dP x0.aB.aF.aJ,rJ dG x0.aB.aF.aE,rI fC x0.aB.aA,rI fI x0.aB.ae,rI eG x0.aF.aB.aH,rI eP x0.aF.aB.To,rI dQ x0.aF.aB.aJ,rJ dH x0.aF.aB.aE,rI eH x0.aF.aF.aH,rI eQ x0.aF.aF.To,rI dR x0.aF.aF.aJ,rJ dI x0.aF.aF.aE,rI fD x0.aF.aA,rI fJ x0.aF.ae,rI gM x0.an] (fun y (_:Unit)=>[.bool y]) (fun y _=>[]):=by
 refine ct (S:=Unit) (cf fun _ _=>rfl) Tryz.func233 rfl rfl ?_
 repeat' first
  | (apply Dk.fe; repeat' first | exact rfl | (refine @id.{0} _ ?_; constructor))
  | intro _
  | exact rfl
  | (refine @id.{0} _ ?_; constructor)
  | apply Dk.loop 0 (V:=Unit) (fun (s:Int) v=>[]) (fun s v=>[(54,.int .i64 (s))]) () [(3,_),(4,_),(52,_),(53,_)]
  | apply Dk.quiet (id:=1) (by kernel_rfl)
  | apply Dk.quiet (id:=7) (by kernel_rfl)
  | apply Dk.P1 (id:=2) 3 [] [[],[],[0,1]] (by kernel_rfl)
  | apply c77
  | apply afS
  | apply Js
  | apply RE
  | apply MJ
  | exact ()
theorem afV {x0:bZ} {cZ:Addr} {eD eM dN dF eE eN dP dG fC fI eG eP dQ dH eH eQ dR dI fD fJ gM:Value}:Ct Tryz.prog 148 true (fR x0) [.pointer (some (cZ))] [.bb cZ [.int .i64 (x0.aB.aB.aA),eD,eM,dN,dF,.int .i64 (x0.aB.aF.aA),eE,eN,dP,dG,fC,fI,.int .i64 (x0.aF.aB.aA),eG,eP,dQ,dH,.int .i64 (x0.aF.aF.aA),eH,eQ,dR,dI,fD,fJ,gM],rI eD x0.aB.aB.aH,rI eM x0.aB.aB.To,rI dN x0.aB.aB.aJ,rJ dF x0.aB.aB.aE,rI eE x0.aB.aF.aH,rI eN x0.aB.aF.To,rI dP x0.aB.aF.aJ,rJ dG x0.aB.aF.aE,rI fC x0.aB.aA,rI fI x0.aB.ae,rI eG x0.aF.aB.aH,rI eP x0.aF.aB.To,rI dQ x0.aF.aB.aJ,rJ dH x0.aF.aB.aE,rI eH x0.aF.aF.aH,rI eQ x0.aF.aF.To,rI dR x0.aF.aF.aJ,rJ dI x0.aF.aF.aE,rI fD x0.aF.aA,rI fJ x0.aF.ae,rI gM x0.an] (fun y (_:Unit)=>[.bool y]) (fun y _=>[]):=by
 refine ct (S:=Unit) (cf fun _ _=>rfl) Tryz.func148 rfl rfl ?_
 repeat' first
  | (apply Dk.fe; repeat' first | exact rfl | (refine @id.{0} _ ?_; constructor))
  | intro _
  | exact rfl
  | (refine @id.{0} _ ?_; constructor)
  | apply afU
  | apply O9
  | exact ()
theorem afW {x0:(List bZ)} {cX:Value}:Ct Tryz.prog 285 true (kX x0) [cX] [.rd false (bY (xa Qf)) cX x0] (fun y (_:Unit)=>[.bool y]) (fun y _=>[]):=by
 refine ct (S:=Unit) (cf fun _ _=>rfl) Tryz.func285 rfl rfl ?_
 repeat' first
  | (apply Dk.fe; repeat' first | exact rfl | (refine @id.{0} _ ?_; constructor))
  | intro _
  | exact rfl
  | (refine @id.{0} _ ?_; constructor)
  | apply Dk.loop 0 (V:=Unit) (fun (s:Int) v=>[]) (fun s v=>[(7,.int .i64 (s))]) () [(5,_),(6,_)]
  | apply afV
  | exact ()
theorem afX {x0:aS} {cZ:Addr} {bJ bP aZ aT bK bQ bA aU bW cA bG bL aW aQ bH bN aY aR bS bX cS cN:Value}:Ct Tryz.prog 220 true (jS x0) [.pointer (some (cZ))] [.bb cZ [.int .i64 (x0.Left.aB.aA),bJ,bP,aZ,aT,.int .i64 (x0.Left.aF.aA),bK,bQ,bA,aU,bW,cA,.int .i64 (x0.ab.aB.aA),bG,bL,aW,aQ,.int .i64 (x0.ab.aF.aA),bH,bN,aY,aR,bS,bX,cS,cN],rI bJ x0.Left.aB.aH,rI bP x0.Left.aB.To,rI aZ x0.Left.aB.aJ,rJ aT x0.Left.aB.aE,rI bK x0.Left.aF.aH,rI bQ x0.Left.aF.To,rI bA x0.Left.aF.aJ,rJ aU x0.Left.aF.aE,rI bW x0.Left.aA,rI cA x0.Left.ae,rI bG x0.ab.aB.aH,rI bL x0.ab.aB.To,rI aW x0.ab.aB.aJ,rJ aQ x0.ab.aB.aE,rI bH x0.ab.aF.aH,rI bN x0.ab.aF.To,rI aY x0.ab.aF.aJ,rJ aR x0.ab.aF.aE,rI bS x0.ab.aA,rI bX x0.ab.ae,rI cS x0.Unit,rI cN x0.ba] (fun y (_:Unit)=>[.bool y]) (fun y _=>[]):=by
 refine ct (S:=Unit) (cf fun _ _=>rfl) Tryz.func220 rfl rfl ?_
 repeat' first
  | (apply Dk.fe; repeat' first | exact rfl | (refine @id.{0} _ ?_; constructor))
  | intro _
  | exact rfl
  | apply Dk.AD.val (d:=47)
  | apply Dk.AD.val (d:=54)
  | (refine @id.{0} _ ?_; constructor)
  | apply Dk.loop 0 (V:=Unit) (fun (s:Int) v=>[]) (fun s v=>[(64,.int .i64 (s))]) () [(0,_),(3,_),(4,_),(62,_),(63,_)]
  | apply Dk.loop 2 (V:=Unit) (fun (s:Int) v=>[]) (fun s v=>[(107,.int .i64 (s))]) () [(0,_),(3,_),(105,_),(106,_)]
  | apply Dk.quiet (id:=1) (by kernel_rfl)
  | apply Dk.quiet (id:=11) (by kernel_rfl)
  | apply Dk.quiet (id:=17) (by kernel_rfl)
  | apply Dk.any (id:=2) 16 [] [] [[],[0],[0,1],[],[3],[3,4],[0,1,2,3,4,5],[],[7],[7,8],[],[10],[10,11],[0,1,2,3,4,5,6,7,8,9,10,11,12],[],[]] (by kernel_rfl)
  | apply Dk.any (id:=4) 8 [] [] [[],[],[],[2],[2,3],[2,3,4],[0,1,2,3,4,5],[]] (by kernel_rfl)
  | apply Dk.any (id:=5) 8 [] [] [[],[],[],[2],[2,3],[2,3,4],[0,1,2,3,4,5],[]] (by kernel_rfl)
  | apply c93
  | apply afF
  | apply afW
  | apply FX
  | exact ()
theorem RH {x0:aS} {cZ:Addr} {bJ bP aZ aT bK bQ bA aU bW cA bG bL aW aQ bH bN aY aR bS bX cS cN:Value}:Ct Tryz.prog 138 true (eA x0) [.pointer (some (cZ))] [.bb cZ [.int .i64 (x0.Left.aB.aA),bJ,bP,aZ,aT,.int .i64 (x0.Left.aF.aA),bK,bQ,bA,aU,bW,cA,.int .i64 (x0.ab.aB.aA),bG,bL,aW,aQ,.int .i64 (x0.ab.aF.aA),bH,bN,aY,aR,bS,bX,cS,cN],rI bJ x0.Left.aB.aH,rI bP x0.Left.aB.To,rI aZ x0.Left.aB.aJ,rJ aT x0.Left.aB.aE,rI bK x0.Left.aF.aH,rI bQ x0.Left.aF.To,rI bA x0.Left.aF.aJ,rJ aU x0.Left.aF.aE,rI bW x0.Left.aA,rI cA x0.Left.ae,rI bG x0.ab.aB.aH,rI bL x0.ab.aB.To,rI aW x0.ab.aB.aJ,rJ aQ x0.ab.aB.aE,rI bH x0.ab.aF.aH,rI bN x0.ab.aF.To,rI aY x0.ab.aF.aJ,rJ aR x0.ab.aF.aE,rI bS x0.ab.aA,rI bX x0.ab.ae,rI cS x0.Unit,rI cN x0.ba] (fun y (_:Unit)=>[.bool y]) (fun y _=>[]):=by
 refine ct (S:=Unit) (cf fun _ _=>rfl) Tryz.func138 rfl rfl ?_
 repeat' first
  | (apply Dk.fe; repeat' first | exact rfl | (refine @id.{0} _ ?_; constructor))
  | intro _
  | exact rfl
  | (refine @id.{0} _ ?_; constructor)
  | apply Dk.P1 (id:=1) 7 [] [[],[0],[0,1],[],[3],[3,4],[0,1,2,3,4,5]] (by kernel_rfl)
  | apply c77
  | apply afR
  | apply afX
  | exact ()
theorem afY {x0:aS} {cZ:Addr} {bJ bP aZ aT bK bQ bA aU bW cA bG bL aW aQ bH bN aY aR bS bX cS cN:Value} {x1:Int} {x2:Int}:Ct Tryz.prog 109 true (gL x0 x1 x2) [.pointer (some (cZ)),.int .i64 (x1),.int .i64 (x2)] [.bb cZ [.int .i64 (x0.Left.aB.aA),bJ,bP,aZ,aT,.int .i64 (x0.Left.aF.aA),bK,bQ,bA,aU,bW,cA,.int .i64 (x0.ab.aB.aA),bG,bL,aW,aQ,.int .i64 (x0.ab.aF.aA),bH,bN,aY,aR,bS,bX,cS,cN],rI bJ x0.Left.aB.aH,rI bP x0.Left.aB.To,rI aZ x0.Left.aB.aJ,rJ aT x0.Left.aB.aE,rI bK x0.Left.aF.aH,rI bQ x0.Left.aF.To,rI bA x0.Left.aF.aJ,rJ aU x0.Left.aF.aE,rI bW x0.Left.aA,rI cA x0.Left.ae,rI bG x0.ab.aB.aH,rI bL x0.ab.aB.To,rI aW x0.ab.aB.aJ,rJ aQ x0.ab.aB.aE,rI bH x0.ab.aF.aH,rI bN x0.ab.aF.To,rI aY x0.ab.aF.aJ,rJ aR x0.ab.aF.aE,rI bS x0.ab.aA,rI bX x0.ab.ae,rI cS x0.Unit,rI cN x0.ba] (fun y (_:Unit)=>[.int .i64 y]) (fun y _=>[]):=by
 refine ct (S:=Unit) (cf fun _ _=>rfl) Tryz.func109 rfl rfl ?_
 repeat' first
  | (apply Dk.fe; repeat' first | exact rfl | (refine @id.{0} _ ?_; constructor))
  | intro _
  | exact rfl
  | (refine @id.{0} _ ?_; constructor)
  | apply RH
  | apply Jt
  | exact ()
theorem afZ {x0:aO} {cZ:Addr} {bT cB bD bB bU cC bE bC cD cG:Value} {x1:aO} {lO:Addr} {cT cV cO cJ cU cW cP cK dA dD:Value} {x2:(List Int)} {eB:Value} {x3:(List Int)} {gS:Value}:Ct Tryz.prog 139 true (mL x0 x1 x2 x3) [.pointer (some (cZ)),.pointer (some (lO)),eB,gS] [.bb lO [.int .i64 (x1.aB.aA),cT,cV,cO,cJ,.int .i64 (x1.aF.aA),cU,cW,cP,cK,dA,dD],.bb cZ [.int .i64 (x0.aB.aA),bT,cB,bD,bB,.int .i64 (x0.aF.aA),bU,cC,bE,bC,cD,cG],rI bT x0.aB.aH,rI cB x0.aB.To,rI bD x0.aB.aJ,rJ bB x0.aB.aE,rI bU x0.aF.aH,rI cC x0.aF.To,rI bE x0.aF.aJ,rJ bC x0.aF.aE,rI cD x0.aA,rI cG x0.ae,rI cT x1.aB.aH,rI cV x1.aB.To,rI cO x1.aB.aJ,rJ cJ x1.aB.aE,rI cU x1.aF.aH,rI cW x1.aF.To,rI cP x1.aF.aJ,rJ cK x1.aF.aE,rI dA x1.aA,rI dD x1.ae,rI eB x2,rI gS x3] (fun y (v:Value×Value×Value×Value×Value×Value×Value×Value×Value×Value×Value×Value×Value×Value×Value×Value×Value×Value×Value×Value×Value×Value)=>[.agg #[.int .i64 y.Left.aB.aA,v.1,v.2.1,v.2.2.1,v.2.2.2.1,.int .i64 y.Left.aF.aA,v.2.2.2.2.1,v.2.2.2.2.2.1,v.2.2.2.2.2.2.1,v.2.2.2.2.2.2.2.1,v.2.2.2.2.2.2.2.2.1,v.2.2.2.2.2.2.2.2.2.1,.int .i64 y.ab.aB.aA,v.2.2.2.2.2.2.2.2.2.2.1,v.2.2.2.2.2.2.2.2.2.2.2.1,v.2.2.2.2.2.2.2.2.2.2.2.2.1,v.2.2.2.2.2.2.2.2.2.2.2.2.2.1,.int .i64 y.ab.aF.aA,v.2.2.2.2.2.2.2.2.2.2.2.2.2.2.1,v.2.2.2.2.2.2.2.2.2.2.2.2.2.2.2.1,v.2.2.2.2.2.2.2.2.2.2.2.2.2.2.2.2.1,v.2.2.2.2.2.2.2.2.2.2.2.2.2.2.2.2.2.1,v.2.2.2.2.2.2.2.2.2.2.2.2.2.2.2.2.2.2.1,v.2.2.2.2.2.2.2.2.2.2.2.2.2.2.2.2.2.2.2.1,v.2.2.2.2.2.2.2.2.2.2.2.2.2.2.2.2.2.2.2.2.1,v.2.2.2.2.2.2.2.2.2.2.2.2.2.2.2.2.2.2.2.2.2]]) (fun y v=>[.own (aK 2 (aM .i64)) v.1 y.Left.aB.aH,.own (aK 2 (aM .i64)) v.2.1 y.Left.aB.To,.own (aK 2 (aM .i64)) v.2.2.1 y.Left.aB.aJ,.own (aK 24 (aK 2 (aM .i64))) v.2.2.2.1 y.Left.aB.aE,.own (aK 2 (aM .i64)) v.2.2.2.2.1 y.Left.aF.aH,.own (aK 2 (aM .i64)) v.2.2.2.2.2.1 y.Left.aF.To,.own (aK 2 (aM .i64)) v.2.2.2.2.2.2.1 y.Left.aF.aJ,.own (aK 24 (aK 2 (aM .i64))) v.2.2.2.2.2.2.2.1 y.Left.aF.aE,.own (aK 2 (aM .i64)) v.2.2.2.2.2.2.2.2.1 y.Left.aA,.own (aK 2 (aM .i64)) v.2.2.2.2.2.2.2.2.2.1 y.Left.ae,.own (aK 2 (aM .i64)) v.2.2.2.2.2.2.2.2.2.2.1 y.ab.aB.aH,.own (aK 2 (aM .i64)) v.2.2.2.2.2.2.2.2.2.2.2.1 y.ab.aB.To,.own (aK 2 (aM .i64)) v.2.2.2.2.2.2.2.2.2.2.2.2.1 y.ab.aB.aJ,.own (aK 24 (aK 2 (aM .i64))) v.2.2.2.2.2.2.2.2.2.2.2.2.2.1 y.ab.aB.aE,.own (aK 2 (aM .i64)) v.2.2.2.2.2.2.2.2.2.2.2.2.2.2.1 y.ab.aF.aH,.own (aK 2 (aM .i64)) v.2.2.2.2.2.2.2.2.2.2.2.2.2.2.2.1 y.ab.aF.To,.own (aK 2 (aM .i64)) v.2.2.2.2.2.2.2.2.2.2.2.2.2.2.2.2.1 y.ab.aF.aJ,.own (aK 24 (aK 2 (aM .i64))) v.2.2.2.2.2.2.2.2.2.2.2.2.2.2.2.2.2.1 y.ab.aF.aE,.own (aK 2 (aM .i64)) v.2.2.2.2.2.2.2.2.2.2.2.2.2.2.2.2.2.2.1 y.ab.aA,.own (aK 2 (aM .i64)) v.2.2.2.2.2.2.2.2.2.2.2.2.2.2.2.2.2.2.2.1 y.ab.ae,.own (aK 2 (aM .i64)) v.2.2.2.2.2.2.2.2.2.2.2.2.2.2.2.2.2.2.2.2.1 y.Unit,.own (aK 2 (aM .i64)) v.2.2.2.2.2.2.2.2.2.2.2.2.2.2.2.2.2.2.2.2.2 y.ba]):=by
 refine ct (S:=Unit) (cf fun _ _=>rfl) Tryz.func139 rfl rfl ?_
 repeat' first
  | (apply Dk.fe; repeat' first | exact rfl | (refine @id.{0} _ ?_; constructor))
  | intro _
  | exact rfl
  | (refine @id.{0} _ ?_; constructor)
  | apply afG
  | apply Tg
  | exact ()
theorem c42 {x0:aS} {bJ bP aZ aT bK bQ bA aU bW cA bG bL aW aQ bH bN aY aR bS bX cS cN:Value} {x1:aS} {eR fE dY dS eU fF dZ dT fO fZ eI eY dV dJ eJ eZ dW dK fK fP lP jV:Value}:Ct Tryz.prog 42 true (eW x0 x1) [.agg #[.int .i64 (x0.Left.aB.aA),bJ,bP,aZ,aT,.int .i64 (x0.Left.aF.aA),bK,bQ,bA,aU,bW,cA,.int .i64 (x0.ab.aB.aA),bG,bL,aW,aQ,.int .i64 (x0.ab.aF.aA),bH,bN,aY,aR,bS,bX,cS,cN],.agg #[.int .i64 (x1.Left.aB.aA),eR,fE,dY,dS,.int .i64 (x1.Left.aF.aA),eU,fF,dZ,dT,fO,fZ,.int .i64 (x1.ab.aB.aA),eI,eY,dV,dJ,.int .i64 (x1.ab.aF.aA),eJ,eZ,dW,dK,fK,fP,lP,jV]] [rI bJ x0.Left.aB.aH,rI bP x0.Left.aB.To,rI aZ x0.Left.aB.aJ,rJ aT x0.Left.aB.aE,rI bK x0.Left.aF.aH,rI bQ x0.Left.aF.To,rI bA x0.Left.aF.aJ,rJ aU x0.Left.aF.aE,rI bW x0.Left.aA,rI cA x0.Left.ae,rI bG x0.ab.aB.aH,rI bL x0.ab.aB.To,rI aW x0.ab.aB.aJ,rJ aQ x0.ab.aB.aE,rI bH x0.ab.aF.aH,rI bN x0.ab.aF.To,rI aY x0.ab.aF.aJ,rJ aR x0.ab.aF.aE,rI bS x0.ab.aA,rI bX x0.ab.ae,rI cS x0.Unit,rI cN x0.ba,rI eR x1.Left.aB.aH,rI fE x1.Left.aB.To,rI dY x1.Left.aB.aJ,rJ dS x1.Left.aB.aE,rI eU x1.Left.aF.aH,rI fF x1.Left.aF.To,rI dZ x1.Left.aF.aJ,rJ dT x1.Left.aF.aE,rI fO x1.Left.aA,rI fZ x1.Left.ae,rI eI x1.ab.aB.aH,rI eY x1.ab.aB.To,rI dV x1.ab.aB.aJ,rJ dJ x1.ab.aB.aE,rI eJ x1.ab.aF.aH,rI eZ x1.ab.aF.To,rI dW x1.ab.aF.aJ,rJ dK x1.ab.aF.aE,rI fK x1.ab.aA,rI fP x1.ab.ae,rI lP x1.Unit,rI jV x1.ba] (fun y (v:Value×Value×Value×Value×Value×Value×Value×Value×Value×Value×Value×Value×Value×Value×Value×Value×Value×Value×Value×Value×Value×Value)=>[.agg #[.int .i64 y.1.Left.aB.aA,v.1,v.2.1,v.2.2.1,v.2.2.2.1,.int .i64 y.1.Left.aF.aA,v.2.2.2.2.1,v.2.2.2.2.2.1,v.2.2.2.2.2.2.1,v.2.2.2.2.2.2.2.1,v.2.2.2.2.2.2.2.2.1,v.2.2.2.2.2.2.2.2.2.1,.int .i64 y.1.ab.aB.aA,v.2.2.2.2.2.2.2.2.2.2.1,v.2.2.2.2.2.2.2.2.2.2.2.1,v.2.2.2.2.2.2.2.2.2.2.2.2.1,v.2.2.2.2.2.2.2.2.2.2.2.2.2.1,.int .i64 y.1.ab.aF.aA,v.2.2.2.2.2.2.2.2.2.2.2.2.2.2.1,v.2.2.2.2.2.2.2.2.2.2.2.2.2.2.2.1,v.2.2.2.2.2.2.2.2.2.2.2.2.2.2.2.2.1,v.2.2.2.2.2.2.2.2.2.2.2.2.2.2.2.2.2.1,v.2.2.2.2.2.2.2.2.2.2.2.2.2.2.2.2.2.2.1,v.2.2.2.2.2.2.2.2.2.2.2.2.2.2.2.2.2.2.2.1,v.2.2.2.2.2.2.2.2.2.2.2.2.2.2.2.2.2.2.2.2.1,v.2.2.2.2.2.2.2.2.2.2.2.2.2.2.2.2.2.2.2.2.2],.int .i64 y.2]) (fun y v=>[.own (aK 2 (aM .i64)) v.1 y.1.Left.aB.aH,.own (aK 2 (aM .i64)) v.2.1 y.1.Left.aB.To,.own (aK 2 (aM .i64)) v.2.2.1 y.1.Left.aB.aJ,.own (aK 24 (aK 2 (aM .i64))) v.2.2.2.1 y.1.Left.aB.aE,.own (aK 2 (aM .i64)) v.2.2.2.2.1 y.1.Left.aF.aH,.own (aK 2 (aM .i64)) v.2.2.2.2.2.1 y.1.Left.aF.To,.own (aK 2 (aM .i64)) v.2.2.2.2.2.2.1 y.1.Left.aF.aJ,.own (aK 24 (aK 2 (aM .i64))) v.2.2.2.2.2.2.2.1 y.1.Left.aF.aE,.own (aK 2 (aM .i64)) v.2.2.2.2.2.2.2.2.1 y.1.Left.aA,.own (aK 2 (aM .i64)) v.2.2.2.2.2.2.2.2.2.1 y.1.Left.ae,.own (aK 2 (aM .i64)) v.2.2.2.2.2.2.2.2.2.2.1 y.1.ab.aB.aH,.own (aK 2 (aM .i64)) v.2.2.2.2.2.2.2.2.2.2.2.1 y.1.ab.aB.To,.own (aK 2 (aM .i64)) v.2.2.2.2.2.2.2.2.2.2.2.2.1 y.1.ab.aB.aJ,.own (aK 24 (aK 2 (aM .i64))) v.2.2.2.2.2.2.2.2.2.2.2.2.2.1 y.1.ab.aB.aE,.own (aK 2 (aM .i64)) v.2.2.2.2.2.2.2.2.2.2.2.2.2.2.1 y.1.ab.aF.aH,.own (aK 2 (aM .i64)) v.2.2.2.2.2.2.2.2.2.2.2.2.2.2.2.1 y.1.ab.aF.To,.own (aK 2 (aM .i64)) v.2.2.2.2.2.2.2.2.2.2.2.2.2.2.2.2.1 y.1.ab.aF.aJ,.own (aK 24 (aK 2 (aM .i64))) v.2.2.2.2.2.2.2.2.2.2.2.2.2.2.2.2.2.1 y.1.ab.aF.aE,.own (aK 2 (aM .i64)) v.2.2.2.2.2.2.2.2.2.2.2.2.2.2.2.2.2.2.1 y.1.ab.aA,.own (aK 2 (aM .i64)) v.2.2.2.2.2.2.2.2.2.2.2.2.2.2.2.2.2.2.2.1 y.1.ab.ae,.own (aK 2 (aM .i64)) v.2.2.2.2.2.2.2.2.2.2.2.2.2.2.2.2.2.2.2.2.1 y.1.Unit,.own (aK 2 (aM .i64)) v.2.2.2.2.2.2.2.2.2.2.2.2.2.2.2.2.2.2.2.2.2 y.1.ba]):=by
 refine ct (S:=Unit) (cf fun _ _=>rfl) Tryz.func42 rfl rfl ?_
 repeat' first
  | (apply Dk.fe; repeat' first | exact rfl | (refine @id.{0} _ ?_; constructor))
  | intro _
  | exact rfl
  | (refine @id.{0} _ ?_; constructor)
  | apply Dk.loop 0 (V:=Value) (fun (s:(List Int)×Int) v=>[.own (aK 2 (aM .i64)) v s.1]) (fun s v=>[(8,v),(40,.int .i64 (s.2))]) _ [(2,_),(3,_),(4,_),(6,_),(7,_),(9,_),(38,_),(39,_)]
  | apply Dk.loop 2 (V:=Value) (fun (s:(List Int)×Int) v=>[.own (aK 2 (aM .i64)) v s.1]) (fun s v=>[(9,v),(60,.int .i64 (s.2))]) _ [(2,_),(3,_),(4,_),(6,_),(7,_),(8,_),(58,_),(59,_)]
  | apply RH
  | apply Ys
  | apply c93
  | apply RD
  | apply Yh
  | apply afZ
  | exact ()
theorem c45 {x0:aS} {bJ bP aZ aT bK bQ bA aU bW cA bG bL aW aQ bH bN aY aR bS bX cS cN:Value}:Ct Tryz.prog 45 true (jP x0) [.agg #[.int .i64 (x0.Left.aB.aA),bJ,bP,aZ,aT,.int .i64 (x0.Left.aF.aA),bK,bQ,bA,aU,bW,cA,.int .i64 (x0.ab.aB.aA),bG,bL,aW,aQ,.int .i64 (x0.ab.aF.aA),bH,bN,aY,aR,bS,bX,cS,cN]] [rI bJ x0.Left.aB.aH,rI bP x0.Left.aB.To,rI aZ x0.Left.aB.aJ,rJ aT x0.Left.aB.aE,rI bK x0.Left.aF.aH,rI bQ x0.Left.aF.To,rI bA x0.Left.aF.aJ,rJ aU x0.Left.aF.aE,rI bW x0.Left.aA,rI cA x0.Left.ae,rI bG x0.ab.aB.aH,rI bL x0.ab.aB.To,rI aW x0.ab.aB.aJ,rJ aQ x0.ab.aB.aE,rI bH x0.ab.aF.aH,rI bN x0.ab.aF.To,rI aY x0.ab.aF.aJ,rJ aR x0.ab.aF.aE,rI bS x0.ab.aA,rI bX x0.ab.ae,rI cS x0.Unit,rI cN x0.ba] (fun y (_:Unit)=>[.bool y]) (fun y _=>[]):=by
 refine ct (S:=Unit) (cf fun _ _=>rfl) Tryz.func45 rfl rfl ?_
 repeat' first
  | (apply Dk.fe; repeat' first | exact rfl | (refine @id.{0} _ ?_; constructor))
  | intro _
  | exact rfl
  | (refine @id.{0} _ ?_; constructor)
  | apply RH
  | exact ()
end Go.Proofs.YtjdkifckhidlbaaGreat
