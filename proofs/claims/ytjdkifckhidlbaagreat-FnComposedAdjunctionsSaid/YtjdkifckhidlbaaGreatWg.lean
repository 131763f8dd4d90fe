/- Walks by the calculus D. No condition beside those that each theorem names. -/
import Derived.Test.YtjdkifckhidlbaaGreatDp
import Derived.Test.YtjdkifckhidlbaaGreatDi
import Derived.Test.YtjdkifckhidlbaaGreatMo
import Derived.Test.YtjdkifckhidlbaaGreatDs
import Derived.Test.YtjdkifckhidlbaaGreatWa
import Derived.Test.YtjdkifckhidlbaaGreatWb
import Derived.Test.YtjdkifckhidlbaaGreatWd
namespace Go.Proofs.YtjdkifckhidlbaaGreat
open Go Go.Li Go.Dk
set_option linter.unusedVariables false
set_option maxHeartbeats 16000000
set_option maxRecDepth 100000
theorem afH {x0:(List (List Int))} {cX:Value}:Ct Tryz.prog 268 true (jZ x0) [cX] [rJ cX x0] (fun y (v:Value×Value×Value×Value)=>[.agg #[.int .i64 y.aA,v.1,v.2.1,v.2.2.1,v.2.2.2]]) (fun y v=>[.own (aK 2 (aM .i64)) v.1 y.aH,.own (aK 2 (aM .i64)) v.2.1 y.To,.own (aK 2 (aM .i64)) v.2.2.1 y.aJ,.own (aK 24 (aK 2 (aM .i64))) v.2.2.2 y.aE]):=by
 refine ct (S:=Unit) (cf fun _ _=>rfl) Tryz.func268 rfl rfl ?_
 repeat' first
  | (apply Dk.fe; repeat' first | exact rfl | (refine @id.{0} _ ?_; constructor))
  | intro _
  | exact rfl
  | (refine @id.{0} _ ?_; constructor)
  | apply Dk.any (id:=2) 7 [] [] [[],[0],[],[2],[],[],[5]] (by kernel_rfl)
  | apply Yc
  | exact ()
theorem afI {x0:aI} {bF bV aP aN:Value}:Ct Tryz.prog 186 true (pL x0) [.agg #[.int .i64 (x0.aA),bF,bV,aP,aN]] [rI bF x0.aH,rI bV x0.To,rI aP x0.aJ,rJ aN x0.aE] (fun y (_:Unit)=>[.bool y]) (fun y _=>[]):=by
 refine ct (S:=Unit) (cf fun _ _=>rfl) Tryz.func186 rfl rfl ?_
 repeat' first
  | (apply Dk.fe; repeat' first | exact rfl | (refine @id.{0} _ ?_; constructor))
  | intro _
  | exact rfl
  | (refine Dk.va (t:=102) rfl ?_ ?_)
  | (refine @id.{0} _ ?_; constructor)
  | apply Dk.loop 0 (V:=Unit) (fun (s:Int) v=>[]) (fun s v=>[(4,.int .i64 (s))]) () [(1,_),(3,_)]
  | apply Dk.loop 2 (V:=Unit) (fun (s:Int) v=>[]) (fun s v=>[(5,.int .i64 (s))]) () [(1,_),(3,_)]
  | apply Dk.loop 4 (V:=Unit) (fun (s:Int) v=>[]) (fun s v=>[(6,.int .i64 (s))]) () [(1,_),(3,_),(5,_)]
  | apply Dk.quiet (id:=9) (by kernel_rfl)
  | apply Dk.quiet (id:=20) (by kernel_rfl)
  | apply Dk.quiet (id:=23) (by kernel_rfl)
  | apply afp
  | apply ae5
  | apply MI
  | exact ()
theorem c94 {x0:aI} {bF bV aP aN:Value}:Ct Tryz.prog 94 true (pM x0) [.agg #[.int .i64 (x0.aA),bF,bV,aP,aN]] [rI bF x0.aH,rI bV x0.To,rI aP x0.aJ,rJ aN x0.aE] (fun y (_:Unit)=>[.bool y]) (fun y _=>[]):=by
 refine ct (S:=Unit) (cf fun _ _=>rfl) Tryz.func94 rfl rfl ?_
 repeat' first
  | (apply Dk.fe; repeat' first | exact rfl | (refine @id.{0} _ ?_; constructor))
  | intro _
  | exact rfl
  | (refine @id.{0} _ ?_; constructor)
  | apply afI
  | apply afa
  | exact ()
theorem afJ {x0:aO} {bT cB bD bB bU cC bE bC cD cG:Value}:Ct Tryz.prog 133 true (pN x0) [.agg #[.int .i64 (x0.aB.aA),bT,cB,bD,bB,.int .i64 (x0.aF.aA),bU,cC,bE,bC,cD,cG]] [rI bT x0.aB.aH,rI cB x0.aB.To,rI bD x0.aB.aJ,rJ bB x0.aB.aE,rI bU x0.aF.aH,rI cC x0.aF.To,rI bE x0.aF.aJ,rJ bC x0.aF.aE,rI cD x0.aA,rI cG x0.ae] (fun y (_:Unit)=>[.bool y]) (fun y _=>[]):=by
 refine ct (S:=Unit) (cf fun _ _=>rfl) Tryz.func133 rfl rfl ?_
 repeat' first
  | (apply Dk.fe; repeat' first | exact rfl | (refine @id.{0} _ ?_; constructor))
  | intro _
  | exact rfl
  | (refine Dk.va (t:=136) rfl ?_ ?_)
  | (refine @id.{0} _ ?_; constructor)
  | apply Dk.loop 0 (V:=Unit) (fun (s:Int) v=>[]) (fun s v=>[(5,.int .i64 (s))]) () [(1,_),(3,_),(4,_)]
  | apply Dk.loop 2 (V:=Unit) (fun (s:Int) v=>[]) (fun s v=>[(6,.int .i64 (s))]) () [(1,_),(3,_),(4,_)]
  | apply Dk.loop 4 (V:=Unit) (fun (s:Int) v=>[]) (fun s v=>[(7,.int .i64 (s))]) () [(1,_),(3,_),(4,_)]
  | apply Dk.loop 6 (V:=Unit) (fun (s:Int) v=>[]) (fun s v=>[(8,.int .i64 (s))]) () [(1,_),(3,_),(4,_),(7,_)]
  | apply Dk.quiet (id:=9) (by kernel_rfl)
  | apply Dk.quiet (id:=14) (by kernel_rfl)
  | apply Dk.quiet (id:=22) (by kernel_rfl)
  | apply Dk.any (id:=1) 7 [] [[],[],[],[],[],[],[4]] [[],[0],[],[2],[],[],[0,1,4,5]] (by kernel_rfl)
  | apply c94
  | apply MI
  | exact ()
theorem afK {x0:aI} {cZ:Addr} {bF bV aP aN:Value}:Ct Tryz.prog 201 true (jH x0) [.pointer (some (cZ))] [.bb cZ [.int .i64 (x0.aA),bF,bV,aP,aN],rI bF x0.aH,rI bV x0.To,rI aP x0.aJ,rJ aN x0.aE] (fun y (_:Unit)=>[.bool y]) (fun y _=>[]):=by
 refine ct (S:=Unit) (cf fun _ _=>rfl) Tryz.func201 rfl rfl ?_
 repeat' first
  | (apply Dk.fe; repeat' first | exact rfl | (refine @id.{0} _ ?_; constructor))
  | intro _
  | exact rfl
  | (refine @id.{0} _ ?_; constructor)
  | apply Dk.loop 0 (V:=Unit) (fun (s:Int) v=>[]) (fun s v=>[(88,.int .i64 (s))]) () [(0,_),(3,_),(86,_),(87,_)]
  | apply Dk.loop 2 (V:=Unit) (fun (s:Int) v=>[]) (fun s v=>[(106,.int .i64 (s))]) () [(0,_),(3,_),(104,_),(105,_)]
  | apply Dk.loop 4 (V:=Unit) (fun (s:Int) v=>[]) (fun s v=>[(117,.int .i64 (s))]) () [(0,_),(3,_),(6,_),(104,_),(105,_),(106,_),(115,_),(116,_)]
  | apply Dk.quiet (id:=2) (by kernel_rfl)
  | apply Dk.quiet (id:=4) (by kernel_rfl)
  | apply Dk.quiet (id:=20) (by kernel_rfl)
  | apply Dk.quiet (id:=23) (by kernel_rfl)
  | apply Js
  | apply Jt
  | apply RE
  | apply MJ
  | exact ()
theorem afL {x0:aI} {cZ:Addr} {bF bV aP aN:Value}:Ct Tryz.prog 119 true (iE x0) [.pointer (some (cZ))] [.bb cZ [.int .i64 (x0.aA),bF,bV,aP,aN],rI bF x0.aH,rI bV x0.To,rI aP x0.aJ,rJ aN x0.aE] (fun y (_:Unit)=>[.bool y]) (fun y _=>[]):=by
 refine ct (S:=Unit) (cf fun _ _=>rfl) Tryz.func119 rfl rfl ?_
 repeat' first
  | (apply Dk.fe; repeat' first | exact rfl | (refine @id.{0} _ ?_; constructor))
  | intro _
  | exact rfl
  | (refine @id.{0} _ ?_; constructor)
  | apply afK
  | apply afc
  | exact ()
theorem afM {x0:(List aI)} {cX:Value}:Ct Tryz.prog 184 true (kU x0) [cX] [.rd false (bY (xa Qe)) cX x0] (fun y (_:Unit)=>[.bool y]) (fun y _=>[]):=by
 refine ct (S:=Unit) (cf fun _ _=>rfl) Tryz.func184 rfl rfl ?_
 repeat' first
  | (apply Dk.fe; repeat' first | exact rfl | (refine @id.{0} _ ?_; constructor))
  | intro _
  | exact rfl
  | (refine @id.{0} _ ?_; constructor)
  | apply Dk.loop 0 (V:=Unit) (fun (s:Int) v=>[]) (fun s v=>[(7,.int .i64 (s))]) () [(5,_),(6,_)]
  | apply afL
  | exact ()
theorem O9 {x0:bZ} {cZ:Addr} {eD eM dN dF eE eN dP dG fC fI eG eP dQ dH eH eQ dR dI fD fJ gM:Value}:Ct Tryz.prog 234 true (lE x0 (fun a0 a1 a2 a3=>jN a0 a1 a2 a3)) [.pointer (some (cZ)),.func (.func 235) #[] #[]] [.bb cZ [.int .i64 (x0.aB.aB.aA),eD,eM,dN,dF,.int .i64 (x0.aB.aF.aA),eE,eN,dP,dG,fC,fI,.int .i64 (x0.aF.aB.aA),eG,eP,dQ,dH,.int .i64 (x0.aF.aF.aA),eH,eQ,dR,dI,fD,fJ,gM],rI eD x0.aB.aB.aH,rI eM x0.aB.aB.To,rI dN x0.aB.aB.aJ,rJ dF x0.aB.aB.aE,rI eE x0.aB.aF.aH,rI eN x0.aB.aF.To,rI dP x0.aB.aF.aJ,rJ dG x0.aB.aF.aE,rI fC x0.aB.aA,rI fI x0.aB.ae,rI eG x0.aF.aB.aH,rI eP x0.aF.aB.To,rI dQ x0.aF.aB.aJ,rJ dH x0.aF.aB.aE,rI eH x0.aF.aF.aH,rI eQ x0.aF.aF.To,rI dR x0.aF.aF.aJ,rJ dI x0.aF.aF.aE,rI fD x0.aF.aA,rI fJ x0.aF.ae,rI gM x0.an] (fun y (_:Unit)=>[.int .i64 y]) (fun y _=>[]):=by
 refine ct (S:=Unit) (cf fun _ _=>rfl) Tryz.func234 rfl rfl ?_
 repeat' first
  | (apply Dk.fe; repeat' first | exact rfl | (refine @id.{0} _ ?_; constructor))
  | intro _
  | exact rfl
  | (refine @id.{0} _ ?_; constructor)
  | apply Dk.loop 0 (V:=Unit) (fun (s:Int) v=>[]) (fun s v=>[(12,.int .i64 (s))]) () [(0,_),(1,_),(11,_)]
  | apply Dk.quiet (id:=4) (by kernel_rfl)
  | apply aff
  | exact ()
theorem c89 {x0:aI} {bF bV aP aN:Value} {x1:aI} {cF cR bR bI:Value}:Ct Tryz.prog 89 true (iJ x0 x1) [.agg #[.int .i64 (x0.aA),bF,bV,aP,aN],.agg #[.int .i64 (x1.aA),cF,cR,bR,bI]] [rI bF x0.aH,rI bV x0.To,rI aP x0.aJ,rJ aN x0.aE,rI cF x1.aH,rI cR x1.To,rI bR x1.aJ,rJ bI x1.aE] (fun y (_:Unit)=>[.bool y]) (fun y _=>[]):=by
 refine ct (S:=Unit) (cf fun _ _=>rfl) Tryz.func89 rfl rfl ?_
 repeat' first
  | (apply Dk.fe; repeat' first | exact rfl | (refine @id.{0} _ ?_; constructor))
  | intro _
  | exact rfl
  | (refine @id.{0} _ ?_; constructor)
  | apply Th
  | apply afv
  | exact ()
theorem c14 {x0:aO} {bT cB bD bB bU cC bE bC cD cG:Value} {x1:aO} {cT cV cO cJ cU cW cP cK dA dD:Value}:Ct Tryz.prog 14 true (jG x0 x1) [.agg #[.int .i64 (x0.aB.aA),bT,cB,bD,bB,.int .i64 (x0.aF.aA),bU,cC,bE,bC,cD,cG],.agg #[.int .i64 (x1.aB.aA),cT,cV,cO,cJ,.int .i64 (x1.aF.aA),cU,cW,cP,cK,dA,dD]] [rI bT x0.aB.aH,rI cB x0.aB.To,rI bD x0.aB.aJ,rJ bB x0.aB.aE,rI bU x0.aF.aH,rI cC x0.aF.To,rI bE x0.aF.aJ,rJ bC x0.aF.aE,rI cD x0.aA,rI cG x0.ae,rI cT x1.aB.aH,rI cV x1.aB.To,rI cO x1.aB.aJ,rJ cJ x1.aB.aE,rI cU x1.aF.aH,rI cW x1.aF.To,rI cP x1.aF.aJ,rJ cK x1.aF.aE,rI dA x1.aA,rI dD x1.ae] (fun y (_:Unit)=>[.bool y]) (fun y _=>[]):=by
 refine ct (S:=Unit) (cf fun _ _=>rfl) Tryz.func14 rfl rfl ?_
 repeat' first
  | (apply Dk.fe; repeat' first | exact rfl | (refine @id.{0} _ ?_; constructor))
  | intro _
  | exact rfl
  | (refine @id.{0} _ ?_; constructor)
  | apply c89
  | apply Th
  | exact ()
theorem c44 {x0:aS} {bJ bP aZ aT bK bQ bA aU bW cA bG bL aW aQ bH bN aY aR bS bX cS cN:Value} {x1:aS} {eR fE dY dS eU fF dZ dT fO fZ eI eY dV dJ eJ eZ dW dK fK fP lP jV:Value}:Ct Tryz.prog 44 true (jK x0 x1) [.agg #[.int .i64 (x0.Left.aB.aA),bJ,bP,aZ,aT,.int .i64 (x0.Left.aF.aA),bK,bQ,bA,aU,bW,cA,.int .i64 (x0.ab.aB.aA),bG,bL,aW,aQ,.int .i64 (x0.ab.aF.aA),bH,bN,aY,aR,bS,bX,cS,cN],.agg #[.int .i64 (x1.Left.aB.aA),eR,fE,dY,dS,.int .i64 (x1.Left.aF.aA),eU,fF,dZ,dT,fO,fZ,.int .i64 (x1.ab.aB.aA),eI,eY,dV,dJ,.int .i64 (x1.ab.aF.aA),eJ,eZ,dW,dK,fK,fP,lP,jV]] [rI bJ x0.Left.aB.aH,rI bP x0.Left.aB.To,rI aZ x0.Left.aB.aJ,rJ aT x0.Left.aB.aE,rI bK x0.Left.aF.aH,rI bQ x0.Left.aF.To,rI bA x0.Left.aF.aJ,rJ aU x0.Left.aF.aE,rI bW x0.Left.aA,rI cA x0.Left.ae,rI bG x0.ab.aB.aH,rI bL x0.ab.aB.To,rI aW x0.ab.aB.aJ,rJ aQ x0.ab.aB.aE,rI bH x0.ab.aF.aH,rI bN x0.ab.aF.To,rI aY x0.ab.aF.aJ,rJ aR x0.ab.aF.aE,rI bS x0.ab.aA,rI bX x0.ab.ae,rI cS x0.Unit,rI cN x0.ba,rI eR x1.Left.aB.aH,rI fE x1.Left.aB.To,rI dY x1.Left.aB.aJ,rJ dS x1.Left.aB.aE,rI eU x1.Left.aF.aH,rI fF x1.Left.aF.To,rI dZ x1.Left.aF.aJ,rJ dT x1.Left.aF.aE,rI fO x1.Left.aA,rI fZ x1.Left.ae,rI eI x1.ab.aB.aH,rI eY x1.ab.aB.To,rI dV x1.ab.aB.aJ,rJ dJ x1.ab.aB.aE,rI eJ x1.ab.aF.aH,rI eZ x1.ab.aF.To,rI dW x1.ab.aF.aJ,rJ dK x1.ab.aF.aE,rI fK x1.ab.aA,rI fP x1.ab.ae,rI lP x1.Unit,rI jV x1.ba] (fun y (_:Unit)=>[.bool y]) (fun y _=>[]):=by
 refine ct (S:=Unit) (cf fun _ _=>rfl) Tryz.func44 rfl rfl ?_
 repeat' first
  | (apply Dk.fe; repeat' first | exact rfl | (refine @id.{0} _ ?_; constructor))
  | intro _
  | exact rfl
  | (refine @id.{0} _ ?_; constructor)
  | apply c14
  | apply Th
  | exact ()
end Go.Proofs.YtjdkifckhidlbaaGreat
