/- Walks by the calculus D. No condition beside those that each theorem names. -/
import Derived.Test.YtkcpiblgpnjanaaGreatDi
import Derived.Test.YtkcpiblgpnjanaaGreatMo
import Derived.Test.YtkcpiblgpnjanaaGreatDp
import Derived.Test.YtkcpiblgpnjanaaGreatDs
import Derived.Test.YtkcpiblgpnjanaaGreatWb
import Derived.Test.YtkcpiblgpnjanaaGreatWc
import Derived.Test.YtkcpiblgpnjanaaGreatWd
namespace Go.Proofs.YtkcpiblgpnjanaaGreat
open Go Go.Li Go.Dk
set_option linter.unusedVariables false
set_option maxHeartbeats 16000000
set_option maxRecDepth 100000
theorem WX {x0:aI} {aV:Value} {bG:Value} {aO:Value} {aM:Value} {x1:aI} {cA:Value} {cR:Value} {bH:Value} {bB:Value}:Ct Tryz.prog 121 true (jN x0 x1) [.agg #[.int .i64 (x0.aE),aV,bG,aO,aM],.agg #[.int .i64 (x1.aE),cA,cR,bH,bB]] [.rd false (aD (aB .i64)) aV x0.aG,.rd false (aD (aB .i64)) bG x0.To,.rd false (aD (aB .i64)) aO x0.aJ,.rd false (aD (aD (aB .i64))) aM x0.aF,.rd false (aD (aB .i64)) cA x1.aG,.rd false (aD (aB .i64)) cR x1.To,.rd false (aD (aB .i64)) bH x1.aJ,.rd false (aD (aD (aB .i64))) bB x1.aF] (fun y (_:Unit)=>[.bool y]) (fun y _=>[]):=by
 refine ct (S:=Unit) (ca fun _ _=>rfl) Tryz.func121 rfl rfl ?_
 repeat' first
  | ((first | show Dk.ER _ _ _ | show Dk.bb _ _ | show Dk.EF _ _ _ | show Dk.EO _ _ _ | show Dk.EP _ _ | show Dk.ba _ _ _ _ | show Dk.aw _ _ _ _ | show Dk.Kp _ _ _ _ | show Dk.bp _ _ | show Dk.bc _ _ _ _); repeat' first | exact rfl | (refine @id.{0} _ ?_; constructor))
  | intro _
  | exact rfl
  | (refine @id.{0} _ ?_; constructor)
  | apply LC
  | apply acV
  | exact ()
theorem Zh {x0:aN} {aW:Value} {bC:Value} {aS:Value} {aQ:Value} {aY:Value} {bD:Value} {aT:Value} {aR:Value} {bI:Value} {bR:Value} {x1:aN} {bP:Value} {bW:Value} {bE:Value} {aZ:Value} {bQ:Value} {bX:Value} {bF:Value} {bA:Value} {cF:Value} {cL:Value}:Ct Tryz.prog 99 true (jO x0 x1) [.agg #[.int .i64 (x0.aA.aE),aW,bC,aS,aQ,.int .i64 (x0.aC.aE),aY,bD,aT,aR,bI,bR],.agg #[.int .i64 (x1.aA.aE),bP,bW,bE,aZ,.int .i64 (x1.aC.aE),bQ,bX,bF,bA,cF,cL]] [.rd false (aD (aB .i64)) aW x0.aA.aG,.rd false (aD (aB .i64)) bC x0.aA.To,.rd false (aD (aB .i64)) aS x0.aA.aJ,.rd false (aD (aD (aB .i64))) aQ x0.aA.aF,.rd false (aD (aB .i64)) aY x0.aC.aG,.rd false (aD (aB .i64)) bD x0.aC.To,.rd false (aD (aB .i64)) aT x0.aC.aJ,.rd false (aD (aD (aB .i64))) aR x0.aC.aF,.rd false (aD (aB .i64)) bI x0.aE,.rd false (aD (aB .i64)) bR x0.ae,.rd false (aD (aB .i64)) bP x1.aA.aG,.rd false (aD (aB .i64)) bW x1.aA.To,.rd false (aD (aB .i64)) bE x1.aA.aJ,.rd false (aD (aD (aB .i64))) aZ x1.aA.aF,.rd false (aD (aB .i64)) bQ x1.aC.aG,.rd false (aD (aB .i64)) bX x1.aC.To,.rd false (aD (aB .i64)) bF x1.aC.aJ,.rd false (aD (aD (aB .i64))) bA x1.aC.aF,.rd false (aD (aB .i64)) cF x1.aE,.rd false (aD (aB .i64)) cL x1.ae] (fun y (_:Unit)=>[.bool y]) (fun y _=>[]):=by
 refine ct (S:=Unit) (ca fun _ _=>rfl) Tryz.func99 rfl rfl ?_
 repeat' first
  | ((first | show Dk.ER _ _ _ | show Dk.bb _ _ | show Dk.EF _ _ _ | show Dk.EO _ _ _ | show Dk.EP _ _ | show Dk.ba _ _ _ _ | show Dk.aw _ _ _ _ | show Dk.Kp _ _ _ _ | show Dk.bp _ _ | show Dk.bc _ _ _ _); repeat' first | exact rfl | (refine @id.{0} _ ?_; constructor))
  | intro _
  | exact rfl
  | (refine @id.{0} _ ?_; constructor)
  | apply WX
  | exact ()
theorem adm {x0:aI} {dQ:Addr} {aV:Value} {bG:Value} {aO:Value} {aM:Value}:Ct Tryz.prog 185 true (iN x0) [.pointer (some (dQ))] [.au dQ [.int .i64 (x0.aE),aV,bG,aO,aM],.rd false (aD (aB .i64)) aV x0.aG,.rd false (aD (aB .i64)) bG x0.To,.rd false (aD (aB .i64)) aO x0.aJ,.rd false (aD (aD (aB .i64))) aM x0.aF] (fun y (_:Unit)=>[.bool y]) (fun y _=>[]):=by
 refine ct (S:=Unit) (ca fun _ _=>rfl) Tryz.func185 rfl rfl ?_
 repeat' first
  | ((first | show Dk.ER _ _ _ | show Dk.bb _ _ | show Dk.EF _ _ _ | show Dk.EO _ _ _ | show Dk.EP _ _ | show Dk.ba _ _ _ _ | show Dk.aw _ _ _ _ | show Dk.Kp _ _ _ _ | show Dk.bp _ _ | show Dk.bc _ _ _ _); repeat' first | exact rfl | (refine @id.{0} _ ?_; constructor))
  | intro _
  | exact rfl
  | (refine @id.{0} _ ?_; constructor)
  | apply Dk.loop 0 (V:=Unit) (fun (s:Int) v=>[]) (fun s v=>[(88,.int .i64 (s))]) () [(0,_),(3,_),(86,_),(87,_)]
  | apply Dk.loop 2 (V:=Unit) (fun (s:Int) v=>[]) (fun s v=>[(106,.int .i64 (s))]) () [(0,_),(3,_),(104,_),(105,_)]
  | apply Dk.loop 4 (V:=Unit) (fun (s:Int) v=>[]) (fun s v=>[(117,.int .i64 (s))]) () [(0,_),(3,_),(6,_),(104,_),(105,_),(106,_),(115,_),(116,_)]
  | apply Dk.quiet (id:=2) (by kernel_rfl)
  | apply Dk.quiet (id:=4) (by kernel_rfl)
  | apply Dk.quiet (id:=20) (by kernel_rfl)
  | apply Dk.quiet (id:=23) (by kernel_rfl)
  | apply LA
  | apply WO
  | apply WQ
  | apply WI
  | exact ()
theorem adn {x0:aI} {dQ:Addr} {aV:Value} {bG:Value} {aO:Value} {aM:Value}:Ct Tryz.prog 145 true (gP x0) [.pointer (some (dQ))] [.au dQ [.int .i64 (x0.aE),aV,bG,aO,aM],.rd false (aD (aB .i64)) aV x0.aG,.rd false (aD (aB .i64)) bG x0.To,.rd false (aD (aB .i64)) aO x0.aJ,.rd false (aD (aD (aB .i64))) aM x0.aF] (fun y (_:Unit)=>[.bool y]) (fun y _=>[]):=by
 refine ct (S:=Unit) (ca fun _ _=>rfl) Tryz.func145 rfl rfl ?_
 repeat' first
  | ((first | show Dk.ER _ _ _ | show Dk.bb _ _ | show Dk.EF _ _ _ | show Dk.EO _ _ _ | show Dk.EP _ _ | show Dk.ba _ _ _ _ | show Dk.aw _ _ _ _ | show Dk.Kp _ _ _ _ | show Dk.bp _ _ | show Dk.bc _ _ _ _); repeat' first | exact rfl | (refine @id.{0} _ ?_; constructor))
  | intro _
  | exact rfl
  | (refine @id.{0} _ ?_; constructor)
  | apply adm
  | apply acQ
  | exact ()
theorem ado {x0:aN} {dQ:Addr} {aW:Value} {bC:Value} {aS:Value} {aQ:Value} {aY:Value} {bD:Value} {aT:Value} {aR:Value} {bI:Value} {bR:Value}:Ct Tryz.prog 112 true (kH x0) [.pointer (some (dQ))] [.au dQ [.int .i64 (x0.aA.aE),aW,bC,aS,aQ,.int .i64 (x0.aC.aE),aY,bD,aT,aR,bI,bR],.rd false (aD (aB .i64)) aW x0.aA.aG,.rd false (aD (aB .i64)) bC x0.aA.To,.rd false (aD (aB .i64)) aS x0.aA.aJ,.rd false (aD (aD (aB .i64))) aQ x0.aA.aF,.rd false (aD (aB .i64)) aY x0.aC.aG,.rd false (aD (aB .i64)) bD x0.aC.To,.rd false (aD (aB .i64)) aT x0.aC.aJ,.rd false (aD (aD (aB .i64))) aR x0.aC.aF,.rd false (aD (aB .i64)) bI x0.aE,.rd false (aD (aB .i64)) bR x0.ae] (fun y (_:Unit)=>[.bool y]) (fun y _=>[]):=by
 refine ct (S:=Unit) (ca fun _ _=>rfl) Tryz.func112 rfl rfl ?_
 repeat' first
  | ((first | show Dk.ER _ _ _ | show Dk.bb _ _ | show Dk.EF _ _ _ | show Dk.EO _ _ _ | show Dk.EP _ _ | show Dk.ba _ _ _ _ | show Dk.aw _ _ _ _ | show Dk.Kp _ _ _ _ | show Dk.bp _ _ | show Dk.bc _ _ _ _); repeat' first | exact rfl | (refine @id.{0} _ ?_; constructor))
  | intro _
  | exact rfl
  | (refine @id.{0} _ ?_; constructor)
  | apply Dk.loop 0 (V:=Unit) (fun (s:Int) v=>[]) (fun s v=>[(66,.int .i64 (s))]) () [(0,_),(3,_),(4,_),(64,_),(65,_)]
  | apply Dk.loop 2 (V:=Unit) (fun (s:Int) v=>[]) (fun s v=>[(121,.int .i64 (s))]) () [(0,_),(3,_),(4,_),(119,_),(120,_)]
  | apply Dk.loop 4 (V:=Unit) (fun (s:Int) v=>[]) (fun s v=>[(153,.int .i64 (s))]) () [(0,_),(4,_),(151,_),(152,_)]
  | apply Dk.loop 6 (V:=Unit) (fun (s:Int) v=>[]) (fun s v=>[(160,.int .i64 (s))]) () [(0,_),(4,_),(9,_),(151,_),(152,_),(153,_),(158,_),(159,_)]
  | apply Dk.quiet (id:=1) (by kernel_rfl)
  | apply Dk.quiet (id:=2) (by kernel_rfl)
  | apply Dk.quiet (id:=7) (by kernel_rfl)
  | apply Dk.quiet (id:=13) (by kernel_rfl)
  | apply Dk.quiet (id:=22) (by kernel_rfl)
  | apply LA
  | apply WQ
  | apply LB
  | exact ()
theorem Zi {x0:aI} {dQ:Addr} {aV:Value} {bG:Value} {aO:Value} {aM:Value} {x1:aI} {jT:Addr} {cA:Value} {cR:Value} {bH:Value} {bB:Value}:Ct Tryz.prog 89 true (fW x0 x1) [.pointer (some (dQ)),.pointer (some (jT))] [.au jT [.int .i64 (x1.aE),cA,cR,bH,bB],.au dQ [.int .i64 (x0.aE),aV,bG,aO,aM],.rd false (aD (aB .i64)) aV x0.aG,.rd false (aD (aB .i64)) bG x0.To,.rd false (aD (aB .i64)) aO x0.aJ,.rd false (aD (aD (aB .i64))) aM x0.aF,.rd false (aD (aB .i64)) cA x1.aG,.rd false (aD (aB .i64)) cR x1.To,.rd false (aD (aB .i64)) bH x1.aJ,.rd false (aD (aD (aB .i64))) bB x1.aF] (fun y (_:Unit)=>[.bool y]) (fun y _=>[]):=by
 refine ct (S:=Unit) (ca fun _ _=>rfl) Tryz.func89 rfl rfl ?_
 repeat' first
  | ((first | show Dk.ER _ _ _ | show Dk.bb _ _ | show Dk.EF _ _ _ | show Dk.EO _ _ _ | show Dk.EP _ _ | show Dk.ba _ _ _ _ | show Dk.aw _ _ _ _ | show Dk.Kp _ _ _ _ | show Dk.bp _ _ | show Dk.bc _ _ _ _); repeat' first | exact rfl | (refine @id.{0} _ ?_; constructor))
  | intro _
  | exact rfl
  | (refine @id.{0} _ ?_; constructor)
  | apply Dk.loop 0 (V:=Unit) (fun (s:Int) v=>[]) (fun s v=>[(69,.int .i64 (s))]) () [(0,_),(1,_),(68,_)]
  | apply Dk.quiet (id:=1) (by kernel_rfl)
  | apply Dk.quiet (id:=6) (by kernel_rfl)
  | apply WS
  | exact ()
theorem Zj {x0:aN} {dQ:Addr} {aW:Value} {bC:Value} {aS:Value} {aQ:Value} {aY:Value} {bD:Value} {aT:Value} {aR:Value} {bI:Value} {bR:Value} {x1:aN} {jT:Addr} {bP:Value} {bW:Value} {bE:Value} {aZ:Value} {bQ:Value} {bX:Value} {bF:Value} {bA:Value} {cF:Value} {cL:Value}:Ct Tryz.prog 94 true (gH x0 x1) [.pointer (some (dQ)),.pointer (some (jT))] [.au jT [.int .i64 (x1.aA.aE),bP,bW,bE,aZ,.int .i64 (x1.aC.aE),bQ,bX,bF,bA,cF,cL],.au dQ [.int .i64 (x0.aA.aE),aW,bC,aS,aQ,.int .i64 (x0.aC.aE),aY,bD,aT,aR,bI,bR],.rd false (aD (aB .i64)) aW x0.aA.aG,.rd false (aD (aB .i64)) bC x0.aA.To,.rd false (aD (aB .i64)) aS x0.aA.aJ,.rd false (aD (aD (aB .i64))) aQ x0.aA.aF,.rd false (aD (aB .i64)) aY x0.aC.aG,.rd false (aD (aB .i64)) bD x0.aC.To,.rd false (aD (aB .i64)) aT x0.aC.aJ,.rd false (aD (aD (aB .i64))) aR x0.aC.aF,.rd false (aD (aB .i64)) bI x0.aE,.rd false (aD (aB .i64)) bR x0.ae,.rd false (aD (aB .i64)) bP x1.aA.aG,.rd false (aD (aB .i64)) bW x1.aA.To,.rd false (aD (aB .i64)) bE x1.aA.aJ,.rd false (aD (aD (aB .i64))) aZ x1.aA.aF,.rd false (aD (aB .i64)) bQ x1.aC.aG,.rd false (aD (aB .i64)) bX x1.aC.To,.rd false (aD (aB .i64)) bF x1.aC.aJ,.rd false (aD (aD (aB .i64))) bA x1.aC.aF,.rd false (aD (aB .i64)) cF x1.aE,.rd false (aD (aB .i64)) cL x1.ae] (fun y (_:Unit)=>[.bool y]) (fun y _=>[]):=by
 refine ct (S:=Unit) (ca fun _ _=>rfl) Tryz.func94 rfl rfl ?_
 repeat' first
  | ((first | show Dk.ER _ _ _ | show Dk.bb _ _ | show Dk.EF _ _ _ | show Dk.EO _ _ _ | show Dk.EP _ _ | show Dk.ba _ _ _ _ | show Dk.aw _ _ _ _ | show Dk.Kp _ _ _ _ | show Dk.bp _ _ | show Dk.bc _ _ _ _); repeat' first | exact rfl | (refine @id.{0} _ ?_; constructor))
  | intro _
  | exact rfl
  | (refine @id.{0} _ ?_; constructor)
  | apply Dk.quiet (id:=1) (by kernel_rfl)
  | apply Zi
  | exact ()
theorem c50 {x0:aN} {dQ:Addr} {aW:Value} {bC:Value} {aS:Value} {aQ:Value} {aY:Value} {bD:Value} {aT:Value} {aR:Value} {bI:Value} {bR:Value} {x1:aN} {jT:Addr} {bP:Value} {bW:Value} {bE:Value} {aZ:Value} {bQ:Value} {bX:Value} {bF:Value} {bA:Value} {cF:Value} {cL:Value}:Ct Tryz.prog 50 true (lB x0 x1) [.pointer (some (dQ)),.pointer (some (jT))] [.au jT [.int .i64 (x1.aA.aE),bP,bW,bE,aZ,.int .i64 (x1.aC.aE),bQ,bX,bF,bA,cF,cL],.au dQ [.int .i64 (x0.aA.aE),aW,bC,aS,aQ,.int .i64 (x0.aC.aE),aY,bD,aT,aR,bI,bR],.rd false (aD (aB .i64)) aW x0.aA.aG,.rd false (aD (aB .i64)) bC x0.aA.To,.rd false (aD (aB .i64)) aS x0.aA.aJ,.rd false (aD (aD (aB .i64))) aQ x0.aA.aF,.rd false (aD (aB .i64)) aY x0.aC.aG,.rd false (aD (aB .i64)) bD x0.aC.To,.rd false (aD (aB .i64)) aT x0.aC.aJ,.rd false (aD (aD (aB .i64))) aR x0.aC.aF,.rd false (aD (aB .i64)) bI x0.aE,.rd false (aD (aB .i64)) bR x0.ae,.rd false (aD (aB .i64)) bP x1.aA.aG,.rd false (aD (aB .i64)) bW x1.aA.To,.rd false (aD (aB .i64)) bE x1.aA.aJ,.rd false (aD (aD (aB .i64))) aZ x1.aA.aF,.rd false (aD (aB .i64)) bQ x1.aC.aG,.rd false (aD (aB .i64)) bX x1.aC.To,.rd false (aD (aB .i64)) bF x1.aC.aJ,.rd false (aD (aD (aB .i64))) bA x1.aC.aF,.rd false (aD (aB .i64)) cF x1.aE,.rd false (aD (aB .i64)) cL x1.ae] (fun y (_:Unit)=>[.bool y]) (fun y _=>[]):=by
 refine ct (S:=Unit) (ca fun _ _=>rfl) Tryz.func50 rfl rfl ?_
 repeat' first
  | ((first | show Dk.ER _ _ _ | show Dk.bb _ _ | show Dk.EF _ _ _ | show Dk.EO _ _ _ | show Dk.EP _ _ | show Dk.ba _ _ _ _ | show Dk.aw _ _ _ _ | show Dk.Kp _ _ _ _ | show Dk.bp _ _ | show Dk.bc _ _ _ _); repeat' first | exact rfl | (refine @id.{0} _ ?_; constructor))
  | intro _
  | exact rfl
  | (refine @id.{0} _ ?_; constructor)
  | apply Dk.quiet (id:=1) (by kernel_rfl)
  | apply Zi
  | apply WS
  | exact ()
theorem c62 {x0:aN} {aW:Value} {bC:Value} {aS:Value} {aQ:Value} {aY:Value} {bD:Value} {aT:Value} {aR:Value} {bI:Value} {bR:Value} {x1:aN} {bP:Value} {bW:Value} {bE:Value} {aZ:Value} {bQ:Value} {bX:Value} {bF:Value} {bA:Value} {cF:Value} {cL:Value}:Ct Tryz.prog 62 true (oY x0 x1) [.agg #[.int .i64 (x0.aA.aE),aW,bC,aS,aQ,.int .i64 (x0.aC.aE),aY,bD,aT,aR,bI,bR],.agg #[.int .i64 (x1.aA.aE),bP,bW,bE,aZ,.int .i64 (x1.aC.aE),bQ,bX,bF,bA,cF,cL]] [.rd false (aD (aB .i64)) aW x0.aA.aG,.rd false (aD (aB .i64)) bC x0.aA.To,.rd false (aD (aB .i64)) aS x0.aA.aJ,.rd false (aD (aD (aB .i64))) aQ x0.aA.aF,.rd false (aD (aB .i64)) aY x0.aC.aG,.rd false (aD (aB .i64)) bD x0.aC.To,.rd false (aD (aB .i64)) aT x0.aC.aJ,.rd false (aD (aD (aB .i64))) aR x0.aC.aF,.rd false (aD (aB .i64)) bI x0.aE,.rd false (aD (aB .i64)) bR x0.ae,.rd false (aD (aB .i64)) bP x1.aA.aG,.rd false (aD (aB .i64)) bW x1.aA.To,.rd false (aD (aB .i64)) bE x1.aA.aJ,.rd false (aD (aD (aB .i64))) aZ x1.aA.aF,.rd false (aD (aB .i64)) bQ x1.aC.aG,.rd false (aD (aB .i64)) bX x1.aC.To,.rd false (aD (aB .i64)) bF x1.aC.aJ,.rd false (aD (aD (aB .i64))) bA x1.aC.aF,.rd false (aD (aB .i64)) cF x1.aE,.rd false (aD (aB .i64)) cL x1.ae] (fun y (_:Unit)=>[.bool y]) (fun y _=>[]):=by
 refine ct (S:=Unit) (ca fun _ _=>rfl) Tryz.func62 rfl rfl ?_
 repeat' first
  | ((first | show Dk.ER _ _ _ | show Dk.bb _ _ | show Dk.EF _ _ _ | show Dk.EO _ _ _ | show Dk.EP _ _ | show Dk.ba _ _ _ _ | show Dk.aw _ _ _ _ | show Dk.Kp _ _ _ _ | show Dk.bp _ _ | show Dk.bc _ _ _ _); repeat' first | exact rfl | (refine @id.{0} _ ?_; constructor))
  | intro _
  | exact rfl
  | (refine @id.{0} _ ?_; constructor)
  | apply WX
  | apply LC
  | exact ()
end Go.Proofs.YtkcpiblgpnjanaaGreat
