/- Walks by the calculus D. No condition beside those that each theorem names. -/
import Derived.Test.YtkhdhnpokfibjaaGreatDi
import Derived.Test.YtkhdhnpokfibjaaGreatMo
import Derived.Test.YtkhdhnpokfibjaaGreatDp
import Derived.Test.YtkhdhnpokfibjaaGreatDs
import Derived.Test.YtkhdhnpokfibjaaGreatWa
import Derived.Test.YtkhdhnpokfibjaaGreatWb
import Derived.Test.YtkhdhnpokfibjaaGreatWc
import Derived.Test.YtkhdhnpokfibjaaGreatWd
namespace Go.Proofs.YtkhdhnpokfibjaaGreat
open Go Go.Li Go.Dk
set_option linter.unusedVariables false
set_option maxHeartbeats 16000000
set_option maxRecDepth 100000
theorem c125 {x0:(List (List Int))} {dZ:Value}:Ct Tryz.prog 125 true (iZ x0) [dZ] [.rd false (aE (aE (aC .i64))) dZ x0] (fun y (v:Value×Value×Value×Value)=>[.agg #[.int .i64 y.aD,v.1,v.2.1,v.2.2.1,v.2.2.2]]) (fun y v=>[.own (aK 2 (aC .i64)) v.1 y.aG,.own (aK 2 (aC .i64)) v.2.1 y.To,.own (aK 2 (aC .i64)) v.2.2.1 y.aJ,.own (aK 24 (aK 2 (aC .i64))) v.2.2.2 y.aF]):=by
 refine ct (S:=Unit) (owt fun _ _=>rfl) Tryz.func125 rfl rfl ?_
 repeat' first
  | intro _
  | exact rfl
  | (refine @id.{0} _ ?_; constructor)
  | apply Dk.any (id:=2) 7 [] [] [[],[0,0],[],[2,2],[],[],[5]] (by kernel_rfl)
  | apply c142
  | exact ()
theorem c135 {x0:aI} {eR:Addr} {aV:Value} {bK:Value} {aP:Value} {aO:Value}:Ct Tryz.prog 135 true (iK x0) [.pointer (some (eR))] [.ats eR [.int .i64 (x0.aD),aV,bK,aP,aO],.rd false (aE (aC .i64)) aV x0.aG,.rd false (aE (aC .i64)) bK x0.To,.rd false (aE (aC .i64)) aP x0.aJ,.rd false (aE (aE (aC .i64))) aO x0.aF] (fun y (_:Unit)=>[.bool y]) (fun y _=>[]):=by
 refine ct (S:=Unit) (owt fun _ _=>rfl) Tryz.func135 rfl rfl ?_
 repeat' first
  | intro _
  | exact rfl
  | (refine @id.{0} _ ?_; constructor)
  | apply Dk.loop 0 (V:=Unit) (fun (s:Int) v=>[]) (fun s v=>[(88,.int .i64 (s))]) () [(0,_),(3,_),(86,_),(87,_)]
  | apply Dk.loop 2 (V:=Unit) (fun (s:Int) v=>[]) (fun s v=>[(106,.int .i64 (s))]) () [(0,_),(3,_),(104,_),(105,_)]
  | apply Dk.loop 4 (V:=Unit) (fun (s:Int) v=>[]) (fun s v=>[(117,.int .i64 (s))]) () [(0,_),(3,_),(6,_),(104,_),(105,_),(106,_),(115,_),(116,_)]
  | apply Dk.quiet (id:=2) (by kernel_rfl)
  | apply Dk.quiet (id:=4) (by kernel_rfl)
  | apply Dk.quiet (id:=20) (by kernel_rfl)
  | apply Dk.quiet (id:=23) (by kernel_rfl)
  | apply c114
  | apply c134
  | apply c113
  | apply c115
  | exact ()
theorem c116 {x0:aI} {eR:Addr} {aV:Value} {bK:Value} {aP:Value} {aO:Value}:Ct Tryz.prog 116 true (gM x0) [.pointer (some (eR))] [.ats eR [.int .i64 (x0.aD),aV,bK,aP,aO],.rd false (aE (aC .i64)) aV x0.aG,.rd false (aE (aC .i64)) bK x0.To,.rd false (aE (aC .i64)) aP x0.aJ,.rd false (aE (aE (aC .i64))) aO x0.aF] (fun y (_:Unit)=>[.bool y]) (fun y _=>[]):=by
 refine ct (S:=Unit) (owt fun _ _=>rfl) Tryz.func116 rfl rfl ?_
 repeat' first
  | intro _
  | exact rfl
  | (refine @id.{0} _ ?_; constructor)
  | apply c135
  | apply c136
  | exact ()
theorem c83 {x0:(List aI)} {dZ:Value}:Ct Tryz.prog 83 true (jS x0) [dZ] [.rd false (aE (sPtr sS27)) dZ x0] (fun y (_:Unit)=>[.bool y]) (fun y _=>[]):=by
 refine ct (S:=Unit) (owt fun _ _=>rfl) Tryz.func83 rfl rfl ?_
 repeat' first
  | intro _
  | exact rfl
  | (refine @id.{0} _ ?_; constructor)
  | apply Dk.loop 0 (V:=Unit) (fun (s:Int) v=>[]) (fun s v=>[(7,.int .i64 (s))]) () [(5,_),(6,_)]
  | apply c116
  | exact ()
theorem c84 {x0:aN} {eR:Addr} {aW:Value} {bC:Value} {aS:Value} {aQ:Value} {aY:Value} {bD:Value} {aT:Value} {aR:Value} {bS:Value} {bV:Value}:Ct Tryz.prog 84 true (kB x0) [.pointer (some (eR))] [.ats eR [.int .i64 (x0.aA.aD),aW,bC,aS,aQ,.int .i64 (x0.aB.aD),aY,bD,aT,aR,bS,bV],.rd false (aE (aC .i64)) aW x0.aA.aG,.rd false (aE (aC .i64)) bC x0.aA.To,.rd false (aE (aC .i64)) aS x0.aA.aJ,.rd false (aE (aE (aC .i64))) aQ x0.aA.aF,.rd false (aE (aC .i64)) aY x0.aB.aG,.rd false (aE (aC .i64)) bD x0.aB.To,.rd false (aE (aC .i64)) aT x0.aB.aJ,.rd false (aE (aE (aC .i64))) aR x0.aB.aF,.rd false (aE (aC .i64)) bS x0.aD,.rd false (aE (aC .i64)) bV x0.Arrows] (fun y (_:Unit)=>[.bool y]) (fun y _=>[]):=by
 refine ct (S:=Unit) (owt fun _ _=>rfl) Tryz.func84 rfl rfl ?_
 repeat' first
  | intro _
  | exact rfl
  | (refine @id.{0} _ ?_; constructor)
  | apply Dk.loop 0 (V:=Unit) (fun (s:Int) v=>[]) (fun s v=>[(66,.int .i64 (s))]) () [(0,_),(3,_),(4,_),(64,_),(65,_)]
  | apply Dk.loop 2 (V:=Unit) (fun (s:Int) v=>[]) (fun s v=>[(121,.int .i64 (s))]) () [(0,_),(3,_),(4,_),(119,_),(120,_)]
  | apply Dk.loop 4 (V:=Unit) (fun (s:Int) v=>[]) (fun s v=>[(153,.int .i64 (s))]) () [(0,_),(4,_),(151,_),(152,_)]
  | apply Dk.loop 6 (V:=Unit) (fun (s:Int) v=>[]) (fun s v=>[(160,.int .i64 (s))]) () [(0,_),(4,_),(9,_),(151,_),(152,_),(153,_),(158,_),(159,_)]
  | apply Dk.quiet (id:=1) (by kernel_rfl)
  | apply Dk.quiet (id:=2) (by kernel_rfl)
  | apply Dk.quiet (id:=7) (by kernel_rfl)
  | apply Dk.quiet (id:=13) (by kernel_rfl)
  | apply Dk.quiet (id:=22) (by kernel_rfl)
  | apply c114
  | apply c113
  | apply c75
  | exact ()
theorem c36 {x0:aI} {eR:Addr} {aV:Value} {bK:Value} {aP:Value} {aO:Value} {x1:aI} {kM:Addr} {cK:Value} {dA:Value} {bL:Value} {bB:Value}:Ct Tryz.prog 36 true (fC x0 x1) [.pointer (some (eR)),.pointer (some (kM))] [.ats kM [.int .i64 (x1.aD),cK,dA,bL,bB],.ats eR [.int .i64 (x0.aD),aV,bK,aP,aO],.rd false (aE (aC .i64)) aV x0.aG,.rd false (aE (aC .i64)) bK x0.To,.rd false (aE (aC .i64)) aP x0.aJ,.rd false (aE (aE (aC .i64))) aO x0.aF,.rd false (aE (aC .i64)) cK x1.aG,.rd false (aE (aC .i64)) dA x1.To,.rd false (aE (aC .i64)) bL x1.aJ,.rd false (aE (aE (aC .i64))) bB x1.aF] (fun y (_:Unit)=>[.bool y]) (fun y _=>[]):=by
 refine ct (S:=Unit) (owt fun _ _=>rfl) Tryz.func36 rfl rfl ?_
 repeat' first
  | intro _
  | exact rfl
  | (refine @id.{0} _ ?_; constructor)
  | apply Dk.loop 0 (V:=Unit) (fun (s:Int) v=>[]) (fun s v=>[(69,.int .i64 (s))]) () [(0,_),(1,_),(68,_)]
  | apply Dk.quiet (id:=1) (by kernel_rfl)
  | apply Dk.quiet (id:=6) (by kernel_rfl)
  | apply c71
  | exact ()
theorem c87 {x0:aN} {eR:Addr} {aW:Value} {bC:Value} {aS:Value} {aQ:Value} {aY:Value} {bD:Value} {aT:Value} {aR:Value} {bS:Value} {bV:Value} {x1:aN} {kM:Addr} {bT:Value} {cE:Value} {bE:Value} {aZ:Value} {bU:Value} {cF:Value} {bF:Value} {bA:Value} {cN:Value} {cO:Value}:Ct Tryz.prog 87 true (iM x0 x1) [.pointer (some (eR)),.pointer (some (kM))] [.ats kM [.int .i64 (x1.aA.aD),bT,cE,bE,aZ,.int .i64 (x1.aB.aD),bU,cF,bF,bA,cN,cO],.ats eR [.int .i64 (x0.aA.aD),aW,bC,aS,aQ,.int .i64 (x0.aB.aD),aY,bD,aT,aR,bS,bV],.rd false (aE (aC .i64)) aW x0.aA.aG,.rd false (aE (aC .i64)) bC x0.aA.To,.rd false (aE (aC .i64)) aS x0.aA.aJ,.rd false (aE (aE (aC .i64))) aQ x0.aA.aF,.rd false (aE (aC .i64)) aY x0.aB.aG,.rd false (aE (aC .i64)) bD x0.aB.To,.rd false (aE (aC .i64)) aT x0.aB.aJ,.rd false (aE (aE (aC .i64))) aR x0.aB.aF,.rd false (aE (aC .i64)) bS x0.aD,.rd false (aE (aC .i64)) bV x0.Arrows,.rd false (aE (aC .i64)) bT x1.aA.aG,.rd false (aE (aC .i64)) cE x1.aA.To,.rd false (aE (aC .i64)) bE x1.aA.aJ,.rd false (aE (aE (aC .i64))) aZ x1.aA.aF,.rd false (aE (aC .i64)) bU x1.aB.aG,.rd false (aE (aC .i64)) cF x1.aB.To,.rd false (aE (aC .i64)) bF x1.aB.aJ,.rd false (aE (aE (aC .i64))) bA x1.aB.aF,.rd false (aE (aC .i64)) cN x1.aD,.rd false (aE (aC .i64)) cO x1.Arrows] (fun y (_:Unit)=>[.bool y]) (fun y _=>[]):=by
 refine ct (S:=Unit) (owt fun _ _=>rfl) Tryz.func87 rfl rfl ?_
 repeat' first
  | intro _
  | exact rfl
  | (refine @id.{0} _ ?_; constructor)
  | apply Dk.quiet (id:=1) (by kernel_rfl)
  | apply c36
  | exact ()
theorem c79 {x0:aI} {aV:Value} {bK:Value} {aP:Value} {aO:Value} {x1:aI} {cK:Value} {dA:Value} {bL:Value} {bB:Value}:Ct Tryz.prog 79 true (kX x0 x1) [.agg #[.int .i64 (x0.aD),aV,bK,aP,aO],.agg #[.int .i64 (x1.aD),cK,dA,bL,bB]] [.rd false (aE (aC .i64)) aV x0.aG,.rd false (aE (aC .i64)) bK x0.To,.rd false (aE (aC .i64)) aP x0.aJ,.rd false (aE (aE (aC .i64))) aO x0.aF,.rd false (aE (aC .i64)) cK x1.aG,.rd false (aE (aC .i64)) dA x1.To,.rd false (aE (aC .i64)) bL x1.aJ,.rd false (aE (aE (aC .i64))) bB x1.aF] (fun y (_:Unit)=>[.bool y]) (fun y _=>[]):=by
 refine ct (S:=Unit) (owt fun _ _=>rfl) Tryz.func79 rfl rfl ?_
 repeat' first
  | intro _
  | exact rfl
  | (refine @id.{0} _ ?_; constructor)
  | apply c18
  | apply c112
  | exact ()
theorem c45 {x0:aN} {aW:Value} {bC:Value} {aS:Value} {aQ:Value} {aY:Value} {bD:Value} {aT:Value} {aR:Value} {bS:Value} {bV:Value} {x1:aN} {bT:Value} {cE:Value} {bE:Value} {aZ:Value} {bU:Value} {cF:Value} {bF:Value} {bA:Value} {cN:Value} {cO:Value}:Ct Tryz.prog 45 true (kY x0 x1) [.agg #[.int .i64 (x0.aA.aD),aW,bC,aS,aQ,.int .i64 (x0.aB.aD),aY,bD,aT,aR,bS,bV],.agg #[.int .i64 (x1.aA.aD),bT,cE,bE,aZ,.int .i64 (x1.aB.aD),bU,cF,bF,bA,cN,cO]] [.rd false (aE (aC .i64)) aW x0.aA.aG,.rd false (aE (aC .i64)) bC x0.aA.To,.rd false (aE (aC .i64)) aS x0.aA.aJ,.rd false (aE (aE (aC .i64))) aQ x0.aA.aF,.rd false (aE (aC .i64)) aY x0.aB.aG,.rd false (aE (aC .i64)) bD x0.aB.To,.rd false (aE (aC .i64)) aT x0.aB.aJ,.rd false (aE (aE (aC .i64))) aR x0.aB.aF,.rd false (aE (aC .i64)) bS x0.aD,.rd false (aE (aC .i64)) bV x0.Arrows,.rd false (aE (aC .i64)) bT x1.aA.aG,.rd false (aE (aC .i64)) cE x1.aA.To,.rd false (aE (aC .i64)) bE x1.aA.aJ,.rd false (aE (aE (aC .i64))) aZ x1.aA.aF,.rd false (aE (aC .i64)) bU x1.aB.aG,.rd false (aE (aC .i64)) cF x1.aB.To,.rd false (aE (aC .i64)) bF x1.aB.aJ,.rd false (aE (aE (aC .i64))) bA x1.aB.aF,.rd false (aE (aC .i64)) cN x1.aD,.rd false (aE (aC .i64)) cO x1.Arrows] (fun y (_:Unit)=>[.bool y]) (fun y _=>[]):=by
 refine ct (S:=Unit) (owt fun _ _=>rfl) Tryz.func45 rfl rfl ?_
 repeat' first
  | intro _
  | exact rfl
  | (refine @id.{0} _ ?_; constructor)
  | apply c79
  | apply c18
  | exact ()
theorem c10 {x0:aM} {bW:Value} {cA:Value} {bN:Value} {bG:Value} {bX:Value} {cB:Value} {bP:Value} {bH:Value} {cI:Value} {cL:Value} {bY:Value} {cC:Value} {bQ:Value} {bI:Value} {bZ:Value} {cD:Value} {bR:Value} {bJ:Value} {cJ:Value} {cM:Value} {cV:Value} {x1:aM} {dK:Value} {dQ:Value} {cW:Value} {cQ:Value} {dL:Value} {dR:Value} {cX:Value} {cR:Value} {eA:Value} {eC:Value} {dM:Value} {dS:Value} {cY:Value} {cS:Value} {dN:Value} {dT:Value} {cZ:Value} {cT:Value} {eB:Value} {eD:Value} {eQ:Value}:Ct Tryz.prog 10 true (gR x0 x1) [.agg #[.int .i64 (x0.aA.aA.aD),bW,cA,bN,bG,.int .i64 (x0.aA.aB.aD),bX,cB,bP,bH,cI,cL,.int .i64 (x0.aB.aA.aD),bY,cC,bQ,bI,.int .i64 (x0.aB.aB.aD),bZ,cD,bR,bJ,cJ,cM,cV],.agg #[.int .i64 (x1.aA.aA.aD),dK,dQ,cW,cQ,.int .i64 (x1.aA.aB.aD),dL,dR,cX,cR,eA,eC,.int .i64 (x1.aB.aA.aD),dM,dS,cY,cS,.int .i64 (x1.aB.aB.aD),dN,dT,cZ,cT,eB,eD,eQ]] [.rd false (aE (aC .i64)) bW x0.aA.aA.aG,.rd false (aE (aC .i64)) cA x0.aA.aA.To,.rd false (aE (aC .i64)) bN x0.aA.aA.aJ,.rd false (aE (aE (aC .i64))) bG x0.aA.aA.aF,.rd false (aE (aC .i64)) bX x0.aA.aB.aG,.rd false (aE (aC .i64)) cB x0.aA.aB.To,.rd false (aE (aC .i64)) bP x0.aA.aB.aJ,.rd false (aE (aE (aC .i64))) bH x0.aA.aB.aF,.rd false (aE (aC .i64)) cI x0.aA.aD,.rd false (aE (aC .i64)) cL x0.aA.Arrows,.rd false (aE (aC .i64)) bY x0.aB.aA.aG,.rd false (aE (aC .i64)) cC x0.aB.aA.To,.rd false (aE (aC .i64)) bQ x0.aB.aA.aJ,.rd false (aE (aE (aC .i64))) bI x0.aB.aA.aF,.rd false (aE (aC .i64)) bZ x0.aB.aB.aG,.rd false (aE (aC .i64)) cD x0.aB.aB.To,.rd false (aE (aC .i64)) bR x0.aB.aB.aJ,.rd false (aE (aE (aC .i64))) bJ x0.aB.aB.aF,.rd false (aE (aC .i64)) cJ x0.aB.aD,.rd false (aE (aC .i64)) cM x0.aB.Arrows,.rd false (aE (aC .i64)) cV x0.Components,.rd false (aE (aC .i64)) dK x1.aA.aA.aG,.rd false (aE (aC .i64)) dQ x1.aA.aA.To,.rd false (aE (aC .i64)) cW x1.aA.aA.aJ,.rd false (aE (aE (aC .i64))) cQ x1.aA.aA.aF,.rd false (aE (aC .i64)) dL x1.aA.aB.aG,.rd false (aE (aC .i64)) dR x1.aA.aB.To,.rd false (aE (aC .i64)) cX x1.aA.aB.aJ,.rd false (aE (aE (aC .i64))) cR x1.aA.aB.aF,.rd false (aE (aC .i64)) eA x1.aA.aD,.rd false (aE (aC .i64)) eC x1.aA.Arrows,.rd false (aE (aC .i64)) dM x1.aB.aA.aG,.rd false (aE (aC .i64)) dS x1.aB.aA.To,.rd false (aE (aC .i64)) cY x1.aB.aA.aJ,.rd false (aE (aE (aC .i64))) cS x1.aB.aA.aF,.rd false (aE (aC .i64)) dN x1.aB.aB.aG,.rd false (aE (aC .i64)) dT x1.aB.aB.To,.rd false (aE (aC .i64)) cZ x1.aB.aB.aJ,.rd false (aE (aE (aC .i64))) cT x1.aB.aB.aF,.rd false (aE (aC .i64)) eB x1.aB.aD,.rd false (aE (aC .i64)) eD x1.aB.Arrows,.rd false (aE (aC .i64)) eQ x1.Components] (fun y (_:Unit)=>[.bool y]) (fun y _=>[]):=by
 refine ct (S:=Unit) (owt fun _ _=>rfl) Tryz.func10 rfl rfl ?_
 repeat' first
  | intro _
  | exact rfl
  | (refine @id.{0} _ ?_; constructor)
  | apply c45
  | apply c18
  | exact ()
theorem c48 {x0:aN} {eR:Addr} {aW:Value} {bC:Value} {aS:Value} {aQ:Value} {aY:Value} {bD:Value} {aT:Value} {aR:Value} {bS:Value} {bV:Value} {x1:aN} {kM:Addr} {bT:Value} {cE:Value} {bE:Value} {aZ:Value} {bU:Value} {cF:Value} {bF:Value} {bA:Value} {cN:Value} {cO:Value}:Ct Tryz.prog 48 true (kW x0 x1) [.pointer (some (eR)),.pointer (some (kM))] [.ats kM [.int .i64 (x1.aA.aD),bT,cE,bE,aZ,.int .i64 (x1.aB.aD),bU,cF,bF,bA,cN,cO],.ats eR [.int .i64 (x0.aA.aD),aW,bC,aS,aQ,.int .i64 (x0.aB.aD),aY,bD,aT,aR,bS,bV],.rd false (aE (aC .i64)) aW x0.aA.aG,.rd false (aE (aC .i64)) bC x0.aA.To,.rd false (aE (aC .i64)) aS x0.aA.aJ,.rd false (aE (aE (aC .i64))) aQ x0.aA.aF,.rd false (aE (aC .i64)) aY x0.aB.aG,.rd false (aE (aC .i64)) bD x0.aB.To,.rd false (aE (aC .i64)) aT x0.aB.aJ,.rd false (aE (aE (aC .i64))) aR x0.aB.aF,.rd false (aE (aC .i64)) bS x0.aD,.rd false (aE (aC .i64)) bV x0.Arrows,.rd false (aE (aC .i64)) bT x1.aA.aG,.rd false (aE (aC .i64)) cE x1.aA.To,.rd false (aE (aC .i64)) bE x1.aA.aJ,.rd false (aE (aE (aC .i64))) aZ x1.aA.aF,.rd false (aE (aC .i64)) bU x1.aB.aG,.rd false (aE (aC .i64)) cF x1.aB.To,.rd false (aE (aC .i64)) bF x1.aB.aJ,.rd false (aE (aE (aC .i64))) bA x1.aB.aF,.rd false (aE (aC .i64)) cN x1.aD,.rd false (aE (aC .i64)) cO x1.Arrows] (fun y (_:Unit)=>[.bool y]) (fun y _=>[]):=by
 refine ct (S:=Unit) (owt fun _ _=>rfl) Tryz.func48 rfl rfl ?_
 repeat' first
  | intro _
  | exact rfl
  | (refine @id.{0} _ ?_; constructor)
  | apply Dk.quiet (id:=1) (by kernel_rfl)
  | apply c36
  | apply c71
  | exact ()
end Go.Proofs.YtkhdhnpokfibjaaGreat
