/- Walks by the calculus D. No condition beside those that each theorem names. -/
import Derived.Test.YtkcpiblgpnjanaaGreatDi
import Derived.Test.YtkcpiblgpnjanaaGreatMo
import Derived.Test.YtkcpiblgpnjanaaGreatDp
import Derived.Test.YtkcpiblgpnjanaaGreatDs
import Derived.Test.YtkcpiblgpnjanaaGreatWa
import Derived.Test.YtkcpiblgpnjanaaGreatWc
import Derived.Test.YtkcpiblgpnjanaaGreatWd
import Derived.Test.YtkcpiblgpnjanaaGreatWf
import Derived.Test.YtkcpiblgpnjanaaGreatWg
import Derived.Test.YtkcpiblgpnjanaaGreatWh
namespace Go.Proofs.YtkcpiblgpnjanaaGreat
open Go Go.Li Go.Dk
set_option linter.unusedVariables false
set_option maxHeartbeats 16000000
set_option maxRecDepth 100000
theorem WY {x0:aN} {aW:Value} {bC:Value} {aS:Value} {aQ:Value} {aY:Value} {bD:Value} {aT:Value} {aR:Value} {bI:Value} {bR:Value}:Ct Tryz.prog 93 true (jX x0) [.agg #[.int .i64 (x0.aA.aE),aW,bC,aS,aQ,.int .i64 (x0.aC.aE),aY,bD,aT,aR,bI,bR]] [.rd false (aD (aB .i64)) aW x0.aA.aG,.rd false (aD (aB .i64)) bC x0.aA.To,.rd false (aD (aB .i64)) aS x0.aA.aJ,.rd false (aD (aD (aB .i64))) aQ x0.aA.aF,.rd false (aD (aB .i64)) aY x0.aC.aG,.rd false (aD (aB .i64)) bD x0.aC.To,.rd false (aD (aB .i64)) aT x0.aC.aJ,.rd false (aD (aD (aB .i64))) aR x0.aC.aF,.rd false (aD (aB .i64)) bI x0.aE,.rd false (aD (aB .i64)) bR x0.ae] (fun y (_:Unit)=>[.bool y]) (fun y _=>[]):=by
 refine ct (S:=Unit) (ca fun _ _=>rfl) Tryz.func93 rfl rfl ?_
 repeat' first
  | ((first | show Dk.ER _ _ _ | show Dk.bb _ _ | show Dk.EF _ _ _ | show Dk.EO _ _ _ | show Dk.EP _ _ | show Dk.ba _ _ _ _ | show Dk.aw _ _ _ _ | show Dk.Kp _ _ _ _ | show Dk.bp _ _ | show Dk.bc _ _ _ _); repeat' first | exact rfl | (refine @id.{0} _ ?_; constructor))
  | intro _
  | exact rfl
  | (refine Dk.s9 (t:=136) rfl ?_ ?_)
  | (refine @id.{0} _ ?_; constructor)
  | apply Dk.loop 0 (V:=Unit) (fun (s:Int) v=>[]) (fun s v=>[(5,.int .i64 (s))]) () [(1,_),(3,_),(4,_)]
  | apply Dk.loop 2 (V:=Unit) (fun (s:Int) v=>[]) (fun s v=>[(6,.int .i64 (s))]) () [(1,_),(3,_),(4,_)]
  | apply Dk.loop 4 (V:=Unit) (fun (s:Int) v=>[]) (fun s v=>[(7,.int .i64 (s))]) () [(1,_),(3,_),(4,_)]
  | apply Dk.loop 6 (V:=Unit) (fun (s:Int) v=>[]) (fun s v=>[(8,.int .i64 (s))]) () [(1,_),(3,_),(4,_),(7,_)]
  | apply Dk.quiet (id:=9) (by kernel_rfl)
  | apply Dk.quiet (id:=14) (by kernel_rfl)
  | apply Dk.quiet (id:=22) (by kernel_rfl)
  | apply Dk.any (id:=1) 7 [] [[],[],[],[],[],[],[4]] [[],[0],[],[2],[],[],[4,1,0,0,1,0,4,5]] (by kernel_rfl)
  | apply adg
  | apply LD
  | exact ()
theorem adp {x0:aN} {aW:Value} {bC:Value} {aS:Value} {aQ:Value} {aY:Value} {bD:Value} {aT:Value} {aR:Value} {bI:Value} {bR:Value}:Ct Tryz.prog 119 true (mY x0) [.agg #[.int .i64 (x0.aA.aE),aW,bC,aS,aQ,.int .i64 (x0.aC.aE),aY,bD,aT,aR,bI,bR]] [.rd false (aD (aB .i64)) aW x0.aA.aG,.rd false (aD (aB .i64)) bC x0.aA.To,.rd false (aD (aB .i64)) aS x0.aA.aJ,.rd false (aD (aD (aB .i64))) aQ x0.aA.aF,.rd false (aD (aB .i64)) aY x0.aC.aG,.rd false (aD (aB .i64)) bD x0.aC.To,.rd false (aD (aB .i64)) aT x0.aC.aJ,.rd false (aD (aD (aB .i64))) aR x0.aC.aF,.rd false (aD (aB .i64)) bI x0.aE,.rd false (aD (aB .i64)) bR x0.ae] (fun y (v:Value×Value×Value×Value×Value×Value×Value×Value×Value×Value)=>[.agg #[.int .i64 y.aA.aE,v.1,v.2.1,v.2.2.1,v.2.2.2.1,.int .i64 y.aC.aE,v.2.2.2.2.1,v.2.2.2.2.2.1,v.2.2.2.2.2.2.1,v.2.2.2.2.2.2.2.1,v.2.2.2.2.2.2.2.2.1,v.2.2.2.2.2.2.2.2.2]]) (fun y v=>[.own (aK 2 (aB .i64)) v.1 y.aA.aG,.own (aK 2 (aB .i64)) v.2.1 y.aA.To,.own (aK 2 (aB .i64)) v.2.2.1 y.aA.aJ,.own (aK 24 (aK 2 (aB .i64))) v.2.2.2.1 y.aA.aF,.own (aK 2 (aB .i64)) v.2.2.2.2.1 y.aC.aG,.own (aK 2 (aB .i64)) v.2.2.2.2.2.1 y.aC.To,.own (aK 2 (aB .i64)) v.2.2.2.2.2.2.1 y.aC.aJ,.own (aK 24 (aK 2 (aB .i64))) v.2.2.2.2.2.2.2.1 y.aC.aF,.own (aK 2 (aB .i64)) v.2.2.2.2.2.2.2.2.1 y.aE,.own (aK 2 (aB .i64)) v.2.2.2.2.2.2.2.2.2 y.ae]):=by
 refine ct (S:=Unit) (ca fun _ _=>rfl) Tryz.func119 rfl rfl ?_
 repeat' first
  | ((first | show Dk.ER _ _ _ | show Dk.bb _ _ | show Dk.EF _ _ _ | show Dk.EO _ _ _ | show Dk.EP _ _ | show Dk.ba _ _ _ _ | show Dk.aw _ _ _ _ | show Dk.Kp _ _ _ _ | show Dk.bp _ _ | show Dk.bc _ _ _ _); repeat' first | exact rfl | (refine @id.{0} _ ?_; constructor))
  | intro _
  | exact rfl
  | (refine @id.{0} _ ?_; constructor)
  | apply R2
  | exact ()
theorem WZ {x0:aN} {aW:Value} {bC:Value} {aS:Value} {aQ:Value} {aY:Value} {bD:Value} {aT:Value} {aR:Value} {bI:Value} {bR:Value} {x1:aN} {bP:Value} {bW:Value} {bE:Value} {aZ:Value} {bQ:Value} {bX:Value} {bF:Value} {bA:Value} {cF:Value} {cL:Value} {x2:(List Int)} {dS:Value}:Ct Tryz.prog 60 true (gM x0 x1 x2) [.agg #[.int .i64 (x0.aA.aE),aW,bC,aS,aQ,.int .i64 (x0.aC.aE),aY,bD,aT,aR,bI,bR],.agg #[.int .i64 (x1.aA.aE),bP,bW,bE,aZ,.int .i64 (x1.aC.aE),bQ,bX,bF,bA,cF,cL],dS] [.rd false (aD (aB .i64)) aW x0.aA.aG,.rd false (aD (aB .i64)) bC x0.aA.To,.rd false (aD (aB .i64)) aS x0.aA.aJ,.rd false (aD (aD (aB .i64))) aQ x0.aA.aF,.rd false (aD (aB .i64)) aY x0.aC.aG,.rd false (aD (aB .i64)) bD x0.aC.To,.rd false (aD (aB .i64)) aT x0.aC.aJ,.rd false (aD (aD (aB .i64))) aR x0.aC.aF,.rd false (aD (aB .i64)) bI x0.aE,.rd false (aD (aB .i64)) bR x0.ae,.rd false (aD (aB .i64)) bP x1.aA.aG,.rd false (aD (aB .i64)) bW x1.aA.To,.rd false (aD (aB .i64)) bE x1.aA.aJ,.rd false (aD (aD (aB .i64))) aZ x1.aA.aF,.rd false (aD (aB .i64)) bQ x1.aC.aG,.rd false (aD (aB .i64)) bX x1.aC.To,.rd false (aD (aB .i64)) bF x1.aC.aJ,.rd false (aD (aD (aB .i64))) bA x1.aC.aF,.rd false (aD (aB .i64)) cF x1.aE,.rd false (aD (aB .i64)) cL x1.ae,.rd false (aD (aB .i64)) dS x2] (fun y (v:Value×Value×Value×Value×Value×Value×Value×Value×Value×Value×Value×Value×Value×Value×Value×Value×Value×Value×Value×Value×Value)=>[.agg #[.int .i64 y.aA.aA.aE,v.1,v.2.1,v.2.2.1,v.2.2.2.1,.int .i64 y.aA.aC.aE,v.2.2.2.2.1,v.2.2.2.2.2.1,v.2.2.2.2.2.2.1,v.2.2.2.2.2.2.2.1,v.2.2.2.2.2.2.2.2.1,v.2.2.2.2.2.2.2.2.2.1,.int .i64 y.aC.aA.aE,v.2.2.2.2.2.2.2.2.2.2.1,v.2.2.2.2.2.2.2.2.2.2.2.1,v.2.2.2.2.2.2.2.2.2.2.2.2.1,v.2.2.2.2.2.2.2.2.2.2.2.2.2.1,.int .i64 y.aC.aC.aE,v.2.2.2.2.2.2.2.2.2.2.2.2.2.2.1,v.2.2.2.2.2.2.2.2.2.2.2.2.2.2.2.1,v.2.2.2.2.2.2.2.2.2.2.2.2.2.2.2.2.1,v.2.2.2.2.2.2.2.2.2.2.2.2.2.2.2.2.2.1,v.2.2.2.2.2.2.2.2.2.2.2.2.2.2.2.2.2.2.1,v.2.2.2.2.2.2.2.2.2.2.2.2.2.2.2.2.2.2.2.1,v.2.2.2.2.2.2.2.2.2.2.2.2.2.2.2.2.2.2.2.2]]) (fun y v=>[.own (aK 2 (aB .i64)) v.1 y.aA.aA.aG,.own (aK 2 (aB .i64)) v.2.1 y.aA.aA.To,.own (aK 2 (aB .i64)) v.2.2.1 y.aA.aA.aJ,.own (aK 24 (aK 2 (aB .i64))) v.2.2.2.1 y.aA.aA.aF,.own (aK 2 (aB .i64)) v.2.2.2.2.1 y.aA.aC.aG,.own (aK 2 (aB .i64)) v.2.2.2.2.2.1 y.aA.aC.To,.own (aK 2 (aB .i64)) v.2.2.2.2.2.2.1 y.aA.aC.aJ,.own (aK 24 (aK 2 (aB .i64))) v.2.2.2.2.2.2.2.1 y.aA.aC.aF,.own (aK 2 (aB .i64)) v.2.2.2.2.2.2.2.2.1 y.aA.aE,.own (aK 2 (aB .i64)) v.2.2.2.2.2.2.2.2.2.1 y.aA.ae,.own (aK 2 (aB .i64)) v.2.2.2.2.2.2.2.2.2.2.1 y.aC.aA.aG,.own (aK 2 (aB .i64)) v.2.2.2.2.2.2.2.2.2.2.2.1 y.aC.aA.To,.own (aK 2 (aB .i64)) v.2.2.2.2.2.2.2.2.2.2.2.2.1 y.aC.aA.aJ,.own (aK 24 (aK 2 (aB .i64))) v.2.2.2.2.2.2.2.2.2.2.2.2.2.1 y.aC.aA.aF,.own (aK 2 (aB .i64)) v.2.2.2.2.2.2.2.2.2.2.2.2.2.2.1 y.aC.aC.aG,.own (aK 2 (aB .i64)) v.2.2.2.2.2.2.2.2.2.2.2.2.2.2.2.1 y.aC.aC.To,.own (aK 2 (aB .i64)) v.2.2.2.2.2.2.2.2.2.2.2.2.2.2.2.2.1 y.aC.aC.aJ,.own (aK 24 (aK 2 (aB .i64))) v.2.2.2.2.2.2.2.2.2.2.2.2.2.2.2.2.2.1 y.aC.aC.aF,.own (aK 2 (aB .i64)) v.2.2.2.2.2.2.2.2.2.2.2.2.2.2.2.2.2.2.1 y.aC.aE,.own (aK 2 (aB .i64)) v.2.2.2.2.2.2.2.2.2.2.2.2.2.2.2.2.2.2.2.1 y.aC.ae,.own (aK 2 (aB .i64)) v.2.2.2.2.2.2.2.2.2.2.2.2.2.2.2.2.2.2.2.2 y.ag]):=by
 refine ct (S:=Unit) (ca fun _ _=>rfl) Tryz.func60 rfl rfl ?_
 repeat' first
  | ((first | show Dk.ER _ _ _ | show Dk.bb _ _ | show Dk.EF _ _ _ | show Dk.EO _ _ _ | show Dk.EP _ _ | show Dk.ba _ _ _ _ | show Dk.aw _ _ _ _ | show Dk.Kp _ _ _ _ | show Dk.bp _ _ | show Dk.bc _ _ _ _); repeat' first | exact rfl | (refine @id.{0} _ ?_; constructor))
  | intro _
  | exact rfl
  | (refine @id.{0} _ ?_; constructor)
  | apply Dk.any (id:=1) 5 [] [] [[],[0],[],[2,1,0],[]] (by kernel_rfl)
  | apply adp
  | apply v7
  | exact ()
theorem adq {x0:aP} {cB:Value} {cG:Value} {bS:Value} {bJ:Value} {cC:Value} {cH:Value} {bT:Value} {bK:Value} {cN:Value} {cP:Value} {cD:Value} {cI:Value} {bU:Value} {bL:Value} {cE:Value} {cJ:Value} {bV:Value} {bN:Value} {cO:Value} {cQ:Value} {dB:Value}:Ct Tryz.prog 115 true (nE x0) [.agg #[.int .i64 (x0.aA.aA.aE),cB,cG,bS,bJ,.int .i64 (x0.aA.aC.aE),cC,cH,bT,bK,cN,cP,.int .i64 (x0.aC.aA.aE),cD,cI,bU,bL,.int .i64 (x0.aC.aC.aE),cE,cJ,bV,bN,cO,cQ,dB]] [.rd false (aD (aB .i64)) cB x0.aA.aA.aG,.rd false (aD (aB .i64)) cG x0.aA.aA.To,.rd false (aD (aB .i64)) bS x0.aA.aA.aJ,.rd false (aD (aD (aB .i64))) bJ x0.aA.aA.aF,.rd false (aD (aB .i64)) cC x0.aA.aC.aG,.rd false (aD (aB .i64)) cH x0.aA.aC.To,.rd false (aD (aB .i64)) bT x0.aA.aC.aJ,.rd false (aD (aD (aB .i64))) bK x0.aA.aC.aF,.rd false (aD (aB .i64)) cN x0.aA.aE,.rd false (aD (aB .i64)) cP x0.aA.ae,.rd false (aD (aB .i64)) cD x0.aC.aA.aG,.rd false (aD (aB .i64)) cI x0.aC.aA.To,.rd false (aD (aB .i64)) bU x0.aC.aA.aJ,.rd false (aD (aD (aB .i64))) bL x0.aC.aA.aF,.rd false (aD (aB .i64)) cE x0.aC.aC.aG,.rd false (aD (aB .i64)) cJ x0.aC.aC.To,.rd false (aD (aB .i64)) bV x0.aC.aC.aJ,.rd false (aD (aD (aB .i64))) bN x0.aC.aC.aF,.rd false (aD (aB .i64)) cO x0.aC.aE,.rd false (aD (aB .i64)) cQ x0.aC.ae,.rd false (aD (aB .i64)) dB x0.ag] (fun y (_:Unit)=>[.bool y]) (fun y _=>[]):=by
 refine ct (S:=Unit) (ca fun _ _=>rfl) Tryz.func115 rfl rfl ?_
 repeat' first
  | ((first | show Dk.ER _ _ _ | show Dk.bb _ _ | show Dk.EF _ _ _ | show Dk.EO _ _ _ | show Dk.EP _ _ | show Dk.ba _ _ _ _ | show Dk.aw _ _ _ _ | show Dk.Kp _ _ _ _ | show Dk.bp _ _ | show Dk.bc _ _ _ _); repeat' first | exact rfl | (refine @id.{0} _ ?_; constructor))
  | intro _
  | exact rfl
  | (refine @id.{0} _ ?_; constructor)
  | apply WY
  | apply Zh
  | apply acX
  | exact ()
theorem Zk {x0:aP} {cB:Value} {cG:Value} {bS:Value} {bJ:Value} {cC:Value} {cH:Value} {bT:Value} {bK:Value} {cN:Value} {cP:Value} {cD:Value} {cI:Value} {bU:Value} {bL:Value} {cE:Value} {cJ:Value} {bV:Value} {bN:Value} {cO:Value} {cQ:Value} {dB:Value}:Ct Tryz.prog 55 true (mK x0) [.agg #[.int .i64 (x0.aA.aA.aE),cB,cG,bS,bJ,.int .i64 (x0.aA.aC.aE),cC,cH,bT,bK,cN,cP,.int .i64 (x0.aC.aA.aE),cD,cI,bU,bL,.int .i64 (x0.aC.aC.aE),cE,cJ,bV,bN,cO,cQ,dB]] [.rd false (aD (aB .i64)) cB x0.aA.aA.aG,.rd false (aD (aB .i64)) cG x0.aA.aA.To,.rd false (aD (aB .i64)) bS x0.aA.aA.aJ,.rd false (aD (aD (aB .i64))) bJ x0.aA.aA.aF,.rd false (aD (aB .i64)) cC x0.aA.aC.aG,.rd false (aD (aB .i64)) cH x0.aA.aC.To,.rd false (aD (aB .i64)) bT x0.aA.aC.aJ,.rd false (aD (aD (aB .i64))) bK x0.aA.aC.aF,.rd false (aD (aB .i64)) cN x0.aA.aE,.rd false (aD (aB .i64)) cP x0.aA.ae,.rd false (aD (aB .i64)) cD x0.aC.aA.aG,.rd false (aD (aB .i64)) cI x0.aC.aA.To,.rd false (aD (aB .i64)) bU x0.aC.aA.aJ,.rd false (aD (aD (aB .i64))) bL x0.aC.aA.aF,.rd false (aD (aB .i64)) cE x0.aC.aC.aG,.rd false (aD (aB .i64)) cJ x0.aC.aC.To,.rd false (aD (aB .i64)) bV x0.aC.aC.aJ,.rd false (aD (aD (aB .i64))) bN x0.aC.aC.aF,.rd false (aD (aB .i64)) cO x0.aC.aE,.rd false (aD (aB .i64)) cQ x0.aC.ae,.rd false (aD (aB .i64)) dB x0.ag] (fun y (_:Unit)=>[.bool y]) (fun y _=>[]):=by
 refine ct (S:=Unit) (ca fun _ _=>rfl) Tryz.func55 rfl rfl ?_
 repeat' first
  | ((first | show Dk.ER _ _ _ | show Dk.bb _ _ | show Dk.EF _ _ _ | show Dk.EO _ _ _ | show Dk.EP _ _ | show Dk.ba _ _ _ _ | show Dk.aw _ _ _ _ | show Dk.Kp _ _ _ _ | show Dk.bp _ _ | show Dk.bc _ _ _ _); repeat' first | exact rfl | (refine @id.{0} _ ?_; constructor))
  | intro _
  | exact rfl
  | (refine @id.{0} _ ?_; constructor)
  | apply adq
  | apply ac7
  | exact ()
theorem c19 {x0:aP} {cB:Value} {cG:Value} {bS:Value} {bJ:Value} {cC:Value} {cH:Value} {bT:Value} {bK:Value} {cN:Value} {cP:Value} {cD:Value} {cI:Value} {bU:Value} {bL:Value} {cE:Value} {cJ:Value} {bV:Value} {bN:Value} {cO:Value} {cQ:Value} {dB:Value} {x1:aP} {eR:Value} {eX:Value} {eG:Value} {dW:Value} {eS:Value} {eY:Value} {eH:Value} {dX:Value} {fC:Value} {fI:Value} {eU:Value} {eZ:Value} {eI:Value} {dY:Value} {eV:Value} {fA:Value} {eJ:Value} {dZ:Value} {fD:Value} {fJ:Value} {gA:Value}:Ct Tryz.prog 19 true (gS x0 x1) [.agg #[.int .i64 (x0.aA.aA.aE),cB,cG,bS,bJ,.int .i64 (x0.aA.aC.aE),cC,cH,bT,bK,cN,cP,.int .i64 (x0.aC.aA.aE),cD,cI,bU,bL,.int .i64 (x0.aC.aC.aE),cE,cJ,bV,bN,cO,cQ,dB],.agg #[.int .i64 (x1.aA.aA.aE),eR,eX,eG,dW,.int .i64 (x1.aA.aC.aE),eS,eY,eH,dX,fC,fI,.int .i64 (x1.aC.aA.aE),eU,eZ,eI,dY,.int .i64 (x1.aC.aC.aE),eV,fA,eJ,dZ,fD,fJ,gA]] [.rd false (aD (aB .i64)) cB x0.aA.aA.aG,.rd false (aD (aB .i64)) cG x0.aA.aA.To,.rd false (aD (aB .i64)) bS x0.aA.aA.aJ,.rd false (aD (aD (aB .i64))) bJ x0.aA.aA.aF,.rd false (aD (aB .i64)) cC x0.aA.aC.aG,.rd false (aD (aB .i64)) cH x0.aA.aC.To,.rd false (aD (aB .i64)) bT x0.aA.aC.aJ,.rd false (aD (aD (aB .i64))) bK x0.aA.aC.aF,.rd false (aD (aB .i64)) cN x0.aA.aE,.rd false (aD (aB .i64)) cP x0.aA.ae,.rd false (aD (aB .i64)) cD x0.aC.aA.aG,.rd false (aD (aB .i64)) cI x0.aC.aA.To,.rd false (aD (aB .i64)) bU x0.aC.aA.aJ,.rd false (aD (aD (aB .i64))) bL x0.aC.aA.aF,.rd false (aD (aB .i64)) cE x0.aC.aC.aG,.rd false (aD (aB .i64)) cJ x0.aC.aC.To,.rd false (aD (aB .i64)) bV x0.aC.aC.aJ,.rd false (aD (aD (aB .i64))) bN x0.aC.aC.aF,.rd false (aD (aB .i64)) cO x0.aC.aE,.rd false (aD (aB .i64)) cQ x0.aC.ae,.rd false (aD (aB .i64)) dB x0.ag,.rd false (aD (aB .i64)) eR x1.aA.aA.aG,.rd false (aD (aB .i64)) eX x1.aA.aA.To,.rd false (aD (aB .i64)) eG x1.aA.aA.aJ,.rd false (aD (aD (aB .i64))) dW x1.aA.aA.aF,.rd false (aD (aB .i64)) eS x1.aA.aC.aG,.rd false (aD (aB .i64)) eY x1.aA.aC.To,.rd false (aD (aB .i64)) eH x1.aA.aC.aJ,.rd false (aD (aD (aB .i64))) dX x1.aA.aC.aF,.rd false (aD (aB .i64)) fC x1.aA.aE,.rd false (aD (aB .i64)) fI x1.aA.ae,.rd false (aD (aB .i64)) eU x1.aC.aA.aG,.rd false (aD (aB .i64)) eZ x1.aC.aA.To,.rd false (aD (aB .i64)) eI x1.aC.aA.aJ,.rd false (aD (aD (aB .i64))) dY x1.aC.aA.aF,.rd false (aD (aB .i64)) eV x1.aC.aC.aG,.rd false (aD (aB .i64)) fA x1.aC.aC.To,.rd false (aD (aB .i64)) eJ x1.aC.aC.aJ,.rd false (aD (aD (aB .i64))) dZ x1.aC.aC.aF,.rd false (aD (aB .i64)) fD x1.aC.aE,.rd false (aD (aB .i64)) fJ x1.aC.ae,.rd false (aD (aB .i64)) gA x1.ag] (fun y (v:Value×Value×Value×Value×Value×Value×Value×Value×Value×Value×Value×Value×Value×Value×Value×Value×Value×Value×Value×Value×Value)=>[.agg #[.int .i64 y.1.aA.aA.aE,v.1,v.2.1,v.2.2.1,v.2.2.2.1,.int .i64 y.1.aA.aC.aE,v.2.2.2.2.1,v.2.2.2.2.2.1,v.2.2.2.2.2.2.1,v.2.2.2.2.2.2.2.1,v.2.2.2.2.2.2.2.2.1,v.2.2.2.2.2.2.2.2.2.1,.int .i64 y.1.aC.aA.aE,v.2.2.2.2.2.2.2.2.2.2.1,v.2.2.2.2.2.2.2.2.2.2.2.1,v.2.2.2.2.2.2.2.2.2.2.2.2.1,v.2.2.2.2.2.2.2.2.2.2.2.2.2.1,.int .i64 y.1.aC.aC.aE,v.2.2.2.2.2.2.2.2.2.2.2.2.2.2.1,v.2.2.2.2.2.2.2.2.2.2.2.2.2.2.2.1,v.2.2.2.2.2.2.2.2.2.2.2.2.2.2.2.2.1,v.2.2.2.2.2.2.2.2.2.2.2.2.2.2.2.2.2.1,v.2.2.2.2.2.2.2.2.2.2.2.2.2.2.2.2.2.2.1,v.2.2.2.2.2.2.2.2.2.2.2.2.2.2.2.2.2.2.2.1,v.2.2.2.2.2.2.2.2.2.2.2.2.2.2.2.2.2.2.2.2],.int .i64 y.2]) (fun y v=>[.own (aK 2 (aB .i64)) v.1 y.1.aA.aA.aG,.own (aK 2 (aB .i64)) v.2.1 y.1.aA.aA.To,.own (aK 2 (aB .i64)) v.2.2.1 y.1.aA.aA.aJ,.own (aK 24 (aK 2 (aB .i64))) v.2.2.2.1 y.1.aA.aA.aF,.own (aK 2 (aB .i64)) v.2.2.2.2.1 y.1.aA.aC.aG,.own (aK 2 (aB .i64)) v.2.2.2.2.2.1 y.1.aA.aC.To,.own (aK 2 (aB .i64)) v.2.2.2.2.2.2.1 y.1.aA.aC.aJ,.own (aK 24 (aK 2 (aB .i64))) v.2.2.2.2.2.2.2.1 y.1.aA.aC.aF,.own (aK 2 (aB .i64)) v.2.2.2.2.2.2.2.2.1 y.1.aA.aE,.own (aK 2 (aB .i64)) v.2.2.2.2.2.2.2.2.2.1 y.1.aA.ae,.own (aK 2 (aB .i64)) v.2.2.2.2.2.2.2.2.2.2.1 y.1.aC.aA.aG,.own (aK 2 (aB .i64)) v.2.2.2.2.2.2.2.2.2.2.2.1 y.1.aC.aA.To,.own (aK 2 (aB .i64)) v.2.2.2.2.2.2.2.2.2.2.2.2.1 y.1.aC.aA.aJ,.own (aK 24 (aK 2 (aB .i64))) v.2.2.2.2.2.2.2.2.2.2.2.2.2.1 y.1.aC.aA.aF,.own (aK 2 (aB .i64)) v.2.2.2.2.2.2.2.2.2.2.2.2.2.2.1 y.1.aC.aC.aG,.own (aK 2 (aB .i64)) v.2.2.2.2.2.2.2.2.2.2.2.2.2.2.2.1 y.1.aC.aC.To,.own (aK 2 (aB .i64)) v.2.2.2.2.2.2.2.2.2.2.2.2.2.2.2.2.1 y.1.aC.aC.aJ,.own (aK 24 (aK 2 (aB .i64))) v.2.2.2.2.2.2.2.2.2.2.2.2.2.2.2.2.2.1 y.1.aC.aC.aF,.own (aK 2 (aB .i64)) v.2.2.2.2.2.2.2.2.2.2.2.2.2.2.2.2.2.2.1 y.1.aC.aE,.own (aK 2 (aB .i64)) v.2.2.2.2.2.2.2.2.2.2.2.2.2.2.2.2.2.2.2.1 y.1.aC.ae,.own (aK 2 (aB .i64)) v.2.2.2.2.2.2.2.2.2.2.2.2.2.2.2.2.2.2.2.2 y.1.ag]):=by
 refine ct (S:=Unit) (ca fun _ _=>rfl) Tryz.func19 rfl rfl ?_
 repeat' first
  | ((first | show Dk.ER _ _ _ | show Dk.bb _ _ | show Dk.EF _ _ _ | show Dk.EO _ _ _ | show Dk.EP _ _ | show Dk.ba _ _ _ _ | show Dk.aw _ _ _ _ | show Dk.Kp _ _ _ _ | show Dk.bp _ _ | show Dk.bc _ _ _ _); repeat' first | exact rfl | (refine @id.{0} _ ?_; constructor))
  | intro _
  | exact rfl
  | (refine @id.{0} _ ?_; constructor)
  | apply Dk.any (id:=5) 12 [] [] [[],[0],[],[2],[],[4],[5,4],[],[7],[],[9],[6,5,4,8,7,10,9]] (by kernel_rfl)
  | apply Zk
  | apply c62
  | apply c63
  | apply WZ
  | exact ()
end Go.Proofs.YtkcpiblgpnjanaaGreat
