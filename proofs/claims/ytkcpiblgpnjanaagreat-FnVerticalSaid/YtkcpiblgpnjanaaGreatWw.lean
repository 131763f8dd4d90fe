/- Walks by the calculus D. No condition beside those that each theorem names. -/
import Derived.Test.YtkcpiblgpnjanaaGreatDi
import Derived.Test.YtkcpiblgpnjanaaGreatMo
import Derived.Test.YtkcpiblgpnjanaaGreatDp
import Derived.Test.YtkcpiblgpnjanaaGreatDs
import Derived.Test.YtkcpiblgpnjanaaGreatWb
import Derived.Test.YtkcpiblgpnjanaaGreatWg
import Derived.Test.YtkcpiblgpnjanaaGreatWh
import Derived.Test.YtkcpiblgpnjanaaGreatWj
import Derived.Test.YtkcpiblgpnjanaaGreatWl
namespace Go.Proofs.YtkcpiblgpnjanaaGreat
open Go Go.Li Go.Dk
set_option linter.unusedVariables false
set_option maxHeartbeats 16000000
set_option maxRecDepth 100000
theorem Zr {x0:aP} {dQ:Addr} {cB:Value} {cG:Value} {bS:Value} {bJ:Value} {cC:Value} {cH:Value} {bT:Value} {bK:Value} {cN:Value} {cP:Value} {cD:Value} {cI:Value} {bU:Value} {bL:Value} {cE:Value} {cJ:Value} {bV:Value} {bN:Value} {cO:Value} {cQ:Value} {dB:Value}:Ct Tryz.prog 45 true (fB x0) [.pointer (some (dQ))] [.au dQ [.int .i64 (x0.aA.aA.aE),cB,cG,bS,bJ,.int .i64 (x0.aA.aC.aE),cC,cH,bT,bK,cN,cP,.int .i64 (x0.aC.aA.aE),cD,cI,bU,bL,.int .i64 (x0.aC.aC.aE),cE,cJ,bV,bN,cO,cQ,dB],.rd false (aD (aB .i64)) cB x0.aA.aA.aG,.rd false (aD (aB .i64)) cG x0.aA.aA.To,.rd false (aD (aB .i64)) bS x0.aA.aA.aJ,.rd false (aD (aD (aB .i64))) bJ x0.aA.aA.aF,.rd false (aD (aB .i64)) cC x0.aA.aC.aG,.rd false (aD (aB .i64)) cH x0.aA.aC.To,.rd false (aD (aB .i64)) bT x0.aA.aC.aJ,.rd false (aD (aD (aB .i64))) bK x0.aA.aC.aF,.rd false (aD (aB .i64)) cN x0.aA.aE,.rd false (aD (aB .i64)) cP x0.aA.ae,.rd false (aD (aB .i64)) cD x0.aC.aA.aG,.rd false (aD (aB .i64)) cI x0.aC.aA.To,.rd false (aD (aB .i64)) bU x0.aC.aA.aJ,.rd false (aD (aD (aB .i64))) bL x0.aC.aA.aF,.rd false (aD (aB .i64)) cE x0.aC.aC.aG,.rd false (aD (aB .i64)) cJ x0.aC.aC.To,.rd false (aD (aB .i64)) bV x0.aC.aC.aJ,.rd false (aD (aD (aB .i64))) bN x0.aC.aC.aF,.rd false (aD (aB .i64)) cO x0.aC.aE,.rd false (aD (aB .i64)) cQ x0.aC.ae,.rd false (aD (aB .i64)) dB x0.ag] (fun y (_:Unit)=>[.bool y]) (fun y _=>[]):=by
 refine ct (S:=Unit) (ca fun _ _=>rfl) Tryz.func45 rfl rfl ?_
 repeat' first
  | ((first | show Dk.ER _ _ _ | show Dk.bb _ _ | show Dk.EF _ _ _ | show Dk.EO _ _ _ | show Dk.EP _ _ | show Dk.ba _ _ _ _ | show Dk.aw _ _ _ _ | show Dk.Kp _ _ _ _ | show Dk.bp _ _ | show Dk.bc _ _ _ _); repeat' first | exact rfl | (refine @id.{0} _ ?_; constructor))
  | intro _
  | exact rfl
  | (refine @id.{0} _ ?_; constructor)
  | apply ads
  | apply Oh
  | exact ()
theorem c49 {x0:(List aP)} {dI:Value}:Ct Tryz.prog 49 true (lP x0) [dI] [.rd false (aD (vW Py)) dI x0] (fun y (_:Unit)=>[.bool y]) (fun y _=>[]):=by
 refine ct (S:=Unit) (ca fun _ _=>rfl) Tryz.func49 rfl rfl ?_
 repeat' first
  | ((first | show Dk.ER _ _ _ | show Dk.bb _ _ | show Dk.EF _ _ _ | show Dk.EO _ _ _ | show Dk.EP _ _ | show Dk.ba _ _ _ _ | show Dk.aw _ _ _ _ | show Dk.Kp _ _ _ _ | show Dk.bp _ _ | show Dk.bc _ _ _ _); repeat' first | exact rfl | (refine @id.{0} _ ?_; constructor))
  | intro _
  | exact rfl
  | (refine @id.{0} _ ?_; constructor)
  | apply Dk.loop 0 (V:=Unit) (fun (s:Int) v=>[]) (fun s v=>[(7,.int .i64 (s))]) () [(5,_),(6,_)]
  | apply Zr
  | exact ()
theorem c15 {x0:aP} {cB:Value} {cG:Value} {bS:Value} {bJ:Value} {cC:Value} {cH:Value} {bT:Value} {bK:Value} {cN:Value} {cP:Value} {cD:Value} {cI:Value} {bU:Value} {bL:Value} {cE:Value} {cJ:Value} {bV:Value} {bN:Value} {cO:Value} {cQ:Value} {dB:Value} {x1:aP} {eR:Value} {eX:Value} {eG:Value} {dW:Value} {eS:Value} {eY:Value} {eH:Value} {dX:Value} {fC:Value} {fI:Value} {eU:Value} {eZ:Value} {eI:Value} {dY:Value} {eV:Value} {fA:Value} {eJ:Value} {dZ:Value} {fD:Value} {fJ:Value} {gA:Value}:Ct Tryz.prog 15 true (dN x0 x1) [.agg #[.int .i64 (x0.aA.aA.aE),cB,cG,bS,bJ,.int .i64 (x0.aA.aC.aE),cC,cH,bT,bK,cN,cP,.int .i64 (x0.aC.aA.aE),cD,cI,bU,bL,.int .i64 (x0.aC.aC.aE),cE,cJ,bV,bN,cO,cQ,dB],.agg #[.int .i64 (x1.aA.aA.aE),eR,eX,eG,dW,.int .i64 (x1.aA.aC.aE),eS,eY,eH,dX,fC,fI,.int .i64 (x1.aC.aA.aE),eU,eZ,eI,dY,.int .i64 (x1.aC.aC.aE),eV,fA,eJ,dZ,fD,fJ,gA]] [.rd false (aD (aB .i64)) cB x0.aA.aA.aG,.rd false (aD (aB .i64)) cG x0.aA.aA.To,.rd false (aD (aB .i64)) bS x0.aA.aA.aJ,.rd false (aD (aD (aB .i64))) bJ x0.aA.aA.aF,.rd false (aD (aB .i64)) cC x0.aA.aC.aG,.rd false (aD (aB .i64)) cH x0.aA.aC.To,.rd false (aD (aB .i64)) bT x0.aA.aC.aJ,.rd false (aD (aD (aB .i64))) bK x0.aA.aC.aF,.rd false (aD (aB .i64)) cN x0.aA.aE,.rd false (aD (aB .i64)) cP x0.aA.ae,.rd false (aD (aB .i64)) cD x0.aC.aA.aG,.rd false (aD (aB .i64)) cI x0.aC.aA.To,.rd false (aD (aB .i64)) bU x0.aC.aA.aJ,.rd false (aD (aD (aB .i64))) bL x0.aC.aA.aF,.rd false (aD (aB .i64)) cE x0.aC.aC.aG,.rd false (aD (aB .i64)) cJ x0.aC.aC.To,.rd false (aD (aB .i64)) bV x0.aC.aC.aJ,.rd false (aD (aD (aB .i64))) bN x0.aC.aC.aF,.rd false (aD (aB .i64)) cO x0.aC.aE,.rd false (aD (aB .i64)) cQ x0.aC.ae,.rd false (aD (aB .i64)) dB x0.ag,.rd false (aD (aB .i64)) eR x1.aA.aA.aG,.rd false (aD (aB .i64)) eX x1.aA.aA.To,.rd false (aD (aB .i64)) eG x1.aA.aA.aJ,.rd false (aD (aD (aB .i64))) dW x1.aA.aA.aF,.rd false (aD (aB .i64)) eS x1.aA.aC.aG,.rd false (aD (aB .i64)) eY x1.aA.aC.To,.rd false (aD (aB .i64)) eH x1.aA.aC.aJ,.rd false (aD (aD (aB .i64))) dX x1.aA.aC.aF,.rd false (aD (aB .i64)) fC x1.aA.aE,.rd false (aD (aB .i64)) fI x1.aA.ae,.rd false (aD (aB .i64)) eU x1.aC.aA.aG,.rd false (aD (aB .i64)) eZ x1.aC.aA.To,.rd false (aD (aB .i64)) eI x1.aC.aA.aJ,.rd false (aD (aD (aB .i64))) dY x1.aC.aA.aF,.rd false (aD (aB .i64)) eV x1.aC.aC.aG,.rd false (aD (aB .i64)) fA x1.aC.aC.To,.rd false (aD (aB .i64)) eJ x1.aC.aC.aJ,.rd false (aD (aD (aB .i64))) dZ x1.aC.aC.aF,.rd false (aD (aB .i64)) fD x1.aC.aE,.rd false (aD (aB .i64)) fJ x1.aC.ae,.rd false (aD (aB .i64)) gA x1.ag] (fun y (v:Value×Value×Value×Value×Value×Value×Value×Value×Value×Value×Value×Value×Value×Value×Value×Value×Value×Value×Value×Value×Value)=>[.agg #[.int .i64 y.1.aA.aA.aE,v.1,v.2.1,v.2.2.1,v.2.2.2.1,.int .i64 y.1.aA.aC.aE,v.2.2.2.2.1,v.2.2.2.2.2.1,v.2.2.2.2.2.2.1,v.2.2.2.2.2.2.2.1,v.2.2.2.2.2.2.2.2.1,v.2.2.2.2.2.2.2.2.2.1,.int .i64 y.1.aC.aA.aE,v.2.2.2.2.2.2.2.2.2.2.1,v.2.2.2.2.2.2.2.2.2.2.2.1,v.2.2.2.2.2.2.2.2.2.2.2.2.1,v.2.2.2.2.2.2.2.2.2.2.2.2.2.1,.int .i64 y.1.aC.aC.aE,v.2.2.2.2.2.2.2.2.2.2.2.2.2.2.1,v.2.2.2.2.2.2.2.2.2.2.2.2.2.2.2.1,v.2.2.2.2.2.2.2.2.2.2.2.2.2.2.2.2.1,v.2.2.2.2.2.2.2.2.2.2.2.2.2.2.2.2.2.1,v.2.2.2.2.2.2.2.2.2.2.2.2.2.2.2.2.2.2.1,v.2.2.2.2.2.2.2.2.2.2.2.2.2.2.2.2.2.2.2.1,v.2.2.2.2.2.2.2.2.2.2.2.2.2.2.2.2.2.2.2.2],.int .i64 y.2]) (fun y v=>[.own (aK 2 (aB .i64)) v.1 y.1.aA.aA.aG,.own (aK 2 (aB .i64)) v.2.1 y.1.aA.aA.To,.own (aK 2 (aB .i64)) v.2.2.1 y.1.aA.aA.aJ,.own (aK 24 (aK 2 (aB .i64))) v.2.2.2.1 y.1.aA.aA.aF,.own (aK 2 (aB .i64)) v.2.2.2.2.1 y.1.aA.aC.aG,.own (aK 2 (aB .i64)) v.2.2.2.2.2.1 y.1.aA.aC.To,.own (aK 2 (aB .i64)) v.2.2.2.2.2.2.1 y.1.aA.aC.aJ,.own (aK 24 (aK 2 (aB .i64))) v.2.2.2.2.2.2.2.1 y.1.aA.aC.aF,.own (aK 2 (aB .i64)) v.2.2.2.2.2.2.2.2.1 y.1.aA.aE,.own (aK 2 (aB .i64)) v.2.2.2.2.2.2.2.2.2.1 y.1.aA.ae,.own (aK 2 (aB .i64)) v.2.2.2.2.2.2.2.2.2.2.1 y.1.aC.aA.aG,.own (aK 2 (aB .i64)) v.2.2.2.2.2.2.2.2.2.2.2.1 y.1.aC.aA.To,.own (aK 2 (aB .i64)) v.2.2.2.2.2.2.2.2.2.2.2.2.1 y.1.aC.aA.aJ,.own (aK 24 (aK 2 (aB .i64))) v.2.2.2.2.2.2.2.2.2.2.2.2.2.1 y.1.aC.aA.aF,.own (aK 2 (aB .i64)) v.2.2.2.2.2.2.2.2.2.2.2.2.2.2.1 y.1.aC.aC.aG,.own (aK 2 (aB .i64)) v.2.2.2.2.2.2.2.2.2.2.2.2.2.2.2.1 y.1.aC.aC.To,.own (aK 2 (aB .i64)) v.2.2.2.2.2.2.2.2.2.2.2.2.2.2.2.2.1 y.1.aC.aC.aJ,.own (aK 24 (aK 2 (aB .i64))) v.2.2.2.2.2.2.2.2.2.2.2.2.2.2.2.2.2.1 y.1.aC.aC.aF,.own (aK 2 (aB .i64)) v.2.2.2.2.2.2.2.2.2.2.2.2.2.2.2.2.2.2.1 y.1.aC.aE,.own (aK 2 (aB .i64)) v.2.2.2.2.2.2.2.2.2.2.2.2.2.2.2.2.2.2.2.1 y.1.aC.ae,.own (aK 2 (aB .i64)) v.2.2.2.2.2.2.2.2.2.2.2.2.2.2.2.2.2.2.2.2 y.1.ag]):=by
 refine ct (S:=Unit) (ca fun _ _=>rfl) Tryz.func15 rfl rfl ?_
 repeat' first
  | ((first | show Dk.ER _ _ _ | show Dk.bb _ _ | show Dk.EF _ _ _ | show Dk.EO _ _ _ | show Dk.EP _ _ | show Dk.ba _ _ _ _ | show Dk.aw _ _ _ _ | show Dk.Kp _ _ _ _ | show Dk.bp _ _ | show Dk.bc _ _ _ _); repeat' first | exact rfl | (refine @id.{0} _ ?_; constructor))
  | intro _
  | exact rfl
  | (refine @id.{0} _ ?_; constructor)
  | apply c49
  | apply c50
  | apply c51
  | apply Zp
  | exact ()
theorem MS {x0:aN} {aW:Value} {bC:Value} {aS:Value} {aQ:Value} {aY:Value} {bD:Value} {aT:Value} {aR:Value} {bI:Value} {bR:Value} {x1:aN} {bP:Value} {bW:Value} {bE:Value} {aZ:Value} {bQ:Value} {bX:Value} {bF:Value} {bA:Value} {cF:Value} {cL:Value}:Ct Tryz.prog 12 true (gW x0 x1) [.agg #[.int .i64 (x0.aA.aE),aW,bC,aS,aQ,.int .i64 (x0.aC.aE),aY,bD,aT,aR,bI,bR],.agg #[.int .i64 (x1.aA.aE),bP,bW,bE,aZ,.int .i64 (x1.aC.aE),bQ,bX,bF,bA,cF,cL]] [.rd false (aD (aB .i64)) aW x0.aA.aG,.rd false (aD (aB .i64)) bC x0.aA.To,.rd false (aD (aB .i64)) aS x0.aA.aJ,.rd false (aD (aD (aB .i64))) aQ x0.aA.aF,.rd false (aD (aB .i64)) aY x0.aC.aG,.rd false (aD (aB .i64)) bD x0.aC.To,.rd false (aD (aB .i64)) aT x0.aC.aJ,.rd false (aD (aD (aB .i64))) aR x0.aC.aF,.rd false (aD (aB .i64)) bI x0.aE,.rd false (aD (aB .i64)) bR x0.ae,.rd false (aD (aB .i64)) bP x1.aA.aG,.rd false (aD (aB .i64)) bW x1.aA.To,.rd false (aD (aB .i64)) bE x1.aA.aJ,.rd false (aD (aD (aB .i64))) aZ x1.aA.aF,.rd false (aD (aB .i64)) bQ x1.aC.aG,.rd false (aD (aB .i64)) bX x1.aC.To,.rd false (aD (aB .i64)) bF x1.aC.aJ,.rd false (aD (aD (aB .i64))) bA x1.aC.aF,.rd false (aD (aB .i64)) cF x1.aE,.rd false (aD (aB .i64)) cL x1.ae] (fun y (v:Value)=>[v,.int .i64 y.2]) (fun y v=>[.own (aK 24 (aK 2 (aB .i64))) v y.1]):=by
 refine ct (S:=Unit) (ca fun _ _=>rfl) Tryz.func12 rfl rfl ?_
 repeat' first
  | ((first | show Dk.ER _ _ _ | show Dk.bb _ _ | show Dk.EF _ _ _ | show Dk.EO _ _ _ | show Dk.EP _ _ | show Dk.ba _ _ _ _ | show Dk.aw _ _ _ _ | show Dk.Kp _ _ _ _ | show Dk.bp _ _ | show Dk.bc _ _ _ _); repeat' first | exact rfl | (refine @id.{0} _ ?_; constructor))
  | intro _
  | exact rfl
  | (refine @id.{0} _ ?_; constructor)
  | apply c40
  | apply c44
  | exact ()
theorem c20 {x0:aP} {cB:Value} {cG:Value} {bS:Value} {bJ:Value} {cC:Value} {cH:Value} {bT:Value} {bK:Value} {cN:Value} {cP:Value} {cD:Value} {cI:Value} {bU:Value} {bL:Value} {cE:Value} {cJ:Value} {bV:Value} {bN:Value} {cO:Value} {cQ:Value} {dB:Value}:Ct Tryz.prog 20 true (iR x0) [.agg #[.int .i64 (x0.aA.aA.aE),cB,cG,bS,bJ,.int .i64 (x0.aA.aC.aE),cC,cH,bT,bK,cN,cP,.int .i64 (x0.aC.aA.aE),cD,cI,bU,bL,.int .i64 (x0.aC.aC.aE),cE,cJ,bV,bN,cO,cQ,dB]] [.rd false (aD (aB .i64)) cB x0.aA.aA.aG,.rd false (aD (aB .i64)) cG x0.aA.aA.To,.rd false (aD (aB .i64)) bS x0.aA.aA.aJ,.rd false (aD (aD (aB .i64))) bJ x0.aA.aA.aF,.rd false (aD (aB .i64)) cC x0.aA.aC.aG,.rd false (aD (aB .i64)) cH x0.aA.aC.To,.rd false (aD (aB .i64)) bT x0.aA.aC.aJ,.rd false (aD (aD (aB .i64))) bK x0.aA.aC.aF,.rd false (aD (aB .i64)) cN x0.aA.aE,.rd false (aD (aB .i64)) cP x0.aA.ae,.rd false (aD (aB .i64)) cD x0.aC.aA.aG,.rd false (aD (aB .i64)) cI x0.aC.aA.To,.rd false (aD (aB .i64)) bU x0.aC.aA.aJ,.rd false (aD (aD (aB .i64))) bL x0.aC.aA.aF,.rd false (aD (aB .i64)) cE x0.aC.aC.aG,.rd false (aD (aB .i64)) cJ x0.aC.aC.To,.rd false (aD (aB .i64)) bV x0.aC.aC.aJ,.rd false (aD (aD (aB .i64))) bN x0.aC.aC.aF,.rd false (aD (aB .i64)) cO x0.aC.aE,.rd false (aD (aB .i64)) cQ x0.aC.ae,.rd false (aD (aB .i64)) dB x0.ag] (fun y (_:Unit)=>[.bool y]) (fun y _=>[]):=by
 refine ct (S:=Unit) (ca fun _ _=>rfl) Tryz.func20 rfl rfl ?_
 repeat' first
  | ((first | show Dk.ER _ _ _ | show Dk.bb _ _ | show Dk.EF _ _ _ | show Dk.EO _ _ _ | show Dk.EP _ _ | show Dk.ba _ _ _ _ | show Dk.aw _ _ _ _ | show Dk.Kp _ _ _ _ | show Dk.bp _ _ | show Dk.bc _ _ _ _); repeat' first | exact rfl | (refine @id.{0} _ ?_; constructor))
  | intro _
  | exact rfl
  | (refine @id.{0} _ ?_; constructor)
  | apply Zr
  | exact ()
end Go.Proofs.YtkcpiblgpnjanaaGreat
