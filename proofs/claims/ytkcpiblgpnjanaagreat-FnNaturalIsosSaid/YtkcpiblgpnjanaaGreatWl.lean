/- Walks by the calculus D. No condition beside those that each theorem names. -/
import Derived.Test.YtkcpiblgpnjanaaGreatDi
import Derived.Test.YtkcpiblgpnjanaaGreatMo
import Derived.Test.YtkcpiblgpnjanaaGreatDp
import Derived.Test.YtkcpiblgpnjanaaGreatDs
import Derived.Test.YtkcpiblgpnjanaaGreatWd
import Derived.Test.YtkcpiblgpnjanaaGreatWg
namespace Go.Proofs.YtkcpiblgpnjanaaGreat
open Go Go.Li Go.Dk
set_option linter.unusedVariables false
set_option maxHeartbeats 16000000
set_option maxRecDepth 100000
theorem c17 {x0:aV} {cB:Value} {cH:Value} {bT:Value} {bL:Value} {cC:Value} {cI:Value} {bU:Value} {bN:Value} {cR:Value} {cY:Value} {cD:Value} {cJ:Value} {bV:Value} {bP:Value} {cE:Value} {cK:Value} {bW:Value} {bQ:Value} {cS:Value} {cZ:Value} {dH:Value} {x1:aV} {fS:Value} {gK:Value} {eY:Value} {eN:Value} {fT:Value} {gL:Value} {eZ:Value} {eP:Value} {iE:Value} {jC:Value} {fU:Value} {gM:Value} {fA:Value} {eQ:Value} {fV:Value} {gN:Value} {fB:Value} {eR:Value} {iF:Value} {jD:Value} {kN:Value}:Ct Tryz.prog 17 true (mC x0 x1) [.agg #[.int .i64 (x0.aB.aB.aC),cB,cH,bT,bL,.int .i64 (x0.aB.aE.aC),cC,cI,bU,bN,cR,cY,.int .i64 (x0.aE.aB.aC),cD,cJ,bV,bP,.int .i64 (x0.aE.aE.aC),cE,cK,bW,bQ,cS,cZ,dH],.agg #[.int .i64 (x1.aB.aB.aC),fS,gK,eY,eN,.int .i64 (x1.aB.aE.aC),fT,gL,eZ,eP,iE,jC,.int .i64 (x1.aE.aB.aC),fU,gM,fA,eQ,.int .i64 (x1.aE.aE.aC),fV,gN,fB,eR,iF,jD,kN]] [.rd false (aD (aA .i64)) cB x0.aB.aB.aG,.rd false (aD (aA .i64)) cH x0.aB.aB.To,.rd false (aD (aA .i64)) bT x0.aB.aB.aJ,.rd false (aD (aD (aA .i64))) bL x0.aB.aB.aF,.rd false (aD (aA .i64)) cC x0.aB.aE.aG,.rd false (aD (aA .i64)) cI x0.aB.aE.To,.rd false (aD (aA .i64)) bU x0.aB.aE.aJ,.rd false (aD (aD (aA .i64))) bN x0.aB.aE.aF,.rd false (aD (aA .i64)) cR x0.aB.aC,.rd false (aD (aA .i64)) cY x0.aB.af,.rd false (aD (aA .i64)) cD x0.aE.aB.aG,.rd false (aD (aA .i64)) cJ x0.aE.aB.To,.rd false (aD (aA .i64)) bV x0.aE.aB.aJ,.rd false (aD (aD (aA .i64))) bP x0.aE.aB.aF,.rd false (aD (aA .i64)) cE x0.aE.aE.aG,.rd false (aD (aA .i64)) cK x0.aE.aE.To,.rd false (aD (aA .i64)) bW x0.aE.aE.aJ,.rd false (aD (aD (aA .i64))) bQ x0.aE.aE.aF,.rd false (aD (aA .i64)) cS x0.aE.aC,.rd false (aD (aA .i64)) cZ x0.aE.af,.rd false (aD (aA .i64)) dH x0.au,.rd false (aD (aA .i64)) fS x1.aB.aB.aG,.rd false (aD (aA .i64)) gK x1.aB.aB.To,.rd false (aD (aA .i64)) eY x1.aB.aB.aJ,.rd false (aD (aD (aA .i64))) eN x1.aB.aB.aF,.rd false (aD (aA .i64)) fT x1.aB.aE.aG,.rd false (aD (aA .i64)) gL x1.aB.aE.To,.rd false (aD (aA .i64)) eZ x1.aB.aE.aJ,.rd false (aD (aD (aA .i64))) eP x1.aB.aE.aF,.rd false (aD (aA .i64)) iE x1.aB.aC,.rd false (aD (aA .i64)) jC x1.aB.af,.rd false (aD (aA .i64)) fU x1.aE.aB.aG,.rd false (aD (aA .i64)) gM x1.aE.aB.To,.rd false (aD (aA .i64)) fA x1.aE.aB.aJ,.rd false (aD (aD (aA .i64))) eQ x1.aE.aB.aF,.rd false (aD (aA .i64)) fV x1.aE.aE.aG,.rd false (aD (aA .i64)) gN x1.aE.aE.To,.rd false (aD (aA .i64)) fB x1.aE.aE.aJ,.rd false (aD (aD (aA .i64))) eR x1.aE.aE.aF,.rd false (aD (aA .i64)) iF x1.aE.aC,.rd false (aD (aA .i64)) jD x1.aE.af,.rd false (aD (aA .i64)) kN x1.au] (fun y (_:Unit)=>[.bool y]) (fun y _=>[]):=by
 refine ct (S:=Unit) (cf fun _ _=>rfl) Tryz.func17 rfl rfl ?_
 repeat' first
  | ((first | show Dk.ER _ _ _ | show Dk.bd _ _ | show Dk.EF _ _ _ | show Dk.EO _ _ _ | show Dk.EP _ _ | show Dk.bb _ _ _ _ | show Dk.av _ _ _ _ | show Dk.Kp _ _ _ _ | show Dk.bp _ _ | show Dk.bg _ _ _ _); repeat' first | exact rfl | (refine @id.{0} _ ?_; constructor))
  | intro _
  | exact rfl
  | (refine @id.{0} _ ?_; constructor)
  | apply c24
  | apply G6
  | exact ()
end Go.Proofs.YtkcpiblgpnjanaaGreat
