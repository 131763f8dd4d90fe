/- Walks by the calculus D. No condition beside those that each theorem names. -/
import Derived.Test.YtkcpiblgpnjanaaGreatDi
import Derived.Test.YtkcpiblgpnjanaaGreatMo
import Derived.Test.YtkcpiblgpnjanaaGreatDp
import Derived.Test.YtkcpiblgpnjanaaGreatDs
import Derived.Test.YtkcpiblgpnjanaaGreatWb
import Derived.Test.YtkcpiblgpnjanaaGreatWc
import Derived.Test.YtkcpiblgpnjanaaGreatWe
import Derived.Test.YtkcpiblgpnjanaaGreatWg
import Derived.Test.YtkcpiblgpnjanaaGreatWh
import Derived.Test.YtkcpiblgpnjanaaGreatWi
import Derived.Test.YtkcpiblgpnjanaaGreatWj
import Derived.Test.YtkcpiblgpnjanaaGreatWk
namespace Go.Proofs.YtkcpiblgpnjanaaGreat
open Go Go.Li Go.Dk
set_option linter.unusedVariables false
set_option maxHeartbeats 16000000
set_option maxRecDepth 100000
theorem c38 {x0:aN} {dX:Nat} {dC:Value}:Ct Tryz.prog 38 false (mK x0) [.pointer (some (⟨dX,0,none⟩))] [.row dX [dC,.int .i64 (x0.At),.int .u64 (x0.ay)] 142,.rd false (aD (aA .u8)) dC x0.Code] (fun y (v:Value×Value×Value×Value×Value×Value×Value×Value×Value×Value×Value×Value×Value×Value×Value×Value×Value×Value×Value×Value)=>[.agg #[.int .i64 y.1.aB.aC,v.1,v.2.1,v.2.2.1,v.2.2.2.1,.int .i64 y.1.aE.aC,v.2.2.2.2.1,v.2.2.2.2.2.1,v.2.2.2.2.2.2.1,v.2.2.2.2.2.2.2.1,v.2.2.2.2.2.2.2.2.1,v.2.2.2.2.2.2.2.2.2.1],.agg #[.int .i64 y.2.1.aB.aC,v.2.2.2.2.2.2.2.2.2.2.1,v.2.2.2.2.2.2.2.2.2.2.2.1,v.2.2.2.2.2.2.2.2.2.2.2.2.1,v.2.2.2.2.2.2.2.2.2.2.2.2.2.1,.int .i64 y.2.1.aE.aC,v.2.2.2.2.2.2.2.2.2.2.2.2.2.2.1,v.2.2.2.2.2.2.2.2.2.2.2.2.2.2.2.1,v.2.2.2.2.2.2.2.2.2.2.2.2.2.2.2.2.1,v.2.2.2.2.2.2.2.2.2.2.2.2.2.2.2.2.2.1,v.2.2.2.2.2.2.2.2.2.2.2.2.2.2.2.2.2.2.1,v.2.2.2.2.2.2.2.2.2.2.2.2.2.2.2.2.2.2.2]]) (fun y v=>[.rd false (aD (aA .i64)) v.1 y.1.aB.aG,.rd false (aD (aA .i64)) v.2.1 y.1.aB.To,.rd false (aD (aA .i64)) v.2.2.1 y.1.aB.aJ,.rd false (aD (aD (aA .i64))) v.2.2.2.1 y.1.aB.aF,.rd false (aD (aA .i64)) v.2.2.2.2.1 y.1.aE.aG,.rd false (aD (aA .i64)) v.2.2.2.2.2.1 y.1.aE.To,.rd false (aD (aA .i64)) v.2.2.2.2.2.2.1 y.1.aE.aJ,.rd false (aD (aD (aA .i64))) v.2.2.2.2.2.2.2.1 y.1.aE.aF,.rd false (aD (aA .i64)) v.2.2.2.2.2.2.2.2.1 y.1.aC,.rd false (aD (aA .i64)) v.2.2.2.2.2.2.2.2.2.1 y.1.af,.rd false (aD (aA .i64)) v.2.2.2.2.2.2.2.2.2.2.1 y.2.1.aB.aG,.rd false (aD (aA .i64)) v.2.2.2.2.2.2.2.2.2.2.2.1 y.2.1.aB.To,.rd false (aD (aA .i64)) v.2.2.2.2.2.2.2.2.2.2.2.2.1 y.2.1.aB.aJ,.rd false (aD (aD (aA .i64))) v.2.2.2.2.2.2.2.2.2.2.2.2.2.1 y.2.1.aB.aF,.rd false (aD (aA .i64)) v.2.2.2.2.2.2.2.2.2.2.2.2.2.2.1 y.2.1.aE.aG,.rd false (aD (aA .i64)) v.2.2.2.2.2.2.2.2.2.2.2.2.2.2.2.1 y.2.1.aE.To,.rd false (aD (aA .i64)) v.2.2.2.2.2.2.2.2.2.2.2.2.2.2.2.2.1 y.2.1.aE.aJ,.rd false (aD (aD (aA .i64))) v.2.2.2.2.2.2.2.2.2.2.2.2.2.2.2.2.2.1 y.2.1.aE.aF,.rd false (aD (aA .i64)) v.2.2.2.2.2.2.2.2.2.2.2.2.2.2.2.2.2.2.1 y.2.1.aC,.rd false (aD (aA .i64)) v.2.2.2.2.2.2.2.2.2.2.2.2.2.2.2.2.2.2.2 y.2.1.af,.row dX [dC,.int .i64 y.2.2.At,.int .u64 y.2.2.ay] 142]):=by
 refine ct (S:=Unit) Dq Tryz.func38 rfl rfl ?_
 repeat' first
  | ((first | show Dk.ER _ _ _ | show Dk.bd _ _ | show Dk.EF _ _ _ | show Dk.EO _ _ _ | show Dk.EP _ _ | show Dk.bb _ _ _ _ | show Dk.av _ _ _ _ | show Dk.Kp _ _ _ _ | show Dk.bp _ _ | show Dk.bg _ _ _ _); repeat' first | exact rfl | (refine @id.{0} _ ?_; constructor))
  | (intro (v:Value×Value×Value×Value×Value×Value×Value×Value×Value×Value); obtain ⟨_,_,_,_,_,_,_,_,_,_⟩:=v; dsimp only)
  | intro _
  | exact rfl
  | apply Dk.AD.QZ (f:=92)
  | apply Dk.AD.L7 (f:=92)
  | apply Dk.AD.L8 (f:=92)
  | (refine Dk.tA (t:=15) rfl ?_ ?_)
  | apply Dk.UF (t:=59)
  | apply Dk.YD (t:=59)
  | apply Dk.Uz (n:=12)
  | apply Dk.Q9 (n:=12)
  | apply Dk.OZ (n:=12)
  | (refine @id.{0} _ ?_; constructor)
  | apply Dk.w9 (id:=4) [Dk.aw.row _ _ 142] 3 [] [[],[],[5]] [[],[],[1]] (by kernel_rfl)
  | apply Dk.anyS (id:=7) [0,1] [2,3] (by kernel_rfl)
  | apply Dk.anyS (id:=11) [0,1] [2,3] (by kernel_rfl)
  | apply Dk.XO (id:=10) [0,1,2,3,4] 5 [6,7] [8,9] 5 (r4 He) 142 (by kernel_rfl)
  | apply c92
  | apply Ed
  | apply Zv
  | apply Zk
  | apply Zu
  | exact ()
theorem c8 {x0:(List Int)} {dI:Value}:Ct Tryz.prog 8 false (fD x0) [dI] [.rd false (aD (aA .u8)) dI x0] (fun y (v:Value×Value×Value×Value×Value×Value×Value×Value×Value×Value×Value×Value×Value×Value×Value×Value×Value×Value×Value×Value)=>[.agg #[.int .i64 y.1.aB.aC,v.1,v.2.1,v.2.2.1,v.2.2.2.1,.int .i64 y.1.aE.aC,v.2.2.2.2.1,v.2.2.2.2.2.1,v.2.2.2.2.2.2.1,v.2.2.2.2.2.2.2.1,v.2.2.2.2.2.2.2.2.1,v.2.2.2.2.2.2.2.2.2.1],.agg #[.int .i64 y.2.aB.aC,v.2.2.2.2.2.2.2.2.2.2.1,v.2.2.2.2.2.2.2.2.2.2.2.1,v.2.2.2.2.2.2.2.2.2.2.2.2.1,v.2.2.2.2.2.2.2.2.2.2.2.2.2.1,.int .i64 y.2.aE.aC,v.2.2.2.2.2.2.2.2.2.2.2.2.2.2.1,v.2.2.2.2.2.2.2.2.2.2.2.2.2.2.2.1,v.2.2.2.2.2.2.2.2.2.2.2.2.2.2.2.2.1,v.2.2.2.2.2.2.2.2.2.2.2.2.2.2.2.2.2.1,v.2.2.2.2.2.2.2.2.2.2.2.2.2.2.2.2.2.2.1,v.2.2.2.2.2.2.2.2.2.2.2.2.2.2.2.2.2.2.2]]) (fun y v=>[.rd false (aD (aA .i64)) v.1 y.1.aB.aG,.rd false (aD (aA .i64)) v.2.1 y.1.aB.To,.rd false (aD (aA .i64)) v.2.2.1 y.1.aB.aJ,.rd false (aD (aD (aA .i64))) v.2.2.2.1 y.1.aB.aF,.rd false (aD (aA .i64)) v.2.2.2.2.1 y.1.aE.aG,.rd false (aD (aA .i64)) v.2.2.2.2.2.1 y.1.aE.To,.rd false (aD (aA .i64)) v.2.2.2.2.2.2.1 y.1.aE.aJ,.rd false (aD (aD (aA .i64))) v.2.2.2.2.2.2.2.1 y.1.aE.aF,.rd false (aD (aA .i64)) v.2.2.2.2.2.2.2.2.1 y.1.aC,.rd false (aD (aA .i64)) v.2.2.2.2.2.2.2.2.2.1 y.1.af,.rd false (aD (aA .i64)) v.2.2.2.2.2.2.2.2.2.2.1 y.2.aB.aG,.rd false (aD (aA .i64)) v.2.2.2.2.2.2.2.2.2.2.2.1 y.2.aB.To,.rd false (aD (aA .i64)) v.2.2.2.2.2.2.2.2.2.2.2.2.1 y.2.aB.aJ,.rd false (aD (aD (aA .i64))) v.2.2.2.2.2.2.2.2.2.2.2.2.2.1 y.2.aB.aF,.rd false (aD (aA .i64)) v.2.2.2.2.2.2.2.2.2.2.2.2.2.2.1 y.2.aE.aG,.rd false (aD (aA .i64)) v.2.2.2.2.2.2.2.2.2.2.2.2.2.2.2.1 y.2.aE.To,.rd false (aD (aA .i64)) v.2.2.2.2.2.2.2.2.2.2.2.2.2.2.2.2.1 y.2.aE.aJ,.rd false (aD (aD (aA .i64))) v.2.2.2.2.2.2.2.2.2.2.2.2.2.2.2.2.2.1 y.2.aE.aF,.rd false (aD (aA .i64)) v.2.2.2.2.2.2.2.2.2.2.2.2.2.2.2.2.2.2.1 y.2.aC,.rd false (aD (aA .i64)) v.2.2.2.2.2.2.2.2.2.2.2.2.2.2.2.2.2.2.2 y.2.af]):=by
 refine ct (S:=Unit) Dq Tryz.func8 rfl rfl ?_
 repeat' first
  | ((first | show Dk.ER _ _ _ | show Dk.bd _ _ | show Dk.EF _ _ _ | show Dk.EO _ _ _ | show Dk.EP _ _ | show Dk.bb _ _ _ _ | show Dk.av _ _ _ _ | show Dk.Kp _ _ _ _ | show Dk.bp _ _ | show Dk.bg _ _ _ _); repeat' first | exact rfl | (refine @id.{0} _ ?_; constructor))
  | intro _
  | exact rfl
  | (refine @id.{0} _ ?_; constructor)
  | apply Dk.anyS (id:=2) [0,1] [2,3] (by kernel_rfl)
  | apply c39
  | apply c38
  | exact ()
theorem c13 {x0:aV} {cB:Value} {cH:Value} {bT:Value} {bL:Value} {cC:Value} {cI:Value} {bU:Value} {bN:Value} {cR:Value} {cY:Value} {cD:Value} {cJ:Value} {bV:Value} {bP:Value} {cE:Value} {cK:Value} {bW:Value} {bQ:Value} {cS:Value} {cZ:Value} {dH:Value}:Ct Tryz.prog 13 true (gO x0) [.agg #[.int .i64 (x0.aB.aB.aC),cB,cH,bT,bL,.int .i64 (x0.aB.aE.aC),cC,cI,bU,bN,cR,cY,.int .i64 (x0.aE.aB.aC),cD,cJ,bV,bP,.int .i64 (x0.aE.aE.aC),cE,cK,bW,bQ,cS,cZ,dH]] [.rd false (aD (aA .i64)) cB x0.aB.aB.aG,.rd false (aD (aA .i64)) cH x0.aB.aB.To,.rd false (aD (aA .i64)) bT x0.aB.aB.aJ,.rd false (aD (aD (aA .i64))) bL x0.aB.aB.aF,.rd false (aD (aA .i64)) cC x0.aB.aE.aG,.rd false (aD (aA .i64)) cI x0.aB.aE.To,.rd false (aD (aA .i64)) bU x0.aB.aE.aJ,.rd false (aD (aD (aA .i64))) bN x0.aB.aE.aF,.rd false (aD (aA .i64)) cR x0.aB.aC,.rd false (aD (aA .i64)) cY x0.aB.af,.rd false (aD (aA .i64)) cD x0.aE.aB.aG,.rd false (aD (aA .i64)) cJ x0.aE.aB.To,.rd false (aD (aA .i64)) bV x0.aE.aB.aJ,.rd false (aD (aD (aA .i64))) bP x0.aE.aB.aF,.rd false (aD (aA .i64)) cE x0.aE.aE.aG,.rd false (aD (aA .i64)) cK x0.aE.aE.To,.rd false (aD (aA .i64)) bW x0.aE.aE.aJ,.rd false (aD (aD (aA .i64))) bQ x0.aE.aE.aF,.rd false (aD (aA .i64)) cS x0.aE.aC,.rd false (aD (aA .i64)) cZ x0.aE.af,.rd false (aD (aA .i64)) dH x0.au] (fun y (_:Unit)=>[.bool y.1,.int .i64 y.2]) (fun y _=>[]):=by
 refine ct (S:=Unit) (cf fun _ _=>rfl) Tryz.func13 rfl rfl ?_
 repeat' first
  | ((first | show Dk.ER _ _ _ | show Dk.bd _ _ | show Dk.EF _ _ _ | show Dk.EO _ _ _ | show Dk.EP _ _ | show Dk.bb _ _ _ _ | show Dk.av _ _ _ _ | show Dk.Kp _ _ _ _ | show Dk.bp _ _ | show Dk.bg _ _ _ _); repeat' first | exact rfl | (refine @id.{0} _ ?_; constructor))
  | intro _
  | exact rfl
  | (refine @id.{0} _ ?_; constructor)
  | apply W1
  | apply Zo
  | exact ()
theorem c14 {x0:aV} {cB:Value} {cH:Value} {bT:Value} {bL:Value} {cC:Value} {cI:Value} {bU:Value} {bN:Value} {cR:Value} {cY:Value} {cD:Value} {cJ:Value} {bV:Value} {bP:Value} {cE:Value} {cK:Value} {bW:Value} {bQ:Value} {cS:Value} {cZ:Value} {dH:Value}:Ct Tryz.prog 14 true (gH x0) [.agg #[.int .i64 (x0.aB.aB.aC),cB,cH,bT,bL,.int .i64 (x0.aB.aE.aC),cC,cI,bU,bN,cR,cY,.int .i64 (x0.aE.aB.aC),cD,cJ,bV,bP,.int .i64 (x0.aE.aE.aC),cE,cK,bW,bQ,cS,cZ,dH]] [.rd false (aD (aA .i64)) cB x0.aB.aB.aG,.rd false (aD (aA .i64)) cH x0.aB.aB.To,.rd false (aD (aA .i64)) bT x0.aB.aB.aJ,.rd false (aD (aD (aA .i64))) bL x0.aB.aB.aF,.rd false (aD (aA .i64)) cC x0.aB.aE.aG,.rd false (aD (aA .i64)) cI x0.aB.aE.To,.rd false (aD (aA .i64)) bU x0.aB.aE.aJ,.rd false (aD (aD (aA .i64))) bN x0.aB.aE.aF,.rd false (aD (aA .i64)) cR x0.aB.aC,.rd false (aD (aA .i64)) cY x0.aB.af,.rd false (aD (aA .i64)) cD x0.aE.aB.aG,.rd false (aD (aA .i64)) cJ x0.aE.aB.To,.rd false (aD (aA .i64)) bV x0.aE.aB.aJ,.rd false (aD (aD (aA .i64))) bP x0.aE.aB.aF,.rd false (aD (aA .i64)) cE x0.aE.aE.aG,.rd false (aD (aA .i64)) cK x0.aE.aE.To,.rd false (aD (aA .i64)) bW x0.aE.aE.aJ,.rd false (aD (aD (aA .i64))) bQ x0.aE.aE.aF,.rd false (aD (aA .i64)) cS x0.aE.aC,.rd false (aD (aA .i64)) cZ x0.aE.af,.rd false (aD (aA .i64)) dH x0.au] (fun y (v:Value×Value×Value×Value×Value×Value×Value×Value×Value×Value×Value×Value×Value×Value×Value×Value×Value×Value×Value×Value×Value)=>[.agg #[.int .i64 y.1.aB.aB.aC,v.1,v.2.1,v.2.2.1,v.2.2.2.1,.int .i64 y.1.aB.aE.aC,v.2.2.2.2.1,v.2.2.2.2.2.1,v.2.2.2.2.2.2.1,v.2.2.2.2.2.2.2.1,v.2.2.2.2.2.2.2.2.1,v.2.2.2.2.2.2.2.2.2.1,.int .i64 y.1.aE.aB.aC,v.2.2.2.2.2.2.2.2.2.2.1,v.2.2.2.2.2.2.2.2.2.2.2.1,v.2.2.2.2.2.2.2.2.2.2.2.2.1,v.2.2.2.2.2.2.2.2.2.2.2.2.2.1,.int .i64 y.1.aE.aE.aC,v.2.2.2.2.2.2.2.2.2.2.2.2.2.2.1,v.2.2.2.2.2.2.2.2.2.2.2.2.2.2.2.1,v.2.2.2.2.2.2.2.2.2.2.2.2.2.2.2.2.1,v.2.2.2.2.2.2.2.2.2.2.2.2.2.2.2.2.2.1,v.2.2.2.2.2.2.2.2.2.2.2.2.2.2.2.2.2.2.1,v.2.2.2.2.2.2.2.2.2.2.2.2.2.2.2.2.2.2.2.1,v.2.2.2.2.2.2.2.2.2.2.2.2.2.2.2.2.2.2.2.2],.int .i64 y.2]) (fun y v=>[.own (aK 2 (aA .i64)) v.1 y.1.aB.aB.aG,.own (aK 2 (aA .i64)) v.2.1 y.1.aB.aB.To,.own (aK 2 (aA .i64)) v.2.2.1 y.1.aB.aB.aJ,.own (aK 24 (aK 2 (aA .i64))) v.2.2.2.1 y.1.aB.aB.aF,.own (aK 2 (aA .i64)) v.2.2.2.2.1 y.1.aB.aE.aG,.own (aK 2 (aA .i64)) v.2.2.2.2.2.1 y.1.aB.aE.To,.own (aK 2 (aA .i64)) v.2.2.2.2.2.2.1 y.1.aB.aE.aJ,.own (aK 24 (aK 2 (aA .i64))) v.2.2.2.2.2.2.2.1 y.1.aB.aE.aF,.own (aK 2 (aA .i64)) v.2.2.2.2.2.2.2.2.1 y.1.aB.aC,.own (aK 2 (aA .i64)) v.2.2.2.2.2.2.2.2.2.1 y.1.aB.af,.own (aK 2 (aA .i64)) v.2.2.2.2.2.2.2.2.2.2.1 y.1.aE.aB.aG,.own (aK 2 (aA .i64)) v.2.2.2.2.2.2.2.2.2.2.2.1 y.1.aE.aB.To,.own (aK 2 (aA .i64)) v.2.2.2.2.2.2.2.2.2.2.2.2.1 y.1.aE.aB.aJ,.own (aK 24 (aK 2 (aA .i64))) v.2.2.2.2.2.2.2.2.2.2.2.2.2.1 y.1.aE.aB.aF,.own (aK 2 (aA .i64)) v.2.2.2.2.2.2.2.2.2.2.2.2.2.2.1 y.1.aE.aE.aG,.own (aK 2 (aA .i64)) v.2.2.2.2.2.2.2.2.2.2.2.2.2.2.2.1 y.1.aE.aE.To,.own (aK 2 (aA .i64)) v.2.2.2.2.2.2.2.2.2.2.2.2.2.2.2.2.1 y.1.aE.aE.aJ,.own (aK 24 (aK 2 (aA .i64))) v.2.2.2.2.2.2.2.2.2.2.2.2.2.2.2.2.2.1 y.1.aE.aE.aF,.own (aK 2 (aA .i64)) v.2.2.2.2.2.2.2.2.2.2.2.2.2.2.2.2.2.2.1 y.1.aE.aC,.own (aK 2 (aA .i64)) v.2.2.2.2.2.2.2.2.2.2.2.2.2.2.2.2.2.2.2.1 y.1.aE.af,.own (aK 2 (aA .i64)) v.2.2.2.2.2.2.2.2.2.2.2.2.2.2.2.2.2.2.2.2 y.1.au]):=by
 refine ct (S:=Unit) (cf fun _ _=>rfl) Tryz.func14 rfl rfl ?_
 repeat' first
  | ((first | show Dk.ER _ _ _ | show Dk.bd _ _ | show Dk.EF _ _ _ | show Dk.EO _ _ _ | show Dk.EP _ _ | show Dk.bb _ _ _ _ | show Dk.av _ _ _ _ | show Dk.Kp _ _ _ _ | show Dk.bp _ _ | show Dk.bg _ _ _ _); repeat' first | exact rfl | (refine @id.{0} _ ?_; constructor))
  | intro _
  | exact rfl
  | (refine @id.{0} _ ?_; constructor)
  | apply Dk.jq 0 (V:=Unit) (A:=Value) _ (fun a (s:Int×(List Int)) v=>[.own (aK 2 (aA .i64)) a s.2]) (fun a s v=>[(4,a),(20,.int .i64 (s.1))]) () [(1,_),(2,_),(18,_),(19,_)]
  | apply W1
  | apply Zo
  | apply WS
  | apply W2
  | exact ()
theorem c49 {x0:(List aV)} {dI:Value}:Ct Tryz.prog 49 true (mB x0) [dI] [.rd false (aD (wb O6)) dI x0] (fun y (_:Unit)=>[.bool y]) (fun y _=>[]):=by
 refine ct (S:=Unit) (cf fun _ _=>rfl) Tryz.func49 rfl rfl ?_
 repeat' first
  | ((first | show Dk.ER _ _ _ | show Dk.bd _ _ | show Dk.EF _ _ _ | show Dk.EO _ _ _ | show Dk.EP _ _ | show Dk.bb _ _ _ _ | show Dk.av _ _ _ _ | show Dk.Kp _ _ _ _ | show Dk.bp _ _ | show Dk.bg _ _ _ _); repeat' first | exact rfl | (refine @id.{0} _ ?_; constructor))
  | intro _
  | exact rfl
  | (refine @id.{0} _ ?_; constructor)
  | apply Dk.loop 0 (V:=Unit) (fun (s:Int) v=>[]) (fun s v=>[(7,.int .i64 (s))]) () [(5,_),(6,_)]
  | apply W1
  | exact ()
theorem c15 {x0:aV} {cB:Value} {cH:Value} {bT:Value} {bL:Value} {cC:Value} {cI:Value} {bU:Value} {bN:Value} {cR:Value} {cY:Value} {cD:Value} {cJ:Value} {bV:Value} {bP:Value} {cE:Value} {cK:Value} {bW:Value} {bQ:Value} {cS:Value} {cZ:Value} {dH:Value} {x1:aV} {fS:Value} {gK:Value} {eY:Value} {eN:Value} {fT:Value} {gL:Value} {eZ:Value} {eP:Value} {iE:Value} {jC:Value} {fU:Value} {gM:Value} {fA:Value} {eQ:Value} {fV:Value} {gN:Value} {fB:Value} {eR:Value} {iF:Value} {jD:Value} {kN:Value}:Ct Tryz.prog 15 true (hJ x0 x1) [.agg #[.int .i64 (x0.aB.aB.aC),cB,cH,bT,bL,.int .i64 (x0.aB.aE.aC),cC,cI,bU,bN,cR,cY,.int .i64 (x0.aE.aB.aC),cD,cJ,bV,bP,.int .i64 (x0.aE.aE.aC),cE,cK,bW,bQ,cS,cZ,dH],.agg #[.int .i64 (x1.aB.aB.aC),fS,gK,eY,eN,.int .i64 (x1.aB.aE.aC),fT,gL,eZ,eP,iE,jC,.int .i64 (x1.aE.aB.aC),fU,gM,fA,eQ,.int .i64 (x1.aE.aE.aC),fV,gN,fB,eR,iF,jD,kN]] [.rd false (aD (aA .i64)) cB x0.aB.aB.aG,.rd false (aD (aA .i64)) cH x0.aB.aB.To,.rd false (aD (aA .i64)) bT x0.aB.aB.aJ,.rd false (aD (aD (aA .i64))) bL x0.aB.aB.aF,.rd false (aD (aA .i64)) cC x0.aB.aE.aG,.rd false (aD (aA .i64)) cI x0.aB.aE.To,.rd false (aD (aA .i64)) bU x0.aB.aE.aJ,.rd false (aD (aD (aA .i64))) bN x0.aB.aE.aF,.rd false (aD (aA .i64)) cR x0.aB.aC,.rd false (aD (aA .i64)) cY x0.aB.af,.rd false (aD (aA .i64)) cD x0.aE.aB.aG,.rd false (aD (aA .i64)) cJ x0.aE.aB.To,.rd false (aD (aA .i64)) bV x0.aE.aB.aJ,.rd false (aD (aD (aA .i64))) bP x0.aE.aB.aF,.rd false (aD (aA .i64)) cE x0.aE.aE.aG,.rd false (aD (aA .i64)) cK x0.aE.aE.To,.rd false (aD (aA .i64)) bW x0.aE.aE.aJ,.rd false (aD (aD (aA .i64))) bQ x0.aE.aE.aF,.rd false (aD (aA .i64)) cS x0.aE.aC,.rd false (aD (aA .i64)) cZ x0.aE.af,.rd false (aD (aA .i64)) dH x0.au,.rd false (aD (aA .i64)) fS x1.aB.aB.aG,.rd false (aD (aA .i64)) gK x1.aB.aB.To,.rd false (aD (aA .i64)) eY x1.aB.aB.aJ,.rd false (aD (aD (aA .i64))) eN x1.aB.aB.aF,.rd false (aD (aA .i64)) fT x1.aB.aE.aG,.rd false (aD (aA .i64)) gL x1.aB.aE.To,.rd false (aD (aA .i64)) eZ x1.aB.aE.aJ,.rd false (aD (aD (aA .i64))) eP x1.aB.aE.aF,.rd false (aD (aA .i64)) iE x1.aB.aC,.rd false (aD (aA .i64)) jC x1.aB.af,.rd false (aD (aA .i64)) fU x1.aE.aB.aG,.rd false (aD (aA .i64)) gM x1.aE.aB.To,.rd false (aD (aA .i64)) fA x1.aE.aB.aJ,.rd false (aD (aD (aA .i64))) eQ x1.aE.aB.aF,.rd false (aD (aA .i64)) fV x1.aE.aE.aG,.rd false (aD (aA .i64)) gN x1.aE.aE.To,.rd false (aD (aA .i64)) fB x1.aE.aE.aJ,.rd false (aD (aD (aA .i64))) eR x1.aE.aE.aF,.rd false (aD (aA .i64)) iF x1.aE.aC,.rd false (aD (aA .i64)) jD x1.aE.af,.rd false (aD (aA .i64)) kN x1.au] (fun y (v:Value×Value×Value×Value×Value×Value×Value×Value×Value×Value×Value×Value×Value×Value×Value×Value×Value×Value×Value×Value×Value)=>[.agg #[.int .i64 y.1.aB.aB.aC,v.1,v.2.1,v.2.2.1,v.2.2.2.1,.int .i64 y.1.aB.aE.aC,v.2.2.2.2.1,v.2.2.2.2.2.1,v.2.2.2.2.2.2.1,v.2.2.2.2.2.2.2.1,v.2.2.2.2.2.2.2.2.1,v.2.2.2.2.2.2.2.2.2.1,.int .i64 y.1.aE.aB.aC,v.2.2.2.2.2.2.2.2.2.2.1,v.2.2.2.2.2.2.2.2.2.2.2.1,v.2.2.2.2.2.2.2.2.2.2.2.2.1,v.2.2.2.2.2.2.2.2.2.2.2.2.2.1,.int .i64 y.1.aE.aE.aC,v.2.2.2.2.2.2.2.2.2.2.2.2.2.2.1,v.2.2.2.2.2.2.2.2.2.2.2.2.2.2.2.1,v.2.2.2.2.2.2.2.2.2.2.2.2.2.2.2.2.1,v.2.2.2.2.2.2.2.2.2.2.2.2.2.2.2.2.2.1,v.2.2.2.2.2.2.2.2.2.2.2.2.2.2.2.2.2.2.1,v.2.2.2.2.2.2.2.2.2.2.2.2.2.2.2.2.2.2.2.1,v.2.2.2.2.2.2.2.2.2.2.2.2.2.2.2.2.2.2.2.2],.int .i64 y.2]) (fun y v=>[.own (aK 2 (aA .i64)) v.1 y.1.aB.aB.aG,.own (aK 2 (aA .i64)) v.2.1 y.1.aB.aB.To,.own (aK 2 (aA .i64)) v.2.2.1 y.1.aB.aB.aJ,.own (aK 24 (aK 2 (aA .i64))) v.2.2.2.1 y.1.aB.aB.aF,.own (aK 2 (aA .i64)) v.2.2.2.2.1 y.1.aB.aE.aG,.own (aK 2 (aA .i64)) v.2.2.2.2.2.1 y.1.aB.aE.To,.own (aK 2 (aA .i64)) v.2.2.2.2.2.2.1 y.1.aB.aE.aJ,.own (aK 24 (aK 2 (aA .i64))) v.2.2.2.2.2.2.2.1 y.1.aB.aE.aF,.own (aK 2 (aA .i64)) v.2.2.2.2.2.2.2.2.1 y.1.aB.aC,.own (aK 2 (aA .i64)) v.2.2.2.2.2.2.2.2.2.1 y.1.aB.af,.own (aK 2 (aA .i64)) v.2.2.2.2.2.2.2.2.2.2.1 y.1.aE.aB.aG,.own (aK 2 (aA .i64)) v.2.2.2.2.2.2.2.2.2.2.2.1 y.1.aE.aB.To,.own (aK 2 (aA .i64)) v.2.2.2.2.2.2.2.2.2.2.2.2.1 y.1.aE.aB.aJ,.own (aK 24 (aK 2 (aA .i64))) v.2.2.2.2.2.2.2.2.2.2.2.2.2.1 y.1.aE.aB.aF,.own (aK 2 (aA .i64)) v.2.2.2.2.2.2.2.2.2.2.2.2.2.2.1 y.1.aE.aE.aG,.own (aK 2 (aA .i64)) v.2.2.2.2.2.2.2.2.2.2.2.2.2.2.2.1 y.1.aE.aE.To,.own (aK 2 (aA .i64)) v.2.2.2.2.2.2.2.2.2.2.2.2.2.2.2.2.1 y.1.aE.aE.aJ,.own (aK 24 (aK 2 (aA .i64))) v.2.2.2.2.2.2.2.2.2.2.2.2.2.2.2.2.2.1 y.1.aE.aE.aF,.own (aK 2 (aA .i64)) v.2.2.2.2.2.2.2.2.2.2.2.2.2.2.2.2.2.2.1 y.1.aE.aC,.own (aK 2 (aA .i64)) v.2.2.2.2.2.2.2.2.2.2.2.2.2.2.2.2.2.2.2.1 y.1.aE.af,.own (aK 2 (aA .i64)) v.2.2.2.2.2.2.2.2.2.2.2.2.2.2.2.2.2.2.2.2 y.1.au]):=by
 refine ct (S:=Unit) (cf fun _ _=>rfl) Tryz.func15 rfl rfl ?_
 repeat' first
  | ((first | show Dk.ER _ _ _ | show Dk.bd _ _ | show Dk.EF _ _ _ | show Dk.EO _ _ _ | show Dk.EP _ _ | show Dk.bb _ _ _ _ | show Dk.av _ _ _ _ | show Dk.Kp _ _ _ _ | show Dk.bp _ _ | show Dk.bg _ _ _ _); repeat' first | exact rfl | (refine @id.{0} _ ?_; constructor))
  | intro _
  | exact rfl
  | (refine @id.{0} _ ?_; constructor)
  | apply c49
  | apply c50
  | apply c51
  | apply W2
  | exact ()
end Go.Proofs.YtkcpiblgpnjanaaGreat
