/- Walks by the calculus D. No condition beside those that each theorem names. -/
import Derived.Test.YtkcpiblgpnjanaaGreatDi
import Derived.Test.YtkcpiblgpnjanaaGreatMo
import Derived.Test.YtkcpiblgpnjanaaGreatDp
import Derived.Test.YtkcpiblgpnjanaaGreatDs
import Derived.Test.YtkcpiblgpnjanaaGreatWc
import Derived.Test.YtkcpiblgpnjanaaGreatWf
import Derived.Test.YtkcpiblgpnjanaaGreatWg
import Derived.Test.YtkcpiblgpnjanaaGreatWi
import Derived.Test.YtkcpiblgpnjanaaGreatWk
namespace Go.Proofs.YtkcpiblgpnjanaaGreat
open Go Go.Li Go.Dk
set_option linter.unusedVariables false
set_option maxHeartbeats 16000000
set_option maxRecDepth 100000
theorem c92 {x0:aL} {dV:Nat} {cW:Value}:Ct Tryz.prog 92 false (lX x0) [.pointer (some (⟨dV,0,none⟩))] [.row dV [cW,.int .i64 (x0.At),.int .u64 (x0.av)] 142,.rd false (aD (aB .u8)) cW x0.Code] (fun y (v:Value×Value×Value×Value×Value×Value×Value×Value×Value×Value)=>[.agg #[.int .i64 y.1.aA.aE,v.1,v.2.1,v.2.2.1,v.2.2.2.1,.int .i64 y.1.aC.aE,v.2.2.2.2.1,v.2.2.2.2.2.1,v.2.2.2.2.2.2.1,v.2.2.2.2.2.2.2.1,v.2.2.2.2.2.2.2.2.1,v.2.2.2.2.2.2.2.2.2]]) (fun y v=>[.rd false (aD (aB .i64)) v.1 y.1.aA.aG,.rd false (aD (aB .i64)) v.2.1 y.1.aA.To,.rd false (aD (aB .i64)) v.2.2.1 y.1.aA.aJ,.rd false (aD (aD (aB .i64))) v.2.2.2.1 y.1.aA.aF,.rd false (aD (aB .i64)) v.2.2.2.2.1 y.1.aC.aG,.rd false (aD (aB .i64)) v.2.2.2.2.2.1 y.1.aC.To,.rd false (aD (aB .i64)) v.2.2.2.2.2.2.1 y.1.aC.aJ,.rd false (aD (aD (aB .i64))) v.2.2.2.2.2.2.2.1 y.1.aC.aF,.rd false (aD (aB .i64)) v.2.2.2.2.2.2.2.2.1 y.1.aE,.rd false (aD (aB .i64)) v.2.2.2.2.2.2.2.2.2 y.1.ae,.row dV [cW,.int .i64 y.2.At,.int .u64 y.2.av] 142]):=by
 refine ct (S:=Unit) Cq Tryz.func92 rfl rfl ?_
 repeat' first
  | ((first | show Dk.ER _ _ _ | show Dk.bb _ _ | show Dk.EF _ _ _ | show Dk.EO _ _ _ | show Dk.EP _ _ | show Dk.ba _ _ _ _ | show Dk.aw _ _ _ _ | show Dk.Kp _ _ _ _ | show Dk.bp _ _ | show Dk.bc _ _ _ _); repeat' first | exact rfl | (refine @id.{0} _ ?_; constructor))
  | (intro (v:Value×Value×Value×Value×Value×Value×Value×Value×Value×Value); obtain ⟨_,_,_,_,_,_,_,_,_,_⟩:=v; dsimp only)
  | intro _
  | exact rfl
  | (refine @id.{0} _ ?_; constructor)
  | apply Dk.um (id:=8) [Dk.ay.row _ _ 142] 12 [] [[],[],[],[],[14],[],[],[],[],[],[],[4]] [[],[0],[],[],[2,3],[],[],[6],[7,6],[8,7,6],[9,8,7,6],[5,10,9,8,7,6,4,2,3]] (by kernel_rfl)
  | apply W0
  | apply adA
  | apply AM
  | apply adl
  | exact ()
theorem c38 {x0:aL} {dV:Nat} {cW:Value}:Ct Tryz.prog 38 false (oJ x0) [.pointer (some (⟨dV,0,none⟩))] [.row dV [cW,.int .i64 (x0.At),.int .u64 (x0.av)] 142,.rd false (aD (aB .u8)) cW x0.Code] (fun y (v:Value×Value×Value×Value×Value×Value×Value×Value×Value×Value×Value×Value×Value×Value×Value×Value×Value×Value×Value×Value)=>[.agg #[.int .i64 y.1.aA.aE,v.1,v.2.1,v.2.2.1,v.2.2.2.1,.int .i64 y.1.aC.aE,v.2.2.2.2.1,v.2.2.2.2.2.1,v.2.2.2.2.2.2.1,v.2.2.2.2.2.2.2.1,v.2.2.2.2.2.2.2.2.1,v.2.2.2.2.2.2.2.2.2.1],.agg #[.int .i64 y.2.1.aA.aE,v.2.2.2.2.2.2.2.2.2.2.1,v.2.2.2.2.2.2.2.2.2.2.2.1,v.2.2.2.2.2.2.2.2.2.2.2.2.1,v.2.2.2.2.2.2.2.2.2.2.2.2.2.1,.int .i64 y.2.1.aC.aE,v.2.2.2.2.2.2.2.2.2.2.2.2.2.2.1,v.2.2.2.2.2.2.2.2.2.2.2.2.2.2.2.1,v.2.2.2.2.2.2.2.2.2.2.2.2.2.2.2.2.1,v.2.2.2.2.2.2.2.2.2.2.2.2.2.2.2.2.2.1,v.2.2.2.2.2.2.2.2.2.2.2.2.2.2.2.2.2.2.1,v.2.2.2.2.2.2.2.2.2.2.2.2.2.2.2.2.2.2.2]]) (fun y v=>[.rd false (aD (aB .i64)) v.1 y.1.aA.aG,.rd false (aD (aB .i64)) v.2.1 y.1.aA.To,.rd false (aD (aB .i64)) v.2.2.1 y.1.aA.aJ,.rd false (aD (aD (aB .i64))) v.2.2.2.1 y.1.aA.aF,.rd false (aD (aB .i64)) v.2.2.2.2.1 y.1.aC.aG,.rd false (aD (aB .i64)) v.2.2.2.2.2.1 y.1.aC.To,.rd false (aD (aB .i64)) v.2.2.2.2.2.2.1 y.1.aC.aJ,.rd false (aD (aD (aB .i64))) v.2.2.2.2.2.2.2.1 y.1.aC.aF,.rd false (aD (aB .i64)) v.2.2.2.2.2.2.2.2.1 y.1.aE,.rd false (aD (aB .i64)) v.2.2.2.2.2.2.2.2.2.1 y.1.ae,.rd false (aD (aB .i64)) v.2.2.2.2.2.2.2.2.2.2.1 y.2.1.aA.aG,.rd false (aD (aB .i64)) v.2.2.2.2.2.2.2.2.2.2.2.1 y.2.1.aA.To,.rd false (aD (aB .i64)) v.2.2.2.2.2.2.2.2.2.2.2.2.1 y.2.1.aA.aJ,.rd false (aD (aD (aB .i64))) v.2.2.2.2.2.2.2.2.2.2.2.2.2.1 y.2.1.aA.aF,.rd false (aD (aB .i64)) v.2.2.2.2.2.2.2.2.2.2.2.2.2.2.1 y.2.1.aC.aG,.rd false (aD (aB .i64)) v.2.2.2.2.2.2.2.2.2.2.2.2.2.2.2.1 y.2.1.aC.To,.rd false (aD (aB .i64)) v.2.2.2.2.2.2.2.2.2.2.2.2.2.2.2.2.1 y.2.1.aC.aJ,.rd false (aD (aD (aB .i64))) v.2.2.2.2.2.2.2.2.2.2.2.2.2.2.2.2.2.1 y.2.1.aC.aF,.rd false (aD (aB .i64)) v.2.2.2.2.2.2.2.2.2.2.2.2.2.2.2.2.2.2.1 y.2.1.aE,.rd false (aD (aB .i64)) v.2.2.2.2.2.2.2.2.2.2.2.2.2.2.2.2.2.2.2 y.2.1.ae,.row dV [cW,.int .i64 y.2.2.At,.int .u64 y.2.2.av] 142]):=by
 refine ct (S:=Unit) Cq Tryz.func38 rfl rfl ?_
 repeat' first
  | ((first | show Dk.ER _ _ _ | show Dk.bb _ _ | show Dk.EF _ _ _ | show Dk.EO _ _ _ | show Dk.EP _ _ | show Dk.ba _ _ _ _ | show Dk.aw _ _ _ _ | show Dk.Kp _ _ _ _ | show Dk.bp _ _ | show Dk.bc _ _ _ _); repeat' first | exact rfl | (refine @id.{0} _ ?_; constructor))
  | (intro (v:Value×Value×Value×Value×Value×Value×Value×Value×Value×Value); obtain ⟨_,_,_,_,_,_,_,_,_,_⟩:=v; dsimp only)
  | intro _
  | exact rfl
  | apply Dk.AD.Kk (f:=92)
  | apply Dk.AD.GI (f:=92)
  | apply Dk.AD.GJ (f:=92)
  | (refine Dk.s9 (t:=15) rfl ?_ ?_)
  | apply Dk.Rx (t:=59)
  | apply Dk.UT (t:=59)
  | apply Dk.Ru (n:=12)
  | apply Dk.MP (n:=12)
  | apply Dk.KD (n:=12)
  | (refine @id.{0} _ ?_; constructor)
  | apply Dk.um (id:=4) [Dk.ay.row _ _ 142] 3 [] [[],[],[5]] [[],[],[1]] (by kernel_rfl)
  | apply Dk.anyS (id:=7) [0,1] [2,3] (by kernel_rfl)
  | apply Dk.anyS (id:=11) [0,1] [2,3] (by kernel_rfl)
  | apply Dk.XM (id:=10) [0,1,2,3,4] 5 [6,7] [8,9] 5 (rP Hq) 142 (by kernel_rfl)
  | apply c92
  | apply AM
  | apply WY
  | apply WV
  | apply W3
  | exact ()
end Go.Proofs.YtkcpiblgpnjanaaGreat
