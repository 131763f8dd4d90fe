/- Walks by the calculus D. No condition beside those that each theorem names. -/
import Derived.Test.YtkcpiblgpnjanaaGreatDi
import Derived.Test.YtkcpiblgpnjanaaGreatMo
import Derived.Test.YtkcpiblgpnjanaaGreatDp
import Derived.Test.YtkcpiblgpnjanaaGreatDs
import Derived.Test.YtkcpiblgpnjanaaGreatWc
import Derived.Test.YtkcpiblgpnjanaaGreatWd
import Derived.Test.YtkcpiblgpnjanaaGreatWf
import Derived.Test.YtkcpiblgpnjanaaGreatWi
import Derived.Test.YtkcpiblgpnjanaaGreatWk
import Derived.Test.YtkcpiblgpnjanaaGreatWl
import Derived.Test.YtkcpiblgpnjanaaGreatWy
namespace Go.Proofs.YtkcpiblgpnjanaaGreat
open Go Go.Li Go.Dk
set_option linter.unusedVariables false
set_option maxHeartbeats 16000000
set_option maxRecDepth 100000
theorem c18 {x0:(List Int)} {dI:Value}:Ct Tryz.prog 18 false (fV x0) [dI] [.rd false (aD (aB .u8)) dI x0] (fun y (v:Value×Value×Value×Value×Value×Value×Value×Value×Value×Value×Value×Value×Value×Value×Value×Value×Value×Value×Value×Value×Value×Value×Value×Value×Value×Value×Value×Value×Value×Value×Value×Value×Value×Value×Value×Value×Value×Value×Value×Value×Value×Value)=>[.agg #[.int .i64 y.1.aA.aA.aE,v.1,v.2.1,v.2.2.1,v.2.2.2.1,.int .i64 y.1.aA.aC.aE,v.2.2.2.2.1,v.2.2.2.2.2.1,v.2.2.2.2.2.2.1,v.2.2.2.2.2.2.2.1,v.2.2.2.2.2.2.2.2.1,v.2.2.2.2.2.2.2.2.2.1,.int .i64 y.1.aC.aA.aE,v.2.2.2.2.2.2.2.2.2.2.1,v.2.2.2.2.2.2.2.2.2.2.2.1,v.2.2.2.2.2.2.2.2.2.2.2.2.1,v.2.2.2.2.2.2.2.2.2.2.2.2.2.1,.int .i64 y.1.aC.aC.aE,v.2.2.2.2.2.2.2.2.2.2.2.2.2.2.1,v.2.2.2.2.2.2.2.2.2.2.2.2.2.2.2.1,v.2.2.2.2.2.2.2.2.2.2.2.2.2.2.2.2.1,v.2.2.2.2.2.2.2.2.2.2.2.2.2.2.2.2.2.1,v.2.2.2.2.2.2.2.2.2.2.2.2.2.2.2.2.2.2.1,v.2.2.2.2.2.2.2.2.2.2.2.2.2.2.2.2.2.2.2.1,v.2.2.2.2.2.2.2.2.2.2.2.2.2.2.2.2.2.2.2.2.1],.agg #[.int .i64 y.2.aA.aA.aE,v.2.2.2.2.2.2.2.2.2.2.2.2.2.2.2.2.2.2.2.2.2.1,v.2.2.2.2.2.2.2.2.2.2.2.2.2.2.2.2.2.2.2.2.2.2.1,v.2.2.2.2.2.2.2.2.2.2.2.2.2.2.2.2.2.2.2.2.2.2.2.1,v.2.2.2.2.2.2.2.2.2.2.2.2.2.2.2.2.2.2.2.2.2.2.2.2.1,.int .i64 y.2.aA.aC.aE,v.2.2.2.2.2.2.2.2.2.2.2.2.2.2.2.2.2.2.2.2.2.2.2.2.2.1,v.2.2.2.2.2.2.2.2.2.2.2.2.2.2.2.2.2.2.2.2.2.2.2.2.2.2.1,v.2.2.2.2.2.2.2.2.2.2.2.2.2.2.2.2.2.2.2.2.2.2.2.2.2.2.2.1,v.2.2.2.2.2.2.2.2.2.2.2.2.2.2.2.2.2.2.2.2.2.2.2.2.2.2.2.2.1,v.2.2.2.2.2.2.2.2.2.2.2.2.2.2.2.2.2.2.2.2.2.2.2.2.2.2.2.2.2.1,v.2.2.2.2.2.2.2.2.2.2.2.2.2.2.2.2.2.2.2.2.2.2.2.2.2.2.2.2.2.2.1,.int .i64 y.2.aC.aA.aE,v.2.2.2.2.2.2.2.2.2.2.2.2.2.2.2.2.2.2.2.2.2.2.2.2.2.2.2.2.2.2.2.1,v.2.2.2.2.2.2.2.2.2.2.2.2.2.2.2.2.2.2.2.2.2.2.2.2.2.2.2.2.2.2.2.2.1,v.2.2.2.2.2.2.2.2.2.2.2.2.2.2.2.2.2.2.2.2.2.2.2.2.2.2.2.2.2.2.2.2.2.1,v.2.2.2.2.2.2.2.2.2.2.2.2.2.2.2.2.2.2.2.2.2.2.2.2.2.2.2.2.2.2.2.2.2.2.1,.int .i64 y.2.aC.aC.aE,v.2.2.2.2.2.2.2.2.2.2.2.2.2.2.2.2.2.2.2.2.2.2.2.2.2.2.2.2.2.2.2.2.2.2.2.1,v.2.2.2.2.2.2.2.2.2.2.2.2.2.2.2.2.2.2.2.2.2.2.2.2.2.2.2.2.2.2.2.2.2.2.2.2.1,v.2.2.2.2.2.2.2.2.2.2.2.2.2.2.2.2.2.2.2.2.2.2.2.2.2.2.2.2.2.2.2.2.2.2.2.2.2.1,v.2.2.2.2.2.2.2.2.2.2.2.2.2.2.2.2.2.2.2.2.2.2.2.2.2.2.2.2.2.2.2.2.2.2.2.2.2.2.1,v.2.2.2.2.2.2.2.2.2.2.2.2.2.2.2.2.2.2.2.2.2.2.2.2.2.2.2.2.2.2.2.2.2.2.2.2.2.2.2.1,v.2.2.2.2.2.2.2.2.2.2.2.2.2.2.2.2.2.2.2.2.2.2.2.2.2.2.2.2.2.2.2.2.2.2.2.2.2.2.2.2.1,v.2.2.2.2.2.2.2.2.2.2.2.2.2.2.2.2.2.2.2.2.2.2.2.2.2.2.2.2.2.2.2.2.2.2.2.2.2.2.2.2.2]]) (fun y v=>[.rd false (aD (aB .i64)) v.1 y.1.aA.aA.aG,.rd false (aD (aB .i64)) v.2.1 y.1.aA.aA.To,.rd false (aD (aB .i64)) v.2.2.1 y.1.aA.aA.aJ,.rd false (aD (aD (aB .i64))) v.2.2.2.1 y.1.aA.aA.aF,.rd false (aD (aB .i64)) v.2.2.2.2.1 y.1.aA.aC.aG,.rd false (aD (aB .i64)) v.2.2.2.2.2.1 y.1.aA.aC.To,.rd false (aD (aB .i64)) v.2.2.2.2.2.2.1 y.1.aA.aC.aJ,.rd false (aD (aD (aB .i64))) v.2.2.2.2.2.2.2.1 y.1.aA.aC.aF,.rd false (aD (aB .i64)) v.2.2.2.2.2.2.2.2.1 y.1.aA.aE,.rd false (aD (aB .i64)) v.2.2.2.2.2.2.2.2.2.1 y.1.aA.ae,.rd false (aD (aB .i64)) v.2.2.2.2.2.2.2.2.2.2.1 y.1.aC.aA.aG,.rd false (aD (aB .i64)) v.2.2.2.2.2.2.2.2.2.2.2.1 y.1.aC.aA.To,.rd false (aD (aB .i64)) v.2.2.2.2.2.2.2.2.2.2.2.2.1 y.1.aC.aA.aJ,.rd false (aD (aD (aB .i64))) v.2.2.2.2.2.2.2.2.2.2.2.2.2.1 y.1.aC.aA.aF,.rd false (aD (aB .i64)) v.2.2.2.2.2.2.2.2.2.2.2.2.2.2.1 y.1.aC.aC.aG,.rd false (aD (aB .i64)) v.2.2.2.2.2.2.2.2.2.2.2.2.2.2.2.1 y.1.aC.aC.To,.rd false (aD (aB .i64)) v.2.2.2.2.2.2.2.2.2.2.2.2.2.2.2.2.1 y.1.aC.aC.aJ,.rd false (aD (aD (aB .i64))) v.2.2.2.2.2.2.2.2.2.2.2.2.2.2.2.2.2.1 y.1.aC.aC.aF,.rd false (aD (aB .i64)) v.2.2.2.2.2.2.2.2.2.2.2.2.2.2.2.2.2.2.1 y.1.aC.aE,.rd false (aD (aB .i64)) v.2.2.2.2.2.2.2.2.2.2.2.2.2.2.2.2.2.2.2.1 y.1.aC.ae,.rd false (aD (aB .i64)) v.2.2.2.2.2.2.2.2.2.2.2.2.2.2.2.2.2.2.2.2.1 y.1.ag,.rd false (aD (aB .i64)) v.2.2.2.2.2.2.2.2.2.2.2.2.2.2.2.2.2.2.2.2.2.1 y.2.aA.aA.aG,.rd false (aD (aB .i64)) v.2.2.2.2.2.2.2.2.2.2.2.2.2.2.2.2.2.2.2.2.2.2.1 y.2.aA.aA.To,.rd false (aD (aB .i64)) v.2.2.2.2.2.2.2.2.2.2.2.2.2.2.2.2.2.2.2.2.2.2.2.1 y.2.aA.aA.aJ,.rd false (aD (aD (aB .i64))) v.2.2.2.2.2.2.2.2.2.2.2.2.2.2.2.2.2.2.2.2.2.2.2.2.1 y.2.aA.aA.aF,.rd false (aD (aB .i64)) v.2.2.2.2.2.2.2.2.2.2.2.2.2.2.2.2.2.2.2.2.2.2.2.2.2.1 y.2.aA.aC.aG,.rd false (aD (aB .i64)) v.2.2.2.2.2.2.2.2.2.2.2.2.2.2.2.2.2.2.2.2.2.2.2.2.2.2.1 y.2.aA.aC.To,.rd false (aD (aB .i64)) v.2.2.2.2.2.2.2.2.2.2.2.2.2.2.2.2.2.2.2.2.2.2.2.2.2.2.2.1 y.2.aA.aC.aJ,.rd false (aD (aD (aB .i64))) v.2.2.2.2.2.2.2.2.2.2.2.2.2.2.2.2.2.2.2.2.2.2.2.2.2.2.2.2.1 y.2.aA.aC.aF,.rd false (aD (aB .i64)) v.2.2.2.2.2.2.2.2.2.2.2.2.2.2.2.2.2.2.2.2.2.2.2.2.2.2.2.2.2.1 y.2.aA.aE,.rd false (aD (aB .i64)) v.2.2.2.2.2.2.2.2.2.2.2.2.2.2.2.2.2.2.2.2.2.2.2.2.2.2.2.2.2.2.1 y.2.aA.ae,.rd false (aD (aB .i64)) v.2.2.2.2.2.2.2.2.2.2.2.2.2.2.2.2.2.2.2.2.2.2.2.2.2.2.2.2.2.2.2.1 y.2.aC.aA.aG,.rd false (aD (aB .i64)) v.2.2.2.2.2.2.2.2.2.2.2.2.2.2.2.2.2.2.2.2.2.2.2.2.2.2.2.2.2.2.2.2.1 y.2.aC.aA.To,.rd false (aD (aB .i64)) v.2.2.2.2.2.2.2.2.2.2.2.2.2.2.2.2.2.2.2.2.2.2.2.2.2.2.2.2.2.2.2.2.2.1 y.2.aC.aA.aJ,.rd false (aD (aD (aB .i64))) v.2.2.2.2.2.2.2.2.2.2.2.2.2.2.2.2.2.2.2.2.2.2.2.2.2.2.2.2.2.2.2.2.2.2.1 y.2.aC.aA.aF,.rd false (aD (aB .i64)) v.2.2.2.2.2.2.2.2.2.2.2.2.2.2.2.2.2.2.2.2.2.2.2.2.2.2.2.2.2.2.2.2.2.2.2.1 y.2.aC.aC.aG,.rd false (aD (aB .i64)) v.2.2.2.2.2.2.2.2.2.2.2.2.2.2.2.2.2.2.2.2.2.2.2.2.2.2.2.2.2.2.2.2.2.2.2.2.1 y.2.aC.aC.To,.rd false (aD (aB .i64)) v.2.2.2.2.2.2.2.2.2.2.2.2.2.2.2.2.2.2.2.2.2.2.2.2.2.2.2.2.2.2.2.2.2.2.2.2.2.1 y.2.aC.aC.aJ,.rd false (aD (aD (aB .i64))) v.2.2.2.2.2.2.2.2.2.2.2.2.2.2.2.2.2.2.2.2.2.2.2.2.2.2.2.2.2.2.2.2.2.2.2.2.2.2.1 y.2.aC.aC.aF,.rd false (aD (aB .i64)) v.2.2.2.2.2.2.2.2.2.2.2.2.2.2.2.2.2.2.2.2.2.2.2.2.2.2.2.2.2.2.2.2.2.2.2.2.2.2.2.1 y.2.aC.aE,.rd false (aD (aB .i64)) v.2.2.2.2.2.2.2.2.2.2.2.2.2.2.2.2.2.2.2.2.2.2.2.2.2.2.2.2.2.2.2.2.2.2.2.2.2.2.2.2.1 y.2.aC.ae,.rd false (aD (aB .i64)) v.2.2.2.2.2.2.2.2.2.2.2.2.2.2.2.2.2.2.2.2.2.2.2.2.2.2.2.2.2.2.2.2.2.2.2.2.2.2.2.2.2 y.2.ag]):=by
 refine ct (S:=Unit) Cq Tryz.func18 rfl rfl ?_
 repeat' first
  | ((first | show Dk.ER _ _ _ | show Dk.bb _ _ | show Dk.EF _ _ _ | show Dk.EO _ _ _ | show Dk.EP _ _ | show Dk.ba _ _ _ _ | show Dk.aw _ _ _ _ | show Dk.Kp _ _ _ _ | show Dk.bp _ _ | show Dk.bc _ _ _ _); repeat' first | exact rfl | (refine @id.{0} _ ?_; constructor))
  | (intro (v:Value×Value×Value×Value×Value×Value×Value×Value×Value×Value×Value×Value×Value×Value×Value×Value×Value×Value×Value×Value×Value×Value×Value×Value×Value×Value×Value×Value×Value×Value×Value×Value×Value×Value×Value×Value×Value×Value×Value×Value×Value×Value); obtain ⟨_,_,_,_,_,_,_,_,_,_,_,_,_,_,_,_,_,_,_,_,_,_,_,_,_,_,_,_,_,_,_,_,_,_,_,_,_,_,_,_,_,_⟩:=v; dsimp only)
  | (intro (v:Value×Value×Value×Value×Value×Value×Value×Value×Value×Value×Value×Value×Value×Value×Value×Value×Value×Value×Value×Value×Value); obtain ⟨_,_,_,_,_,_,_,_,_,_,_,_,_,_,_,_,_,_,_,_,_⟩:=v; dsimp only)
  | (intro (v:Value×Value×Value×Value×Value×Value×Value×Value×Value×Value); obtain ⟨_,_,_,_,_,_,_,_,_,_⟩:=v; dsimp only)
  | intro _
  | exact rfl
  | (apply Dk.MR (t:=20); exact rfl)
  | apply Dk.AD.Kk (f:=54)
  | apply Dk.AD.GI (f:=54)
  | apply Dk.AD.GJ (f:=54)
  | apply Dk.Rx (t:=59)
  | apply Dk.UT (t:=59)
  | apply Dk.Ru (n:=12)
  | apply Dk.MP (n:=12)
  | apply Dk.KD (n:=12)
  | (refine @id.{0} _ ?_; constructor)
  | apply Dk.um (id:=4) [Dk.ay.row _ _ 142] 3 [] [[],[],[5]] [[],[],[1]] (by kernel_rfl)
  | apply Dk.um (id:=10) [Dk.ay.row _ _ 142] 12 [] [[],[],[],[],[],[],[],[],[14],[],[],[]] [[],[],[1],[],[],[],[],[6],[5,7,6],[4,8,5,7,6],[9,4,8,5,7,6],[2,1,3,10,9,4,8,5,7,6,8,5,7,6]] (by kernel_rfl)
  | apply Dk.any (id:=11) 9 [] [] [[],[],[1],[],[3],[],[5],[6,5],[2,1,4,3,7,6,5,7,6,5]] (by kernel_rfl)
  | apply c39
  | apply c54
  | apply Zk
  | apply AM
  | apply WV
  | apply W3
  | apply Zq
  | apply WZ
  | apply Zg
  | exact ()
end Go.Proofs.YtkcpiblgpnjanaaGreat
