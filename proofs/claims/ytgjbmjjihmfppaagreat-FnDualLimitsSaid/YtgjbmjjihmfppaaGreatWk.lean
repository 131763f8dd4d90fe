/- Walks by the calculus D. No condition beside those that each theorem names. -/
import Derived.Test.YtgjbmjjihmfppaaGreatDi
import Derived.Test.YtgjbmjjihmfppaaGreatMo
import Derived.Test.YtgjbmjjihmfppaaGreatDp
import Derived.Test.YtgjbmjjihmfppaaGreatDs
import Derived.Test.YtgjbmjjihmfppaaGreatWa
import Derived.Test.YtgjbmjjihmfppaaGreatWf
namespace Go.Proofs.YtgjbmjjihmfppaaGreat
open Go Go.Li Go.Dk
set_option linter.unusedVariables false
set_option maxHeartbeats 16000000
set_option maxRecDepth 100000
theorem c40 {x0:aN} {aV:Value} {bA:Value} {aS:Value} {aP:Value} {aW:Value} {bB:Value} {aT:Value} {aQ:Value} {bE:Value} {bF:Value}:Ct Tryz.prog 40 true (pE x0) [.agg #[.int .i64 (x0.aH.aA),aV,bA,aS,aP,.int .i64 (x0.aI.aA),aW,bB,aT,aQ,bE,bF]] [.rd false (aE (aC .i64)) aV x0.aH.aD,.rd false (aE (aC .i64)) bA x0.aH.To,.rd false (aE (aC .i64)) aS x0.aH.aJ,.rd false (aE (aE (aC .i64))) aP x0.aH.aB,.rd false (aE (aC .i64)) aW x0.aI.aD,.rd false (aE (aC .i64)) bB x0.aI.To,.rd false (aE (aC .i64)) aT x0.aI.aJ,.rd false (aE (aE (aC .i64))) aQ x0.aI.aB,.rd false (aE (aC .i64)) bE x0.aA,.rd false (aE (aC .i64)) bF x0.aj] (fun y (v:Value×Value×Value×Value×Value×Value×Value×Value×Value×Value)=>[.agg #[.int .i64 y.aH.aA,v.1,v.2.1,v.2.2.1,v.2.2.2.1,.int .i64 y.aI.aA,v.2.2.2.2.1,v.2.2.2.2.2.1,v.2.2.2.2.2.2.1,v.2.2.2.2.2.2.2.1,v.2.2.2.2.2.2.2.2.1,v.2.2.2.2.2.2.2.2.2]]) (fun y v=>[.own (aK 2 (aC .i64)) v.1 y.aH.aD,.own (aK 2 (aC .i64)) v.2.1 y.aH.To,.own (aK 2 (aC .i64)) v.2.2.1 y.aH.aJ,.own (aK 24 (aK 2 (aC .i64))) v.2.2.2.1 y.aH.aB,.own (aK 2 (aC .i64)) v.2.2.2.2.1 y.aI.aD,.own (aK 2 (aC .i64)) v.2.2.2.2.2.1 y.aI.To,.own (aK 2 (aC .i64)) v.2.2.2.2.2.2.1 y.aI.aJ,.own (aK 24 (aK 2 (aC .i64))) v.2.2.2.2.2.2.2.1 y.aI.aB,.own (aK 2 (aC .i64)) v.2.2.2.2.2.2.2.2.1 y.aA,.own (aK 2 (aC .i64)) v.2.2.2.2.2.2.2.2.2 y.aj]):=by
 refine ct (S:=Unit) (db fun _ _=>rfl) Tryz.func40 rfl rfl ?_
 repeat' first
  | ((first | show Dk.ER _ _ _ | show Dk.bd _ _ | show Dk.EF _ _ _ | show Dk.EO _ _ _ | show Dk.EP _ _ | show Dk.ba _ _ _ _ | show Dk.aw _ _ _ _ | show Dk.Kp _ _ _ _ | show Dk.bp _ _ | show Dk.bg _ _ _ _); repeat' first | exact rfl | (refine @id.{0} _ ?_; constructor))
  | intro _
  | exact rfl
  | (refine @id.{0} _ ?_; constructor)
  | apply Dk.any (id:=1) 10 [] [] [[],[0],[1,0],[],[3],[4,3,2,1,0],[],[6],[],[8]] (by kernel_rfl)
  | apply Wj
  | apply QV
  | exact ()
end Go.Proofs.YtgjbmjjihmfppaaGreat
