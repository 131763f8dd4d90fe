/- Walks by the calculus D. No condition beside those that each theorem names. -/
import Derived.Test.YtgjbmjjihmfppaaGreatDi
import Derived.Test.YtgjbmjjihmfppaaGreatMo
import Derived.Test.YtgjbmjjihmfppaaGreatDp
import Derived.Test.YtgjbmjjihmfppaaGreatDs
import Derived.Test.YtgjbmjjihmfppaaGreatWd
import Derived.Test.YtgjbmjjihmfppaaGreatWg
namespace Go.Proofs.YtgjbmjjihmfppaaGreat
open Go Go.Li Go.Dk
set_option linter.unusedVariables false
set_option maxHeartbeats 16000000
set_option maxRecDepth 100000
theorem c38 {x0:aN} {aV:Value} {bA:Value} {aS:Value} {aP:Value} {aW:Value} {bB:Value} {aT:Value} {aQ:Value} {bE:Value} {bF:Value}:Ct Tryz.prog 38 true (pD x0) [.agg #[.int .i64 (x0.aH.aA),aV,bA,aS,aP,.int .i64 (x0.aI.aA),aW,bB,aT,aQ,bE,bF]] [.rd false (aE (aC .i64)) aV x0.aH.aD,.rd false (aE (aC .i64)) bA x0.aH.To,.rd false (aE (aC .i64)) aS x0.aH.aJ,.rd false (aE (aE (aC .i64))) aP x0.aH.aB,.rd false (aE (aC .i64)) aW x0.aI.aD,.rd false (aE (aC .i64)) bB x0.aI.To,.rd false (aE (aC .i64)) aT x0.aI.aJ,.rd false (aE (aE (aC .i64))) aQ x0.aI.aB,.rd false (aE (aC .i64)) bE x0.aA,.rd false (aE (aC .i64)) bF x0.aj] (fun y (_:Unit)=>[.bool y]) (fun y _=>[]):=by
 refine ct (S:=Unit) (db fun _ _=>rfl) Tryz.func38 rfl rfl ?_
 repeat' first
  | ((first | show Dk.ER _ _ _ | show Dk.bd _ _ | show Dk.EF _ _ _ | show Dk.EO _ _ _ | show Dk.EP _ _ | show Dk.ba _ _ _ _ | show Dk.aw _ _ _ _ | show Dk.Kp _ _ _ _ | show Dk.bp _ _ | show Dk.bg _ _ _ _); repeat' first | exact rfl | (refine @id.{0} _ ?_; constructor))
  | intro _
  | exact rfl
  | (refine Dk.tu (t:=136) rfl ?_ ?_)
  | (refine @id.{0} _ ?_; constructor)
  | apply Dk.loop 0 (V:=Unit) (fun (s:Int) v=>[]) (fun s v=>[(5,.int .i64 (s))]) () [(1,_),(3,_),(4,_)]
  | apply Dk.loop 2 (V:=Unit) (fun (s:Int) v=>[]) (fun s v=>[(6,.int .i64 (s))]) () [(1,_),(3,_),(4,_)]
  | apply Dk.loop 4 (V:=Unit) (fun (s:Int) v=>[]) (fun s v=>[(7,.int .i64 (s))]) () [(1,_),(3,_),(4,_)]
  | apply Dk.loop 6 (V:=Unit) (fun (s:Int) v=>[]) (fun s v=>[(8,.int .i64 (s))]) () [(1,_),(3,_),(4,_),(7,_)]
  | apply Dk.quiet (id:=9) (by kernel_rfl)
  | apply Dk.quiet (id:=14) (by kernel_rfl)
  | apply Dk.quiet (id:=22) (by kernel_rfl)
  | apply Dk.any (id:=1) 7 [] [[],[],[],[],[],[],[4]] [[],[0],[],[2],[],[],[4,1,0,0,1,0,4,5]] (by kernel_rfl)
  | apply c67
  | apply Wu
  | exact ()
end Go.Proofs.YtgjbmjjihmfppaaGreat
