/- Walks by the calculus D. No condition beside those that each theorem names. -/
import Derived.Test.YtkcpiblgpnjanaaGreatDi
import Derived.Test.YtkcpiblgpnjanaaGreatMo
import Derived.Test.YtkcpiblgpnjanaaGreatDp
import Derived.Test.YtkcpiblgpnjanaaGreatDs
import Derived.Test.YtkcpiblgpnjanaaGreatWb
import Derived.Test.YtkcpiblgpnjanaaGreatWd
import Derived.Test.YtkcpiblgpnjanaaGreatWi
import Derived.Test.YtkcpiblgpnjanaaGreatWk
import Derived.Test.YtkcpiblgpnjanaaGreatWl
import Derived.Test.YtkcpiblgpnjanaaGreatWz
namespace Go.Proofs.YtkcpiblgpnjanaaGreat
open Go Go.Li Go.Dk
set_option linter.unusedVariables false
set_option maxHeartbeats 16000000
set_option maxRecDepth 100000
theorem c3 {x0:(List Int)} {dI:Value}:Ct Tryz.prog 3 true (kM x0) [dI] [.rd false (aD (aA .u8)) dI x0] (fun y (_:Unit)=>[.bool y]) (fun y _=>[]):=by
 refine ct (S:=Unit) (cf fun _ _=>rfl) Tryz.func3 rfl rfl ?_
 repeat' first
  | ((first | show Dk.ER _ _ _ | show Dk.bd _ _ | show Dk.EF _ _ _ | show Dk.EO _ _ _ | show Dk.EP _ _ | show Dk.bb _ _ _ _ | show Dk.av _ _ _ _ | show Dk.Kp _ _ _ _ | show Dk.bp _ _ | show Dk.bg _ _ _ _); repeat' first | exact rfl | (refine @id.{0} _ ?_; constructor))
  | intro _
  | exact rfl
  | (refine @id.{0} _ ?_; constructor)
  | apply Dk.loop 0 (V:=Unit) (fun (s:Int×Int) v=>[]) (fun s v=>[(11,.int .i64 (s.1)),(12,.int .i64 (s.2))]) () [(3,_),(4,_),(5,_),(6,_),(9,_),(10,_)]
  | apply Dk.quiet (id:=17) (by kernel_rfl)
  | apply c7
  | apply c8
  | apply c9
  | apply UI
  | apply G6
  | apply Mz
  | apply c13
  | apply c14
  | apply c15
  | apply c16
  | apply c17
  | exact ()
theorem qE {w:World} {x0:(List Int)} {dI:Value} {adz:List Nat} (adA:(aD (aA .u8)).rep w.heap [dI] x0 adz) {y:(Bool)} (hm:kM x0=some y):Calls Tryz.prog 3 #[dI] w (fun e w'=>e = .returned (.bool y)∧an [] w w'):=
 Sl c3 (.fact (Sm adA) (.nil)) hm
end Go.Proofs.YtkcpiblgpnjanaaGreat
