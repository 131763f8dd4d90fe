/- Walks by the calculus D. No condition beside those that each theorem names. -/
import Derived.Test.YtkcpiblgpnjanaaGreatDi
import Derived.Test.YtkcpiblgpnjanaaGreatMo
import Derived.Test.YtkcpiblgpnjanaaGreatDp
import Derived.Test.YtkcpiblgpnjanaaGreatDs
import Derived.Test.YtkcpiblgpnjanaaGreatWa
import Derived.Test.YtkcpiblgpnjanaaGreatWi
import Derived.Test.YtkcpiblgpnjanaaGreatWj
import Derived.Test.YtkcpiblgpnjanaaGreatWl
import Derived.Test.YtkcpiblgpnjanaaGreatWw
import Derived.Test.YtkcpiblgpnjanaaGreatWx
namespace Go.Proofs.YtkcpiblgpnjanaaGreat
open Go Go.Li Go.Dk
set_option linter.unusedVariables false
set_option maxHeartbeats 16000000
set_option maxRecDepth 100000
theorem c4 {x0:(List Int)} {dI:Value}:Ct Tryz.prog 4 true (lR x0) [dI] [.rd false (aD (aB .u8)) dI x0] (fun y (_:Unit)=>[.bool y]) (fun y _=>[]):=by
 refine ct (S:=Unit) (ca fun _ _=>rfl) Tryz.func4 rfl rfl ?_
 repeat' first
  | ((first | show Dk.ER _ _ _ | show Dk.bb _ _ | show Dk.EF _ _ _ | show Dk.EO _ _ _ | show Dk.EP _ _ | show Dk.ba _ _ _ _ | show Dk.aw _ _ _ _ | show Dk.Kp _ _ _ _ | show Dk.bp _ _ | show Dk.bc _ _ _ _); repeat' first | exact rfl | (refine @id.{0} _ ?_; constructor))
  | (intro (v:Value×Value×Value×Value×Value×Value×Value×Value×Value×Value×Value×Value×Value×Value×Value×Value×Value×Value×Value×Value×Value×Value×Value×Value×Value×Value×Value×Value×Value×Value×Value×Value×Value×Value×Value×Value×Value×Value×Value×Value×Value×Value); obtain ⟨_,_,_,_,_,_,_,_,_,_,_,_,_,_,_,_,_,_,_,_,_,_,_,_,_,_,_,_,_,_,_,_,_,_,_,_,_,_,_,_,_,_⟩:=v; dsimp only)
  | (intro (v:Value×Value×Value×Value×Value×Value×Value×Value×Value×Value×Value×Value×Value×Value×Value×Value×Value×Value×Value×Value×Value); obtain ⟨_,_,_,_,_,_,_,_,_,_,_,_,_,_,_,_,_,_,_,_,_⟩:=v; dsimp only)
  | intro _
  | exact rfl
  | apply Dk.AD.val (d:=101)
  | (refine @id.{0} _ ?_; constructor)
  | apply Dk.any (id:=17) 9 [] [] [[],[0],[],[2],[],[4],[5,4],[1,0,3,2,6,5,4],[]] (by kernel_rfl)
  | apply c7
  | apply c18
  | apply c15
  | apply c19
  | apply c17
  | apply c16
  | apply MS
  | apply c20
  | exact ()
theorem qK {w:World} {x0:(List Int)} {dI:Value} {adB:List Nat} (adC:(aD (aB .u8)).rep w.heap [dI] x0 adB) {y:(Bool)} (hm:lR x0=some y):Calls Tryz.prog 4 #[dI] w (fun e w'=>e = .returned (.bool y)∧an [] w w'):=
 SN c4 (.fact (SP adC) (.nil)) hm
end Go.Proofs.YtkcpiblgpnjanaaGreat
