/- Products of categories are categories, and the program reckons them as the reference does. No condition beside those that each theorem names. -/
import Derived.Test.YtcnehblmgfbfoaaGreatVc
import Derived.Test.YtcnehblmgfbfoaaGreatYn
import Derived.Test.YtcnehblmgfbfoaaGreatTn
set_option linter.unusedVariables false
set_option linter.unusedSectionVars false
set_option linter.unusedSimpArgs false
namespace Go.Proofs.YtcnehblmgfbfoaaGreat
open Go Go.Li
section
variable {c d:aH}
def Kk (c:aH):Bool:=decide (c.aD≤8) && decide ((c.aF.length:Int)≤40)
theorem Kl (c:aH):dZ c=some (Kk c):=by
 unfold dZ Kk
 by_cases h:c.aD≤8
 ·rw [aq h,cond_true,aA]; simp; rfl
 ·rw [au h,cond_false,aA]; simp; rfl
end
end Go.Proofs.YtcnehblmgfbfoaaGreat
