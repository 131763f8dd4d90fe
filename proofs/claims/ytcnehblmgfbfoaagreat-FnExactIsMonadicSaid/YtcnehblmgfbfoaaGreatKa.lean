/- Products of categories are categories, and the program reckons them as the reference does. No condition beside those that each theorem names. -/
import Derived.Test.YtcnehblmgfbfoaaGreatYt
import Derived.Test.YtcnehblmgfbfoaaGreatYn
import Derived.Test.YtcnehblmgfbfoaaGreatTn
set_option linter.unusedVariables false
set_option linter.unusedSectionVars false
set_option linter.unusedSimpArgs false
namespace Go.Proofs.YtcnehblmgfbfoaaGreat
open Go Go.Li
section
variable {c d:aJ}
def Lv (c:aJ):Bool:=decide (c.aE≤8) && decide ((c.aH.length:Int)≤40)
theorem Lw (c:aJ):iS c=some (Lv c):=by
 unfold iS Lv
 by_cases h:c.aE≤8
 ·rw [ao h,cond_true,aB]; simp; rfl
 ·rw [av h,cond_false,aB]; simp; rfl
end
end Go.Proofs.YtcnehblmgfbfoaaGreat
