/- Whether a functor is an equivalence: both sides test alike, and what the test says. No condition beside those that each theorem names. -/
import Derived.Test.YtcnehblmgfbfoaaGreatTn
import Derived.Test.YtcnehblmgfbfoaaGreatVw
set_option linter.unusedVariables false
set_option linter.unusedSectionVars false
set_option linter.unusedSimpArgs false
namespace Go.Proofs.YtcnehblmgfbfoaaGreat
open Go Go.Li
set_option linter.unusedVariables false
set_option linter.unusedSectionVars false
set_option linter.unusedSimpArgs false
section
variable {c:aH} (T:T7 c)
include T
end
section
variable {c:aH} (H:gp c)
include H
end
section
variable {a b:aH} {f:aS} (T:T7 a) (U:T7 b) (F:FF a b f)
include T U F
end
section
variable {f:aS} (hf:ez f=true)
include hf
end
end Go.Proofs.YtcnehblmgfbfoaaGreat
