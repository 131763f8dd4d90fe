/- The image of a cone under a functor is a cone of the image of the diagram. No condition beside those that each theorem names. -/
import Derived.Test.YtbmchcnkbonmkaaGreatUs
import Derived.Test.YtbmchcnkbonmkaaGreatUw
import Derived.Test.YtbmchcnkbonmkaaGreatPj
namespace Go.Proofs.YtbmchcnkbonmkaaGreat
open Go Go.Li
set_option linter.unusedVariables false
set_option linter.unusedSectionVars false
set_option linter.unusedSimpArgs false
end Go.Proofs.YtbmchcnkbonmkaaGreat
namespace Go.Proofs.YtbmchcnkbonmkaaGreat
open Go Go.Li
set_option linter.unusedVariables false
set_option linter.unusedSectionVars false
set_option linter.unusedSimpArgs false
section
variable {d f:aJ} (hd:fk d=true) (hf:fk f=true) (e:d.aF=f.aE)
include hd hf e
end
end Go.Proofs.YtbmchcnkbonmkaaGreat
namespace Go.Proofs.YtbmchcnkbonmkaaGreat
open Go Go.Li
set_option linter.unusedVariables false
set_option linter.unusedSectionVars false
set_option linter.unusedSimpArgs false
section
variable {d:aJ} (hb:fk d=true)
include hb
end
section
variable {x:List Int} (B:AH x) {s:aM} (S:Src x s)
include B S
end
end Go.Proofs.YtbmchcnkbonmkaaGreat
