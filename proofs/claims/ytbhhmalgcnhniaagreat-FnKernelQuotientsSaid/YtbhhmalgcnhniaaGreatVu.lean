/- Natural isomorphisms: the inverse of one, and the law, on plain data. No condition beside those that each theorem names. -/
import Derived.Test.YtbhhmalgcnhniaaGreatVy
set_option linter.unusedVariables false
set_option linter.unusedSectionVars false
set_option linter.unusedSimpArgs false
namespace Go.Proofs.YtbhhmalgcnhniaaGreat
open Go Go.Li
set_option linter.unusedVariables false
set_option linter.unusedSectionVars false
set_option linter.unusedSimpArgs false
def ach (f:aO) (c:List Int):Bool:=c.all (aci f.aL)
section
variable {f g:aO} (T:Hq f g)
include T
end
section
variable {f g:aO} {c:List Int} (hc:xz ⟨f,g,c⟩ = true)
include hc
end
section
variable {f g:aO} {c:List Int} (hc:xz ⟨f,g,c⟩ = true) (hi:ach f c=true)
include hc hi
end
end Go.Proofs.YtbhhmalgcnhniaaGreat
