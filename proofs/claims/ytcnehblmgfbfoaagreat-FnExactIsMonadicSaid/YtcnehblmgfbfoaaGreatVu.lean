/- Natural isomorphisms: the inverse of one, and the law, on plain data. No condition beside those that each theorem names. -/
import Derived.Test.YtcnehblmgfbfoaaGreatVy
set_option linter.unusedVariables false
set_option linter.unusedSectionVars false
set_option linter.unusedSimpArgs false
namespace Go.Proofs.YtcnehblmgfbfoaaGreat
open Go Go.Li
set_option linter.unusedVariables false
set_option linter.unusedSectionVars false
set_option linter.unusedSimpArgs false
def YU (f:aN) (c:List Int):Bool:=c.all (YV f.aF)
section
variable {f g:aN} (T:E8 f g)
include T
end
section
variable {f g:aN} {c:List Int} (hc:dx ⟨f,g,c⟩ = true)
include hc
end
section
variable {f g:aN} {c:List Int} (hc:dx ⟨f,g,c⟩ = true) (hi:YU f c=true)
include hc hi
end
end Go.Proofs.YtcnehblmgfbfoaaGreat
