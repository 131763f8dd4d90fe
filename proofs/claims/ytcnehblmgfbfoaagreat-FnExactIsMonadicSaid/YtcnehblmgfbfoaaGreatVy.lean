/- Inverses; the reference's search in depth for a natural isomorphism finds the first one of the enumeration. No condition beside those that each theorem names. -/
import Derived.Test.YtcnehblmgfbfoaaGreatVw
import Derived.Test.YtcnehblmgfbfoaaGreatYn
set_option linter.unusedVariables false
set_option linter.unusedSectionVars false
set_option linter.unusedSimpArgs false
namespace Go.Proofs.YtcnehblmgfbfoaaGreat
open Go Go.Li
set_option linter.unusedVariables false
set_option linter.unusedSectionVars false
set_option linter.unusedSimpArgs false
def GW (c:aJ) (f g:Int):Bool:=gk c.aG f g == gi c.aI (gi c.aH f) && gk c.aG g f == gi c.aI (gi c.To f)
def YV (c:aJ) (f:Int):Bool:=(ns c.aH.length).any fun g=>xz c (gi c.To f) (gi c.aH f) g && GW c f g
section
variable {c:aJ} (H:gj c) {f:Int} (f0:0≤f) (f1:f < c.aH.length)
include H f0 f1
end
section
variable {f g:aN} (T:E8 f g)
include T
end
end Go.Proofs.YtcnehblmgfbfoaaGreat
namespace Go.Proofs.YtcnehblmgfbfoaaGreat
open Go Go.Li
set_option linter.unusedVariables false
set_option linter.unusedSectionVars false
set_option linter.unusedSimpArgs false
section
variable {f g:aN} {c:List Int} (hc:dx ⟨f,g,c⟩ = true)
include hc
end
section
variable {f g:aN} (T:E8 f g)
include T
end
end Go.Proofs.YtcnehblmgfbfoaaGreat
