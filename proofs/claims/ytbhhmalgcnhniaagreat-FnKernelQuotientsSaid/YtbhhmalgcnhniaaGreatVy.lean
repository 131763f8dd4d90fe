/- Inverses; the reference's search in depth for a natural isomorphism finds the first one of the enumeration. No condition beside those that each theorem names. -/
import Derived.Test.YtbhhmalgcnhniaaGreatVw
import Derived.Test.YtbhhmalgcnhniaaGreatYn
set_option linter.unusedVariables false
set_option linter.unusedSectionVars false
set_option linter.unusedSimpArgs false
namespace Go.Proofs.YtbhhmalgcnhniaaGreat
open Go Go.Li
set_option linter.unusedVariables false
set_option linter.unusedSectionVars false
set_option linter.unusedSimpArgs false
def ivB (c:aC) (f g:Int):Bool:=gk c.aB f g == gi c.aF (gi c.aA f) && gk c.aB g f == gi c.aF (gi c.To f)
def aci (c:aC) (f:Int):Bool:=(ns c.aA.length).any fun g=>IW c (gi c.To f) (gi c.aA f) g && ivB c f g
section
variable {c:aC} (H:l3 c) {f:Int} (f0:0≤f) (f1:f < c.aA.length)
include H f0 f1
end
section
variable {f g:aO} (T:Hq f g)
include T
end
end Go.Proofs.YtbhhmalgcnhniaaGreat
namespace Go.Proofs.YtbhhmalgcnhniaaGreat
open Go Go.Li
set_option linter.unusedVariables false
set_option linter.unusedSectionVars false
set_option linter.unusedSimpArgs false
section
variable {f g:aO} {c:List Int} (hc:xz ⟨f,g,c⟩ = true)
include hc
end
section
variable {f g:aO} (T:Hq f g)
include T
end
end Go.Proofs.YtbhhmalgcnhniaaGreat
