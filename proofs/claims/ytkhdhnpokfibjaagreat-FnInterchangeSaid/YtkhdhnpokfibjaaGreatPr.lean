/- Topologies by marks: what the reference's table and the program's coverage give. No condition beside those that each theorem names. -/
import Derived.Test.YtkhdhnpokfibjaaGreatPk
namespace Go.Proofs.YtkhdhnpokfibjaaGreat
open Go Go.Li
set_option linter.unusedSectionVars false
section
variable {c:aI} (H:Cat c)
include H
end
end Go.Proofs.YtkhdhnpokfibjaaGreat
