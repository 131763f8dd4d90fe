/- Topologies by marks: what the reference's table and the program's coverage give. No condition beside those that each theorem names. -/
import Derived.Test.YtjfahghkjblgjaaGreatPk
namespace Go.Proofs.YtjfahghkjblgjaaGreat
open Go Go.Li
set_option linter.unusedSectionVars false
section
variable {c:MCategory} (H:Cat c)
include H
end
end Go.Proofs.YtjfahghkjblgjaaGreat
