/- Drawn categories have the form of tables of categories: the families. No condition beside those that each theorem names. -/
import Derived.Test.YtcnehblmgfbfoaaGreatYy
import Derived.Test.YtcnehblmgfbfoaaGreatYt
import Derived.Test.YtcnehblmgfbfoaaGreatYw
import Derived.Test.YtcnehblmgfbfoaaGreatVc
import Derived.Test.YtcnehblmgfbfoaaGreatVj
set_option linter.unusedVariables false
set_option linter.unusedSectionVars false
set_option linter.unusedSimpArgs false
set_option linter.unusedVariables false
set_option linter.unusedSimpArgs false
namespace Go.Proofs.YtcnehblmgfbfoaaGreat
open Go Go.Li
theorem Ok.and {α:Type} {m:Option α} {P Q:α→Prop} (h:Ok m P) (k:Ok m Q):Ok m fun x=>P x∧Q x:=by
 obtain ⟨x,e,hx⟩:=h
 obtain ⟨y,e',hy⟩:=k
 rw [e] at e'
 cases e'
 exact ⟨x,e,hx,hy⟩
section
variable {x:List Int} (B:E6 x)
include B
end
end Go.Proofs.YtcnehblmgfbfoaaGreat
set_option linter.unusedVariables false
set_option linter.unusedSimpArgs false
namespace Go.Proofs.YtcnehblmgfbfoaaGreat
open Go Go.Li
section
variable {x:List Int} (B:E6 x)
include B
end
end Go.Proofs.YtcnehblmgfbfoaaGreat
