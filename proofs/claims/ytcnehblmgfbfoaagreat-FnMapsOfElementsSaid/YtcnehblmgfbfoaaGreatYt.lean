/- Categories that are drawn have tables of the right form: posets, monoids, opposites. No condition beside those that each theorem names. -/
import Derived.Test.YtcnehblmgfbfoaaGreatVj
import Derived.Test.YtcnehblmgfbfoaaGreatVc
set_option linter.unusedVariables false
set_option linter.unusedSectionVars false
set_option linter.unusedSimpArgs false
set_option linter.unusedVariables false
set_option linter.unusedSimpArgs false
namespace Go.Proofs.YtcnehblmgfbfoaaGreat
open Go Go.Li
end Go.Proofs.YtcnehblmgfbfoaaGreat
set_option linter.unusedVariables false
set_option linter.unusedSimpArgs false
namespace Go.Proofs.YtcnehblmgfbfoaaGreat
open Go Go.Li
end Go.Proofs.YtcnehblmgfbfoaaGreat
set_option linter.unusedVariables false
set_option linter.unusedSimpArgs false
namespace Go.Proofs.YtcnehblmgfbfoaaGreat
open Go Go.Li
theorem KX {n:Nat} {g:Int→List Int} {i:Int} (h0:0≤i) (h1:i < n):gr (cj n g) i=g i:=by
 obtain ⟨k,rfl⟩ : ∃ k:Nat,i=k:=⟨i.toNat,by omega⟩
 have h:=vR g (i:=k) (n:=n) (by omega)
 unfold gr
 rw [List.getD_eq_getElem?_getD,show ((k:Int)).toNat=k from rfl,h]; rfl
section
variable {c d:aH} (T:Ty c) (U:Ty d)
include T U
end
end Go.Proofs.YtcnehblmgfbfoaaGreat
