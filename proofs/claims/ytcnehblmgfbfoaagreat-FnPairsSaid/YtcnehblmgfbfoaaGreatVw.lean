/- Lists of components of natural transformations, as the program looks for them: an enumeration in ascending order, handed on one by one. No condition beside those that each theorem names. -/
import Derived.Test.YtcnehblmgfbfoaaGreatYk
import Derived.Test.YtcnehblmgfbfoaaGreatPj
import Derived.Test.YtcnehblmgfbfoaaGreatVj
set_option linter.unusedVariables false
set_option linter.unusedSectionVars false
set_option linter.unusedSimpArgs false
namespace Go.Proofs.YtcnehblmgfbfoaaGreat
open Go Go.Li
set_option linter.unusedVariables false
set_option linter.unusedSectionVars false
set_option linter.unusedSimpArgs false
structure T1 (f g:aN):Prop where
 F:uw f
 G:uw g
 fb:dh f=true
 gb:dh g=true
 es:g.aG=f.aG
 et:g.aH=f.aH
def Pd (f:aN) (cs:List Int):Prop:=(cs.length:Int)=f.aG.aA∧∀ y∈cs,0≤y∧y < f.aH.aB.length
section
variable {f g:aN} (T:T1 f g)
include T
theorem T1.head {cs:List Int} (j:Pd f cs):THead ⟨f,g,cs⟩:=⟨T.F,T.G,T.fb,T.gb,T.es,T.et,j.1,j.2⟩
theorem Pd.put {cs:List Int} (j:Pd f cs) {x b:Int} (b0:0≤b) (b1:b < f.aH.aB.length):Pd f (cs.set x.toNat b):=by
 refine ⟨by rw [List.length_set]; exact j.1,fun y hy=>?_⟩
 rcases List.mem_or_eq_of_mem_set hy with h | rfl
 ·exact j.2 y h
 ·exact ⟨b0,b1⟩
section
variable {σ:Type} {al:Int→Option Bool} {alb:Int→Bool} (xi:∀ b:Int,0≤b→b < f.aH.aB.length→al b=some (alb b)) {fo:List Int→σ→Option (Bool×σ)}
include xi
end
end
end Go.Proofs.YtcnehblmgfbfoaaGreat
