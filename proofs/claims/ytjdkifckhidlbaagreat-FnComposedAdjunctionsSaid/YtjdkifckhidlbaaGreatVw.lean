/- Lists of components of natural transformations, as the program looks for them: an enumeration in ascending order, handed on one by one. No condition beside those that each theorem names. -/
import Derived.Test.YtjdkifckhidlbaaGreatYk
import Derived.Test.YtjdkifckhidlbaaGreatPj
import Derived.Test.YtjdkifckhidlbaaGreatVj
namespace Go.Proofs.YtjdkifckhidlbaaGreat
open Go Go.Li
set_option linter.unusedVariables false
set_option linter.unusedSectionVars false
set_option linter.unusedSimpArgs false
structure Yb (f g:aO):Prop where
 F:Cm f
 G:Cm g
 fb:gn f=true
 gb:gn g=true
 es:g.aB=f.aB
 et:g.aF=f.aF
def Tf (f:aO) (cs:List Int):Prop:=(cs.length:Int)=f.aB.aA∧∀ y∈cs,0≤y∧y < f.aF.aH.length
section
variable {f g:aO} (T:Yb f g)
include T
theorem Yb.head {cs:List Int} (j:Tf f cs):THead ⟨f,g,cs⟩:=⟨T.F,T.G,T.fb,T.gb,T.es,T.et,j.1,j.2⟩
theorem Tf.put {cs:List Int} (j:Tf f cs) {x b:Int} (b0:0≤b) (b1:b < f.aF.aH.length):Tf f (cs.set x.toNat b):=by
 refine ⟨by rw [List.length_set]; exact j.1,fun y hy=>?_⟩
 rcases List.mem_or_eq_of_mem_set hy with h | rfl
 ·exact j.2 y h
 ·exact ⟨b0,b1⟩
section
variable {σ:Type} {al:Int→Option Bool} {alb:Int→Bool} (yc:∀ b:Int,0≤b→b < f.aF.aH.length→al b=some (alb b)) {fo:List Int→σ→Option (Bool×σ)}
include yc
end
end
end Go.Proofs.YtjdkifckhidlbaaGreat
