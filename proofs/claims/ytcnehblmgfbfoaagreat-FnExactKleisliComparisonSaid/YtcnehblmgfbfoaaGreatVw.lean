/- Lists of components of natural transformations, as the program looks for them: an enumeration in ascending order, handed on one by one. No condition beside those that each theorem names. -/
import Derived.Test.YtcnehblmgfbfoaaGreatYk
import Derived.Test.YtcnehblmgfbfoaaGreatPj
import Derived.Test.YtcnehblmgfbfoaaGreatVc
import Derived.Test.YtcnehblmgfbfoaaGreatYr
import Derived.Test.YtcnehblmgfbfoaaGreatYn
set_option linter.unusedVariables false
set_option linter.unusedSectionVars false
set_option linter.unusedSimpArgs false
namespace Go.Proofs.YtcnehblmgfbfoaaGreat
open Go Go.Li
set_option linter.unusedVariables false
set_option linter.unusedSectionVars false
set_option linter.unusedSimpArgs false
def yA (c:aH) (x y a:Int):Bool:=gi c.aF a == x && gi c.To a == y
theorem Ko {c:aH} (H:gp c) (x y:Int):dQ c x y=some ((ns c.aF.length).filter (yA c x y)):=by
 have hm:=H.m
 unfold dQ
 refine (congrArg an (uO (ns c.aF.length) (yA c x y) (fun acc i=>(acc,(i:Int))) rfl ?_ ?_)).trans rfl
 ·intro i a acc ha px
  obtain ⟨rfl,hi⟩:=ca ha
  show fL c x y acc i=_
  unfold fL
  rw [aq (by omega),cond_true,H.jk (by omega) (by omega),aA,H.jx (by omega) (by omega),cR (by omega) (by omega)]
  simp only [aA]
  rw [bK (by omega)]
  unfold yA
  cases h1:gi c.aF (i:Int) == x with
  | false=>rfl
  | true=>
   simp only [cond_true,aA,Bool.true_and]
   cases gi c.To (i:Int) == y <;> rfl
 ·intro acc
  show fL c x y acc _=_
  unfold fL
  rw [bS,au (by omega),cond_false]
structure G8 (f g:aS):Prop where
 F:Aa f
 G:Aa g
 fb:ez f=true
 gb:ez g=true
 es:g.aB=f.aB
 et:g.aE=f.aE
def MH (f:aS) (cs:List Int):Prop:=(cs.length:Int)=f.aB.aD∧∀ y∈cs,0≤y∧y < f.aE.aF.length
section
variable {f g:aS} (T:G8 f g)
include T
theorem G8.head {cs:List Int} (j:MH f cs):THead ⟨f,g,cs⟩:=⟨T.F,T.G,T.fb,T.gb,T.es,T.et,j.1,j.2⟩
theorem MH.put {cs:List Int} (j:MH f cs) {x b:Int} (b0:0≤b) (b1:b < f.aE.aF.length):MH f (cs.set x.toNat b):=by
 refine ⟨by rw [List.length_set]; exact j.1,fun y hy=>?_⟩
 rcases List.mem_or_eq_of_mem_set hy with h | rfl
 ·exact j.2 y h
 ·exact ⟨b0,b1⟩
end
end Go.Proofs.YtcnehblmgfbfoaaGreat
namespace Go.Proofs.YtcnehblmgfbfoaaGreat
open Go Go.Li
set_option linter.unusedVariables false
end Go.Proofs.YtcnehblmgfbfoaaGreat
set_option linter.unusedVariables false
set_option linter.unusedSectionVars false
set_option linter.unusedSimpArgs false
namespace Go.Proofs.YtcnehblmgfbfoaaGreat
open Go Go.Li
set_option linter.unusedVariables false
set_option linter.unusedSectionVars false
set_option linter.unusedSimpArgs false
section
variable {f g:aS} (T:G8 f g)
include T
end
end Go.Proofs.YtcnehblmgfbfoaaGreat
namespace Go.Proofs.YtcnehblmgfbfoaaGreat
open Go Go.Li
set_option linter.unusedVariables false
set_option linter.unusedSectionVars false
set_option linter.unusedSimpArgs false
section
variable {f g:aS} {c:List Int} (hc:iu ⟨f,g,c⟩ = true)
include hc
end
section
variable {f g:aS} (T:G8 f g)
include T
end
end Go.Proofs.YtcnehblmgfbfoaaGreat
set_option linter.unusedVariables false
set_option linter.unusedSectionVars false
set_option linter.unusedSimpArgs false
namespace Go.Proofs.YtcnehblmgfbfoaaGreat
open Go Go.Li
set_option linter.unusedVariables false
set_option linter.unusedSectionVars false
set_option linter.unusedSimpArgs false
end Go.Proofs.YtcnehblmgfbfoaaGreat
