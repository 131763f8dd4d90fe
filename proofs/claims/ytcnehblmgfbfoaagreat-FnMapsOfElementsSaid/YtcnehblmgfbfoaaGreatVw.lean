/- Lists of components of natural transformations, as the program looks for them: an enumeration in ascending order, handed on one by one. No condition beside those that each theorem names. -/
import Derived.Test.YtcnehblmgfbfoaaGreatYk
import Derived.Test.YtcnehblmgfbfoaaGreatPj
import Derived.Test.YtcnehblmgfbfoaaGreatVj
set_option linter.unusedVariables false
set_option linter.unusedSectionVars false
set_option linter.unusedSimpArgs false
namespace Go.Proofs.YtcnehblmgfbfoaaGreat
open Go Go.Li
set_option linter.unusedVariables false
set_option linter.unusedSectionVars false
set_option linter.unusedSimpArgs false
def G0 (c:aH) (x y a:Int):Bool:=gi c.aG a == x && gi c.To a == y
theorem acC {c:aH} (H:lg c) (x y:Int):iJ c x y=some ((ns c.aG.length).filter (G0 c x y)):=by
 have hm:=H.m
 unfold iJ
 refine (congrArg ao (Ch (ns c.aG.length) (G0 c x y) (fun acc i=>(acc,(i:Int))) rfl ?_ ?_)).trans rfl
 ·intro i a acc ha Ci
  obtain ⟨rfl,hi⟩:=c8 ha
  show gH c x y acc i=_
  unfold gH
  rw [aw (by omega),cond_true,H.lh (by omega) (by omega),aA,H.l8 (by omega) (by omega),dR (by omega) (by omega)]
  simp only [aA]
  rw [bB (by omega)]
  unfold G0
  cases h1:gi c.aG (i:Int) == x with
  | false=>rfl
  | true=>
   simp only [cond_true,aA,Bool.true_and]
   cases gi c.To (i:Int) == y <;> rfl
 ·intro acc
  show gH c x y acc _=_
  unfold gH
  rw [cH,aX (by omega),cond_false]
structure Y0 (f g:aY):Prop where
 F:PM f
 G:PM g
 fb:rQ f=true
 gb:rQ g=true
 es:g.aF=f.aF
 et:g.aM=f.aM
def TO (f:aY) (cs:List Int):Prop:=(cs.length:Int)=f.aF.aD∧∀ y∈cs,0≤y∧y < f.aM.aG.length
section
variable {f g:aY} (T:Y0 f g)
include T
theorem Y0.head {cs:List Int} (j:TO f cs):THead ⟨f,g,cs⟩:=⟨T.F,T.G,T.fb,T.gb,T.es,T.et,j.1,j.2⟩
theorem TO.put {cs:List Int} (j:TO f cs) {x b:Int} (b0:0≤b) (b1:b < f.aM.aG.length):TO f (cs.set x.toNat b):=by
 refine ⟨by rw [List.length_set]; exact j.1,fun y hy=>?_⟩
 rcases List.mem_or_eq_of_mem_set hy with h | rfl
 ·exact j.2 y h
 ·exact ⟨b0,b1⟩
end
end Go.Proofs.YtcnehblmgfbfoaaGreat
