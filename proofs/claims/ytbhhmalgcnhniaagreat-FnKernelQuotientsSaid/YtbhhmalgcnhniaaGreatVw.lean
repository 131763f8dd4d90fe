/- Lists of components of natural transformations, as the program looks for them: an enumeration in ascending order, handed on one by one. No condition beside those that each theorem names. -/
import Derived.Test.YtbhhmalgcnhniaaGreatYk
import Derived.Test.YtbhhmalgcnhniaaGreatPj
import Derived.Test.YtbhhmalgcnhniaaGreatVj
import Derived.Test.YtbhhmalgcnhniaaGreatYr
set_option linter.unusedVariables false
set_option linter.unusedSectionVars false
set_option linter.unusedSimpArgs false
namespace Go.Proofs.YtbhhmalgcnhniaaGreat
open Go Go.Li
set_option linter.unusedVariables false
set_option linter.unusedSectionVars false
set_option linter.unusedSimpArgs false
def IW (c:aC) (x y a:Int):Bool:=gi c.aA a == x && gi c.To a == y
theorem Vx {c:aC} (H:l3 c) (x y:Int):fY c x y=some ((ns c.aA.length).filter (IW c x y)):=by
 have hm:=H.m
 unfold fY
 refine (congrArg aq (MQ (ns c.aA.length) (IW c x y) (fun acc i=>(acc,(i:Int))) rfl ?_ ?_)).trans rfl
 ·intro i a acc ha al9
  obtain ⟨rfl,hi⟩:=jc ha
  show eD c x y acc i=_
  unfold eD
  rw [bm (by omega),cond_true,H.iH (by omega) (by omega),aE,H.jd (by omega) (by omega),cD (by omega) (by omega)]
  simp only [aE]
  rw [bI (by omega)]
  unfold IW
  cases h1:gi c.aA (i:Int) == x with
  | false=>rfl
  | true=>
   simp only [cond_true,aE,Bool.true_and]
   cases gi c.To (i:Int) == y <;> rfl
 ·intro acc
  show eD c x y acc _=_
  unfold eD
  rw [bR,br (by omega),cond_false]
structure Hq (f g:aO):Prop where
 F:Na f
 G:Na g
 fb:ox f=true
 gb:ox g=true
 es:g.aH=f.aH
 et:g.aL=f.aL
def QS (f:aO) (cs:List Int):Prop:=(cs.length:Int)=f.aH.aD∧∀ y∈cs,0≤y∧y < f.aL.aA.length
section
variable {f g:aO} (T:Hq f g)
include T
theorem Hq.head {cs:List Int} (j:QS f cs):THead ⟨f,g,cs⟩:=⟨T.F,T.G,T.fb,T.gb,T.es,T.et,j.1,j.2⟩
theorem QS.put {cs:List Int} (j:QS f cs) {x b:Int} (b0:0≤b) (b1:b < f.aL.aA.length):QS f (cs.set x.toNat b):=by
 refine ⟨by rw [List.length_set]; exact j.1,fun y hy=>?_⟩
 rcases List.mem_or_eq_of_mem_set hy with h | rfl
 ·exact j.2 y h
 ·exact ⟨b0,b1⟩
section
variable {σ:Type} {al:Int→Option Bool} {alb:Int→Bool} (vS:∀ b:Int,0≤b→b < f.aL.aA.length→al b=some (alb b)) {fo:List Int→σ→Option (Bool×σ)}
include vS
end
end
end Go.Proofs.YtbhhmalgcnhniaaGreat
namespace Go.Proofs.YtbhhmalgcnhniaaGreat
open Go Go.Li
set_option linter.unusedVariables false
set_option linter.unusedSectionVars false
set_option linter.unusedSimpArgs false
end Go.Proofs.YtbhhmalgcnhniaaGreat
