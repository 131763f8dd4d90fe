/- Lists of components of natural transformations, as the program looks for them: an enumeration in ascending order, handed on one by one. No condition beside those that each theorem names. -/
import Derived.Test.YtilhlobfebngdaaGreatYk
import Derived.Test.YtilhlobfebngdaaGreatPj
import Derived.Test.YtilhlobfebngdaaGreatVj
namespace Go.Proofs.YtilhlobfebngdaaGreat
open Go Go.Li
set_option linter.unusedVariables false
set_option linter.unusedSectionVars false
set_option linter.unusedSimpArgs false
def Hl (c:aI) (x y a:Int):Bool:=gi c.aG a == x && gi c.To a == y
theorem Yf {c:aI} (H:km c) (x y:Int):gL c x y=some ((ns c.aG.length).filter (Hl c x y)):=by
 have hm:=H.m
 unfold gL
 refine (congrArg aq (zX (ns c.aG.length) (Hl c x y) (fun acc i=>(acc,(i:Int))) rfl ?_ ?_)).trans rfl
 ·intro i a acc ha Nn
  obtain ⟨rfl,hi⟩:=gh ha
  show iG c x y acc i=_
  unfold iG
  rw [bb (by omega),cond_true,H.iq (by omega) (by omega),aF,H.jf (by omega) (by omega),eB (by omega) (by omega)]
  simp only [aF]
  rw [cA (by omega)]
  unfold Hl
  cases h1:gi c.aG (i:Int) == x with
  | false=>rfl
  | true=>
   simp only [cond_true,aF,Bool.true_and]
   cases gi c.To (i:Int) == y <;> rfl
 ·intro acc
  show iG c x y acc _=_
  unfold iG
  rw [cT,br (by omega),cond_false]
structure Yx (f g:aQ):Prop where
 F:FL f
 G:FL g
 fb:ja f=true
 gb:ja g=true
 es:g.aB=f.aB
 et:g.aH=f.aH
def TJ (f:aQ) (cs:List Int):Prop:=(cs.length:Int)=f.aB.aA∧∀ y∈cs,0≤y∧y < f.aH.aG.length
section
variable {f g:aQ} (T:Yx f g)
include T
theorem Yx.head {cs:List Int} (j:TJ f cs):THead ⟨f,g,cs⟩:=⟨T.F,T.G,T.fb,T.gb,T.es,T.et,j.1,j.2⟩
theorem TJ.put {cs:List Int} (j:TJ f cs) {x b:Int} (b0:0≤b) (b1:b < f.aH.aG.length):TJ f (cs.set x.toNat b):=by
 refine ⟨by rw [List.length_set]; exact j.1,fun y hy=>?_⟩
 rcases List.mem_or_eq_of_mem_set hy with h | rfl
 ·exact j.2 y h
 ·exact ⟨b0,b1⟩
section
variable {σ:Type} {al:Int→Option Bool} {alb:Int→Bool} (yJ:∀ b:Int,0≤b→b < f.aH.aG.length→al b=some (alb b)) {fo:List Int→σ→Option (Bool×σ)}
include yJ
end
end
end Go.Proofs.YtilhlobfebngdaaGreat
