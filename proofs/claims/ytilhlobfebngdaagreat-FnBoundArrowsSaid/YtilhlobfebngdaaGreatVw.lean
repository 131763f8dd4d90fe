/- Lists of components of natural transformations, as the program looks for them: an enumeration in ascending order, handed on one by one. No condition beside those that each theorem names. -/
import Derived.Test.YtilhlobfebngdaaGreatYk
import Derived.Test.YtilhlobfebngdaaGreatPj
import Derived.Test.YtilhlobfebngdaaGreatVj
namespace Go.Proofs.YtilhlobfebngdaaGreat
open Go Go.Li
set_option linter.unusedVariables false
set_option linter.unusedSectionVars false
set_option linter.unusedSimpArgs false
def G9 (c:aF) (x y a:Int):Bool:=gi c.aE a == x && gi c.To a == y
theorem aiD {c:aF} (H:l5 c) (x y:Int):kH c x y=some ((ns c.aE.length).filter (G9 c x y)):=by
 have hm:=H.m
 unfold kH
 refine (congrArg ak (IJ (ns c.aE.length) (G9 c x y) (fun acc i=>(acc,(i:Int))) rfl ?_ ?_)).trans rfl
 ·intro i a acc ha FN
  obtain ⟨rfl,hi⟩:=dy ha
  show iV c x y acc i=_
  unfold iV
  rw [au (by omega),cond_true,H.jc (by omega) (by omega),aD,H.jm (by omega) (by omega),dL (by omega) (by omega)]
  simp only [aD]
  rw [bR (by omega)]
  unfold G9
  cases h1:gi c.aE (i:Int) == x with
  | false=>rfl
  | true=>
   simp only [cond_true,aD,Bool.true_and]
   cases gi c.To (i:Int) == y <;> rfl
 ·intro acc
  show iV c x y acc _=_
  unfold iV
  rw [cN,ay (by omega),cond_false]
structure aa2 (f g:aP):Prop where
 F:IN f
 G:IN g
 fb:jo f=true
 gb:jo g=true
 es:g.aB=f.aB
 et:g.aG=f.aG
def VU (f:aP) (cs:List Int):Prop:=(cs.length:Int)=f.aB.aA∧∀ y∈cs,0≤y∧y < f.aG.aE.length
section
variable {f g:aP} (T:aa2 f g)
include T
theorem aa2.head {cs:List Int} (j:VU f cs):THead ⟨f,g,cs⟩:=⟨T.F,T.G,T.fb,T.gb,T.es,T.et,j.1,j.2⟩
theorem VU.put {cs:List Int} (j:VU f cs) {x b:Int} (b0:0≤b) (b1:b < f.aG.aE.length):VU f (cs.set x.toNat b):=by
 refine ⟨by rw [List.length_set]; exact j.1,fun y hy=>?_⟩
 rcases List.mem_or_eq_of_mem_set hy with h | rfl
 ·exact j.2 y h
 ·exact ⟨b0,b1⟩
section
variable {σ:Type} {al:Int→Option Bool} {alb:Int→Bool} (zQ:∀ b:Int,0≤b→b < f.aG.aE.length→al b=some (alb b)) {fo:List Int→σ→Option (Bool×σ)}
include zQ
end
end
end Go.Proofs.YtilhlobfebngdaaGreat
