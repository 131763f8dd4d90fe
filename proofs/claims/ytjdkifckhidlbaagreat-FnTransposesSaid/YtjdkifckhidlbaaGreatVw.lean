/- Lists of components of natural transformations, as the program looks for them: an enumeration in ascending order, handed on one by one. No condition beside those that each theorem names. -/
import Derived.Test.YtjdkifckhidlbaaGreatYk
import Derived.Test.YtjdkifckhidlbaaGreatPj
import Derived.Test.YtjdkifckhidlbaaGreatVj
namespace Go.Proofs.YtjdkifckhidlbaaGreat
open Go Go.Li
set_option linter.unusedVariables false
set_option linter.unusedSectionVars false
set_option linter.unusedSimpArgs false
def K9 (c:aI) (x y a:Int):Bool:=gi c.aG a == x && gi c.To a == y
theorem aaS {c:aI} (H:nq c) (x y:Int):iG c x y=some ((ns c.aG.length).filter (K9 c x y)):=by
 have hm:=H.m
 unfold iG
 refine (congrArg ao (KX (ns c.aG.length) (K9 c x y) (fun acc i=>(acc,(i:Int))) rfl ?_ ?_)).trans rfl
 ·intro i a acc ha aaT
  obtain ⟨rfl,hi⟩:=gh ha
  show gE c x y acc i=_
  unfold gE
  rw [aX (by omega),cond_true,H.iy (by omega) (by omega),aF,H.j3 (by omega) (by omega),dQ (by omega) (by omega)]
  simp only [aF]
  rw [cH (by omega)]
  unfold K9
  cases h1:gi c.aG (i:Int) == x with
  | false=>rfl
  | true=>
   simp only [cond_true,aF,Bool.true_and]
   cases gi c.To (i:Int) == y <;> rfl
 ·intro acc
  show gE c x y acc _=_
  unfold gE
  rw [cZ,bj (by omega),cond_false]
structure T0 (f g:aP):Prop where
 F:Gq f
 G:Gq g
 fb:gj f=true
 gb:gj g=true
 es:g.aE=f.aE
 et:g.aH=f.aH
def O5 (f:aP) (cs:List Int):Prop:=(cs.length:Int)=f.aE.aA∧∀ y∈cs,0≤y∧y < f.aH.aG.length
section
variable {f g:aP} (T:T0 f g)
include T
theorem T0.head {cs:List Int} (j:O5 f cs):THead ⟨f,g,cs⟩:=⟨T.F,T.G,T.fb,T.gb,T.es,T.et,j.1,j.2⟩
theorem O5.put {cs:List Int} (j:O5 f cs) {x b:Int} (b0:0≤b) (b1:b < f.aH.aG.length):O5 f (cs.set x.toNat b):=by
 refine ⟨by rw [List.length_set]; exact j.1,fun y hy=>?_⟩
 rcases List.mem_or_eq_of_mem_set hy with h | rfl
 ·exact j.2 y h
 ·exact ⟨b0,b1⟩
section
variable {σ:Type} {al:Int→Option Bool} {alb:Int→Bool} (vU:∀ b:Int,0≤b→b < f.aH.aG.length→al b=some (alb b)) {fo:List Int→σ→Option (Bool×σ)}
include vU
end
end
end Go.Proofs.YtjdkifckhidlbaaGreat
