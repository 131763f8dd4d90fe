/- Lists of components of natural transformations, as the program looks for them: an enumeration in ascending order, handed on one by one. No condition beside those that each theorem names. -/
import Derived.Test.YtcnehblmgfbfoaaGreatYk
import Derived.Test.YtcnehblmgfbfoaaGreatPj
import Derived.Test.YtcnehblmgfbfoaaGreatVj
import Derived.Test.YtcnehblmgfbfoaaGreatYr
set_option linter.unusedVariables false
set_option linter.unusedSectionVars false
set_option linter.unusedSimpArgs false
namespace Go.Proofs.YtcnehblmgfbfoaaGreat
open Go Go.Li
set_option linter.unusedVariables false
set_option linter.unusedSectionVars false
set_option linter.unusedSimpArgs false
def xz (c:aJ) (x y a:Int):Bool:=gi c.aH a == x && gi c.To a == y
theorem Bb {c:aJ} (H:gj c) (x y:Int):eI c x y=some ((ns c.aH.length).filter (xz c x y)):=by
 have hm:=H.m
 unfold eI
 refine (congrArg an (sW (ns c.aH.length) (xz c x y) (fun acc i=>(acc,(i:Int))) rfl ?_ ?_)).trans rfl
 ·intro i a acc ha r9
  obtain ⟨rfl,hi⟩:=cj ha
  show hJ c x y acc i=_
  unfold hJ
  rw [ao (by omega),cond_true,H.fx (by omega) (by omega),aB,H.gw (by omega) (by omega),eB (by omega) (by omega)]
  simp only [aB]
  rw [bR (by omega)]
  unfold xz
  cases h1:gi c.aH (i:Int) == x with
  | false=>rfl
  | true=>
   simp only [cond_true,aB,Bool.true_and]
   cases gi c.To (i:Int) == y <;> rfl
 ·intro acc
  show hJ c x y acc _=_
  unfold hJ
  rw [cJ,av (by omega),cond_false]
theorem Pn {S R:Type} {body:Int→Option (Out Int R)} {k j:Nat} {A B:Option (Out S R)} {n:Nat} (p:Int→Bool) (hkj:Nat.beq j k=false)
  (h:∀ i:Nat,i < n→body (i:Int)=bif p i then some (.exit j (i:Int)) else some (.norm ((i+1:Nat):Int))) (last:body (n:Int)=some (.exit k (n:Int))) :
  Gv k j (ai body (0:Int)) (fun _=>A) (fun _=>B)=bif (ns n).any p then B else A:=by
 have key:∀ m i:Nat,i+m=n→(ai body (i:Int)=some (.exit k (n:Int))∧∀ a:Nat,i≤a→a < n→p a=false)∨∃ a:Nat,ai body (i:Int)=some (.exit j (a:Int))∧a < n∧p a=true:=by
  intro m
  induction m with
  | zero=>
   intro i hi
   obtain rfl:i=n:=by omega
   exact .inl ⟨o7 last,fun a h1 h2=>by omega⟩
  | succ m ih=>
   intro i hi
   rw [nk,h i (by omega)]
   cases hp:p i with
   | true=>exact .inr ⟨i,rfl,by omega,hp⟩
   | false=>
    rcases ih (i+1) (by omega) with ⟨h1,h2⟩ | h1
    ·refine .inl ⟨h1,fun a a0 a1=>?_⟩
     rcases Nat.lt_or_ge i a with h3 | h3
     ·exact h2 a h3 a1
     ·obtain rfl:a=i:=by omega
      exact hp
    ·exact .inr h1
 rcases key n 0 (by omega) with ⟨h1,h2⟩ | ⟨a,h1,h2,h3⟩
 ·have:(ns n).any p=false:=dn.2 fun i i0 i1=>by have:=h2 i.toNat (by omega) (by omega); rwa [show ((i.toNat:Nat):Int)=i by omega] at this
  rw [this,show (0:Int)=((0:Nat):Int) from rfl,h1]
  unfold Gv
  dsimp only
  rw [Nat.beq_refl]; rfl
 ·have:(ns n).any p=true:=List.any_eq_true.2 ⟨a,dj.2 ⟨by omega,by omega⟩,h3⟩
  rw [this,show (0:Int)=((0:Nat):Int) from rfl,h1]
  unfold Gv
  dsimp only
  rw [hkj,Nat.beq_refl]; rfl
structure E8 (f g:aN):Prop where
 F:xH f
 G:xH g
 fb:dk f=true
 gb:dk g=true
 es:g.aA=f.aA
 et:g.aF=f.aF
def Oe (f:aN) (cs:List Int):Prop:=(cs.length:Int)=f.aA.aE∧∀ y∈cs,0≤y∧y < f.aF.aH.length
section
variable {f g:aN} (T:E8 f g)
include T
theorem E8.head {cs:List Int} (j:Oe f cs):THead ⟨f,g,cs⟩:=⟨T.F,T.G,T.fb,T.gb,T.es,T.et,j.1,j.2⟩
theorem Oe.put {cs:List Int} (j:Oe f cs) {x b:Int} (b0:0≤b) (b1:b < f.aF.aH.length):Oe f (cs.set x.toNat b):=by
 refine ⟨by rw [List.length_set]; exact j.1,fun y hy=>?_⟩
 rcases List.mem_or_eq_of_mem_set hy with h | rfl
 ·exact j.2 y h
 ·exact ⟨b0,b1⟩
section
variable {σ:Type} {al:Int→Option Bool} {alb:Int→Bool} (tG:∀ b:Int,0≤b→b < f.aF.aH.length→al b=some (alb b)) {fo:List Int→σ→Option (Bool×σ)}
include tG
end
end
end Go.Proofs.YtcnehblmgfbfoaaGreat
namespace Go.Proofs.YtcnehblmgfbfoaaGreat
open Go Go.Li
set_option linter.unusedVariables false
end Go.Proofs.YtcnehblmgfbfoaaGreat
