/- Lists of components of natural transformations, as the program looks for them: an enumeration in ascending order, handed on one by one. No condition beside those that each theorem names. -/
import Derived.Test.YtbhhmalgcnhniaaGreatYk
import Derived.Test.YtbhhmalgcnhniaaGreatPj
import Derived.Test.YtbhhmalgcnhniaaGreatVj
import Derived.Test.YtbhhmalgcnhniaaGreatYr
namespace Go.Proofs.YtbhhmalgcnhniaaGreat
open Go Go.Li
set_option linter.unusedVariables false
set_option linter.unusedSectionVars false
set_option linter.unusedSimpArgs false
def Ao (c:aG) (x y a:Int):Bool:=gi c.aF a == x && gi c.To a == y
theorem yt {c:aG} (H:lr c) (x y:Int):dR c x y=some ((ns c.aF.length).filter (Ao c x y)):=by
 have hm:=H.m
 unfold dR
 refine (congrArg ak (Fa (ns c.aF.length) (Ao c x y) (fun acc i=>(acc,(i:Int))) rfl ?_ ?_)).trans rfl
 ·intro i a acc ha Vl
  obtain ⟨rfl,hi⟩:=dg ha
  show gQ c x y acc i=_
  unfold gQ
  rw [ao (by omega),cond_true,H.ic (by omega) (by omega),aE,H.ig (by omega) (by omega),cY (by omega) (by omega)]
  simp only [aE]
  rw [bF (by omega)]
  unfold Ao
  cases h1:gi c.aF (i:Int) == x with
  | false=>rfl
  | true=>
   simp only [cond_true,aE,Bool.true_and]
   cases gi c.To (i:Int) == y <;> rfl
 ·intro acc
  show gQ c x y acc _=_
  unfold gQ
  rw [cN,ay (by omega),cond_false]
theorem Sa {S R:Type} {body:Int→Option (Out Int R)} {k j:Nat} {A B:Option (Out S R)} {n:Nat} (p:Int→Bool) (hkj:Nat.beq j k=false)
  (h:∀ i:Nat,i < n→body (i:Int)=bif p i then some (.exit j (i:Int)) else some (.norm ((i+1:Nat):Int))) (last:body (n:Int)=some (.exit k (n:Int))) :
  I4 k j (ag body (0:Int)) (fun _=>A) (fun _=>B)=bif (ns n).any p then B else A:=by
 have key:∀ m i:Nat,i+m=n→(ag body (i:Int)=some (.exit k (n:Int))∧∀ a:Nat,i≤a→a < n→p a=false)∨∃ a:Nat,ag body (i:Int)=some (.exit j (a:Int))∧a < n∧p a=true:=by
  intro m
  induction m with
  | zero=>
   intro i hi
   obtain rfl:i=n:=by omega
   exact .inl ⟨rq last,fun a h1 h2=>by omega⟩
  | succ m ih=>
   intro i hi
   rw [p5,h i (by omega)]
   cases hp:p i with
   | true=>exact .inr ⟨i,rfl,by omega,hp⟩
   | false=>
    rcases ih (i+1) (by omega) with ⟨h1,h2⟩ | h1
    ·refine .inl ⟨h1,fun a a0 a1=>?_⟩
     rcases Nat.lt_or_ge i a with h3 | h3
     ·exact h2 a h3 a1
     ·obtain rfl:a=i:=by omega
      exact hp
    ·exact .inr h1
 rcases key n 0 (by omega) with ⟨h1,h2⟩ | ⟨a,h1,h2,h3⟩
 ·have:(ns n).any p=false:=br.2 fun i i0 i1=>by have:=h2 i.toNat (by omega) (by omega); rwa [show ((i.toNat:Nat):Int)=i by omega] at this
  rw [this,show (0:Int)=((0:Nat):Int) from rfl,h1]
  unfold I4
  dsimp only
  rw [Nat.beq_refl]; rfl
 ·have:(ns n).any p=true:=List.any_eq_true.2 ⟨a,dh.2 ⟨by omega,by omega⟩,h3⟩
  rw [this,show (0:Int)=((0:Nat):Int) from rfl,h1]
  unfold I4
  dsimp only
  rw [hkj,Nat.beq_refl]; rfl
structure HZ (f g:aJ):Prop where
 F:Cm f
 G:Cm g
 fb:dw f=true
 gb:dw g=true
 es:g.aD=f.aD
 et:g.aB=f.aB
def Q4 (f:aJ) (cs:List Int):Prop:=(cs.length:Int)=f.aD.aA∧∀ y∈cs,0≤y∧y < f.aB.aF.length
section
variable {f g:aJ} (T:HZ f g)
include T
theorem HZ.head {cs:List Int} (j:Q4 f cs):THead ⟨f,g,cs⟩:=⟨T.F,T.G,T.fb,T.gb,T.es,T.et,j.1,j.2⟩
theorem Q4.put {cs:List Int} (j:Q4 f cs) {x b:Int} (b0:0≤b) (b1:b < f.aB.aF.length):Q4 f (cs.set x.toNat b):=by
 refine ⟨by rw [List.length_set]; exact j.1,fun y hy=>?_⟩
 rcases List.mem_or_eq_of_mem_set hy with h | rfl
 ·exact j.2 y h
 ·exact ⟨b0,b1⟩
section
variable {σ:Type} {al:Int→Option Bool} {alb:Int→Bool} (sf:∀ b:Int,0≤b→b < f.aB.aF.length→al b=some (alb b)) {fo:List Int→σ→Option (Bool×σ)}
include sf
end
end
end Go.Proofs.YtbhhmalgcnhniaaGreat
namespace Go.Proofs.YtbhhmalgcnhniaaGreat
open Go Go.Li
set_option linter.unusedVariables false
theorem Pu {t:bE} (hs:vW t):jD t=some (je t):=by
 unfold jD
 rw [BU hs,aE]; rfl
end Go.Proofs.YtbhhmalgcnhniaaGreat
