/- Lists of components of natural transformations, as the program looks for them: an enumeration in ascending order, handed on one by one. No condition beside those that each theorem names. -/
import Derived.Test.YtgjbmjjihmfppaaGreatYk
import Derived.Test.YtgjbmjjihmfppaaGreatPj
import Derived.Test.YtgjbmjjihmfppaaGreatVj
import Derived.Test.YtgjbmjjihmfppaaGreatYr
namespace Go.Proofs.YtgjbmjjihmfppaaGreat
open Go Go.Li
set_option linter.unusedVariables false
set_option linter.unusedSectionVars false
set_option linter.unusedSimpArgs false
def rf (c:aG) (x y a:Int):Bool:=gi c.aD a == x && gi c.To a == y
theorem XS {c:aG} (H:nm c) (x y:Int):iO c x y=some ((ns c.aD.length).filter (rf c x y)):=by
 have hm:=H.m
 unfold iO
 refine (congrArg ak (tK (ns c.aD.length) (rf c x y) (fun acc i=>(acc,(i:Int))) rfl ?_ ?_)).trans rfl
 ·intro i a acc ha DR
  obtain ⟨rfl,hi⟩:=iH ha
  show fZ c x y acc i=_
  unfold fZ
  rw [av (by omega),cond_true,H.js (by omega) (by omega),aF,H.j3 (by omega) (by omega),dK (by omega) (by omega)]
  simp only [aF]
  rw [bR (by omega)]
  unfold rf
  cases h1:gi c.aD (i:Int) == x with
  | false=>rfl
  | true=>
   simp only [cond_true,aF,Bool.true_and]
   cases gi c.To (i:Int) == y <;> rfl
 ·intro acc
  show fZ c x y acc _=_
  unfold fZ
  rw [dM,aX (by omega),cond_false]
theorem K1 {S R:Type} {body:Int→Option (Out Int R)} {k j:Nat} {A B:Option (Out S R)} {n:Nat} (p:Int→Bool) (hkj:Nat.beq j k=false)
  (h:∀ i:Nat,i < n→body (i:Int)=bif p i then some (.exit j (i:Int)) else some (.norm ((i+1:Nat):Int))) (last:body (n:Int)=some (.exit k (n:Int))) :
  Gr k j (ai body (0:Int)) (fun _=>A) (fun _=>B)=bif (ns n).any p then B else A:=by
 have key:∀ m i:Nat,i+m=n→(ai body (i:Int)=some (.exit k (n:Int))∧∀ a:Nat,i≤a→a < n→p a=false)∨∃ a:Nat,ai body (i:Int)=some (.exit j (a:Int))∧a < n∧p a=true:=by
  intro m
  induction m with
  | zero=>
   intro i hi
   obtain rfl:i=n:=by omega
   exact .inl ⟨ml last,fun a h1 h2=>by omega⟩
  | succ m ih=>
   intro i hi
   rw [oh,h i (by omega)]
   cases hp:p i with
   | true=>exact .inr ⟨i,rfl,by omega,hp⟩
   | false=>
    rcases ih (i+1) (by omega) with ⟨h1,h2⟩ | h1
    ·refine .inl ⟨h1,fun a a0 a1=>?_⟩
     rcases Nat.lt_or_ge i a with h3 | h3
     ·exact h2 a h3 a1
     ·obtain rfl:a=i:=by omega
      exact hp
    ·exact .inr h1
 rcases key n 0 (by omega) with ⟨h1,h2⟩ | ⟨a,h1,h2,h3⟩
 ·have:(ns n).any p=false:=ec.2 fun i i0 i1=>by have:=h2 i.toNat (by omega) (by omega); rwa [show ((i.toNat:Nat):Int)=i by omega] at this
  rw [this,show (0:Int)=((0:Nat):Int) from rfl,h1]
  unfold Gr
  dsimp only
  rw [Nat.beq_refl]; rfl
 ·have:(ns n).any p=true:=List.any_eq_true.2 ⟨a,ca.2 ⟨by omega,by omega⟩,h3⟩
  rw [this,show (0:Int)=((0:Nat):Int) from rfl,h1]
  unfold Gr
  dsimp only
  rw [hkj,Nat.beq_refl]; rfl
structure DQ (f g:aI):Prop where
 F:K0 f
 G:K0 g
 fb:bx f=true
 gb:bx g=true
 es:g.aC=f.aC
 et:g.aE=f.aE
def BJ (f:aI) (cs:List Int):Prop:=(cs.length:Int)=f.aC.aA∧∀ y∈cs,0≤y∧y < f.aE.aD.length
def w5 (f:aI) (a:Int):Int:=if gi f.aC.To a > gi f.aC.aD a then gi f.aC.To a else gi f.aC.aD a
def xp (f g:aI) (x:Int) (cs:List Int) (a:Int):Bool:=(w5 f a == x) && !(sX f g cs a)
def xn (f g:aI) (x:Int) (cs:List Int):Bool:=!((ns f.aC.aD.length).any (xp f g x cs))
def zp (al:Int→Bool) (f g:aI) (p:List Int) (b:Int):Bool:=al b && xn f g p.length (p++[b])
def ks (al:Int→Bool) (f g:aI):Nat→List Int→List (List Int)
 | 0,p=>[p]
 | k+1,p=>(((ns f.aE.aD.length).filter (rf f.aE (gi f.aA p.length) (gi g.aA p.length))).filter (zp al f g p)).flatMap fun b=>ks al f g k (p++[b])
def ue {σ:Type} (fo:List Int→σ→Option (Bool×σ)):List (List Int)→σ→Option (Bool×σ)
 | [],st=>some (true,st)
 | c :: l,st=>fo c st>>=fun y=>bif !y.1 then some (false,y.2) else ue fo l y.2
theorem Rk {σ:Type} {fo:List Int→σ→Option (Bool×σ)} {l2:List (List Int)}:∀ (l1:List (List Int)) (st:σ),ue fo (l1++l2) st=ue fo l1 st>>=fun y=>bif !y.1 then some (false,y.2) else ue fo l2 y.2:=by
 intro l1
 induction l1 with
 | nil=>intro st; rfl
 | cons c l1 ih=>
  intro st
  show (fo c st>>=fun y=>bif !y.1 then some (false,y.2) else ue fo (l1++l2) y.2)=(fo c st>>=fun y=>bif !y.1 then some (false,y.2) else ue fo l1 y.2)>>=_
  cases fo c st with
  | none=>rfl
  | some y=>
   show (bif !y.1 then some (false,y.2) else ue fo (l1++l2) y.2)=(bif !y.1 then some (false,y.2) else ue fo l1 y.2)>>=_
   cases y.1 with
   | false=>rfl
   | true=>exact ih y.2
def DU (p cs:List Int):Prop:=∀ i:Int,0≤i→i < p.length→gi cs i=gi p i
section
variable {f g:aI} (T:DQ f g)
include T
theorem DQ.head {cs:List Int} (j:BJ f cs):THead ⟨f,g,cs⟩:=⟨T.F,T.G,T.fb,T.gb,T.es,T.et,j.1,j.2⟩
theorem GP {cs ds:List Int} {a:Int} (a0:0≤a) (a1:a < f.aC.aD.length) (h:∀ i:Int,0≤i→i≤w5 f a→gi cs i=gi ds i):sX f g cs a=sX f g ds a:=by
 have kf:=T.F.c.fr a0 a1
 have kt:=T.F.c.to a0 a1
 have hm:gi f.aC.aD a≤w5 f a∧gi f.aC.To a≤w5 f a:=by unfold w5; split <;> omega
 unfold sX
 rw [h _ kf.1 hm.1,h _ kt.1 hm.2]
theorem MI {cs ds:List Int} {x:Int} (h:∀ i:Int,0≤i→i≤x→gi cs i=gi ds i):xn f g x cs=xn f g x ds:=by
 have:∀ a∈ns f.aC.aD.length,xp f g x cs a=xp f g x ds a:=by
  intro a ha
  obtain ⟨a0,a1⟩:=ca.1 ha
  unfold xp
  by_cases e:w5 f a=x
  ·rw [GP T a0 a1 fun i i0 i1=>h i i0 (by omega)]
  ·rw [sy e]; rfl
 unfold xn
 congr 1
 rw [Bool.eq_iff_iff,List.any_eq_true,List.any_eq_true]
 exact ⟨fun ⟨a,h1,h2⟩=>⟨a,h1,by rw [← this a h1]; exact h2⟩,fun ⟨a,h1,h2⟩=>⟨a,h1,by rw [this a h1]; exact h2⟩⟩
theorem BJ.put {cs:List Int} (j:BJ f cs) {x b:Int} (b0:0≤b) (b1:b < f.aE.aD.length):BJ f (cs.set x.toNat b):=by
 refine ⟨by rw [List.length_set]; exact j.1,fun y hy=>?_⟩
 rcases List.mem_or_eq_of_mem_set hy with h | rfl
 ·exact j.2 y h
 ·exact ⟨b0,b1⟩
section
variable {σ:Type} {al:Int→Option Bool} {Cw:Int→Bool} (zQ:∀ b:Int,0≤b→b < f.aE.aD.length→al b=some (Cw b)) {fo:List Int→σ→Option (Bool×σ)}
include zQ
end
structure zo (f g:aI) (p:List Int):Prop where
 v:∀ i:Int,0≤i→i < p.length→(0≤gi p i∧gi p i < f.aE.aD.length)∧gi f.aE.aD (gi p i)=gi f.aA i∧gi f.aE.To (gi p i)=gi g.aA i
 s:∀ a:Int,0≤a→a < f.aC.aD.length→w5 f a < p.length→sX f g p a=true
theorem xP {Cw:Int→Bool}:∀ (k:Nat) (p c:List Int),zo f g p→c∈ks Cw f g k p→zo f g c∧c.length=p.length+k:=by
 intro k
 induction k with
 | zero=>
  intro p c hp hc
  obtain rfl:c=p:=by simpa [ks] using hc
  exact ⟨hp,rfl⟩
 | succ k ih=>
  intro p c hp hc
  unfold ks at hc
  obtain ⟨b,hb,hc⟩:=List.mem_flatMap.1 hc
  obtain ⟨B9,tD⟩:=List.mem_filter.1 hb
  obtain ⟨hb3,S9⟩:=List.mem_filter.1 B9
  have hv:=ca.1 hb3
  unfold zp at tD
  unfold rf at S9
  simp only [Bool.and_eq_true,beq_iff_eq] at tD S9
  have hg:zo f g (p++[b]):=by
   refine ⟨fun i i0 i1=>?_,fun a a0 a1 hm=>?_⟩
   ·rw [List.length_append,List.length_singleton] at i1
    rw [km i0]
    by_cases e:i < p.length
    ·rw [if_pos e]; exact hp.v i i0 e
    ·obtain rfl:i=(p.length:Int):=by omega
     rw [if_neg e,if_pos rfl]; exact ⟨hv,S9.1,S9.2⟩
   ·rw [List.length_append,List.length_singleton] at hm
    by_cases e:w5 f a=p.length
    ·have h1:=tD.2
     unfold xn at h1
     rw [Bool.not_eq_true',ec] at h1
     have:=h1 a a0 a1
     unfold xp at this
     rw [yA e] at this
     simpa using this
    ·rw [GP T (ds:=p) a0 a1 fun i i0 i1=>by rw [km i0,if_pos (by omega)]]
     exact hp.s a a0 a1 (by omega)
  obtain ⟨h1,h2⟩:=ih (p++[b]) c hg hc
  rw [List.length_append,List.length_singleton] at h2
  exact ⟨h1,by omega⟩
theorem Cr:zo f g []:=by
 refine ⟨fun i i0 i1=>by simp at i1; omega,fun a a0 a1 hm=>?_⟩
 have k:=T.F.c.fr a0 a1
 unfold w5 at hm
 simp at hm
 split at hm <;> omega
theorem GL {c:List Int} (h:zo f g c) (hl:(c.length:Int)=f.aC.aA):uD ⟨f,g,c⟩ = true:=by
 refine X8 T.fb T.gb T.es T.et hl (fun y hy=>?_) (fun x x0 x1=>(h.v x x0 (by dsimp only at x1; omega)).2.1) (fun x x0 x1=>(h.v x x0 (by dsimp only at x1; omega)).2.2) fun a a0 a1=>?_
 ·obtain ⟨i,hi,rfl⟩:=List.mem_iff_getElem.1 hy
  replace hi:i < c.length:=hi
  have:=(h.v (i:Int) (by omega) (by omega)).1
  unfold gi at this
  rw [List.getD_eq_getElem?_getD,Int.toNat_natCast,List.getElem?_eq_getElem hi] at this
  exact this
 ·have kf:=T.F.c.fr a0 a1
  have kt:=T.F.c.to a0 a1
  have:=h.s a a0 a1 (by unfold w5; split <;> omega)
  unfold sX at this
  simpa using this
theorem OS {Cw:Int→Bool} {c:List Int} (hc:c∈ks Cw f g f.aC.aA.toNat []):uD ⟨f,g,c⟩ = true∧(c.length:Int)=f.aC.aA:=by
 have c0:=T.F.c.o0
 obtain ⟨h1,h2⟩:=xP T _ _ _ (Cr T) hc
 have:(c.length:Int)=f.aC.aA:=by simp at h2; omega
 exact ⟨GL T h1 this,this⟩
end
end Go.Proofs.YtgjbmjjihmfppaaGreat
namespace Go.Proofs.YtgjbmjjihmfppaaGreat
open Go Go.Li
set_option linter.unusedVariables false
end Go.Proofs.YtgjbmjjihmfppaaGreat
