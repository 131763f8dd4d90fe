/- Lists of components of natural transformations, as the program looks for them: an enumeration in ascending order, handed on one by one. No condition beside those that each theorem names. -/
import Derived.Test.YtgjbmjjihmfppaaGreatYk
import Derived.Test.YtgjbmjjihmfppaaGreatPj
import Derived.Test.YtgjbmjjihmfppaaGreatVj
import Derived.Test.YtgjbmjjihmfppaaGreatYr
namespace Go.Proofs.YtgjbmjjihmfppaaGreat
open Go Go.Li
set_option linter.unusedVariables false
set_option linter.unusedSectionVars false
set_option linter.unusedSimpArgs false
def qj (c:aI) (x y a:Int):Bool:=gi c.aF a == x && gi c.To a == y
theorem Wu {c:aI} (H:oh c) (x y:Int):iB c x y=some ((ns c.aF.length).filter (qj c x y)):=by
 have hm:=H.m
 unfold iB
 refine (congrArg ak (s8 (ns c.aF.length) (qj c x y) (fun acc i=>(acc,(i:Int))) rfl ?_ ?_)).trans rfl
 ·intro i a acc ha Dd
  obtain ⟨rfl,hi⟩:=ic ha
  show fU c x y acc i=_
  unfold fU
  rw [av (by omega),cond_true,H.ja (by omega) (by omega),aG,H.je (by omega) (by omega),dF (by omega) (by omega)]
  simp only [aG]
  rw [bN (by omega)]
  unfold qj
  cases h1:gi c.aF (i:Int) == x with
  | false=>rfl
  | true=>
   simp only [cond_true,aG,Bool.true_and]
   cases gi c.To (i:Int) == y <;> rfl
 ·intro acc
  show fU c x y acc _=_
  unfold fU
  rw [dD,bd (by omega),cond_false]
theorem Kc {S R:Type} {body:Int→Option (Out Int R)} {k j:Nat} {A B:Option (Out S R)} {n:Nat} (p:Int→Bool) (hkj:Nat.beq j k=false)
  (h:∀ i:Nat,i < n→body (i:Int)=bif p i then some (.exit j (i:Int)) else some (.norm ((i+1:Nat):Int))) (last:body (n:Int)=some (.exit k (n:Int))) :
  Fx k j (ai body (0:Int)) (fun _=>A) (fun _=>B)=bif (ns n).any p then B else A:=by
 have key:∀ m i:Nat,i+m=n→(ai body (i:Int)=some (.exit k (n:Int))∧∀ a:Nat,i≤a→a < n→p a=false)∨∃ a:Nat,ai body (i:Int)=some (.exit j (a:Int))∧a < n∧p a=true:=by
  intro m
  induction m with
  | zero=>
   intro i hi
   obtain rfl:i=n:=by omega
   exact .inl ⟨lv last,fun a h1 h2=>by omega⟩
  | succ m ih=>
   intro i hi
   rw [nk,h i (by omega)]
   cases hp:p i with
   | true=>exact .inr ⟨i,rfl,by omega,hp⟩
   | false=>
    rcases ih (i+1) (by omega) with ⟨h1,h2⟩ | h1
    ·refine .inl ⟨h1,fun a a0 a1=>?_⟩
     rcases Nat.lt_or_ge i a with h3 | h3
     ·exact h2 a h3 a1
     ·obtain rfl:a=i:=by omega
      exact hp
    ·exact .inr h1
 rcases key n 0 (by omega) with ⟨h1,h2⟩ | ⟨a,h1,h2,h3⟩
 ·have:(ns n).any p=false:=dv.2 fun i i0 i1=>by have:=h2 i.toNat (by omega) (by omega); rwa [show ((i.toNat:Nat):Int)=i by omega] at this
  rw [this,show (0:Int)=((0:Nat):Int) from rfl,h1]
  unfold Fx
  dsimp only
  rw [Nat.beq_refl]; rfl
 ·have:(ns n).any p=true:=List.any_eq_true.2 ⟨a,bz.2 ⟨by omega,by omega⟩,h3⟩
  rw [this,show (0:Int)=((0:Nat):Int) from rfl,h1]
  unfold Fx
  dsimp only
  rw [hkj,Nat.beq_refl]; rfl
structure Dc (f g:aM):Prop where
 F:Ka f
 G:Ka g
 fb:ei f=true
 gb:ei g=true
 es:g.aE=f.aE
 et:g.aH=f.aH
def AT (f:aM) (cs:List Int):Prop:=(cs.length:Int)=f.aE.aA∧∀ y∈cs,0≤y∧y < f.aH.aF.length
def wb (f:aM) (a:Int):Int:=if gi f.aE.To a > gi f.aE.aF a then gi f.aE.To a else gi f.aE.aF a
def wB (f g:aM) (x:Int) (cs:List Int) (a:Int):Bool:=(wb f a == x) && !(sk f g cs a)
def wA (f g:aM) (x:Int) (cs:List Int):Bool:=!((ns f.aE.aF.length).any (wB f g x cs))
def yF (al:Int→Bool) (f g:aM) (p:List Int) (b:Int):Bool:=al b && wA f g p.length (p++[b])
def j5 (al:Int→Bool) (f g:aM):Nat→List Int→List (List Int)
 | 0,p=>[p]
 | k+1,p=>(((ns f.aH.aF.length).filter (qj f.aH (gi f.aA p.length) (gi g.aA p.length))).filter (yF al f g p)).flatMap fun b=>j5 al f g k (p++[b])
def tC {σ:Type} (fo:List Int→σ→Option (Bool×σ)):List (List Int)→σ→Option (Bool×σ)
 | [],st=>some (true,st)
 | c :: l,st=>fo c st>>=fun y=>bif !y.1 then some (false,y.2) else tC fo l y.2
theorem Qe {σ:Type} {fo:List Int→σ→Option (Bool×σ)} {l2:List (List Int)}:∀ (l1:List (List Int)) (st:σ),tC fo (l1++l2) st=tC fo l1 st>>=fun y=>bif !y.1 then some (false,y.2) else tC fo l2 y.2:=by
 intro l1
 induction l1 with
 | nil=>intro st; rfl
 | cons c l1 ih=>
  intro st
  show (fo c st>>=fun y=>bif !y.1 then some (false,y.2) else tC fo (l1++l2) y.2)=(fo c st>>=fun y=>bif !y.1 then some (false,y.2) else tC fo l1 y.2)>>=_
  cases fo c st with
  | none=>rfl
  | some y=>
   show (bif !y.1 then some (false,y.2) else tC fo (l1++l2) y.2)=(bif !y.1 then some (false,y.2) else tC fo l1 y.2)>>=_
   cases y.1 with
   | false=>rfl
   | true=>exact ih y.2
def Df (p cs:List Int):Prop:=∀ i:Int,0≤i→i < p.length→gi cs i=gi p i
section
variable {f g:aM} (T:Dc f g)
include T
theorem Dc.head {cs:List Int} (j:AT f cs):THead ⟨f,g,cs⟩:=⟨T.F,T.G,T.fb,T.gb,T.es,T.et,j.1,j.2⟩
theorem F4 {cs ds:List Int} {a:Int} (a0:0≤a) (a1:a < f.aE.aF.length) (h:∀ i:Int,0≤i→i≤wb f a→gi cs i=gi ds i):sk f g cs a=sk f g ds a:=by
 have kf:=T.F.c.fr a0 a1
 have kt:=T.F.c.to a0 a1
 have hm:gi f.aE.aF a≤wb f a∧gi f.aE.To a≤wb f a:=by unfold wb; split <;> omega
 unfold sk
 rw [h _ kf.1 hm.1,h _ kt.1 hm.2]
theorem LB {cs ds:List Int} {x:Int} (h:∀ i:Int,0≤i→i≤x→gi cs i=gi ds i):wA f g x cs=wA f g x ds:=by
 have:∀ a∈ns f.aE.aF.length,wB f g x cs a=wB f g x ds a:=by
  intro a ha
  obtain ⟨a0,a1⟩:=bz.1 ha
  unfold wB
  by_cases e:wb f a=x
  ·rw [F4 T a0 a1 fun i i0 i1=>h i i0 (by omega)]
  ·rw [r9 e]; rfl
 unfold wA
 congr 1
 rw [Bool.eq_iff_iff,List.any_eq_true,List.any_eq_true]
 exact ⟨fun ⟨a,h1,h2⟩=>⟨a,h1,by rw [← this a h1]; exact h2⟩,fun ⟨a,h1,h2⟩=>⟨a,h1,by rw [this a h1]; exact h2⟩⟩
theorem AT.put {cs:List Int} (j:AT f cs) {x b:Int} (b0:0≤b) (b1:b < f.aH.aF.length):AT f (cs.set x.toNat b):=by
 refine ⟨by rw [List.length_set]; exact j.1,fun y hy=>?_⟩
 rcases List.mem_or_eq_of_mem_set hy with h | rfl
 ·exact j.2 y h
 ·exact ⟨b0,b1⟩
section
variable {σ:Type} {al:Int→Option Bool} {BW:Int→Bool} (ze:∀ b:Int,0≤b→b < f.aH.aF.length→al b=some (BW b)) {fo:List Int→σ→Option (Bool×σ)}
include ze
end
structure yE (f g:aM) (p:List Int):Prop where
 v:∀ i:Int,0≤i→i < p.length→(0≤gi p i∧gi p i < f.aH.aF.length)∧gi f.aH.aF (gi p i)=gi f.aA i∧gi f.aH.To (gi p i)=gi g.aA i
 s:∀ a:Int,0≤a→a < f.aE.aF.length→wb f a < p.length→sk f g p a=true
theorem wZ {BW:Int→Bool}:∀ (k:Nat) (p c:List Int),yE f g p→c∈j5 BW f g k p→yE f g c∧c.length=p.length+k:=by
 intro k
 induction k with
 | zero=>
  intro p c hp hc
  obtain rfl:c=p:=by simpa [j5] using hc
  exact ⟨hp,rfl⟩
 | succ k ih=>
  intro p c hp hc
  unfold j5 at hc
  obtain ⟨b,hb,hc⟩:=List.mem_flatMap.1 hc
  obtain ⟨BC,sU⟩:=List.mem_filter.1 hb
  obtain ⟨hb3,RM⟩:=List.mem_filter.1 BC
  have hv:=bz.1 hb3
  unfold yF at sU
  unfold qj at RM
  simp only [Bool.and_eq_true,beq_iff_eq] at sU RM
  have hg:yE f g (p++[b]):=by
   refine ⟨fun i i0 i1=>?_,fun a a0 a1 hm=>?_⟩
   ·rw [List.length_append,List.length_singleton] at i1
    rw [jz i0]
    by_cases e:i < p.length
    ·rw [if_pos e]; exact hp.v i i0 e
    ·obtain rfl:i=(p.length:Int):=by omega
     rw [if_neg e,if_pos rfl]; exact ⟨hv,RM.1,RM.2⟩
   ·rw [List.length_append,List.length_singleton] at hm
    by_cases e:wb f a=p.length
    ·have h1:=sU.2
     unfold wA at h1
     rw [Bool.not_eq_true',dv] at h1
     have:=h1 a a0 a1
     unfold wB at this
     rw [xN e] at this
     simpa using this
    ·rw [F4 T (ds:=p) a0 a1 fun i i0 i1=>by rw [jz i0,if_pos (by omega)]]
     exact hp.s a a0 a1 (by omega)
  obtain ⟨h1,h2⟩:=ih (p++[b]) c hg hc
  rw [List.length_append,List.length_singleton] at h2
  exact ⟨h1,by omega⟩
theorem BS:yE f g []:=by
 refine ⟨fun i i0 i1=>by simp at i1; omega,fun a a0 a1 hm=>?_⟩
 have k:=T.F.c.fr a0 a1
 unfold wb at hm
 simp at hm
 split at hm <;> omega
theorem FW {c:List Int} (h:yE f g c) (hl:(c.length:Int)=f.aE.aA):tQ ⟨f,g,c⟩ = true:=by
 refine WK T.fb T.gb T.es T.et hl (fun y hy=>?_) (fun x x0 x1=>(h.v x x0 (by dsimp only at x1; omega)).2.1) (fun x x0 x1=>(h.v x x0 (by dsimp only at x1; omega)).2.2) fun a a0 a1=>?_
 ·obtain ⟨i,hi,rfl⟩:=List.mem_iff_getElem.1 hy
  replace hi:i < c.length:=hi
  have:=(h.v (i:Int) (by omega) (by omega)).1
  unfold gi at this
  rw [List.getD_eq_getElem?_getD,Int.toNat_natCast,List.getElem?_eq_getElem hi] at this
  exact this
 ·have kf:=T.F.c.fr a0 a1
  have kt:=T.F.c.to a0 a1
  have:=h.s a a0 a1 (by unfold wb; split <;> omega)
  unfold sk at this
  simpa using this
theorem NO {BW:Int→Bool} {c:List Int} (hc:c∈j5 BW f g f.aE.aA.toNat []):tQ ⟨f,g,c⟩ = true∧(c.length:Int)=f.aE.aA:=by
 have c0:=T.F.c.o0
 obtain ⟨h1,h2⟩:=wZ T _ _ _ (BS T) hc
 have:(c.length:Int)=f.aE.aA:=by simp at h2; omega
 exact ⟨FW T h1 this,this⟩
end
end Go.Proofs.YtgjbmjjihmfppaaGreat
namespace Go.Proofs.YtgjbmjjihmfppaaGreat
open Go Go.Li
set_option linter.unusedVariables false
end Go.Proofs.YtgjbmjjihmfppaaGreat
