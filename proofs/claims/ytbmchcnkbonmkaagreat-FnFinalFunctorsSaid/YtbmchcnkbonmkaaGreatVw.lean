/- Lists of components of natural transformations, as the program looks for them: an enumeration in ascending order, handed on one by one. No condition beside those that each theorem names. -/
import Derived.Test.YtbmchcnkbonmkaaGreatYk
import Derived.Test.YtbmchcnkbonmkaaGreatPj
import Derived.Test.YtbmchcnkbonmkaaGreatVj
import Derived.Test.YtbmchcnkbonmkaaGreatYr
namespace Go.Proofs.YtbmchcnkbonmkaaGreat
open Go Go.Li
set_option linter.unusedVariables false
set_option linter.unusedSectionVars false
set_option linter.unusedSimpArgs false
def p8 (c:aG) (x y a:Int):Bool:=gi c.aC a == x && gi c.To a == y
theorem RR {c:aG} (H:mc c) (x y:Int):fP c x y=some ((ns c.aC.length).filter (p8 c x y)):=by
 have hm:=H.m
 unfold fP
 refine (congrArg ak (tX (ns c.aC.length) (p8 c x y) (fun acc i=>(acc,(i:Int))) rfl ?_ ?_)).trans rfl
 ·intro i a acc ha F5
  obtain ⟨rfl,hi⟩:=ij ha
  show fL c x y acc i=_
  unfold fL
  rw [aq (by omega),cond_true,H.ji (by omega) (by omega),aD,H.jj (by omega) (by omega),cN (by omega) (by omega)]
  simp only [aD]
  rw [bH (by omega)]
  unfold p8
  cases h1:gi c.aC (i:Int) == x with
  | false=>rfl
  | true=>
   simp only [cond_true,aD,Bool.true_and]
   cases gi c.To (i:Int) == y <;> rfl
 ·intro acc
  show fL c x y acc _=_
  unfold fL
  rw [bZ,ba (by omega),cond_false]
theorem Lq {S R:Type} {body:Int→Option (Out Int R)} {k j:Nat} {A B:Option (Out S R)} {n:Nat} (p:Int→Bool) (Yk:Nat.beq j k=false)
  (h:∀ i:Nat,i < n→body (i:Int)=bif p i then some (.exit j (i:Int)) else some (.norm ((i+1:Nat):Int))) (last:body (n:Int)=some (.exit k (n:Int))) :
  GL k j (af body (0:Int)) (fun _=>A) (fun _=>B)=bif (ns n).any p then B else A:=by
 have key:∀ m i:Nat,i+m=n→(af body (i:Int)=some (.exit k (n:Int))∧∀ a:Nat,i≤a→a < n→p a=false)∨∃ a:Nat,af body (i:Int)=some (.exit j (a:Int))∧a < n∧p a=true:=by
  intro m
  induction m with
  | zero=>
   intro i hi
   obtain rfl:i=n:=by omega
   exact .inl ⟨mj last,fun a h1 h2=>by omega⟩
  | succ m ih=>
   intro i hi
   rw [o4,h i (by omega)]
   cases hp:p i with
   | true=>exact .inr ⟨i,rfl,by omega,hp⟩
   | false=>
    rcases ih (i+1) (by omega) with ⟨h1,h2⟩ | h1
    ·refine .inl ⟨h1,fun a a0 a1=>?_⟩
     rcases Nat.lt_or_ge i a with h3 | h3
     ·exact h2 a h3 a1
     ·obtain rfl:a=i:=by omega
      exact hp
    ·exact .inr h1
 rcases key n 0 (by omega) with ⟨h1,h2⟩ | ⟨a,h1,h2,h3⟩
 ·have:(ns n).any p=false:=dy.2 fun i i0 i1=>by have:=h2 i.toNat (by omega) (by omega); rwa [show ((i.toNat:Nat):Int)=i by omega] at this
  rw [this,show (0:Int)=((0:Nat):Int) from rfl,h1]
  unfold GL
  dsimp only
  rw [Nat.beq_refl]; rfl
 ·have:(ns n).any p=true:=List.any_eq_true.2 ⟨a,bp.2 ⟨by omega,by omega⟩,h3⟩
  rw [this,show (0:Int)=((0:Nat):Int) from rfl,h1]
  unfold GL
  dsimp only
  rw [Yk,Nat.beq_refl]; rfl
structure D6 (f g:aJ):Prop where
 F:Lp f
 G:Lp g
 fb:fk f=true
 gb:fk g=true
 es:g.aE=f.aE
 et:g.aF=f.aF
def BX (f:aJ) (cs:List Int):Prop:=(cs.length:Int)=f.aE.aA∧∀ y∈cs,0≤y∧y < f.aF.aC.length
def w9 (f:aJ) (a:Int):Int:=if gi f.aE.To a > gi f.aE.aC a then gi f.aE.To a else gi f.aE.aC a
def xu (f g:aJ) (x:Int) (cs:List Int) (a:Int):Bool:=(w9 f a == x) && !(tC f g cs a)
def xt (f g:aJ) (x:Int) (cs:List Int):Bool:=!((ns f.aE.aC.length).any (xu f g x cs))
def zK (al:Int→Bool) (f g:aJ) (p:List Int) (b:Int):Bool:=al b && xt f g p.length (p++[b])
def km (al:Int→Bool) (f g:aJ):Nat→List Int→List (List Int)
 | 0,p=>[p]
 | k+1,p=>(((ns f.aF.aC.length).filter (p8 f.aF (gi f.aA p.length) (gi g.aA p.length))).filter (zK al f g p)).flatMap fun b=>km al f g k (p++[b])
def uB {σ:Type} (fo:List Int→σ→Option (Bool×σ)):List (List Int)→σ→Option (Bool×σ)
 | [],st=>some (true,st)
 | c :: l,st=>fo c st>>=fun y=>bif !y.1 then some (false,y.2) else uB fo l y.2
theorem R0 {σ:Type} {fo:List Int→σ→Option (Bool×σ)} {l2:List (List Int)}:∀ (l1:List (List Int)) (st:σ),uB fo (l1++l2) st=uB fo l1 st>>=fun y=>bif !y.1 then some (false,y.2) else uB fo l2 y.2:=by
 intro l1
 induction l1 with
 | nil=>intro st; rfl
 | cons c l1 ih=>
  intro st
  show (fo c st>>=fun y=>bif !y.1 then some (false,y.2) else uB fo (l1++l2) y.2)=(fo c st>>=fun y=>bif !y.1 then some (false,y.2) else uB fo l1 y.2)>>=_
  cases fo c st with
  | none=>rfl
  | some y=>
   show (bif !y.1 then some (false,y.2) else uB fo (l1++l2) y.2)=(bif !y.1 then some (false,y.2) else uB fo l1 y.2)>>=_
   cases y.1 with
   | false=>rfl
   | true=>exact ih y.2
def D7 (p cs:List Int):Prop:=∀ i:Int,0≤i→i < p.length→gi cs i=gi p i
section
variable {f g:aJ} (T:D6 f g)
include T
theorem D6.head {cs:List Int} (j:BX f cs):THead ⟨f,g,cs⟩:=⟨T.F,T.G,T.fb,T.gb,T.es,T.et,j.1,j.2⟩
theorem Ha {cs ds:List Int} {a:Int} (a0:0≤a) (a1:a < f.aE.aC.length) (h:∀ i:Int,0≤i→i≤w9 f a→gi cs i=gi ds i):tC f g cs a=tC f g ds a:=by
 have kf:=T.F.c.fr a0 a1
 have kt:=T.F.c.to a0 a1
 have hm:gi f.aE.aC a≤w9 f a∧gi f.aE.To a≤w9 f a:=by unfold w9; split <;> omega
 unfold tC
 rw [h _ kf.1 hm.1,h _ kt.1 hm.2]
theorem M4 {cs ds:List Int} {x:Int} (h:∀ i:Int,0≤i→i≤x→gi cs i=gi ds i):xt f g x cs=xt f g x ds:=by
 have:∀ a∈ns f.aE.aC.length,xu f g x cs a=xu f g x ds a:=by
  intro a ha
  obtain ⟨a0,a1⟩:=bp.1 ha
  unfold xu
  by_cases e:w9 f a=x
  ·rw [Ha T a0 a1 fun i i0 i1=>h i i0 (by omega)]
  ·rw [tV e]; rfl
 unfold xt
 congr 1
 rw [Bool.eq_iff_iff,List.any_eq_true,List.any_eq_true]
 exact ⟨fun ⟨a,h1,h2⟩=>⟨a,h1,by rw [← this a h1]; exact h2⟩,fun ⟨a,h1,h2⟩=>⟨a,h1,by rw [this a h1]; exact h2⟩⟩
theorem BX.put {cs:List Int} (j:BX f cs) {x b:Int} (b0:0≤b) (b1:b < f.aF.aC.length):BX f (cs.set x.toNat b):=by
 refine ⟨by rw [List.length_set]; exact j.1,fun y hy=>?_⟩
 rcases List.mem_or_eq_of_mem_set hy with h | rfl
 ·exact j.2 y h
 ·exact ⟨b0,b1⟩
section
variable {σ:Type} {al:Int→Option Bool} {CL:Int→Bool} (Al:∀ b:Int,0≤b→b < f.aF.aC.length→al b=some (CL b)) {fo:List Int→σ→Option (Bool×σ)}
include Al
end
structure zJ (f g:aJ) (p:List Int):Prop where
 v:∀ i:Int,0≤i→i < p.length→(0≤gi p i∧gi p i < f.aF.aC.length)∧gi f.aF.aC (gi p i)=gi f.aA i∧gi f.aF.To (gi p i)=gi g.aA i
 s:∀ a:Int,0≤a→a < f.aE.aC.length→w9 f a < p.length→tC f g p a=true
theorem xS {CL:Int→Bool}:∀ (k:Nat) (p c:List Int),zJ f g p→c∈km CL f g k p→zJ f g c∧c.length=p.length+k:=by
 intro k
 induction k with
 | zero=>
  intro p c hp hc
  obtain rfl:c=p:=by simpa [km] using hc
  exact ⟨hp,rfl⟩
 | succ k ih=>
  intro p c hp hc
  unfold km at hc
  obtain ⟨b,hb,hc⟩:=List.mem_flatMap.1 hc
  obtain ⟨vE,s6⟩:=List.mem_filter.1 hb
  obtain ⟨hb3,TD⟩:=List.mem_filter.1 vE
  have hv:=bp.1 hb3
  unfold zK at s6
  unfold p8 at TD
  simp only [Bool.and_eq_true,beq_iff_eq] at s6 TD
  have hg:zJ f g (p++[b]):=by
   refine ⟨fun i i0 i1=>?_,fun a a0 a1 hm=>?_⟩
   ·rw [List.length_append,List.length_singleton] at i1
    rw [j7 i0]
    by_cases e:i < p.length
    ·rw [if_pos e]; exact hp.v i i0 e
    ·obtain rfl:i=(p.length:Int):=by omega
     rw [if_neg e,if_pos rfl]; exact ⟨hv,TD.1,TD.2⟩
   ·rw [List.length_append,List.length_singleton] at hm
    by_cases e:w9 f a=p.length
    ·have h1:=s6.2
     unfold xt at h1
     rw [Bool.not_eq_true',dy] at h1
     have:=h1 a a0 a1
     unfold xu at this
     rw [yS e] at this
     simpa using this
    ·rw [Ha T (ds:=p) a0 a1 fun i i0 i1=>by rw [j7 i0,if_pos (by omega)]]
     exact hp.s a a0 a1 (by omega)
  obtain ⟨h1,h2⟩:=ih (p++[b]) c hg hc
  rw [List.length_append,List.length_singleton] at h2
  exact ⟨h1,by omega⟩
theorem CJ:zJ f g []:=by
 refine ⟨fun i i0 i1=>by simp at i1; omega,fun a a0 a1 hm=>?_⟩
 have k:=T.F.c.fr a0 a1
 unfold w9 at hm
 simp at hm
 split at hm <;> omega
theorem G6 {c:List Int} (h:zJ f g c) (hl:(c.length:Int)=f.aE.aA):uT ⟨f,g,c⟩ = true:=by
 refine YM T.fb T.gb T.es T.et hl (fun y hy=>?_) (fun x x0 x1=>(h.v x x0 (by dsimp only at x1; omega)).2.1) (fun x x0 x1=>(h.v x x0 (by dsimp only at x1; omega)).2.2) fun a a0 a1=>?_
 ·obtain ⟨i,hi,rfl⟩:=List.mem_iff_getElem.1 hy
  replace hi:i < c.length:=hi
  have:=(h.v (i:Int) (by omega) (by omega)).1
  unfold gi at this
  rw [List.getD_eq_getElem?_getD,Int.toNat_natCast,List.getElem?_eq_getElem hi] at this
  exact this
 ·have kf:=T.F.c.fr a0 a1
  have kt:=T.F.c.to a0 a1
  have:=h.s a a0 a1 (by unfold w9; split <;> omega)
  unfold tC at this
  simpa using this
theorem Pj {CL:Int→Bool} {c:List Int} (hc:c∈km CL f g f.aE.aA.toNat []):uT ⟨f,g,c⟩ = true∧(c.length:Int)=f.aE.aA:=by
 have c0:=T.F.c.o0
 obtain ⟨h1,h2⟩:=xS T _ _ _ (CJ T) hc
 have:(c.length:Int)=f.aE.aA:=by simp at h2; omega
 exact ⟨G6 T h1 this,this⟩
end
end Go.Proofs.YtbmchcnkbonmkaaGreat
namespace Go.Proofs.YtbmchcnkbonmkaaGreat
open Go Go.Li
set_option linter.unusedVariables false
end Go.Proofs.YtbmchcnkbonmkaaGreat
