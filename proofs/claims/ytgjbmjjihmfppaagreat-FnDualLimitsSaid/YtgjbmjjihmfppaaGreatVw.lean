/- Lists of components of natural transformations, as the program looks for them: an enumeration in ascending order, handed on one by one. No condition beside those that each theorem names. -/
import Derived.Test.YtgjbmjjihmfppaaGreatYk
import Derived.Test.YtgjbmjjihmfppaaGreatPj
import Derived.Test.YtgjbmjjihmfppaaGreatVj
import Derived.Test.YtgjbmjjihmfppaaGreatYr
namespace Go.Proofs.YtgjbmjjihmfppaaGreat
open Go Go.Li
set_option linter.unusedVariables false
set_option linter.unusedSectionVars false
set_option linter.unusedSimpArgs false
def qv (c:aG) (x y a:Int):Bool:=gi c.aD a == x && gi c.To a == y
theorem VP {c:aG} (H:nb c) (x y:Int):gK c x y=some ((ns c.aD.length).filter (qv c x y)):=by
 have hm:=H.m
 unfold gK
 refine (congrArg an (si (ns c.aD.length) (qv c x y) (fun acc i=>(acc,(i:Int))) rfl ?_ ?_)).trans rfl
 ·intro i a acc ha DV
  obtain ⟨rfl,hi⟩:=iv ha
  show eX c x y acc i=_
  unfold eX
  rw [ay (by omega),cond_true,H.jd (by omega) (by omega),aF,H.jh (by omega) (by omega),cV (by omega) (by omega)]
  simp only [aF]
  rw [bH (by omega)]
  unfold qv
  cases h1:gi c.aD (i:Int) == x with
  | false=>rfl
  | true=>
   simp only [cond_true,aF,Bool.true_and]
   cases gi c.To (i:Int) == y <;> rfl
 ·intro acc
  show eX c x y acc _=_
  unfold eX
  rw [cQ,bm (by omega),cond_false]
theorem IT {S R:Type} {body:Int→Option (Out Int R)} {k j:Nat} {A B:Option (Out S R)} {n:Nat} (p:Int→Bool) (hkj:Nat.beq j k=false)
  (h:∀ i:Nat,i < n→body (i:Int)=bif p i then some (.exit j (i:Int)) else some (.norm ((i+1:Nat):Int))) (last:body (n:Int)=some (.exit k (n:Int))) :
  Ev k j (ah body (0:Int)) (fun _=>A) (fun _=>B)=bif (ns n).any p then B else A:=by
 have key:∀ m i:Nat,i+m=n→(ah body (i:Int)=some (.exit k (n:Int))∧∀ a:Nat,i≤a→a < n→p a=false)∨∃ a:Nat,ah body (i:Int)=some (.exit j (a:Int))∧a < n∧p a=true:=by
  intro m
  induction m with
  | zero=>
   intro i hi
   obtain rfl:i=n:=by omega
   exact .inl ⟨mb last,fun a h1 h2=>by omega⟩
  | succ m ih=>
   intro i hi
   rw [oh,h i (by omega)]
   cases hp:p i with
   | true=>exact .inr ⟨i,rfl,by omega,hp⟩
   | false=>
    rcases ih (i+1) (by omega) with ⟨h1,h2⟩ | h1
    ·refine .inl ⟨h1,fun a a0 a1=>?_⟩
     rcases Nat.lt_or_ge i a with h3 | h3
     ·exact h2 a h3 a1
     ·obtain rfl:a=i:=by omega
      exact hp
    ·exact .inr h1
 rcases key n 0 (by omega) with ⟨h1,h2⟩ | ⟨a,h1,h2,h3⟩
 ·have:(ns n).any p=false:=ee.2 fun i i0 i1=>by have:=h2 i.toNat (by omega) (by omega); rwa [show ((i.toNat:Nat):Int)=i by omega] at this
  rw [this,show (0:Int)=((0:Nat):Int) from rfl,h1]
  unfold Ev
  dsimp only
  rw [Nat.beq_refl]; rfl
 ·have:(ns n).any p=true:=List.any_eq_true.2 ⟨a,bu.2 ⟨by omega,by omega⟩,h3⟩
  rw [this,show (0:Int)=((0:Nat):Int) from rfl,h1]
  unfold Ev
  dsimp only
  rw [hkj,Nat.beq_refl]; rfl
structure Ck (f g:aN):Prop where
 F:IS f
 G:IS g
 fb:jm f=true
 gb:jm g=true
 es:g.aH=f.aH
 et:g.aI=f.aI
def Ah (f:aN) (cs:List Int):Prop:=(cs.length:Int)=f.aH.aA∧∀ y∈cs,0≤y∧y < f.aI.aD.length
def vr (f:aN) (a:Int):Int:=if gi f.aH.To a > gi f.aH.aD a then gi f.aH.To a else gi f.aH.aD a
def vE (f g:aN) (x:Int) (cs:List Int) (a:Int):Bool:=(vr f a == x) && !(rR f g cs a)
def vD (f g:aN) (x:Int) (cs:List Int):Bool:=!((ns f.aH.aD.length).any (vE f g x cs))
def xW (al:Int→Bool) (f g:aN) (p:List Int) (b:Int):Bool:=al b && vD f g p.length (p++[b])
def kn (al:Int→Bool) (f g:aN):Nat→List Int→List (List Int)
 | 0,p=>[p]
 | k+1,p=>(((ns f.aI.aD.length).filter (qv f.aI (gi f.aA p.length) (gi g.aA p.length))).filter (xW al f g p)).flatMap fun b=>kn al f g k (p++[b])
def sK {σ:Type} (fo:List Int→σ→Option (Bool×σ)):List (List Int)→σ→Option (Bool×σ)
 | [],st=>some (true,st)
 | c :: l,st=>fo c st>>=fun y=>bif !y.1 then some (false,y.2) else sK fo l y.2
theorem Ph {σ:Type} {fo:List Int→σ→Option (Bool×σ)} {l2:List (List Int)}:∀ (l1:List (List Int)) (st:σ),sK fo (l1++l2) st=sK fo l1 st>>=fun y=>bif !y.1 then some (false,y.2) else sK fo l2 y.2:=by
 intro l1
 induction l1 with
 | nil=>intro st; rfl
 | cons c l1 ih=>
  intro st
  show (fo c st>>=fun y=>bif !y.1 then some (false,y.2) else sK fo (l1++l2) y.2)=(fo c st>>=fun y=>bif !y.1 then some (false,y.2) else sK fo l1 y.2)>>=_
  cases fo c st with
  | none=>rfl
  | some y=>
   show (bif !y.1 then some (false,y.2) else sK fo (l1++l2) y.2)=(bif !y.1 then some (false,y.2) else sK fo l1 y.2)>>=_
   cases y.1 with
   | false=>rfl
   | true=>exact ih y.2
def Cn (p cs:List Int):Prop:=∀ i:Int,0≤i→i < p.length→gi cs i=gi p i
section
variable {f g:aN} (T:Ck f g)
include T
theorem Ck.head {cs:List Int} (j:Ah f cs):THead ⟨f,g,cs⟩:=⟨T.F,T.G,T.fb,T.gb,T.es,T.et,j.1,j.2⟩
theorem ET {cs ds:List Int} {a:Int} (a0:0≤a) (a1:a < f.aH.aD.length) (h:∀ i:Int,0≤i→i≤vr f a→gi cs i=gi ds i):rR f g cs a=rR f g ds a:=by
 have kf:=T.F.c.fr a0 a1
 have kt:=T.F.c.to a0 a1
 have hm:gi f.aH.aD a≤vr f a∧gi f.aH.To a≤vr f a:=by unfold vr; split <;> omega
 unfold rR
 rw [h _ kf.1 hm.1,h _ kt.1 hm.2]
theorem Kh {cs ds:List Int} {x:Int} (h:∀ i:Int,0≤i→i≤x→gi cs i=gi ds i):vD f g x cs=vD f g x ds:=by
 have:∀ a∈ns f.aH.aD.length,vE f g x cs a=vE f g x ds a:=by
  intro a ha
  obtain ⟨a0,a1⟩:=bu.1 ha
  unfold vE
  by_cases e:vr f a=x
  ·rw [ET T a0 a1 fun i i0 i1=>h i i0 (by omega)]
  ·rw [sZ e]; rfl
 unfold vD
 congr 1
 rw [Bool.eq_iff_iff,List.any_eq_true,List.any_eq_true]
 exact ⟨fun ⟨a,h1,h2⟩=>⟨a,h1,by rw [← this a h1]; exact h2⟩,fun ⟨a,h1,h2⟩=>⟨a,h1,by rw [this a h1]; exact h2⟩⟩
theorem Ah.put {cs:List Int} (j:Ah f cs) {x b:Int} (b0:0≤b) (b1:b < f.aI.aD.length):Ah f (cs.set x.toNat b):=by
 refine ⟨by rw [List.length_set]; exact j.1,fun y hy=>?_⟩
 rcases List.mem_or_eq_of_mem_set hy with h | rfl
 ·exact j.2 y h
 ·exact ⟨b0,b1⟩
section
variable {σ:Type} {al:Int→Option Bool} {A7:Int→Bool} (yC:∀ b:Int,0≤b→b < f.aI.aD.length→al b=some (A7 b)) {fo:List Int→σ→Option (Bool×σ)}
include yC
end
structure xV (f g:aN) (p:List Int):Prop where
 v:∀ i:Int,0≤i→i < p.length→(0≤gi p i∧gi p i < f.aI.aD.length)∧gi f.aI.aD (gi p i)=gi f.aA i∧gi f.aI.To (gi p i)=gi g.aA i
 s:∀ a:Int,0≤a→a < f.aH.aD.length→vr f a < p.length→rR f g p a=true
theorem wg {A7:Int→Bool}:∀ (k:Nat) (p c:List Int),xV f g p→c∈kn A7 f g k p→xV f g c∧c.length=p.length+k:=by
 intro k
 induction k with
 | zero=>
  intro p c hp hc
  obtain rfl:c=p:=by simpa [kn] using hc
  exact ⟨hp,rfl⟩
 | succ k ih=>
  intro p c hp hc
  unfold kn at hc
  obtain ⟨b,hb,hc⟩:=List.mem_flatMap.1 hc
  obtain ⟨AM,r9⟩:=List.mem_filter.1 hb
  obtain ⟨hb3,QU⟩:=List.mem_filter.1 AM
  have hv:=bu.1 hb3
  unfold xW at r9
  unfold qv at QU
  simp only [Bool.and_eq_true,beq_iff_eq] at r9 QU
  have hg:xV f g (p++[b]):=by
   refine ⟨fun i i0 i1=>?_,fun a a0 a1 hm=>?_⟩
   ·rw [List.length_append,List.length_singleton] at i1
    rw [j9 i0]
    by_cases e:i < p.length
    ·rw [if_pos e]; exact hp.v i i0 e
    ·obtain rfl:i=(p.length:Int):=by omega
     rw [if_neg e,if_pos rfl]; exact ⟨hv,QU.1,QU.2⟩
   ·rw [List.length_append,List.length_singleton] at hm
    by_cases e:vr f a=p.length
    ·have h1:=r9.2
     unfold vD at h1
     rw [Bool.not_eq_true',ee] at h1
     have:=h1 a a0 a1
     unfold vE at this
     rw [yn e] at this
     simpa using this
    ·rw [ET T (ds:=p) a0 a1 fun i i0 i1=>by rw [j9 i0,if_pos (by omega)]]
     exact hp.s a a0 a1 (by omega)
  obtain ⟨h1,h2⟩:=ih (p++[b]) c hg hc
  rw [List.length_append,List.length_singleton] at h2
  exact ⟨h1,by omega⟩
theorem AZ:xV f g []:=by
 refine ⟨fun i i0 i1=>by simp at i1; omega,fun a a0 a1 hm=>?_⟩
 have k:=T.F.c.fr a0 a1
 unfold vr at hm
 simp at hm
 split at hm <;> omega
theorem EJ {c:List Int} (h:xV f g c) (hl:(c.length:Int)=f.aH.aA):s7 ⟨f,g,c⟩ = true:=by
 refine We T.fb T.gb T.es T.et hl (fun y hy=>?_) (fun x x0 x1=>(h.v x x0 (by dsimp only at x1; omega)).2.1) (fun x x0 x1=>(h.v x x0 (by dsimp only at x1; omega)).2.2) fun a a0 a1=>?_
 ·obtain ⟨i,hi,rfl⟩:=List.mem_iff_getElem.1 hy
  replace hi:i < c.length:=hi
  have:=(h.v (i:Int) (by omega) (by omega)).1
  unfold gi at this
  rw [List.getD_eq_getElem?_getD,Int.toNat_natCast,List.getElem?_eq_getElem hi] at this
  exact this
 ·have kf:=T.F.c.fr a0 a1
  have kt:=T.F.c.to a0 a1
  have:=h.s a a0 a1 (by unfold vr; split <;> omega)
  unfold rR at this
  simpa using this
theorem ME {A7:Int→Bool} {c:List Int} (hc:c∈kn A7 f g f.aH.aA.toNat []):s7 ⟨f,g,c⟩ = true∧(c.length:Int)=f.aH.aA:=by
 have c0:=T.F.c.o0
 obtain ⟨h1,h2⟩:=wg T _ _ _ (AZ T) hc
 have:(c.length:Int)=f.aH.aA:=by simp at h2; omega
 exact ⟨EJ T h1 this,this⟩
end
end Go.Proofs.YtgjbmjjihmfppaaGreat
namespace Go.Proofs.YtgjbmjjihmfppaaGreat
open Go Go.Li
set_option linter.unusedVariables false
end Go.Proofs.YtgjbmjjihmfppaaGreat
