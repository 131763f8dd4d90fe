/- That a model does not fail, and what it gives: rules. No condition beside those that each theorem names. -/
import Derived.Test.YtcnehblmgfbfoaaGreatPa
import Derived.Test.YtcnehblmgfbfoaaGreatPj
import Derived.Test.YtcnehblmgfbfoaaGreatPe
import Derived.KernelRfl
set_option linter.unusedVariables false
set_option linter.unusedSectionVars false
set_option linter.unusedSimpArgs false
namespace Go.Li
open Go
def Ok {α:Type} (m:Option α) (Q:α→Prop):Prop:=∃ x,m=some x∧Q x
section
variable {α β S S1 R:Type}
theorem Ok.mono {m:Option α} {P Q:α→Prop} (h:Ok m P) (hq:∀ x,P x→Q x):Ok m Q:=by
 obtain ⟨x,e,hx⟩:=h
 exact ⟨x,e,hq x hx⟩
theorem os {x:α} {Q:α→Prop} (h:Q x):Ok (some x) Q:=⟨x,rfl,h⟩
theorem ob {m:Option α} {f:α→Option β} {Q:β→Prop} {P:α→Prop} (hm:Ok m P) (h:∀ x,P x→Ok (f x) Q):Ok (m>>=f) Q:=by
 obtain ⟨x,rfl,hx⟩:=hm
 exact h x hx
theorem oe {m:Option α} {f:α→Option β} {Q:β→Prop} {x:α} (e:m=some x) (h:Ok (f x) Q):Ok (m>>=f) Q:=by
 subst e; exact h
theorem oi {l:List α} {j:Int} {f:α→Option β} {Q:β→Prop} (h0:0≤j) (h1:j < l.length) (h:∀ x∈l,Ok (f x) Q):Ok (idx l j>>=f) Q:=by
 rw [DF h0 h1]
 exact h _ (List.getElem_mem _)
theorem oc {b:Bool} {x y:Option α} {Q:α→Prop} (h1:b=true→Ok x Q) (h2:b=false→Ok y Q):Ok (bif b then x else y) Q:=by
 cases b with
 | true=>exact h1 rfl
 | false=>exact h2 rfl
theorem od {p:Prop} [Decidable p] {x y:Option α} {Q:α→Prop} (h1:p→Ok x Q) (h2 : ¬ p→Ok y Q):Ok (bif decide p then x else y) Q:=
 oc (fun h=>h1 (of_decide_eq_true h)) (fun h=>h2 (of_decide_eq_false h))
theorem og {m:Option Bool} {f:Bool→Option β} {Q:β→Prop} (hm:Ok m fun _=>True) (h:∀ b,Ok (f b) Q):Ok (m>>=f) Q:=ob hm fun b _=>h b
def Stp (k:Nat) (J:S1→Prop) (mu:S1→Nat) (n:Nat) (E:S1→Prop) (G:R→Prop):Out S1 R→Prop
 | .norm s=>J s∧mu s < n
 | .exit k' s=>k'=k∧E s
 | .ret r=>G r
def Rt (Q:R→Prop):Out S R→Prop
 | .ret r=>Q r
 | _=>False
theorem P8 {m:Option (Out S R)} {Q:R→Prop} (h:Ok m (Rt Q)):Ok (an m) Q:=by
 obtain ⟨o,rfl,ho⟩:=h
 cases o with
 | ret r=>exact ⟨r,rfl,ho⟩
 | _=>exact ho.elim
def Rn (Q:R→Prop):Out R R→Prop
 | .norm r=>Q r
 | .ret r=>Q r
 | _=>False
theorem off {m:Option (Out R R)} {Q:R→Prop} (h:Ok m (Rn Q)):Ok (Cm m) Q:=by
 obtain ⟨o,rfl,ho⟩:=h
 cases o with
 | ret r=>exact ⟨r,rfl,ho⟩
 | norm r=>exact ⟨r,rfl,ho⟩
 | _=>exact ho.elim
theorem ol {body:S1→Option (Out S1 R)} {k:Nat} {f:S1→Option (Out S R)} {Q:Out S R→Prop} (J:S1→Prop) (mu:S1→Nat) {s0:S1} (h0:J s0)
  (step:∀ s,J s→Ok (body s) (Stp k J mu (mu s) (fun s=>Ok (f s) Q) (fun r=>Q (.ret r)))):Ok (aj (ah k (ai body s0)) f) Q:=by
 have key:∀ n s,mu s=n→J s→Ok (aj (ah k (ai body s)) f) Q:=by
  intro n
  induction n using Nat.strongRecOn with
  | ind n ih=>
   intro s hn hs
   obtain ⟨o,e,ho⟩:=step s hs
   rw [pY,e]
   cases o with
   | norm s'=>exact ih _ (hn ▸ ho.2) s' rfl ho.1
   | exit k' s'=>
    obtain ⟨rfl,he⟩:=ho
    have:aj (S:=S) (ah k' (some (Out.exit k' s':Out S1 R))) f=f s':=tz rfl
    rw [this]; exact he
   | ret r=>
    have:aj (S:=S) (ah k (some (Out.ret r:Out S1 R))) f=some (.ret r):=xN rfl
    rw [this]; exact ⟨_,rfl,ho⟩
 exact key _ s0 rfl h0
end
theorem w1 {i n:Int} (h0:0≤i) (h1:i < n) (hn:n≤1048576000):bf (i+1)=i+1:=lF (by omega) (by omega)
end Go.Li
namespace Go.Proofs.YtcnehblmgfbfoaaGreat
open Go Go.Li
structure Byt (x:List Int):Prop where
 len:x.length≤4096
 b:∀ y∈x,0≤y∧y < 256
structure Jf (a b:Nat) (c:aH):Prop where
 o0:0≤c.aD
 o:c.aD≤a
 m:c.aF.length≤b
 t:c.To.length=c.aF.length
 i:(c.aG.length:Int)=c.aD
 k:c.aC.length=c.aF.length
 r:∀ y∈c.aC,y.length=c.aF.length
theorem Jf.mono {a b a' b':Nat} {c:aH} (h:Jf a b c) (ha:a≤a') (hb:b≤b'):Jf a' b' c:=
 ⟨h.o0,by have:=h.o; omega,Nat.le_trans h.m hb,h.t,h.i,h.k,h.r⟩
theorem Jf.small {a b:Nat} {c:aH} (h:Jf a b c) (ha:a≤1048576) (hb:b≤1048576):de c:=
 ⟨Nat.le_trans h.m hb,by rw [h.t]; exact Nat.le_trans h.m hb,by have:=h.i; have:=h.o; omega,by rw [h.k]; exact Nat.le_trans h.m hb,fun y hy=>by rw [h.r y hy]; exact Nat.le_trans h.m hb⟩
end Go.Proofs.YtcnehblmgfbfoaaGreat
namespace Go.Proofs.YtcnehblmgfbfoaaGreat
open Go Go.Li
end Go.Proofs.YtcnehblmgfbfoaaGreat
namespace Go.Proofs.YtcnehblmgfbfoaaGreat
open Go Go.Li
end Go.Proofs.YtcnehblmgfbfoaaGreat
namespace Go.Proofs.YtcnehblmgfbfoaaGreat
open Go Go.Li
def cap (v:Int) (e:Nat):Nat:=if v=0 then 4 * e else if v=1 then e else 0
end Go.Proofs.YtcnehblmgfbfoaaGreat
namespace Go.Proofs.YtcnehblmgfbfoaaGreat
open Go Go.Li
end Go.Proofs.YtcnehblmgfbfoaaGreat
set_option linter.unusedVariables false
set_option linter.unusedSectionVars false
set_option linter.unusedSimpArgs false
namespace Go.Proofs.YtcnehblmgfbfoaaGreat
open Go Go.Li
section
variable {S S1 R β:Type} {body:S1→Option (Out S1 R)} {k:Nat} {f:S1→Option (Out S R)} {Rk:S1}
end
theorem tx {n:Nat} {g:Int→Int} {i:Int} (h0:0≤i) (h1:i < n):gi (br n g) i=g i:=by
 obtain ⟨k,rfl⟩ : ∃ k:Nat,i=k:=⟨i.toNat,by omega⟩
 have h:=rX g (i:=k) (n:=n) (by omega)
 unfold gi
 rw [List.getD_eq_getElem?_getD,show ((k:Int)).toNat=k from rfl,h]; rfl
end Go.Proofs.YtcnehblmgfbfoaaGreat
namespace Go.Proofs.YtcnehblmgfbfoaaGreat
open Go Go.Li
structure Ty (c:aH):Prop where
 o0:0≤c.aD
 f:∀ x∈c.aF,0≤x∧x < c.aD
 tl:c.To.length=c.aF.length
 t:∀ x∈c.To,0≤x∧x < c.aD
 kl:c.aC.length=c.aF.length
 kr:∀ r∈c.aC,r.length=c.aF.length
 il:(c.aG.length:Int)=c.aD
 i:∀ x∈c.aG,0≤x∧x < c.aF.length
 Fk:∀ x:Int,0≤x→x < c.aD→gi c.aF (gi c.aG x)=x
 HZ:∀ x:Int,0≤x→x < c.aD→gi c.To (gi c.aG x)=x
 cell:∀ f g:Int,0≤f→f < c.aF.length→0≤g→g < c.aF.length→gi c.To f=gi c.aF g→(0≤gk c.aC f g∧gk c.aC f g < c.aF.length)∧gi c.aF (gk c.aC f g)=gi c.aF f∧gi c.To (gk c.aC f g)=gi c.To g
 none:∀ f g:Int,0≤f→f < c.aF.length→0≤g→g < c.aF.length→gi c.To f≠gi c.aF g→gk c.aC f g = -1
 uu:∀ x:Int,0≤x→x < c.aD→gk c.aC (gi c.aG x) (gi c.aG x)=gi c.aG x
namespace Ty
variable {c:aH} (h:Ty c)
include h
theorem fr {f:Int} (h0:0≤f) (h1:f < c.aF.length):0≤gi c.aF f∧gi c.aF f < c.aD:=h.f _ (lp h0 h1)
theorem to {f:Int} (h0:0≤f) (h1:f < c.aF.length):0≤gi c.To f∧gi c.To f < c.aD:=h.t _ (lp h0 (by rw [h.tl]; exact h1))
theorem id {x:Int} (h0:0≤x) (h1:x < c.aD):0≤gi c.aG x∧gi c.aG x < c.aF.length:=h.i _ (lp h0 (by rw [h.il]; exact h1))
theorem jk {f:Int} (h0:0≤f) (h1:f < c.aF.length):idx c.aF f=some (gi c.aF f):=have _:=h; cI h0 h1
theorem jx {f:Int} (h0:0≤f) (h1:f < c.aF.length):idx c.To f=some (gi c.To f):=cI h0 (by rw [h.tl]; exact h1)
theorem py {x:Int} (h0:0≤x) (h1:x < c.aD):idx c.aG x=some (gi c.aG x):=cI h0 (by rw [h.il]; exact h1)
theorem qt {f:Int} (h0:0≤f) (h1:f < c.aF.length):idx c.aC f=some (gr c.aC f):=jt h0 (by rw [h.kl]; exact h1)
theorem row {f:Int} (h0:0≤f) (h1:f < c.aF.length):(gr c.aC f).length=c.aF.length:=h.kr _ (jr h0 (by rw [h.kl]; exact h1))
theorem qu {f g:Int} (h0:0≤f) (h1:f < c.aF.length) (h2:0≤g) (h3:g < c.aF.length):idx (gr c.aC f) g=some (gk c.aC f g):=cI h2 (by rw [h.row h0 h1]; exact h3)
end Ty
end Go.Proofs.YtcnehblmgfbfoaaGreat
namespace Go.Proofs.YtcnehblmgfbfoaaGreat
open Go Go.Li
def xW (l:List Int) (n y:Int):Prop:=(y = -1∧∀ k:Nat,l[k]?≠some n)∨∃ k:Nat,y=k∧l[k]? = some n∧∀ j:Nat,j < k→l[j]?≠some n
theorem xW.tB {l:List Int} {n y z:Int} (h:xW l n y) (k:xW l n z):y=z:=by
 rcases h with ⟨rfl,h⟩ | ⟨a,rfl,h1,h2⟩
 ·rcases k with ⟨rfl,_⟩ | ⟨b,rfl,k1,_⟩
  ·rfl
  ·exact absurd k1 (h b)
 ·rcases k with ⟨rfl,k⟩ | ⟨b,rfl,k1,k2⟩
  ·exact absurd h1 (k a)
  ·rcases Nat.lt_trichotomy a b with vy | rfl | vy
   ·exact absurd h1 (k2 a vy)
   ·rfl
   ·exact absurd k1 (h2 b vy)
theorem xW.pos {l:List Int} {n y:Int} (h:xW l n y) (hy:0≤y):y < l.length∧l[y.toNat]? = some n:=by
 rcases h with ⟨rfl,_⟩ | ⟨k,rfl,h1,_⟩
 ·omega
 ·exact ⟨by have:=(List.getElem?_eq_some_iff.1 h1).1; omega,h1⟩
theorem xW.app {l:List Int} {n y m:Int} (h:xW l n y) (hy:0≤y):xW (l++[m]) n y:=by
 rcases h with ⟨rfl,_⟩ | ⟨k,rfl,h1,h2⟩
 ·omega
 ·have hk:=(List.getElem?_eq_some_iff.1 h1).1
  exact .inr ⟨k,rfl,by rw [List.getElem?_append_left hk]; exact h1,fun j hj=>by rw [List.getElem?_append_left (by omega)]; exact h2 j hj⟩
theorem xW.new {l:List Int} {n y:Int} (h:xW l n y) (hy:y < 0):xW (l++[n]) n (l.length:Int):=by
 rcases h with ⟨_,h⟩ | ⟨k,rfl,_⟩
 ·refine .inr ⟨l.length,rfl,by simp,fun j hj=>?_⟩
  rw [List.getElem?_append_left hj]
  exact h j
 ·omega
def Rg (q:List Int):Prop:=∀ y∈q,∀ z:Int,0≤z→z≤y→z∈q
end Go.Proofs.YtcnehblmgfbfoaaGreat
namespace Go.Proofs.YtcnehblmgfbfoaaGreat
open Go Go.Li
theorem RD {l:List (List Int)} {y:List Int} (h:y∈l):∃ i:Int,0≤i∧i < l.length∧gr l i=y:=by
 obtain ⟨k,hk⟩:=List.getElem?_of_mem h
 have hl:=(List.getElem?_eq_some_iff.1 hk).1
 refine ⟨k,by omega,by omega,?_⟩
 unfold gr
 rw [List.getD_eq_getElem?_getD,show ((k:Int)).toNat=k from rfl,hk]; rfl
theorem yn {l:List Int} {q:Int} {i j:Int} (i0:0≤i) (i1:i < l.length) (j0:0≤j):gi (l.set i.toNat q) j=if j=i then q else gi l j:=by
 unfold gi
 rw [List.getD_eq_getElem?_getD,List.getD_eq_getElem?_getD,List.getElem?_set]
 by_cases h:j=i
 ·subst h; rw [if_pos rfl,if_pos rfl,if_pos (by omega)]; rfl
 ·rw [if_neg (by omega),if_neg h]
theorem zD {l:List Int} {y:Int} (h:y∈l):∃ i:Int,0≤i∧i < l.length∧gi l i=y:=by
 obtain ⟨k,hk⟩:=List.getElem?_of_mem h
 have hl:=(List.getElem?_eq_some_iff.1 hk).1
 refine ⟨k,by omega,by omega,?_⟩
 unfold gi
 rw [List.getD_eq_getElem?_getD,show ((k:Int)).toNat=k from rfl,hk]; rfl
end Go.Proofs.YtcnehblmgfbfoaaGreat
namespace Go.Proofs.YtcnehblmgfbfoaaGreat
open Go Go.Li
theorem RI {l:List Int} {q:Int} {j:Int} (h0:0≤j):gi (l++[q]) j=if j < l.length then gi l j else if j=l.length then q else 0:=by
 obtain ⟨n,rfl⟩ : ∃ n:Nat,j=n:=⟨j.toNat,by omega⟩
 unfold gi
 rw [List.getD_eq_getElem?_getD,List.getD_eq_getElem?_getD,show ((n:Int)).toNat=n from rfl]
 by_cases h:n < l.length
 ·rw [List.getElem?_append_left h,if_pos (by omega)]
 ·rw [List.getElem?_append_right (by omega),if_neg (by omega)]
  by_cases e:n=l.length
  ·subst e; rw [if_pos rfl,Nat.sub_self]; rfl
  ·rw [if_neg (by omega),List.getElem?_eq_none (by simp; omega)]; rfl
end Go.Proofs.YtcnehblmgfbfoaaGreat
namespace Go.Proofs.YtcnehblmgfbfoaaGreat
open Go Go.Li
theorem wQ {a b:List Int} {e:Int} (h0:0≤e) (h1:e < a.length):gi (thenS a b) e=gi b (gi a e):=tx h0 h1
theorem BK {a b:List Int} {y n:Int} (hb:∀ x∈a,0≤x∧x < b.length) (hn:∀ z∈b,0≤z∧z < n) (hy:y∈thenS a b):0≤y∧y < n:=by
 obtain ⟨i,hi,rfl⟩:=ze.1 hy
 have h:=hb _ (lp hi.1 hi.2)
 exact hn _ (lp h.1 h.2)
theorem yI {n:Int} (n0:0≤n) (n1:n≤1048576):lC n=some (ns n.toNat):=by
 unfold lC
 obtain ⟨k,rfl⟩ : ∃ k:Nat,n=k:=⟨n.toNat,by omega⟩
 rw [wK (by omega) (by omega),aA]
 have hl:(ns k).length=k:=bS k
 refine (congrArg an (bu (ns k) (fun i=>((i:Int),(ns k).take i++List.replicate (k - i) (0:Int))) (by simp) ?_ (e:=((k:Int),ns k)) ?_)).trans rfl
 ·intro i x hx
  have UC:=hx
  obtain ⟨rfl,hi⟩:=ca hx
  have hc:=rW (ns k) (0:Int) UC
  have I9:=get_copy (ns k) (0:Int) UC
  rw [hl] at hc I9
  show jA k (i:Int) _=_
  unfold jA
  rw [aq (by rw [List.length_replicate]; omega),cond_true,bh,I9,aA,bK (by omega),Int.toNat_natCast,hc]
 ·rw [hl]
  show jA k _ _=_
  unfold jA
  rw [au (by rw [List.length_replicate]; omega),cond_false,Nat.sub_self,List.take_of_length_le (by omega)]
  simp
theorem G5 {n:Nat} {e:Int} (h0:0≤e) (h1:e < n):gi (ns n) e=e:=by
 have h:=tx (g:=fun e=>e) h0 h1
 rwa [show br n (fun e:Int=>e)=ns n from List.map_id' _] at h
theorem RJ {a b:List Int} (hl:a.length=b.length) (h:∀ x:Int,0≤x→x < b.length→gi a x=gi b x):a=b:=by
 refine List.ext_getElem hl fun i h1 h2=>?_
 have:=h i (by omega) (by omega)
 unfold gi at this
 rw [List.getD_eq_getElem?_getD,List.getD_eq_getElem?_getD,show ((i:Int)).toNat=i from rfl,List.getElem?_eq_getElem h1,List.getElem?_eq_getElem h2] at this
 exact this
end Go.Proofs.YtcnehblmgfbfoaaGreat
set_option linter.unusedVariables false
set_option linter.unusedSectionVars false
set_option linter.unusedSimpArgs false
set_option linter.unusedVariables false
set_option linter.unusedSimpArgs false
namespace Go.Proofs.YtcnehblmgfbfoaaGreat
open Go Go.Li
end Go.Proofs.YtcnehblmgfbfoaaGreat
set_option linter.unusedVariables false
set_option linter.unusedSimpArgs false
namespace Go.Proofs.YtcnehblmgfbfoaaGreat
open Go Go.Li
end Go.Proofs.YtcnehblmgfbfoaaGreat
set_option linter.unusedVariables false
set_option linter.unusedSimpArgs false
namespace Go.Proofs.YtcnehblmgfbfoaaGreat
open Go Go.Li
theorem Fm {n:Nat} {g:Int→List Int} {i:Int} (h0:0≤i) (h1:i < n):gr (br n g) i=g i:=by
 obtain ⟨k,rfl⟩ : ∃ k:Nat,i=k:=⟨i.toNat,by omega⟩
 have h:=rX g (i:=k) (n:=n) (by omega)
 unfold gr
 rw [List.getD_eq_getElem?_getD,show ((k:Int)).toNat=k from rfl,h]; rfl
section
variable {c d:aH} (T:Ty c) (U:Ty d)
include T U
end
end Go.Proofs.YtcnehblmgfbfoaaGreat
set_option linter.unusedVariables false
set_option linter.unusedSectionVars false
set_option linter.unusedSimpArgs false
set_option linter.unusedVariables false
set_option linter.unusedSimpArgs false
namespace Go.Proofs.YtcnehblmgfbfoaaGreat
open Go Go.Li
end Go.Proofs.YtcnehblmgfbfoaaGreat
set_option linter.unusedVariables false
set_option linter.unusedSimpArgs false
namespace Go.Proofs.YtcnehblmgfbfoaaGreat
open Go Go.Li
section
variable {c d:aH} (T:Ty c) (U:Ty d)
include T U
end
end Go.Proofs.YtcnehblmgfbfoaaGreat
set_option linter.unusedVariables false
set_option linter.unusedSectionVars false
set_option linter.unusedSimpArgs false
namespace Go.Proofs.YtcnehblmgfbfoaaGreat
open Go Go.Li
set_option linter.unusedVariables false
def pj {α:Type} (m m':Option α):Prop:=∀ o,m=some o→m'=some o
theorem pj.refl {α:Type} (m:Option α):pj m m:=fun _ h=>h
theorem pj.an {S R:Type} {m m':Option (Out S R)} (h:pj m m'):pj (an m) (an m'):=fun o ho=>by
 have h1:=A5 ho
 rw [h _ h1]; rfl
theorem pj.bind {α β:Type} {m m':Option α} {f f':α→Option β} (h:pj m m') (k:∀ x,pj (f x) (f' x)):pj (m>>=f) (m'>>=f'):=fun o ho=>by
 cases hm:m with
 | none=>rw [hm] at ho; cases ho
 | some x=>rw [hm] at ho; rw [h x hm]; exact k x o ho
theorem pj.cond {α:Type} {b:Bool} {x x' y y':Option α} (h:pj x x') (k:pj y y'):pj (bif b then x else y) (bif b then x' else y'):=by
 cases b with
 | true=>exact h
 | false=>exact k
theorem pj.aj {S S1 R:Type} {m m':Option (Out S1 R)} {f f':S1→Option (Out S R)} (h:pj m m') (k:∀ x,pj (f x) (f' x)):pj (aj m f) (aj m' f'):=fun o ho=>by
 unfold Go.Li.aj at ho ⊢
 cases hm:m with
 | none=>rw [hm] at ho; cases ho
 | some x=>
  rw [hm] at ho
  rw [h x hm]
  cases x with
  | norm s=>exact k s o ho
  | _=>exact ho
theorem pj.ah {S R:Type} {n:Nat} {m m':Option (Out S R)} (h:pj m m'):pj (ah n m) (ah n m'):=fun o ho=>by
 unfold Go.Li.ah at ho ⊢
 cases hm:m with
 | none=>rw [hm] at ho; cases ho
 | some x=>rw [hm] at ho; rw [h x hm]; exact ho
def Tx {S R:Type} (body:S→Option (Out S R)) (s:S):Option (Out S R):=lr body 300 s
theorem LC {S R:Type} {b b':S→Option (Out S R)} (h:∀ s,pj (b s) (b' s)):∀ k s,pj (lr b k s) (lr b' k s):=by
 intro k
 induction k with
 | zero=>intro s o ho; cases ho
 | succ k ih=>
  intro s o ho
  unfold lr at ho ⊢
  cases hm:b s with
  | none=>rw [hm] at ho; cases ho
  | some x=>
   rw [hm] at ho
   rw [h s x hm]
   cases x with
   | norm s'=>exact ih s' o ho
   | _=>exact ho
theorem pj.loop {S R:Type} {b b':S→Option (Out S R)} {s:S} (h:∀ s,pj (b s) (b' s)):pj (Tx b s) (ai b' s):=fun o ho=>so.2 ⟨300,LC h 300 s o ho⟩
end Go.Proofs.YtcnehblmgfbfoaaGreat
set_option linter.unusedVariables false
set_option linter.unusedSimpArgs false
namespace Go.Proofs.YtcnehblmgfbfoaaGreat
open Go Go.Li
end Go.Proofs.YtcnehblmgfbfoaaGreat
set_option linter.unusedVariables false
set_option linter.unusedSectionVars false
set_option linter.unusedSimpArgs false
set_option linter.unusedVariables false
set_option linter.unusedSimpArgs false
namespace Go.Proofs.YtcnehblmgfbfoaaGreat
open Go Go.Li
theorem Ok.and {α:Type} {m:Option α} {P Q:α→Prop} (h:Ok m P) (k:Ok m Q):Ok m fun x=>P x∧Q x:=by
 obtain ⟨x,e,hx⟩:=h
 obtain ⟨y,e',hy⟩:=k
 rw [e] at e'
 cases e'
 exact ⟨x,e,hx,hy⟩
end Go.Proofs.YtcnehblmgfbfoaaGreat
set_option linter.unusedVariables false
set_option linter.unusedSimpArgs false
namespace Go.Proofs.YtcnehblmgfbfoaaGreat
open Go Go.Li
end Go.Proofs.YtcnehblmgfbfoaaGreat
