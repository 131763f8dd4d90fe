/- Tables told by two numbers: loops in loops that fill a list, and what stands where. No condition beside those that each theorem names. -/
import Derived.Test.YtcnehblmgfbfoaaGreatPj
import Derived.Test.YtcnehblmgfbfoaaGreatPe
import Derived.Test.YtcnehblmgfbfoaaGreatVc
set_option linter.unusedVariables false
set_option linter.unusedSectionVars false
set_option linter.unusedSimpArgs false
namespace Go.Proofs.YtcnehblmgfbfoaaGreat
open Go Go.Li
section
variable {S S1 R β:Type} {body:S1→Option (Out S1 R)} {k:Nat} {f:S1→Option (Out S R)} {SI:S1}
end
theorem qA {n:Nat} {g:Int→Int} {i:Int} (h0:0≤i) (h1:i < n):gi (cf n g) i=g i:=by
 obtain ⟨k,rfl⟩ : ∃ k:Nat,i=k:=⟨i.toNat,by omega⟩
 have h:=sD g (i:=k) (n:=n) (by omega)
 unfold gi
 rw [List.getD_eq_getElem?_getD,show ((k:Int)).toNat=k from rfl,h]; rfl
end Go.Proofs.YtcnehblmgfbfoaaGreat
namespace Go.Proofs.YtcnehblmgfbfoaaGreat
open Go Go.Li
structure Ty (c:aJ):Prop where
 o0:0≤c.aE
 f:∀ x∈c.aH,0≤x∧x < c.aE
 tl:c.To.length=c.aH.length
 t:∀ x∈c.To,0≤x∧x < c.aE
 kl:c.aG.length=c.aH.length
 kr:∀ r∈c.aG,r.length=c.aH.length
 il:(c.aI.length:Int)=c.aE
 i:∀ x∈c.aI,0≤x∧x < c.aH.length
 BZ:∀ x:Int,0≤x→x < c.aE→gi c.aH (gi c.aI x)=x
 GC:∀ x:Int,0≤x→x < c.aE→gi c.To (gi c.aI x)=x
 cell:∀ f g:Int,0≤f→f < c.aH.length→0≤g→g < c.aH.length→gi c.To f=gi c.aH g→(0≤gk c.aG f g∧gk c.aG f g < c.aH.length)∧gi c.aH (gk c.aG f g)=gi c.aH f∧gi c.To (gk c.aG f g)=gi c.To g
 none:∀ f g:Int,0≤f→f < c.aH.length→0≤g→g < c.aH.length→gi c.To f≠gi c.aH g→gk c.aG f g = -1
 uu:∀ x:Int,0≤x→x < c.aE→gk c.aG (gi c.aI x) (gi c.aI x)=gi c.aI x
namespace Ty
variable {c:aJ} (h:Ty c)
include h
theorem fr {f:Int} (h0:0≤f) (h1:f < c.aH.length):0≤gi c.aH f∧gi c.aH f < c.aE:=h.f _ (ks h0 h1)
theorem to {f:Int} (h0:0≤f) (h1:f < c.aH.length):0≤gi c.To f∧gi c.To f < c.aE:=h.t _ (ks h0 (by rw [h.tl]; exact h1))
theorem id {x:Int} (h0:0≤x) (h1:x < c.aE):0≤gi c.aI x∧gi c.aI x < c.aH.length:=h.i _ (ks h0 (by rw [h.il]; exact h1))
theorem fx {f:Int} (h0:0≤f) (h1:f < c.aH.length):idx c.aH f=some (gi c.aH f):=have _:=h; dE h0 h1
theorem gw {f:Int} (h0:0≤f) (h1:f < c.aH.length):idx c.To f=some (gi c.To f):=dE h0 (by rw [h.tl]; exact h1)
theorem lg {x:Int} (h0:0≤x) (h1:x < c.aE):idx c.aI x=some (gi c.aI x):=dE h0 (by rw [h.il]; exact h1)
theorem qt {f:Int} (h0:0≤f) (h1:f < c.aH.length):idx c.aG f=some (gr c.aG f):=po h0 (by rw [h.kl]; exact h1)
theorem row {f:Int} (h0:0≤f) (h1:f < c.aH.length):(gr c.aG f).length=c.aH.length:=h.kr _ (nx h0 (by rw [h.kl]; exact h1))
theorem qu {f g:Int} (h0:0≤f) (h1:f < c.aH.length) (h2:0≤g) (h3:g < c.aH.length):idx (gr c.aG f) g=some (gk c.aG f g):=dE h2 (by rw [h.row h0 h1]; exact h3)
end Ty
end Go.Proofs.YtcnehblmgfbfoaaGreat
namespace Go.Proofs.YtcnehblmgfbfoaaGreat
open Go Go.Li
def yw (l:List Int) (n y:Int):Prop:=(y = -1∧∀ k:Nat,l[k]?≠some n)∨∃ k:Nat,y=k∧l[k]? = some n∧∀ j:Nat,j < k→l[j]?≠some n
theorem yw.uc {l:List Int} {n y z:Int} (h:yw l n y) (k:yw l n z):y=z:=by
 rcases h with ⟨rfl,h⟩ | ⟨a,rfl,h1,h2⟩
 ·rcases k with ⟨rfl,_⟩ | ⟨b,rfl,k1,_⟩
  ·rfl
  ·exact absurd k1 (h b)
 ·rcases k with ⟨rfl,k⟩ | ⟨b,rfl,k1,k2⟩
  ·exact absurd h1 (k a)
  ·rcases Nat.lt_trichotomy a b with u5 | rfl | u5
   ·exact absurd h1 (k2 a u5)
   ·rfl
   ·exact absurd k1 (h2 b u5)
theorem yw.pos {l:List Int} {n y:Int} (h:yw l n y) (hy:0≤y):y < l.length∧l[y.toNat]? = some n:=by
 rcases h with ⟨rfl,_⟩ | ⟨k,rfl,h1,_⟩
 ·omega
 ·exact ⟨by have:=(List.getElem?_eq_some_iff.1 h1).1; omega,h1⟩
theorem yw.app {l:List Int} {n y m:Int} (h:yw l n y) (hy:0≤y):yw (l++[m]) n y:=by
 rcases h with ⟨rfl,_⟩ | ⟨k,rfl,h1,h2⟩
 ·omega
 ·have hk:=(List.getElem?_eq_some_iff.1 h1).1
  exact .inr ⟨k,rfl,by rw [List.getElem?_append_left hk]; exact h1,fun j hj=>by rw [List.getElem?_append_left (by omega)]; exact h2 j hj⟩
theorem yw.new {l:List Int} {n y:Int} (h:yw l n y) (hy:y < 0):yw (l++[n]) n (l.length:Int):=by
 rcases h with ⟨_,h⟩ | ⟨k,rfl,_⟩
 ·refine .inr ⟨l.length,rfl,by simp,fun j hj=>?_⟩
  rw [List.getElem?_append_left hj]
  exact h j
 ·omega
def Rg (q:List Int):Prop:=∀ y∈q,∀ z:Int,0≤z→z≤y→z∈q
end Go.Proofs.YtcnehblmgfbfoaaGreat
namespace Go.Proofs.YtcnehblmgfbfoaaGreat
open Go Go.Li
theorem J1 {l:List (List Int)} {y:List Int} (h:y∈l):∃ i:Int,0≤i∧i < l.length∧gr l i=y:=by
 obtain ⟨k,hk⟩:=List.getElem?_of_mem h
 have hl:=(List.getElem?_eq_some_iff.1 hk).1
 refine ⟨k,by omega,by omega,?_⟩
 unfold gr
 rw [List.getD_eq_getElem?_getD,show ((k:Int)).toNat=k from rfl,hk]; rfl
theorem yT {l:List Int} {q:Int} {i j:Int} (i0:0≤i) (i1:i < l.length) (j0:0≤j):gi (l.set i.toNat q) j=if j=i then q else gi l j:=by
 unfold gi
 rw [List.getD_eq_getElem?_getD,List.getD_eq_getElem?_getD,List.getElem?_set]
 by_cases h:j=i
 ·subst h; rw [if_pos rfl,if_pos rfl,if_pos (by omega)]; rfl
 ·rw [if_neg (by omega),if_neg h]
theorem Af {l:List Int} {y:Int} (h:y∈l):∃ i:Int,0≤i∧i < l.length∧gi l i=y:=by
 obtain ⟨k,hk⟩:=List.getElem?_of_mem h
 have hl:=(List.getElem?_eq_some_iff.1 hk).1
 refine ⟨k,by omega,by omega,?_⟩
 unfold gi
 rw [List.getD_eq_getElem?_getD,show ((k:Int)).toNat=k from rfl,hk]; rfl
section
end
end Go.Proofs.YtcnehblmgfbfoaaGreat
namespace Go.Proofs.YtcnehblmgfbfoaaGreat
open Go Go.Li
theorem S8 {l:List Int} {q:Int} {j:Int} (h0:0≤j):gi (l++[q]) j=if j < l.length then gi l j else if j=l.length then q else 0:=by
 obtain ⟨n,rfl⟩ : ∃ n:Nat,j=n:=⟨j.toNat,by omega⟩
 unfold gi
 rw [List.getD_eq_getElem?_getD,List.getD_eq_getElem?_getD,show ((n:Int)).toNat=n from rfl]
 by_cases h:n < l.length
 ·rw [List.getElem?_append_left h,if_pos (by omega)]
 ·rw [List.getElem?_append_right (by omega),if_neg (by omega)]
  by_cases e:n=l.length
  ·subst e; rw [if_pos rfl,Nat.sub_self]; rfl
  ·rw [if_neg (by omega),List.getElem?_eq_none (by simp; omega)]; rfl
end Go.Proofs.YtcnehblmgfbfoaaGreat
namespace Go.Proofs.YtcnehblmgfbfoaaGreat
open Go Go.Li
theorem ko {a b:List Int} {e:Int} (h0:0≤e) (h1:e < a.length):gi (thenS a b) e=gi b (gi a e):=qA h0 h1
theorem Cc {a b:List Int} {y n:Int} (hb:∀ x∈a,0≤x∧x < b.length) (hn:∀ z∈b,0≤z∧z < n) (hy:y∈thenS a b):0≤y∧y < n:=by
 obtain ⟨i,hi,rfl⟩:=uA.1 hy
 have h:=hb _ (ks hi.1 hi.2)
 exact hn _ (ks h.1 h.2)
section
end
theorem zl {n:Int} (n0:0≤n) (n1:n≤1048576):nJ n=some (ns n.toNat):=by
 unfold nJ
 obtain ⟨k,rfl⟩ : ∃ k:Nat,n=k:=⟨n.toNat,by omega⟩
 rw [xc (by omega) (by omega),aB]
 have hl:(ns k).length=k:=cJ k
 refine (congrArg an (cw (ns k) (fun i=>((i:Int),(ns k).take i++List.replicate (k - i) (0:Int))) (by simp) ?_ (e:=((k:Int),ns k)) ?_)).trans rfl
 ·intro i x hx
  have V9:=hx
  obtain ⟨rfl,hi⟩:=cj hx
  have hc:=sC (ns k) (0:Int) V9
  have Ki:=get_copy (ns k) (0:Int) V9
  rw [hl] at hc Ki
  show lD k (i:Int) _=_
  unfold lD
  rw [ao (by rw [List.length_replicate]; omega),cond_true,bf,Ki,aB,bR (by omega),Int.toNat_natCast,hc]
 ·rw [hl]
  show lD k _ _=_
  unfold lD
  rw [av (by rw [List.length_replicate]; omega),cond_false,Nat.sub_self,List.take_of_length_le (by omega)]
  simp
theorem vm {n:Nat} {e:Int} (h0:0≤e) (h1:e < n):gi (ns n) e=e:=by
 have h:=qA (g:=fun e=>e) h0 h1
 rwa [show cf n (fun e:Int=>e)=ns n from List.map_id' _] at h
theorem S9 {a b:List Int} (hl:a.length=b.length) (h:∀ x:Int,0≤x→x < b.length→gi a x=gi b x):a=b:=by
 refine List.ext_getElem hl fun i h1 h2=>?_
 have:=h i (by omega) (by omega)
 unfold gi at this
 rw [List.getD_eq_getElem?_getD,List.getD_eq_getElem?_getD,show ((i:Int)).toNat=i from rfl,List.getElem?_eq_getElem h1,List.getElem?_eq_getElem h2] at this
 exact this
end Go.Proofs.YtcnehblmgfbfoaaGreat
