/- All sieves at an object: the reference's search in depth and the program's search in breadth find the same list. No condition beside those that each theorem names. -/
import Derived.Test.YtkcpiblgpnjanaaGreatPh
import Derived.Test.YtkcpiblgpnjanaaGreatPa
namespace Go.Li
open Go
end Go.Li
namespace Go.Proofs.YtkcpiblgpnjanaaGreat
open Go Go.Li
set_option linter.unusedSectionVars false
structure Sv (c:aI) (x:Int) (s:List Int):Prop where
 form:s=(ns c.aG.length).filter (hasB s)
 src:∀ y∈s,gi c.aG y=x
 closed:∀ y∈s,∀ b:Int,0≤b→b < c.aG.length→gi c.To y=gi c.aG b→gk c.aF y b∈s
theorem Sv.arr {c:aI} {x:Int} {s:List Int} (h:Sv c x s):Nv c s:=fun a ha=>by
 rw [h.form] at ha; exact da.1 (List.mem_filter.1 ha).1
theorem Sv.len {c:aI} {x:Int} {s:List Int} (h:Sv c x s):s.length≤c.aG.length:=by
 rw [h.form]; exact Nat.le_trans (List.length_filter_le _ _) (by rw [dQ]; exact Nat.le_refl _)
theorem Sv.nil (c:aI) (x:Int):Sv c x []:=⟨by rw [List.filter_eq_nil_iff.2]; intro a _; simp [hasB],fun _ h=>(nomatch h),fun _ h=>(nomatch h)⟩
theorem rX {c:aI} {A:List Int} {a:Int}:a∈n8 c A↔(0≤a∧a < c.aG.length)∧∃ y∈A,∃ b:Int,(0≤b∧b < c.aG.length)∧gi c.To y=gi c.aG b∧gk c.aF y b=a:=by
 unfold n8 Ry
 rw [List.mem_filter,da]
 simp only [List.any_eq_true,Bool.and_eq_true,beq_iff_eq]
 constructor
 ·rintro ⟨h,y,hy,b,hb,e1,e2⟩; exact ⟨h,y,hy,b,da.1 hb,e1,e2⟩
 ·rintro ⟨h,y,hy,b,hb,e1,e2⟩; exact ⟨h,y,hy,b,da.2 hb,e1,e2⟩
theorem IG {n:Nat} {p:Int→Bool}:(ns n).filter p=(ns n).filter (hasB ((ns n).filter p)):=by
 apply List.filter_congr
 intro a ha
 rw [Bool.eq_iff_iff,xC,List.mem_filter]
 exact ⟨fun h=>⟨ha,h⟩,fun h=>h.2⟩
section
variable {c:aI} (H:rN c) {x:Int}
include H
theorem Fx {A:List Int} (hA:Nv c A):∀ y∈A,y∈n8 c A:=fun y hy=>by
 have h:=hA y hy
 have ht:=H.to h.1 h.2
 have hi:=H.id ht.1 ht.2
 exact rX.2 ⟨h,y,hy,_,hi,(H.xA _ ht.1 ht.2).symm,H.K6 y h.1 h.2⟩
theorem PU {A:List Int} (hA:Nv c A) (hs:∀ y∈A,gi c.aG y=x):Sv c x (n8 c A):=by
 refine ⟨IG,fun y hy=>?_,fun z hz b b0 b1 e=>?_⟩
 ·obtain ⟨_,z,hz,b,hb,e1,e2⟩:=rX.1 hy
  have h:=hA z hz
  rw [← e2,(H.cell z b h.1 h.2 hb.1 hb.2 e1).2.2.1]
  exact hs z hz
 ·obtain ⟨GY,y,hy,a,ha,e1,e2⟩:=rX.1 hz
  have h:=hA y hy
  have c1:=H.cell y a h.1 h.2 ha.1 ha.2 e1
  have e3:gi c.To a=gi c.aG b:=by rw [← c1.2.2.2,e2]; exact e
  have c2:=H.cell a b ha.1 ha.2 b0 b1 e3
  have c3:=H.cell z b GY.1 GY.2 b0 b1 e
  refine rX.2 ⟨⟨c3.1,c3.2.1⟩,y,hy,gk c.aF a b,⟨c2.1,c2.2.1⟩,by rw [c2.2.2.1]; exact e1,?_⟩
  rw [← H.assoc y a b h.1 h.2 ha.1 ha.2 b0 b1 e1 e3,e2]
def wN (c:aI) (s:List Int) (a:Int):List Int:=n8 c (s++[a])
theorem HR {s:List Int} {a:Int} (hs:Sv c x s) (ha:a∈tu c x):Nv c (s++[a])∧∀ y∈s++[a],gi c.aG y=x:=by
 have h:=tM.1 ha
 refine ⟨fun y hy=>?_,fun y hy=>?_⟩
 ·rcases List.mem_append.1 hy with h' | h'
  ·exact hs.arr y h'
  ·rw [List.mem_singleton.1 h']; exact h.1
 ·rcases List.mem_append.1 hy with h' | h'
  ·exact hs.src y h'
  ·rw [List.mem_singleton.1 h']; exact h.2
theorem SH {s:List Int} {a:Int} (hs:Sv c x s) (ha:a∈tu c x):Sv c x (wN c s a):=
 PU H (HR H hs ha).1 (HR H hs ha).2
theorem PV {s:List Int} (h:Reaches (tu c x) (wN c) [] s):Sv c x s:=by
 induction h with
 | base=>exact Sv.nil c x
 | step _ ha ih=>exact SH H ih ha
structure ze (c:aI) (x:Int) (L:List (List Int)):Prop where
 mem:∀ s,s∈L↔Reaches (tu c x) (wN c) [] s
 nodup:L.Nodup
 len:L.length≤16
theorem ze.sv {L:List (List Int)} (h:ze c x L):∀ s∈L,Sv c x s:=fun s hs=>PV H ((h.mem s).1 hs)
inductive Found (c:aI) (x:Int):Option (List (List Int))→Prop
 | Rx (F:List (List Int)) (h:yf (tu c x) (wN c) [] F) (hl:F.length≤16):Found c x (some (F.mergeSort Ro))
 | many (h:K2 (tu c x) (wN c) 16 []):Found c x none
end
end Go.Proofs.YtkcpiblgpnjanaaGreat
namespace Go.Li
open Go
def ew {β:Type} (n:Nat) (g:Int→β):List β:=(ns n).map g
theorem dA {β:Type} (n:Nat) (g:Int→β):(ew n g).length=n:=by simp [ew,dQ]
theorem rY {β:Type} (n:Nat) (g:Int→β):ew (n+1) g=ew n g++[g n]:=by
 unfold ew ns
 rw [List.range_succ]; simp
theorem nv {β:Type} {n i:Nat} (g:Int→β) (h:i < n):(ew n g)[i]? = some (g i):=by
 unfold ew ns
 simp [h]
theorem rz {β:Type} {n:Nat} {g:Int→β} {y:β}:y∈ew n g↔∃ x:Int,(0≤x∧x < n)∧g x=y:=by
 unfold ew; simp only [List.mem_map,da]
theorem uS {β:Type} {n:Nat} {g h:Int→β} (e:∀ i:Nat,i < n→g i=h i):ew n g=ew n h:=by
 apply List.map_congr_left
 intro x hx
 have:=da.1 hx
 have:=e x.toNat (by omega)
 rwa [Int.toNat_of_nonneg (by omega)] at this
theorem xD {S S1 R β:Type} {body:S1→Option (Out S1 R)} {k:Nat} {f:S1→Option (Out S R)} {HS:S1} (n:Nat) (g:Int→β) (pk:List β→Nat→S1) (e0:pk [] 0=HS)
  (step:∀ i acc,i < n→acc.length=i→body (pk acc i)=some (.norm (pk (acc++[g i]) (i+1)))) (last:∀ acc,acc.length=n→body (pk acc n)=some (.exit k (pk acc n))) :
  ah (ae k (ai body HS)) f=f (pk (ew n g) n):=by
 rw [← e0]
 refine td (ns n) (fun i=>pk (ew i g) i) rfl ?_ ?_
 ·intro i x hx
  obtain ⟨rfl,hi⟩:=fh hx
  rw [step i _ hi (dA i g),rY]
 ·rw [dQ]; exact last _ (dA n g)
def gl {α:Type} (l:List (List α)) (j:Int):List α:=l.getD j.toNat []
theorem De {α:Type} {l:List (List α)} {i:Nat} (h:i < l.length):l[i]? = some (gl l i):=by
 unfold gl; rw [List.getD_eq_getElem?_getD,Int.toNat_natCast,List.getElem?_eq_getElem h]; rfl
theorem JF {α β:Type} (l:List (List α)) (g:List α→β):ew l.length (fun i=>g (gl l i))=l.map g:=by
 apply List.ext_getElem?
 intro i
 by_cases h:i < l.length
 ·rw [nv _ h,List.getElem?_map,De h]; rfl
 ·rw [List.getElem?_eq_none (by rw [dA]; omega),List.getElem?_eq_none (by rw [List.length_map]; omega)]
end Go.Li
namespace Go.Proofs.YtkcpiblgpnjanaaGreat
open Go Go.Li
set_option linter.unusedSectionVars false
theorem jh (l:List Int) (hl:l.length≤1048576):dW l=some l:=by
 unfold dW
 rw [dZ (by simp; omega) (by simp; omega),aH,List.nil_append]; rfl
theorem HT (l:List (List Int)) (hl:l.length≤1048576) (hr:∀ y∈l,y.length≤1048576):mG l=some l:=by
 unfold mG
 refine (congrArg ao (xD l.length (gr l) (fun acc i=>(acc,(i:Int))) rfl ?_ ?_)).trans ?_
 ·intro i acc hi ha
  show kH l acc i=_
  unfold kH
  rw [aX (by omega),cond_true,rT (by omega) (by omega),aH,jh _ (hr _ (qx (by omega) (by omega))),aH,dZ (by omega) (by omega),aH,cA (by omega)]
 ·intro acc ha
  show kH l acc _=_
  unfold kH
  rw [bn (by omega),cond_false]
 ·show some (ew l.length (gr l))=_
  have:=JF l (fun x=>x)
  rw [List.map_id'] at this
  exact congrArg some this
theorem xE {c:aI} (h:gj c):kO c=some c:=by
 unfold kO
 rw [jh _ h.f,aH,jh _ h.t,aH,jh _ h.i,aH,HT _ h.k h.r,aH]; rfl
theorem HU {c:aI} (h:gj c):jA c=some c:=by
 have h1:∀ l:List Int,l.length≤1048576→fQ l=some l:=fun l hl=>jh l hl
 have hk:=h.k
 unfold jA
 rw [h1 _ h.f,aH,h1 _ h.t,aH,h1 _ h.i,aH]
 have:pP c.aF=some c.aF:=by
  unfold pP
  rw [Cc (by omega) (by omega),aH]
  refine (congrArg ao (xD c.aF.length (gr c.aF) (fun acc i=>(acc,(i:Int))) rfl ?_ ?_)).trans ?_
  ·intro i acc hi ha
   show kZ c.aF acc i=_
   unfold kZ
   rw [aX (by omega),cond_true,rT (by omega) (by omega),aH,h1 _ (h.r _ (qx (by omega) (by omega))),aH,dZ (by omega) (by omega),aH,cA (by omega)]
  ·intro acc ha
   show kZ c.aF acc _=_
   unfold kZ
   rw [bn (by omega),cond_false]
  ·have:=JF c.aF (fun x=>x)
   rw [List.map_id'] at this
   exact congrArg some this
 rw [this,aH]; rfl
structure K7 (c:aI) (k:Nat) (ls:List (List (List Int))):Prop where
 len:ls.length=k
 found:∀ i:Nat,i < k→Found c i (some (gl ls i))
section
variable {c:aI} (H:rN c)
include H
theorem PW {x:Int} {L:List (List Int)} (h:Found c x (some L)):ze c x L:=by
 cases h with
 | Rx F h hl=>
  have hp:=List.mergeSort_perm F Ro
  exact ⟨fun s=>by rw [hp.mem_iff]; exact h.mem s,hp.nodup_iff.2 h.nodup,by rw [hp.length_eq]; exact hl⟩
theorem K7.sv {k:Nat} {ls:List (List (List Int))} (h:K7 c k ls) {i:Int} (h0:0≤i) (h1:i < k):ze c i (gl ls i):=by
 have:=h.found i.toNat (by omega)
 rw [Int.toNat_of_nonneg h0] at this
 exact PW H this
end
end Go.Proofs.YtkcpiblgpnjanaaGreat
namespace Go.Proofs.YtkcpiblgpnjanaaGreat
open Go Go.Li
set_option linter.unusedSectionVars false
section
variable {c:aI} (H:rN c)
include H
end
end Go.Proofs.YtkcpiblgpnjanaaGreat
namespace Go.Proofs.YtkcpiblgpnjanaaGreat
open Go Go.Li
section
variable {c:aI} (H:qJ c)
include H
end
section
variable {c:aI} (H:rN c) {x:Int}
include H
theorem Nw {A:List Int} {a:Int} (hA:Nv c A):n8 c (n8 c A++[a])=n8 c (A++[a]):=by
 show (ns c.aG.length).filter _=(ns c.aG.length).filter _
 apply List.filter_congr
 intro z hz
 have key:∀ B:List Int,Ry c B z=true↔z∈n8 c B:=fun B=>by
  unfold n8; rw [List.mem_filter]; exact ⟨fun h=>⟨hz,h⟩,fun h=>h.2⟩
 rw [Bool.eq_iff_iff,key,key,rX,rX]
 refine and_congr_right fun hz=>⟨?_,?_⟩
 ·rintro ⟨y,hy,b,hb,e1,e2⟩
  rcases List.mem_append.1 hy with hy | hy
  ·obtain ⟨yK,u,hu,b',cq,e3,e4⟩:=rX.1 hy
   have Cr:=hA u hu
   have c1:=H.cell u b' Cr.1 Cr.2 cq.1 cq.2 e3
   have e5:gi c.To b'=gi c.aG b:=by rw [← c1.2.2.2,e4]; exact e1
   have c2:=H.cell b' b cq.1 cq.2 hb.1 hb.2 e5
   exact ⟨u,List.mem_append_left _ hu,gk c.aF b' b,⟨c2.1,c2.2.1⟩,by rw [c2.2.2.1]; exact e3,by rw [← H.assoc u b' b Cr.1 Cr.2 cq.1 cq.2 hb.1 hb.2 e3 e5,e4]; exact e2⟩
  ·exact ⟨y,List.mem_append_right _ hy,b,hb,e1,e2⟩
 ·rintro ⟨y,hy,b,hb,e1,e2⟩
  rcases List.mem_append.1 hy with hy | hy
  ·exact ⟨y,List.mem_append_left _ (Fx H hA y hy),b,hb,e1,e2⟩
  ·exact ⟨y,List.mem_append_right _ hy,b,hb,e1,e2⟩
theorem IH:∀ (n:Nat) (A:List Int),A.length=n→(∀ a∈A,a∈tu c x)→Reaches (tu c x) (wN c) [] (n8 c A):=by
 intro n
 induction n with
 | zero=>
  intro A hA _
  obtain rfl:A=[]:=List.length_eq_zero_iff.1 hA
  have:n8 c []=[]:=by unfold n8; rw [List.filter_eq_nil_iff]; intro a _; simp [Ry]
  rw [this]; exact .base
 | succ n ih=>
  intro A hA hs
  have kp:A≠[]:=by rintro rfl; cases hA
  have hd:=List.dropLast_concat_getLast kp
  have hl:A.getLast kp∈A:=List.getLast_mem kp
  have cg:∀ a∈A.dropLast,a∈tu c x:=fun a ha=>hs a (List.dropLast_subset A ha)
  have h1:=ih A.dropLast (by simp; omega) cg
  have h2:=Reaches.step (step:=wN c) h1 (hs _ hl)
  unfold wN at h2
  rw [Nw H (fun a ha=>(tM.1 (cg a ha)).1),hd] at h2
  exact h2
theorem PY {s:List Int} (h:Sv c x s):Reaches (tu c x) (wN c) [] s:=by
 have h1:=IH H s.length s rfl fun a ha=>tM.2 ⟨h.arr a ha,h.src a ha⟩
 have h2:n8 c s=s:=by
  conv=>rhs; rw [h.form]
  unfold n8
  apply List.filter_congr
  intro z hz
  rw [Bool.eq_iff_iff,xC]
  constructor
  ·intro hc
   have:z∈n8 c s:=List.mem_filter.2 ⟨hz,hc⟩
   obtain ⟨_,y,hy,b,hb,e1,e2⟩:=rX.1 this
   rw [← e2]; exact h.closed y hy b hb.1 hb.2 e1
  ·intro hs
   exact (List.mem_filter.1 (Fx H h.arr z hs)).2
 rw [h2] at h1; exact h1
theorem SJ {L:List (List Int)} (h:ze c x L) (s:List Int):s∈L↔Sv c x s:=⟨h.sv H s,fun hs=>(h.mem s).2 (PY H hs)⟩
theorem Wi:Sv c x (tu c x):=by
 refine ⟨?_,fun y hy=>(tM.1 hy).2,fun y hy b b0 b1 e=>?_⟩
 ·show (ns c.aG.length).filter _=_
  apply List.filter_congr
  intro z hz
  rw [Bool.eq_iff_iff,xC,tM]
  simp only [beq_iff_eq]
  exact ⟨fun h=>⟨da.1 hz,h⟩,fun h=>h.2⟩
 ·have hy:=tM.1 hy
  have c1:=H.cell y b hy.1.1 hy.1.2 b0 b1 e
  exact tM.2 ⟨⟨c1.1,c1.2.1⟩,by rw [c1.2.2.1]; exact hy.2⟩
end
end Go.Proofs.YtkcpiblgpnjanaaGreat
namespace Go.Li
open Go
section
variable {S S1 R α:Type} {body:S1→Option (Out S1 R)}
end
end Go.Li
namespace Go.Proofs.YtkcpiblgpnjanaaGreat
open Go Go.Li
def put (p:Int→List Int→Bool) (x:Int) (s:List Int):Int→List Int→Bool:=fun y t=>p y t || (y == x && t == s)
structure Tab (c:aI) (ls:List (List (List Int))):Prop where
 cat:rN c
 lists:K7 c c.aC.toNat ls
namespace Tab
variable {c:aI} {ls:List (List (List Int))} (T:Tab c ls)
include T
theorem len:(ls.length:Int)=c.aC:=by have h1:=T.lists.len; have h2:=T.cat.o0; omega
theorem sv {x:Int} (h0:0≤x) (h1:x < ls.length):ze c x (gl ls x):=T.lists.sv T.cat h0 (by have:=T.lists.len; omega)
theorem mem {x:Int} (h0:0≤x) (h1:x < ls.length) {s:List Int}:s∈gl ls x↔Sv c x s:=SJ T.cat (T.sv h0 h1) s
theorem nodup {x:Int} (h0:0≤x) (h1:x < ls.length):(gl ls x).Nodup:=(T.sv h0 h1).nodup
theorem fr {a:Int} (a0:0≤a) (a1:a < c.aG.length):0≤gi c.aG a∧gi c.aG a < ls.length:=by have:=T.cat.fr a0 a1; rw [← T.len] at this; exact this
theorem to {a:Int} (a0:0≤a) (a1:a < c.aG.length):0≤gi c.To a∧gi c.To a < ls.length:=by have:=T.cat.to a0 a1; rw [← T.len] at this; exact this
theorem out {x:Int} (h0:0≤x) (h1:x < ls.length):tu c x∈gl ls x:=(T.mem h0 h1).2 (Wi T.cat)
theorem arr {x:Int} (h0:0≤x) (h1:x < ls.length) {s:List Int} (hs:s∈gl ls x) {a:Int} (ha:a∈s):0≤a∧a < c.aG.length:=((T.mem h0 h1).1 hs).arr a ha
end Tab
def Wj (c:aI) (p:Int→List Int→Bool) (s t:List Int):Bool:=!(s.any fun a=>!(p (gi c.To a) (Rz c a t)))
structure aik (c:aI) (ls:List (List (List Int))) (q:Int→List Int→Bool):Prop where
 top:∀ x:Int,0≤x→x < ls.length→q x (tu c x)=true
 arrow:∀ a s:_,0≤a→a < (c.aG.length:Int)→s∈gl ls (gi c.aG a)→q (gi c.aG a) s=true→q (gi c.To a) (Rz c a s)=true
 loc:∀ x:Int,0≤x→x < ls.length→∀ s∈gl ls x,∀ t∈gl ls x,q x s=true→Wj c q s t=true→q x t=true
section
variable {c:aI} {ls:List (List (List Int))} (T:Tab c ls) {p:Int→List Int→Bool}
include T
end
end Go.Proofs.YtkcpiblgpnjanaaGreat
namespace Go.Proofs.YtkcpiblgpnjanaaGreat
open Go Go.Li
def XW (ls:List (List (List Int))):List (Int×List Int):=(ns ls.length).flatMap fun x=>(gl ls x).map fun s=>(x,s)
def GR (ls:List (List (List Int))) (p:Int→List Int→Bool):Nat:=(XW ls).countP fun z=>p z.1 z.2
def Le (ls:List (List (List Int))) (p q:Int→List Int→Bool):Prop:=∀ y:Int,0≤y→y < ls.length→∀ t∈gl ls y,p y t=true→q y t=true
theorem Le.tr {ls:List (List (List Int))} {p q r:Int→List Int→Bool} (h:Le ls p q) (g:Le ls q r):Le ls p r:=fun y h0 h1 t ht hp=>g y h0 h1 t ht (h y h0 h1 t ht hp)
theorem Le.put {ls:List (List (List Int))} {p:Int→List Int→Bool} {x:Int} {s:List Int}:Le ls p (put p x s):=fun y _ _ t _ h=>by
 show (p y t || _)=true
 rw [h]; rfl
end Go.Proofs.YtkcpiblgpnjanaaGreat
namespace Go.Proofs.YtkcpiblgpnjanaaGreat
open Go Go.Li
section
variable {c:aI} {ls:List (List (List Int))} (T:Tab c ls) {p:Int→List Int→Bool}
include T
end
end Go.Proofs.YtkcpiblgpnjanaaGreat
namespace Go.Proofs.YtkcpiblgpnjanaaGreat
open Go Go.Li
section
end
end Go.Proofs.YtkcpiblgpnjanaaGreat
namespace Go.Proofs.YtkcpiblgpnjanaaGreat
open Go Go.Li
end Go.Proofs.YtkcpiblgpnjanaaGreat
namespace Go.Proofs.YtkcpiblgpnjanaaGreat
open Go Go.Li
theorem vV {S S1 R:Type} {body:S1→Option (Out S1 R)} {k:Nat} {f:S1→Option (Out S R)} {s0:S1} (l:List Int) (q:Int→Bool) (pk:List Int→Nat→S1) (e0:pk [] 0=s0)
  (step:∀ i a acc,l[i]? = some a→acc.length≤i→body (pk acc i)=some (.norm (pk (if q a then acc++[a] else acc) (i+1)))) (last:∀ acc,body (pk acc l.length)=some (.exit k (pk acc l.length))) :
  ah (ae k (ai body s0)) f=f (pk (l.filter q) l.length):=by
 refine (td l (fun i=>pk ((l.take i).filter q) i) (by simpa using e0) (fun i a ha=>?_) (e:=pk (l.filter q) l.length) ?_)
 ·rw [step i a _ ha (by have:=List.length_filter_le q (l.take i); rw [List.length_take] at this; omega),AH ha,List.filter_append]
  cases h:q a <;> simp [h]
 ·rw [last,List.take_length]
section
variable {c:aI} {ls:List (List (List Int))} (T:Tab c ls) {p q:Int→List Int→Bool}
include T
end
end Go.Proofs.YtkcpiblgpnjanaaGreat
namespace Go.Proofs.YtkcpiblgpnjanaaGreat
open Go Go.Li
section
variable {c:aI} (H:rN c)
include H
end
end Go.Proofs.YtkcpiblgpnjanaaGreat
namespace Go.Proofs.YtkcpiblgpnjanaaGreat
open Go Go.Li
def j9 (c d:aI):Bool:=c.aC == d.aC && (c.aG == d.aG && (c.To == d.To && (c.aJ == d.aJ && c.aF == d.aF)))
theorem sW {c d:aI}:j9 c d=true↔c=d:=by
 unfold j9
 simp only [Bool.and_eq_true,beq_iff_eq]
 constructor
 ·rintro ⟨h1,h2,h3,h4,h5⟩
  cases c; cases d
  dsimp only at h1 h2 h3 h4 h5
  rw [h1,h2,h3,h4,h5]
 ·rintro rfl; exact ⟨rfl,rfl,rfl,rfl,rfl⟩
theorem CA {c d:aI} (h:gj c):mL c d=some (j9 c d):=by
 obtain ⟨h1,h2,h3,h4,h5⟩:=h
 have e5:pW c.aF d.aF=some (c.aF == d.aF):=JC _ _ (by omega) (fun z hz=>by have:=h5 z hz; omega)
 unfold mL j9
 cases c.aC == d.aC with
 | false=>rfl
 | true=>
  rw [cond_true,C2 _ _ (by omega),aH]
  cases c.aG == d.aG with
  | false=>rfl
  | true=>
   rw [cond_true,C2 _ _ (by omega),aH]
   cases c.To == d.To with
   | false=>rfl
   | true=>
    rw [cond_true,C2 _ _ (by omega),aH]
    cases c.aJ == d.aJ with
    | false=>rfl
    | true=>rw [cond_true,e5]; rfl
theorem PZ:∀ {x y:List (List Int)},x.length=y.length→(x == y) = !((x.zip y).any fun z=>!(z.1 == z.2)):=by
 intro x
 induction x with
 | nil=>intro y h; cases y with
  | nil=>rfl
  | cons b y=>simp at h
 | cons a x ih=>
  intro y h
  cases y with
  | nil=>simp at h
  | cons b y=>
   have h':x.length=y.length:=by simpa using h
   rw [List.zip_cons_cons,List.any_cons,Bool.not_or,Bool.not_not,← ih h']; rfl
theorem vC {c d:aI} (h:gj c):fW c d=some (j9 c d):=by
 obtain ⟨h1,h2,h3,h4,h5⟩:=h
 unfold fW j9
 cases e1:c.aC == d.aC with
 | false=>rw [show (c.aC != d.aC)=true by unfold bne; rw [e1]; rfl]; rfl
 | true=>
  rw [show (c.aC != d.aC)=false by unfold bne; rw [e1]; rfl,cond_false,tN _ _ (by omega),aH]
  cases c.aG == d.aG with
  | false=>rfl
  | true=>
   rw [Bool.not_true,cond_false,tN _ _ (by omega),aH]
   cases c.To == d.To with
   | false=>rfl
   | true=>
    rw [Bool.not_true,cond_false,tN _ _ (by omega),aH]
    cases c.aJ == d.aJ with
    | false=>rfl
    | true=>
     rw [Bool.not_true,cond_false,aH]
     simp only [Bool.true_and]
     by_cases hl:c.aF.length=d.aF.length
     ·rw [tn (by omega),cond_false,PZ hl]
      refine (congrArg ao (kh (c.aF.zip d.aF) (fun z=>!(z.1 == z.2)) (fun i=>(i:Int)) rfl ?_ ?_ (e:=((c.aF.zip d.aF).length:Int)) (y:=false) ?_)).trans ?_
      ·intro i z hz hp
       obtain ⟨z1,z2⟩:=z
       obtain ⟨g1,g2⟩:=List.getElem?_zip_eq_some.1 hz
       have hi:=b9 g1
       have:=h5 _ (List.mem_of_getElem? g1)
       unfold jL
       rw [aX (by omega),cond_true,ca,g1,aH,ca,g2,aH,tN _ _ (by omega),aH]
       rw [show (!(z1 == z2))=false from hp,cond_false,cA (by omega)]
      ·intro i z hz hp
       obtain ⟨z1,z2⟩:=z
       obtain ⟨g1,g2⟩:=List.getElem?_zip_eq_some.1 hz
       have hi:=b9 g1
       have:=h5 _ (List.mem_of_getElem? g1)
       unfold jL
       rw [aX (by omega),cond_true,ca,g1,aH,ca,g2,aH,tN _ _ (by omega),aH]
       rw [show (!(z1 == z2))=true from hp,cond_true]
      ·unfold jL
       rw [List.length_zip,← hl,Nat.min_self,bn (by omega),cond_false]
      ·cases (c.aF.zip d.aF).any fun z=>!(z.1 == z.2) <;> rfl
     ·rw [rS (by omega)]
      have:(c.aF == d.aF)=false:=sT fun h=>hl (by rw [h])
      rw [this]; rfl
end Go.Proofs.YtkcpiblgpnjanaaGreat
namespace Go.Proofs.YtkcpiblgpnjanaaGreat
open Go Go.Li
theorem yz {S R:Type} {body:Int→Option (Out Int R)} {k:Nat} {f:Int→Option (Out S R)} {n:Nat} (p:Int→Bool) {y:R}
  (h:∀ i:Nat,i < n→body (i:Int)=bif p i then some (.ret y) else some (.norm ((i+1:Nat):Int))) (last:body (n:Int)=some (.exit k (n:Int))) :
  ah (ae k (ai body (0:Int))) f=bif (ns n).any p then some (.ret y) else f n:=by
 refine (kh (ns n) p (fun i=>(i:Int)) rfl ?_ ?_ (e:=(n:Int)) (y:=y) ?_).trans ?_
 ·intro i x hx hp; obtain ⟨rfl,hi⟩:=fh hx; rw [h i hi,hp]; rfl
 ·intro i x hx hp; obtain ⟨rfl,hi⟩:=fh hx; rw [h i hi,hp]; rfl
 ·rw [dQ]; exact last
 ·cases (ns n).any p <;> rfl
theorem acE {S R:Type} {body:Int→Option (Out Int R)} {k:Nat} {f:Int→Option (Out S R)} {n:Nat} (p:Int→Bool) (G:R→Prop)
  (h:∀ i:Nat,i < n→(p i=false∧body (i:Int)=some (.norm ((i+1:Nat):Int)))∨(p i=true∧∃ y,body (i:Int)=some (.ret y)∧G y)) (last:body (n:Int)=some (.exit k (n:Int))) :
  ((ns n).any p=false∧ah (ae k (ai body (0:Int))) f=f n)∨((ns n).any p=true∧∃ y,ah (ae k (ai body (0:Int))) f=some (.ret y)∧G y):=by
 refine (tL (ns n) p G (fun i=>(i:Int)) rfl ?_ ?_ (e:=(n:Int)) (by rw [dQ]; exact last)).elim (fun h=>.inr h) (fun h=>.inl h)
 ·intro i x hx hp
  obtain ⟨rfl,hi⟩:=fh hx
  rcases h i hi with ⟨_,h⟩ | ⟨h,_⟩
  ·exact h
  ·rw [hp] at h; cases h
 ·intro i x hx hp
  obtain ⟨rfl,hi⟩:=fh hx
  rcases h i hi with ⟨h,_⟩ | ⟨_,h⟩
  ·rw [hp] at h; cases h
  ·exact h
theorem nk {α:Type} {b:Bool} {x y:α}:(bif b then some x else some y)=some (bif b then x else y):=by cases b <;> rfl
theorem zf {a b:Bool}:(bif a then true else b)=(a || b):=by cases a <;> rfl
theorem vm {a b:Bool}:(bif a then b else false)=(a && b):=by cases a <;> rfl
theorem ie {n:Nat} {p:Int→Bool}:(ns n).any p=false↔∀ i:Int,0≤i→i < n→p i=false:=by
 rw [List.any_eq_false]
 exact ⟨fun h i h0 h1=>by simpa using h i (da.2 ⟨h0,h1⟩),fun h i hi=>by simp [h i (da.1 hi).1 (da.1 hi).2]⟩
namespace SFHead
end SFHead
end Go.Proofs.YtkcpiblgpnjanaaGreat
namespace Go.Proofs.YtkcpiblgpnjanaaGreat
open Go Go.Li
namespace SFShape
end SFShape
end Go.Proofs.YtkcpiblgpnjanaaGreat
namespace Go.Proofs.YtkcpiblgpnjanaaGreat
open Go Go.Li
namespace SMShape
end SMShape
def thenS (a b:List Int):List Int:=ew a.length fun i=>gi b (gi a i)
theorem P1 (a b:List Int) (ha:a.length≤1048576) (hb:∀ x∈a,0≤x∧x < b.length):qG a b=some (thenS a b):=by
 unfold qG
 rw [Cc (by omega) (by omega),aH]
 have hl:(thenS a b).length=a.length:=dA _ _
 refine (congrArg ao (td (ns a.length) (fun i=>((i:Int),(thenS a b).take i++List.replicate (a.length - i) (0:Int))) (by simp) ?_ (e:=((a.length:Int),thenS a b)) ?_)).trans rfl
 ·intro i x hx
  obtain ⟨rfl,hi⟩:=fh hx
  have hg:(thenS a b)[i]? = some (gi b (gi a i)):=nv _ hi
  have hm:=hb _ (er (l:=a) (j:=(i:Int)) (by omega) (by omega))
  have hc:=CZ (thenS a b) (0:Int) hg
  have Fy:=get_copy (thenS a b) (0:Int) hg
  rw [hl] at hc Fy
  show mO a b (i:Int) _=_
  unfold mO
  rw [aX (by omega),cond_true,cT (by omega) (by omega),aH,cT hm.1 hm.2,aH,ca,Fy,aH,cA (by omega),Int.toNat_natCast,hc]
 ·rw [dQ]
  show mO a b _ _=_
  unfold mO
  rw [bn (by omega),cond_false,Nat.sub_self,List.take_of_length_le (by omega)]
  simp
end Go.Proofs.YtkcpiblgpnjanaaGreat
