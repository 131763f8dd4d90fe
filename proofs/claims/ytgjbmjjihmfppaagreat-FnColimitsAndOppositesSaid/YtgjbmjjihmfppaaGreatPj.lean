/- All sieves at an object: the reference's search in depth and the program's search in breadth find the same list. No condition beside those that each theorem names. -/
import Derived.Test.YtgjbmjjihmfppaaGreatPh
import Derived.Test.YtgjbmjjihmfppaaGreatPa
namespace Go.Li
open Go
end Go.Li
namespace Go.Proofs.YtgjbmjjihmfppaaGreat
open Go Go.Li
set_option linter.unusedSectionVars false
structure Sv (c:aG) (x:Int) (s:List Int):Prop where
 form:s=(ns c.aD.length).filter (hasB s)
 src:∀ y∈s,gi c.aD y=x
 closed:∀ y∈s,∀ b:Int,0≤b→b < c.aD.length→gi c.To y=gi c.aD b→gk c.aB y b∈s
theorem Sv.arr {c:aG} {x:Int} {s:List Int} (h:Sv c x s):OD c s:=fun a ha=>by
 rw [h.form] at ha; exact ca.1 (List.mem_filter.1 ha).1
theorem Sv.len {c:aG} {x:Int} {s:List Int} (h:Sv c x s):s.length≤c.aD.length:=by
 rw [h.form]; exact Nat.le_trans (List.length_filter_le _ _) (by rw [dM]; exact Nat.le_refl _)
theorem Sv.nil (c:aG) (x:Int):Sv c x []:=⟨by rw [List.filter_eq_nil_iff.2]; intro a _; simp [hasB],fun _ h=>(nomatch h),fun _ h=>(nomatch h)⟩
theorem sg {c:aG} {A:List Int} {a:Int}:a∈o3 c A↔(0≤a∧a < c.aD.length)∧∃ y∈A,∃ b:Int,(0≤b∧b < c.aD.length)∧gi c.To y=gi c.aD b∧gk c.aB y b=a:=by
 unfold o3 SR
 rw [List.mem_filter,ca]
 simp only [List.any_eq_true,Bool.and_eq_true,beq_iff_eq]
 constructor
 ·rintro ⟨h,y,hy,b,hb,e1,e2⟩; exact ⟨h,y,hy,b,ca.1 hb,e1,e2⟩
 ·rintro ⟨h,y,hy,b,hb,e1,e2⟩; exact ⟨h,y,hy,b,ca.2 hb,e1,e2⟩
theorem J3 {n:Nat} {p:Int→Bool}:(ns n).filter p=(ns n).filter (hasB ((ns n).filter p)):=by
 apply List.filter_congr
 intro a ha
 rw [Bool.eq_iff_iff,yF,List.mem_filter]
 exact ⟨fun h=>⟨ha,h⟩,fun h=>h.2⟩
section
variable {c:aG} (H:nm c) {x:Int}
include H
theorem GF {A:List Int} (hA:OD c A):∀ y∈A,y∈o3 c A:=fun y hy=>by
 have h:=hA y hy
 have ht:=H.to h.1 h.2
 have hi:=H.id ht.1 ht.2
 exact sg.2 ⟨h,y,hy,_,hi,(H.vx _ ht.1 ht.2).symm,H.EL y h.1 h.2⟩
theorem Q6 {A:List Int} (hA:OD c A) (hs:∀ y∈A,gi c.aD y=x):Sv c x (o3 c A):=by
 refine ⟨J3,fun y hy=>?_,fun z hz b b0 b1 e=>?_⟩
 ·obtain ⟨_,z,hz,b,hb,e1,e2⟩:=sg.1 hy
  have h:=hA z hz
  rw [← e2,(H.cell z b h.1 h.2 hb.1 hb.2 e1).2.2.1]
  exact hs z hz
 ·obtain ⟨Ie,y,hy,a,ha,e1,e2⟩:=sg.1 hz
  have h:=hA y hy
  have c1:=H.cell y a h.1 h.2 ha.1 ha.2 e1
  have e3:gi c.To a=gi c.aD b:=by rw [← c1.2.2.2,e2]; exact e
  have c2:=H.cell a b ha.1 ha.2 b0 b1 e3
  have c3:=H.cell z b Ie.1 Ie.2 b0 b1 e
  refine sg.2 ⟨⟨c3.1,c3.2.1⟩,y,hy,gk c.aB a b,⟨c2.1,c2.2.1⟩,by rw [c2.2.2.1]; exact e1,?_⟩
  rw [← H.assoc y a b h.1 h.2 ha.1 ha.2 b0 b1 e1 e3,e2]
def xN (c:aG) (s:List Int) (a:Int):List Int:=o3 c (s++[a])
theorem Jf {s:List Int} {a:Int} (hs:Sv c x s) (ha:a∈ud c x):OD c (s++[a])∧∀ y∈s++[a],gi c.aD y=x:=by
 have h:=uB.1 ha
 refine ⟨fun y hy=>?_,fun y hy=>?_⟩
 ·rcases List.mem_append.1 hy with h' | h'
  ·exact hs.arr y h'
  ·rw [List.mem_singleton.1 h']; exact h.1
 ·rcases List.mem_append.1 hy with h' | h'
  ·exact hs.src y h'
  ·rw [List.mem_singleton.1 h']; exact h.2
theorem T8 {s:List Int} {a:Int} (hs:Sv c x s) (ha:a∈ud c x):Sv c x (xN c s a):=
 Q6 H (Jf H hs ha).1 (Jf H hs ha).2
theorem Q7 {s:List Int} (h:Reaches (ud c x) (xN c) [] s):Sv c x s:=by
 induction h with
 | base=>exact Sv.nil c x
 | step _ ha ih=>exact T8 H ih ha
structure Ae (c:aG) (x:Int) (L:List (List Int)):Prop where
 mem:∀ s,s∈L↔Reaches (ud c x) (xN c) [] s
 nodup:L.Nodup
 len:L.length≤16
theorem Ae.sv {L:List (List Int)} (h:Ae c x L):∀ s∈L,Sv c x s:=fun s hs=>Q7 H ((h.mem s).1 hs)
inductive Found (c:aG) (x:Int):Option (List (List Int))→Prop
 | SP (F:List (List Int)) (h:zm (ud c x) (xN c) [] F) (hl:F.length≤16):Found c x (some (F.mergeSort SD))
 | many (h:Mw (ud c x) (xN c) 16 []):Found c x none
end
end Go.Proofs.YtgjbmjjihmfppaaGreat
namespace Go.Li
open Go
def dt {β:Type} (n:Nat) (g:Int→β):List β:=(ns n).map g
theorem cD {β:Type} (n:Nat) (g:Int→β):(dt n g).length=n:=by simp [dt,dM]
theorem pg {β:Type} (n:Nat) (g:Int→β):dt (n+1) g=dt n g++[g n]:=by
 unfold dt ns
 rw [List.range_succ]; simp
theorem ry {β:Type} {n i:Nat} (g:Int→β) (h:i < n):(dt n g)[i]? = some (g i):=by
 unfold dt ns
 simp [h]
theorem ou {β:Type} {n:Nat} {g:Int→β} {y:β}:y∈dt n g↔∃ x:Int,(0≤x∧x < n)∧g x=y:=by
 unfold dt; simp only [List.mem_map,ca]
theorem vz {β:Type} {n:Nat} {g h:Int→β} (e:∀ i:Nat,i < n→g i=h i):dt n g=dt n h:=by
 apply List.map_congr_left
 intro x hx
 have:=ca.1 hx
 have:=e x.toNat (by omega)
 rwa [Int.toNat_of_nonneg (by omega)] at this
theorem wc {S S1 R β:Type} {body:S1→Option (Out S1 R)} {k:Nat} {f:S1→Option (Out S R)} {Jg:S1} (n:Nat) (g:Int→β) (pk:List β→Nat→S1) (e0:pk [] 0=Jg)
  (step:∀ i acc,i < n→acc.length=i→body (pk acc i)=some (.norm (pk (acc++[g i]) (i+1)))) (last:∀ acc,acc.length=n→body (pk acc n)=some (.exit k (pk acc n))) :
  ah (ae k (ai body Jg)) f=f (pk (dt n g) n):=by
 rw [← e0]
 refine pq (ns n) (fun i=>pk (dt i g) i) rfl ?_ ?_
 ·intro i x hx
  obtain ⟨rfl,hi⟩:=iH hx
  rw [step i _ hi (cD i g),pg]
 ·rw [dM]; exact last _ (cD n g)
def gl {α:Type} (l:List (List α)) (j:Int):List α:=l.getD j.toNat []
theorem DY {α:Type} {l:List (List α)} {i:Nat} (h:i < l.length):l[i]? = some (gl l i):=by
 unfold gl; rw [List.getD_eq_getElem?_getD,Int.toNat_natCast,List.getElem?_eq_getElem h]; rfl
theorem KV {α β:Type} (l:List (List α)) (g:List α→β):dt l.length (fun i=>g (gl l i))=l.map g:=by
 apply List.ext_getElem?
 intro i
 by_cases h:i < l.length
 ·rw [ry _ h,List.getElem?_map,DY h]; rfl
 ·rw [List.getElem?_eq_none (by rw [cD]; omega),List.getElem?_eq_none (by rw [List.length_map]; omega)]
end Go.Li
namespace Go.Proofs.YtgjbmjjihmfppaaGreat
open Go Go.Li
set_option linter.unusedSectionVars false
theorem iu (l:List Int) (hl:l.length≤1048576):dU l=some l:=by
 unfold dU
 rw [dK (by simp; omega) (by simp; omega),aF,List.nil_append]; rfl
theorem Jh (l:List (List Int)) (hl:l.length≤1048576) (hr:∀ y∈l,y.length≤1048576):mI l=some l:=by
 unfold mI
 refine (congrArg ak (wc l.length (gr l) (fun acc i=>(acc,(i:Int))) rfl ?_ ?_)).trans ?_
 ·intro i acc hi ha
  show jT l acc i=_
  unfold jT
  rw [av (by omega),cond_true,ny (by omega) (by omega),aF,iu _ (hr _ (ra (by omega) (by omega))),aF,dK (by omega) (by omega),aF,bR (by omega)]
 ·intro acc ha
  show jT l acc _=_
  unfold jT
  rw [aX (by omega),cond_false]
 ·show some (dt l.length (gr l))=_
  have:=KV l (fun x=>x)
  rw [List.map_id'] at this
  exact congrArg some this
theorem yH {c:aG} (h:gv c):kD c=some c:=by
 unfold kD
 rw [iu _ h.f,aF,iu _ h.t,aF,iu _ h.i,aF,Jh _ h.k h.r,aF]; rfl
theorem Ji {c:aG} (h:gv c):iB c=some c:=by
 have h1:∀ l:List Int,l.length≤1048576→eP l=some l:=fun l hl=>iu l hl
 have hk:=h.k
 unfold iB
 rw [h1 _ h.f,aF,h1 _ h.t,aF,h1 _ h.i,aF]
 have:qH c.aB=some c.aB:=by
  unfold qH
  rw [CO (by omega) (by omega),aF]
  refine (congrArg ak (wc c.aB.length (gr c.aB) (fun acc i=>(acc,(i:Int))) rfl ?_ ?_)).trans ?_
  ·intro i acc hi ha
   show kX c.aB acc i=_
   unfold kX
   rw [av (by omega),cond_true,ny (by omega) (by omega),aF,h1 _ (h.r _ (ra (by omega) (by omega))),aF,dK (by omega) (by omega),aF,bR (by omega)]
  ·intro acc ha
   show kX c.aB acc _=_
   unfold kX
   rw [aX (by omega),cond_false]
  ·have:=KV c.aB (fun x=>x)
   rw [List.map_id'] at this
   exact congrArg some this
 rw [this,aF]; rfl
structure Mz (c:aG) (k:Nat) (ls:List (List (List Int))):Prop where
 len:ls.length=k
 found:∀ i:Nat,i < k→Found c i (some (gl ls i))
section
variable {c:aG} (H:nm c)
include H
theorem Q8 {x:Int} {L:List (List Int)} (h:Found c x (some L)):Ae c x L:=by
 cases h with
 | SP F h hl=>
  have hp:=List.mergeSort_perm F SD
  exact ⟨fun s=>by rw [hp.mem_iff]; exact h.mem s,hp.nodup_iff.2 h.nodup,by rw [hp.length_eq]; exact hl⟩
theorem Mz.sv {k:Nat} {ls:List (List (List Int))} (h:Mz c k ls) {i:Int} (h0:0≤i) (h1:i < k):Ae c i (gl ls i):=by
 have:=h.found i.toNat (by omega)
 rw [Int.toNat_of_nonneg h0] at this
 exact Q8 H this
end
end Go.Proofs.YtgjbmjjihmfppaaGreat
namespace Go.Proofs.YtgjbmjjihmfppaaGreat
open Go Go.Li
set_option linter.unusedSectionVars false
section
variable {c:aG} (H:nm c)
include H
end
end Go.Proofs.YtgjbmjjihmfppaaGreat
namespace Go.Proofs.YtgjbmjjihmfppaaGreat
open Go Go.Li
section
variable {c:aG} (H:rG c)
include H
end
section
variable {c:aG} (H:nm c) {x:Int}
include H
theorem OF {A:List Int} {a:Int} (hA:OD c A):o3 c (o3 c A++[a])=o3 c (A++[a]):=by
 show (ns c.aD.length).filter _=(ns c.aD.length).filter _
 apply List.filter_congr
 intro z hz
 have key:∀ B:List Int,SR c B z=true↔z∈o3 c B:=fun B=>by
  unfold o3; rw [List.mem_filter]; exact ⟨fun h=>⟨hz,h⟩,fun h=>h.2⟩
 rw [Bool.eq_iff_iff,key,key,sg,sg]
 refine and_congr_right fun hz=>⟨?_,?_⟩
 ·rintro ⟨y,hy,b,hb,e1,e2⟩
  rcases List.mem_append.1 hy with hy | hy
  ·obtain ⟨C8,u,hu,b',cw,e3,e4⟩:=sg.1 hy
   have Dc:=hA u hu
   have c1:=H.cell u b' Dc.1 Dc.2 cw.1 cw.2 e3
   have e5:gi c.To b'=gi c.aD b:=by rw [← c1.2.2.2,e4]; exact e1
   have c2:=H.cell b' b cw.1 cw.2 hb.1 hb.2 e5
   exact ⟨u,List.mem_append_left _ hu,gk c.aB b' b,⟨c2.1,c2.2.1⟩,by rw [c2.2.2.1]; exact e3,by rw [← H.assoc u b' b Dc.1 Dc.2 cw.1 cw.2 hb.1 hb.2 e3 e5,e4]; exact e2⟩
  ·exact ⟨y,List.mem_append_right _ hy,b,hb,e1,e2⟩
 ·rintro ⟨y,hy,b,hb,e1,e2⟩
  rcases List.mem_append.1 hy with hy | hy
  ·exact ⟨y,List.mem_append_left _ (GF H hA y hy),b,hb,e1,e2⟩
  ·exact ⟨y,List.mem_append_right _ hy,b,hb,e1,e2⟩
theorem J4:∀ (n:Nat) (A:List Int),A.length=n→(∀ a∈A,a∈ud c x)→Reaches (ud c x) (xN c) [] (o3 c A):=by
 intro n
 induction n with
 | zero=>
  intro A hA _
  obtain rfl:A=[]:=List.length_eq_zero_iff.1 hA
  have:o3 c []=[]:=by unfold o3; rw [List.filter_eq_nil_iff]; intro a _; simp [SR]
  rw [this]; exact .base
 | succ n ih=>
  intro A hA hs
  have nq:A≠[]:=by rintro rfl; cases hA
  have hd:=List.dropLast_concat_getLast nq
  have hl:A.getLast nq∈A:=List.getLast_mem nq
  have dg:∀ a∈A.dropLast,a∈ud c x:=fun a ha=>hs a (List.dropLast_subset A ha)
  have h1:=ih A.dropLast (by simp; omega) dg
  have h2:=Reaches.step (step:=xN c) h1 (hs _ hl)
  unfold xN at h2
  rw [OF H (fun a ha=>(uB.1 (dg a ha)).1),hd] at h2
  exact h2
theorem Q9 {s:List Int} (h:Sv c x s):Reaches (ud c x) (xN c) [] s:=by
 have h1:=J4 H s.length s rfl fun a ha=>uB.2 ⟨h.arr a ha,h.src a ha⟩
 have h2:o3 c s=s:=by
  conv=>rhs; rw [h.form]
  unfold o3
  apply List.filter_congr
  intro z hz
  rw [Bool.eq_iff_iff,yF]
  constructor
  ·intro hc
   have:z∈o3 c s:=List.mem_filter.2 ⟨hz,hc⟩
   obtain ⟨_,y,hy,b,hb,e1,e2⟩:=sg.1 this
   rw [← e2]; exact h.closed y hy b hb.1 hb.2 e1
  ·intro hs
   exact (List.mem_filter.1 (GF H h.arr z hs)).2
 rw [h2] at h1; exact h1
theorem Ua {L:List (List Int)} (h:Ae c x L) (s:List Int):s∈L↔Sv c x s:=⟨h.sv H s,fun hs=>(h.mem s).2 (Q9 H hs)⟩
theorem XA:Sv c x (ud c x):=by
 refine ⟨?_,fun y hy=>(uB.1 hy).2,fun y hy b b0 b1 e=>?_⟩
 ·show (ns c.aD.length).filter _=_
  apply List.filter_congr
  intro z hz
  rw [Bool.eq_iff_iff,yF,uB]
  simp only [beq_iff_eq]
  exact ⟨fun h=>⟨ca.1 hz,h⟩,fun h=>h.2⟩
 ·have hy:=uB.1 hy
  have c1:=H.cell y b hy.1.1 hy.1.2 b0 b1 e
  exact uB.2 ⟨⟨c1.1,c1.2.1⟩,by rw [c1.2.2.1]; exact hy.2⟩
end
end Go.Proofs.YtgjbmjjihmfppaaGreat
namespace Go.Li
open Go
section
variable {S S1 R α:Type} {body:S1→Option (Out S1 R)}
end
end Go.Li
namespace Go.Proofs.YtgjbmjjihmfppaaGreat
open Go Go.Li
def put (p:Int→List Int→Bool) (x:Int) (s:List Int):Int→List Int→Bool:=fun y t=>p y t || (y == x && t == s)
structure Tab (c:aG) (ls:List (List (List Int))):Prop where
 cat:nm c
 lists:Mz c c.aA.toNat ls
namespace Tab
variable {c:aG} {ls:List (List (List Int))} (T:Tab c ls)
include T
theorem len:(ls.length:Int)=c.aA:=by have h1:=T.lists.len; have h2:=T.cat.o0; omega
theorem sv {x:Int} (h0:0≤x) (h1:x < ls.length):Ae c x (gl ls x):=T.lists.sv T.cat h0 (by have:=T.lists.len; omega)
theorem mem {x:Int} (h0:0≤x) (h1:x < ls.length) {s:List Int}:s∈gl ls x↔Sv c x s:=Ua T.cat (T.sv h0 h1) s
theorem nodup {x:Int} (h0:0≤x) (h1:x < ls.length):(gl ls x).Nodup:=(T.sv h0 h1).nodup
theorem fr {a:Int} (a0:0≤a) (a1:a < c.aD.length):0≤gi c.aD a∧gi c.aD a < ls.length:=by have:=T.cat.fr a0 a1; rw [← T.len] at this; exact this
theorem to {a:Int} (a0:0≤a) (a1:a < c.aD.length):0≤gi c.To a∧gi c.To a < ls.length:=by have:=T.cat.to a0 a1; rw [← T.len] at this; exact this
theorem out {x:Int} (h0:0≤x) (h1:x < ls.length):ud c x∈gl ls x:=(T.mem h0 h1).2 (XA T.cat)
theorem arr {x:Int} (h0:0≤x) (h1:x < ls.length) {s:List Int} (hs:s∈gl ls x) {a:Int} (ha:a∈s):0≤a∧a < c.aD.length:=((T.mem h0 h1).1 hs).arr a ha
end Tab
def XB (c:aG) (p:Int→List Int→Bool) (s t:List Int):Bool:=!(s.any fun a=>!(p (gi c.To a) (SS c a t)))
structure ajz (c:aG) (ls:List (List (List Int))) (q:Int→List Int→Bool):Prop where
 top:∀ x:Int,0≤x→x < ls.length→q x (ud c x)=true
 arrow:∀ a s:_,0≤a→a < (c.aD.length:Int)→s∈gl ls (gi c.aD a)→q (gi c.aD a) s=true→q (gi c.To a) (SS c a s)=true
 loc:∀ x:Int,0≤x→x < ls.length→∀ s∈gl ls x,∀ t∈gl ls x,q x s=true→XB c q s t=true→q x t=true
section
variable {c:aG} {ls:List (List (List Int))} (T:Tab c ls) {p:Int→List Int→Bool}
include T
end
end Go.Proofs.YtgjbmjjihmfppaaGreat
namespace Go.Proofs.YtgjbmjjihmfppaaGreat
open Go Go.Li
def Zr (ls:List (List (List Int))):List (Int×List Int):=(ns ls.length).flatMap fun x=>(gl ls x).map fun s=>(x,s)
def H8 (ls:List (List (List Int))) (p:Int→List Int→Bool):Nat:=(Zr ls).countP fun z=>p z.1 z.2
def Le (ls:List (List (List Int))) (p q:Int→List Int→Bool):Prop:=∀ y:Int,0≤y→y < ls.length→∀ t∈gl ls y,p y t=true→q y t=true
theorem Le.tr {ls:List (List (List Int))} {p q r:Int→List Int→Bool} (h:Le ls p q) (g:Le ls q r):Le ls p r:=fun y h0 h1 t ht hp=>g y h0 h1 t ht (h y h0 h1 t ht hp)
theorem Le.put {ls:List (List (List Int))} {p:Int→List Int→Bool} {x:Int} {s:List Int}:Le ls p (put p x s):=fun y _ _ t _ h=>by
 show (p y t || _)=true
 rw [h]; rfl
end Go.Proofs.YtgjbmjjihmfppaaGreat
namespace Go.Proofs.YtgjbmjjihmfppaaGreat
open Go Go.Li
section
variable {c:aG} {ls:List (List (List Int))} (T:Tab c ls) {p:Int→List Int→Bool}
include T
end
end Go.Proofs.YtgjbmjjihmfppaaGreat
namespace Go.Proofs.YtgjbmjjihmfppaaGreat
open Go Go.Li
section
end
end Go.Proofs.YtgjbmjjihmfppaaGreat
namespace Go.Proofs.YtgjbmjjihmfppaaGreat
open Go Go.Li
end Go.Proofs.YtgjbmjjihmfppaaGreat
namespace Go.Proofs.YtgjbmjjihmfppaaGreat
open Go Go.Li
theorem tK {S S1 R:Type} {body:S1→Option (Out S1 R)} {k:Nat} {f:S1→Option (Out S R)} {s0:S1} (l:List Int) (q:Int→Bool) (pk:List Int→Nat→S1) (e0:pk [] 0=s0)
  (step:∀ i a acc,l[i]? = some a→acc.length≤i→body (pk acc i)=some (.norm (pk (if q a then acc++[a] else acc) (i+1)))) (last:∀ acc,body (pk acc l.length)=some (.exit k (pk acc l.length))) :
  ah (ae k (ai body s0)) f=f (pk (l.filter q) l.length):=by
 refine (pq l (fun i=>pk ((l.take i).filter q) i) (by simpa using e0) (fun i a ha=>?_) (e:=pk (l.filter q) l.length) ?_)
 ·rw [step i a _ ha (by have:=List.length_filter_le q (l.take i); rw [List.length_take] at this; omega),BI ha,List.filter_append]
  cases h:q a <;> simp [h]
 ·rw [last,List.take_length]
section
variable {c:aG} {ls:List (List (List Int))} (T:Tab c ls) {p q:Int→List Int→Bool}
include T
end
end Go.Proofs.YtgjbmjjihmfppaaGreat
namespace Go.Proofs.YtgjbmjjihmfppaaGreat
open Go Go.Li
section
variable {c:aG} (H:nm c)
include H
end
end Go.Proofs.YtgjbmjjihmfppaaGreat
namespace Go.Proofs.YtgjbmjjihmfppaaGreat
open Go Go.Li
def o7 (c d:aG):Bool:=c.aA == d.aA && (c.aD == d.aD && (c.To == d.To && (c.aH == d.aH && c.aB == d.aB)))
theorem sN {c d:aG}:o7 c d=true↔c=d:=by
 unfold o7
 simp only [Bool.and_eq_true,beq_iff_eq]
 constructor
 ·rintro ⟨h1,h2,h3,h4,h5⟩
  cases c; cases d
  dsimp only at h1 h2 h3 h4 h5
  rw [h1,h2,h3,h4,h5]
 ·rintro rfl; exact ⟨rfl,rfl,rfl,rfl,rfl⟩
theorem J5 {c d:aG} (h:gv c):pJ c d=some (o7 c d):=by
 obtain ⟨h1,h2,h3,h4,h5⟩:=h
 have e5:qO c.aB d.aB=some (c.aB == d.aB):=T5 _ _ (by omega) (fun z hz=>by have:=h5 z hz; omega)
 unfold pJ o7
 cases c.aA == d.aA with
 | false=>rfl
 | true=>
  rw [cond_true,DN _ _ (by omega),aF]
  cases c.aD == d.aD with
  | false=>rfl
  | true=>
   rw [cond_true,DN _ _ (by omega),aF]
   cases c.To == d.To with
   | false=>rfl
   | true=>
    rw [cond_true,DN _ _ (by omega),aF]
    cases c.aH == d.aH with
    | false=>rfl
    | true=>rw [cond_true,e5]; rfl
theorem Ra:∀ {x y:List (List Int)},x.length=y.length→(x == y) = !((x.zip y).any fun z=>!(z.1 == z.2)):=by
 intro x
 induction x with
 | nil=>intro y h; cases y with
  | nil=>rfl
  | cons b y=>simp at h
 | cons a x ih=>
  intro y h
  cases y with
  | nil=>simp at h
  | cons b y=>
   have h':x.length=y.length:=by simpa using h
   rw [List.zip_cons_cons,List.any_cons,Bool.not_or,Bool.not_not,← ih h']; rfl
theorem wB {c d:aG} (h:gv c):kK c d=some (o7 c d):=by
 obtain ⟨h1,h2,h3,h4,h5⟩:=h
 unfold kK o7
 cases e1:c.aA == d.aA with
 | false=>rw [show (c.aA != d.aA)=true by unfold bne; rw [e1]; rfl]; rfl
 | true=>
  rw [show (c.aA != d.aA)=false by unfold bne; rw [e1]; rfl,cond_false,yG _ _ (by omega),aF]
  cases c.aD == d.aD with
  | false=>rfl
  | true=>
   rw [Bool.not_true,cond_false,yG _ _ (by omega),aF]
   cases c.To == d.To with
   | false=>rfl
   | true=>
    rw [Bool.not_true,cond_false,yG _ _ (by omega),aF]
    cases c.aH == d.aH with
    | false=>rfl
    | true=>
     rw [Bool.not_true,cond_false,aF]
     simp only [Bool.true_and]
     by_cases hl:c.aB.length=d.aB.length
     ·rw [A5 (by omega),cond_false,Ra hl]
      refine (congrArg ak (jr (c.aB.zip d.aB) (fun z=>!(z.1 == z.2)) (fun i=>(i:Int)) rfl ?_ ?_ (e:=((c.aB.zip d.aB).length:Int)) (y:=false) ?_)).trans ?_
      ·intro i z hz hp
       obtain ⟨z1,z2⟩:=z
       obtain ⟨g1,g2⟩:=List.getElem?_zip_eq_some.1 hz
       have hi:=bj g1
       have:=h5 _ (List.mem_of_getElem? g1)
       unfold iQ
       rw [av (by omega),cond_true,bu,g1,aF,bu,g2,aF,yG _ _ (by omega),aF]
       rw [show (!(z1 == z2))=false from hp,cond_false,bR (by omega)]
      ·intro i z hz hp
       obtain ⟨z1,z2⟩:=z
       obtain ⟨g1,g2⟩:=List.getElem?_zip_eq_some.1 hz
       have hi:=bj g1
       have:=h5 _ (List.mem_of_getElem? g1)
       unfold iQ
       rw [av (by omega),cond_true,bu,g1,aF,bu,g2,aF,yG _ _ (by omega),aF]
       rw [show (!(z1 == z2))=true from hp,cond_true]
      ·unfold iQ
       rw [List.length_zip,← hl,Nat.min_self,aX (by omega),cond_false]
      ·cases (c.aB.zip d.aB).any fun z=>!(z.1 == z.2) <;> rfl
     ·rw [vv (by omega)]
      have:(c.aB == d.aB)=false:=sy fun h=>hl (by rw [h])
      rw [this]; rfl
end Go.Proofs.YtgjbmjjihmfppaaGreat
namespace Go.Proofs.YtgjbmjjihmfppaaGreat
open Go Go.Li
theorem Cn {S R:Type} {body:Int→Option (Out Int R)} {k:Nat} {f:Int→Option (Out S R)} {n:Nat} (p:Int→Bool) {y:R}
  (h:∀ i:Nat,i < n→body (i:Int)=bif p i then some (.ret y) else some (.norm ((i+1:Nat):Int))) (last:body (n:Int)=some (.exit k (n:Int))) :
  ah (ae k (ai body (0:Int))) f=bif (ns n).any p then some (.ret y) else f n:=by
 refine (jr (ns n) p (fun i=>(i:Int)) rfl ?_ ?_ (e:=(n:Int)) (y:=y) ?_).trans ?_
 ·intro i x hx hp; obtain ⟨rfl,hi⟩:=iH hx; rw [h i hi,hp]; rfl
 ·intro i x hx hp; obtain ⟨rfl,hi⟩:=iH hx; rw [h i hi,hp]; rfl
 ·rw [dM]; exact last
 ·cases (ns n).any p <;> rfl
theorem tL {α:Type} {b:Bool} {x y:α}:(bif b then some x else some y)=some (bif b then x else y):=by cases b <;> rfl
theorem Af {a b:Bool}:(bif a then true else b)=(a || b):=by cases a <;> rfl
theorem Jj {a b:Bool}:(bif a then b else false)=(a && b):=by cases a <;> rfl
theorem ec {n:Nat} {p:Int→Bool}:(ns n).any p=false↔∀ i:Int,0≤i→i < n→p i=false:=by
 rw [List.any_eq_false]
 exact ⟨fun h i h0 h1=>by simpa using h i (ca.2 ⟨h0,h1⟩),fun h i hi=>by simp [h i (ca.1 hi).1 (ca.1 hi).2]⟩
namespace SFHead
end SFHead
end Go.Proofs.YtgjbmjjihmfppaaGreat
namespace Go.Proofs.YtgjbmjjihmfppaaGreat
open Go Go.Li
namespace SFShape
end SFShape
end Go.Proofs.YtgjbmjjihmfppaaGreat
namespace Go.Proofs.YtgjbmjjihmfppaaGreat
open Go Go.Li
namespace SMShape
end SMShape
def thenS (a b:List Int):List Int:=dt a.length fun i=>gi b (gi a i)
theorem DO (a b:List Int) (ha:a.length≤1048576) (hb:∀ x∈a,0≤x∧x < b.length):oV a b=some (thenS a b):=by
 unfold oV
 rw [CO (by omega) (by omega),aF]
 have hl:(thenS a b).length=a.length:=cD _ _
 refine (congrArg ak (pq (ns a.length) (fun i=>((i:Int),(thenS a b).take i++List.replicate (a.length - i) (0:Int))) (by simp) ?_ (e:=((a.length:Int),thenS a b)) ?_)).trans rfl
 ·intro i x hx
  obtain ⟨rfl,hi⟩:=iH hx
  have hg:(thenS a b)[i]? = some (gi b (gi a i)):=ry _ hi
  have hm:=hb _ (fj (l:=a) (j:=(i:Int)) (by omega) (by omega))
  have hc:=Q4 (thenS a b) (0:Int) hg
  have hgc:=get_copy (thenS a b) (0:Int) hg
  rw [hl] at hc hgc
  show mO a b (i:Int) _=_
  unfold mO
  rw [av (by omega),cond_true,cH (by omega) (by omega),aF,cH hm.1 hm.2,aF,bu,hgc,aF,bR (by omega),Int.toNat_natCast,hc]
 ·rw [dM]
  show mO a b _ _=_
  unfold mO
  rw [aX (by omega),cond_false,Nat.sub_self,List.take_of_length_le (by omega)]
  simp
end Go.Proofs.YtgjbmjjihmfppaaGreat
