/- All sieves at an object: the reference's search in depth and the program's search in breadth find the same list. No condition beside those that each theorem names. -/
import Derived.Test.YtgjbmjjihmfppaaGreatPh
import Derived.Test.YtgjbmjjihmfppaaGreatPa
namespace Go.Li
open Go
end Go.Li
namespace Go.Proofs.YtgjbmjjihmfppaaGreat
open Go Go.Li
set_option linter.unusedSectionVars false
structure Sv (c:aG) (x:Int) (s:List Int):Prop where
 form:s=(ns c.aE.length).filter (hasB s)
 src:∀ y∈s,gi c.aE y=x
 closed:∀ y∈s,∀ b:Int,0≤b→b < c.aE.length→gi c.To y=gi c.aE b→gk c.aB y b∈s
theorem Sv.arr {c:aG} {x:Int} {s:List Int} (h:Sv c x s):O6 c s:=fun a ha=>by
 rw [h.form] at ha; exact bw.1 (List.mem_filter.1 ha).1
theorem Sv.len {c:aG} {x:Int} {s:List Int} (h:Sv c x s):s.length≤c.aE.length:=by
 rw [h.form]; exact Nat.le_trans (List.length_filter_le _ _) (by rw [dF]; exact Nat.le_refl _)
theorem Sv.nil (c:aG) (x:Int):Sv c x []:=⟨by rw [List.filter_eq_nil_iff.2]; intro a _; simp [hasB],fun _ h=>(nomatch h),fun _ h=>(nomatch h)⟩
theorem sn {c:aG} {A:List Int} {a:Int}:a∈ov c A↔(0≤a∧a < c.aE.length)∧∃ y∈A,∃ b:Int,(0≤b∧b < c.aE.length)∧gi c.To y=gi c.aE b∧gk c.aB y b=a:=by
 unfold ov Tq
 rw [List.mem_filter,bw]
 simp only [List.any_eq_true,Bool.and_eq_true,beq_iff_eq]
 constructor
 ·rintro ⟨h,y,hy,b,hb,e1,e2⟩; exact ⟨h,y,hy,b,bw.1 hb,e1,e2⟩
 ·rintro ⟨h,y,hy,b,hb,e1,e2⟩; exact ⟨h,y,hy,b,bw.2 hb,e1,e2⟩
theorem Ki {n:Nat} {p:Int→Bool}:(ns n).filter p=(ns n).filter (hasB ((ns n).filter p)):=by
 apply List.filter_congr
 intro a ha
 rw [Bool.eq_iff_iff,yZ,List.mem_filter]
 exact ⟨fun h=>⟨ha,h⟩,fun h=>h.2⟩
section
variable {c:aG} (H:pq c) {x:Int}
include H
theorem G3 {A:List Int} (hA:O6 c A):∀ y∈A,y∈ov c A:=fun y hy=>by
 have h:=hA y hy
 have ht:=H.to h.1 h.2
 have hi:=H.id ht.1 ht.2
 exact sn.2 ⟨h,y,hy,_,hi,(H.wh _ ht.1 ht.2).symm,H.Hs y h.1 h.2⟩
theorem RD {A:List Int} (hA:O6 c A) (hs:∀ y∈A,gi c.aE y=x):Sv c x (ov c A):=by
 refine ⟨Ki,fun y hy=>?_,fun z hz b b0 b1 e=>?_⟩
 ·obtain ⟨_,z,hz,b,hb,e1,e2⟩:=sn.1 hy
  have h:=hA z hz
  rw [← e2,(H.cell z b h.1 h.2 hb.1 hb.2 e1).2.2.1]
  exact hs z hz
 ·obtain ⟨IE,y,hy,a,ha,e1,e2⟩:=sn.1 hz
  have h:=hA y hy
  have c1:=H.cell y a h.1 h.2 ha.1 ha.2 e1
  have e3:gi c.To a=gi c.aE b:=by rw [← c1.2.2.2,e2]; exact e
  have c2:=H.cell a b ha.1 ha.2 b0 b1 e3
  have c3:=H.cell z b IE.1 IE.2 b0 b1 e
  refine sn.2 ⟨⟨c3.1,c3.2.1⟩,y,hy,gk c.aB a b,⟨c2.1,c2.2.1⟩,by rw [c2.2.2.1]; exact e1,?_⟩
  rw [← H.assoc y a b h.1 h.2 ha.1 ha.2 b0 b1 e1 e3,e2]
def yd (c:aG) (s:List Int) (a:Int):List Int:=ov c (s++[a])
theorem JB {s:List Int} {a:Int} (hs:Sv c x s) (ha:a∈uB c x):O6 c (s++[a])∧∀ y∈s++[a],gi c.aE y=x:=by
 have h:=uS.1 ha
 refine ⟨fun y hy=>?_,fun y hy=>?_⟩
 ·rcases List.mem_append.1 hy with h' | h'
  ·exact hs.arr y h'
  ·rw [List.mem_singleton.1 h']; exact h.1
 ·rcases List.mem_append.1 hy with h' | h'
  ·exact hs.src y h'
  ·rw [List.mem_singleton.1 h']; exact h.2
theorem UB {s:List Int} {a:Int} (hs:Sv c x s) (ha:a∈uB c x):Sv c x (yd c s a):=
 RD H (JB H hs ha).1 (JB H hs ha).2
theorem RE {s:List Int} (h:Reaches (uB c x) (yd c) [] s):Sv c x s:=by
 induction h with
 | base=>exact Sv.nil c x
 | step _ ha ih=>exact UB H ih ha
structure AE (c:aG) (x:Int) (L:List (List Int)):Prop where
 mem:∀ s,s∈L↔Reaches (uB c x) (yd c) [] s
 nodup:L.Nodup
 len:L.length≤16
theorem AE.sv {L:List (List Int)} (h:AE c x L):∀ s∈L,Sv c x s:=fun s hs=>RE H ((h.mem s).1 hs)
inductive Found (c:aG) (x:Int):Option (List (List Int))→Prop
 | Tp (F:List (List Int)) (h:zJ (uB c x) (yd c) [] F) (hl:F.length≤16):Found c x (some (F.mergeSort Th))
 | many (h:MW (uB c x) (yd c) 16 []):Found c x none
end
end Go.Proofs.YtgjbmjjihmfppaaGreat
namespace Go.Li
open Go
def dy {β:Type} (n:Nat) (g:Int→β):List β:=(ns n).map g
theorem cP {β:Type} (n:Nat) (g:Int→β):(dy n g).length=n:=by simp [dy,dF]
theorem sr {β:Type} (n:Nat) (g:Int→β):dy (n+1) g=dy n g++[g n]:=by
 unfold dy ns
 rw [List.range_succ]; simp
theorem rz {β:Type} {n i:Nat} (g:Int→β) (h:i < n):(dy n g)[i]? = some (g i):=by
 unfold dy ns
 simp [h]
theorem qa {β:Type} {n:Nat} {g:Int→β} {y:β}:y∈dy n g↔∃ x:Int,(0≤x∧x < n)∧g x=y:=by
 unfold dy; simp only [List.mem_map,bw]
theorem vV {β:Type} {n:Nat} {g h:Int→β} (e:∀ i:Nat,i < n→g i=h i):dy n g=dy n h:=by
 apply List.map_congr_left
 intro x hx
 have:=bw.1 hx
 have:=e x.toNat (by omega)
 rwa [Int.toNat_of_nonneg (by omega)] at this
theorem wJ {S S1 R β:Type} {body:S1→Option (Out S1 R)} {k:Nat} {f:S1→Option (Out S R)} {DH:S1} (n:Nat) (g:Int→β) (pk:List β→Nat→S1) (e0:pk [] 0=DH)
  (step:∀ i acc,i < n→acc.length=i→body (pk acc i)=some (.norm (pk (acc++[g i]) (i+1)))) (last:∀ acc,acc.length=n→body (pk acc n)=some (.exit k (pk acc n))) :
  ag (ae k (aj body DH)) f=f (pk (dy n g) n):=by
 rw [← e0]
 refine l6 (ns n) (fun i=>pk (dy i g) i) rfl ?_ ?_
 ·intro i x hx
  obtain ⟨rfl,hi⟩:=gu hx
  rw [step i _ hi (cP i g),sr]
 ·rw [dF]; exact last _ (cP n g)
def gl {α:Type} (l:List (List α)) (j:Int):List α:=l.getD j.toNat []
theorem Ei {α:Type} {l:List (List α)} {i:Nat} (h:i < l.length):l[i]? = some (gl l i):=by
 unfold gl; rw [List.getD_eq_getElem?_getD,Int.toNat_natCast,List.getElem?_eq_getElem h]; rfl
theorem Lh {α β:Type} (l:List (List α)) (g:List α→β):dy l.length (fun i=>g (gl l i))=l.map g:=by
 apply List.ext_getElem?
 intro i
 by_cases h:i < l.length
 ·rw [rz _ h,List.getElem?_map,Ei h]; rfl
 ·rw [List.getElem?_eq_none (by rw [cP]; omega),List.getElem?_eq_none (by rw [List.length_map]; omega)]
end Go.Li
namespace Go.Proofs.YtgjbmjjihmfppaaGreat
open Go Go.Li
set_option linter.unusedSectionVars false
theorem jm (l:List Int) (hl:l.length≤1048576):dV l=some l:=by
 unfold dV
 rw [dH (by simp; omega) (by simp; omega),aF,List.nil_append]; rfl
theorem JC (l:List (List Int)) (hl:l.length≤1048576) (hr:∀ y∈l,y.length≤1048576):mA l=some l:=by
 unfold mA
 refine (congrArg ao (wJ l.length (gr l) (fun acc i=>(acc,(i:Int))) rfl ?_ ?_)).trans ?_
 ·intro i acc hi ha
  show jL l acc i=_
  unfold jL
  rw [av (by omega),cond_true,sf (by omega) (by omega),aF,jm _ (hr _ (rb (by omega) (by omega))),aF,dH (by omega) (by omega),aF,bQ (by omega)]
 ·intro acc ha
  show jL l acc _=_
  unfold jL
  rw [bc (by omega),cond_false]
 ·show some (dy l.length (gr l))=_
  have:=Lh l (fun x=>x)
  rw [List.map_id'] at this
  exact congrArg some this
theorem zb {c:aG} (h:gx c):jW c=some c:=by
 unfold jW
 rw [jm _ h.f,aF,jm _ h.t,aF,jm _ h.i,aF,JC _ h.k h.r,aF]; rfl
theorem JD {c:aG} (h:gx c):gZ c=some c:=by
 have h1:∀ l:List Int,l.length≤1048576→eS l=some l:=fun l hl=>jm l hl
 have hk:=h.k
 unfold gZ
 rw [h1 _ h.f,aF,h1 _ h.t,aF,h1 _ h.i,aF]
 have:qF c.aB=some c.aB:=by
  unfold qF
  rw [Fe (by omega) (by omega),aF]
  refine (congrArg ao (wJ c.aB.length (gr c.aB) (fun acc i=>(acc,(i:Int))) rfl ?_ ?_)).trans ?_
  ·intro i acc hi ha
   show kM c.aB acc i=_
   unfold kM
   rw [av (by omega),cond_true,sf (by omega) (by omega),aF,h1 _ (h.r _ (rb (by omega) (by omega))),aF,dH (by omega) (by omega),aF,bQ (by omega)]
  ·intro acc ha
   show kM c.aB acc _=_
   unfold kM
   rw [bc (by omega),cond_false]
  ·have:=Lh c.aB (fun x=>x)
   rw [List.map_id'] at this
   exact congrArg some this
 rw [this,aF]; rfl
structure M0 (c:aG) (k:Nat) (ls:List (List (List Int))):Prop where
 len:ls.length=k
 found:∀ i:Nat,i < k→Found c i (some (gl ls i))
section
variable {c:aG} (H:pq c)
include H
theorem RF {x:Int} {L:List (List Int)} (h:Found c x (some L)):AE c x L:=by
 cases h with
 | Tp F h hl=>
  have hp:=List.mergeSort_perm F Th
  exact ⟨fun s=>by rw [hp.mem_iff]; exact h.mem s,hp.nodup_iff.2 h.nodup,by rw [hp.length_eq]; exact hl⟩
theorem M0.sv {k:Nat} {ls:List (List (List Int))} (h:M0 c k ls) {i:Int} (h0:0≤i) (h1:i < k):AE c i (gl ls i):=by
 have:=h.found i.toNat (by omega)
 rw [Int.toNat_of_nonneg h0] at this
 exact RF H this
end
end Go.Proofs.YtgjbmjjihmfppaaGreat
namespace Go.Proofs.YtgjbmjjihmfppaaGreat
open Go Go.Li
set_option linter.unusedSectionVars false
section
variable {c:aG} (H:pq c)
include H
end
end Go.Proofs.YtgjbmjjihmfppaaGreat
namespace Go.Proofs.YtgjbmjjihmfppaaGreat
open Go Go.Li
section
variable {c:aG} (H:rQ c)
include H
end
section
variable {c:aG} (H:pq c) {x:Int}
include H
theorem O7 {A:List Int} {a:Int} (hA:O6 c A):ov c (ov c A++[a])=ov c (A++[a]):=by
 show (ns c.aE.length).filter _=(ns c.aE.length).filter _
 apply List.filter_congr
 intro z hz
 have key:∀ B:List Int,Tq c B z=true↔z∈ov c B:=fun B=>by
  unfold ov; rw [List.mem_filter]; exact ⟨fun h=>⟨hz,h⟩,fun h=>h.2⟩
 rw [Bool.eq_iff_iff,key,key,sn,sn]
 refine and_congr_right fun hz=>⟨?_,?_⟩
 ·rintro ⟨y,hy,b,hb,e1,e2⟩
  rcases List.mem_append.1 hy with hy | hy
  ·obtain ⟨Dy,u,hu,b',dc,e3,e4⟩:=sn.1 hy
   have Ai:=hA u hu
   have c1:=H.cell u b' Ai.1 Ai.2 dc.1 dc.2 e3
   have e5:gi c.To b'=gi c.aE b:=by rw [← c1.2.2.2,e4]; exact e1
   have c2:=H.cell b' b dc.1 dc.2 hb.1 hb.2 e5
   exact ⟨u,List.mem_append_left _ hu,gk c.aB b' b,⟨c2.1,c2.2.1⟩,by rw [c2.2.2.1]; exact e3,by rw [← H.assoc u b' b Ai.1 Ai.2 dc.1 dc.2 hb.1 hb.2 e3 e5,e4]; exact e2⟩
  ·exact ⟨y,List.mem_append_right _ hy,b,hb,e1,e2⟩
 ·rintro ⟨y,hy,b,hb,e1,e2⟩
  rcases List.mem_append.1 hy with hy | hy
  ·exact ⟨y,List.mem_append_left _ (G3 H hA y hy),b,hb,e1,e2⟩
  ·exact ⟨y,List.mem_append_right _ hy,b,hb,e1,e2⟩
theorem Kk:∀ (n:Nat) (A:List Int),A.length=n→(∀ a∈A,a∈uB c x)→Reaches (uB c x) (yd c) [] (ov c A):=by
 intro n
 induction n with
 | zero=>
  intro A hA _
  obtain rfl:A=[]:=List.length_eq_zero_iff.1 hA
  have:ov c []=[]:=by unfold ov; rw [List.filter_eq_nil_iff]; intro a _; simp [Tq]
  rw [this]; exact .base
 | succ n ih=>
  intro A hA hs
  have nk:A≠[]:=by rintro rfl; cases hA
  have hd:=List.dropLast_concat_getLast nk
  have hl:A.getLast nk∈A:=List.getLast_mem nk
  have df:∀ a∈A.dropLast,a∈uB c x:=fun a ha=>hs a (List.dropLast_subset A ha)
  have h1:=ih A.dropLast (by simp; omega) df
  have h2:=Reaches.step (step:=yd c) h1 (hs _ hl)
  unfold yd at h2
  rw [O7 H (fun a ha=>(uS.1 (df a ha)).1),hd] at h2
  exact h2
theorem RG {s:List Int} (h:Sv c x s):Reaches (uB c x) (yd c) [] s:=by
 have h1:=Kk H s.length s rfl fun a ha=>uS.2 ⟨h.arr a ha,h.src a ha⟩
 have h2:ov c s=s:=by
  conv=>rhs; rw [h.form]
  unfold ov
  apply List.filter_congr
  intro z hz
  rw [Bool.eq_iff_iff,yZ]
  constructor
  ·intro hc
   have:z∈ov c s:=List.mem_filter.2 ⟨hz,hc⟩
   obtain ⟨_,y,hy,b,hb,e1,e2⟩:=sn.1 this
   rw [← e2]; exact h.closed y hy b hb.1 hb.2 e1
  ·intro hs
   exact (List.mem_filter.1 (G3 H h.arr z hs)).2
 rw [h2] at h1; exact h1
theorem UD {L:List (List Int)} (h:AE c x L) (s:List Int):s∈L↔Sv c x s:=⟨h.sv H s,fun hs=>(h.mem s).2 (RG H hs)⟩
theorem Yf:Sv c x (uB c x):=by
 refine ⟨?_,fun y hy=>(uS.1 hy).2,fun y hy b b0 b1 e=>?_⟩
 ·show (ns c.aE.length).filter _=_
  apply List.filter_congr
  intro z hz
  rw [Bool.eq_iff_iff,yZ,uS]
  simp only [beq_iff_eq]
  exact ⟨fun h=>⟨bw.1 hz,h⟩,fun h=>h.2⟩
 ·have hy:=uS.1 hy
  have c1:=H.cell y b hy.1.1 hy.1.2 b0 b1 e
  exact uS.2 ⟨⟨c1.1,c1.2.1⟩,by rw [c1.2.2.1]; exact hy.2⟩
end
end Go.Proofs.YtgjbmjjihmfppaaGreat
namespace Go.Li
open Go
section
variable {S S1 R α:Type} {body:S1→Option (Out S1 R)}
end
end Go.Li
namespace Go.Proofs.YtgjbmjjihmfppaaGreat
open Go Go.Li
def put (p:Int→List Int→Bool) (x:Int) (s:List Int):Int→List Int→Bool:=fun y t=>p y t || (y == x && t == s)
structure Tab (c:aG) (ls:List (List (List Int))):Prop where
 cat:pq c
 lists:M0 c c.aA.toNat ls
namespace Tab
variable {c:aG} {ls:List (List (List Int))} (T:Tab c ls)
include T
theorem len:(ls.length:Int)=c.aA:=by have h1:=T.lists.len; have h2:=T.cat.o0; omega
theorem sv {x:Int} (h0:0≤x) (h1:x < ls.length):AE c x (gl ls x):=T.lists.sv T.cat h0 (by have:=T.lists.len; omega)
theorem mem {x:Int} (h0:0≤x) (h1:x < ls.length) {s:List Int}:s∈gl ls x↔Sv c x s:=UD T.cat (T.sv h0 h1) s
theorem nodup {x:Int} (h0:0≤x) (h1:x < ls.length):(gl ls x).Nodup:=(T.sv h0 h1).nodup
theorem fr {a:Int} (a0:0≤a) (a1:a < c.aE.length):0≤gi c.aE a∧gi c.aE a < ls.length:=by have:=T.cat.fr a0 a1; rw [← T.len] at this; exact this
theorem to {a:Int} (a0:0≤a) (a1:a < c.aE.length):0≤gi c.To a∧gi c.To a < ls.length:=by have:=T.cat.to a0 a1; rw [← T.len] at this; exact this
theorem out {x:Int} (h0:0≤x) (h1:x < ls.length):uB c x∈gl ls x:=(T.mem h0 h1).2 (Yf T.cat)
theorem arr {x:Int} (h0:0≤x) (h1:x < ls.length) {s:List Int} (hs:s∈gl ls x) {a:Int} (ha:a∈s):0≤a∧a < c.aE.length:=((T.mem h0 h1).1 hs).arr a ha
end Tab
def Yg (c:aG) (p:Int→List Int→Bool) (s t:List Int):Bool:=!(s.any fun a=>!(p (gi c.To a) (Tr c a t)))
structure ake (c:aG) (ls:List (List (List Int))) (q:Int→List Int→Bool):Prop where
 top:∀ x:Int,0≤x→x < ls.length→q x (uB c x)=true
 arrow:∀ a s:_,0≤a→a < (c.aE.length:Int)→s∈gl ls (gi c.aE a)→q (gi c.aE a) s=true→q (gi c.To a) (Tr c a s)=true
 loc:∀ x:Int,0≤x→x < ls.length→∀ s∈gl ls x,∀ t∈gl ls x,q x s=true→Yg c q s t=true→q x t=true
section
variable {c:aG} {ls:List (List (List Int))} (T:Tab c ls) {p:Int→List Int→Bool}
include T
end
end Go.Proofs.YtgjbmjjihmfppaaGreat
namespace Go.Proofs.YtgjbmjjihmfppaaGreat
open Go Go.Li
def Z4 (ls:List (List (List Int))):List (Int×List Int):=(ns ls.length).flatMap fun x=>(gl ls x).map fun s=>(x,s)
def Iy (ls:List (List (List Int))) (p:Int→List Int→Bool):Nat:=(Z4 ls).countP fun z=>p z.1 z.2
def Le (ls:List (List (List Int))) (p q:Int→List Int→Bool):Prop:=∀ y:Int,0≤y→y < ls.length→∀ t∈gl ls y,p y t=true→q y t=true
theorem Le.tr {ls:List (List (List Int))} {p q r:Int→List Int→Bool} (h:Le ls p q) (g:Le ls q r):Le ls p r:=fun y h0 h1 t ht hp=>g y h0 h1 t ht (h y h0 h1 t ht hp)
theorem Le.put {ls:List (List (List Int))} {p:Int→List Int→Bool} {x:Int} {s:List Int}:Le ls p (put p x s):=fun y _ _ t _ h=>by
 show (p y t || _)=true
 rw [h]; rfl
end Go.Proofs.YtgjbmjjihmfppaaGreat
namespace Go.Proofs.YtgjbmjjihmfppaaGreat
open Go Go.Li
section
variable {c:aG} {ls:List (List (List Int))} (T:Tab c ls) {p:Int→List Int→Bool}
include T
end
end Go.Proofs.YtgjbmjjihmfppaaGreat
namespace Go.Proofs.YtgjbmjjihmfppaaGreat
open Go Go.Li
section
end
end Go.Proofs.YtgjbmjjihmfppaaGreat
namespace Go.Proofs.YtgjbmjjihmfppaaGreat
open Go Go.Li
end Go.Proofs.YtgjbmjjihmfppaaGreat
namespace Go.Proofs.YtgjbmjjihmfppaaGreat
open Go Go.Li
theorem ud {S S1 R:Type} {body:S1→Option (Out S1 R)} {k:Nat} {f:S1→Option (Out S R)} {s0:S1} (l:List Int) (q:Int→Bool) (pk:List Int→Nat→S1) (e0:pk [] 0=s0)
  (step:∀ i a acc,l[i]? = some a→acc.length≤i→body (pk acc i)=some (.norm (pk (if q a then acc++[a] else acc) (i+1)))) (last:∀ acc,body (pk acc l.length)=some (.exit k (pk acc l.length))) :
  ag (ae k (aj body s0)) f=f (pk (l.filter q) l.length):=by
 refine (l6 l (fun i=>pk ((l.take i).filter q) i) (by simpa using e0) (fun i a ha=>?_) (e:=pk (l.filter q) l.length) ?_)
 ·rw [step i a _ ha (by have:=List.length_filter_le q (l.take i); rw [List.length_take] at this; omega),uM ha,List.filter_append]
  cases h:q a <;> simp [h]
 ·rw [last,List.take_length]
section
variable {c:aG} {ls:List (List (List Int))} (T:Tab c ls) {p q:Int→List Int→Bool}
include T
end
end Go.Proofs.YtgjbmjjihmfppaaGreat
namespace Go.Proofs.YtgjbmjjihmfppaaGreat
open Go Go.Li
section
variable {c:aG} (H:pq c)
include H
end
end Go.Proofs.YtgjbmjjihmfppaaGreat
namespace Go.Proofs.YtgjbmjjihmfppaaGreat
open Go Go.Li
def tG (c d:aG):Bool:=c.aA == d.aA && (c.aE == d.aE && (c.To == d.To && (c.aH == d.aH && c.aB == d.aB)))
theorem wK {c d:aG}:tG c d=true↔c=d:=by
 unfold tG
 simp only [Bool.and_eq_true,beq_iff_eq]
 constructor
 ·rintro ⟨h1,h2,h3,h4,h5⟩
  cases c; cases d
  dsimp only at h1 h2 h3 h4 h5
  rw [h1,h2,h3,h4,h5]
 ·rintro rfl; exact ⟨rfl,rfl,rfl,rfl,rfl⟩
theorem Kl {c d:aG} (h:gx c):pE c d=some (tG c d):=by
 obtain ⟨h1,h2,h3,h4,h5⟩:=h
 have e5:qR c.aB d.aB=some (c.aB == d.aB):=Uz _ _ (by omega) (fun z hz=>by have:=h5 z hz; omega)
 unfold pE tG
 cases c.aA == d.aA with
 | false=>rfl
 | true=>
  rw [cond_true,BD _ _ (by omega),aF]
  cases c.aE == d.aE with
  | false=>rfl
  | true=>
   rw [cond_true,BD _ _ (by omega),aF]
   cases c.To == d.To with
   | false=>rfl
   | true=>
    rw [cond_true,BD _ _ (by omega),aF]
    cases c.aH == d.aH with
    | false=>rfl
    | true=>rw [cond_true,e5]; rfl
theorem RH:∀ {x y:List (List Int)},x.length=y.length→(x == y) = !((x.zip y).any fun z=>!(z.1 == z.2)):=by
 intro x
 induction x with
 | nil=>intro y h; cases y with
  | nil=>rfl
  | cons b y=>simp at h
 | cons a x ih=>
  intro y h
  cases y with
  | nil=>simp at h
  | cons b y=>
   have h':x.length=y.length:=by simpa using h
   rw [List.zip_cons_cons,List.any_cons,Bool.not_or,Bool.not_not,← ih h']; rfl
theorem z6 {c d:aG} (h:gx c):iI c d=some (tG c d):=by
 obtain ⟨h1,h2,h3,h4,h5⟩:=h
 unfold iI tG
 cases e1:c.aA == d.aA with
 | false=>rw [show (c.aA != d.aA)=true by unfold bne; rw [e1]; rfl]; rfl
 | true=>
  rw [show (c.aA != d.aA)=false by unfold bne; rw [e1]; rfl,cond_false,za _ _ (by omega),aF]
  cases c.aE == d.aE with
  | false=>rfl
  | true=>
   rw [Bool.not_true,cond_false,za _ _ (by omega),aF]
   cases c.To == d.To with
   | false=>rfl
   | true=>
    rw [Bool.not_true,cond_false,za _ _ (by omega),aF]
    cases c.aH == d.aH with
    | false=>rfl
    | true=>
     rw [Bool.not_true,cond_false,aF]
     simp only [Bool.true_and]
     by_cases hl:c.aB.length=d.aB.length
     ·rw [zZ (by omega),cond_false,RH hl]
      refine (congrArg ao (jc (c.aB.zip d.aB) (fun z=>!(z.1 == z.2)) (fun i=>(i:Int)) rfl ?_ ?_ (e:=((c.aB.zip d.aB).length:Int)) (y:=false) ?_)).trans ?_
      ·intro i z hz hp
       obtain ⟨z1,z2⟩:=z
       obtain ⟨g1,g2⟩:=List.getElem?_zip_eq_some.1 hz
       have hi:=bg g1
       have:=h5 _ (List.mem_of_getElem? g1)
       unfold iM
       rw [av (by omega),cond_true,bp,g1,aF,bp,g2,aF,za _ _ (by omega),aF]
       rw [show (!(z1 == z2))=false from hp,cond_false,bQ (by omega)]
      ·intro i z hz hp
       obtain ⟨z1,z2⟩:=z
       obtain ⟨g1,g2⟩:=List.getElem?_zip_eq_some.1 hz
       have hi:=bg g1
       have:=h5 _ (List.mem_of_getElem? g1)
       unfold iM
       rw [av (by omega),cond_true,bp,g1,aF,bp,g2,aF,za _ _ (by omega),aF]
       rw [show (!(z1 == z2))=true from hp,cond_true]
      ·unfold iM
       rw [List.length_zip,← hl,Nat.min_self,bc (by omega),cond_false]
      ·cases (c.aB.zip d.aB).any fun z=>!(z.1 == z.2) <;> rfl
     ·rw [vS (by omega)]
      have:(c.aB == d.aB)=false:=o3 fun h=>hl (by rw [h])
      rw [this]; rfl
end Go.Proofs.YtgjbmjjihmfppaaGreat
namespace Go.Proofs.YtgjbmjjihmfppaaGreat
open Go Go.Li
theorem CJ {S R:Type} {body:Int→Option (Out Int R)} {k:Nat} {f:Int→Option (Out S R)} {n:Nat} (p:Int→Bool) {y:R}
  (h:∀ i:Nat,i < n→body (i:Int)=bif p i then some (.ret y) else some (.norm ((i+1:Nat):Int))) (last:body (n:Int)=some (.exit k (n:Int))) :
  ag (ae k (aj body (0:Int))) f=bif (ns n).any p then some (.ret y) else f n:=by
 refine (jc (ns n) p (fun i=>(i:Int)) rfl ?_ ?_ (e:=(n:Int)) (y:=y) ?_).trans ?_
 ·intro i x hx hp; obtain ⟨rfl,hi⟩:=gu hx; rw [h i hi,hp]; rfl
 ·intro i x hx hp; obtain ⟨rfl,hi⟩:=gu hx; rw [h i hi,hp]; rfl
 ·rw [dF]; exact last
 ·cases (ns n).any p <;> rfl
theorem ue {α:Type} {b:Bool} {x y:α}:(bif b then some x else some y)=some (bif b then x else y):=by cases b <;> rfl
theorem AF {a b:Bool}:(bif a then true else b)=(a || b):=by cases a <;> rfl
theorem JE {a b:Bool}:(bif a then b else false)=(a && b):=by cases a <;> rfl
theorem ec {n:Nat} {p:Int→Bool}:(ns n).any p=false↔∀ i:Int,0≤i→i < n→p i=false:=by
 rw [List.any_eq_false]
 exact ⟨fun h i h0 h1=>by simpa using h i (bw.2 ⟨h0,h1⟩),fun h i hi=>by simp [h i (bw.1 hi).1 (bw.1 hi).2]⟩
namespace SFHead
end SFHead
end Go.Proofs.YtgjbmjjihmfppaaGreat
namespace Go.Proofs.YtgjbmjjihmfppaaGreat
open Go Go.Li
namespace SFShape
end SFShape
end Go.Proofs.YtgjbmjjihmfppaaGreat
namespace Go.Proofs.YtgjbmjjihmfppaaGreat
open Go Go.Li
namespace SMShape
end SMShape
def thenS (a b:List Int):List Int:=dy a.length fun i=>gi b (gi a i)
theorem Ea (a b:List Int) (ha:a.length≤1048576) (hb:∀ x∈a,0≤x∧x < b.length):oO a b=some (thenS a b):=by
 unfold oO
 rw [Fe (by omega) (by omega),aF]
 have hl:(thenS a b).length=a.length:=cP _ _
 refine (congrArg ao (l6 (ns a.length) (fun i=>((i:Int),(thenS a b).take i++List.replicate (a.length - i) (0:Int))) (by simp) ?_ (e:=((a.length:Int),thenS a b)) ?_)).trans rfl
 ·intro i x hx
  obtain ⟨rfl,hi⟩:=gu hx
  have hg:(thenS a b)[i]? = some (gi b (gi a i)):=rz _ hi
  have hm:=hb _ (fu (l:=a) (j:=(i:Int)) (by omega) (by omega))
  have hc:=RA (thenS a b) (0:Int) hg
  have hgc:=get_copy (thenS a b) (0:Int) hg
  rw [hl] at hc hgc
  show mH a b (i:Int) _=_
  unfold mH
  rw [av (by omega),cond_true,cH (by omega) (by omega),aF,cH hm.1 hm.2,aF,bp,hgc,aF,bQ (by omega),Int.toNat_natCast,hc]
 ·rw [dF]
  show mH a b _ _=_
  unfold mH
  rw [bc (by omega),cond_false,Nat.sub_self,List.take_of_length_le (by omega)]
  simp
end Go.Proofs.YtgjbmjjihmfppaaGreat
