/- All sieves at an object: the reference's search in depth and the program's search in breadth find the same list. No condition beside those that each theorem names. -/
import Derived.Test.YtbhhmalgcnhniaaGreatPh
import Derived.Test.YtbhhmalgcnhniaaGreatPa
namespace Go.Li
open Go
end Go.Li
namespace Go.Proofs.YtbhhmalgcnhniaaGreat
open Go Go.Li
set_option linter.unusedSectionVars false
structure Sv (c:aG) (x:Int) (s:List Int):Prop where
 form:s=(ns c.aF.length).filter (hasB s)
 src:∀ y∈s,gi c.aF y=x
 closed:∀ y∈s,∀ b:Int,0≤b→b < c.aF.length→gi c.To y=gi c.aF b→gk c.aC y b∈s
theorem Sv.arr {c:aG} {x:Int} {s:List Int} (h:Sv c x s):MH c s:=fun a ha=>by
 rw [h.form] at ha; exact dh.1 (List.mem_filter.1 ha).1
theorem Sv.len {c:aG} {x:Int} {s:List Int} (h:Sv c x s):s.length≤c.aF.length:=by
 rw [h.form]; exact Nat.le_trans (List.length_filter_le _ _) (by rw [cN]; exact Nat.le_refl _)
theorem Sv.nil (c:aG) (x:Int):Sv c x []:=⟨by rw [List.filter_eq_nil_iff.2]; intro a _; simp [hasB],fun _ h=>(nomatch h),fun _ h=>(nomatch h)⟩
theorem q9 {c:aG} {A:List Int} {a:Int}:a∈ni c A↔(0≤a∧a < c.aF.length)∧∃ y∈A,∃ b:Int,(0≤b∧b < c.aF.length)∧gi c.To y=gi c.aF b∧gk c.aC y b=a:=by
 unfold ni QP
 rw [List.mem_filter,dh]
 simp only [List.any_eq_true,Bool.and_eq_true,beq_iff_eq]
 constructor
 ·rintro ⟨h,y,hy,b,hb,e1,e2⟩; exact ⟨h,y,hy,b,dh.1 hb,e1,e2⟩
 ·rintro ⟨h,y,hy,b,hb,e1,e2⟩; exact ⟨h,y,hy,b,dh.2 hb,e1,e2⟩
theorem Is {n:Nat} {p:Int→Bool}:(ns n).filter p=(ns n).filter (hasB ((ns n).filter p)):=by
 apply List.filter_congr
 intro a ha
 rw [Bool.eq_iff_iff,xu,List.mem_filter]
 exact ⟨fun h=>⟨ha,h⟩,fun h=>h.2⟩
section
variable {c:aG} (H:lr c) {x:Int}
include H
theorem E9 {A:List Int} (hA:MH c A):∀ y∈A,y∈ni c A:=fun y hy=>by
 have h:=hA y hy
 have ht:=H.to h.1 h.2
 have hi:=H.id ht.1 ht.2
 exact q9.2 ⟨h,y,hy,_,hi,(H.u4 _ ht.1 ht.2).symm,H.FG y h.1 h.2⟩
theorem Ph {A:List Int} (hA:MH c A) (hs:∀ y∈A,gi c.aF y=x):Sv c x (ni c A):=by
 refine ⟨Is,fun y hy=>?_,fun z hz b b0 b1 e=>?_⟩
 ·obtain ⟨_,z,hz,b,hb,e1,e2⟩:=q9.1 hy
  have h:=hA z hz
  rw [← e2,(H.cell z b h.1 h.2 hb.1 hb.2 e1).2.2.1]
  exact hs z hz
 ·obtain ⟨GP,y,hy,a,ha,e1,e2⟩:=q9.1 hz
  have h:=hA y hy
  have c1:=H.cell y a h.1 h.2 ha.1 ha.2 e1
  have e3:gi c.To a=gi c.aF b:=by rw [← c1.2.2.2,e2]; exact e
  have c2:=H.cell a b ha.1 ha.2 b0 b1 e3
  have c3:=H.cell z b GP.1 GP.2 b0 b1 e
  refine q9.2 ⟨⟨c3.1,c3.2.1⟩,y,hy,gk c.aC a b,⟨c2.1,c2.2.1⟩,by rw [c2.2.2.1]; exact e1,?_⟩
  rw [← H.assoc y a b h.1 h.2 ha.1 ha.2 b0 b1 e1 e3,e2]
def wJ (c:aG) (s:List Int) (a:Int):List Int:=ni c (s++[a])
theorem HB {s:List Int} {a:Int} (hs:Sv c x s) (ha:a∈tn c x):MH c (s++[a])∧∀ y∈s++[a],gi c.aF y=x:=by
 have h:=tN.1 ha
 refine ⟨fun y hy=>?_,fun y hy=>?_⟩
 ·rcases List.mem_append.1 hy with h' | h'
  ·exact hs.arr y h'
  ·rw [List.mem_singleton.1 h']; exact h.1
 ·rcases List.mem_append.1 hy with h' | h'
  ·exact hs.src y h'
  ·rw [List.mem_singleton.1 h']; exact h.2
theorem R6 {s:List Int} {a:Int} (hs:Sv c x s) (ha:a∈tn c x):Sv c x (wJ c s a):=
 Ph H (HB H hs ha).1 (HB H hs ha).2
theorem Pj {s:List Int} (h:Reaches (tn c x) (wJ c) [] s):Sv c x s:=by
 induction h with
 | base=>exact Sv.nil c x
 | step _ ha ih=>exact R6 H ih ha
structure yR (c:aG) (x:Int) (L:List (List Int)):Prop where
 mem:∀ s,s∈L↔Reaches (tn c x) (wJ c) [] s
 nodup:L.Nodup
 len:L.length≤16
theorem yR.sv {L:List (List Int)} (h:yR c x L):∀ s∈L,Sv c x s:=fun s hs=>Pj H ((h.mem s).1 hs)
inductive Found (c:aG) (x:Int):Option (List (List Int))→Prop
 | QN (F:List (List Int)) (h:x9 (tn c x) (wJ c) [] F) (hl:F.length≤16):Found c x (some (F.mergeSort QD))
 | many (h:Kx (tn c x) (wJ c) 16 []):Found c x none
end
end Go.Proofs.YtbhhmalgcnhniaaGreat
namespace Go.Li
open Go
def bz {β:Type} (n:Nat) (g:Int→β):List β:=(ns n).map g
theorem bJ {β:Type} (n:Nat) (g:Int→β):(bz n g).length=n:=by simp [bz,cN]
theorem gv {β:Type} (n:Nat) (g:Int→β):bz (n+1) g=bz n g++[g n]:=by
 unfold bz ns
 rw [List.range_succ]; simp
theorem p9 {β:Type} {n i:Nat} (g:Int→β) (h:i < n):(bz n g)[i]? = some (g i):=by
 unfold bz ns
 simp [h]
theorem ov {β:Type} {n:Nat} {g:Int→β} {y:β}:y∈bz n g↔∃ x:Int,(0≤x∧x < n)∧g x=y:=by
 unfold bz; simp only [List.mem_map,dh]
theorem uO {β:Type} {n:Nat} {g h:Int→β} (e:∀ i:Nat,i < n→g i=h i):bz n g=bz n h:=by
 apply List.map_congr_left
 intro x hx
 have:=dh.1 hx
 have:=e x.toNat (by omega)
 rwa [Int.toNat_of_nonneg (by omega)] at this
theorem vp {S S1 R β:Type} {body:S1→Option (Out S1 R)} {k:Nat} {f:S1→Option (Out S R)} {HC:S1} (n:Nat) (g:Int→β) (pk:List β→Nat→S1) (e0:pk [] 0=HC)
  (step:∀ i acc,i < n→acc.length=i→body (pk acc i)=some (.norm (pk (acc++[g i]) (i+1)))) (last:∀ acc,acc.length=n→body (pk acc n)=some (.exit k (pk acc n))) :
  af (ae k (ag body HC)) f=f (pk (bz n g) n):=by
 rw [← e0]
 refine j5 (ns n) (fun i=>pk (bz i g) i) rfl ?_ ?_
 ·intro i x hx
  obtain ⟨rfl,hi⟩:=dg hx
  rw [step i _ hi (bJ i g),gv]
 ·rw [cN]; exact last _ (bJ n g)
def gl {α:Type} (l:List (List α)) (j:Int):List α:=l.getD j.toNat []
theorem CP {α:Type} {l:List (List α)} {i:Nat} (h:i < l.length):l[i]? = some (gl l i):=by
 unfold gl; rw [List.getD_eq_getElem?_getD,Int.toNat_natCast,List.getElem?_eq_getElem h]; rfl
theorem Ji {α β:Type} (l:List (List α)) (g:List α→β):bz l.length (fun i=>g (gl l i))=l.map g:=by
 apply List.ext_getElem?
 intro i
 by_cases h:i < l.length
 ·rw [p9 _ h,List.getElem?_map,CP h]; rfl
 ·rw [List.getElem?_eq_none (by rw [bJ]; omega),List.getElem?_eq_none (by rw [List.length_map]; omega)]
end Go.Li
namespace Go.Proofs.YtbhhmalgcnhniaaGreat
open Go Go.Li
set_option linter.unusedSectionVars false
theorem j3 (l:List Int) (hl:l.length≤1048576):dS l=some l:=by
 unfold dS
 rw [cY (by simp; omega) (by simp; omega),aE,List.nil_append]; rfl
theorem HD (l:List (List Int)) (hl:l.length≤1048576) (hr:∀ y∈l,y.length≤1048576):mV l=some l:=by
 unfold mV
 refine (congrArg ak (vp l.length (gr l) (fun acc i=>(acc,(i:Int))) rfl ?_ ?_)).trans ?_
 ·intro i acc hi ha
  show kL l acc i=_
  unfold kL
  rw [ao (by omega),cond_true,j6 (by omega) (by omega),aE,j3 _ (hr _ (kv (by omega) (by omega))),aE,cY (by omega) (by omega),aE,bF (by omega)]
 ·intro acc ha
  show kL l acc _=_
  unfold kL
  rw [ay (by omega),cond_false]
 ·show some (bz l.length (gr l))=_
  have:=Ji l (fun x=>x)
  rw [List.map_id'] at this
  exact congrArg some this
theorem xx {c:aG} (h:fg c):kV c=some c:=by
 unfold kV
 rw [j3 _ h.f,aE,j3 _ h.t,aE,j3 _ h.i,aE,HD _ h.k h.r,aE]; rfl
theorem HE {c:aG} (h:fg c):iU c=some c:=by
 have h1:∀ l:List Int,l.length≤1048576→fF l=some l:=fun l hl=>j3 l hl
 have hk:=h.k
 unfold iU
 rw [h1 _ h.f,aE,h1 _ h.t,aE,h1 _ h.i,aE]
 have:qZ c.aC=some c.aC:=by
  unfold qZ
  rw [FC (by omega) (by omega),aE]
  refine (congrArg ak (vp c.aC.length (gr c.aC) (fun acc i=>(acc,(i:Int))) rfl ?_ ?_)).trans ?_
  ·intro i acc hi ha
   show lN c.aC acc i=_
   unfold lN
   rw [ao (by omega),cond_true,j6 (by omega) (by omega),aE,h1 _ (h.r _ (kv (by omega) (by omega))),aE,cY (by omega) (by omega),aE,bF (by omega)]
  ·intro acc ha
   show lN c.aC acc _=_
   unfold lN
   rw [ay (by omega),cond_false]
  ·have:=Ji c.aC (fun x=>x)
   rw [List.map_id'] at this
   exact congrArg some this
 rw [this,aE]; rfl
structure KB (c:aG) (k:Nat) (ls:List (List (List Int))):Prop where
 len:ls.length=k
 found:∀ i:Nat,i < k→Found c i (some (gl ls i))
section
variable {c:aG} (H:lr c)
include H
theorem Pk {x:Int} {L:List (List Int)} (h:Found c x (some L)):yR c x L:=by
 cases h with
 | QN F h hl=>
  have hp:=List.mergeSort_perm F QD
  exact ⟨fun s=>by rw [hp.mem_iff]; exact h.mem s,hp.nodup_iff.2 h.nodup,by rw [hp.length_eq]; exact hl⟩
theorem KB.sv {k:Nat} {ls:List (List (List Int))} (h:KB c k ls) {i:Int} (h0:0≤i) (h1:i < k):yR c i (gl ls i):=by
 have:=h.found i.toNat (by omega)
 rw [Int.toNat_of_nonneg h0] at this
 exact Pk H this
end
end Go.Proofs.YtbhhmalgcnhniaaGreat
namespace Go.Proofs.YtbhhmalgcnhniaaGreat
open Go Go.Li
set_option linter.unusedSectionVars false
section
variable {c:aG} (H:lr c)
include H
end
end Go.Proofs.YtbhhmalgcnhniaaGreat
namespace Go.Proofs.YtbhhmalgcnhniaaGreat
open Go Go.Li
section
variable {c:aG} (H:sA c)
include H
end
section
variable {c:aG} (H:lr c) {x:Int}
include H
theorem M6 {A:List Int} {a:Int} (hA:MH c A):ni c (ni c A++[a])=ni c (A++[a]):=by
 show (ns c.aF.length).filter _=(ns c.aF.length).filter _
 apply List.filter_congr
 intro z hz
 have key:∀ B:List Int,QP c B z=true↔z∈ni c B:=fun B=>by
  unfold ni; rw [List.mem_filter]; exact ⟨fun h=>⟨hz,h⟩,fun h=>h.2⟩
 rw [Bool.eq_iff_iff,key,key,q9,q9]
 refine and_congr_right fun hz=>⟨?_,?_⟩
 ·rintro ⟨y,hy,b,hb,e1,e2⟩
  rcases List.mem_append.1 hy with hy | hy
  ·obtain ⟨B4,u,hu,b',cg,e3,e4⟩:=q9.1 hy
   have Ca:=hA u hu
   have c1:=H.cell u b' Ca.1 Ca.2 cg.1 cg.2 e3
   have e5:gi c.To b'=gi c.aF b:=by rw [← c1.2.2.2,e4]; exact e1
   have c2:=H.cell b' b cg.1 cg.2 hb.1 hb.2 e5
   exact ⟨u,List.mem_append_left _ hu,gk c.aC b' b,⟨c2.1,c2.2.1⟩,by rw [c2.2.2.1]; exact e3,by rw [← H.assoc u b' b Ca.1 Ca.2 cg.1 cg.2 hb.1 hb.2 e3 e5,e4]; exact e2⟩
  ·exact ⟨y,List.mem_append_right _ hy,b,hb,e1,e2⟩
 ·rintro ⟨y,hy,b,hb,e1,e2⟩
  rcases List.mem_append.1 hy with hy | hy
  ·exact ⟨y,List.mem_append_left _ (E9 H hA y hy),b,hb,e1,e2⟩
  ·exact ⟨y,List.mem_append_right _ hy,b,hb,e1,e2⟩
theorem It:∀ (n:Nat) (A:List Int),A.length=n→(∀ a∈A,a∈tn c x)→Reaches (tn c x) (wJ c) [] (ni c A):=by
 intro n
 induction n with
 | zero=>
  intro A hA _
  obtain rfl:A=[]:=List.length_eq_zero_iff.1 hA
  have:ni c []=[]:=by unfold ni; rw [List.filter_eq_nil_iff]; intro a _; simp [QP]
  rw [this]; exact .base
 | succ n ih=>
  intro A hA hs
  have qc:A≠[]:=by rintro rfl; cases hA
  have hd:=List.dropLast_concat_getLast qc
  have hl:A.getLast qc∈A:=List.getLast_mem qc
  have dq:∀ a∈A.dropLast,a∈tn c x:=fun a ha=>hs a (List.dropLast_subset A ha)
  have h1:=ih A.dropLast (by simp; omega) dq
  have h2:=Reaches.step (step:=wJ c) h1 (hs _ hl)
  unfold wJ at h2
  rw [M6 H (fun a ha=>(tN.1 (dq a ha)).1),hd] at h2
  exact h2
theorem Pv {s:List Int} (h:Sv c x s):Reaches (tn c x) (wJ c) [] s:=by
 have h1:=It H s.length s rfl fun a ha=>tN.2 ⟨h.arr a ha,h.src a ha⟩
 have h2:ni c s=s:=by
  conv=>rhs; rw [h.form]
  unfold ni
  apply List.filter_congr
  intro z hz
  rw [Bool.eq_iff_iff,xu]
  constructor
  ·intro hc
   have:z∈ni c s:=List.mem_filter.2 ⟨hz,hc⟩
   obtain ⟨_,y,hy,b,hb,e1,e2⟩:=q9.1 this
   rw [← e2]; exact h.closed y hy b hb.1 hb.2 e1
  ·intro hs
   exact (List.mem_filter.1 (E9 H h.arr z hs)).2
 rw [h2] at h1; exact h1
theorem Si {L:List (List Int)} (h:yR c x L) (s:List Int):s∈L↔Sv c x s:=⟨h.sv H s,fun hs=>(h.mem s).2 (Pv H hs)⟩
theorem VH:Sv c x (tn c x):=by
 refine ⟨?_,fun y hy=>(tN.1 hy).2,fun y hy b b0 b1 e=>?_⟩
 ·show (ns c.aF.length).filter _=_
  apply List.filter_congr
  intro z hz
  rw [Bool.eq_iff_iff,xu,tN]
  simp only [beq_iff_eq]
  exact ⟨fun h=>⟨dh.1 hz,h⟩,fun h=>h.2⟩
 ·have hy:=tN.1 hy
  have c1:=H.cell y b hy.1.1 hy.1.2 b0 b1 e
  exact tN.2 ⟨⟨c1.1,c1.2.1⟩,by rw [c1.2.2.1]; exact hy.2⟩
end
end Go.Proofs.YtbhhmalgcnhniaaGreat
namespace Go.Li
open Go
section
variable {S S1 R α:Type} {body:S1→Option (Out S1 R)}
end
end Go.Li
namespace Go.Proofs.YtbhhmalgcnhniaaGreat
open Go Go.Li
def put (p:Int→List Int→Bool) (x:Int) (s:List Int):Int→List Int→Bool:=fun y t=>p y t || (y == x && t == s)
structure Tab (c:aG) (ls:List (List (List Int))):Prop where
 cat:lr c
 lists:KB c c.aA.toNat ls
namespace Tab
variable {c:aG} {ls:List (List (List Int))} (T:Tab c ls)
include T
theorem len:(ls.length:Int)=c.aA:=by have h1:=T.lists.len; have h2:=T.cat.o0; omega
theorem sv {x:Int} (h0:0≤x) (h1:x < ls.length):yR c x (gl ls x):=T.lists.sv T.cat h0 (by have:=T.lists.len; omega)
theorem mem {x:Int} (h0:0≤x) (h1:x < ls.length) {s:List Int}:s∈gl ls x↔Sv c x s:=Si T.cat (T.sv h0 h1) s
theorem nodup {x:Int} (h0:0≤x) (h1:x < ls.length):(gl ls x).Nodup:=(T.sv h0 h1).nodup
theorem fr {a:Int} (a0:0≤a) (a1:a < c.aF.length):0≤gi c.aF a∧gi c.aF a < ls.length:=by have:=T.cat.fr a0 a1; rw [← T.len] at this; exact this
theorem to {a:Int} (a0:0≤a) (a1:a < c.aF.length):0≤gi c.To a∧gi c.To a < ls.length:=by have:=T.cat.to a0 a1; rw [← T.len] at this; exact this
theorem out {x:Int} (h0:0≤x) (h1:x < ls.length):tn c x∈gl ls x:=(T.mem h0 h1).2 (VH T.cat)
theorem arr {x:Int} (h0:0≤x) (h1:x < ls.length) {s:List Int} (hs:s∈gl ls x) {a:Int} (ha:a∈s):0≤a∧a < c.aF.length:=((T.mem h0 h1).1 hs).arr a ha
end Tab
def VI (c:aG) (p:Int→List Int→Bool) (s t:List Int):Bool:=!(s.any fun a=>!(p (gi c.To a) (QQ c a t)))
structure aih (c:aG) (ls:List (List (List Int))) (q:Int→List Int→Bool):Prop where
 top:∀ x:Int,0≤x→x < ls.length→q x (tn c x)=true
 arrow:∀ a s:_,0≤a→a < (c.aF.length:Int)→s∈gl ls (gi c.aF a)→q (gi c.aF a) s=true→q (gi c.To a) (QQ c a s)=true
 loc:∀ x:Int,0≤x→x < ls.length→∀ s∈gl ls x,∀ t∈gl ls x,q x s=true→VI c q s t=true→q x t=true
section
variable {c:aG} {ls:List (List (List Int))} (T:Tab c ls) {p:Int→List Int→Bool}
include T
end
end Go.Proofs.YtbhhmalgcnhniaaGreat
namespace Go.Proofs.YtbhhmalgcnhniaaGreat
open Go Go.Li
def XJ (ls:List (List (List Int))):List (Int×List Int):=(ns ls.length).flatMap fun x=>(gl ls x).map fun s=>(x,s)
def GK (ls:List (List (List Int))) (p:Int→List Int→Bool):Nat:=(XJ ls).countP fun z=>p z.1 z.2
def Le (ls:List (List (List Int))) (p q:Int→List Int→Bool):Prop:=∀ y:Int,0≤y→y < ls.length→∀ t∈gl ls y,p y t=true→q y t=true
theorem Le.tr {ls:List (List (List Int))} {p q r:Int→List Int→Bool} (h:Le ls p q) (g:Le ls q r):Le ls p r:=fun y h0 h1 t ht hp=>g y h0 h1 t ht (h y h0 h1 t ht hp)
theorem Le.put {ls:List (List (List Int))} {p:Int→List Int→Bool} {x:Int} {s:List Int}:Le ls p (put p x s):=fun y _ _ t _ h=>by
 show (p y t || _)=true
 rw [h]; rfl
end Go.Proofs.YtbhhmalgcnhniaaGreat
namespace Go.Proofs.YtbhhmalgcnhniaaGreat
open Go Go.Li
section
variable {c:aG} {ls:List (List (List Int))} (T:Tab c ls) {p:Int→List Int→Bool}
include T
end
end Go.Proofs.YtbhhmalgcnhniaaGreat
namespace Go.Proofs.YtbhhmalgcnhniaaGreat
open Go Go.Li
section
end
end Go.Proofs.YtbhhmalgcnhniaaGreat
namespace Go.Proofs.YtbhhmalgcnhniaaGreat
open Go Go.Li
end Go.Proofs.YtbhhmalgcnhniaaGreat
namespace Go.Proofs.YtbhhmalgcnhniaaGreat
open Go Go.Li
theorem Fa {S S1 R:Type} {body:S1→Option (Out S1 R)} {k:Nat} {f:S1→Option (Out S R)} {s0:S1} (l:List Int) (q:Int→Bool) (pk:List Int→Nat→S1) (e0:pk [] 0=s0)
  (step:∀ i a acc,l[i]? = some a→acc.length≤i→body (pk acc i)=some (.norm (pk (if q a then acc++[a] else acc) (i+1)))) (last:∀ acc,body (pk acc l.length)=some (.exit k (pk acc l.length))) :
  af (ae k (ag body s0)) f=f (pk (l.filter q) l.length):=by
 refine (j5 l (fun i=>pk ((l.take i).filter q) i) (by simpa using e0) (fun i a ha=>?_) (e:=pk (l.filter q) l.length) ?_)
 ·rw [step i a _ ha (by have:=List.length_filter_le q (l.take i); rw [List.length_take] at this; omega),wg ha,List.filter_append]
  cases h:q a <;> simp [h]
 ·rw [last,List.take_length]
section
variable {c:aG} {ls:List (List (List Int))} (T:Tab c ls) {p q:Int→List Int→Bool}
include T
end
end Go.Proofs.YtbhhmalgcnhniaaGreat
namespace Go.Proofs.YtbhhmalgcnhniaaGreat
open Go Go.Li
section
variable {c:aG} (H:lr c)
include H
end
end Go.Proofs.YtbhhmalgcnhniaaGreat
namespace Go.Proofs.YtbhhmalgcnhniaaGreat
open Go Go.Li
def sn (c d:aG):Bool:=c.aA == d.aA && (c.aF == d.aF && (c.To == d.To && (c.aH == d.aH && c.aC == d.aC)))
theorem tO {c d:aG}:sn c d=true↔c=d:=by
 unfold sn
 simp only [Bool.and_eq_true,beq_iff_eq]
 constructor
 ·rintro ⟨h1,h2,h3,h4,h5⟩
  cases c; cases d
  dsimp only at h1 h2 h3 h4 h5
  rw [h1,h2,h3,h4,h5]
 ·rintro rfl; exact ⟨rfl,rfl,rfl,rfl,rfl⟩
theorem Pw:∀ {x y:List (List Int)},x.length=y.length→(x == y) = !((x.zip y).any fun z=>!(z.1 == z.2)):=by
 intro x
 induction x with
 | nil=>intro y h; cases y with
  | nil=>rfl
  | cons b y=>simp at h
 | cons a x ih=>
  intro y h
  cases y with
  | nil=>simp at h
  | cons b y=>
   have h':x.length=y.length:=by simpa using h
   rw [List.zip_cons_cons,List.any_cons,Bool.not_or,Bool.not_not,← ih h']; rfl
theorem tD {c d:aG} (h:fg c):fB c d=some (sn c d):=by
 obtain ⟨h1,h2,h3,h4,h5⟩:=h
 unfold fB sn
 cases e1:c.aA == d.aA with
 | false=>rw [show (c.aA != d.aA)=true by unfold bne; rw [e1]; rfl]; rfl
 | true=>
  rw [show (c.aA != d.aA)=false by unfold bne; rw [e1]; rfl,cond_false,xw _ _ (by omega),aE]
  cases c.aF == d.aF with
  | false=>rfl
  | true=>
   rw [Bool.not_true,cond_false,xw _ _ (by omega),aE]
   cases c.To == d.To with
   | false=>rfl
   | true=>
    rw [Bool.not_true,cond_false,xw _ _ (by omega),aE]
    cases c.aH == d.aH with
    | false=>rfl
    | true=>
     rw [Bool.not_true,cond_false,aE]
     simp only [Bool.true_and]
     by_cases hl:c.aC.length=d.aC.length
     ·rw [tk (by omega),cond_false,Pw hl]
      refine (congrArg ak (jc (c.aC.zip d.aC) (fun z=>!(z.1 == z.2)) (fun i=>(i:Int)) rfl ?_ ?_ (e:=((c.aC.zip d.aC).length:Int)) (y:=false) ?_)).trans ?_
      ·intro i z hz hp
       obtain ⟨z1,z2⟩:=z
       obtain ⟨g1,g2⟩:=List.getElem?_zip_eq_some.1 hz
       have hi:=bb g1
       have:=h5 _ (List.mem_of_getElem? g1)
       unfold jH
       rw [ao (by omega),cond_true,bu,g1,aE,bu,g2,aE,xw _ _ (by omega),aE]
       rw [show (!(z1 == z2))=false from hp,cond_false,bF (by omega)]
      ·intro i z hz hp
       obtain ⟨z1,z2⟩:=z
       obtain ⟨g1,g2⟩:=List.getElem?_zip_eq_some.1 hz
       have hi:=bb g1
       have:=h5 _ (List.mem_of_getElem? g1)
       unfold jH
       rw [ao (by omega),cond_true,bu,g1,aE,bu,g2,aE,xw _ _ (by omega),aE]
       rw [show (!(z1 == z2))=true from hp,cond_true]
      ·unfold jH
       rw [List.length_zip,← hl,Nat.min_self,ay (by omega),cond_false]
      ·cases (c.aC.zip d.aC).any fun z=>!(z.1 == z.2) <;> rfl
     ·rw [sa (by omega)]
      have:(c.aC == d.aC)=false:=vo fun h=>hl (by rw [h])
      rw [this]; rfl
end Go.Proofs.YtbhhmalgcnhniaaGreat
namespace Go.Proofs.YtbhhmalgcnhniaaGreat
open Go Go.Li
theorem nr {S R:Type} {body:Int→Option (Out Int R)} {k:Nat} {f:Int→Option (Out S R)} {n:Nat} (p:Int→Bool) {y:R}
  (h:∀ i:Nat,i < n→body (i:Int)=bif p i then some (.ret y) else some (.norm ((i+1:Nat):Int))) (last:body (n:Int)=some (.exit k (n:Int))) :
  af (ae k (ag body (0:Int))) f=bif (ns n).any p then some (.ret y) else f n:=by
 refine (jc (ns n) p (fun i=>(i:Int)) rfl ?_ ?_ (e:=(n:Int)) (y:=y) ?_).trans ?_
 ·intro i x hx hp; obtain ⟨rfl,hi⟩:=dg hx; rw [h i hi,hp]; rfl
 ·intro i x hx hp; obtain ⟨rfl,hi⟩:=dg hx; rw [h i hi,hp]; rfl
 ·rw [cN]; exact last
 ·cases (ns n).any p <;> rfl
theorem acE {S R:Type} {body:Int→Option (Out Int R)} {k:Nat} {f:Int→Option (Out S R)} {n:Nat} (p:Int→Bool) (G:R→Prop)
  (h:∀ i:Nat,i < n→(p i=false∧body (i:Int)=some (.norm ((i+1:Nat):Int)))∨(p i=true∧∃ y,body (i:Int)=some (.ret y)∧G y)) (last:body (n:Int)=some (.exit k (n:Int))) :
  ((ns n).any p=false∧af (ae k (ag body (0:Int))) f=f n)∨((ns n).any p=true∧∃ y,af (ae k (ag body (0:Int))) f=some (.ret y)∧G y):=by
 refine (sz (ns n) p G (fun i=>(i:Int)) rfl ?_ ?_ (e:=(n:Int)) (by rw [cN]; exact last)).elim (fun h=>.inr h) (fun h=>.inl h)
 ·intro i x hx hp
  obtain ⟨rfl,hi⟩:=dg hx
  rcases h i hi with ⟨_,h⟩ | ⟨h,_⟩
  ·exact h
  ·rw [hp] at h; cases h
 ·intro i x hx hp
  obtain ⟨rfl,hi⟩:=dg hx
  rcases h i hi with ⟨h,_⟩ | ⟨_,h⟩
  ·rw [hp] at h; cases h
  ·exact h
theorem rb {α:Type} {b:Bool} {x y:α}:(bif b then some x else some y)=some (bif b then x else y):=by cases b <;> rfl
theorem yU {a b:Bool}:(bif a then true else b)=(a || b):=by cases a <;> rfl
theorem CJ {a b:Bool}:(bif a then b else false)=(a && b):=by cases a <;> rfl
theorem br {n:Nat} {p:Int→Bool}:(ns n).any p=false↔∀ i:Int,0≤i→i < n→p i=false:=by
 rw [List.any_eq_false]
 exact ⟨fun h i h0 h1=>by simpa using h i (dh.2 ⟨h0,h1⟩),fun h i hi=>by simp [h i (dh.1 hi).1 (dh.1 hi).2]⟩
namespace SFHead
end SFHead
end Go.Proofs.YtbhhmalgcnhniaaGreat
namespace Go.Proofs.YtbhhmalgcnhniaaGreat
open Go Go.Li
namespace SFShape
end SFShape
end Go.Proofs.YtbhhmalgcnhniaaGreat
namespace Go.Proofs.YtbhhmalgcnhniaaGreat
open Go Go.Li
namespace SMShape
end SMShape
def thenS (a b:List Int):List Int:=bz a.length fun i=>gi b (gi a i)
theorem CH (a b:List Int) (ha:a.length≤1048576) (hb:∀ x∈a,0≤x∧x < b.length):mY a b=some (thenS a b):=by
 unfold mY
 rw [FC (by omega) (by omega),aE]
 have hl:(thenS a b).length=a.length:=bJ _ _
 refine (congrArg ak (j5 (ns a.length) (fun i=>((i:Int),(thenS a b).take i++List.replicate (a.length - i) (0:Int))) (by simp) ?_ (e:=((a.length:Int),thenS a b)) ?_)).trans rfl
 ·intro i x hx
  obtain ⟨rfl,hi⟩:=dg hx
  have hg:(thenS a b)[i]? = some (gi b (gi a i)):=p9 _ hi
  have hm:=hb _ (eh (l:=a) (j:=(i:Int)) (by omega) (by omega))
  have hc:=Hu (thenS a b) (0:Int) hg
  have M7:=get_copy (thenS a b) (0:Int) hg
  rw [hl] at hc M7
  show mX a b (i:Int) _=_
  unfold mX
  rw [ao (by omega),cond_true,bL (by omega) (by omega),aE,bL hm.1 hm.2,aE,bu,M7,aE,bF (by omega),Int.toNat_natCast,hc]
 ·rw [cN]
  show mX a b _ _=_
  unfold mX
  rw [ay (by omega),cond_false,Nat.sub_self,List.take_of_length_le (by omega)]
  simp
end Go.Proofs.YtbhhmalgcnhniaaGreat
