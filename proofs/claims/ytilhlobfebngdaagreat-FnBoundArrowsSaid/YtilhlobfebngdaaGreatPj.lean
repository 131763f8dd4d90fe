/- All sieves at an object: the reference's search in depth and the program's search in breadth find the same list. No condition beside those that each theorem names. -/
import Derived.Test.YtilhlobfebngdaaGreatPh
import Derived.Test.YtilhlobfebngdaaGreatPa
namespace Go.Li
open Go
end Go.Li
namespace Go.Proofs.YtilhlobfebngdaaGreat
open Go Go.Li
set_option linter.unusedSectionVars false
structure Sv (c:aF) (x:Int) (s:List Int):Prop where
 form:s=(ns c.aE.length).filter (hasB s)
 src:∀ y∈s,gi c.aE y=x
 closed:∀ y∈s,∀ b:Int,0≤b→b < c.aE.length→gi c.To y=gi c.aE b→gk c.aC y b∈s
theorem Sv.arr {c:aF} {x:Int} {s:List Int} (h:Sv c x s):QT c s:=fun a ha=>by
 rw [h.form] at ha; exact fg.1 (List.mem_filter.1 ha).1
theorem Sv.len {c:aF} {x:Int} {s:List Int} (h:Sv c x s):s.length≤c.aE.length:=by
 rw [h.form]; exact Nat.le_trans (List.length_filter_le _ _) (by rw [cN]; exact Nat.le_refl _)
theorem Sv.nil (c:aF) (x:Int):Sv c x []:=⟨by rw [List.filter_eq_nil_iff.2]; intro a _; simp [hasB],fun _ h=>(nomatch h),fun _ h=>(nomatch h)⟩
theorem sk {c:aF} {A:List Int} {a:Int}:a∈oK c A↔(0≤a∧a < c.aE.length)∧∃ y∈A,∃ b:Int,(0≤b∧b < c.aE.length)∧gi c.To y=gi c.aE b∧gk c.aC y b=a:=by
 unfold oK VA
 rw [List.mem_filter,fg]
 simp only [List.any_eq_true,Bool.and_eq_true,beq_iff_eq]
 constructor
 ·rintro ⟨h,y,hy,b,hb,e1,e2⟩; exact ⟨h,y,hy,b,fg.1 hb,e1,e2⟩
 ·rintro ⟨h,y,hy,b,hb,e1,e2⟩; exact ⟨h,y,hy,b,fg.2 hb,e1,e2⟩
theorem Mo {n:Nat} {p:Int→Bool}:(ns n).filter p=(ns n).filter (hasB ((ns n).filter p)):=by
 apply List.filter_congr
 intro a ha
 rw [Bool.eq_iff_iff,FM,List.mem_filter]
 exact ⟨fun h=>⟨ha,h⟩,fun h=>h.2⟩
section
variable {c:aF} (H:l5 c) {x:Int}
include H
theorem II {A:List Int} (hA:QT c A):∀ y∈A,y∈oK c A:=fun y hy=>by
 have h:=hA y hy
 have ht:=H.to h.1 h.2
 have hi:=H.id ht.1 ht.2
 exact sk.2 ⟨h,y,hy,_,hi,(H.yu _ ht.1 ht.2).symm,H.Jf y h.1 h.2⟩
theorem T5 {A:List Int} (hA:QT c A) (hs:∀ y∈A,gi c.aE y=x):Sv c x (oK c A):=by
 refine ⟨Mo,fun y hy=>?_,fun z hz b b0 b1 e=>?_⟩
 ·obtain ⟨_,z,hz,b,hb,e1,e2⟩:=sk.1 hy
  have h:=hA z hz
  rw [← e2,(H.cell z b h.1 h.2 hb.1 hb.2 e1).2.2.1]
  exact hs z hz
 ·obtain ⟨Ko,y,hy,a,ha,e1,e2⟩:=sk.1 hz
  have h:=hA y hy
  have c1:=H.cell y a h.1 h.2 ha.1 ha.2 e1
  have e3:gi c.To a=gi c.aE b:=by rw [← c1.2.2.2,e2]; exact e
  have c2:=H.cell a b ha.1 ha.2 b0 b1 e3
  have c3:=H.cell z b Ko.1 Ko.2 b0 b1 e
  refine sk.2 ⟨⟨c3.1,c3.2.1⟩,y,hy,gk c.aC a b,⟨c2.1,c2.2.1⟩,by rw [c2.2.2.1]; exact e1,?_⟩
  rw [← H.assoc y a b h.1 h.2 ha.1 ha.2 b0 b1 e1 e3,e2]
def zh (c:aF) (s:List Int) (a:Int):List Int:=oK c (s++[a])
theorem Lp {s:List Int} {a:Int} (hs:Sv c x s) (ha:a∈u2 c x):QT c (s++[a])∧∀ y∈s++[a],gi c.aE y=x:=by
 have h:=v8.1 ha
 refine ⟨fun y hy=>?_,fun y hy=>?_⟩
 ·rcases List.mem_append.1 hy with h' | h'
  ·exact hs.arr y h'
  ·rw [List.mem_singleton.1 h']; exact h.1
 ·rcases List.mem_append.1 hy with h' | h'
  ·exact hs.src y h'
  ·rw [List.mem_singleton.1 h']; exact h.2
theorem W1 {s:List Int} {a:Int} (hs:Sv c x s) (ha:a∈u2 c x):Sv c x (zh c s a):=
 T5 H (Lp H hs ha).1 (Lp H hs ha).2
theorem T6 {s:List Int} (h:Reaches (u2 c x) (zh c) [] s):Sv c x s:=by
 induction h with
 | base=>exact Sv.nil c x
 | step _ ha ih=>exact W1 H ih ha
structure B1 (c:aF) (x:Int) (L:List (List Int)):Prop where
 mem:∀ s,s∈L↔Reaches (u2 c x) (zh c) [] s
 nodup:L.Nodup
 len:L.length≤16
theorem B1.sv {L:List (List Int)} (h:B1 c x L):∀ s∈L,Sv c x s:=fun s hs=>T6 H ((h.mem s).1 hs)
inductive Found (c:aF) (x:Int):Option (List (List Int))→Prop
 | Vy (F:List (List Int)) (h:A5 (u2 c x) (zh c) [] F) (hl:F.length≤16):Found c x (some (F.mergeSort Vm))
 | many (h:OZ (u2 c x) (zh c) 16 []):Found c x none
end
end Go.Proofs.YtilhlobfebngdaaGreat
namespace Go.Li
open Go
def cg {β:Type} (n:Nat) (g:Int→β):List β:=(ns n).map g
theorem cE {β:Type} (n:Nat) (g:Int→β):(cg n g).length=n:=by simp [cg,cN]
theorem j6 {β:Type} (n:Nat) (g:Int→β):cg (n+1) g=cg n g++[g n]:=by
 unfold cg ns
 rw [List.range_succ]; simp
theorem ov {β:Type} {n i:Nat} (g:Int→β) (h:i < n):(cg n g)[i]? = some (g i):=by
 unfold cg ns
 simp [h]
theorem nj {β:Type} {n:Nat} {g:Int→β} {y:β}:y∈cg n g↔∃ x:Int,(0≤x∧x < n)∧g x=y:=by
 unfold cg; simp only [List.mem_map,fg]
theorem w8 {β:Type} {n:Nat} {g h:Int→β} (e:∀ i:Nat,i < n→g i=h i):cg n g=cg n h:=by
 apply List.map_congr_left
 intro x hx
 have:=fg.1 hx
 have:=e x.toNat (by omega)
 rwa [Int.toNat_of_nonneg (by omega)] at this
theorem u3 {S S1 R β:Type} {body:S1→Option (Out S1 R)} {k:Nat} {f:S1→Option (Out S R)} {Lq:S1} (n:Nat) (g:Int→β) (pk:List β→Nat→S1) (e0:pk [] 0=Lq)
  (step:∀ i acc,i < n→acc.length=i→body (pk acc i)=some (.norm (pk (acc++[g i]) (i+1)))) (last:∀ acc,acc.length=n→body (pk acc n)=some (.exit k (pk acc n))) :
  af (ae k (ah body Lq)) f=f (pk (cg n g) n):=by
 rw [← e0]
 refine gu (ns n) (fun i=>pk (cg i g) i) rfl ?_ ?_
 ·intro i x hx
  obtain ⟨rfl,hi⟩:=dy hx
  rw [step i _ hi (cE i g),j6]
 ·rw [cN]; exact last _ (cE n g)
def gl {α:Type} (l:List (List α)) (j:Int):List α:=l.getD j.toNat []
theorem FZ {α:Type} {l:List (List α)} {i:Nat} (h:i < l.length):l[i]? = some (gl l i):=by
 unfold gl; rw [List.getD_eq_getElem?_getD,Int.toNat_natCast,List.getElem?_eq_getElem h]; rfl
theorem Nq {α β:Type} (l:List (List α)) (g:List α→β):cg l.length (fun i=>g (gl l i))=l.map g:=by
 apply List.ext_getElem?
 intro i
 by_cases h:i < l.length
 ·rw [ov _ h,List.getElem?_map,FZ h]; rfl
 ·rw [List.getElem?_eq_none (by rw [cE]; omega),List.getElem?_eq_none (by rw [List.length_map]; omega)]
end Go.Li
namespace Go.Proofs.YtilhlobfebngdaaGreat
open Go Go.Li
set_option linter.unusedSectionVars false
theorem fv (l:List Int) (hl:l.length≤1048576):dN l=some l:=by
 unfold dN
 rw [dL (by simp; omega) (by simp; omega),aD,List.nil_append]; rfl
theorem Lr (l:List (List Int)) (hl:l.length≤1048576) (hr:∀ y∈l,y.length≤1048576):oC l=some l:=by
 unfold oC
 refine (congrArg ak (u3 l.length (gr l) (fun acc i=>(acc,(i:Int))) rfl ?_ ?_)).trans ?_
 ·intro i acc hi ha
  show lS l acc i=_
  unfold lS
  rw [au (by omega),cond_true,fx (by omega) (by omega),aD,fv _ (hr _ (fy (by omega) (by omega))),aD,dL (by omega) (by omega),aD,bR (by omega)]
 ·intro acc ha
  show lS l acc _=_
  unfold lS
  rw [ay (by omega),cond_false]
 ·show some (cg l.length (gr l))=_
  have:=Nq l (fun x=>x)
  rw [List.map_id'] at this
  exact congrArg some this
theorem Ar {c:aF} (h:gh c):mC c=some c:=by
 unfold mC
 rw [fv _ h.f,aD,fv _ h.t,aD,fv _ h.i,aD,Lr _ h.k h.r,aD]; rfl
theorem Ls {c:aF} (h:gh c):jU c=some c:=by
 have h1:∀ l:List Int,l.length≤1048576→jR l=some l:=fun l hl=>fv l hl
 have hk:=h.k
 unfold jU
 rw [h1 _ h.f,aD,h1 _ h.t,aD,h1 _ h.i,aD]
 have:tA c.aC=some c.aC:=by
  unfold tA
  rw [EK (by omega) (by omega),aD]
  refine (congrArg ak (u3 c.aC.length (gr c.aC) (fun acc i=>(acc,(i:Int))) rfl ?_ ?_)).trans ?_
  ·intro i acc hi ha
   show mT c.aC acc i=_
   unfold mT
   rw [au (by omega),cond_true,fx (by omega) (by omega),aD,h1 _ (h.r _ (fy (by omega) (by omega))),aD,dL (by omega) (by omega),aD,bR (by omega)]
  ·intro acc ha
   show mT c.aC acc _=_
   unfold mT
   rw [ay (by omega),cond_false]
  ·have:=Nq c.aC (fun x=>x)
   rw [List.map_id'] at this
   exact congrArg some this
 rw [this,aD]; rfl
structure O2 (c:aF) (k:Nat) (ls:List (List (List Int))):Prop where
 len:ls.length=k
 found:∀ i:Nat,i < k→Found c i (some (gl ls i))
section
variable {c:aF} (H:l5 c)
include H
theorem T8 {x:Int} {L:List (List Int)} (h:Found c x (some L)):B1 c x L:=by
 cases h with
 | Vy F h hl=>
  have hp:=List.mergeSort_perm F Vm
  exact ⟨fun s=>by rw [hp.mem_iff]; exact h.mem s,hp.nodup_iff.2 h.nodup,by rw [hp.length_eq]; exact hl⟩
theorem O2.sv {k:Nat} {ls:List (List (List Int))} (h:O2 c k ls) {i:Int} (h0:0≤i) (h1:i < k):B1 c i (gl ls i):=by
 have:=h.found i.toNat (by omega)
 rw [Int.toNat_of_nonneg h0] at this
 exact T8 H this
def SC (c:aF) (ls:List (List (List Int))):List Int:=cg ls.length fun x=>aac (gl ls x) (u2 c x)
end
end Go.Proofs.YtilhlobfebngdaaGreat
namespace Go.Proofs.YtilhlobfebngdaaGreat
open Go Go.Li
set_option linter.unusedSectionVars false
section
variable {c:aF} (H:l5 c)
include H
end
end Go.Proofs.YtilhlobfebngdaaGreat
namespace Go.Proofs.YtilhlobfebngdaaGreat
open Go Go.Li
section
variable {c:aF} (H:uG c)
include H
end
section
variable {c:aF} (H:l5 c) {x:Int}
include H
theorem Q0 {A:List Int} {a:Int} (hA:QT c A):oK c (oK c A++[a])=oK c (A++[a]):=by
 show (ns c.aE.length).filter _=(ns c.aE.length).filter _
 apply List.filter_congr
 intro z hz
 have key:∀ B:List Int,VA c B z=true↔z∈oK c B:=fun B=>by
  unfold oK; rw [List.mem_filter]; exact ⟨fun h=>⟨hz,h⟩,fun h=>h.2⟩
 rw [Bool.eq_iff_iff,key,key,sk,sk]
 refine and_congr_right fun hz=>⟨?_,?_⟩
 ·rintro ⟨y,hy,b,hb,e1,e2⟩
  rcases List.mem_append.1 hy with hy | hy
  ·obtain ⟨E3,u,hu,b',cu,e3,e4⟩:=sk.1 hy
   have E6:=hA u hu
   have c1:=H.cell u b' E6.1 E6.2 cu.1 cu.2 e3
   have e5:gi c.To b'=gi c.aE b:=by rw [← c1.2.2.2,e4]; exact e1
   have c2:=H.cell b' b cu.1 cu.2 hb.1 hb.2 e5
   exact ⟨u,List.mem_append_left _ hu,gk c.aC b' b,⟨c2.1,c2.2.1⟩,by rw [c2.2.2.1]; exact e3,by rw [← H.assoc u b' b E6.1 E6.2 cu.1 cu.2 hb.1 hb.2 e3 e5,e4]; exact e2⟩
  ·exact ⟨y,List.mem_append_right _ hy,b,hb,e1,e2⟩
 ·rintro ⟨y,hy,b,hb,e1,e2⟩
  rcases List.mem_append.1 hy with hy | hy
  ·exact ⟨y,List.mem_append_left _ (II H hA y hy),b,hb,e1,e2⟩
  ·exact ⟨y,List.mem_append_right _ hy,b,hb,e1,e2⟩
theorem Mp:∀ (n:Nat) (A:List Int),A.length=n→(∀ a∈A,a∈u2 c x)→Reaches (u2 c x) (zh c) [] (oK c A):=by
 intro n
 induction n with
 | zero=>
  intro A hA _
  obtain rfl:A=[]:=List.length_eq_zero_iff.1 hA
  have:oK c []=[]:=by unfold oK; rw [List.filter_eq_nil_iff]; intro a _; simp [VA]
  rw [this]; exact .base
 | succ n ih=>
  intro A hA hs
  have rb:A≠[]:=by rintro rfl; cases hA
  have hd:=List.dropLast_concat_getLast rb
  have hl:A.getLast rb∈A:=List.getLast_mem rb
  have dx:∀ a∈A.dropLast,a∈u2 c x:=fun a ha=>hs a (List.dropLast_subset A ha)
  have h1:=ih A.dropLast (by simp; omega) dx
  have h2:=Reaches.step (step:=zh c) h1 (hs _ hl)
  unfold zh at h2
  rw [Q0 H (fun a ha=>(v8.1 (dx a ha)).1),hd] at h2
  exact h2
theorem Ub {s:List Int} (h:Sv c x s):Reaches (u2 c x) (zh c) [] s:=by
 have h1:=Mp H s.length s rfl fun a ha=>v8.2 ⟨h.arr a ha,h.src a ha⟩
 have h2:oK c s=s:=by
  conv=>rhs; rw [h.form]
  unfold oK
  apply List.filter_congr
  intro z hz
  rw [Bool.eq_iff_iff,FM]
  constructor
  ·intro hc
   have:z∈oK c s:=List.mem_filter.2 ⟨hz,hc⟩
   obtain ⟨_,y,hy,b,hb,e1,e2⟩:=sk.1 this
   rw [← e2]; exact h.closed y hy b hb.1 hb.2 e1
  ·intro hs
   exact (List.mem_filter.1 (II H h.arr z hs)).2
 rw [h2] at h1; exact h1
theorem W5 {L:List (List Int)} (h:B1 c x L) (s:List Int):s∈L↔Sv c x s:=⟨h.sv H s,fun hs=>(h.mem s).2 (Ub H hs)⟩
theorem aap:Sv c x (u2 c x):=by
 refine ⟨?_,fun y hy=>(v8.1 hy).2,fun y hy b b0 b1 e=>?_⟩
 ·show (ns c.aE.length).filter _=_
  apply List.filter_congr
  intro z hz
  rw [Bool.eq_iff_iff,FM,v8]
  simp only [beq_iff_eq]
  exact ⟨fun h=>⟨fg.1 hz,h⟩,fun h=>h.2⟩
 ·have hy:=v8.1 hy
  have c1:=H.cell y b hy.1.1 hy.1.2 b0 b1 e
  exact v8.2 ⟨⟨c1.1,c1.2.1⟩,by rw [c1.2.2.1]; exact hy.2⟩
end
end Go.Proofs.YtilhlobfebngdaaGreat
namespace Go.Li
open Go
section
variable {S S1 R α:Type} {body:S1→Option (Out S1 R)}
end
end Go.Li
namespace Go.Proofs.YtilhlobfebngdaaGreat
open Go Go.Li
def put (p:Int→List Int→Bool) (x:Int) (s:List Int):Int→List Int→Bool:=fun y t=>p y t || (y == x && t == s)
structure Tab (c:aF) (ls:List (List (List Int))):Prop where
 cat:l5 c
 lists:O2 c c.aA.toNat ls
namespace Tab
variable {c:aF} {ls:List (List (List Int))} (T:Tab c ls)
include T
theorem len:(ls.length:Int)=c.aA:=by have h1:=T.lists.len; have h2:=T.cat.o0; omega
theorem sv {x:Int} (h0:0≤x) (h1:x < ls.length):B1 c x (gl ls x):=T.lists.sv T.cat h0 (by have:=T.lists.len; omega)
theorem mem {x:Int} (h0:0≤x) (h1:x < ls.length) {s:List Int}:s∈gl ls x↔Sv c x s:=W5 T.cat (T.sv h0 h1) s
theorem nodup {x:Int} (h0:0≤x) (h1:x < ls.length):(gl ls x).Nodup:=(T.sv h0 h1).nodup
theorem fr {a:Int} (a0:0≤a) (a1:a < c.aE.length):0≤gi c.aE a∧gi c.aE a < ls.length:=by have:=T.cat.fr a0 a1; rw [← T.len] at this; exact this
theorem to {a:Int} (a0:0≤a) (a1:a < c.aE.length):0≤gi c.To a∧gi c.To a < ls.length:=by have:=T.cat.to a0 a1; rw [← T.len] at this; exact this
theorem out {x:Int} (h0:0≤x) (h1:x < ls.length):u2 c x∈gl ls x:=(T.mem h0 h1).2 (aap T.cat)
theorem arr {x:Int} (h0:0≤x) (h1:x < ls.length) {s:List Int} (hs:s∈gl ls x) {a:Int} (ha:a∈s):0≤a∧a < c.aE.length:=((T.mem h0 h1).1 hs).arr a ha
end Tab
def aaq (c:aF) (p:Int→List Int→Bool) (s t:List Int):Bool:=!(s.any fun a=>!(p (gi c.To a) (VB c a t)))
structure an4 (c:aF) (ls:List (List (List Int))) (q:Int→List Int→Bool):Prop where
 top:∀ x:Int,0≤x→x < ls.length→q x (u2 c x)=true
 arrow:∀ a s:_,0≤a→a < (c.aE.length:Int)→s∈gl ls (gi c.aE a)→q (gi c.aE a) s=true→q (gi c.To a) (VB c a s)=true
 loc:∀ x:Int,0≤x→x < ls.length→∀ s∈gl ls x,∀ t∈gl ls x,q x s=true→aaq c q s t=true→q x t=true
section
variable {c:aF} {ls:List (List (List Int))} (T:Tab c ls) {p:Int→List Int→Bool}
include T
end
end Go.Proofs.YtilhlobfebngdaaGreat
namespace Go.Proofs.YtilhlobfebngdaaGreat
open Go Go.Li
def acC (ls:List (List (List Int))):List (Int×List Int):=(ns ls.length).flatMap fun x=>(gl ls x).map fun s=>(x,s)
def Kh (ls:List (List (List Int))) (p:Int→List Int→Bool):Nat:=(acC ls).countP fun z=>p z.1 z.2
def Le (ls:List (List (List Int))) (p q:Int→List Int→Bool):Prop:=∀ y:Int,0≤y→y < ls.length→∀ t∈gl ls y,p y t=true→q y t=true
theorem Le.tr {ls:List (List (List Int))} {p q r:Int→List Int→Bool} (h:Le ls p q) (g:Le ls q r):Le ls p r:=fun y h0 h1 t ht hp=>g y h0 h1 t ht (h y h0 h1 t ht hp)
theorem Le.put {ls:List (List (List Int))} {p:Int→List Int→Bool} {x:Int} {s:List Int}:Le ls p (put p x s):=fun y _ _ t _ h=>by
 show (p y t || _)=true
 rw [h]; rfl
end Go.Proofs.YtilhlobfebngdaaGreat
namespace Go.Proofs.YtilhlobfebngdaaGreat
open Go Go.Li
section
variable {c:aF} {ls:List (List (List Int))} (T:Tab c ls) {p:Int→List Int→Bool}
include T
end
end Go.Proofs.YtilhlobfebngdaaGreat
namespace Go.Proofs.YtilhlobfebngdaaGreat
open Go Go.Li
section
end
end Go.Proofs.YtilhlobfebngdaaGreat
namespace Go.Proofs.YtilhlobfebngdaaGreat
open Go Go.Li
end Go.Proofs.YtilhlobfebngdaaGreat
namespace Go.Proofs.YtilhlobfebngdaaGreat
open Go Go.Li
theorem IJ {S S1 R:Type} {body:S1→Option (Out S1 R)} {k:Nat} {f:S1→Option (Out S R)} {s0:S1} (l:List Int) (q:Int→Bool) (pk:List Int→Nat→S1) (e0:pk [] 0=s0)
  (step:∀ i a acc,l[i]? = some a→acc.length≤i→body (pk acc i)=some (.norm (pk (if q a then acc++[a] else acc) (i+1)))) (last:∀ acc,body (pk acc l.length)=some (.exit k (pk acc l.length))) :
  af (ae k (ah body s0)) f=f (pk (l.filter q) l.length):=by
 refine (gu l (fun i=>pk ((l.take i).filter q) i) (by simpa using e0) (fun i a ha=>?_) (e:=pk (l.filter q) l.length) ?_)
 ·rw [step i a _ ha (by have:=List.length_filter_le q (l.take i); rw [List.length_take] at this; omega),tk ha,List.filter_append]
  cases h:q a <;> simp [h]
 ·rw [last,List.take_length]
section
variable {c:aF} {ls:List (List (List Int))} (T:Tab c ls) {p q:Int→List Int→Bool}
include T
end
end Go.Proofs.YtilhlobfebngdaaGreat
namespace Go.Proofs.YtilhlobfebngdaaGreat
open Go Go.Li
section
variable {c:aF} (H:l5 c)
include H
end
end Go.Proofs.YtilhlobfebngdaaGreat
namespace Go.Proofs.YtilhlobfebngdaaGreat
open Go Go.Li
def s8 (c d:aF):Bool:=c.aA == d.aA && (c.aE == d.aE && (c.To == d.To && (c.aH == d.aH && c.aC == d.aC)))
theorem wa {c d:aF}:s8 c d=true↔c=d:=by
 unfold s8
 simp only [Bool.and_eq_true,beq_iff_eq]
 constructor
 ·rintro ⟨h1,h2,h3,h4,h5⟩
  cases c; cases d
  dsimp only at h1 h2 h3 h4 h5
  rw [h1,h2,h3,h4,h5]
 ·rintro rfl; exact ⟨rfl,rfl,rfl,rfl,rfl⟩
theorem Mr {c d:aF} (h:gh c):rV c d=some (s8 c d):=by
 obtain ⟨h1,h2,h3,h4,h5⟩:=h
 have e5:tK c.aC d.aC=some (c.aC == d.aC):=W0 _ _ (by omega) (fun z hz=>by have:=h5 z hz; omega)
 unfold rV s8
 cases c.aA == d.aA with
 | false=>rfl
 | true=>
  rw [cond_true,CL _ _ (by omega),aD]
  cases c.aE == d.aE with
  | false=>rfl
  | true=>
   rw [cond_true,CL _ _ (by omega),aD]
   cases c.To == d.To with
   | false=>rfl
   | true=>
    rw [cond_true,CL _ _ (by omega),aD]
    cases c.aH == d.aH with
    | false=>rfl
    | true=>rw [cond_true,e5]; rfl
theorem Ug:∀ {x y:List (List Int)},x.length=y.length→(x == y) = !((x.zip y).any fun z=>!(z.1 == z.2)):=by
 intro x
 induction x with
 | nil=>intro y h; cases y with
  | nil=>rfl
  | cons b y=>simp at h
 | cons a x ih=>
  intro y h
  cases y with
  | nil=>simp at h
  | cons b y=>
   have h':x.length=y.length:=by simpa using h
   rw [List.zip_cons_cons,List.any_cons,Bool.not_or,Bool.not_not,← ih h']; rfl
theorem BG {c d:aF} (h:gh c):jA c d=some (s8 c d):=by
 obtain ⟨h1,h2,h3,h4,h5⟩:=h
 unfold jA s8
 cases e1:c.aA == d.aA with
 | false=>rw [show (c.aA != d.aA)=true by unfold bne; rw [e1]; rfl]; rfl
 | true=>
  rw [show (c.aA != d.aA)=false by unfold bne; rw [e1]; rfl,cond_false,Aq _ _ (by omega),aD]
  cases c.aE == d.aE with
  | false=>rfl
  | true=>
   rw [Bool.not_true,cond_false,Aq _ _ (by omega),aD]
   cases c.To == d.To with
   | false=>rfl
   | true=>
    rw [Bool.not_true,cond_false,Aq _ _ (by omega),aD]
    cases c.aH == d.aH with
    | false=>rfl
    | true=>
     rw [Bool.not_true,cond_false,aD]
     simp only [Bool.true_and]
     by_cases hl:c.aC.length=d.aC.length
     ·rw [mq (by omega),cond_false,Ug hl]
      refine (congrArg ak (l4 (c.aC.zip d.aC) (fun z=>!(z.1 == z.2)) (fun i=>(i:Int)) rfl ?_ ?_ (e:=((c.aC.zip d.aC).length:Int)) (y:=false) ?_)).trans ?_
      ·intro i z hz hp
       obtain ⟨z1,z2⟩:=z
       obtain ⟨g1,g2⟩:=List.getElem?_zip_eq_some.1 hz
       have hi:=cc g1
       have:=h5 _ (List.mem_of_getElem? g1)
       unfold kP
       rw [au (by omega),cond_true,ch,g1,aD,ch,g2,aD,Aq _ _ (by omega),aD]
       rw [show (!(z1 == z2))=false from hp,cond_false,bR (by omega)]
      ·intro i z hz hp
       obtain ⟨z1,z2⟩:=z
       obtain ⟨g1,g2⟩:=List.getElem?_zip_eq_some.1 hz
       have hi:=cc g1
       have:=h5 _ (List.mem_of_getElem? g1)
       unfold kP
       rw [au (by omega),cond_true,ch,g1,aD,ch,g2,aD,Aq _ _ (by omega),aD]
       rw [show (!(z1 == z2))=true from hp,cond_true]
      ·unfold kP
       rw [List.length_zip,← hl,Nat.min_self,ay (by omega),cond_false]
      ·cases (c.aC.zip d.aC).any fun z=>!(z.1 == z.2) <;> rfl
     ·rw [qd (by omega)]
      have:(c.aC == d.aC)=false:=sa fun h=>hl (by rw [h])
      rw [this]; rfl
end Go.Proofs.YtilhlobfebngdaaGreat
namespace Go.Proofs.YtilhlobfebngdaaGreat
open Go Go.Li
theorem xd {S R:Type} {body:Int→Option (Out Int R)} {k:Nat} {f:Int→Option (Out S R)} {n:Nat} (p:Int→Bool) {y:R}
  (h:∀ i:Nat,i < n→body (i:Int)=bif p i then some (.ret y) else some (.norm ((i+1:Nat):Int))) (last:body (n:Int)=some (.exit k (n:Int))) :
  af (ae k (ah body (0:Int))) f=bif (ns n).any p then some (.ret y) else f n:=by
 refine (l4 (ns n) p (fun i=>(i:Int)) rfl ?_ ?_ (e:=(n:Int)) (y:=y) ?_).trans ?_
 ·intro i x hx hp; obtain ⟨rfl,hi⟩:=dy hx; rw [h i hi,hp]; rfl
 ·intro i x hx hp; obtain ⟨rfl,hi⟩:=dy hx; rw [h i hi,hp]; rfl
 ·rw [cN]; exact last
 ·cases (ns n).any p <;> rfl
theorem aiE {S R:Type} {body:Int→Option (Out Int R)} {k:Nat} {f:Int→Option (Out S R)} {n:Nat} (p:Int→Bool) (G:R→Prop)
  (h:∀ i:Nat,i < n→(p i=false∧body (i:Int)=some (.norm ((i+1:Nat):Int)))∨(p i=true∧∃ y,body (i:Int)=some (.ret y)∧G y)) (last:body (n:Int)=some (.exit k (n:Int))) :
  ((ns n).any p=false∧af (ae k (ah body (0:Int))) f=f n)∨((ns n).any p=true∧∃ y,af (ae k (ah body (0:Int))) f=some (.ret y)∧G y):=by
 refine (An (ns n) p G (fun i=>(i:Int)) rfl ?_ ?_ (e:=(n:Int)) (by rw [cN]; exact last)).elim (fun h=>.inr h) (fun h=>.inl h)
 ·intro i x hx hp
  obtain ⟨rfl,hi⟩:=dy hx
  rcases h i hi with ⟨_,h⟩ | ⟨h,_⟩
  ·exact h
  ·rw [hp] at h; cases h
 ·intro i x hx hp
  obtain ⟨rfl,hi⟩:=dy hx
  rcases h i hi with ⟨h,_⟩ | ⟨_,h⟩
  ·rw [hp] at h; cases h
  ·exact h
theorem qu {α:Type} {b:Bool} {x y:α}:(bif b then some x else some y)=some (bif b then x else y):=by cases b <;> rfl
theorem zn {a b:Bool}:(bif a then true else b)=(a || b):=by cases a <;> rfl
theorem FP {a b:Bool}:(bif a then b else false)=(a && b):=by cases a <;> rfl
theorem ig {n:Nat} {p:Int→Bool}:(ns n).any p=false↔∀ i:Int,0≤i→i < n→p i=false:=by
 rw [List.any_eq_false]
 exact ⟨fun h i h0 h1=>by simpa using h i (fg.2 ⟨h0,h1⟩),fun h i hi=>by simp [h i (fg.1 hi).1 (fg.1 hi).2]⟩
namespace SFHead
end SFHead
end Go.Proofs.YtilhlobfebngdaaGreat
namespace Go.Proofs.YtilhlobfebngdaaGreat
open Go Go.Li
namespace SFShape
end SFShape
end Go.Proofs.YtilhlobfebngdaaGreat
namespace Go.Proofs.YtilhlobfebngdaaGreat
open Go Go.Li
namespace SMShape
end SMShape
def thenS (a b:List Int):List Int:=cg a.length fun i=>gi b (gi a i)
theorem LD (a b:List Int) (ha:a.length≤1048576) (hb:∀ x∈a,0≤x∧x < b.length):tC a b=some (thenS a b):=by
 unfold tC
 rw [EK (by omega) (by omega),aD]
 have hl:(thenS a b).length=a.length:=cE _ _
 refine (congrArg ak (gu (ns a.length) (fun i=>((i:Int),(thenS a b).take i++List.replicate (a.length - i) (0:Int))) (by simp) ?_ (e:=((a.length:Int),thenS a b)) ?_)).trans rfl
 ·intro i x hx
  obtain ⟨rfl,hi⟩:=dy hx
  have hg:(thenS a b)[i]? = some (gi b (gi a i)):=ov _ hi
  have hm:=hb _ (dc (l:=a) (j:=(i:Int)) (by omega) (by omega))
  have hc:=CJ (thenS a b) (0:Int) hg
  have Q5:=get_copy (thenS a b) (0:Int) hg
  rw [hl] at hc Q5
  show oS a b (i:Int) _=_
  unfold oS
  rw [au (by omega),cond_true,bQ (by omega) (by omega),aD,bQ hm.1 hm.2,aD,ch,Q5,aD,bR (by omega),Int.toNat_natCast,hc]
 ·rw [cN]
  show oS a b _ _=_
  unfold oS
  rw [ay (by omega),cond_false,Nat.sub_self,List.take_of_length_le (by omega)]
  simp
end Go.Proofs.YtilhlobfebngdaaGreat
