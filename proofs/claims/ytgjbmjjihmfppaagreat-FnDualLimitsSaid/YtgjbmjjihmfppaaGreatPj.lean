/- All sieves at an object: the reference's search in depth and the program's search in breadth find the same list. No condition beside those that each theorem names. -/
import Derived.Test.YtgjbmjjihmfppaaGreatPh
import Derived.Test.YtgjbmjjihmfppaaGreatPa
namespace Go.Li
open Go
end Go.Li
namespace Go.Proofs.YtgjbmjjihmfppaaGreat
open Go Go.Li
set_option linter.unusedSectionVars false
structure Sv (c:aG) (x:Int) (s:List Int):Prop where
 form:s=(ns c.aD.length).filter (hasB s)
 src:∀ y∈s,gi c.aD y=x
 closed:∀ y∈s,∀ b:Int,0≤b→b < c.aD.length→gi c.To y=gi c.aD b→gk c.aB y b∈s
theorem Sv.arr {c:aG} {x:Int} {s:List Int} (h:Sv c x s):Mw c s:=fun a ha=>by
 rw [h.form] at ha; exact bu.1 (List.mem_filter.1 ha).1
theorem Sv.len {c:aG} {x:Int} {s:List Int} (h:Sv c x s):s.length≤c.aD.length:=by
 rw [h.form]; exact Nat.le_trans (List.length_filter_le _ _) (by rw [cQ]; exact Nat.le_refl _)
theorem Sv.nil (c:aG) (x:Int):Sv c x []:=⟨by rw [List.filter_eq_nil_iff.2]; intro a _; simp [hasB],fun _ h=>(nomatch h),fun _ h=>(nomatch h)⟩
theorem rD {c:aG} {A:List Int} {a:Int}:a∈o4 c A↔(0≤a∧a < c.aD.length)∧∃ y∈A,∃ b:Int,(0≤b∧b < c.aD.length)∧gi c.To y=gi c.aD b∧gk c.aB y b=a:=by
 unfold o4 QI
 rw [List.mem_filter,bu]
 simp only [List.any_eq_true,Bool.and_eq_true,beq_iff_eq]
 constructor
 ·rintro ⟨h,y,hy,b,hb,e1,e2⟩; exact ⟨h,y,hy,b,bu.1 hb,e1,e2⟩
 ·rintro ⟨h,y,hy,b,hb,e1,e2⟩; exact ⟨h,y,hy,b,bu.2 hb,e1,e2⟩
theorem HK {n:Nat} {p:Int→Bool}:(ns n).filter p=(ns n).filter (hasB ((ns n).filter p)):=by
 apply List.filter_congr
 intro a ha
 rw [Bool.eq_iff_iff,xj,List.mem_filter]
 exact ⟨fun h=>⟨ha,h⟩,fun h=>h.2⟩
section
variable {c:aG} (H:nb c) {x:Int}
include H
theorem EE {A:List Int} (hA:Mw c A):∀ y∈A,y∈o4 c A:=fun y hy=>by
 have h:=hA y hy
 have ht:=H.to h.1 h.2
 have hi:=H.id ht.1 ht.2
 exact rD.2 ⟨h,y,hy,_,hi,(H.uD _ ht.1 ht.2).symm,H.Di y h.1 h.2⟩
theorem O6 {A:List Int} (hA:Mw c A) (hs:∀ y∈A,gi c.aD y=x):Sv c x (o4 c A):=by
 refine ⟨HK,fun y hy=>?_,fun z hz b b0 b1 e=>?_⟩
 ·obtain ⟨_,z,hz,b,hb,e1,e2⟩:=rD.1 hy
  have h:=hA z hz
  rw [← e2,(H.cell z b h.1 h.2 hb.1 hb.2 e1).2.2.1]
  exact hs z hz
 ·obtain ⟨Gl,y,hy,a,ha,e1,e2⟩:=rD.1 hz
  have h:=hA y hy
  have c1:=H.cell y a h.1 h.2 ha.1 ha.2 e1
  have e3:gi c.To a=gi c.aD b:=by rw [← c1.2.2.2,e2]; exact e
  have c2:=H.cell a b ha.1 ha.2 b0 b1 e3
  have c3:=H.cell z b Gl.1 Gl.2 b0 b1 e
  refine rD.2 ⟨⟨c3.1,c3.2.1⟩,y,hy,gk c.aB a b,⟨c2.1,c2.2.1⟩,by rw [c2.2.2.1]; exact e1,?_⟩
  rw [← H.assoc y a b h.1 h.2 ha.1 ha.2 b0 b1 e1 e3,e2]
def we (c:aG) (s:List Int) (a:Int):List Int:=o4 c (s++[a])
theorem G7 {s:List Int} {a:Int} (hs:Sv c x s) (ha:a∈sJ c x):Mw c (s++[a])∧∀ y∈s++[a],gi c.aD y=x:=by
 have h:=s6.1 ha
 refine ⟨fun y hy=>?_,fun y hy=>?_⟩
 ·rcases List.mem_append.1 hy with h' | h'
  ·exact hs.arr y h'
  ·rw [List.mem_singleton.1 h']; exact h.1
 ·rcases List.mem_append.1 hy with h' | h'
  ·exact hs.src y h'
  ·rw [List.mem_singleton.1 h']; exact h.2
theorem RW {s:List Int} {a:Int} (hs:Sv c x s) (ha:a∈sJ c x):Sv c x (we c s a):=
 O6 H (G7 H hs ha).1 (G7 H hs ha).2
theorem O7 {s:List Int} (h:Reaches (sJ c x) (we c) [] s):Sv c x s:=by
 induction h with
 | base=>exact Sv.nil c x
 | step _ ha ih=>exact RW H ih ha
structure yN (c:aG) (x:Int) (L:List (List Int)):Prop where
 mem:∀ s,s∈L↔Reaches (sJ c x) (we c) [] s
 nodup:L.Nodup
 len:L.length≤16
theorem yN.sv {L:List (List Int)} (h:yN c x L):∀ s∈L,Sv c x s:=fun s hs=>O7 H ((h.mem s).1 hs)
inductive Found (c:aG) (x:Int):Option (List (List Int))→Prop
 | QH (F:List (List Int)) (h:xU (sJ c x) (we c) [] F) (hl:F.length≤16):Found c x (some (F.mergeSort Qt))
 | many (h:J8 (sJ c x) (we c) 16 []):Found c x none
end
end Go.Proofs.YtgjbmjjihmfppaaGreat
namespace Go.Li
open Go
def dy {β:Type} (n:Nat) (g:Int→β):List β:=(ns n).map g
theorem bS {β:Type} (n:Nat) (g:Int→β):(dy n g).length=n:=by simp [dy,cQ]
theorem pw {β:Type} (n:Nat) (g:Int→β):dy (n+1) g=dy n g++[g n]:=by
 unfold dy ns
 rw [List.range_succ]; simp
theorem rK {β:Type} {n i:Nat} (g:Int→β) (h:i < n):(dy n g)[i]? = some (g i):=by
 unfold dy ns
 simp [h]
theorem qi {β:Type} {n:Nat} {g:Int→β} {y:β}:y∈dy n g↔∃ x:Int,(0≤x∧x < n)∧g x=y:=by
 unfold dy; simp only [List.mem_map,bu]
theorem ui {β:Type} {n:Nat} {g h:Int→β} (e:∀ i:Nat,i < n→g i=h i):dy n g=dy n h:=by
 apply List.map_congr_left
 intro x hx
 have:=bu.1 hx
 have:=e x.toNat (by omega)
 rwa [Int.toNat_of_nonneg (by omega)] at this
theorem xk {S S1 R β:Type} {body:S1→Option (Out S1 R)} {k:Nat} {f:S1→Option (Out S R)} {G8:S1} (n:Nat) (g:Int→β) (pk:List β→Nat→S1) (e0:pk [] 0=G8)
  (step:∀ i acc,i < n→acc.length=i→body (pk acc i)=some (.norm (pk (acc++[g i]) (i+1)))) (last:∀ acc,acc.length=n→body (pk acc n)=some (.exit k (pk acc n))) :
  ag (ae k (ah body G8)) f=f (pk (dy n g) n):=by
 rw [← e0]
 refine rz (ns n) (fun i=>pk (dy i g) i) rfl ?_ ?_
 ·intro i x hx
  obtain ⟨rfl,hi⟩:=iv hx
  rw [step i _ hi (bS i g),pw]
 ·rw [cQ]; exact last _ (bS n g)
def gl {α:Type} (l:List (List α)) (j:Int):List α:=l.getD j.toNat []
theorem Cr {α:Type} {l:List (List α)} {i:Nat} (h:i < l.length):l[i]? = some (gl l i):=by
 unfold gl; rw [List.getD_eq_getElem?_getD,Int.toNat_natCast,List.getElem?_eq_getElem h]; rfl
theorem IN {α β:Type} (l:List (List α)) (g:List α→β):dy l.length (fun i=>g (gl l i))=l.map g:=by
 apply List.ext_getElem?
 intro i
 by_cases h:i < l.length
 ·rw [rK _ h,List.getElem?_map,Cr h]; rfl
 ·rw [List.getElem?_eq_none (by rw [bS]; omega),List.getElem?_eq_none (by rw [List.length_map]; omega)]
end Go.Li
namespace Go.Proofs.YtgjbmjjihmfppaaGreat
open Go Go.Li
set_option linter.unusedSectionVars false
theorem gv (l:List Int) (hl:l.length≤1048576):cX l=some l:=by
 unfold cX
 rw [cV (by simp; omega) (by simp; omega),aF,List.nil_append]; rfl
theorem G9 (l:List (List Int)) (hl:l.length≤1048576) (hr:∀ y∈l,y.length≤1048576):kO l=some l:=by
 unfold kO
 refine (congrArg an (xk l.length (gr l) (fun acc i=>(acc,(i:Int))) rfl ?_ ?_)).trans ?_
 ·intro i acc hi ha
  show iK l acc i=_
  unfold iK
  rw [ay (by omega),cond_true,nr (by omega) (by omega),aF,gv _ (hr _ (qV (by omega) (by omega))),aF,cV (by omega) (by omega),aF,bH (by omega)]
 ·intro acc ha
  show iK l acc _=_
  unfold iK
  rw [bm (by omega),cond_false]
 ·show some (dy l.length (gr l))=_
  have:=IN l (fun x=>x)
  rw [List.map_id'] at this
  exact congrArg some this
theorem xl {c:aG} (h:gu c):iS c=some c:=by
 unfold iS
 rw [gv _ h.f,aF,gv _ h.t,aF,gv _ h.i,aF,G9 _ h.k h.r,aF]; rfl
theorem Ha {c:aG} (h:gu c):gA c=some c:=by
 have h1:∀ l:List Int,l.length≤1048576→dT l=some l:=fun l hl=>gv l hl
 have hk:=h.k
 unfold gA
 rw [h1 _ h.f,aF,h1 _ h.t,aF,h1 _ h.i,aF]
 have:oR c.aB=some c.aB:=by
  unfold oR
  rw [Df (by omega) (by omega),aF]
  refine (congrArg an (xk c.aB.length (gr c.aB) (fun acc i=>(acc,(i:Int))) rfl ?_ ?_)).trans ?_
  ·intro i acc hi ha
   show jF c.aB acc i=_
   unfold jF
   rw [ay (by omega),cond_true,nr (by omega) (by omega),aF,h1 _ (h.r _ (qV (by omega) (by omega))),aF,cV (by omega) (by omega),aF,bH (by omega)]
  ·intro acc ha
   show jF c.aB acc _=_
   unfold jF
   rw [bm (by omega),cond_false]
  ·have:=IN c.aB (fun x=>x)
   rw [List.map_id'] at this
   exact congrArg some this
 rw [this,aF]; rfl
structure Kc (c:aG) (k:Nat) (ls:List (List (List Int))):Prop where
 len:ls.length=k
 found:∀ i:Nat,i < k→Found c i (some (gl ls i))
section
variable {c:aG} (H:nb c)
include H
theorem O8 {x:Int} {L:List (List Int)} (h:Found c x (some L)):yN c x L:=by
 cases h with
 | QH F h hl=>
  have hp:=List.mergeSort_perm F Qt
  exact ⟨fun s=>by rw [hp.mem_iff]; exact h.mem s,hp.nodup_iff.2 h.nodup,by rw [hp.length_eq]; exact hl⟩
theorem Kc.sv {k:Nat} {ls:List (List (List Int))} (h:Kc c k ls) {i:Int} (h0:0≤i) (h1:i < k):yN c i (gl ls i):=by
 have:=h.found i.toNat (by omega)
 rw [Int.toNat_of_nonneg h0] at this
 exact O8 H this
end
end Go.Proofs.YtgjbmjjihmfppaaGreat
namespace Go.Proofs.YtgjbmjjihmfppaaGreat
open Go Go.Li
set_option linter.unusedSectionVars false
section
variable {c:aG} (H:nb c)
include H
end
end Go.Proofs.YtgjbmjjihmfppaaGreat
namespace Go.Proofs.YtgjbmjjihmfppaaGreat
open Go Go.Li
section
variable {c:aG} (H:pM c)
include H
end
section
variable {c:aG} (H:nb c) {x:Int}
include H
theorem Mz {A:List Int} {a:Int} (hA:Mw c A):o4 c (o4 c A++[a])=o4 c (A++[a]):=by
 show (ns c.aD.length).filter _=(ns c.aD.length).filter _
 apply List.filter_congr
 intro z hz
 have key:∀ B:List Int,QI c B z=true↔z∈o4 c B:=fun B=>by
  unfold o4; rw [List.mem_filter]; exact ⟨fun h=>⟨hz,h⟩,fun h=>h.2⟩
 rw [Bool.eq_iff_iff,key,key,rD,rD]
 refine and_congr_right fun hz=>⟨?_,?_⟩
 ·rintro ⟨y,hy,b,hb,e1,e2⟩
  rcases List.mem_append.1 hy with hy | hy
  ·obtain ⟨BO,u,hu,b',cu,e3,e4⟩:=rD.1 hy
   have BP:=hA u hu
   have c1:=H.cell u b' BP.1 BP.2 cu.1 cu.2 e3
   have e5:gi c.To b'=gi c.aD b:=by rw [← c1.2.2.2,e4]; exact e1
   have c2:=H.cell b' b cu.1 cu.2 hb.1 hb.2 e5
   exact ⟨u,List.mem_append_left _ hu,gk c.aB b' b,⟨c2.1,c2.2.1⟩,by rw [c2.2.2.1]; exact e3,by rw [← H.assoc u b' b BP.1 BP.2 cu.1 cu.2 hb.1 hb.2 e3 e5,e4]; exact e2⟩
  ·exact ⟨y,List.mem_append_right _ hy,b,hb,e1,e2⟩
 ·rintro ⟨y,hy,b,hb,e1,e2⟩
  rcases List.mem_append.1 hy with hy | hy
  ·exact ⟨y,List.mem_append_left _ (EE H hA y hy),b,hb,e1,e2⟩
  ·exact ⟨y,List.mem_append_right _ hy,b,hb,e1,e2⟩
theorem HM:∀ (n:Nat) (A:List Int),A.length=n→(∀ a∈A,a∈sJ c x)→Reaches (sJ c x) (we c) [] (o4 c A):=by
 intro n
 induction n with
 | zero=>
  intro A hA _
  obtain rfl:A=[]:=List.length_eq_zero_iff.1 hA
  have:o4 c []=[]:=by unfold o4; rw [List.filter_eq_nil_iff]; intro a _; simp [QI]
  rw [this]; exact .base
 | succ n ih=>
  intro A hA hs
  have ks:A≠[]:=by rintro rfl; cases hA
  have hd:=List.dropLast_concat_getLast ks
  have hl:A.getLast ks∈A:=List.getLast_mem ks
  have b9:∀ a∈A.dropLast,a∈sJ c x:=fun a ha=>hs a (List.dropLast_subset A ha)
  have h1:=ih A.dropLast (by simp; omega) b9
  have h2:=Reaches.step (step:=we c) h1 (hs _ hl)
  unfold we at h2
  rw [Mz H (fun a ha=>(s6.1 (b9 a ha)).1),hd] at h2
  exact h2
theorem Pa {s:List Int} (h:Sv c x s):Reaches (sJ c x) (we c) [] s:=by
 have h1:=HM H s.length s rfl fun a ha=>s6.2 ⟨h.arr a ha,h.src a ha⟩
 have h2:o4 c s=s:=by
  conv=>rhs; rw [h.form]
  unfold o4
  apply List.filter_congr
  intro z hz
  rw [Bool.eq_iff_iff,xj]
  constructor
  ·intro hc
   have:z∈o4 c s:=List.mem_filter.2 ⟨hz,hc⟩
   obtain ⟨_,y,hy,b,hb,e1,e2⟩:=rD.1 this
   rw [← e2]; exact h.closed y hy b hb.1 hb.2 e1
  ·intro hs
   exact (List.mem_filter.1 (EE H h.arr z hs)).2
 rw [h2] at h1; exact h1
theorem RY {L:List (List Int)} (h:yN c x L) (s:List Int):s∈L↔Sv c x s:=⟨h.sv H s,fun hs=>(h.mem s).2 (Pa H hs)⟩
theorem VF:Sv c x (sJ c x):=by
 refine ⟨?_,fun y hy=>(s6.1 hy).2,fun y hy b b0 b1 e=>?_⟩
 ·show (ns c.aD.length).filter _=_
  apply List.filter_congr
  intro z hz
  rw [Bool.eq_iff_iff,xj,s6]
  simp only [beq_iff_eq]
  exact ⟨fun h=>⟨bu.1 hz,h⟩,fun h=>h.2⟩
 ·have hy:=s6.1 hy
  have c1:=H.cell y b hy.1.1 hy.1.2 b0 b1 e
  exact s6.2 ⟨⟨c1.1,c1.2.1⟩,by rw [c1.2.2.1]; exact hy.2⟩
end
end Go.Proofs.YtgjbmjjihmfppaaGreat
namespace Go.Li
open Go
section
variable {S S1 R α:Type} {body:S1→Option (Out S1 R)}
end
end Go.Li
namespace Go.Proofs.YtgjbmjjihmfppaaGreat
open Go Go.Li
def put (p:Int→List Int→Bool) (x:Int) (s:List Int):Int→List Int→Bool:=fun y t=>p y t || (y == x && t == s)
structure Tab (c:aG) (ls:List (List (List Int))):Prop where
 cat:nb c
 lists:Kc c c.aA.toNat ls
namespace Tab
variable {c:aG} {ls:List (List (List Int))} (T:Tab c ls)
include T
theorem len:(ls.length:Int)=c.aA:=by have h1:=T.lists.len; have h2:=T.cat.o0; omega
theorem sv {x:Int} (h0:0≤x) (h1:x < ls.length):yN c x (gl ls x):=T.lists.sv T.cat h0 (by have:=T.lists.len; omega)
theorem mem {x:Int} (h0:0≤x) (h1:x < ls.length) {s:List Int}:s∈gl ls x↔Sv c x s:=RY T.cat (T.sv h0 h1) s
theorem nodup {x:Int} (h0:0≤x) (h1:x < ls.length):(gl ls x).Nodup:=(T.sv h0 h1).nodup
theorem fr {a:Int} (a0:0≤a) (a1:a < c.aD.length):0≤gi c.aD a∧gi c.aD a < ls.length:=by have:=T.cat.fr a0 a1; rw [← T.len] at this; exact this
theorem to {a:Int} (a0:0≤a) (a1:a < c.aD.length):0≤gi c.To a∧gi c.To a < ls.length:=by have:=T.cat.to a0 a1; rw [← T.len] at this; exact this
theorem out {x:Int} (h0:0≤x) (h1:x < ls.length):sJ c x∈gl ls x:=(T.mem h0 h1).2 (VF T.cat)
theorem arr {x:Int} (h0:0≤x) (h1:x < ls.length) {s:List Int} (hs:s∈gl ls x) {a:Int} (ha:a∈s):0≤a∧a < c.aD.length:=((T.mem h0 h1).1 hs).arr a ha
end Tab
def VG (c:aG) (p:Int→List Int→Bool) (s t:List Int):Bool:=!(s.any fun a=>!(p (gi c.To a) (QJ c a t)))
structure ahr (c:aG) (ls:List (List (List Int))) (q:Int→List Int→Bool):Prop where
 top:∀ x:Int,0≤x→x < ls.length→q x (sJ c x)=true
 arrow:∀ a s:_,0≤a→a < (c.aD.length:Int)→s∈gl ls (gi c.aD a)→q (gi c.aD a) s=true→q (gi c.To a) (QJ c a s)=true
 loc:∀ x:Int,0≤x→x < ls.length→∀ s∈gl ls x,∀ t∈gl ls x,q x s=true→VG c q s t=true→q x t=true
section
variable {c:aG} {ls:List (List (List Int))} (T:Tab c ls) {p:Int→List Int→Bool}
include T
end
end Go.Proofs.YtgjbmjjihmfppaaGreat
namespace Go.Proofs.YtgjbmjjihmfppaaGreat
open Go Go.Li
def Xq (ls:List (List (List Int))):List (Int×List Int):=(ns ls.length).flatMap fun x=>(gl ls x).map fun s=>(x,s)
def Gf (ls:List (List (List Int))) (p:Int→List Int→Bool):Nat:=(Xq ls).countP fun z=>p z.1 z.2
def Le (ls:List (List (List Int))) (p q:Int→List Int→Bool):Prop:=∀ y:Int,0≤y→y < ls.length→∀ t∈gl ls y,p y t=true→q y t=true
theorem Le.tr {ls:List (List (List Int))} {p q r:Int→List Int→Bool} (h:Le ls p q) (g:Le ls q r):Le ls p r:=fun y h0 h1 t ht hp=>g y h0 h1 t ht (h y h0 h1 t ht hp)
theorem Le.put {ls:List (List (List Int))} {p:Int→List Int→Bool} {x:Int} {s:List Int}:Le ls p (put p x s):=fun y _ _ t _ h=>by
 show (p y t || _)=true
 rw [h]; rfl
end Go.Proofs.YtgjbmjjihmfppaaGreat
namespace Go.Proofs.YtgjbmjjihmfppaaGreat
open Go Go.Li
section
variable {c:aG} {ls:List (List (List Int))} (T:Tab c ls) {p:Int→List Int→Bool}
include T
end
end Go.Proofs.YtgjbmjjihmfppaaGreat
namespace Go.Proofs.YtgjbmjjihmfppaaGreat
open Go Go.Li
section
end
end Go.Proofs.YtgjbmjjihmfppaaGreat
namespace Go.Proofs.YtgjbmjjihmfppaaGreat
open Go Go.Li
end Go.Proofs.YtgjbmjjihmfppaaGreat
namespace Go.Proofs.YtgjbmjjihmfppaaGreat
open Go Go.Li
theorem si {S S1 R:Type} {body:S1→Option (Out S1 R)} {k:Nat} {f:S1→Option (Out S R)} {s0:S1} (l:List Int) (q:Int→Bool) (pk:List Int→Nat→S1) (e0:pk [] 0=s0)
  (step:∀ i a acc,l[i]? = some a→acc.length≤i→body (pk acc i)=some (.norm (pk (if q a then acc++[a] else acc) (i+1)))) (last:∀ acc,body (pk acc l.length)=some (.exit k (pk acc l.length))) :
  ag (ae k (ah body s0)) f=f (pk (l.filter q) l.length):=by
 refine (rz l (fun i=>pk ((l.take i).filter q) i) (by simpa using e0) (fun i a ha=>?_) (e:=pk (l.filter q) l.length) ?_)
 ·rw [step i a _ ha (by have:=List.length_filter_le q (l.take i); rw [List.length_take] at this; omega),E3 ha,List.filter_append]
  cases h:q a <;> simp [h]
 ·rw [last,List.take_length]
section
variable {c:aG} {ls:List (List (List Int))} (T:Tab c ls) {p q:Int→List Int→Bool}
include T
end
end Go.Proofs.YtgjbmjjihmfppaaGreat
namespace Go.Proofs.YtgjbmjjihmfppaaGreat
open Go Go.Li
section
variable {c:aG} (H:nb c)
include H
end
end Go.Proofs.YtgjbmjjihmfppaaGreat
namespace Go.Proofs.YtgjbmjjihmfppaaGreat
open Go Go.Li
def Fa (c d:aG):Bool:=c.aA == d.aA && (c.aD == d.aD && (c.To == d.To && (c.aJ == d.aJ && c.aB == d.aB)))
theorem Hb {c d:aG}:Fa c d=true↔c=d:=by
 unfold Fa
 simp only [Bool.and_eq_true,beq_iff_eq]
 constructor
 ·rintro ⟨h1,h2,h3,h4,h5⟩
  cases c; cases d
  dsimp only at h1 h2 h3 h4 h5
  rw [h1,h2,h3,h4,h5]
 ·rintro rfl; exact ⟨rfl,rfl,rfl,rfl,rfl⟩
end Go.Proofs.YtgjbmjjihmfppaaGreat
namespace Go.Proofs.YtgjbmjjihmfppaaGreat
open Go Go.Li
theorem AY {S R:Type} {body:Int→Option (Out Int R)} {k:Nat} {f:Int→Option (Out S R)} {n:Nat} (p:Int→Bool) {y:R}
  (h:∀ i:Nat,i < n→body (i:Int)=bif p i then some (.ret y) else some (.norm ((i+1:Nat):Int))) (last:body (n:Int)=some (.exit k (n:Int))) :
  ag (ae k (ah body (0:Int))) f=bif (ns n).any p then some (.ret y) else f n:=by
 refine (mc (ns n) p (fun i=>(i:Int)) rfl ?_ ?_ (e:=(n:Int)) (y:=y) ?_).trans ?_
 ·intro i x hx hp; obtain ⟨rfl,hi⟩:=iv hx; rw [h i hi,hp]; rfl
 ·intro i x hx hp; obtain ⟨rfl,hi⟩:=iv hx; rw [h i hi,hp]; rfl
 ·rw [cQ]; exact last
 ·cases (ns n).any p <;> rfl
theorem sk {α:Type} {b:Bool} {x y:α}:(bif b then some x else some y)=some (bif b then x else y):=by cases b <;> rfl
theorem yO {a b:Bool}:(bif a then true else b)=(a || b):=by cases a <;> rfl
theorem Hc {a b:Bool}:(bif a then b else false)=(a && b):=by cases a <;> rfl
theorem ee {n:Nat} {p:Int→Bool}:(ns n).any p=false↔∀ i:Int,0≤i→i < n→p i=false:=by
 rw [List.any_eq_false]
 exact ⟨fun h i h0 h1=>by simpa using h i (bu.2 ⟨h0,h1⟩),fun h i hi=>by simp [h i (bu.1 hi).1 (bu.1 hi).2]⟩
namespace SFHead
end SFHead
end Go.Proofs.YtgjbmjjihmfppaaGreat
namespace Go.Proofs.YtgjbmjjihmfppaaGreat
open Go Go.Li
namespace SFShape
end SFShape
end Go.Proofs.YtgjbmjjihmfppaaGreat
namespace Go.Proofs.YtgjbmjjihmfppaaGreat
open Go Go.Li
namespace SMShape
end SMShape
end Go.Proofs.YtgjbmjjihmfppaaGreat
