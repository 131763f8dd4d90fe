/- All sieves at an object: the reference's search in depth and the program's search in breadth find the same list. No condition beside those that each theorem names. -/
import Derived.Test.YtgjbmjjihmfppaaGreatPh
import Derived.Test.YtgjbmjjihmfppaaGreatPa
namespace Go.Li
open Go
end Go.Li
namespace Go.Proofs.YtgjbmjjihmfppaaGreat
open Go Go.Li
set_option linter.unusedSectionVars false
structure Sv (c:aI) (x:Int) (s:List Int):Prop where
 form:s=(ns c.aF.length).filter (hasB s)
 src:∀ y∈s,gi c.aF y=x
 closed:∀ y∈s,∀ b:Int,0≤b→b < c.aF.length→gi c.To y=gi c.aF b→gk c.aD y b∈s
theorem Sv.arr {c:aI} {x:Int} {s:List Int} (h:Sv c x s):Nz c s:=fun a ha=>by
 rw [h.form] at ha; exact bz.1 (List.mem_filter.1 ha).1
theorem Sv.len {c:aI} {x:Int} {s:List Int} (h:Sv c x s):s.length≤c.aF.length:=by
 rw [h.form]; exact Nat.le_trans (List.length_filter_le _ _) (by rw [dD]; exact Nat.le_refl _)
theorem Sv.nil (c:aI) (x:Int):Sv c x []:=⟨by rw [List.filter_eq_nil_iff.2]; intro a _; simp [hasB],fun _ h=>(nomatch h),fun _ h=>(nomatch h)⟩
theorem rz {c:aI} {A:List Int} {a:Int}:a∈nu c A↔(0≤a∧a < c.aF.length)∧∃ y∈A,∃ b:Int,(0≤b∧b < c.aF.length)∧gi c.To y=gi c.aF b∧gk c.aD y b=a:=by
 unfold nu RA
 rw [List.mem_filter,bz]
 simp only [List.any_eq_true,Bool.and_eq_true,beq_iff_eq]
 constructor
 ·rintro ⟨h,y,hy,b,hb,e1,e2⟩; exact ⟨h,y,hy,b,bz.1 hb,e1,e2⟩
 ·rintro ⟨h,y,hy,b,hb,e1,e2⟩; exact ⟨h,y,hy,b,bz.2 hb,e1,e2⟩
theorem I8 {n:Nat} {p:Int→Bool}:(ns n).filter p=(ns n).filter (hasB ((ns n).filter p)):=by
 apply List.filter_congr
 intro a ha
 rw [Bool.eq_iff_iff,xT,List.mem_filter]
 exact ⟨fun h=>⟨ha,h⟩,fun h=>h.2⟩
section
variable {c:aI} (H:oh c) {x:Int}
include H
theorem FN {A:List Int} (hA:Nz c A):∀ y∈A,y∈nu c A:=fun y hy=>by
 have h:=hA y hy
 have ht:=H.to h.1 h.2
 have hi:=H.id ht.1 ht.2
 exact rz.2 ⟨h,y,hy,_,hi,(H.v7 _ ht.1 ht.2).symm,H.Lv y h.1 h.2⟩
theorem P1 {A:List Int} (hA:Nz c A) (hs:∀ y∈A,gi c.aF y=x):Sv c x (nu c A):=by
 refine ⟨I8,fun y hy=>?_,fun z hz b b0 b1 e=>?_⟩
 ·obtain ⟨_,z,hz,b,hb,e1,e2⟩:=rz.1 hy
  have h:=hA z hz
  rw [← e2,(H.cell z b h.1 h.2 hb.1 hb.2 e1).2.2.1]
  exact hs z hz
 ·obtain ⟨Hk,y,hy,a,ha,e1,e2⟩:=rz.1 hz
  have h:=hA y hy
  have c1:=H.cell y a h.1 h.2 ha.1 ha.2 e1
  have e3:gi c.To a=gi c.aF b:=by rw [← c1.2.2.2,e2]; exact e
  have c2:=H.cell a b ha.1 ha.2 b0 b1 e3
  have c3:=H.cell z b Hk.1 Hk.2 b0 b1 e
  refine rz.2 ⟨⟨c3.1,c3.2.1⟩,y,hy,gk c.aD a b,⟨c2.1,c2.2.1⟩,by rw [c2.2.2.1]; exact e1,?_⟩
  rw [← H.assoc y a b h.1 h.2 ha.1 ha.2 b0 b1 e1 e3,e2]
def wX (c:aI) (s:List Int) (a:Int):List Int:=nu c (s++[a])
theorem Ir {s:List Int} {a:Int} (hs:Sv c x s) (ha:a∈tB c x):Nz c (s++[a])∧∀ y∈s++[a],gi c.aF y=x:=by
 have h:=tP.1 ha
 refine ⟨fun y hy=>?_,fun y hy=>?_⟩
 ·rcases List.mem_append.1 hy with h' | h'
  ·exact hs.arr y h'
  ·rw [List.mem_singleton.1 h']; exact h.1
 ·rcases List.mem_append.1 hy with h' | h'
  ·exact hs.src y h'
  ·rw [List.mem_singleton.1 h']; exact h.2
theorem SN {s:List Int} {a:Int} (hs:Sv c x s) (ha:a∈tB c x):Sv c x (wX c s a):=
 P1 H (Ir H hs ha).1 (Ir H hs ha).2
theorem P3 {s:List Int} (h:Reaches (tB c x) (wX c) [] s):Sv c x s:=by
 induction h with
 | base=>exact Sv.nil c x
 | step _ ha ih=>exact SN H ih ha
structure zt (c:aI) (x:Int) (L:List (List Int)):Prop where
 mem:∀ s,s∈L↔Reaches (tB c x) (wX c) [] s
 nodup:L.Nodup
 len:L.length≤16
theorem zt.sv {L:List (List Int)} (h:zt c x L):∀ s∈L,Sv c x s:=fun s hs=>P3 H ((h.mem s).1 hs)
inductive Found (c:aI) (x:Int):Option (List (List Int))→Prop
 | Rz (F:List (List Int)) (h:yA (tB c x) (wX c) [] F) (hl:F.length≤16):Found c x (some (F.mergeSort Rs))
 | many (h:Ls (tB c x) (wX c) 16 []):Found c x none
end
end Go.Proofs.YtgjbmjjihmfppaaGreat
namespace Go.Li
open Go
def er {β:Type} (n:Nat) (g:Int→β):List β:=(ns n).map g
theorem cO {β:Type} (n:Nat) (g:Int→β):(er n g).length=n:=by simp [er,dD]
theorem r3 {β:Type} (n:Nat) (g:Int→β):er (n+1) g=er n g++[g n]:=by
 unfold er ns
 rw [List.range_succ]; simp
theorem qw {β:Type} {n i:Nat} (g:Int→β) (h:i < n):(er n g)[i]? = some (g i):=by
 unfold er ns
 simp [h]
theorem o4 {β:Type} {n:Nat} {g:Int→β} {y:β}:y∈er n g↔∃ x:Int,(0≤x∧x < n)∧g x=y:=by
 unfold er; simp only [List.mem_map,bz]
theorem uW {β:Type} {n:Nat} {g h:Int→β} (e:∀ i:Nat,i < n→g i=h i):er n g=er n h:=by
 apply List.map_congr_left
 intro x hx
 have:=bz.1 hx
 have:=e x.toNat (by omega)
 rwa [Int.toNat_of_nonneg (by omega)] at this
theorem vw {S S1 R β:Type} {body:S1→Option (Out S1 R)} {k:Nat} {f:S1→Option (Out S R)} {Is:S1} (n:Nat) (g:Int→β) (pk:List β→Nat→S1) (e0:pk [] 0=Is)
  (step:∀ i acc,i < n→acc.length=i→body (pk acc i)=some (.norm (pk (acc++[g i]) (i+1)))) (last:∀ acc,acc.length=n→body (pk acc n)=some (.exit k (pk acc n))) :
  ag (ae k (ai body Is)) f=f (pk (er n g) n):=by
 rw [← e0]
 refine n7 (ns n) (fun i=>pk (er i g) i) rfl ?_ ?_
 ·intro i x hx
  obtain ⟨rfl,hi⟩:=ic hx
  rw [step i _ hi (cO i g),r3]
 ·rw [dD]; exact last _ (cO n g)
def gl {α:Type} (l:List (List α)) (j:Int):List α:=l.getD j.toNat []
theorem Dj {α:Type} {l:List (List α)} {i:Nat} (h:i < l.length):l[i]? = some (gl l i):=by
 unfold gl; rw [List.getD_eq_getElem?_getD,Int.toNat_natCast,List.getElem?_eq_getElem h]; rfl
theorem J3 {α β:Type} (l:List (List α)) (g:List α→β):er l.length (fun i=>g (gl l i))=l.map g:=by
 apply List.ext_getElem?
 intro i
 by_cases h:i < l.length
 ·rw [qw _ h,List.getElem?_map,Dj h]; rfl
 ·rw [List.getElem?_eq_none (by rw [cO]; omega),List.getElem?_eq_none (by rw [List.length_map]; omega)]
end Go.Li
namespace Go.Proofs.YtgjbmjjihmfppaaGreat
open Go Go.Li
set_option linter.unusedSectionVars false
theorem jf (l:List Int) (hl:l.length≤1048576):dL l=some l:=by
 unfold dL
 rw [dF (by simp; omega) (by simp; omega),aG,List.nil_append]; rfl
theorem It (l:List (List Int)) (hl:l.length≤1048576) (hr:∀ y∈l,y.length≤1048576):lP l=some l:=by
 unfold lP
 refine (congrArg ak (vw l.length (gr l) (fun acc i=>(acc,(i:Int))) rfl ?_ ?_)).trans ?_
 ·intro i acc hi ha
  show jH l acc i=_
  unfold jH
  rw [av (by omega),cond_true,rq (by omega) (by omega),aG,jf _ (hr _ (qh (by omega) (by omega))),aG,dF (by omega) (by omega),aG,bN (by omega)]
 ·intro acc ha
  show jH l acc _=_
  unfold jH
  rw [bd (by omega),cond_false]
 ·show some (er l.length (gr l))=_
  have:=J3 l (fun x=>x)
  rw [List.map_id'] at this
  exact congrArg some this
theorem xV {c:aI} (h:gh c):jO c=some c:=by
 unfold jO
 rw [jf _ h.f,aG,jf _ h.t,aG,jf _ h.i,aG,It _ h.k h.r,aG]; rfl
theorem Iu {c:aI} (h:gh c):gU c=some c:=by
 have h1:∀ l:List Int,l.length≤1048576→eN l=some l:=fun l hl=>jf l hl
 have hk:=h.k
 unfold gU
 rw [h1 _ h.f,aG,h1 _ h.t,aG,h1 _ h.i,aG]
 have:qB c.aD=some c.aD:=by
  unfold qB
  rw [Gk (by omega) (by omega),aG]
  refine (congrArg ak (vw c.aD.length (gr c.aD) (fun acc i=>(acc,(i:Int))) rfl ?_ ?_)).trans ?_
  ·intro i acc hi ha
   show kC c.aD acc i=_
   unfold kC
   rw [av (by omega),cond_true,rq (by omega) (by omega),aG,h1 _ (h.r _ (qh (by omega) (by omega))),aG,dF (by omega) (by omega),aG,bN (by omega)]
  ·intro acc ha
   show kC c.aD acc _=_
   unfold kC
   rw [bd (by omega),cond_false]
  ·have:=J3 c.aD (fun x=>x)
   rw [List.map_id'] at this
   exact congrArg some this
 rw [this,aG]; rfl
structure Lw (c:aI) (k:Nat) (ls:List (List (List Int))):Prop where
 len:ls.length=k
 found:∀ i:Nat,i < k→Found c i (some (gl ls i))
section
variable {c:aI} (H:oh c)
include H
theorem P4 {x:Int} {L:List (List Int)} (h:Found c x (some L)):zt c x L:=by
 cases h with
 | Rz F h hl=>
  have hp:=List.mergeSort_perm F Rs
  exact ⟨fun s=>by rw [hp.mem_iff]; exact h.mem s,hp.nodup_iff.2 h.nodup,by rw [hp.length_eq]; exact hl⟩
theorem Lw.sv {k:Nat} {ls:List (List (List Int))} (h:Lw c k ls) {i:Int} (h0:0≤i) (h1:i < k):zt c i (gl ls i):=by
 have:=h.found i.toNat (by omega)
 rw [Int.toNat_of_nonneg h0] at this
 exact P4 H this
end
end Go.Proofs.YtgjbmjjihmfppaaGreat
namespace Go.Proofs.YtgjbmjjihmfppaaGreat
open Go Go.Li
set_option linter.unusedSectionVars false
section
variable {c:aI} (H:oh c)
include H
end
end Go.Proofs.YtgjbmjjihmfppaaGreat
namespace Go.Proofs.YtgjbmjjihmfppaaGreat
open Go Go.Li
section
variable {c:aI} (H:rI c)
include H
end
section
variable {c:aI} (H:oh c) {x:Int}
include H
theorem NB {A:List Int} {a:Int} (hA:Nz c A):nu c (nu c A++[a])=nu c (A++[a]):=by
 show (ns c.aF.length).filter _=(ns c.aF.length).filter _
 apply List.filter_congr
 intro z hz
 have key:∀ B:List Int,RA c B z=true↔z∈nu c B:=fun B=>by
  unfold nu; rw [List.mem_filter]; exact ⟨fun h=>⟨hz,h⟩,fun h=>h.2⟩
 rw [Bool.eq_iff_iff,key,key,rz,rz]
 refine and_congr_right fun hz=>⟨?_,?_⟩
 ·rintro ⟨y,hy,b,hb,e1,e2⟩
  rcases List.mem_append.1 hy with hy | hy
  ·obtain ⟨Cw,u,hu,b',cy,e3,e4⟩:=rz.1 hy
   have CB:=hA u hu
   have c1:=H.cell u b' CB.1 CB.2 cy.1 cy.2 e3
   have e5:gi c.To b'=gi c.aF b:=by rw [← c1.2.2.2,e4]; exact e1
   have c2:=H.cell b' b cy.1 cy.2 hb.1 hb.2 e5
   exact ⟨u,List.mem_append_left _ hu,gk c.aD b' b,⟨c2.1,c2.2.1⟩,by rw [c2.2.2.1]; exact e3,by rw [← H.assoc u b' b CB.1 CB.2 cy.1 cy.2 hb.1 hb.2 e3 e5,e4]; exact e2⟩
  ·exact ⟨y,List.mem_append_right _ hy,b,hb,e1,e2⟩
 ·rintro ⟨y,hy,b,hb,e1,e2⟩
  rcases List.mem_append.1 hy with hy | hy
  ·exact ⟨y,List.mem_append_left _ (FN H hA y hy),b,hb,e1,e2⟩
  ·exact ⟨y,List.mem_append_right _ hy,b,hb,e1,e2⟩
theorem I9:∀ (n:Nat) (A:List Int),A.length=n→(∀ a∈A,a∈tB c x)→Reaches (tB c x) (wX c) [] (nu c A):=by
 intro n
 induction n with
 | zero=>
  intro A hA _
  obtain rfl:A=[]:=List.length_eq_zero_iff.1 hA
  have:nu c []=[]:=by unfold nu; rw [List.filter_eq_nil_iff]; intro a _; simp [RA]
  rw [this]; exact .base
 | succ n ih=>
  intro A hA hs
  have ny:A≠[]:=by rintro rfl; cases hA
  have hd:=List.dropLast_concat_getLast ny
  have hl:A.getLast ny∈A:=List.getLast_mem ny
  have dj:∀ a∈A.dropLast,a∈tB c x:=fun a ha=>hs a (List.dropLast_subset A ha)
  have h1:=ih A.dropLast (by simp; omega) dj
  have h2:=Reaches.step (step:=wX c) h1 (hs _ hl)
  unfold wX at h2
  rw [NB H (fun a ha=>(tP.1 (dj a ha)).1),hd] at h2
  exact h2
theorem P6 {s:List Int} (h:Sv c x s):Reaches (tB c x) (wX c) [] s:=by
 have h1:=I9 H s.length s rfl fun a ha=>tP.2 ⟨h.arr a ha,h.src a ha⟩
 have h2:nu c s=s:=by
  conv=>rhs; rw [h.form]
  unfold nu
  apply List.filter_congr
  intro z hz
  rw [Bool.eq_iff_iff,xT]
  constructor
  ·intro hc
   have:z∈nu c s:=List.mem_filter.2 ⟨hz,hc⟩
   obtain ⟨_,y,hy,b,hb,e1,e2⟩:=rz.1 this
   rw [← e2]; exact h.closed y hy b hb.1 hb.2 e1
  ·intro hs
   exact (List.mem_filter.1 (FN H h.arr z hs)).2
 rw [h2] at h1; exact h1
theorem SR {L:List (List Int)} (h:zt c x L) (s:List Int):s∈L↔Sv c x s:=⟨h.sv H s,fun hs=>(h.mem s).2 (P6 H hs)⟩
theorem V9:Sv c x (tB c x):=by
 refine ⟨?_,fun y hy=>(tP.1 hy).2,fun y hy b b0 b1 e=>?_⟩
 ·show (ns c.aF.length).filter _=_
  apply List.filter_congr
  intro z hz
  rw [Bool.eq_iff_iff,xT,tP]
  simp only [beq_iff_eq]
  exact ⟨fun h=>⟨bz.1 hz,h⟩,fun h=>h.2⟩
 ·have hy:=tP.1 hy
  have c1:=H.cell y b hy.1.1 hy.1.2 b0 b1 e
  exact tP.2 ⟨⟨c1.1,c1.2.1⟩,by rw [c1.2.2.1]; exact hy.2⟩
end
end Go.Proofs.YtgjbmjjihmfppaaGreat
namespace Go.Li
open Go
section
variable {S S1 R α:Type} {body:S1→Option (Out S1 R)}
end
end Go.Li
namespace Go.Proofs.YtgjbmjjihmfppaaGreat
open Go Go.Li
def put (p:Int→List Int→Bool) (x:Int) (s:List Int):Int→List Int→Bool:=fun y t=>p y t || (y == x && t == s)
structure Tab (c:aI) (ls:List (List (List Int))):Prop where
 cat:oh c
 lists:Lw c c.aA.toNat ls
namespace Tab
variable {c:aI} {ls:List (List (List Int))} (T:Tab c ls)
include T
theorem len:(ls.length:Int)=c.aA:=by have h1:=T.lists.len; have h2:=T.cat.o0; omega
theorem sv {x:Int} (h0:0≤x) (h1:x < ls.length):zt c x (gl ls x):=T.lists.sv T.cat h0 (by have:=T.lists.len; omega)
theorem mem {x:Int} (h0:0≤x) (h1:x < ls.length) {s:List Int}:s∈gl ls x↔Sv c x s:=SR T.cat (T.sv h0 h1) s
theorem nodup {x:Int} (h0:0≤x) (h1:x < ls.length):(gl ls x).Nodup:=(T.sv h0 h1).nodup
theorem fr {a:Int} (a0:0≤a) (a1:a < c.aF.length):0≤gi c.aF a∧gi c.aF a < ls.length:=by have:=T.cat.fr a0 a1; rw [← T.len] at this; exact this
theorem to {a:Int} (a0:0≤a) (a1:a < c.aF.length):0≤gi c.To a∧gi c.To a < ls.length:=by have:=T.cat.to a0 a1; rw [← T.len] at this; exact this
theorem out {x:Int} (h0:0≤x) (h1:x < ls.length):tB c x∈gl ls x:=(T.mem h0 h1).2 (V9 T.cat)
theorem arr {x:Int} (h0:0≤x) (h1:x < ls.length) {s:List Int} (hs:s∈gl ls x) {a:Int} (ha:a∈s):0≤a∧a < c.aF.length:=((T.mem h0 h1).1 hs).arr a ha
end Tab
def Wd (c:aI) (p:Int→List Int→Bool) (s t:List Int):Bool:=!(s.any fun a=>!(p (gi c.To a) (RB c a t)))
structure ah2 (c:aI) (ls:List (List (List Int))) (q:Int→List Int→Bool):Prop where
 top:∀ x:Int,0≤x→x < ls.length→q x (tB c x)=true
 arrow:∀ a s:_,0≤a→a < (c.aF.length:Int)→s∈gl ls (gi c.aF a)→q (gi c.aF a) s=true→q (gi c.To a) (RB c a s)=true
 loc:∀ x:Int,0≤x→x < ls.length→∀ s∈gl ls x,∀ t∈gl ls x,q x s=true→Wd c q s t=true→q x t=true
section
variable {c:aI} {ls:List (List (List Int))} (T:Tab c ls) {p:Int→List Int→Bool}
include T
end
end Go.Proofs.YtgjbmjjihmfppaaGreat
namespace Go.Proofs.YtgjbmjjihmfppaaGreat
open Go Go.Li
def X9 (ls:List (List (List Int))):List (Int×List Int):=(ns ls.length).flatMap fun x=>(gl ls x).map fun s=>(x,s)
def Hf (ls:List (List (List Int))) (p:Int→List Int→Bool):Nat:=(X9 ls).countP fun z=>p z.1 z.2
def Le (ls:List (List (List Int))) (p q:Int→List Int→Bool):Prop:=∀ y:Int,0≤y→y < ls.length→∀ t∈gl ls y,p y t=true→q y t=true
theorem Le.tr {ls:List (List (List Int))} {p q r:Int→List Int→Bool} (h:Le ls p q) (g:Le ls q r):Le ls p r:=fun y h0 h1 t ht hp=>g y h0 h1 t ht (h y h0 h1 t ht hp)
theorem Le.put {ls:List (List (List Int))} {p:Int→List Int→Bool} {x:Int} {s:List Int}:Le ls p (put p x s):=fun y _ _ t _ h=>by
 show (p y t || _)=true
 rw [h]; rfl
end Go.Proofs.YtgjbmjjihmfppaaGreat
namespace Go.Proofs.YtgjbmjjihmfppaaGreat
open Go Go.Li
section
variable {c:aI} {ls:List (List (List Int))} (T:Tab c ls) {p:Int→List Int→Bool}
include T
end
end Go.Proofs.YtgjbmjjihmfppaaGreat
namespace Go.Proofs.YtgjbmjjihmfppaaGreat
open Go Go.Li
section
end
end Go.Proofs.YtgjbmjjihmfppaaGreat
namespace Go.Proofs.YtgjbmjjihmfppaaGreat
open Go Go.Li
end Go.Proofs.YtgjbmjjihmfppaaGreat
namespace Go.Proofs.YtgjbmjjihmfppaaGreat
open Go Go.Li
theorem s8 {S S1 R:Type} {body:S1→Option (Out S1 R)} {k:Nat} {f:S1→Option (Out S R)} {s0:S1} (l:List Int) (q:Int→Bool) (pk:List Int→Nat→S1) (e0:pk [] 0=s0)
  (step:∀ i a acc,l[i]? = some a→acc.length≤i→body (pk acc i)=some (.norm (pk (if q a then acc++[a] else acc) (i+1)))) (last:∀ acc,body (pk acc l.length)=some (.exit k (pk acc l.length))) :
  ag (ae k (ai body s0)) f=f (pk (l.filter q) l.length):=by
 refine (n7 l (fun i=>pk ((l.take i).filter q) i) (by simpa using e0) (fun i a ha=>?_) (e:=pk (l.filter q) l.length) ?_)
 ·rw [step i a _ ha (by have:=List.length_filter_le q (l.take i); rw [List.length_take] at this; omega),AS ha,List.filter_append]
  cases h:q a <;> simp [h]
 ·rw [last,List.take_length]
section
variable {c:aI} {ls:List (List (List Int))} (T:Tab c ls) {p q:Int→List Int→Bool}
include T
end
end Go.Proofs.YtgjbmjjihmfppaaGreat
namespace Go.Proofs.YtgjbmjjihmfppaaGreat
open Go Go.Li
section
variable {c:aI} (H:oh c)
include H
end
end Go.Proofs.YtgjbmjjihmfppaaGreat
namespace Go.Proofs.YtgjbmjjihmfppaaGreat
open Go Go.Li
def tH (c d:aI):Bool:=c.aA == d.aA && (c.aF == d.aF && (c.To == d.To && (c.aJ == d.aJ && c.aD == d.aD)))
theorem xW {c d:aI}:tH c d=true↔c=d:=by
 unfold tH
 simp only [Bool.and_eq_true,beq_iff_eq]
 constructor
 ·rintro ⟨h1,h2,h3,h4,h5⟩
  cases c; cases d
  dsimp only at h1 h2 h3 h4 h5
  rw [h1,h2,h3,h4,h5]
 ·rintro rfl; exact ⟨rfl,rfl,rfl,rfl,rfl⟩
theorem Ja {c d:aI} (h:gh c):pB c d=some (tH c d):=by
 obtain ⟨h1,h2,h3,h4,h5⟩:=h
 have e5:qO c.aD d.aD=some (c.aD == d.aD):=SK _ _ (by omega) (fun z hz=>by have:=h5 z hz; omega)
 unfold pB tH
 cases c.aA == d.aA with
 | false=>rfl
 | true=>
  rw [cond_true,C8 _ _ (by omega),aG]
  cases c.aF == d.aF with
  | false=>rfl
  | true=>
   rw [cond_true,C8 _ _ (by omega),aG]
   cases c.To == d.To with
   | false=>rfl
   | true=>
    rw [cond_true,C8 _ _ (by omega),aG]
    cases c.aJ == d.aJ with
    | false=>rfl
    | true=>rw [cond_true,e5]; rfl
theorem P7:∀ {x y:List (List Int)},x.length=y.length→(x == y) = !((x.zip y).any fun z=>!(z.1 == z.2)):=by
 intro x
 induction x with
 | nil=>intro y h; cases y with
  | nil=>rfl
  | cons b y=>simp at h
 | cons a x ih=>
  intro y h
  cases y with
  | nil=>simp at h
  | cons b y=>
   have h':x.length=y.length:=by simpa using h
   rw [List.zip_cons_cons,List.any_cons,Bool.not_or,Bool.not_not,← ih h']; rfl
theorem yT {c d:aI} (h:gh c):gA c d=some (tH c d):=by
 obtain ⟨h1,h2,h3,h4,h5⟩:=h
 unfold gA tH
 cases e1:c.aA == d.aA with
 | false=>rw [show (c.aA != d.aA)=true by unfold bne; rw [e1]; rfl]; rfl
 | true=>
  rw [show (c.aA != d.aA)=false by unfold bne; rw [e1]; rfl,cond_false,xU _ _ (by omega),aG]
  cases c.aF == d.aF with
  | false=>rfl
  | true=>
   rw [Bool.not_true,cond_false,xU _ _ (by omega),aG]
   cases c.To == d.To with
   | false=>rfl
   | true=>
    rw [Bool.not_true,cond_false,xU _ _ (by omega),aG]
    cases c.aJ == d.aJ with
    | false=>rfl
    | true=>
     rw [Bool.not_true,cond_false,aG]
     simp only [Bool.true_and]
     by_cases hl:c.aD.length=d.aD.length
     ·rw [yS (by omega),cond_false,P7 hl]
      refine (congrArg ak (jy (c.aD.zip d.aD) (fun z=>!(z.1 == z.2)) (fun i=>(i:Int)) rfl ?_ ?_ (e:=((c.aD.zip d.aD).length:Int)) (y:=false) ?_)).trans ?_
      ·intro i z hz hp
       obtain ⟨z1,z2⟩:=z
       obtain ⟨g1,g2⟩:=List.getElem?_zip_eq_some.1 hz
       have hi:=bm g1
       have:=h5 _ (List.mem_of_getElem? g1)
       unfold iE
       rw [av (by omega),cond_true,bu,g1,aG,bu,g2,aG,xU _ _ (by omega),aG]
       rw [show (!(z1 == z2))=false from hp,cond_false,bN (by omega)]
      ·intro i z hz hp
       obtain ⟨z1,z2⟩:=z
       obtain ⟨g1,g2⟩:=List.getElem?_zip_eq_some.1 hz
       have hi:=bm g1
       have:=h5 _ (List.mem_of_getElem? g1)
       unfold iE
       rw [av (by omega),cond_true,bu,g1,aG,bu,g2,aG,xU _ _ (by omega),aG]
       rw [show (!(z1 == z2))=true from hp,cond_true]
      ·unfold iE
       rw [List.length_zip,← hl,Nat.min_self,bd (by omega),cond_false]
      ·cases (c.aD.zip d.aD).any fun z=>!(z.1 == z.2) <;> rfl
     ·rw [uT (by omega)]
      have:(c.aD == d.aD)=false:=r9 fun h=>hl (by rw [h])
      rw [this]; rfl
end Go.Proofs.YtgjbmjjihmfppaaGreat
namespace Go.Proofs.YtgjbmjjihmfppaaGreat
open Go Go.Li
theorem BQ {S R:Type} {body:Int→Option (Out Int R)} {k:Nat} {f:Int→Option (Out S R)} {n:Nat} (p:Int→Bool) {y:R}
  (h:∀ i:Nat,i < n→body (i:Int)=bif p i then some (.ret y) else some (.norm ((i+1:Nat):Int))) (last:body (n:Int)=some (.exit k (n:Int))) :
  ag (ae k (ai body (0:Int))) f=bif (ns n).any p then some (.ret y) else f n:=by
 refine (jy (ns n) p (fun i=>(i:Int)) rfl ?_ ?_ (e:=(n:Int)) (y:=y) ?_).trans ?_
 ·intro i x hx hp; obtain ⟨rfl,hi⟩:=ic hx; rw [h i hi,hp]; rfl
 ·intro i x hx hp; obtain ⟨rfl,hi⟩:=ic hx; rw [h i hi,hp]; rfl
 ·rw [dD]; exact last
 ·cases (ns n).any p <;> rfl
theorem s9 {α:Type} {b:Bool} {x y:α}:(bif b then some x else some y)=some (bif b then x else y):=by cases b <;> rfl
theorem zu {a b:Bool}:(bif a then true else b)=(a || b):=by cases a <;> rfl
theorem Iv {a b:Bool}:(bif a then b else false)=(a && b):=by cases a <;> rfl
theorem dv {n:Nat} {p:Int→Bool}:(ns n).any p=false↔∀ i:Int,0≤i→i < n→p i=false:=by
 rw [List.any_eq_false]
 exact ⟨fun h i h0 h1=>by simpa using h i (bz.2 ⟨h0,h1⟩),fun h i hi=>by simp [h i (bz.1 hi).1 (bz.1 hi).2]⟩
namespace SFHead
end SFHead
end Go.Proofs.YtgjbmjjihmfppaaGreat
namespace Go.Proofs.YtgjbmjjihmfppaaGreat
open Go Go.Li
namespace SFShape
end SFShape
end Go.Proofs.YtgjbmjjihmfppaaGreat
namespace Go.Proofs.YtgjbmjjihmfppaaGreat
open Go Go.Li
namespace SMShape
end SMShape
def thenS (a b:List Int):List Int:=er a.length fun i=>gi b (gi a i)
theorem C9 (a b:List Int) (ha:a.length≤1048576) (hb:∀ x∈a,0≤x∧x < b.length):oJ a b=some (thenS a b):=by
 unfold oJ
 rw [Gk (by omega) (by omega),aG]
 have hl:(thenS a b).length=a.length:=cO _ _
 refine (congrArg ak (n7 (ns a.length) (fun i=>((i:Int),(thenS a b).take i++List.replicate (a.length - i) (0:Int))) (by simp) ?_ (e:=((a.length:Int),thenS a b)) ?_)).trans rfl
 ·intro i x hx
  obtain ⟨rfl,hi⟩:=ic hx
  have hg:(thenS a b)[i]? = some (gi b (gi a i)):=qw _ hi
  have hm:=hb _ (ep (l:=a) (j:=(i:Int)) (by omega) (by omega))
  have hc:=PY (thenS a b) (0:Int) hg
  have Zk:=get_copy (thenS a b) (0:Int) hg
  rw [hl] at hc Zk
  show lV a b (i:Int) _=_
  unfold lV
  rw [av (by omega),cond_true,cB (by omega) (by omega),aG,cB hm.1 hm.2,aG,bu,Zk,aG,bN (by omega),Int.toNat_natCast,hc]
 ·rw [dD]
  show lV a b _ _=_
  unfold lV
  rw [bd (by omega),cond_false,Nat.sub_self,List.take_of_length_le (by omega)]
  simp
end Go.Proofs.YtgjbmjjihmfppaaGreat
