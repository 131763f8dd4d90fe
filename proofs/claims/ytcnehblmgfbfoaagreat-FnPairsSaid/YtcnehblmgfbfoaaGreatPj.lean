/- All sieves at an object: the reference's search in depth and the program's search in breadth find the same list. No condition beside those that each theorem names. -/
import Derived.Test.YtcnehblmgfbfoaaGreatPh
import Derived.Test.YtcnehblmgfbfoaaGreatPa
set_option linter.unusedVariables false
set_option linter.unusedSectionVars false
set_option linter.unusedSimpArgs false
namespace Go.Li
open Go
end Go.Li
namespace Go.Proofs.YtcnehblmgfbfoaaGreat
open Go Go.Li
set_option linter.unusedSectionVars false
structure Sv (c:aD) (x:Int) (s:List Int):Prop where
 form:s=(ns c.aB.length).filter (hasB s)
 src:∀ y∈s,gi c.aB y=x
 closed:∀ y∈s,∀ b:Int,0≤b→b < c.aB.length→gi c.To y=gi c.aB b→gk c.aC y b∈s
theorem Sv.arr {c:aD} {x:Int} {s:List Int} (h:Sv c x s):Lh c s:=fun a ha=>by
 rw [h.form] at ha; exact ez.1 (List.mem_filter.1 ha).1
theorem Sv.len {c:aD} {x:Int} {s:List Int} (h:Sv c x s):s.length≤c.aB.length:=by
 rw [h.form]; exact Nat.le_trans (List.length_filter_le _ _) (by rw [cA]; exact Nat.le_refl _)
theorem Sv.nil (c:aD) (x:Int):Sv c x []:=⟨by rw [List.filter_eq_nil_iff.2]; intro a _; simp [hasB],fun _ h=>(nomatch h),fun _ h=>(nomatch h)⟩
theorem qe {c:aD} {A:List Int} {a:Int}:a∈ml c A↔(0≤a∧a < c.aB.length)∧∃ y∈A,∃ b:Int,(0≤b∧b < c.aB.length)∧gi c.To y=gi c.aB b∧gk c.aC y b=a:=by
 unfold ml O6
 rw [List.mem_filter,ez]
 simp only [List.any_eq_true,Bool.and_eq_true,beq_iff_eq]
 constructor
 ·rintro ⟨h,y,hy,b,hb,e1,e2⟩; exact ⟨h,y,hy,b,ez.1 hb,e1,e2⟩
 ·rintro ⟨h,y,hy,b,hb,e1,e2⟩; exact ⟨h,y,hy,b,ez.2 hb,e1,e2⟩
theorem GU {n:Nat} {p:Int→Bool}:(ns n).filter p=(ns n).filter (hasB ((ns n).filter p)):=by
 apply List.filter_congr
 intro a ha
 rw [Bool.eq_iff_iff,By,List.mem_filter]
 exact ⟨fun h=>⟨ha,h⟩,fun h=>h.2⟩
section
variable {c:aD} (H:gu c) {x:Int}
include H
theorem DP {A:List Int} (hA:Lh c A):∀ y∈A,y∈ml c A:=fun y hy=>by
 have h:=hA y hy
 have ht:=H.to h.1 h.2
 have hi:=H.id ht.1 ht.2
 exact qe.2 ⟨h,y,hy,_,hi,(H.qK _ ht.1 ht.2).symm,H.uJ y h.1 h.2⟩
theorem NI {A:List Int} (hA:Lh c A) (hs:∀ y∈A,gi c.aB y=x):Sv c x (ml c A):=by
 refine ⟨GU,fun y hy=>?_,fun z hz b b0 b1 e=>?_⟩
 ·obtain ⟨_,z,hz,b,hb,e1,e2⟩:=qe.1 hy
  have h:=hA z hz
  rw [← e2,(H.cell z b h.1 h.2 hb.1 hb.2 e1).2.2.1]
  exact hs z hz
 ·obtain ⟨Fc,y,hy,a,ha,e1,e2⟩:=qe.1 hz
  have h:=hA y hy
  have c1:=H.cell y a h.1 h.2 ha.1 ha.2 e1
  have e3:gi c.To a=gi c.aB b:=by rw [← c1.2.2.2,e2]; exact e
  have c2:=H.cell a b ha.1 ha.2 b0 b1 e3
  have c3:=H.cell z b Fc.1 Fc.2 b0 b1 e
  refine qe.2 ⟨⟨c3.1,c3.2.1⟩,y,hy,gk c.aC a b,⟨c2.1,c2.2.1⟩,by rw [c2.2.2.1]; exact e1,?_⟩
  rw [← H.assoc y a b h.1 h.2 ha.1 ha.2 b0 b1 e1 e3,e2]
def uR (c:aD) (s:List Int) (a:Int):List Int:=ml c (s++[a])
theorem Gn {s:List Int} {a:Int} (hs:Sv c x s) (ha:a∈rm c x):Lh c (s++[a])∧∀ y∈s++[a],gi c.aB y=x:=by
 have h:=rW.1 ha
 refine ⟨fun y hy=>?_,fun y hy=>?_⟩
 ·rcases List.mem_append.1 hy with h' | h'
  ·exact hs.arr y h'
  ·rw [List.mem_singleton.1 h']; exact h.1
 ·rcases List.mem_append.1 hy with h' | h'
  ·exact hs.src y h'
  ·rw [List.mem_singleton.1 h']; exact h.2
theorem Qe {s:List Int} {a:Int} (hs:Sv c x s) (ha:a∈rm c x):Sv c x (uR c s a):=
 NI H (Gn H hs ha).1 (Gn H hs ha).2
theorem NJ {s:List Int} (h:Reaches (rm c x) (uR c) [] s):Sv c x s:=by
 induction h with
 | base=>exact Sv.nil c x
 | step _ ha ih=>exact Qe H ih ha
structure xA (c:aD) (x:Int) (L:List (List Int)):Prop where
 mem:∀ s,s∈L↔Reaches (rm c x) (uR c) [] s
 nodup:L.Nodup
 len:L.length≤16
theorem xA.sv {L:List (List Int)} (h:xA c x L):∀ s∈L,Sv c x s:=fun s hs=>NJ H ((h.mem s).1 hs)
inductive Found (c:aD) (x:Int):Option (List (List Int))→Prop
 | O5 (F:List (List Int)) (h:wJ (rm c x) (uR c) [] F) (hl:F.length≤16):Found c x (some (F.mergeSort OS))
 | many (h:Jr (rm c x) (uR c) 16 []):Found c x none
end
end Go.Proofs.YtcnehblmgfbfoaaGreat
namespace Go.Li
open Go
def bj {β:Type} (n:Nat) (g:Int→β):List β:=(ns n).map g
theorem aW {β:Type} (n:Nat) (g:Int→β):(bj n g).length=n:=by simp [bj,cA]
theorem ib {β:Type} (n:Nat) (g:Int→β):bj (n+1) g=bj n g++[g n]:=by
 unfold bj ns
 rw [List.range_succ]; simp
theorem ja {β:Type} {n i:Nat} (g:Int→β) (h:i < n):(bj n g)[i]? = some (g i):=by
 unfold bj ns
 simp [h]
theorem ij {β:Type} {n:Nat} {g:Int→β} {y:β}:y∈bj n g↔∃ x:Int,(0≤x∧x < n)∧g x=y:=by
 unfold bj; simp only [List.mem_map,ez]
theorem sW {β:Type} {n:Nat} {g h:Int→β} (e:∀ i:Nat,i < n→g i=h i):bj n g=bj n h:=by
 apply List.map_congr_left
 intro x hx
 have:=ez.1 hx
 have:=e x.toNat (by omega)
 rwa [Int.toNat_of_nonneg (by omega)] at this
theorem tn {S S1 R β:Type} {body:S1→Option (Out S1 R)} {k:Nat} {f:S1→Option (Out S R)} {Gp:S1} (n:Nat) (g:Int→β) (pk:List β→Nat→S1) (e0:pk [] 0=Gp)
  (step:∀ i acc,i < n→acc.length=i→body (pk acc i)=some (.norm (pk (acc++[g i]) (i+1)))) (last:∀ acc,acc.length=n→body (pk acc n)=some (.exit k (pk acc n))) :
  ah (ab k (aj body Gp)) f=f (pk (bj n g) n):=by
 rw [← e0]
 refine jj (ns n) (fun i=>pk (bj i g) i) rfl ?_ ?_
 ·intro i x hx
  obtain ⟨rfl,hi⟩:=fl hx
  rw [step i _ hi (aW i g),ib]
 ·rw [cA]; exact last _ (aW n g)
def gl {α:Type} (l:List (List α)) (j:Int):List α:=l.getD j.toNat []
theorem BF {α:Type} {l:List (List α)} {i:Nat} (h:i < l.length):l[i]? = some (gl l i):=by
 unfold gl; rw [List.getD_eq_getElem?_getD,Int.toNat_natCast,List.getElem?_eq_getElem h]; rfl
theorem HX {α β:Type} (l:List (List α)) (g:List α→β):bj l.length (fun i=>g (gl l i))=l.map g:=by
 apply List.ext_getElem?
 intro i
 by_cases h:i < l.length
 ·rw [ja _ h,List.getElem?_map,BF h]; rfl
 ·rw [List.getElem?_eq_none (by rw [aW]; omega),List.getElem?_eq_none (by rw [List.length_map]; omega)]
end Go.Li
namespace Go.Proofs.YtcnehblmgfbfoaaGreat
open Go Go.Li
set_option linter.unusedSectionVars false
theorem jc (l:List Int) (hl:l.length≤1048576):cF l=some l:=by
 unfold cF
 rw [cB (by simp; omega) (by simp; omega),aE,List.nil_append]; rfl
theorem Gq (l:List (List Int)) (hl:l.length≤1048576) (hr:∀ y∈l,y.length≤1048576):jM l=some l:=by
 unfold jM
 refine (congrArg an (tn l.length (gr l) (fun acc i=>(acc,(i:Int))) rfl ?_ ?_)).trans ?_
 ·intro i acc hi ha
  show gT l acc i=_
  unfold gT
  rw [au (by omega),cond_true,qt (by omega) (by omega),aE,jc _ (hr _ (pq (by omega) (by omega))),aE,cB (by omega) (by omega),aE,bD (by omega)]
 ·intro acc ha
  show gT l acc _=_
  unfold gT
  rw [ba (by omega),cond_false]
 ·show some (bj l.length (gr l))=_
  have:=HX l (fun x=>x)
  rw [List.map_id'] at this
  exact congrArg some this
theorem vY {c:aD} (h:dv c):gV c=some c:=by
 unfold gV
 rw [jc _ h.f,aE,jc _ h.t,aE,jc _ h.i,aE,Gq _ h.k h.r,aE]; rfl
theorem Gr {c:aD} (h:dv c):fJ c=some c:=by
 have h1:∀ l:List Int,l.length≤1048576→cM l=some l:=fun l hl=>jc l hl
 have hk:=h.k
 unfold fJ
 rw [h1 _ h.f,aE,h1 _ h.t,aE,h1 _ h.i,aE]
 have:mO c.aC=some c.aC:=by
  unfold mO
  rw [uK (by omega) (by omega),aE]
  refine (congrArg an (tn c.aC.length (gr c.aC) (fun acc i=>(acc,(i:Int))) rfl ?_ ?_)).trans ?_
  ·intro i acc hi ha
   show iL c.aC acc i=_
   unfold iL
   rw [au (by omega),cond_true,qt (by omega) (by omega),aE,h1 _ (h.r _ (pq (by omega) (by omega))),aE,cB (by omega) (by omega),aE,bD (by omega)]
  ·intro acc ha
   show iL c.aC acc _=_
   unfold iL
   rw [ba (by omega),cond_false]
  ·have:=HX c.aC (fun x=>x)
   rw [List.map_id'] at this
   exact congrArg some this
 rw [this,aE]; rfl
structure Ju (c:aD) (k:Nat) (ls:List (List (List Int))):Prop where
 len:ls.length=k
 found:∀ i:Nat,i < k→Found c i (some (gl ls i))
section
variable {c:aD} (H:gu c)
include H
theorem NK {x:Int} {L:List (List Int)} (h:Found c x (some L)):xA c x L:=by
 cases h with
 | O5 F h hl=>
  have hp:=List.mergeSort_perm F OS
  exact ⟨fun s=>by rw [hp.mem_iff]; exact h.mem s,hp.nodup_iff.2 h.nodup,by rw [hp.length_eq]; exact hl⟩
theorem Ju.sv {k:Nat} {ls:List (List (List Int))} (h:Ju c k ls) {i:Int} (h0:0≤i) (h1:i < k):xA c i (gl ls i):=by
 have:=h.found i.toNat (by omega)
 rw [Int.toNat_of_nonneg h0] at this
 exact NK H this
end
end Go.Proofs.YtcnehblmgfbfoaaGreat
namespace Go.Proofs.YtcnehblmgfbfoaaGreat
open Go Go.Li
set_option linter.unusedSectionVars false
section
variable {c:aD} (H:gu c)
include H
end
end Go.Proofs.YtcnehblmgfbfoaaGreat
namespace Go.Proofs.YtcnehblmgfbfoaaGreat
open Go Go.Li
section
variable {c:aD} (H:nK c)
include H
end
section
variable {c:aD} (H:gu c) {x:Int}
include H
theorem Lj {A:List Int} {a:Int} (hA:Lh c A):ml c (ml c A++[a])=ml c (A++[a]):=by
 show (ns c.aB.length).filter _=(ns c.aB.length).filter _
 apply List.filter_congr
 intro z hz
 have key:∀ B:List Int,O6 c B z=true↔z∈ml c B:=fun B=>by
  unfold ml; rw [List.mem_filter]; exact ⟨fun h=>⟨hz,h⟩,fun h=>h.2⟩
 rw [Bool.eq_iff_iff,key,key,qe,qe]
 refine and_congr_right fun hz=>⟨?_,?_⟩
 ·rintro ⟨y,hy,b,hb,e1,e2⟩
  rcases List.mem_append.1 hy with hy | hy
  ·obtain ⟨AH,u,hu,b',bz,e3,e4⟩:=qe.1 hy
   have AK:=hA u hu
   have c1:=H.cell u b' AK.1 AK.2 bz.1 bz.2 e3
   have e5:gi c.To b'=gi c.aB b:=by rw [← c1.2.2.2,e4]; exact e1
   have c2:=H.cell b' b bz.1 bz.2 hb.1 hb.2 e5
   exact ⟨u,List.mem_append_left _ hu,gk c.aC b' b,⟨c2.1,c2.2.1⟩,by rw [c2.2.2.1]; exact e3,by rw [← H.assoc u b' b AK.1 AK.2 bz.1 bz.2 hb.1 hb.2 e3 e5,e4]; exact e2⟩
  ·exact ⟨y,List.mem_append_right _ hy,b,hb,e1,e2⟩
 ·rintro ⟨y,hy,b,hb,e1,e2⟩
  rcases List.mem_append.1 hy with hy | hy
  ·exact ⟨y,List.mem_append_left _ (DP H hA y hy),b,hb,e1,e2⟩
  ·exact ⟨y,List.mem_append_right _ hy,b,hb,e1,e2⟩
theorem GV:∀ (n:Nat) (A:List Int),A.length=n→(∀ a∈A,a∈rm c x)→Reaches (rm c x) (uR c) [] (ml c A):=by
 intro n
 induction n with
 | zero=>
  intro A hA _
  obtain rfl:A=[]:=List.length_eq_zero_iff.1 hA
  have:ml c []=[]:=by unfold ml; rw [List.filter_eq_nil_iff]; intro a _; simp [O6]
  rw [this]; exact .base
 | succ n ih=>
  intro A hA hs
  have pN:A≠[]:=by rintro rfl; cases hA
  have hd:=List.dropLast_concat_getLast pN
  have hl:A.getLast pN∈A:=List.getLast_mem pN
  have cw:∀ a∈A.dropLast,a∈rm c x:=fun a ha=>hs a (List.dropLast_subset A ha)
  have h1:=ih A.dropLast (by simp; omega) cw
  have h2:=Reaches.step (step:=uR c) h1 (hs _ hl)
  unfold uR at h2
  rw [Lj H (fun a ha=>(rW.1 (cw a ha)).1),hd] at h2
  exact h2
theorem NL {s:List Int} (h:Sv c x s):Reaches (rm c x) (uR c) [] s:=by
 have h1:=GV H s.length s rfl fun a ha=>rW.2 ⟨h.arr a ha,h.src a ha⟩
 have h2:ml c s=s:=by
  conv=>rhs; rw [h.form]
  unfold ml
  apply List.filter_congr
  intro z hz
  rw [Bool.eq_iff_iff,By]
  constructor
  ·intro hc
   have:z∈ml c s:=List.mem_filter.2 ⟨hz,hc⟩
   obtain ⟨_,y,hy,b,hb,e1,e2⟩:=qe.1 this
   rw [← e2]; exact h.closed y hy b hb.1 hb.2 e1
  ·intro hs
   exact (List.mem_filter.1 (DP H h.arr z hs)).2
 rw [h2] at h1; exact h1
theorem Qh {L:List (List Int)} (h:xA c x L) (s:List Int):s∈L↔Sv c x s:=⟨h.sv H s,fun hs=>(h.mem s).2 (NL H hs)⟩
theorem TL:Sv c x (rm c x):=by
 refine ⟨?_,fun y hy=>(rW.1 hy).2,fun y hy b b0 b1 e=>?_⟩
 ·show (ns c.aB.length).filter _=_
  apply List.filter_congr
  intro z hz
  rw [Bool.eq_iff_iff,By,rW]
  simp only [beq_iff_eq]
  exact ⟨fun h=>⟨ez.1 hz,h⟩,fun h=>h.2⟩
 ·have hy:=rW.1 hy
  have c1:=H.cell y b hy.1.1 hy.1.2 b0 b1 e
  exact rW.2 ⟨⟨c1.1,c1.2.1⟩,by rw [c1.2.2.1]; exact hy.2⟩
end
end Go.Proofs.YtcnehblmgfbfoaaGreat
namespace Go.Li
open Go
section
variable {S S1 R α:Type} {body:S1→Option (Out S1 R)}
end
end Go.Li
namespace Go.Proofs.YtcnehblmgfbfoaaGreat
open Go Go.Li
def put (p:Int→List Int→Bool) (x:Int) (s:List Int):Int→List Int→Bool:=fun y t=>p y t || (y == x && t == s)
structure Tab (c:aD) (ls:List (List (List Int))):Prop where
 cat:gu c
 lists:Ju c c.aA.toNat ls
namespace Tab
variable {c:aD} {ls:List (List (List Int))} (T:Tab c ls)
include T
theorem len:(ls.length:Int)=c.aA:=by have h1:=T.lists.len; have h2:=T.cat.o0; omega
theorem sv {x:Int} (h0:0≤x) (h1:x < ls.length):xA c x (gl ls x):=T.lists.sv T.cat h0 (by have:=T.lists.len; omega)
theorem mem {x:Int} (h0:0≤x) (h1:x < ls.length) {s:List Int}:s∈gl ls x↔Sv c x s:=Qh T.cat (T.sv h0 h1) s
theorem nodup {x:Int} (h0:0≤x) (h1:x < ls.length):(gl ls x).Nodup:=(T.sv h0 h1).nodup
theorem fr {a:Int} (a0:0≤a) (a1:a < c.aB.length):0≤gi c.aB a∧gi c.aB a < ls.length:=by have:=T.cat.fr a0 a1; rw [← T.len] at this; exact this
theorem to {a:Int} (a0:0≤a) (a1:a < c.aB.length):0≤gi c.To a∧gi c.To a < ls.length:=by have:=T.cat.to a0 a1; rw [← T.len] at this; exact this
theorem out {x:Int} (h0:0≤x) (h1:x < ls.length):rm c x∈gl ls x:=(T.mem h0 h1).2 (TL T.cat)
theorem arr {x:Int} (h0:0≤x) (h1:x < ls.length) {s:List Int} (hs:s∈gl ls x) {a:Int} (ha:a∈s):0≤a∧a < c.aB.length:=((T.mem h0 h1).1 hs).arr a ha
end Tab
def TM (c:aD) (p:Int→List Int→Bool) (s t:List Int):Bool:=!(s.any fun a=>!(p (gi c.To a) (O7 c a t)))
structure aeT (c:aD) (ls:List (List (List Int))) (q:Int→List Int→Bool):Prop where
 top:∀ x:Int,0≤x→x < ls.length→q x (rm c x)=true
 arrow:∀ a s:_,0≤a→a < (c.aB.length:Int)→s∈gl ls (gi c.aB a)→q (gi c.aB a) s=true→q (gi c.To a) (O7 c a s)=true
 loc:∀ x:Int,0≤x→x < ls.length→∀ s∈gl ls x,∀ t∈gl ls x,q x s=true→TM c q s t=true→q x t=true
section
variable {c:aD} {ls:List (List (List Int))} (T:Tab c ls) {p:Int→List Int→Bool}
include T
end
end Go.Proofs.YtcnehblmgfbfoaaGreat
namespace Go.Proofs.YtcnehblmgfbfoaaGreat
open Go Go.Li
def Vp (ls:List (List (List Int))):List (Int×List Int):=(ns ls.length).flatMap fun x=>(gl ls x).map fun s=>(x,s)
def E6 (ls:List (List (List Int))) (p:Int→List Int→Bool):Nat:=(Vp ls).countP fun z=>p z.1 z.2
def Le (ls:List (List (List Int))) (p q:Int→List Int→Bool):Prop:=∀ y:Int,0≤y→y < ls.length→∀ t∈gl ls y,p y t=true→q y t=true
theorem Le.tr {ls:List (List (List Int))} {p q r:Int→List Int→Bool} (h:Le ls p q) (g:Le ls q r):Le ls p r:=fun y h0 h1 t ht hp=>g y h0 h1 t ht (h y h0 h1 t ht hp)
theorem Le.put {ls:List (List (List Int))} {p:Int→List Int→Bool} {x:Int} {s:List Int}:Le ls p (put p x s):=fun y _ _ t _ h=>by
 show (p y t || _)=true
 rw [h]; rfl
end Go.Proofs.YtcnehblmgfbfoaaGreat
namespace Go.Proofs.YtcnehblmgfbfoaaGreat
open Go Go.Li
section
variable {c:aD} {ls:List (List (List Int))} (T:Tab c ls) {p:Int→List Int→Bool}
include T
end
end Go.Proofs.YtcnehblmgfbfoaaGreat
namespace Go.Proofs.YtcnehblmgfbfoaaGreat
open Go Go.Li
section
end
end Go.Proofs.YtcnehblmgfbfoaaGreat
namespace Go.Proofs.YtcnehblmgfbfoaaGreat
open Go Go.Li
end Go.Proofs.YtcnehblmgfbfoaaGreat
namespace Go.Proofs.YtcnehblmgfbfoaaGreat
open Go Go.Li
section
variable {c:aD} {ls:List (List (List Int))} (T:Tab c ls) {p q:Int→List Int→Bool}
include T
end
end Go.Proofs.YtcnehblmgfbfoaaGreat
namespace Go.Proofs.YtcnehblmgfbfoaaGreat
open Go Go.Li
section
variable {c:aD} (H:gu c)
include H
end
end Go.Proofs.YtcnehblmgfbfoaaGreat
namespace Go.Proofs.YtcnehblmgfbfoaaGreat
open Go Go.Li
def ny (c d:aD):Bool:=c.aA == d.aA && (c.aB == d.aB && (c.To == d.To && (c.aF == d.aF && c.aC == d.aC)))
theorem rP {c d:aD}:ny c d=true↔c=d:=by
 unfold ny
 simp only [Bool.and_eq_true,beq_iff_eq]
 constructor
 ·rintro ⟨h1,h2,h3,h4,h5⟩
  cases c; cases d
  dsimp only at h1 h2 h3 h4 h5
  rw [h1,h2,h3,h4,h5]
 ·rintro rfl; exact ⟨rfl,rfl,rfl,rfl,rfl⟩
theorem AO {c d:aD} (h:dv c):jP c d=some (ny c d):=by
 obtain ⟨h1,h2,h3,h4,h5⟩:=h
 have e5:mW c.aC d.aC=some (c.aC == d.aC):=Qd _ _ (by omega) (fun z hz=>by have:=h5 z hz; omega)
 unfold jP ny
 cases c.aA == d.aA with
 | false=>rfl
 | true=>
  rw [cond_true,Bz _ _ (by omega),aE]
  cases c.aB == d.aB with
  | false=>rfl
  | true=>
   rw [cond_true,Bz _ _ (by omega),aE]
   cases c.To == d.To with
   | false=>rfl
   | true=>
    rw [cond_true,Bz _ _ (by omega),aE]
    cases c.aF == d.aF with
    | false=>rfl
    | true=>rw [cond_true,e5]; rfl
theorem NM:∀ {x y:List (List Int)},x.length=y.length→(x == y) = !((x.zip y).any fun z=>!(z.1 == z.2)):=by
 intro x
 induction x with
 | nil=>intro y h; cases y with
  | nil=>rfl
  | cons b y=>simp at h
 | cons a x ih=>
  intro y h
  cases y with
  | nil=>simp at h
  | cons b y=>
   have h':x.length=y.length:=by simpa using h
   rw [List.zip_cons_cons,List.any_cons,Bool.not_or,Bool.not_not,← ih h']; rfl
theorem wY {c d:aD} (h:dv c):eI c d=some (ny c d):=by
 obtain ⟨h1,h2,h3,h4,h5⟩:=h
 unfold eI ny
 cases e1:c.aA == d.aA with
 | false=>rw [show (c.aA != d.aA)=true by unfold bne; rw [e1]; rfl]; rfl
 | true=>
  rw [show (c.aA != d.aA)=false by unfold bne; rw [e1]; rfl,cond_false,vX _ _ (by omega),aE]
  cases c.aB == d.aB with
  | false=>rfl
  | true=>
   rw [Bool.not_true,cond_false,vX _ _ (by omega),aE]
   cases c.To == d.To with
   | false=>rfl
   | true=>
    rw [Bool.not_true,cond_false,vX _ _ (by omega),aE]
    cases c.aF == d.aF with
    | false=>rfl
    | true=>
     rw [Bool.not_true,cond_false,aE]
     simp only [Bool.true_and]
     by_cases hl:c.aC.length=d.aC.length
     ·rw [qM (by omega),cond_false,NM hl]
      refine (congrArg an (ks (c.aC.zip d.aC) (fun z=>!(z.1 == z.2)) (fun i=>(i:Int)) rfl ?_ ?_ (e:=((c.aC.zip d.aC).length:Int)) (y:=false) ?_)).trans ?_
      ·intro i z hz hp
       obtain ⟨z1,z2⟩:=z
       obtain ⟨g1,g2⟩:=List.getElem?_zip_eq_some.1 hz
       have hi:=bg g1
       have:=h5 _ (List.mem_of_getElem? g1)
       unfold fT
       rw [au (by omega),cond_true,bw,g1,aE,bw,g2,aE,vX _ _ (by omega),aE]
       rw [show (!(z1 == z2))=false from hp,cond_false,bD (by omega)]
      ·intro i z hz hp
       obtain ⟨z1,z2⟩:=z
       obtain ⟨g1,g2⟩:=List.getElem?_zip_eq_some.1 hz
       have hi:=bg g1
       have:=h5 _ (List.mem_of_getElem? g1)
       unfold fT
       rw [au (by omega),cond_true,bw,g1,aE,bw,g2,aE,vX _ _ (by omega),aE]
       rw [show (!(z1 == z2))=true from hp,cond_true]
      ·unfold fT
       rw [List.length_zip,← hl,Nat.min_self,ba (by omega),cond_false]
      ·cases (c.aC.zip d.aC).any fun z=>!(z.1 == z.2) <;> rfl
     ·rw [rQ (by omega)]
      have:(c.aC == d.aC)=false:=rM fun h=>hl (by rw [h])
      rw [this]; rfl
end Go.Proofs.YtcnehblmgfbfoaaGreat
namespace Go.Proofs.YtcnehblmgfbfoaaGreat
open Go Go.Li
theorem yx {S R:Type} {body:Int→Option (Out Int R)} {k:Nat} {f:Int→Option (Out S R)} {n:Nat} (p:Int→Bool) {y:R}
  (h:∀ i:Nat,i < n→body (i:Int)=bif p i then some (.ret y) else some (.norm ((i+1:Nat):Int))) (last:body (n:Int)=some (.exit k (n:Int))) :
  ah (ab k (aj body (0:Int))) f=bif (ns n).any p then some (.ret y) else f n:=by
 refine (ks (ns n) p (fun i=>(i:Int)) rfl ?_ ?_ (e:=(n:Int)) (y:=y) ?_).trans ?_
 ·intro i x hx hp; obtain ⟨rfl,hi⟩:=fl hx; rw [h i hi,hp]; rfl
 ·intro i x hx hp; obtain ⟨rfl,hi⟩:=fl hx; rw [h i hi,hp]; rfl
 ·rw [cA]; exact last
 ·cases (ns n).any p <;> rfl
theorem qQ {α:Type} {b:Bool} {x y:α}:(bif b then some x else some y)=some (bif b then x else y):=by cases b <;> rfl
theorem xB {a b:Bool}:(bif a then true else b)=(a || b):=by cases a <;> rfl
theorem Gs {a b:Bool}:(bif a then b else false)=(a && b):=by cases a <;> rfl
theorem jf {n:Nat} {p:Int→Bool}:(ns n).any p=false↔∀ i:Int,0≤i→i < n→p i=false:=by
 rw [List.any_eq_false]
 exact ⟨fun h i h0 h1=>by simpa using h i (ez.2 ⟨h0,h1⟩),fun h i hi=>by simp [h i (ez.1 hi).1 (ez.1 hi).2]⟩
namespace SFHead
end SFHead
end Go.Proofs.YtcnehblmgfbfoaaGreat
namespace Go.Proofs.YtcnehblmgfbfoaaGreat
open Go Go.Li
namespace SFShape
end SFShape
end Go.Proofs.YtcnehblmgfbfoaaGreat
namespace Go.Proofs.YtcnehblmgfbfoaaGreat
open Go Go.Li
namespace SMShape
end SMShape
def thenS (a b:List Int):List Int:=bj a.length fun i=>gi b (gi a i)
theorem Gt (a b:List Int) (ha:a.length≤1048576) (hb:∀ x∈a,0≤x∧x < b.length):mP a b=some (thenS a b):=by
 unfold mP
 rw [uK (by omega) (by omega),aE]
 have hl:(thenS a b).length=a.length:=aW _ _
 refine (congrArg an (jj (ns a.length) (fun i=>((i:Int),(thenS a b).take i++List.replicate (a.length - i) (0:Int))) (by simp) ?_ (e:=((a.length:Int),thenS a b)) ?_)).trans rfl
 ·intro i x hx
  obtain ⟨rfl,hi⟩:=fl hx
  have hg:(thenS a b)[i]? = some (gi b (gi a i)):=ja _ hi
  have hm:=hb _ (gw (l:=a) (j:=(i:Int)) (by omega) (by omega))
  have hc:=rO (thenS a b) (0:Int) hg
  have Lk:=get_copy (thenS a b) (0:Int) hg
  rw [hl] at hc Lk
  show jR a b (i:Int) _=_
  unfold jR
  rw [au (by omega),cond_true,bV (by omega) (by omega),aE,bV hm.1 hm.2,aE,bw,Lk,aE,bD (by omega),Int.toNat_natCast,hc]
 ·rw [cA]
  show jR a b _ _=_
  unfold jR
  rw [ba (by omega),cond_false,Nat.sub_self,List.take_of_length_le (by omega)]
  simp
end Go.Proofs.YtcnehblmgfbfoaaGreat
