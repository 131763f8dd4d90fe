/- All sieves at an object: the reference's search in depth and the program's search in breadth find the same list. No condition beside those that each theorem names. -/
import Derived.Test.YtjdkifckhidlbaaGreatPh
import Derived.Test.YtjdkifckhidlbaaGreatPa
namespace Go.Li
open Go
end Go.Li
namespace Go.Proofs.YtjdkifckhidlbaaGreat
open Go Go.Li
set_option linter.unusedSectionVars false
structure Sv (c:aI) (x:Int) (s:List Int):Prop where
 form:s=(ns c.aH.length).filter (hasB s)
 src:∀ y∈s,gi c.aH y=x
 closed:∀ y∈s,∀ b:Int,0≤b→b < c.aH.length→gi c.To y=gi c.aH b→gk c.aE y b∈s
theorem Sv.arr {c:aI} {x:Int} {s:List Int} (h:Sv c x s):OJ c s:=fun a ha=>by
 rw [h.form] at ha; exact gq.1 (List.mem_filter.1 ha).1
theorem Sv.len {c:aI} {x:Int} {s:List Int} (h:Sv c x s):s.length≤c.aH.length:=by
 rw [h.form]; exact Nat.le_trans (List.length_filter_le _ _) (by rw [dC]; exact Nat.le_refl _)
theorem Sv.nil (c:aI) (x:Int):Sv c x []:=⟨by rw [List.filter_eq_nil_iff.2]; intro a _; simp [hasB],fun _ h=>(nomatch h),fun _ h=>(nomatch h)⟩
theorem s6 {c:aI} {A:List Int} {a:Int}:a∈p9 c A↔(0≤a∧a < c.aH.length)∧∃ y∈A,∃ b:Int,(0≤b∧b < c.aH.length)∧gi c.To y=gi c.aH b∧gk c.aE y b=a:=by
 unfold p9 SN
 rw [List.mem_filter,gq]
 simp only [List.any_eq_true,Bool.and_eq_true,beq_iff_eq]
 constructor
 ·rintro ⟨h,y,hy,b,hb,e1,e2⟩; exact ⟨h,y,hy,b,gq.1 hb,e1,e2⟩
 ·rintro ⟨h,y,hy,b,hb,e1,e2⟩; exact ⟨h,y,hy,b,gq.2 hb,e1,e2⟩
theorem JU {n:Nat} {p:Int→Bool}:(ns n).filter p=(ns n).filter (hasB ((ns n).filter p)):=by
 apply List.filter_congr
 intro a ha
 rw [Bool.eq_iff_iff,DR,List.mem_filter]
 exact ⟨fun h=>⟨ha,h⟩,fun h=>h.2⟩
section
variable {c:aI} (H:nr c) {x:Int}
include H
theorem GG {A:List Int} (hA:OJ c A):∀ y∈A,y∈p9 c A:=fun y hy=>by
 have h:=hA y hy
 have ht:=H.to h.1 h.2
 have hi:=H.id ht.1 ht.2
 exact s6.2 ⟨h,y,hy,_,hi,(H.vf _ ht.1 ht.2).symm,H.C0 y h.1 h.2⟩
theorem Re {A:List Int} (hA:OJ c A) (hs:∀ y∈A,gi c.aH y=x):Sv c x (p9 c A):=by
 refine ⟨JU,fun y hy=>?_,fun z hz b b0 b1 e=>?_⟩
 ·obtain ⟨_,z,hz,b,hb,e1,e2⟩:=s6.1 hy
  have h:=hA z hz
  rw [← e2,(H.cell z b h.1 h.2 hb.1 hb.2 e1).2.2.1]
  exact hs z hz
 ·obtain ⟨Ik,y,hy,a,ha,e1,e2⟩:=s6.1 hz
  have h:=hA y hy
  have c1:=H.cell y a h.1 h.2 ha.1 ha.2 e1
  have e3:gi c.To a=gi c.aH b:=by rw [← c1.2.2.2,e2]; exact e
  have c2:=H.cell a b ha.1 ha.2 b0 b1 e3
  have c3:=H.cell z b Ik.1 Ik.2 b0 b1 e
  refine s6.2 ⟨⟨c3.1,c3.2.1⟩,y,hy,gk c.aE a b,⟨c2.1,c2.2.1⟩,by rw [c2.2.2.1]; exact e1,?_⟩
  rw [← H.assoc y a b h.1 h.2 ha.1 ha.2 b0 b1 e1 e3,e2]
def xE (c:aI) (s:List Int) (a:Int):List Int:=p9 c (s++[a])
theorem I5 {s:List Int} {a:Int} (hs:Sv c x s) (ha:a∈uC c x):OJ c (s++[a])∧∀ y∈s++[a],gi c.aH y=x:=by
 have h:=uS.1 ha
 refine ⟨fun y hy=>?_,fun y hy=>?_⟩
 ·rcases List.mem_append.1 hy with h' | h'
  ·exact hs.arr y h'
  ·rw [List.mem_singleton.1 h']; exact h.1
 ·rcases List.mem_append.1 hy with h' | h'
  ·exact hs.src y h'
  ·rw [List.mem_singleton.1 h']; exact h.2
theorem Ui {s:List Int} {a:Int} (hs:Sv c x s) (ha:a∈uC c x):Sv c x (xE c s a):=
 Re H (I5 H hs ha).1 (I5 H hs ha).2
theorem Rf {s:List Int} (h:Reaches (uC c x) (xE c) [] s):Sv c x s:=by
 induction h with
 | base=>exact Sv.nil c x
 | step _ ha ih=>exact Ui H ih ha
structure Ai (c:aI) (x:Int) (L:List (List Int)):Prop where
 mem:∀ s,s∈L↔Reaches (uC c x) (xE c) [] s
 nodup:L.Nodup
 len:L.length≤16
theorem Ai.sv {L:List (List Int)} (h:Ai c x L):∀ s∈L,Sv c x s:=fun s hs=>Rf H ((h.mem s).1 hs)
inductive Found (c:aI) (x:Int):Option (List (List Int))→Prop
 | SM (F:List (List Int)) (h:zf (uC c x) (xE c) [] F) (hl:F.length≤16):Found c x (some (F.mergeSort Sw))
 | many (h:Mt (uC c x) (xE c) 16 []):Found c x none
end
end Go.Proofs.YtjdkifckhidlbaaGreat
namespace Go.Li
open Go
def cn {β:Type} (n:Nat) (g:Int→β):List β:=(ns n).map g
theorem cL {β:Type} (n:Nat) (g:Int→β):(cn n g).length=n:=by simp [cn,dC]
theorem mq {β:Type} (n:Nat) (g:Int→β):cn (n+1) g=cn n g++[g n]:=by
 unfold cn ns
 rw [List.range_succ]; simp
theorem su {β:Type} {n i:Nat} (g:Int→β) (h:i < n):(cn n g)[i]? = some (g i):=by
 unfold cn ns
 simp [h]
theorem pw {β:Type} {n:Nat} {g:Int→β} {y:β}:y∈cn n g↔∃ x:Int,(0≤x∧x < n)∧g x=y:=by
 unfold cn; simp only [List.mem_map,gq]
theorem vP {β:Type} {n:Nat} {g h:Int→β} (e:∀ i:Nat,i < n→g i=h i):cn n g=cn n h:=by
 apply List.map_congr_left
 intro x hx
 have:=gq.1 hx
 have:=e x.toNat (by omega)
 rwa [Int.toNat_of_nonneg (by omega)] at this
theorem wA {S S1 R β:Type} {body:S1→Option (Out S1 R)} {k:Nat} {f:S1→Option (Out S R)} {I6:S1} (n:Nat) (g:Int→β) (pk:List β→Nat→S1) (e0:pk [] 0=I6)
  (step:∀ i acc,i < n→acc.length=i→body (pk acc i)=some (.norm (pk (acc++[g i]) (i+1)))) (last:∀ acc,acc.length=n→body (pk acc n)=some (.exit k (pk acc n))) :
  ai (af k (aj body I6)) f=f (pk (cn n g) n):=by
 rw [← e0]
 refine uo (ns n) (fun i=>pk (cn i g) i) rfl ?_ ?_
 ·intro i x hx
  obtain ⟨rfl,hi⟩:=iu hx
  rw [step i _ hi (cL i g),mq]
 ·rw [dC]; exact last _ (cL n g)
def gl {α:Type} (l:List (List α)) (j:Int):List α:=l.getD j.toNat []
theorem D1 {α:Type} {l:List (List α)} {i:Nat} (h:i < l.length):l[i]? = some (gl l i):=by
 unfold gl; rw [List.getD_eq_getElem?_getD,Int.toNat_natCast,List.getElem?_eq_getElem h]; rfl
theorem KP {α β:Type} (l:List (List α)) (g:List α→β):cn l.length (fun i=>g (gl l i))=l.map g:=by
 apply List.ext_getElem?
 intro i
 by_cases h:i < l.length
 ·rw [su _ h,List.getElem?_map,D1 h]; rfl
 ·rw [List.getElem?_eq_none (by rw [cL]; omega),List.getElem?_eq_none (by rw [List.length_map]; omega)]
end Go.Li
namespace Go.Proofs.YtjdkifckhidlbaaGreat
open Go Go.Li
set_option linter.unusedSectionVars false
theorem ee (l:List Int) (hl:l.length≤1048576):dE l=some l:=by
 unfold dE
 rw [dU (by simp; omega) (by simp; omega),aG,List.nil_append]; rfl
theorem I7 (l:List (List Int)) (hl:l.length≤1048576) (hr:∀ y∈l,y.length≤1048576):mO l=some l:=by
 unfold mO
 refine (congrArg aq (wA l.length (gr l) (fun acc i=>(acc,(i:Int))) rfl ?_ ?_)).trans ?_
 ·intro i acc hi ha
  show kS l acc i=_
  unfold kS
  rw [bc (by omega),cond_true,mm (by omega) (by omega),aG,ee _ (hr _ (nn (by omega) (by omega))),aG,dU (by omega) (by omega),aG,cI (by omega)]
 ·intro acc ha
  show kS l acc _=_
  unfold kS
  rw [br (by omega),cond_false]
 ·show some (cn l.length (gr l))=_
  have:=KP l (fun x=>x)
  rw [List.map_id'] at this
  exact congrArg some this
theorem yD {c:aI} (h:fx c):lA c=some c:=by
 unfold lA
 rw [ee _ h.f,aG,ee _ h.t,aG,ee _ h.i,aG,I7 _ h.k h.r,aG]; rfl
theorem I8 {c:aI} (h:fx c):jE c=some c:=by
 have h1:∀ l:List Int,l.length≤1048576→gU l=some l:=fun l hl=>ee l hl
 have hk:=h.k
 unfold jE
 rw [h1 _ h.f,aG,h1 _ h.t,aG,h1 _ h.i,aG]
 have:qK c.aE=some c.aE:=by
  unfold qK
  rw [Hb (by omega) (by omega),aG]
  refine (congrArg aq (wA c.aE.length (gr c.aE) (fun acc i=>(acc,(i:Int))) rfl ?_ ?_)).trans ?_
  ·intro i acc hi ha
   show lM c.aE acc i=_
   unfold lM
   rw [bc (by omega),cond_true,mm (by omega) (by omega),aG,h1 _ (h.r _ (nn (by omega) (by omega))),aG,dU (by omega) (by omega),aG,cI (by omega)]
  ·intro acc ha
   show lM c.aE acc _=_
   unfold lM
   rw [br (by omega),cond_false]
  ·have:=KP c.aE (fun x=>x)
   rw [List.map_id'] at this
   exact congrArg some this
 rw [this,aG]; rfl
structure Mx (c:aI) (k:Nat) (ls:List (List (List Int))):Prop where
 len:ls.length=k
 found:∀ i:Nat,i < k→Found c i (some (gl ls i))
section
variable {c:aI} (H:nr c)
include H
theorem Rh {x:Int} {L:List (List Int)} (h:Found c x (some L)):Ai c x L:=by
 cases h with
 | SM F h hl=>
  have hp:=List.mergeSort_perm F Sw
  exact ⟨fun s=>by rw [hp.mem_iff]; exact h.mem s,hp.nodup_iff.2 h.nodup,by rw [hp.length_eq]; exact hl⟩
theorem Mx.sv {k:Nat} {ls:List (List (List Int))} (h:Mx c k ls) {i:Int} (h0:0≤i) (h1:i < k):Ai c i (gl ls i):=by
 have:=h.found i.toNat (by omega)
 rw [Int.toNat_of_nonneg h0] at this
 exact Rh H this
end
end Go.Proofs.YtjdkifckhidlbaaGreat
namespace Go.Proofs.YtjdkifckhidlbaaGreat
open Go Go.Li
set_option linter.unusedSectionVars false
section
variable {c:aI} (H:nr c)
include H
end
end Go.Proofs.YtjdkifckhidlbaaGreat
namespace Go.Proofs.YtjdkifckhidlbaaGreat
open Go Go.Li
section
variable {c:aI} (H:rL c)
include H
end
section
variable {c:aI} (H:nr c) {x:Int}
include H
theorem OK {A:List Int} {a:Int} (hA:OJ c A):p9 c (p9 c A++[a])=p9 c (A++[a]):=by
 show (ns c.aH.length).filter _=(ns c.aH.length).filter _
 apply List.filter_congr
 intro z hz
 have key:∀ B:List Int,SN c B z=true↔z∈p9 c B:=fun B=>by
  unfold p9; rw [List.mem_filter]; exact ⟨fun h=>⟨hz,h⟩,fun h=>h.2⟩
 rw [Bool.eq_iff_iff,key,key,s6,s6]
 refine and_congr_right fun hz=>⟨?_,?_⟩
 ·rintro ⟨y,hy,b,hb,e1,e2⟩
  rcases List.mem_append.1 hy with hy | hy
  ·obtain ⟨Db,u,hu,b',cg,e3,e4⟩:=s6.1 hy
   have De:=hA u hu
   have c1:=H.cell u b' De.1 De.2 cg.1 cg.2 e3
   have e5:gi c.To b'=gi c.aH b:=by rw [← c1.2.2.2,e4]; exact e1
   have c2:=H.cell b' b cg.1 cg.2 hb.1 hb.2 e5
   exact ⟨u,List.mem_append_left _ hu,gk c.aE b' b,⟨c2.1,c2.2.1⟩,by rw [c2.2.2.1]; exact e3,by rw [← H.assoc u b' b De.1 De.2 cg.1 cg.2 hb.1 hb.2 e3 e5,e4]; exact e2⟩
  ·exact ⟨y,List.mem_append_right _ hy,b,hb,e1,e2⟩
 ·rintro ⟨y,hy,b,hb,e1,e2⟩
  rcases List.mem_append.1 hy with hy | hy
  ·exact ⟨y,List.mem_append_left _ (GG H hA y hy),b,hb,e1,e2⟩
  ·exact ⟨y,List.mem_append_right _ hy,b,hb,e1,e2⟩
theorem JV:∀ (n:Nat) (A:List Int),A.length=n→(∀ a∈A,a∈uC c x)→Reaches (uC c x) (xE c) [] (p9 c A):=by
 intro n
 induction n with
 | zero=>
  intro A hA _
  obtain rfl:A=[]:=List.length_eq_zero_iff.1 hA
  have:p9 c []=[]:=by unfold p9; rw [List.filter_eq_nil_iff]; intro a _; simp [SN]
  rw [this]; exact .base
 | succ n ih=>
  intro A hA hs
  have o7:A≠[]:=by rintro rfl; cases hA
  have hd:=List.dropLast_concat_getLast o7
  have hl:A.getLast o7∈A:=List.getLast_mem o7
  have cb:∀ a∈A.dropLast,a∈uC c x:=fun a ha=>hs a (List.dropLast_subset A ha)
  have h1:=ih A.dropLast (by simp; omega) cb
  have h2:=Reaches.step (step:=xE c) h1 (hs _ hl)
  unfold xE at h2
  rw [OK H (fun a ha=>(uS.1 (cb a ha)).1),hd] at h2
  exact h2
theorem Ri {s:List Int} (h:Sv c x s):Reaches (uC c x) (xE c) [] s:=by
 have h1:=JV H s.length s rfl fun a ha=>uS.2 ⟨h.arr a ha,h.src a ha⟩
 have h2:p9 c s=s:=by
  conv=>rhs; rw [h.form]
  unfold p9
  apply List.filter_congr
  intro z hz
  rw [Bool.eq_iff_iff,DR]
  constructor
  ·intro hc
   have:z∈p9 c s:=List.mem_filter.2 ⟨hz,hc⟩
   obtain ⟨_,y,hy,b,hb,e1,e2⟩:=s6.1 this
   rw [← e2]; exact h.closed y hy b hb.1 hb.2 e1
  ·intro hs
   exact (List.mem_filter.1 (GG H h.arr z hs)).2
 rw [h2] at h1; exact h1
theorem Uk {L:List (List Int)} (h:Ai c x L) (s:List Int):s∈L↔Sv c x s:=⟨h.sv H s,fun hs=>(h.mem s).2 (Ri H hs)⟩
theorem XB:Sv c x (uC c x):=by
 refine ⟨?_,fun y hy=>(uS.1 hy).2,fun y hy b b0 b1 e=>?_⟩
 ·show (ns c.aH.length).filter _=_
  apply List.filter_congr
  intro z hz
  rw [Bool.eq_iff_iff,DR,uS]
  simp only [beq_iff_eq]
  exact ⟨fun h=>⟨gq.1 hz,h⟩,fun h=>h.2⟩
 ·have hy:=uS.1 hy
  have c1:=H.cell y b hy.1.1 hy.1.2 b0 b1 e
  exact uS.2 ⟨⟨c1.1,c1.2.1⟩,by rw [c1.2.2.1]; exact hy.2⟩
end
end Go.Proofs.YtjdkifckhidlbaaGreat
namespace Go.Li
open Go
section
variable {S S1 R α:Type} {body:S1→Option (Out S1 R)}
end
end Go.Li
namespace Go.Proofs.YtjdkifckhidlbaaGreat
open Go Go.Li
def put (p:Int→List Int→Bool) (x:Int) (s:List Int):Int→List Int→Bool:=fun y t=>p y t || (y == x && t == s)
structure Tab (c:aI) (ls:List (List (List Int))):Prop where
 cat:nr c
 lists:Mx c c.aA.toNat ls
namespace Tab
variable {c:aI} {ls:List (List (List Int))} (T:Tab c ls)
include T
theorem len:(ls.length:Int)=c.aA:=by have h1:=T.lists.len; have h2:=T.cat.o0; omega
theorem sv {x:Int} (h0:0≤x) (h1:x < ls.length):Ai c x (gl ls x):=T.lists.sv T.cat h0 (by have:=T.lists.len; omega)
theorem mem {x:Int} (h0:0≤x) (h1:x < ls.length) {s:List Int}:s∈gl ls x↔Sv c x s:=Uk T.cat (T.sv h0 h1) s
theorem nodup {x:Int} (h0:0≤x) (h1:x < ls.length):(gl ls x).Nodup:=(T.sv h0 h1).nodup
theorem fr {a:Int} (a0:0≤a) (a1:a < c.aH.length):0≤gi c.aH a∧gi c.aH a < ls.length:=by have:=T.cat.fr a0 a1; rw [← T.len] at this; exact this
theorem to {a:Int} (a0:0≤a) (a1:a < c.aH.length):0≤gi c.To a∧gi c.To a < ls.length:=by have:=T.cat.to a0 a1; rw [← T.len] at this; exact this
theorem out {x:Int} (h0:0≤x) (h1:x < ls.length):uC c x∈gl ls x:=(T.mem h0 h1).2 (XB T.cat)
theorem arr {x:Int} (h0:0≤x) (h1:x < ls.length) {s:List Int} (hs:s∈gl ls x) {a:Int} (ha:a∈s):0≤a∧a < c.aH.length:=((T.mem h0 h1).1 hs).arr a ha
end Tab
def XC (c:aI) (p:Int→List Int→Bool) (s t:List Int):Bool:=!(s.any fun a=>!(p (gi c.To a) (SP c a t)))
structure ak0 (c:aI) (ls:List (List (List Int))) (q:Int→List Int→Bool):Prop where
 top:∀ x:Int,0≤x→x < ls.length→q x (uC c x)=true
 arrow:∀ a s:_,0≤a→a < (c.aH.length:Int)→s∈gl ls (gi c.aH a)→q (gi c.aH a) s=true→q (gi c.To a) (SP c a s)=true
 loc:∀ x:Int,0≤x→x < ls.length→∀ s∈gl ls x,∀ t∈gl ls x,q x s=true→XC c q s t=true→q x t=true
section
variable {c:aI} {ls:List (List (List Int))} (T:Tab c ls) {p:Int→List Int→Bool}
include T
end
end Go.Proofs.YtjdkifckhidlbaaGreat
namespace Go.Proofs.YtjdkifckhidlbaaGreat
open Go Go.Li
def aaj (ls:List (List (List Int))):List (Int×List Int):=(ns ls.length).flatMap fun x=>(gl ls x).map fun s=>(x,s)
def Ie (ls:List (List (List Int))) (p:Int→List Int→Bool):Nat:=(aaj ls).countP fun z=>p z.1 z.2
def Le (ls:List (List (List Int))) (p q:Int→List Int→Bool):Prop:=∀ y:Int,0≤y→y < ls.length→∀ t∈gl ls y,p y t=true→q y t=true
theorem Le.tr {ls:List (List (List Int))} {p q r:Int→List Int→Bool} (h:Le ls p q) (g:Le ls q r):Le ls p r:=fun y h0 h1 t ht hp=>g y h0 h1 t ht (h y h0 h1 t ht hp)
theorem Le.put {ls:List (List (List Int))} {p:Int→List Int→Bool} {x:Int} {s:List Int}:Le ls p (put p x s):=fun y _ _ t _ h=>by
 show (p y t || _)=true
 rw [h]; rfl
end Go.Proofs.YtjdkifckhidlbaaGreat
namespace Go.Proofs.YtjdkifckhidlbaaGreat
open Go Go.Li
section
variable {c:aI} {ls:List (List (List Int))} (T:Tab c ls) {p:Int→List Int→Bool}
include T
end
end Go.Proofs.YtjdkifckhidlbaaGreat
namespace Go.Proofs.YtjdkifckhidlbaaGreat
open Go Go.Li
section
end
end Go.Proofs.YtjdkifckhidlbaaGreat
namespace Go.Proofs.YtjdkifckhidlbaaGreat
open Go Go.Li
end Go.Proofs.YtjdkifckhidlbaaGreat
namespace Go.Proofs.YtjdkifckhidlbaaGreat
open Go Go.Li
section
variable {c:aI} {ls:List (List (List Int))} (T:Tab c ls) {p q:Int→List Int→Bool}
include T
end
end Go.Proofs.YtjdkifckhidlbaaGreat
namespace Go.Proofs.YtjdkifckhidlbaaGreat
open Go Go.Li
section
variable {c:aI} (H:nr c)
include H
end
end Go.Proofs.YtjdkifckhidlbaaGreat
namespace Go.Proofs.YtjdkifckhidlbaaGreat
open Go Go.Li
def oh (c d:aI):Bool:=c.aA == d.aA && (c.aH == d.aH && (c.To == d.To && (c.aJ == d.aJ && c.aE == d.aE)))
theorem jy {c d:aI}:oh c d=true↔c=d:=by
 unfold oh
 simp only [Bool.and_eq_true,beq_iff_eq]
 constructor
 ·rintro ⟨h1,h2,h3,h4,h5⟩
  cases c; cases d
  dsimp only at h1 h2 h3 h4 h5
  rw [h1,h2,h3,h4,h5]
 ·rintro rfl; exact ⟨rfl,rfl,rfl,rfl,rfl⟩
theorem uH {c d:aI} (h:fx c):kK c d=some (oh c d):=by
 obtain ⟨h1,h2,h3,h4,h5⟩:=h
 have e5:qR c.aE d.aE=some (c.aE == d.aE):=Uh _ _ (by omega) (fun z hz=>by have:=h5 z hz; omega)
 unfold kK oh
 cases c.aA == d.aA with
 | false=>rfl
 | true=>
  rw [cond_true,Bc _ _ (by omega),aG]
  cases c.aH == d.aH with
  | false=>rfl
  | true=>
   rw [cond_true,Bc _ _ (by omega),aG]
   cases c.To == d.To with
   | false=>rfl
   | true=>
    rw [cond_true,Bc _ _ (by omega),aG]
    cases c.aJ == d.aJ with
    | false=>rfl
    | true=>rw [cond_true,e5]; rfl
theorem Rj:∀ {x y:List (List Int)},x.length=y.length→(x == y) = !((x.zip y).any fun z=>!(z.1 == z.2)):=by
 intro x
 induction x with
 | nil=>intro y h; cases y with
  | nil=>rfl
  | cons b y=>simp at h
 | cons a x ih=>
  intro y h
  cases y with
  | nil=>simp at h
  | cons b y=>
   have h':x.length=y.length:=by simpa using h
   rw [List.zip_cons_cons,List.any_cons,Bool.not_or,Bool.not_not,← ih h']; rfl
theorem tE {c d:aI} (h:fx c):fN c d=some (oh c d):=by
 obtain ⟨h1,h2,h3,h4,h5⟩:=h
 unfold fN oh
 cases e1:c.aA == d.aA with
 | false=>rw [show (c.aA != d.aA)=true by unfold bne; rw [e1]; rfl]; rfl
 | true=>
  rw [show (c.aA != d.aA)=false by unfold bne; rw [e1]; rfl,cond_false,yC _ _ (by omega),aG]
  cases c.aH == d.aH with
  | false=>rfl
  | true=>
   rw [Bool.not_true,cond_false,yC _ _ (by omega),aG]
   cases c.To == d.To with
   | false=>rfl
   | true=>
    rw [Bool.not_true,cond_false,yC _ _ (by omega),aG]
    cases c.aJ == d.aJ with
    | false=>rfl
    | true=>
     rw [Bool.not_true,cond_false,aG]
     simp only [Bool.true_and]
     by_cases hl:c.aE.length=d.aE.length
     ·rw [sr (by omega),cond_false,Rj hl]
      refine (congrArg aq (mg (c.aE.zip d.aE) (fun z=>!(z.1 == z.2)) (fun i=>(i:Int)) rfl ?_ ?_ (e:=((c.aE.zip d.aE).length:Int)) (y:=false) ?_)).trans ?_
      ·intro i z hz hp
       obtain ⟨z1,z2⟩:=z
       obtain ⟨g1,g2⟩:=List.getElem?_zip_eq_some.1 hz
       have hi:=cj g1
       have:=h5 _ (List.mem_of_getElem? g1)
       unfold jR
       rw [bc (by omega),cond_true,di,g1,aG,di,g2,aG,yC _ _ (by omega),aG]
       rw [show (!(z1 == z2))=false from hp,cond_false,cI (by omega)]
      ·intro i z hz hp
       obtain ⟨z1,z2⟩:=z
       obtain ⟨g1,g2⟩:=List.getElem?_zip_eq_some.1 hz
       have hi:=cj g1
       have:=h5 _ (List.mem_of_getElem? g1)
       unfold jR
       rw [bc (by omega),cond_true,di,g1,aG,di,g2,aG,yC _ _ (by omega),aG]
       rw [show (!(z1 == z2))=true from hp,cond_true]
      ·unfold jR
       rw [List.length_zip,← hl,Nat.min_self,br (by omega),cond_false]
      ·cases (c.aE.zip d.aE).any fun z=>!(z.1 == z.2) <;> rfl
     ·rw [sn (by omega)]
      have:(c.aE == d.aE)=false:=tj fun h=>hl (by rw [h])
      rw [this]; rfl
end Go.Proofs.YtjdkifckhidlbaaGreat
namespace Go.Proofs.YtjdkifckhidlbaaGreat
open Go Go.Li
theorem ud {S R:Type} {body:Int→Option (Out Int R)} {k:Nat} {f:Int→Option (Out S R)} {n:Nat} (p:Int→Bool) {y:R}
  (h:∀ i:Nat,i < n→body (i:Int)=bif p i then some (.ret y) else some (.norm ((i+1:Nat):Int))) (last:body (n:Int)=some (.exit k (n:Int))) :
  ai (af k (aj body (0:Int))) f=bif (ns n).any p then some (.ret y) else f n:=by
 refine (mg (ns n) p (fun i=>(i:Int)) rfl ?_ ?_ (e:=(n:Int)) (y:=y) ?_).trans ?_
 ·intro i x hx hp; obtain ⟨rfl,hi⟩:=iu hx; rw [h i hi,hp]; rfl
 ·intro i x hx hp; obtain ⟨rfl,hi⟩:=iu hx; rw [h i hi,hp]; rfl
 ·rw [dC]; exact last
 ·cases (ns n).any p <;> rfl
theorem aeV {S R:Type} {body:Int→Option (Out Int R)} {k:Nat} {f:Int→Option (Out S R)} {n:Nat} (p:Int→Bool) (G:R→Prop)
  (h:∀ i:Nat,i < n→(p i=false∧body (i:Int)=some (.norm ((i+1:Nat):Int)))∨(p i=true∧∃ y,body (i:Int)=some (.ret y)∧G y)) (last:body (n:Int)=some (.exit k (n:Int))) :
  ((ns n).any p=false∧ai (af k (aj body (0:Int))) f=f n)∨((ns n).any p=true∧∃ y,ai (af k (aj body (0:Int))) f=some (.ret y)∧G y):=by
 refine (yz (ns n) p G (fun i=>(i:Int)) rfl ?_ ?_ (e:=(n:Int)) (by rw [dC]; exact last)).elim (fun h=>.inr h) (fun h=>.inl h)
 ·intro i x hx hp
  obtain ⟨rfl,hi⟩:=iu hx
  rcases h i hi with ⟨_,h⟩ | ⟨h,_⟩
  ·exact h
  ·rw [hp] at h; cases h
 ·intro i x hx hp
  obtain ⟨rfl,hi⟩:=iu hx
  rcases h i hi with ⟨h,_⟩ | ⟨_,h⟩
  ·rw [hp] at h; cases h
  ·exact h
theorem r8 {α:Type} {b:Bool} {x y:α}:(bif b then some x else some y)=some (bif b then x else y):=by cases b <;> rfl
theorem xI {a b:Bool}:(bif a then true else b)=(a || b):=by cases a <;> rfl
theorem DS {a b:Bool}:(bif a then b else false)=(a && b):=by cases a <;> rfl
theorem ei {n:Nat} {p:Int→Bool}:(ns n).any p=false↔∀ i:Int,0≤i→i < n→p i=false:=by
 rw [List.any_eq_false]
 exact ⟨fun h i h0 h1=>by simpa using h i (gq.2 ⟨h0,h1⟩),fun h i hi=>by simp [h i (gq.1 hi).1 (gq.1 hi).2]⟩
namespace SFHead
end SFHead
end Go.Proofs.YtjdkifckhidlbaaGreat
namespace Go.Proofs.YtjdkifckhidlbaaGreat
open Go Go.Li
namespace SFShape
end SFShape
end Go.Proofs.YtjdkifckhidlbaaGreat
namespace Go.Proofs.YtjdkifckhidlbaaGreat
open Go Go.Li
namespace SMShape
end SMShape
def thenS (a b:List Int):List Int:=cn a.length fun i=>gi b (gi a i)
theorem Ja (a b:List Int) (ha:a.length≤1048576) (hb:∀ x∈a,0≤x∧x < b.length):qL a b=some (thenS a b):=by
 unfold qL
 rw [Hb (by omega) (by omega),aG]
 have hl:(thenS a b).length=a.length:=cL _ _
 refine (congrArg aq (uo (ns a.length) (fun i=>((i:Int),(thenS a b).take i++List.replicate (a.length - i) (0:Int))) (by simp) ?_ (e:=((a.length:Int),thenS a b)) ?_)).trans rfl
 ·intro i x hx
  obtain ⟨rfl,hi⟩:=iu hx
  have hg:(thenS a b)[i]? = some (gi b (gi a i)):=su _ hi
  have hm:=hb _ (fj (l:=a) (j:=(i:Int)) (by omega) (by omega))
  have hc:=I0 (thenS a b) (0:Int) hg
  have OL:=get_copy (thenS a b) (0:Int) hg
  rw [hl] at hc OL
  show mV a b (i:Int) _=_
  unfold mV
  rw [bc (by omega),cond_true,cH (by omega) (by omega),aG,cH hm.1 hm.2,aG,di,OL,aG,cI (by omega),Int.toNat_natCast,hc]
 ·rw [dC]
  show mV a b _ _=_
  unfold mV
  rw [br (by omega),cond_false,Nat.sub_self,List.take_of_length_le (by omega)]
  simp
end Go.Proofs.YtjdkifckhidlbaaGreat
