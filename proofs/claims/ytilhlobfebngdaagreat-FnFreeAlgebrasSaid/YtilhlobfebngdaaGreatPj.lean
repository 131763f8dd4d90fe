/- All sieves at an object: the reference's search in depth and the program's search in breadth find the same list. No condition beside those that each theorem names. -/
import Derived.Test.YtilhlobfebngdaaGreatPh
import Derived.Test.YtilhlobfebngdaaGreatPa
namespace Go.Li
open Go
end Go.Li
namespace Go.Proofs.YtilhlobfebngdaaGreat
open Go Go.Li
set_option linter.unusedSectionVars false
structure Sv (c:aI) (x:Int) (s:List Int):Prop where
 form:s=(ns c.aG.length).filter (hasB s)
 src:∀ y∈s,gi c.aG y=x
 closed:∀ y∈s,∀ b:Int,0≤b→b < c.aG.length→gi c.To y=gi c.aG b→gk c.aE y b∈s
theorem Sv.arr {c:aI} {x:Int} {s:List Int} (h:Sv c x s):O7 c s:=fun a ha=>by
 rw [h.form] at ha; exact fj.1 (List.mem_filter.1 ha).1
theorem Sv.len {c:aI} {x:Int} {s:List Int} (h:Sv c x s):s.length≤c.aG.length:=by
 rw [h.form]; exact Nat.le_trans (List.length_filter_le _ _) (by rw [cT]; exact Nat.le_refl _)
theorem Sv.nil (c:aI) (x:Int):Sv c x []:=⟨by rw [List.filter_eq_nil_iff.2]; intro a _; simp [hasB],fun _ h=>(nomatch h),fun _ h=>(nomatch h)⟩
theorem rh {c:aI} {A:List Int} {a:Int}:a∈nw c A↔(0≤a∧a < c.aG.length)∧∃ y∈A,∃ b:Int,(0≤b∧b < c.aG.length)∧gi c.To y=gi c.aG b∧gk c.aE y b=a:=by
 unfold nw Tp
 rw [List.mem_filter,fj]
 simp only [List.any_eq_true,Bool.and_eq_true,beq_iff_eq]
 constructor
 ·rintro ⟨h,y,hy,b,hb,e1,e2⟩; exact ⟨h,y,hy,b,fj.1 hb,e1,e2⟩
 ·rintro ⟨h,y,hy,b,hb,e1,e2⟩; exact ⟨h,y,hy,b,fj.2 hb,e1,e2⟩
theorem KH {n:Nat} {p:Int→Bool}:(ns n).filter p=(ns n).filter (hasB ((ns n).filter p)):=by
 apply List.filter_congr
 intro a ha
 rw [Bool.eq_iff_iff,Er,List.mem_filter]
 exact ⟨fun h=>⟨ha,h⟩,fun h=>h.2⟩
section
variable {c:aI} (H:km c) {x:Int}
include H
theorem Hh {A:List Int} (hA:O7 c A):∀ y∈A,y∈nw c A:=fun y hy=>by
 have h:=hA y hy
 have ht:=H.to h.1 h.2
 have hi:=H.id ht.1 ht.2
 exact rh.2 ⟨h,y,hy,_,hi,(H.xu _ ht.1 ht.2).symm,H.HM y h.1 h.2⟩
theorem RD {A:List Int} (hA:O7 c A) (hs:∀ y∈A,gi c.aG y=x):Sv c x (nw c A):=by
 refine ⟨KH,fun y hy=>?_,fun z hz b b0 b1 e=>?_⟩
 ·obtain ⟨_,z,hz,b,hb,e1,e2⟩:=rh.1 hy
  have h:=hA z hz
  rw [← e2,(H.cell z b h.1 h.2 hb.1 hb.2 e1).2.2.1]
  exact hs z hz
 ·obtain ⟨I2,y,hy,a,ha,e1,e2⟩:=rh.1 hz
  have h:=hA y hy
  have c1:=H.cell y a h.1 h.2 ha.1 ha.2 e1
  have e3:gi c.To a=gi c.aG b:=by rw [← c1.2.2.2,e2]; exact e
  have c2:=H.cell a b ha.1 ha.2 b0 b1 e3
  have c3:=H.cell z b I2.1 I2.2 b0 b1 e
  refine rh.2 ⟨⟨c3.1,c3.2.1⟩,y,hy,gk c.aE a b,⟨c2.1,c2.2.1⟩,by rw [c2.2.2.1]; exact e1,?_⟩
  rw [← H.assoc y a b h.1 h.2 ha.1 ha.2 b0 b1 e1 e3,e2]
def yg (c:aI) (s:List Int) (a:Int):List Int:=nw c (s++[a])
theorem JW {s:List Int} {a:Int} (hs:Sv c x s) (ha:a∈uq c x):O7 c (s++[a])∧∀ y∈s++[a],gi c.aG y=x:=by
 have h:=vb.1 ha
 refine ⟨fun y hy=>?_,fun y hy=>?_⟩
 ·rcases List.mem_append.1 hy with h' | h'
  ·exact hs.arr y h'
  ·rw [List.mem_singleton.1 h']; exact h.1
 ·rcases List.mem_append.1 hy with h' | h'
  ·exact hs.src y h'
  ·rw [List.mem_singleton.1 h']; exact h.2
theorem UH {s:List Int} {a:Int} (hs:Sv c x s) (ha:a∈uq c x):Sv c x (yg c s a):=
 RD H (JW H hs ha).1 (JW H hs ha).2
theorem RE {s:List Int} (h:Reaches (uq c x) (yg c) [] s):Sv c x s:=by
 induction h with
 | base=>exact Sv.nil c x
 | step _ ha ih=>exact UH H ih ha
structure AQ (c:aI) (x:Int) (L:List (List Int)):Prop where
 mem:∀ s,s∈L↔Reaches (uq c x) (yg c) [] s
 nodup:L.Nodup
 len:L.length≤16
theorem AQ.sv {L:List (List Int)} (h:AQ c x L):∀ s∈L,Sv c x s:=fun s hs=>RE H ((h.mem s).1 hs)
inductive Found (c:aI) (x:Int):Option (List (List Int))→Prop
 | Tl (F:List (List Int)) (h:zV (uq c x) (yg c) [] F) (hl:F.length≤16):Found c x (some (F.mergeSort Td))
 | many (h:M8 (uq c x) (yg c) 16 []):Found c x none
end
end Go.Proofs.YtilhlobfebngdaaGreat
namespace Go.Li
open Go
def ec {β:Type} (n:Nat) (g:Int→β):List β:=(ns n).map g
theorem cS {β:Type} (n:Nat) (g:Int→β):(ec n g).length=n:=by simp [ec,cT]
theorem ot {β:Type} (n:Nat) (g:Int→β):ec (n+1) g=ec n g++[g n]:=by
 unfold ec ns
 rw [List.range_succ]; simp
theorem qg {β:Type} {n i:Nat} (g:Int→β) (h:i < n):(ec n g)[i]? = some (g i):=by
 unfold ec ns
 simp [h]
theorem o9 {β:Type} {n:Nat} {g:Int→β} {y:β}:y∈ec n g↔∃ x:Int,(0≤x∧x < n)∧g x=y:=by
 unfold ec; simp only [List.mem_map,fj]
theorem v8 {β:Type} {n:Nat} {g h:Int→β} (e:∀ i:Nat,i < n→g i=h i):ec n g=ec n h:=by
 apply List.map_congr_left
 intro x hx
 have:=fj.1 hx
 have:=e x.toNat (by omega)
 rwa [Int.toNat_of_nonneg (by omega)] at this
theorem wS {S S1 R β:Type} {body:S1→Option (Out S1 R)} {k:Nat} {f:S1→Option (Out S R)} {JX:S1} (n:Nat) (g:Int→β) (pk:List β→Nat→S1) (e0:pk [] 0=JX)
  (step:∀ i acc,i < n→acc.length=i→body (pk acc i)=some (.norm (pk (acc++[g i]) (i+1)))) (last:∀ acc,acc.length=n→body (pk acc n)=some (.exit k (pk acc n))) :
  ah (ae k (aj body JX)) f=f (pk (ec n g) n):=by
 rw [← e0]
 refine ud (ns n) (fun i=>pk (ec i g) i) rfl ?_ ?_
 ·intro i x hx
  obtain ⟨rfl,hi⟩:=gh hx
  rw [step i _ hi (cS i g),ot]
 ·rw [cT]; exact last _ (cS n g)
def gl {α:Type} (l:List (List α)) (j:Int):List α:=l.getD j.toNat []
theorem EE {α:Type} {l:List (List α)} {i:Nat} (h:i < l.length):l[i]? = some (gl l i):=by
 unfold gl; rw [List.getD_eq_getElem?_getD,Int.toNat_natCast,List.getElem?_eq_getElem h]; rfl
theorem LA {α β:Type} (l:List (List α)) (g:List α→β):ec l.length (fun i=>g (gl l i))=l.map g:=by
 apply List.ext_getElem?
 intro i
 by_cases h:i < l.length
 ·rw [qg _ h,List.getElem?_map,EE h]; rfl
 ·rw [List.getElem?_eq_none (by rw [cS]; omega),List.getElem?_eq_none (by rw [List.length_map]; omega)]
end Go.Li
namespace Go.Proofs.YtilhlobfebngdaaGreat
open Go Go.Li
set_option linter.unusedSectionVars false
theorem fc (l:List Int) (hl:l.length≤1048576):dM l=some l:=by
 unfold dM
 rw [eB (by simp; omega) (by simp; omega),aF,List.nil_append]; rfl
theorem JY (l:List (List Int)) (hl:l.length≤1048576) (hr:∀ y∈l,y.length≤1048576):nK l=some l:=by
 unfold nK
 refine (congrArg aq (wS l.length (gr l) (fun acc i=>(acc,(i:Int))) rfl ?_ ?_)).trans ?_
 ·intro i acc hi ha
  show lB l acc i=_
  unfold lB
  rw [bb (by omega),cond_true,jz (by omega) (by omega),aF,fc _ (hr _ (kq (by omega) (by omega))),aF,eB (by omega) (by omega),aF,cA (by omega)]
 ·intro acc ha
  show lB l acc _=_
  unfold lB
  rw [br (by omega),cond_false]
 ·show some (ec l.length (gr l))=_
  have:=LA l (fun x=>x)
  rw [List.map_id'] at this
  exact congrArg some this
theorem zn {c:aI} (h:gq c):lL c=some c:=by
 unfold lL
 rw [fc _ h.f,aF,fc _ h.t,aF,fc _ h.i,aF,JY _ h.k h.r,aF]; rfl
theorem JZ {c:aI} (h:gq c):jH c=some c:=by
 have h1:∀ l:List Int,l.length≤1048576→jE l=some l:=fun l hl=>fc l hl
 have hk:=h.k
 unfold jH
 rw [h1 _ h.f,aF,h1 _ h.t,aF,h1 _ h.i,aF]
 have:sI c.aE=some c.aE:=by
  unfold sI
  rw [HK (by omega) (by omega),aF]
  refine (congrArg aq (wS c.aE.length (gr c.aE) (fun acc i=>(acc,(i:Int))) rfl ?_ ?_)).trans ?_
  ·intro i acc hi ha
   show mA c.aE acc i=_
   unfold mA
   rw [bb (by omega),cond_true,jz (by omega) (by omega),aF,h1 _ (h.r _ (kq (by omega) (by omega))),aF,eB (by omega) (by omega),aF,cA (by omega)]
  ·intro acc ha
   show mA c.aE acc _=_
   unfold mA
   rw [br (by omega),cond_false]
  ·have:=LA c.aE (fun x=>x)
   rw [List.map_id'] at this
   exact congrArg some this
 rw [this,aF]; rfl
structure Nc (c:aI) (k:Nat) (ls:List (List (List Int))):Prop where
 len:ls.length=k
 found:∀ i:Nat,i < k→Found c i (some (gl ls i))
section
variable {c:aI} (H:km c)
include H
theorem RF {x:Int} {L:List (List Int)} (h:Found c x (some L)):AQ c x L:=by
 cases h with
 | Tl F h hl=>
  have hp:=List.mergeSort_perm F Td
  exact ⟨fun s=>by rw [hp.mem_iff]; exact h.mem s,hp.nodup_iff.2 h.nodup,by rw [hp.length_eq]; exact hl⟩
theorem Nc.sv {k:Nat} {ls:List (List (List Int))} (h:Nc c k ls) {i:Int} (h0:0≤i) (h1:i < k):AQ c i (gl ls i):=by
 have:=h.found i.toNat (by omega)
 rw [Int.toNat_of_nonneg h0] at this
 exact RF H this
end
end Go.Proofs.YtilhlobfebngdaaGreat
namespace Go.Proofs.YtilhlobfebngdaaGreat
open Go Go.Li
set_option linter.unusedSectionVars false
section
variable {c:aI} (H:km c)
include H
end
end Go.Proofs.YtilhlobfebngdaaGreat
namespace Go.Proofs.YtilhlobfebngdaaGreat
open Go Go.Li
section
variable {c:aI} (H:tQ c)
include H
end
section
variable {c:aI} (H:km c) {x:Int}
include H
theorem O8 {A:List Int} {a:Int} (hA:O7 c A):nw c (nw c A++[a])=nw c (A++[a]):=by
 show (ns c.aG.length).filter _=(ns c.aG.length).filter _
 apply List.filter_congr
 intro z hz
 have key:∀ B:List Int,Tp c B z=true↔z∈nw c B:=fun B=>by
  unfold nw; rw [List.mem_filter]; exact ⟨fun h=>⟨hz,h⟩,fun h=>h.2⟩
 rw [Bool.eq_iff_iff,key,key,rh,rh]
 refine and_congr_right fun hz=>⟨?_,?_⟩
 ·rintro ⟨y,hy,b,hb,e1,e2⟩
  rcases List.mem_append.1 hy with hy | hy
  ·obtain ⟨DN,u,hu,b',cu,e3,e4⟩:=rh.1 hy
   have DQ:=hA u hu
   have c1:=H.cell u b' DQ.1 DQ.2 cu.1 cu.2 e3
   have e5:gi c.To b'=gi c.aG b:=by rw [← c1.2.2.2,e4]; exact e1
   have c2:=H.cell b' b cu.1 cu.2 hb.1 hb.2 e5
   exact ⟨u,List.mem_append_left _ hu,gk c.aE b' b,⟨c2.1,c2.2.1⟩,by rw [c2.2.2.1]; exact e3,by rw [← H.assoc u b' b DQ.1 DQ.2 cu.1 cu.2 hb.1 hb.2 e3 e5,e4]; exact e2⟩
  ·exact ⟨y,List.mem_append_right _ hy,b,hb,e1,e2⟩
 ·rintro ⟨y,hy,b,hb,e1,e2⟩
  rcases List.mem_append.1 hy with hy | hy
  ·exact ⟨y,List.mem_append_left _ (Hh H hA y hy),b,hb,e1,e2⟩
  ·exact ⟨y,List.mem_append_right _ hy,b,hb,e1,e2⟩
theorem KJ:∀ (n:Nat) (A:List Int),A.length=n→(∀ a∈A,a∈uq c x)→Reaches (uq c x) (yg c) [] (nw c A):=by
 intro n
 induction n with
 | zero=>
  intro A hA _
  obtain rfl:A=[]:=List.length_eq_zero_iff.1 hA
  have:nw c []=[]:=by unfold nw; rw [List.filter_eq_nil_iff]; intro a _; simp [Tp]
  rw [this]; exact .base
 | succ n ih=>
  intro A hA hs
  have q9:A≠[]:=by rintro rfl; cases hA
  have hd:=List.dropLast_concat_getLast q9
  have hl:A.getLast q9∈A:=List.getLast_mem q9
  have ed:∀ a∈A.dropLast,a∈uq c x:=fun a ha=>hs a (List.dropLast_subset A ha)
  have h1:=ih A.dropLast (by simp; omega) ed
  have h2:=Reaches.step (step:=yg c) h1 (hs _ hl)
  unfold yg at h2
  rw [O8 H (fun a ha=>(vb.1 (ed a ha)).1),hd] at h2
  exact h2
theorem RH {s:List Int} (h:Sv c x s):Reaches (uq c x) (yg c) [] s:=by
 have h1:=KJ H s.length s rfl fun a ha=>vb.2 ⟨h.arr a ha,h.src a ha⟩
 have h2:nw c s=s:=by
  conv=>rhs; rw [h.form]
  unfold nw
  apply List.filter_congr
  intro z hz
  rw [Bool.eq_iff_iff,Er]
  constructor
  ·intro hc
   have:z∈nw c s:=List.mem_filter.2 ⟨hz,hc⟩
   obtain ⟨_,y,hy,b,hb,e1,e2⟩:=rh.1 this
   rw [← e2]; exact h.closed y hy b hb.1 hb.2 e1
  ·intro hs
   exact (List.mem_filter.1 (Hh H h.arr z hs)).2
 rw [h2] at h1; exact h1
theorem UJ {L:List (List Int)} (h:AQ c x L) (s:List Int):s∈L↔Sv c x s:=⟨h.sv H s,fun hs=>(h.mem s).2 (RH H hs)⟩
theorem XS:Sv c x (uq c x):=by
 refine ⟨?_,fun y hy=>(vb.1 hy).2,fun y hy b b0 b1 e=>?_⟩
 ·show (ns c.aG.length).filter _=_
  apply List.filter_congr
  intro z hz
  rw [Bool.eq_iff_iff,Er,vb]
  simp only [beq_iff_eq]
  exact ⟨fun h=>⟨fj.1 hz,h⟩,fun h=>h.2⟩
 ·have hy:=vb.1 hy
  have c1:=H.cell y b hy.1.1 hy.1.2 b0 b1 e
  exact vb.2 ⟨⟨c1.1,c1.2.1⟩,by rw [c1.2.2.1]; exact hy.2⟩
end
end Go.Proofs.YtilhlobfebngdaaGreat
namespace Go.Li
open Go
section
variable {S S1 R α:Type} {body:S1→Option (Out S1 R)}
end
end Go.Li
namespace Go.Proofs.YtilhlobfebngdaaGreat
open Go Go.Li
def put (p:Int→List Int→Bool) (x:Int) (s:List Int):Int→List Int→Bool:=fun y t=>p y t || (y == x && t == s)
structure Tab (c:aI) (ls:List (List (List Int))):Prop where
 cat:km c
 lists:Nc c c.aA.toNat ls
namespace Tab
variable {c:aI} {ls:List (List (List Int))} (T:Tab c ls)
include T
theorem len:(ls.length:Int)=c.aA:=by have h1:=T.lists.len; have h2:=T.cat.o0; omega
theorem sv {x:Int} (h0:0≤x) (h1:x < ls.length):AQ c x (gl ls x):=T.lists.sv T.cat h0 (by have:=T.lists.len; omega)
theorem mem {x:Int} (h0:0≤x) (h1:x < ls.length) {s:List Int}:s∈gl ls x↔Sv c x s:=UJ T.cat (T.sv h0 h1) s
theorem nodup {x:Int} (h0:0≤x) (h1:x < ls.length):(gl ls x).Nodup:=(T.sv h0 h1).nodup
theorem fr {a:Int} (a0:0≤a) (a1:a < c.aG.length):0≤gi c.aG a∧gi c.aG a < ls.length:=by have:=T.cat.fr a0 a1; rw [← T.len] at this; exact this
theorem to {a:Int} (a0:0≤a) (a1:a < c.aG.length):0≤gi c.To a∧gi c.To a < ls.length:=by have:=T.cat.to a0 a1; rw [← T.len] at this; exact this
theorem out {x:Int} (h0:0≤x) (h1:x < ls.length):uq c x∈gl ls x:=(T.mem h0 h1).2 (XS T.cat)
theorem arr {x:Int} (h0:0≤x) (h1:x < ls.length) {s:List Int} (hs:s∈gl ls x) {a:Int} (ha:a∈s):0≤a∧a < c.aG.length:=((T.mem h0 h1).1 hs).arr a ha
end Tab
def XT (c:aI) (p:Int→List Int→Bool) (s t:List Int):Bool:=!(s.any fun a=>!(p (gi c.To a) (Tq c a t)))
structure akA (c:aI) (ls:List (List (List Int))) (q:Int→List Int→Bool):Prop where
 top:∀ x:Int,0≤x→x < ls.length→q x (uq c x)=true
 arrow:∀ a s:_,0≤a→a < (c.aG.length:Int)→s∈gl ls (gi c.aG a)→q (gi c.aG a) s=true→q (gi c.To a) (Tq c a s)=true
 loc:∀ x:Int,0≤x→x < ls.length→∀ s∈gl ls x,∀ t∈gl ls x,q x s=true→XT c q s t=true→q x t=true
section
variable {c:aI} {ls:List (List (List Int))} (T:Tab c ls) {p:Int→List Int→Bool}
include T
end
end Go.Proofs.YtilhlobfebngdaaGreat
namespace Go.Proofs.YtilhlobfebngdaaGreat
open Go Go.Li
def ZQ (ls:List (List (List Int))):List (Int×List Int):=(ns ls.length).flatMap fun x=>(gl ls x).map fun s=>(x,s)
def IV (ls:List (List (List Int))) (p:Int→List Int→Bool):Nat:=(ZQ ls).countP fun z=>p z.1 z.2
def Le (ls:List (List (List Int))) (p q:Int→List Int→Bool):Prop:=∀ y:Int,0≤y→y < ls.length→∀ t∈gl ls y,p y t=true→q y t=true
theorem Le.tr {ls:List (List (List Int))} {p q r:Int→List Int→Bool} (h:Le ls p q) (g:Le ls q r):Le ls p r:=fun y h0 h1 t ht hp=>g y h0 h1 t ht (h y h0 h1 t ht hp)
theorem Le.put {ls:List (List (List Int))} {p:Int→List Int→Bool} {x:Int} {s:List Int}:Le ls p (put p x s):=fun y _ _ t _ h=>by
 show (p y t || _)=true
 rw [h]; rfl
end Go.Proofs.YtilhlobfebngdaaGreat
namespace Go.Proofs.YtilhlobfebngdaaGreat
open Go Go.Li
section
variable {c:aI} {ls:List (List (List Int))} (T:Tab c ls) {p:Int→List Int→Bool}
include T
end
end Go.Proofs.YtilhlobfebngdaaGreat
namespace Go.Proofs.YtilhlobfebngdaaGreat
open Go Go.Li
section
end
end Go.Proofs.YtilhlobfebngdaaGreat
namespace Go.Proofs.YtilhlobfebngdaaGreat
open Go Go.Li
end Go.Proofs.YtilhlobfebngdaaGreat
namespace Go.Proofs.YtilhlobfebngdaaGreat
open Go Go.Li
theorem zX {S S1 R:Type} {body:S1→Option (Out S1 R)} {k:Nat} {f:S1→Option (Out S R)} {s0:S1} (l:List Int) (q:Int→Bool) (pk:List Int→Nat→S1) (e0:pk [] 0=s0)
  (step:∀ i a acc,l[i]? = some a→acc.length≤i→body (pk acc i)=some (.norm (pk (if q a then acc++[a] else acc) (i+1)))) (last:∀ acc,body (pk acc l.length)=some (.exit k (pk acc l.length))) :
  ah (ae k (aj body s0)) f=f (pk (l.filter q) l.length):=by
 refine (ud l (fun i=>pk ((l.take i).filter q) i) (by simpa using e0) (fun i a ha=>?_) (e:=pk (l.filter q) l.length) ?_)
 ·rw [step i a _ ha (by have:=List.length_filter_le q (l.take i); rw [List.length_take] at this; omega),Cc ha,List.filter_append]
  cases h:q a <;> simp [h]
 ·rw [last,List.take_length]
section
variable {c:aI} {ls:List (List (List Int))} (T:Tab c ls) {p q:Int→List Int→Bool}
include T
end
end Go.Proofs.YtilhlobfebngdaaGreat
namespace Go.Proofs.YtilhlobfebngdaaGreat
open Go Go.Li
section
variable {c:aI} (H:km c)
include H
end
end Go.Proofs.YtilhlobfebngdaaGreat
namespace Go.Proofs.YtilhlobfebngdaaGreat
open Go Go.Li
def r4 (c d:aI):Bool:=c.aA == d.aA && (c.aG == d.aG && (c.To == d.To && (c.aJ == d.aJ && c.aE == d.aE)))
theorem vc {c d:aI}:r4 c d=true↔c=d:=by
 unfold r4
 simp only [Bool.and_eq_true,beq_iff_eq]
 constructor
 ·rintro ⟨h1,h2,h3,h4,h5⟩
  cases c; cases d
  dsimp only at h1 h2 h3 h4 h5
  rw [h1,h2,h3,h4,h5]
 ·rintro rfl; exact ⟨rfl,rfl,rfl,rfl,rfl⟩
theorem KK {c d:aI} (h:gq c):qZ c d=some (r4 c d):=by
 obtain ⟨h1,h2,h3,h4,h5⟩:=h
 have e5:sT c.aE d.aE=some (c.aE == d.aE):=UG _ _ (by omega) (fun z hz=>by have:=h5 z hz; omega)
 unfold qZ r4
 cases c.aA == d.aA with
 | false=>rfl
 | true=>
  rw [cond_true,BP _ _ (by omega),aF]
  cases c.aG == d.aG with
  | false=>rfl
  | true=>
   rw [cond_true,BP _ _ (by omega),aF]
   cases c.To == d.To with
   | false=>rfl
   | true=>
    rw [cond_true,BP _ _ (by omega),aF]
    cases c.aJ == d.aJ with
    | false=>rfl
    | true=>rw [cond_true,e5]; rfl
theorem RI:∀ {x y:List (List Int)},x.length=y.length→(x == y) = !((x.zip y).any fun z=>!(z.1 == z.2)):=by
 intro x
 induction x with
 | nil=>intro y h; cases y with
  | nil=>rfl
  | cons b y=>simp at h
 | cons a x ih=>
  intro y h
  cases y with
  | nil=>simp at h
  | cons b y=>
   have h':x.length=y.length:=by simpa using h
   rw [List.zip_cons_cons,List.any_cons,Bool.not_or,Bool.not_not,← ih h']; rfl
theorem Ap {c d:aI} (h:gq c):iL c d=some (r4 c d):=by
 obtain ⟨h1,h2,h3,h4,h5⟩:=h
 unfold iL r4
 cases e1:c.aA == d.aA with
 | false=>rw [show (c.aA != d.aA)=true by unfold bne; rw [e1]; rfl]; rfl
 | true=>
  rw [show (c.aA != d.aA)=false by unfold bne; rw [e1]; rfl,cond_false,zm _ _ (by omega),aF]
  cases c.aG == d.aG with
  | false=>rfl
  | true=>
   rw [Bool.not_true,cond_false,zm _ _ (by omega),aF]
   cases c.To == d.To with
   | false=>rfl
   | true=>
    rw [Bool.not_true,cond_false,zm _ _ (by omega),aF]
    cases c.aJ == d.aJ with
    | false=>rfl
    | true=>
     rw [Bool.not_true,cond_false,aF]
     simp only [Bool.true_and]
     by_cases hl:c.aE.length=d.aE.length
     ·rw [mq (by omega),cond_false,RI hl]
      refine (congrArg aq (lp (c.aE.zip d.aE) (fun z=>!(z.1 == z.2)) (fun i=>(i:Int)) rfl ?_ ?_ (e:=((c.aE.zip d.aE).length:Int)) (y:=false) ?_)).trans ?_
      ·intro i z hz hp
       obtain ⟨z1,z2⟩:=z
       obtain ⟨g1,g2⟩:=List.getElem?_zip_eq_some.1 hz
       have hi:=cg g1
       have:=h5 _ (List.mem_of_getElem? g1)
       unfold jX
       rw [bb (by omega),cond_true,cw,g1,aF,cw,g2,aF,zm _ _ (by omega),aF]
       rw [show (!(z1 == z2))=false from hp,cond_false,cA (by omega)]
      ·intro i z hz hp
       obtain ⟨z1,z2⟩:=z
       obtain ⟨g1,g2⟩:=List.getElem?_zip_eq_some.1 hz
       have hi:=cg g1
       have:=h5 _ (List.mem_of_getElem? g1)
       unfold jX
       rw [bb (by omega),cond_true,cw,g1,aF,cw,g2,aF,zm _ _ (by omega),aF]
       rw [show (!(z1 == z2))=true from hp,cond_true]
      ·unfold jX
       rw [List.length_zip,← hl,Nat.min_self,br (by omega),cond_false]
      ·cases (c.aE.zip d.aE).any fun z=>!(z.1 == z.2) <;> rfl
     ·rw [o6 (by omega)]
      have:(c.aE == d.aE)=false:=nq fun h=>hl (by rw [h])
      rw [this]; rfl
end Go.Proofs.YtilhlobfebngdaaGreat
namespace Go.Proofs.YtilhlobfebngdaaGreat
open Go Go.Li
theorem wa {S R:Type} {body:Int→Option (Out Int R)} {k:Nat} {f:Int→Option (Out S R)} {n:Nat} (p:Int→Bool) {y:R}
  (h:∀ i:Nat,i < n→body (i:Int)=bif p i then some (.ret y) else some (.norm ((i+1:Nat):Int))) (last:body (n:Int)=some (.exit k (n:Int))) :
  ah (ae k (aj body (0:Int))) f=bif (ns n).any p then some (.ret y) else f n:=by
 refine (lp (ns n) p (fun i=>(i:Int)) rfl ?_ ?_ (e:=(n:Int)) (y:=y) ?_).trans ?_
 ·intro i x hx hp; obtain ⟨rfl,hi⟩:=gh hx; rw [h i hi,hp]; rfl
 ·intro i x hx hp; obtain ⟨rfl,hi⟩:=gh hx; rw [h i hi,hp]; rfl
 ·rw [cT]; exact last
 ·cases (ns n).any p <;> rfl
theorem afe {S R:Type} {body:Int→Option (Out Int R)} {k:Nat} {f:Int→Option (Out S R)} {n:Nat} (p:Int→Bool) (G:R→Prop)
  (h:∀ i:Nat,i < n→(p i=false∧body (i:Int)=some (.norm ((i+1:Nat):Int)))∨(p i=true∧∃ y,body (i:Int)=some (.ret y)∧G y)) (last:body (n:Int)=some (.exit k (n:Int))) :
  ((ns n).any p=false∧ah (ae k (aj body (0:Int))) f=f n)∨((ns n).any p=true∧∃ y,ah (ae k (aj body (0:Int))) f=some (.ret y)∧G y):=by
 refine (zj (ns n) p G (fun i=>(i:Int)) rfl ?_ ?_ (e:=(n:Int)) (by rw [cT]; exact last)).elim (fun h=>.inr h) (fun h=>.inl h)
 ·intro i x hx hp
  obtain ⟨rfl,hi⟩:=gh hx
  rcases h i hi with ⟨_,h⟩ | ⟨h,_⟩
  ·exact h
  ·rw [hp] at h; cases h
 ·intro i x hx hp
  obtain ⟨rfl,hi⟩:=gh hx
  rcases h i hi with ⟨h,_⟩ | ⟨_,h⟩
  ·rw [hp] at h; cases h
  ·exact h
theorem p9 {α:Type} {b:Bool} {x y:α}:(bif b then some x else some y)=some (bif b then x else y):=by cases b <;> rfl
theorem yn {a b:Bool}:(bif a then true else b)=(a || b):=by cases a <;> rfl
theorem Es {a b:Bool}:(bif a then b else false)=(a && b):=by cases a <;> rfl
theorem ir {n:Nat} {p:Int→Bool}:(ns n).any p=false↔∀ i:Int,0≤i→i < n→p i=false:=by
 rw [List.any_eq_false]
 exact ⟨fun h i h0 h1=>by simpa using h i (fj.2 ⟨h0,h1⟩),fun h i hi=>by simp [h i (fj.1 hi).1 (fj.1 hi).2]⟩
namespace SFHead
end SFHead
end Go.Proofs.YtilhlobfebngdaaGreat
namespace Go.Proofs.YtilhlobfebngdaaGreat
open Go Go.Li
namespace SFShape
end SFShape
end Go.Proofs.YtilhlobfebngdaaGreat
namespace Go.Proofs.YtilhlobfebngdaaGreat
open Go Go.Li
namespace SMShape
end SMShape
def thenS (a b:List Int):List Int:=ec a.length fun i=>gi b (gi a i)
theorem J3 (a b:List Int) (ha:a.length≤1048576) (hb:∀ x∈a,0≤x∧x < b.length):sL a b=some (thenS a b):=by
 unfold sL
 rw [HK (by omega) (by omega),aF]
 have hl:(thenS a b).length=a.length:=cS _ _
 refine (congrArg aq (ud (ns a.length) (fun i=>((i:Int),(thenS a b).take i++List.replicate (a.length - i) (0:Int))) (by simp) ?_ (e:=((a.length:Int),thenS a b)) ?_)).trans rfl
 ·intro i x hx
  obtain ⟨rfl,hi⟩:=gh hx
  have hg:(thenS a b)[i]? = some (gi b (gi a i)):=qg _ hi
  have hm:=hb _ (cy (l:=a) (j:=(i:Int)) (by omega) (by omega))
  have hc:=JP (thenS a b) (0:Int) hg
  have O9:=get_copy (thenS a b) (0:Int) hg
  rw [hl] at hc O9
  show nY a b (i:Int) _=_
  unfold nY
  rw [bb (by omega),cond_true,bS (by omega) (by omega),aF,bS hm.1 hm.2,aF,cw,O9,aF,cA (by omega),Int.toNat_natCast,hc]
 ·rw [cT]
  show nY a b _ _=_
  unfold nY
  rw [br (by omega),cond_false,Nat.sub_self,List.take_of_length_le (by omega)]
  simp
end Go.Proofs.YtilhlobfebngdaaGreat
