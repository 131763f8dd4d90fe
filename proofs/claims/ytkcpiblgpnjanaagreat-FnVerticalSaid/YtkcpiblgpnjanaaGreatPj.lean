/- All sieves at an object: the reference's search in depth and the program's search in breadth find the same list. No condition beside those that each theorem names. -/
import Derived.Test.YtkcpiblgpnjanaaGreatPh
import Derived.Test.YtkcpiblgpnjanaaGreatPa
namespace Go.Li
open Go
end Go.Li
namespace Go.Proofs.YtkcpiblgpnjanaaGreat
open Go Go.Li
set_option linter.unusedSectionVars false
structure Sv (c:aI) (x:Int) (s:List Int):Prop where
 form:s=(ns c.aG.length).filter (hasB s)
 src:∀ y∈s,gi c.aG y=x
 closed:∀ y∈s,∀ b:Int,0≤b→b < c.aG.length→gi c.To y=gi c.aG b→gk c.aF y b∈s
theorem Sv.arr {c:aI} {x:Int} {s:List Int} (h:Sv c x s):NY c s:=fun a ha=>by
 rw [h.form] at ha; exact fy.1 (List.mem_filter.1 ha).1
theorem Sv.len {c:aI} {x:Int} {s:List Int} (h:Sv c x s):s.length≤c.aG.length:=by
 rw [h.form]; exact Nat.le_trans (List.length_filter_le _ _) (by rw [eP]; exact Nat.le_refl _)
theorem Sv.nil (c:aI) (x:Int):Sv c x []:=⟨by rw [List.filter_eq_nil_iff.2]; intro a _; simp [hasB],fun _ h=>(nomatch h),fun _ h=>(nomatch h)⟩
theorem ry {c:aI} {A:List Int} {a:Int}:a∈n5 c A↔(0≤a∧a < c.aG.length)∧∃ y∈A,∃ b:Int,(0≤b∧b < c.aG.length)∧gi c.To y=gi c.aG b∧gk c.aF y b=a:=by
 unfold n5 RU
 rw [List.mem_filter,fy]
 simp only [List.any_eq_true,Bool.and_eq_true,beq_iff_eq]
 constructor
 ·rintro ⟨h,y,hy,b,hb,e1,e2⟩; exact ⟨h,y,hy,b,fy.1 hb,e1,e2⟩
 ·rintro ⟨h,y,hy,b,hb,e1,e2⟩; exact ⟨h,y,hy,b,fy.2 hb,e1,e2⟩
theorem IS {n:Nat} {p:Int→Bool}:(ns n).filter p=(ns n).filter (hasB ((ns n).filter p)):=by
 apply List.filter_congr
 intro a ha
 rw [Bool.eq_iff_iff,C6,List.mem_filter]
 exact ⟨fun h=>⟨ha,h⟩,fun h=>h.2⟩
section
variable {c:aI} (H:rW c) {x:Int}
include H
theorem FI {A:List Int} (hA:NY c A):∀ y∈A,y∈n5 c A:=fun y hy=>by
 have h:=hA y hy
 have ht:=H.to h.1 h.2
 have hi:=H.id ht.1 ht.2
 exact ry.2 ⟨h,y,hy,_,hi,(H.wk _ ht.1 ht.2).symm,H.Lp y h.1 h.2⟩
theorem Qr {A:List Int} (hA:NY c A) (hs:∀ y∈A,gi c.aG y=x):Sv c x (n5 c A):=by
 refine ⟨IS,fun y hy=>?_,fun z hz b b0 b1 e=>?_⟩
 ·obtain ⟨_,z,hz,b,hb,e1,e2⟩:=ry.1 hy
  have h:=hA z hz
  rw [← e2,(H.cell z b h.1 h.2 hb.1 hb.2 e1).2.2.1]
  exact hs z hz
 ·obtain ⟨Hf,y,hy,a,ha,e1,e2⟩:=ry.1 hz
  have h:=hA y hy
  have c1:=H.cell y a h.1 h.2 ha.1 ha.2 e1
  have e3:gi c.To a=gi c.aG b:=by rw [← c1.2.2.2,e2]; exact e
  have c2:=H.cell a b ha.1 ha.2 b0 b1 e3
  have c3:=H.cell z b Hf.1 Hf.2 b0 b1 e
  refine ry.2 ⟨⟨c3.1,c3.2.1⟩,y,hy,gk c.aF a b,⟨c2.1,c2.2.1⟩,by rw [c2.2.2.1]; exact e1,?_⟩
  rw [← H.assoc y a b h.1 h.2 ha.1 ha.2 b0 b1 e1 e3,e2]
def wG (c:aI) (s:List Int) (a:Int):List Int:=n5 c (s++[a])
theorem Ib {s:List Int} {a:Int} (hs:Sv c x s) (ha:a∈sZ c x):NY c (s++[a])∧∀ y∈s++[a],gi c.aG y=x:=by
 have h:=tw.1 ha
 refine ⟨fun y hy=>?_,fun y hy=>?_⟩
 ·rcases List.mem_append.1 hy with h' | h'
  ·exact hs.arr y h'
  ·rw [List.mem_singleton.1 h']; exact h.1
 ·rcases List.mem_append.1 hy with h' | h'
  ·exact hs.src y h'
  ·rw [List.mem_singleton.1 h']; exact h.2
theorem Tb {s:List Int} {a:Int} (hs:Sv c x s) (ha:a∈sZ c x):Sv c x (wG c s a):=
 Qr H (Ib H hs ha).1 (Ib H hs ha).2
theorem Qs {s:List Int} (h:Reaches (sZ c x) (wG c) [] s):Sv c x s:=by
 induction h with
 | base=>exact Sv.nil c x
 | step _ ha ih=>exact Tb H ih ha
structure zk (c:aI) (x:Int) (L:List (List Int)):Prop where
 mem:∀ s,s∈L↔Reaches (sZ c x) (wG c) [] s
 nodup:L.Nodup
 len:L.length≤16
theorem zk.sv {L:List (List Int)} (h:zk c x L):∀ s∈L,Sv c x s:=fun s hs=>Qs H ((h.mem s).1 hs)
inductive Found (c:aI) (x:Int):Option (List (List Int))→Prop
 | RS (F:List (List Int)) (h:yb (sZ c x) (wG c) [] F) (hl:F.length≤16):Found c x (some (F.mergeSort RG))
 | many (h:Ll (sZ c x) (wG c) 16 []):Found c x none
end
end Go.Proofs.YtkcpiblgpnjanaaGreat
namespace Go.Li
open Go
def ep {β:Type} (n:Nat) (g:Int→β):List β:=(ns n).map g
theorem dC {β:Type} (n:Nat) (g:Int→β):(ep n g).length=n:=by simp [ep,eP]
theorem rz {β:Type} (n:Nat) (g:Int→β):ep (n+1) g=ep n g++[g n]:=by
 unfold ep ns
 rw [List.range_succ]; simp
theorem o4 {β:Type} {n i:Nat} (g:Int→β) (h:i < n):(ep n g)[i]? = some (g i):=by
 unfold ep ns
 simp [h]
theorem o5 {β:Type} {n:Nat} {g:Int→β} {y:β}:y∈ep n g↔∃ x:Int,(0≤x∧x < n)∧g x=y:=by
 unfold ep; simp only [List.mem_map,fy]
theorem uG {β:Type} {n:Nat} {g h:Int→β} (e:∀ i:Nat,i < n→g i=h i):ep n g=ep n h:=by
 apply List.map_congr_left
 intro x hx
 have:=fy.1 hx
 have:=e x.toNat (by omega)
 rwa [Int.toNat_of_nonneg (by omega)] at this
theorem tA {S S1 R β:Type} {body:S1→Option (Out S1 R)} {k:Nat} {f:S1→Option (Out S R)} {Ic:S1} (n:Nat) (g:Int→β) (pk:List β→Nat→S1) (e0:pk [] 0=Ic)
  (step:∀ i acc,i < n→acc.length=i→body (pk acc i)=some (.norm (pk (acc++[g i]) (i+1)))) (last:∀ acc,acc.length=n→body (pk acc n)=some (.exit k (pk acc n))) :
  ai (af k (aj body Ic)) f=f (pk (ep n g) n):=by
 rw [← e0]
 refine tT (ns n) (fun i=>pk (ep i g) i) rfl ?_ ?_
 ·intro i x hx
  obtain ⟨rfl,hi⟩:=ic hx
  rw [step i _ hi (dC i g),rz]
 ·rw [eP]; exact last _ (dC n g)
def gl {α:Type} (l:List (List α)) (j:Int):List α:=l.getD j.toNat []
theorem De {α:Type} {l:List (List α)} {i:Nat} (h:i < l.length):l[i]? = some (gl l i):=by
 unfold gl; rw [List.getD_eq_getElem?_getD,Int.toNat_natCast,List.getElem?_eq_getElem h]; rfl
theorem JL {α β:Type} (l:List (List α)) (g:List α→β):ep l.length (fun i=>g (gl l i))=l.map g:=by
 apply List.ext_getElem?
 intro i
 by_cases h:i < l.length
 ·rw [o4 _ h,List.getElem?_map,De h]; rfl
 ·rw [List.getElem?_eq_none (by rw [dC]; omega),List.getElem?_eq_none (by rw [List.length_map]; omega)]
end Go.Li
namespace Go.Proofs.YtkcpiblgpnjanaaGreat
open Go Go.Li
set_option linter.unusedSectionVars false
theorem gv (l:List Int) (hl:l.length≤1048576):dR l=some l:=by
 unfold dR
 rw [eN (by simp; omega) (by simp; omega),aH,List.nil_append]; rfl
theorem Ie (l:List (List Int)) (hl:l.length≤1048576) (hr:∀ y∈l,y.length≤1048576):lU l=some l:=by
 unfold lU
 refine (congrArg ao (tA l.length (gr l) (fun acc i=>(acc,(i:Int))) rfl ?_ ?_)).trans ?_
 ·intro i acc hi ha
  show jW l acc i=_
  unfold jW
  rw [bn (by omega),cond_true,rf (by omega) (by omega),aH,gv _ (hr _ (qj (by omega) (by omega))),aH,eN (by omega) (by omega),aH,cK (by omega)]
 ·intro acc ha
  show jW l acc _=_
  unfold jW
  rw [bx (by omega),cond_false]
 ·show some (ep l.length (gr l))=_
  have:=JL l (fun x=>x)
  rw [List.map_id'] at this
  exact congrArg some this
theorem xy {c:aI} (h:fu c):kE c=some c:=by
 unfold kE
 rw [gv _ h.f,aH,gv _ h.t,aH,gv _ h.i,aH,Ie _ h.k h.r,aH]; rfl
theorem Ig {c:aI} (h:fu c):iM c=some c:=by
 have h1:∀ l:List Int,l.length≤1048576→gF l=some l:=fun l hl=>gv l hl
 have hk:=h.k
 unfold iM
 rw [h1 _ h.f,aH,h1 _ h.t,aH,h1 _ h.i,aH]
 have:pN c.aF=some c.aF:=by
  unfold pN
  rw [D9 (by omega) (by omega),aH]
  refine (congrArg ao (tA c.aF.length (gr c.aF) (fun acc i=>(acc,(i:Int))) rfl ?_ ?_)).trans ?_
  ·intro i acc hi ha
   show kS c.aF acc i=_
   unfold kS
   rw [bn (by omega),cond_true,rf (by omega) (by omega),aH,h1 _ (h.r _ (qj (by omega) (by omega))),aH,eN (by omega) (by omega),aH,cK (by omega)]
  ·intro acc ha
   show kS c.aF acc _=_
   unfold kS
   rw [bx (by omega),cond_false]
  ·have:=JL c.aF (fun x=>x)
   rw [List.map_id'] at this
   exact congrArg some this
 rw [this,aH]; rfl
structure Lq (c:aI) (k:Nat) (ls:List (List (List Int))):Prop where
 len:ls.length=k
 found:∀ i:Nat,i < k→Found c i (some (gl ls i))
section
variable {c:aI} (H:rW c)
include H
theorem Qt {x:Int} {L:List (List Int)} (h:Found c x (some L)):zk c x L:=by
 cases h with
 | RS F h hl=>
  have hp:=List.mergeSort_perm F RG
  exact ⟨fun s=>by rw [hp.mem_iff]; exact h.mem s,hp.nodup_iff.2 h.nodup,by rw [hp.length_eq]; exact hl⟩
theorem Lq.sv {k:Nat} {ls:List (List (List Int))} (h:Lq c k ls) {i:Int} (h0:0≤i) (h1:i < k):zk c i (gl ls i):=by
 have:=h.found i.toNat (by omega)
 rw [Int.toNat_of_nonneg h0] at this
 exact Qt H this
end
end Go.Proofs.YtkcpiblgpnjanaaGreat
namespace Go.Proofs.YtkcpiblgpnjanaaGreat
open Go Go.Li
set_option linter.unusedSectionVars false
section
variable {c:aI} (H:rW c)
include H
end
end Go.Proofs.YtkcpiblgpnjanaaGreat
namespace Go.Proofs.YtkcpiblgpnjanaaGreat
open Go Go.Li
section
variable {c:aI} (H:qM c)
include H
end
section
variable {c:aI} (H:rW c) {x:Int}
include H
theorem NZ {A:List Int} {a:Int} (hA:NY c A):n5 c (n5 c A++[a])=n5 c (A++[a]):=by
 show (ns c.aG.length).filter _=(ns c.aG.length).filter _
 apply List.filter_congr
 intro z hz
 have key:∀ B:List Int,RU c B z=true↔z∈n5 c B:=fun B=>by
  unfold n5; rw [List.mem_filter]; exact ⟨fun h=>⟨hz,h⟩,fun h=>h.2⟩
 rw [Bool.eq_iff_iff,key,key,ry,ry]
 refine and_congr_right fun hz=>⟨?_,?_⟩
 ·rintro ⟨y,hy,b,hb,e1,e2⟩
  rcases List.mem_append.1 hy with hy | hy
  ·obtain ⟨AA,u,hu,b',ch,e3,e4⟩:=ry.1 hy
   have Cs:=hA u hu
   have c1:=H.cell u b' Cs.1 Cs.2 ch.1 ch.2 e3
   have e5:gi c.To b'=gi c.aG b:=by rw [← c1.2.2.2,e4]; exact e1
   have c2:=H.cell b' b ch.1 ch.2 hb.1 hb.2 e5
   exact ⟨u,List.mem_append_left _ hu,gk c.aF b' b,⟨c2.1,c2.2.1⟩,by rw [c2.2.2.1]; exact e3,by rw [← H.assoc u b' b Cs.1 Cs.2 ch.1 ch.2 hb.1 hb.2 e3 e5,e4]; exact e2⟩
  ·exact ⟨y,List.mem_append_right _ hy,b,hb,e1,e2⟩
 ·rintro ⟨y,hy,b,hb,e1,e2⟩
  rcases List.mem_append.1 hy with hy | hy
  ·exact ⟨y,List.mem_append_left _ (FI H hA y hy),b,hb,e1,e2⟩
  ·exact ⟨y,List.mem_append_right _ hy,b,hb,e1,e2⟩
theorem IT:∀ (n:Nat) (A:List Int),A.length=n→(∀ a∈A,a∈sZ c x)→Reaches (sZ c x) (wG c) [] (n5 c A):=by
 intro n
 induction n with
 | zero=>
  intro A hA _
  obtain rfl:A=[]:=List.length_eq_zero_iff.1 hA
  have:n5 c []=[]:=by unfold n5; rw [List.filter_eq_nil_iff]; intro a _; simp [RU]
  rw [this]; exact .base
 | succ n ih=>
  intro A hA hs
  have kh:A≠[]:=by rintro rfl; cases hA
  have hd:=List.dropLast_concat_getLast kh
  have hl:A.getLast kh∈A:=List.getLast_mem kh
  have cb:∀ a∈A.dropLast,a∈sZ c x:=fun a ha=>hs a (List.dropLast_subset A ha)
  have h1:=ih A.dropLast (by simp; omega) cb
  have h2:=Reaches.step (step:=wG c) h1 (hs _ hl)
  unfold wG at h2
  rw [NZ H (fun a ha=>(tw.1 (cb a ha)).1),hd] at h2
  exact h2
theorem Qu {s:List Int} (h:Sv c x s):Reaches (sZ c x) (wG c) [] s:=by
 have h1:=IT H s.length s rfl fun a ha=>tw.2 ⟨h.arr a ha,h.src a ha⟩
 have h2:n5 c s=s:=by
  conv=>rhs; rw [h.form]
  unfold n5
  apply List.filter_congr
  intro z hz
  rw [Bool.eq_iff_iff,C6]
  constructor
  ·intro hc
   have:z∈n5 c s:=List.mem_filter.2 ⟨hz,hc⟩
   obtain ⟨_,y,hy,b,hb,e1,e2⟩:=ry.1 this
   rw [← e2]; exact h.closed y hy b hb.1 hb.2 e1
  ·intro hs
   exact (List.mem_filter.1 (FI H h.arr z hs)).2
 rw [h2] at h1; exact h1
theorem Td {L:List (List Int)} (h:zk c x L) (s:List Int):s∈L↔Sv c x s:=⟨h.sv H s,fun hs=>(h.mem s).2 (Qu H hs)⟩
theorem Wm:Sv c x (sZ c x):=by
 refine ⟨?_,fun y hy=>(tw.1 hy).2,fun y hy b b0 b1 e=>?_⟩
 ·show (ns c.aG.length).filter _=_
  apply List.filter_congr
  intro z hz
  rw [Bool.eq_iff_iff,C6,tw]
  simp only [beq_iff_eq]
  exact ⟨fun h=>⟨fy.1 hz,h⟩,fun h=>h.2⟩
 ·have hy:=tw.1 hy
  have c1:=H.cell y b hy.1.1 hy.1.2 b0 b1 e
  exact tw.2 ⟨⟨c1.1,c1.2.1⟩,by rw [c1.2.2.1]; exact hy.2⟩
end
end Go.Proofs.YtkcpiblgpnjanaaGreat
namespace Go.Li
open Go
section
variable {S S1 R α:Type} {body:S1→Option (Out S1 R)}
end
end Go.Li
namespace Go.Proofs.YtkcpiblgpnjanaaGreat
open Go Go.Li
def put (p:Int→List Int→Bool) (x:Int) (s:List Int):Int→List Int→Bool:=fun y t=>p y t || (y == x && t == s)
structure Tab (c:aI) (ls:List (List (List Int))):Prop where
 cat:rW c
 lists:Lq c c.aE.toNat ls
namespace Tab
variable {c:aI} {ls:List (List (List Int))} (T:Tab c ls)
include T
theorem len:(ls.length:Int)=c.aE:=by have h1:=T.lists.len; have h2:=T.cat.o0; omega
theorem sv {x:Int} (h0:0≤x) (h1:x < ls.length):zk c x (gl ls x):=T.lists.sv T.cat h0 (by have:=T.lists.len; omega)
theorem mem {x:Int} (h0:0≤x) (h1:x < ls.length) {s:List Int}:s∈gl ls x↔Sv c x s:=Td T.cat (T.sv h0 h1) s
theorem nodup {x:Int} (h0:0≤x) (h1:x < ls.length):(gl ls x).Nodup:=(T.sv h0 h1).nodup
theorem fr {a:Int} (a0:0≤a) (a1:a < c.aG.length):0≤gi c.aG a∧gi c.aG a < ls.length:=by have:=T.cat.fr a0 a1; rw [← T.len] at this; exact this
theorem to {a:Int} (a0:0≤a) (a1:a < c.aG.length):0≤gi c.To a∧gi c.To a < ls.length:=by have:=T.cat.to a0 a1; rw [← T.len] at this; exact this
theorem out {x:Int} (h0:0≤x) (h1:x < ls.length):sZ c x∈gl ls x:=(T.mem h0 h1).2 (Wm T.cat)
theorem arr {x:Int} (h0:0≤x) (h1:x < ls.length) {s:List Int} (hs:s∈gl ls x) {a:Int} (ha:a∈s):0≤a∧a < c.aG.length:=((T.mem h0 h1).1 hs).arr a ha
end Tab
def Wn (c:aI) (p:Int→List Int→Bool) (s t:List Int):Bool:=!(s.any fun a=>!(p (gi c.To a) (RV c a t)))
structure ait (c:aI) (ls:List (List (List Int))) (q:Int→List Int→Bool):Prop where
 top:∀ x:Int,0≤x→x < ls.length→q x (sZ c x)=true
 arrow:∀ a s:_,0≤a→a < (c.aG.length:Int)→s∈gl ls (gi c.aG a)→q (gi c.aG a) s=true→q (gi c.To a) (RV c a s)=true
 loc:∀ x:Int,0≤x→x < ls.length→∀ s∈gl ls x,∀ t∈gl ls x,q x s=true→Wn c q s t=true→q x t=true
section
variable {c:aI} {ls:List (List (List Int))} (T:Tab c ls) {p:Int→List Int→Bool}
include T
end
end Go.Proofs.YtkcpiblgpnjanaaGreat
namespace Go.Proofs.YtkcpiblgpnjanaaGreat
open Go Go.Li
def X8 (ls:List (List (List Int))):List (Int×List Int):=(ns ls.length).flatMap fun x=>(gl ls x).map fun s=>(x,s)
def G9 (ls:List (List (List Int))) (p:Int→List Int→Bool):Nat:=(X8 ls).countP fun z=>p z.1 z.2
def Le (ls:List (List (List Int))) (p q:Int→List Int→Bool):Prop:=∀ y:Int,0≤y→y < ls.length→∀ t∈gl ls y,p y t=true→q y t=true
theorem Le.tr {ls:List (List (List Int))} {p q r:Int→List Int→Bool} (h:Le ls p q) (g:Le ls q r):Le ls p r:=fun y h0 h1 t ht hp=>g y h0 h1 t ht (h y h0 h1 t ht hp)
theorem Le.put {ls:List (List (List Int))} {p:Int→List Int→Bool} {x:Int} {s:List Int}:Le ls p (put p x s):=fun y _ _ t _ h=>by
 show (p y t || _)=true
 rw [h]; rfl
end Go.Proofs.YtkcpiblgpnjanaaGreat
namespace Go.Proofs.YtkcpiblgpnjanaaGreat
open Go Go.Li
section
variable {c:aI} {ls:List (List (List Int))} (T:Tab c ls) {p:Int→List Int→Bool}
include T
end
end Go.Proofs.YtkcpiblgpnjanaaGreat
namespace Go.Proofs.YtkcpiblgpnjanaaGreat
open Go Go.Li
section
end
end Go.Proofs.YtkcpiblgpnjanaaGreat
namespace Go.Proofs.YtkcpiblgpnjanaaGreat
open Go Go.Li
end Go.Proofs.YtkcpiblgpnjanaaGreat
namespace Go.Proofs.YtkcpiblgpnjanaaGreat
open Go Go.Li
theorem N0 {S S1 R:Type} {body:S1→Option (Out S1 R)} {k:Nat} {f:S1→Option (Out S R)} {s0:S1} (l:List Int) (q:Int→Bool) (pk:List Int→Nat→S1) (e0:pk [] 0=s0)
  (step:∀ i a acc,l[i]? = some a→acc.length≤i→body (pk acc i)=some (.norm (pk (if q a then acc++[a] else acc) (i+1)))) (last:∀ acc,body (pk acc l.length)=some (.exit k (pk acc l.length))) :
  ai (af k (aj body s0)) f=f (pk (l.filter q) l.length):=by
 refine (tT l (fun i=>pk ((l.take i).filter q) i) (by simpa using e0) (fun i a ha=>?_) (e:=pk (l.filter q) l.length) ?_)
 ·rw [step i a _ ha (by have:=List.length_filter_le q (l.take i); rw [List.length_take] at this; omega),AK ha,List.filter_append]
  cases h:q a <;> simp [h]
 ·rw [last,List.take_length]
section
variable {c:aI} {ls:List (List (List Int))} (T:Tab c ls) {p q:Int→List Int→Bool}
include T
end
end Go.Proofs.YtkcpiblgpnjanaaGreat
namespace Go.Proofs.YtkcpiblgpnjanaaGreat
open Go Go.Li
section
variable {c:aI} (H:rW c)
include H
end
end Go.Proofs.YtkcpiblgpnjanaaGreat
namespace Go.Proofs.YtkcpiblgpnjanaaGreat
open Go Go.Li
def mx (c d:aI):Bool:=c.aE == d.aE && (c.aG == d.aG && (c.To == d.To && (c.aJ == d.aJ && c.aF == d.aF)))
theorem rU {c d:aI}:mx c d=true↔c=d:=by
 unfold mx
 simp only [Bool.and_eq_true,beq_iff_eq]
 constructor
 ·rintro ⟨h1,h2,h3,h4,h5⟩
  cases c; cases d
  dsimp only at h1 h2 h3 h4 h5
  rw [h1,h2,h3,h4,h5]
 ·rintro rfl; exact ⟨rfl,rfl,rfl,rfl,rfl⟩
theorem vr {c d:aI} (h:fu c):jN c d=some (mx c d):=by
 obtain ⟨h1,h2,h3,h4,h5⟩:=h
 have e5:pU c.aF d.aF=some (c.aF == d.aF):=JI _ _ (by omega) (fun z hz=>by have:=h5 z hz; omega)
 unfold jN mx
 cases c.aE == d.aE with
 | false=>rfl
 | true=>
  rw [cond_true,xx _ _ (by omega),aH]
  cases c.aG == d.aG with
  | false=>rfl
  | true=>
   rw [cond_true,xx _ _ (by omega),aH]
   cases c.To == d.To with
   | false=>rfl
   | true=>
    rw [cond_true,xx _ _ (by omega),aH]
    cases c.aJ == d.aJ with
    | false=>rfl
    | true=>rw [cond_true,e5]; rfl
theorem Qv:∀ {x y:List (List Int)},x.length=y.length→(x == y) = !((x.zip y).any fun z=>!(z.1 == z.2)):=by
 intro x
 induction x with
 | nil=>intro y h; cases y with
  | nil=>rfl
  | cons b y=>simp at h
 | cons a x ih=>
  intro y h
  cases y with
  | nil=>simp at h
  | cons b y=>
   have h':x.length=y.length:=by simpa using h
   rw [List.zip_cons_cons,List.any_cons,Bool.not_or,Bool.not_not,← ih h']; rfl
theorem vu {c d:aI} (h:fu c):fW c d=some (mx c d):=by
 obtain ⟨h1,h2,h3,h4,h5⟩:=h
 unfold fW mx
 cases e1:c.aE == d.aE with
 | false=>rw [show (c.aE != d.aE)=true by unfold bne; rw [e1]; rfl]; rfl
 | true=>
  rw [show (c.aE != d.aE)=false by unfold bne; rw [e1]; rfl,cond_false,tx _ _ (by omega),aH]
  cases c.aG == d.aG with
  | false=>rfl
  | true=>
   rw [Bool.not_true,cond_false,tx _ _ (by omega),aH]
   cases c.To == d.To with
   | false=>rfl
   | true=>
    rw [Bool.not_true,cond_false,tx _ _ (by omega),aH]
    cases c.aJ == d.aJ with
    | false=>rfl
    | true=>
     rw [Bool.not_true,cond_false,aH]
     simp only [Bool.true_and]
     by_cases hl:c.aF.length=d.aF.length
     ·rw [tu (by omega),cond_false,Qv hl]
      refine (congrArg ao (kn (c.aF.zip d.aF) (fun z=>!(z.1 == z.2)) (fun i=>(i:Int)) rfl ?_ ?_ (e:=((c.aF.zip d.aF).length:Int)) (y:=false) ?_)).trans ?_
      ·intro i z hz hp
       obtain ⟨z1,z2⟩:=z
       obtain ⟨g1,g2⟩:=List.getElem?_zip_eq_some.1 hz
       have hi:=cq g1
       have:=h5 _ (List.mem_of_getElem? g1)
       unfold iX
       rw [bn (by omega),cond_true,da,g1,aH,da,g2,aH,tx _ _ (by omega),aH]
       rw [show (!(z1 == z2))=false from hp,cond_false,cK (by omega)]
      ·intro i z hz hp
       obtain ⟨z1,z2⟩:=z
       obtain ⟨g1,g2⟩:=List.getElem?_zip_eq_some.1 hz
       have hi:=cq g1
       have:=h5 _ (List.mem_of_getElem? g1)
       unfold iX
       rw [bn (by omega),cond_true,da,g1,aH,da,g2,aH,tx _ _ (by omega),aH]
       rw [show (!(z1 == z2))=true from hp,cond_true]
      ·unfold iX
       rw [List.length_zip,← hl,Nat.min_self,bx (by omega),cond_false]
      ·cases (c.aF.zip d.aF).any fun z=>!(z.1 == z.2) <;> rfl
     ·rw [sY (by omega)]
      have:(c.aF == d.aF)=false:=tv fun h=>hl (by rw [h])
      rw [this]; rfl
end Go.Proofs.YtkcpiblgpnjanaaGreat
namespace Go.Proofs.YtkcpiblgpnjanaaGreat
open Go Go.Li
theorem yJ {S R:Type} {body:Int→Option (Out Int R)} {k:Nat} {f:Int→Option (Out S R)} {n:Nat} (p:Int→Bool) {y:R}
  (h:∀ i:Nat,i < n→body (i:Int)=bif p i then some (.ret y) else some (.norm ((i+1:Nat):Int))) (last:body (n:Int)=some (.exit k (n:Int))) :
  ai (af k (aj body (0:Int))) f=bif (ns n).any p then some (.ret y) else f n:=by
 refine (kn (ns n) p (fun i=>(i:Int)) rfl ?_ ?_ (e:=(n:Int)) (y:=y) ?_).trans ?_
 ·intro i x hx hp; obtain ⟨rfl,hi⟩:=ic hx; rw [h i hi,hp]; rfl
 ·intro i x hx hp; obtain ⟨rfl,hi⟩:=ic hx; rw [h i hi,hp]; rfl
 ·rw [eP]; exact last
 ·cases (ns n).any p <;> rfl
theorem acD {S R:Type} {body:Int→Option (Out Int R)} {k:Nat} {f:Int→Option (Out S R)} {n:Nat} (p:Int→Bool) (G:R→Prop)
  (h:∀ i:Nat,i < n→(p i=false∧body (i:Int)=some (.norm ((i+1:Nat):Int)))∨(p i=true∧∃ y,body (i:Int)=some (.ret y)∧G y)) (last:body (n:Int)=some (.exit k (n:Int))) :
  ((ns n).any p=false∧ai (af k (aj body (0:Int))) f=f n)∨((ns n).any p=true∧∃ y,ai (af k (aj body (0:Int))) f=some (.ret y)∧G y):=by
 refine (xu (ns n) p G (fun i=>(i:Int)) rfl ?_ ?_ (e:=(n:Int)) (by rw [eP]; exact last)).elim (fun h=>.inr h) (fun h=>.inl h)
 ·intro i x hx hp
  obtain ⟨rfl,hi⟩:=ic hx
  rcases h i hi with ⟨_,h⟩ | ⟨h,_⟩
  ·exact h
  ·rw [hp] at h; cases h
 ·intro i x hx hp
  obtain ⟨rfl,hi⟩:=ic hx
  rcases h i hi with ⟨h,_⟩ | ⟨_,h⟩
  ·rw [hp] at h; cases h
  ·exact h
theorem jv {α:Type} {b:Bool} {x y:α}:(bif b then some x else some y)=some (bif b then x else y):=by cases b <;> rfl
theorem wJ {a b:Bool}:(bif a then true else b)=(a || b):=by cases a <;> rfl
theorem rV {a b:Bool}:(bif a then b else false)=(a && b):=by cases a <;> rfl
theorem l3 {n:Nat} {p:Int→Bool}:(ns n).any p=false↔∀ i:Int,0≤i→i < n→p i=false:=by
 rw [List.any_eq_false]
 exact ⟨fun h i h0 h1=>by simpa using h i (fy.2 ⟨h0,h1⟩),fun h i hi=>by simp [h i (fy.1 hi).1 (fy.1 hi).2]⟩
namespace SFHead
end SFHead
end Go.Proofs.YtkcpiblgpnjanaaGreat
namespace Go.Proofs.YtkcpiblgpnjanaaGreat
open Go Go.Li
namespace SFShape
end SFShape
end Go.Proofs.YtkcpiblgpnjanaaGreat
namespace Go.Proofs.YtkcpiblgpnjanaaGreat
open Go Go.Li
namespace SMShape
end SMShape
def thenS (a b:List Int):List Int:=ep a.length fun i=>gi b (gi a i)
theorem Qw (a b:List Int) (ha:a.length≤1048576) (hb:∀ x∈a,0≤x∧x < b.length):qH a b=some (thenS a b):=by
 unfold qH
 rw [D9 (by omega) (by omega),aH]
 have hl:(thenS a b).length=a.length:=dC _ _
 refine (congrArg ao (tT (ns a.length) (fun i=>((i:Int),(thenS a b).take i++List.replicate (a.length - i) (0:Int))) (by simp) ?_ (e:=((a.length:Int),thenS a b)) ?_)).trans rfl
 ·intro i x hx
  obtain ⟨rfl,hi⟩:=ic hx
  have hg:(thenS a b)[i]? = some (gi b (gi a i)):=o4 _ hi
  have hm:=hb _ (dx (l:=a) (j:=(i:Int)) (by omega) (by omega))
  have hc:=H4 (thenS a b) (0:Int) hg
  have N1:=get_copy (thenS a b) (0:Int) hg
  rw [hl] at hc N1
  show mC a b (i:Int) _=_
  unfold mC
  rw [bn (by omega),cond_true,cM (by omega) (by omega),aH,cM hm.1 hm.2,aH,da,N1,aH,cK (by omega),Int.toNat_natCast,hc]
 ·rw [eP]
  show mC a b _ _=_
  unfold mC
  rw [bx (by omega),cond_false,Nat.sub_self,List.take_of_length_le (by omega)]
  simp
end Go.Proofs.YtkcpiblgpnjanaaGreat
