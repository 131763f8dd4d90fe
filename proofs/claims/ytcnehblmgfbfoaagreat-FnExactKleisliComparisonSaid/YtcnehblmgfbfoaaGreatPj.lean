/- All sieves at an object: the reference's search in depth and the program's search in breadth find the same list. No condition beside those that each theorem names. -/
import Derived.Test.YtcnehblmgfbfoaaGreatPh
import Derived.Test.YtcnehblmgfbfoaaGreatPa
set_option linter.unusedVariables false
set_option linter.unusedSectionVars false
set_option linter.unusedSimpArgs false
namespace Go.Li
open Go
end Go.Li
namespace Go.Proofs.YtcnehblmgfbfoaaGreat
open Go Go.Li
set_option linter.unusedSectionVars false
structure Sv (c:aH) (x:Int) (s:List Int):Prop where
 form:s=(ns c.aF.length).filter (hasB s)
 src:∀ y∈s,gi c.aF y=x
 closed:∀ y∈s,∀ b:Int,0≤b→b < c.aF.length→gi c.To y=gi c.aF b→gk c.aC y b∈s
theorem Sv.arr {c:aH} {x:Int} {s:List Int} (h:Sv c x s):I0 c s:=fun a ha=>by
 rw [h.form] at ha; exact cu.1 (List.mem_filter.1 ha).1
theorem Sv.len {c:aH} {x:Int} {s:List Int} (h:Sv c x s):s.length≤c.aF.length:=by
 rw [h.form]; exact Nat.le_trans (List.length_filter_le _ _) (by rw [bS]; exact Nat.le_refl _)
theorem Sv.nil (c:aH) (x:Int):Sv c x []:=⟨by rw [List.filter_eq_nil_iff.2]; intro a _; simp [hasB],fun _ h=>(nomatch h),fun _ h=>(nomatch h)⟩
theorem n4 {c:aH} {A:List Int} {a:Int}:a∈km c A↔(0≤a∧a < c.aF.length)∧∃ y∈A,∃ b:Int,(0≤b∧b < c.aF.length)∧gi c.To y=gi c.aF b∧gk c.aC y b=a:=by
 unfold km Mx
 rw [List.mem_filter,cu]
 simp only [List.any_eq_true,Bool.and_eq_true,beq_iff_eq]
 constructor
 ·rintro ⟨h,y,hy,b,hb,e1,e2⟩; exact ⟨h,y,hy,b,cu.1 hb,e1,e2⟩
 ·rintro ⟨h,y,hy,b,hb,e1,e2⟩; exact ⟨h,y,hy,b,cu.2 hb,e1,e2⟩
theorem Eu {n:Nat} {p:Int→Bool}:(ns n).filter p=(ns n).filter (hasB ((ns n).filter p)):=by
 apply List.filter_congr
 intro a ha
 rw [Bool.eq_iff_iff,zd,List.mem_filter]
 exact ⟨fun h=>⟨ha,h⟩,fun h=>h.2⟩
section
variable {c:aH} (H:gp c) {x:Int}
include H
theorem BD {A:List Int} (hA:I0 c A):∀ y∈A,y∈km c A:=fun y hy=>by
 have h:=hA y hy
 have ht:=H.to h.1 h.2
 have hi:=H.id ht.1 ht.2
 exact n4.2 ⟨h,y,hy,_,hi,(H.Fk _ ht.1 ht.2).symm,H.zC y h.1 h.2⟩
theorem KV {A:List Int} (hA:I0 c A) (hs:∀ y∈A,gi c.aF y=x):Sv c x (km c A):=by
 refine ⟨Eu,fun y hy=>?_,fun z hz b b0 b1 e=>?_⟩
 ·obtain ⟨_,z,hz,b,hb,e1,e2⟩:=n4.1 hy
  have h:=hA z hz
  rw [← e2,(H.cell z b h.1 h.2 hb.1 hb.2 e1).2.2.1]
  exact hs z hz
 ·obtain ⟨Fw,y,hy,a,ha,e1,e2⟩:=n4.1 hz
  have h:=hA y hy
  have c1:=H.cell y a h.1 h.2 ha.1 ha.2 e1
  have e3:gi c.To a=gi c.aF b:=by rw [← c1.2.2.2,e2]; exact e
  have c2:=H.cell a b ha.1 ha.2 b0 b1 e3
  have c3:=H.cell z b Fw.1 Fw.2 b0 b1 e
  refine n4.2 ⟨⟨c3.1,c3.2.1⟩,y,hy,gk c.aC a b,⟨c2.1,c2.2.1⟩,by rw [c2.2.2.1]; exact e1,?_⟩
  rw [← H.assoc y a b h.1 h.2 ha.1 ha.2 b0 b1 e1 e3,e2]
def ta (c:aH) (s:List Int) (a:Int):List Int:=km c (s++[a])
theorem DJ {s:List Int} {a:Int} (hs:Sv c x s) (ha:a∈p6 c x):I0 c (s++[a])∧∀ y∈s++[a],gi c.aF y=x:=by
 have h:=qF.1 ha
 refine ⟨fun y hy=>?_,fun y hy=>?_⟩
 ·rcases List.mem_append.1 hy with h' | h'
  ·exact hs.arr y h'
  ·rw [List.mem_singleton.1 h']; exact h.1
 ·rcases List.mem_append.1 hy with h' | h'
  ·exact hs.src y h'
  ·rw [List.mem_singleton.1 h']; exact h.2
theorem NT {s:List Int} {a:Int} (hs:Sv c x s) (ha:a∈p6 c x):Sv c x (ta c s a):=
 KV H (DJ H hs ha).1 (DJ H hs ha).2
theorem KW {s:List Int} (h:Reaches (p6 c x) (ta c) [] s):Sv c x s:=by
 induction h with
 | base=>exact Sv.nil c x
 | step _ ha ih=>exact NT H ih ha
structure vO (c:aH) (x:Int) (L:List (List Int)):Prop where
 mem:∀ s,s∈L↔Reaches (p6 c x) (ta c) [] s
 nodup:L.Nodup
 len:L.length≤16
theorem vO.sv {L:List (List Int)} (h:vO c x L):∀ s∈L,Sv c x s:=fun s hs=>KW H ((h.mem s).1 hs)
inductive Found (c:aH) (x:Int):Option (List (List Int))→Prop
 | Us (F:List (List Int)) (h:uZ (p6 c x) (ta c) [] F) (hl:F.length≤16):Found c x (some (F.mergeSort Mp))
 | many (h:GR (p6 c x) (ta c) 16 []):Found c x none
end
end Go.Proofs.YtcnehblmgfbfoaaGreat
namespace Go.Li
open Go
def br {β:Type} (n:Nat) (g:Int→β):List β:=(ns n).map g
theorem bX {β:Type} (n:Nat) (g:Int→β):(br n g).length=n:=by simp [br,bS]
theorem gn {β:Type} (n:Nat) (g:Int→β):br (n+1) g=br n g++[g n]:=by
 unfold br ns
 rw [List.range_succ]; simp
theorem rX {β:Type} {n i:Nat} (g:Int→β) (h:i < n):(br n g)[i]? = some (g i):=by
 unfold br ns
 simp [h]
theorem ze {β:Type} {n:Nat} {g:Int→β} {y:β}:y∈br n g↔∃ x:Int,(0≤x∧x < n)∧g x=y:=by
 unfold br; simp only [List.mem_map,cu]
theorem uj {S S1 R β:Type} {body:S1→Option (Out S1 R)} {k:Nat} {f:S1→Option (Out S R)} {Rk:S1} (n:Nat) (g:Int→β) (pk:List β→Nat→S1) (e0:pk [] 0=Rk)
  (step:∀ i acc,i < n→acc.length=i→body (pk acc i)=some (.norm (pk (acc++[g i]) (i+1)))) (last:∀ acc,acc.length=n→body (pk acc n)=some (.exit k (pk acc n))) :
  aj (ah k (ai body Rk)) f=f (pk (br n g) n):=by
 rw [← e0]
 refine bu (ns n) (fun i=>pk (br i g) i) rfl ?_ ?_
 ·intro i x hx
  obtain ⟨rfl,hi⟩:=ca hx
  rw [step i _ hi (bX i g),gn]
 ·rw [bS]; exact last _ (bX n g)
def gl {α:Type} (l:List (List α)) (j:Int):List α:=l.getD j.toNat []
theorem Hh {α:Type} {l:List (List α)} {i:Nat} (h:i < l.length):l[i]? = some (gl l i):=by
 unfold gl; rw [List.getD_eq_getElem?_getD,Int.toNat_natCast,List.getElem?_eq_getElem h]; rfl
theorem FL {α β:Type} (l:List (List α)) (g:List α→β):br l.length (fun i=>g (gl l i))=l.map g:=by
 apply List.ext_getElem?
 intro i
 by_cases h:i < l.length
 ·rw [rX _ h,List.getElem?_map,Hh h]; rfl
 ·rw [List.getElem?_eq_none (by rw [bX]; omega),List.getElem?_eq_none (by rw [List.length_map]; omega)]
end Go.Li
namespace Go.Proofs.YtcnehblmgfbfoaaGreat
open Go Go.Li
set_option linter.unusedSectionVars false
theorem qG (l:List Int) (hl:l.length≤1048576):fX l=some l:=by
 unfold fX
 rw [cR (by simp; omega) (by simp; omega),aA,List.nil_append]; rfl
theorem KX (l:List (List Int)) (hl:l.length≤1048576) (hr:∀ y∈l,y.length≤1048576):mS l=some l:=by
 unfold mS
 refine (congrArg an (uj l.length (gr l) (fun acc i=>(acc,(i:Int))) rfl ?_ ?_)).trans ?_
 ·intro i acc hi ha
  show iV l acc i=_
  unfold iV
  rw [aq (by omega),cond_true,jt (by omega) (by omega),aA,qG _ (hr _ (jr (by omega) (by omega))),aA,cR (by omega) (by omega),aA,bK (by omega)]
 ·intro acc ha
  show iV l acc _=_
  unfold iV
  rw [au (by omega),cond_false]
 ·show some (br l.length (gr l))=_
  have:=FL l (fun x=>x)
  rw [List.map_id'] at this
  exact congrArg some this
theorem DK {c:aH} (h:de c):lY c=some c:=by
 unfold lY
 rw [qG _ h.f,aA,qG _ h.t,aA,qG _ h.i,aA,KX _ h.k h.r,aA]; rfl
theorem DL {c:aH} (h:de c):gE c=some c:=by
 have h1:∀ l:List Int,l.length≤1048576→gB l=some l:=fun l hl=>qG l hl
 have hk:=h.k
 unfold gE
 rw [h1 _ h.f,aA,h1 _ h.t,aA,h1 _ h.i,aA]
 have:nG c.aC=some c.aC:=by
  unfold nG
  rw [wK (by omega) (by omega),aA]
  refine (congrArg an (uj c.aC.length (gr c.aC) (fun acc i=>(acc,(i:Int))) rfl ?_ ?_)).trans ?_
  ·intro i acc hi ha
   show jW c.aC acc i=_
   unfold jW
   rw [aq (by omega),cond_true,jt (by omega) (by omega),aA,h1 _ (h.r _ (jr (by omega) (by omega))),aA,cR (by omega) (by omega),aA,bK (by omega)]
  ·intro acc ha
   show jW c.aC acc _=_
   unfold jW
   rw [au (by omega),cond_false]
  ·have:=FL c.aC (fun x=>x)
   rw [List.map_id'] at this
   exact congrArg some this
 rw [this,aA]; rfl
structure GS (c:aH) (k:Nat) (ls:List (List (List Int))):Prop where
 len:ls.length=k
 found:∀ i:Nat,i < k→Found c i (some (gl ls i))
section
variable {c:aH} (H:gp c)
include H
theorem KY {x:Int} {L:List (List Int)} (h:Found c x (some L)):vO c x L:=by
 cases h with
 | Us F h hl=>
  have hp:=List.mergeSort_perm F Mp
  exact ⟨fun s=>by rw [hp.mem_iff]; exact h.mem s,hp.nodup_iff.2 h.nodup,by rw [hp.length_eq]; exact hl⟩
theorem GS.sv {k:Nat} {ls:List (List (List Int))} (h:GS c k ls) {i:Int} (h0:0≤i) (h1:i < k):vO c i (gl ls i):=by
 have:=h.found i.toNat (by omega)
 rw [Int.toNat_of_nonneg h0] at this
 exact KY H this
def J8 (c:aH) (ls:List (List (List Int))):List Int:=br ls.length fun x=>Rj (gl ls x) (p6 c x)
end
end Go.Proofs.YtcnehblmgfbfoaaGreat
namespace Go.Proofs.YtcnehblmgfbfoaaGreat
open Go Go.Li
set_option linter.unusedSectionVars false
section
variable {c:aH} (H:gp c)
include H
end
end Go.Proofs.YtcnehblmgfbfoaaGreat
namespace Go.Proofs.YtcnehblmgfbfoaaGreat
open Go Go.Li
section
variable {c:aH} (H:oE c)
include H
end
section
variable {c:aH} (H:gp c) {x:Int}
include H
theorem I3 {A:List Int} {a:Int} (hA:I0 c A):km c (km c A++[a])=km c (A++[a]):=by
 show (ns c.aF.length).filter _=(ns c.aF.length).filter _
 apply List.filter_congr
 intro z hz
 have key:∀ B:List Int,Mx c B z=true↔z∈km c B:=fun B=>by
  unfold km; rw [List.mem_filter]; exact ⟨fun h=>⟨hz,h⟩,fun h=>h.2⟩
 rw [Bool.eq_iff_iff,key,key,n4,n4]
 refine and_congr_right fun hz=>⟨?_,?_⟩
 ·rintro ⟨y,hy,b,hb,e1,e2⟩
  rcases List.mem_append.1 hy with hy | hy
  ·obtain ⟨yu,u,hu,b',cb,e3,e4⟩:=n4.1 hy
   have yy:=hA u hu
   have c1:=H.cell u b' yy.1 yy.2 cb.1 cb.2 e3
   have e5:gi c.To b'=gi c.aF b:=by rw [← c1.2.2.2,e4]; exact e1
   have c2:=H.cell b' b cb.1 cb.2 hb.1 hb.2 e5
   exact ⟨u,List.mem_append_left _ hu,gk c.aC b' b,⟨c2.1,c2.2.1⟩,by rw [c2.2.2.1]; exact e3,by rw [← H.assoc u b' b yy.1 yy.2 cb.1 cb.2 hb.1 hb.2 e3 e5,e4]; exact e2⟩
  ·exact ⟨y,List.mem_append_right _ hy,b,hb,e1,e2⟩
 ·rintro ⟨y,hy,b,hb,e1,e2⟩
  rcases List.mem_append.1 hy with hy | hy
  ·exact ⟨y,List.mem_append_left _ (BD H hA y hy),b,hb,e1,e2⟩
  ·exact ⟨y,List.mem_append_right _ hy,b,hb,e1,e2⟩
theorem Ev:∀ (n:Nat) (A:List Int),A.length=n→(∀ a∈A,a∈p6 c x)→Reaches (p6 c x) (ta c) [] (km c A):=by
 intro n
 induction n with
 | zero=>
  intro A hA _
  obtain rfl:A=[]:=List.length_eq_zero_iff.1 hA
  have:km c []=[]:=by unfold km; rw [List.filter_eq_nil_iff]; intro a _; simp [Mx]
  rw [this]; exact .base
 | succ n ih=>
  intro A hA hs
  have mz:A≠[]:=by rintro rfl; cases hA
  have hd:=List.dropLast_concat_getLast mz
  have hl:A.getLast mz∈A:=List.getLast_mem mz
  have ea:∀ a∈A.dropLast,a∈p6 c x:=fun a ha=>hs a (List.dropLast_subset A ha)
  have h1:=ih A.dropLast (by simp; omega) ea
  have h2:=Reaches.step (step:=ta c) h1 (hs _ hl)
  unfold ta at h2
  rw [I3 H (fun a ha=>(qF.1 (ea a ha)).1),hd] at h2
  exact h2
theorem K8 {s:List Int} (h:Sv c x s):Reaches (p6 c x) (ta c) [] s:=by
 have h1:=Ev H s.length s rfl fun a ha=>qF.2 ⟨h.arr a ha,h.src a ha⟩
 have h2:km c s=s:=by
  conv=>rhs; rw [h.form]
  unfold km
  apply List.filter_congr
  intro z hz
  rw [Bool.eq_iff_iff,zd]
  constructor
  ·intro hc
   have:z∈km c s:=List.mem_filter.2 ⟨hz,hc⟩
   obtain ⟨_,y,hy,b,hb,e1,e2⟩:=n4.1 this
   rw [← e2]; exact h.closed y hy b hb.1 hb.2 e1
  ·intro hs
   exact (List.mem_filter.1 (BD H h.arr z hs)).2
 rw [h2] at h1; exact h1
theorem NY {L:List (List Int)} (h:vO c x L) (s:List Int):s∈L↔Sv c x s:=⟨h.sv H s,fun hs=>(h.mem s).2 (K8 H hs)⟩
theorem Rw:Sv c x (p6 c x):=by
 refine ⟨?_,fun y hy=>(qF.1 hy).2,fun y hy b b0 b1 e=>?_⟩
 ·show (ns c.aF.length).filter _=_
  apply List.filter_congr
  intro z hz
  rw [Bool.eq_iff_iff,zd,qF]
  simp only [beq_iff_eq]
  exact ⟨fun h=>⟨cu.1 hz,h⟩,fun h=>h.2⟩
 ·have hy:=qF.1 hy
  have c1:=H.cell y b hy.1.1 hy.1.2 b0 b1 e
  exact qF.2 ⟨⟨c1.1,c1.2.1⟩,by rw [c1.2.2.1]; exact hy.2⟩
end
end Go.Proofs.YtcnehblmgfbfoaaGreat
namespace Go.Li
open Go
section
variable {S S1 R α:Type} {body:S1→Option (Out S1 R)}
end
end Go.Li
namespace Go.Proofs.YtcnehblmgfbfoaaGreat
open Go Go.Li
def put (p:Int→List Int→Bool) (x:Int) (s:List Int):Int→List Int→Bool:=fun y t=>p y t || (y == x && t == s)
structure Tab (c:aH) (ls:List (List (List Int))):Prop where
 cat:gp c
 lists:GS c c.aD.toNat ls
namespace Tab
variable {c:aH} {ls:List (List (List Int))} (T:Tab c ls)
include T
theorem len:(ls.length:Int)=c.aD:=by have h1:=T.lists.len; have h2:=T.cat.o0; omega
theorem sv {x:Int} (h0:0≤x) (h1:x < ls.length):vO c x (gl ls x):=T.lists.sv T.cat h0 (by have:=T.lists.len; omega)
theorem mem {x:Int} (h0:0≤x) (h1:x < ls.length) {s:List Int}:s∈gl ls x↔Sv c x s:=NY T.cat (T.sv h0 h1) s
theorem nodup {x:Int} (h0:0≤x) (h1:x < ls.length):(gl ls x).Nodup:=(T.sv h0 h1).nodup
theorem fr {a:Int} (a0:0≤a) (a1:a < c.aF.length):0≤gi c.aF a∧gi c.aF a < ls.length:=by have:=T.cat.fr a0 a1; rw [← T.len] at this; exact this
theorem to {a:Int} (a0:0≤a) (a1:a < c.aF.length):0≤gi c.To a∧gi c.To a < ls.length:=by have:=T.cat.to a0 a1; rw [← T.len] at this; exact this
theorem out {x:Int} (h0:0≤x) (h1:x < ls.length):p6 c x∈gl ls x:=(T.mem h0 h1).2 (Rw T.cat)
theorem arr {x:Int} (h0:0≤x) (h1:x < ls.length) {s:List Int} (hs:s∈gl ls x) {a:Int} (ha:a∈s):0≤a∧a < c.aF.length:=((T.mem h0 h1).1 hs).arr a ha
end Tab
def Rx (c:aH) (p:Int→List Int→Bool) (s t:List Int):Bool:=!(s.any fun a=>!(p (gi c.To a) (My c a t)))
structure acK (c:aH) (ls:List (List (List Int))) (q:Int→List Int→Bool):Prop where
 top:∀ x:Int,0≤x→x < ls.length→q x (p6 c x)=true
 arrow:∀ a s:_,0≤a→a < (c.aF.length:Int)→s∈gl ls (gi c.aF a)→q (gi c.aF a) s=true→q (gi c.To a) (My c a s)=true
 loc:∀ x:Int,0≤x→x < ls.length→∀ s∈gl ls x,∀ t∈gl ls x,q x s=true→Rx c q s t=true→q x t=true
section
variable {c:aH} {ls:List (List (List Int))} (T:Tab c ls) {p:Int→List Int→Bool}
include T
end
end Go.Proofs.YtcnehblmgfbfoaaGreat
namespace Go.Proofs.YtcnehblmgfbfoaaGreat
open Go Go.Li
def Tu (ls:List (List (List Int))):List (Int×List Int):=(ns ls.length).flatMap fun x=>(gl ls x).map fun s=>(x,s)
def CT (ls:List (List (List Int))) (p:Int→List Int→Bool):Nat:=(Tu ls).countP fun z=>p z.1 z.2
def Le (ls:List (List (List Int))) (p q:Int→List Int→Bool):Prop:=∀ y:Int,0≤y→y < ls.length→∀ t∈gl ls y,p y t=true→q y t=true
theorem Le.put {ls:List (List (List Int))} {p:Int→List Int→Bool} {x:Int} {s:List Int}:Le ls p (put p x s):=fun y _ _ t _ h=>by
 show (p y t || _)=true
 rw [h]; rfl
end Go.Proofs.YtcnehblmgfbfoaaGreat
namespace Go.Proofs.YtcnehblmgfbfoaaGreat
open Go Go.Li
section
variable {c:aH} {ls:List (List (List Int))} (T:Tab c ls) {p:Int→List Int→Bool}
include T
end
end Go.Proofs.YtcnehblmgfbfoaaGreat
namespace Go.Proofs.YtcnehblmgfbfoaaGreat
open Go Go.Li
end Go.Proofs.YtcnehblmgfbfoaaGreat
namespace Go.Proofs.YtcnehblmgfbfoaaGreat
open Go Go.Li
end Go.Proofs.YtcnehblmgfbfoaaGreat
namespace Go.Proofs.YtcnehblmgfbfoaaGreat
open Go Go.Li
theorem uO {S S1 R:Type} {body:S1→Option (Out S1 R)} {k:Nat} {f:S1→Option (Out S R)} {s0:S1} (l:List Int) (q:Int→Bool) (pk:List Int→Nat→S1) (e0:pk [] 0=s0)
  (step:∀ i a acc,l[i]? = some a→acc.length≤i→body (pk acc i)=some (.norm (pk (if q a then acc++[a] else acc) (i+1)))) (last:∀ acc,body (pk acc l.length)=some (.exit k (pk acc l.length))) :
  aj (ah k (ai body s0)) f=f (pk (l.filter q) l.length):=by
 refine (bu l (fun i=>pk ((l.take i).filter q) i) (by simpa using e0) (fun i a ha=>?_) (e:=pk (l.filter q) l.length) ?_)
 ·rw [step i a _ ha (by have:=List.length_filter_le q (l.take i); rw [List.length_take] at this; omega),ee ha,List.filter_append]
  cases h:q a <;> simp [h]
 ·rw [last,List.take_length]
section
variable {c:aH} {ls:List (List (List Int))} (T:Tab c ls) {p q:Int→List Int→Bool}
include T
end
end Go.Proofs.YtcnehblmgfbfoaaGreat
namespace Go.Proofs.YtcnehblmgfbfoaaGreat
open Go Go.Li
end Go.Proofs.YtcnehblmgfbfoaaGreat
namespace Go.Proofs.YtcnehblmgfbfoaaGreat
open Go Go.Li
def oK (c d:aH):Bool:=c.aD == d.aD && (c.aF == d.aF && (c.To == d.To && (c.aG == d.aG && c.aC == d.aC)))
theorem qH {c d:aH}:oK c d=true↔c=d:=by
 unfold oK
 simp only [Bool.and_eq_true,beq_iff_eq]
 constructor
 ·rintro ⟨h1,h2,h3,h4,h5⟩
  cases c; cases d
  dsimp only at h1 h2 h3 h4 h5
  rw [h1,h2,h3,h4,h5]
 ·rintro rfl; exact ⟨rfl,rfl,rfl,rfl,rfl⟩
theorem Ey {c d:aH} (h:de c):mR c d=some (oK c d):=by
 obtain ⟨h1,h2,h3,h4,h5⟩:=h
 have e5:nM c.aC d.aC=some (c.aC == d.aC):=FI _ _ (by omega) (fun z hz=>by have:=h5 z hz; omega)
 unfold mR oK
 cases c.aD == d.aD with
 | false=>rfl
 | true=>
  rw [cond_true,tV _ _ (by omega),aA]
  cases c.aF == d.aF with
  | false=>rfl
  | true=>
   rw [cond_true,tV _ _ (by omega),aA]
   cases c.To == d.To with
   | false=>rfl
   | true=>
    rw [cond_true,tV _ _ (by omega),aA]
    cases c.aG == d.aG with
    | false=>rfl
    | true=>rw [cond_true,e5]; rfl
theorem Lf:∀ {x y:List (List Int)},x.length=y.length→(x == y) = !((x.zip y).any fun z=>!(z.1 == z.2)):=by
 intro x
 induction x with
 | nil=>intro y h; cases y with
  | nil=>rfl
  | cons b y=>simp at h
 | cons a x ih=>
  intro y h
  cases y with
  | nil=>simp at h
  | cons b y=>
   have h':x.length=y.length:=by simpa using h
   rw [List.zip_cons_cons,List.any_cons,Bool.not_or,Bool.not_not,← ih h']; rfl
theorem vk {c d:aH} (h:de c):fO c d=some (oK c d):=by
 obtain ⟨h1,h2,h3,h4,h5⟩:=h
 unfold fO oK
 cases e1:c.aD == d.aD with
 | false=>rw [show (c.aD != d.aD)=true by unfold bne; rw [e1]; rfl]; rfl
 | true=>
  rw [show (c.aD != d.aD)=false by unfold bne; rw [e1]; rfl,cond_false,ui _ _ (by omega),aA]
  cases c.aF == d.aF with
  | false=>rfl
  | true=>
   rw [Bool.not_true,cond_false,ui _ _ (by omega),aA]
   cases c.To == d.To with
   | false=>rfl
   | true=>
    rw [Bool.not_true,cond_false,ui _ _ (by omega),aA]
    cases c.aG == d.aG with
    | false=>rfl
    | true=>
     rw [Bool.not_true,cond_false,aA]
     simp only [Bool.true_and]
     by_cases hl:c.aC.length=d.aC.length
     ·rw [ua (by omega),cond_false,Lf hl]
      refine (congrArg an (ib (c.aC.zip d.aC) (fun z=>!(z.1 == z.2)) (fun i=>(i:Int)) rfl ?_ ?_ (e:=((c.aC.zip d.aC).length:Int)) (y:=false) ?_)).trans ?_
      ·intro i z hz hp
       obtain ⟨z1,z2⟩:=z
       obtain ⟨g1,g2⟩:=List.getElem?_zip_eq_some.1 hz
       have hi:=bd g1
       have:=h5 _ (List.mem_of_getElem? g1)
       unfold gY
       rw [aq (by omega),cond_true,bh,g1,aA,bh,g2,aA,ui _ _ (by omega),aA]
       rw [show (!(z1 == z2))=false from hp,cond_false,bK (by omega)]
      ·intro i z hz hp
       obtain ⟨z1,z2⟩:=z
       obtain ⟨g1,g2⟩:=List.getElem?_zip_eq_some.1 hz
       have hi:=bd g1
       have:=h5 _ (List.mem_of_getElem? g1)
       unfold gY
       rw [aq (by omega),cond_true,bh,g1,aA,bh,g2,aA,ui _ _ (by omega),aA]
       rw [show (!(z1 == z2))=true from hp,cond_true]
      ·unfold gY
       rw [List.length_zip,← hl,Nat.min_self,au (by omega),cond_false]
      ·cases (c.aC.zip d.aC).any fun z=>!(z.1 == z.2) <;> rfl
     ·rw [p5 (by omega)]
      have:(c.aC == d.aC)=false:=kh fun h=>hl (by rw [h])
      rw [this]; rfl
end Go.Proofs.YtcnehblmgfbfoaaGreat
namespace Go.Proofs.YtcnehblmgfbfoaaGreat
open Go Go.Li
theorem rY {S R:Type} {body:Int→Option (Out Int R)} {k:Nat} {f:Int→Option (Out S R)} {n:Nat} (p:Int→Bool) {y:R}
  (h:∀ i:Nat,i < n→body (i:Int)=bif p i then some (.ret y) else some (.norm ((i+1:Nat):Int))) (last:body (n:Int)=some (.exit k (n:Int))) :
  aj (ah k (ai body (0:Int))) f=bif (ns n).any p then some (.ret y) else f n:=by
 refine (ib (ns n) p (fun i=>(i:Int)) rfl ?_ ?_ (e:=(n:Int)) (y:=y) ?_).trans ?_
 ·intro i x hx hp; obtain ⟨rfl,hi⟩:=ca hx; rw [h i hi,hp]; rfl
 ·intro i x hx hp; obtain ⟨rfl,hi⟩:=ca hx; rw [h i hi,hp]; rfl
 ·rw [bS]; exact last
 ·cases (ns n).any p <;> rfl
theorem Xs {S R:Type} {body:Int→Option (Out Int R)} {k:Nat} {f:Int→Option (Out S R)} {n:Nat} (p:Int→Bool) (G:R→Prop)
  (h:∀ i:Nat,i < n→(p i=false∧body (i:Int)=some (.norm ((i+1:Nat):Int)))∨(p i=true∧∃ y,body (i:Int)=some (.ret y)∧G y)) (last:body (n:Int)=some (.exit k (n:Int))) :
  ((ns n).any p=false∧aj (ah k (ai body (0:Int))) f=f n)∨((ns n).any p=true∧∃ y,aj (ah k (ai body (0:Int))) f=some (.ret y)∧G y):=by
 refine (uf (ns n) p G (fun i=>(i:Int)) rfl ?_ ?_ (e:=(n:Int)) (by rw [bS]; exact last)).elim (fun h=>.inr h) (fun h=>.inl h)
 ·intro i x hx hp
  obtain ⟨rfl,hi⟩:=ca hx
  rcases h i hi with ⟨_,h⟩ | ⟨h,_⟩
  ·exact h
  ·rw [hp] at h; cases h
 ·intro i x hx hp
  obtain ⟨rfl,hi⟩:=ca hx
  rcases h i hi with ⟨h,_⟩ | ⟨_,h⟩
  ·rw [hp] at h; cases h
  ·exact h
theorem u3 {α:Type} {b:Bool} {x y:α}:(bif b then some x else some y)=some (bif b then x else y):=by cases b <;> rfl
theorem AM {a b:Bool}:(bif a then true else b)=(a || b):=by cases a <;> rfl
theorem Lh {a b:Bool}:(bif a then b else false)=(a && b):=by cases a <;> rfl
theorem ei {n:Nat} {p:Int→Bool}:(ns n).any p=false↔∀ i:Int,0≤i→i < n→p i=false:=by
 rw [List.any_eq_false]
 exact ⟨fun h i h0 h1=>by simpa using h i (cu.2 ⟨h0,h1⟩),fun h i hi=>by simp [h i (cu.1 hi).1 (cu.1 hi).2]⟩
namespace SFHead
end SFHead
end Go.Proofs.YtcnehblmgfbfoaaGreat
namespace Go.Proofs.YtcnehblmgfbfoaaGreat
open Go Go.Li
namespace SFShape
end SFShape
end Go.Proofs.YtcnehblmgfbfoaaGreat
namespace Go.Proofs.YtcnehblmgfbfoaaGreat
open Go Go.Li
namespace SMShape
end SMShape
def thenS (a b:List Int):List Int:=br a.length fun i=>gi b (gi a i)
theorem DZ (a b:List Int) (ha:a.length≤1048576) (hb:∀ x∈a,0≤x∧x < b.length):nH a b=some (thenS a b):=by
 unfold nH
 rw [wK (by omega) (by omega),aA]
 have hl:(thenS a b).length=a.length:=bX _ _
 refine (congrArg an (bu (ns a.length) (fun i=>((i:Int),(thenS a b).take i++List.replicate (a.length - i) (0:Int))) (by simp) ?_ (e:=((a.length:Int),thenS a b)) ?_)).trans rfl
 ·intro i x hx
  obtain ⟨rfl,hi⟩:=ca hx
  have hg:(thenS a b)[i]? = some (gi b (gi a i)):=rX _ hi
  have hm:=hb _ (lp (l:=a) (j:=(i:Int)) (by omega) (by omega))
  have hc:=rW (thenS a b) (0:Int) hg
  have I9:=get_copy (thenS a b) (0:Int) hg
  rw [hl] at hc I9
  show lD a b (i:Int) _=_
  unfold lD
  rw [aq (by omega),cond_true,cI (by omega) (by omega),aA,cI hm.1 hm.2,aA,bh,I9,aA,bK (by omega),Int.toNat_natCast,hc]
 ·rw [bS]
  show lD a b _ _=_
  unfold lD
  rw [au (by omega),cond_false,Nat.sub_self,List.take_of_length_le (by omega)]
  simp
end Go.Proofs.YtcnehblmgfbfoaaGreat
