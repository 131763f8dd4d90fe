/- All sieves at an object: the reference's search in depth and the program's search in breadth find the same list. No condition beside those that each theorem names. -/
import Derived.Test.YtcnehblmgfbfoaaGreatPh
import Derived.Test.YtcnehblmgfbfoaaGreatPa
set_option linter.unusedVariables false
set_option linter.unusedSectionVars false
set_option linter.unusedSimpArgs false
namespace Go.Li
open Go
end Go.Li
namespace Go.Proofs.YtcnehblmgfbfoaaGreat
open Go Go.Li
set_option linter.unusedSectionVars false
structure Sv (c:aH) (x:Int) (s:List Int):Prop where
 form:s=(ns c.aG.length).filter (hasB s)
 src:∀ y∈s,gi c.aG y=x
 closed:∀ y∈s,∀ b:Int,0≤b→b < c.aG.length→gi c.To y=gi c.aG b→gk c.aB y b∈s
theorem Sv.arr {c:aH} {x:Int} {s:List Int} (h:Sv c x s):Pt c s:=fun a ha=>by
 rw [h.form] at ha; exact dv.1 (List.mem_filter.1 ha).1
theorem Sv.len {c:aH} {x:Int} {s:List Int} (h:Sv c x s):s.length≤c.aG.length:=by
 rw [h.form]; exact Nat.le_trans (List.length_filter_le _ _) (by rw [cH]; exact Nat.le_refl _)
theorem Sv.nil (c:aH) (x:Int):Sv c x []:=⟨by rw [List.filter_eq_nil_iff.2]; intro a _; simp [hasB],fun _ h=>(nomatch h),fun _ h=>(nomatch h)⟩
theorem rh {c:aH} {A:List Int} {a:Int}:a∈oq c A↔(0≤a∧a < c.aG.length)∧∃ y∈A,∃ b:Int,(0≤b∧b < c.aG.length)∧gi c.To y=gi c.aG b∧gk c.aB y b=a:=by
 unfold oq TE
 rw [List.mem_filter,dv]
 simp only [List.any_eq_true,Bool.and_eq_true,beq_iff_eq]
 constructor
 ·rintro ⟨h,y,hy,b,hb,e1,e2⟩; exact ⟨h,y,hy,b,dv.1 hb,e1,e2⟩
 ·rintro ⟨h,y,hy,b,hb,e1,e2⟩; exact ⟨h,y,hy,b,dv.2 hb,e1,e2⟩
theorem Kh {n:Nat} {p:Int→Bool}:(ns n).filter p=(ns n).filter (hasB ((ns n).filter p)):=by
 apply List.filter_congr
 intro a ha
 rw [Bool.eq_iff_iff,Ee,List.mem_filter]
 exact ⟨fun h=>⟨ha,h⟩,fun h=>h.2⟩
section
variable {c:aH} (H:lg c) {x:Int}
include H
theorem Hi {A:List Int} (hA:Pt c A):∀ y∈A,y∈oq c A:=fun y hy=>by
 have h:=hA y hy
 have ht:=H.to h.1 h.2
 have hi:=H.id ht.1 ht.2
 exact rh.2 ⟨h,y,hy,_,hi,(H.zb _ ht.1 ht.2).symm,H.C3 y h.1 h.2⟩
theorem R9 {A:List Int} (hA:Pt c A) (hs:∀ y∈A,gi c.aG y=x):Sv c x (oq c A):=by
 refine ⟨Kh,fun y hy=>?_,fun z hz b b0 b1 e=>?_⟩
 ·obtain ⟨_,z,hz,b,hb,e1,e2⟩:=rh.1 hy
  have h:=hA z hz
  rw [← e2,(H.cell z b h.1 h.2 hb.1 hb.2 e1).2.2.1]
  exact hs z hz
 ·obtain ⟨IN,y,hy,a,ha,e1,e2⟩:=rh.1 hz
  have h:=hA y hy
  have c1:=H.cell y a h.1 h.2 ha.1 ha.2 e1
  have e3:gi c.To a=gi c.aG b:=by rw [← c1.2.2.2,e2]; exact e
  have c2:=H.cell a b ha.1 ha.2 b0 b1 e3
  have c3:=H.cell z b IN.1 IN.2 b0 b1 e
  refine rh.2 ⟨⟨c3.1,c3.2.1⟩,y,hy,gk c.aB a b,⟨c2.1,c2.2.1⟩,by rw [c2.2.2.1]; exact e1,?_⟩
  rw [← H.assoc y a b h.1 h.2 ha.1 ha.2 b0 b1 e1 e3,e2]
def xA (c:aH) (s:List Int) (a:Int):List Int:=oq c (s++[a])
theorem JN {s:List Int} {a:Int} (hs:Sv c x s) (ha:a∈l9 c x):Pt c (s++[a])∧∀ y∈s++[a],gi c.aG y=x:=by
 have h:=qj.1 ha
 refine ⟨fun y hy=>?_,fun y hy=>?_⟩
 ·rcases List.mem_append.1 hy with h' | h'
  ·exact hs.arr y h'
  ·rw [List.mem_singleton.1 h']; exact h.1
 ·rcases List.mem_append.1 hy with h' | h'
  ·exact hs.src y h'
  ·rw [List.mem_singleton.1 h']; exact h.2
theorem UN {s:List Int} {a:Int} (hs:Sv c x s) (ha:a∈l9 c x):Sv c x (xA c s a):=
 R9 H (JN H hs ha).1 (JN H hs ha).2
theorem Sa {s:List Int} (h:Reaches (l9 c x) (xA c) [] s):Sv c x s:=by
 induction h with
 | base=>exact Sv.nil c x
 | step _ ha ih=>exact UN H ih ha
structure Ai (c:aH) (x:Int) (L:List (List Int)):Prop where
 mem:∀ s,s∈L↔Reaches (l9 c x) (xA c) [] s
 nodup:L.Nodup
 len:L.length≤16
theorem Ai.sv {L:List (List Int)} (h:Ai c x L):∀ s∈L,Sv c x s:=fun s hs=>Sa H ((h.mem s).1 hs)
inductive Found (c:aH) (x:Int):Option (List (List Int))→Prop
 | TD (F:List (List Int)) (h:zx (l9 c x) (xA c) [] F) (hl:F.length≤16):Found c x (some (F.mergeSort Ts))
 | many (h:M1 (l9 c x) (xA c) 16 []):Found c x none
end
end Go.Proofs.YtcnehblmgfbfoaaGreat
namespace Go.Li
open Go
def cj {β:Type} (n:Nat) (g:Int→β):List β:=(ns n).map g
theorem bI {β:Type} (n:Nat) (g:Int→β):(cj n g).length=n:=by simp [cj,cH]
theorem km {β:Type} (n:Nat) (g:Int→β):cj (n+1) g=cj n g++[g n]:=by
 unfold cj ns
 rw [List.range_succ]; simp
theorem vR {β:Type} {n i:Nat} (g:Int→β) (h:i < n):(cj n g)[i]? = some (g i):=by
 unfold cj ns
 simp [h]
theorem uk {β:Type} {n:Nat} {g:Int→β} {y:β}:y∈cj n g↔∃ x:Int,(0≤x∧x < n)∧g x=y:=by
 unfold cj; simp only [List.mem_map,dv]
theorem x7 {S S1 R β:Type} {body:S1→Option (Out S1 R)} {k:Nat} {f:S1→Option (Out S R)} {Ll:S1} (n:Nat) (g:Int→β) (pk:List β→Nat→S1) (e0:pk [] 0=Ll)
  (step:∀ i acc,i < n→acc.length=i→body (pk acc i)=some (.norm (pk (acc++[g i]) (i+1)))) (last:∀ acc,acc.length=n→body (pk acc n)=some (.exit k (pk acc n))) :
  ag (ae k (af body Ll)) f=f (pk (cj n g) n):=by
 rw [← e0]
 refine du (ns n) (fun i=>pk (cj i g) i) rfl ?_ ?_
 ·intro i x hx
  obtain ⟨rfl,hi⟩:=c8 hx
  rw [step i _ hi (bI i g),km]
 ·rw [cH]; exact last _ (bI n g)
def gl {α:Type} (l:List (List α)) (j:Int):List α:=l.getD j.toNat []
theorem wS {α:Type} {l:List (List α)} {j:Int} (h0:0≤j) (h1:j < l.length):idx l j=some (gl l j):=by
 rw [sU h0 h1]; unfold gl; rw [List.getD_eq_getElem?_getD,List.getElem?_eq_getElem (by omega)]; rfl
theorem Et {α:Type} {l:List (List α)} {i:Nat} (h:i < l.length):l[i]? = some (gl l i):=by
 unfold gl; rw [List.getD_eq_getElem?_getD,Int.toNat_natCast,List.getElem?_eq_getElem h]; rfl
theorem Lo {α β:Type} (l:List (List α)) (g:List α→β):cj l.length (fun i=>g (gl l i))=l.map g:=by
 apply List.ext_getElem?
 intro i
 by_cases h:i < l.length
 ·rw [vR _ h,List.getElem?_map,Et h]; rfl
 ·rw [List.getElem?_eq_none (by rw [bI]; omega),List.getElem?_eq_none (by rw [List.length_map]; omega)]
end Go.Li
namespace Go.Proofs.YtcnehblmgfbfoaaGreat
open Go Go.Li
set_option linter.unusedSectionVars false
theorem mx (l:List Int) (hl:l.length≤1048576):eG l=some l:=by
 unfold eG
 rw [dR (by simp; omega) (by simp; omega),aA,List.nil_append]; rfl
theorem vW (l:List (List Int)) (hl:l.length≤1048576) (hr:∀ y∈l,y.length≤1048576):gC l=some l:=by
 unfold gC
 refine (congrArg ao (x7 l.length (gr l) (fun acc i=>(acc,(i:Int))) rfl ?_ ?_)).trans ?_
 ·intro i acc hi ha
  show jN l acc i=_
  unfold jN
  rw [aw (by omega),cond_true,cb (by omega) (by omega),aA,mx _ (hr _ (j6 (by omega) (by omega))),aA,dR (by omega) (by omega),aA,bB (by omega)]
 ·intro acc ha
  show jN l acc _=_
  unfold jN
  rw [aX (by omega),cond_false]
 ·show some (cj l.length (gr l))=_
  have:=Lo l (fun x=>x)
  rw [List.map_id'] at this
  exact congrArg some this
theorem tn {c:aH} (h:dk c):fJ c=some c:=by
 unfold fJ
 rw [mx _ h.f,aA,mx _ h.t,aA,mx _ h.i,aA,vW _ h.k h.r,aA]; rfl
theorem JO {c:aH} (h:dk c):gZ c=some c:=by
 have h1:∀ l:List Int,l.length≤1048576→gX l=some l:=fun l hl=>mx l hl
 have hk:=h.k
 unfold gZ
 rw [h1 _ h.f,aA,h1 _ h.t,aA,h1 _ h.i,aA]
 have:qJ c.aB=some c.aB:=by
  unfold qJ
  rw [C5 (by omega) (by omega),aA]
  refine (congrArg ao (x7 c.aB.length (gr c.aB) (fun acc i=>(acc,(i:Int))) rfl ?_ ?_)).trans ?_
  ·intro i acc hi ha
   show kG c.aB acc i=_
   unfold kG
   rw [aw (by omega),cond_true,cb (by omega) (by omega),aA,h1 _ (h.r _ (j6 (by omega) (by omega))),aA,dR (by omega) (by omega),aA,bB (by omega)]
  ·intro acc ha
   show kG c.aB acc _=_
   unfold kG
   rw [aX (by omega),cond_false]
  ·have:=Lo c.aB (fun x=>x)
   rw [List.map_id'] at this
   exact congrArg some this
 rw [this,aA]; rfl
structure M5 (c:aH) (k:Nat) (ls:List (List (List Int))):Prop where
 len:ls.length=k
 found:∀ i:Nat,i < k→Found c i (some (gl ls i))
section
variable {c:aH} (H:lg c)
include H
theorem Sb {x:Int} {L:List (List Int)} (h:Found c x (some L)):Ai c x L:=by
 cases h with
 | TD F h hl=>
  have hp:=List.mergeSort_perm F Ts
  exact ⟨fun s=>by rw [hp.mem_iff]; exact h.mem s,hp.nodup_iff.2 h.nodup,by rw [hp.length_eq]; exact hl⟩
theorem M5.sv {k:Nat} {ls:List (List (List Int))} (h:M5 c k ls) {i:Int} (h0:0≤i) (h1:i < k):Ai c i (gl ls i):=by
 have:=h.found i.toNat (by omega)
 rw [Int.toNat_of_nonneg h0] at this
 exact Sb H this
def act (c:aH) (ls:List (List (List Int))) (a:Int):List Int:=(gl ls (gi c.aG a)).map fun s=>bd (gl ls (gi c.To a)) (HJ c a s)
def w4 (c:aH) (ls:List (List (List Int))):List (List Int):=cj c.aG.length (act c ls)
end
end Go.Proofs.YtcnehblmgfbfoaaGreat
namespace Go.Proofs.YtcnehblmgfbfoaaGreat
open Go Go.Li
set_option linter.unusedSectionVars false
section
variable {c:aH} (H:lg c)
include H
end
end Go.Proofs.YtcnehblmgfbfoaaGreat
namespace Go.Proofs.YtcnehblmgfbfoaaGreat
open Go Go.Li
section
variable {c:aH} (H:aC c)
include H
end
section
variable {c:aH} (H:lg c) {x:Int}
include H
theorem Pu {A:List Int} {a:Int} (hA:Pt c A):oq c (oq c A++[a])=oq c (A++[a]):=by
 show (ns c.aG.length).filter _=(ns c.aG.length).filter _
 apply List.filter_congr
 intro z hz
 have key:∀ B:List Int,TE c B z=true↔z∈oq c B:=fun B=>by
  unfold oq; rw [List.mem_filter]; exact ⟨fun h=>⟨hz,h⟩,fun h=>h.2⟩
 rw [Bool.eq_iff_iff,key,key,rh,rh]
 refine and_congr_right fun hz=>⟨?_,?_⟩
 ·rintro ⟨y,hy,b,hb,e1,e2⟩
  rcases List.mem_append.1 hy with hy | hy
  ·obtain ⟨Du,u,hu,b',cg,e3,e4⟩:=rh.1 hy
   have BJ:=hA u hu
   have c1:=H.cell u b' BJ.1 BJ.2 cg.1 cg.2 e3
   have e5:gi c.To b'=gi c.aG b:=by rw [← c1.2.2.2,e4]; exact e1
   have c2:=H.cell b' b cg.1 cg.2 hb.1 hb.2 e5
   exact ⟨u,List.mem_append_left _ hu,gk c.aB b' b,⟨c2.1,c2.2.1⟩,by rw [c2.2.2.1]; exact e3,by rw [← H.assoc u b' b BJ.1 BJ.2 cg.1 cg.2 hb.1 hb.2 e3 e5,e4]; exact e2⟩
  ·exact ⟨y,List.mem_append_right _ hy,b,hb,e1,e2⟩
 ·rintro ⟨y,hy,b,hb,e1,e2⟩
  rcases List.mem_append.1 hy with hy | hy
  ·exact ⟨y,List.mem_append_left _ (Hi H hA y hy),b,hb,e1,e2⟩
  ·exact ⟨y,List.mem_append_right _ hy,b,hb,e1,e2⟩
theorem Ki:∀ (n:Nat) (A:List Int),A.length=n→(∀ a∈A,a∈l9 c x)→Reaches (l9 c x) (xA c) [] (oq c A):=by
 intro n
 induction n with
 | zero=>
  intro A hA _
  obtain rfl:A=[]:=List.length_eq_zero_iff.1 hA
  have:oq c []=[]:=by unfold oq; rw [List.filter_eq_nil_iff]; intro a _; simp [TE]
  rw [this]; exact .base
 | succ n ih=>
  intro A hA hs
  have mc:A≠[]:=by rintro rfl; cases hA
  have hd:=List.dropLast_concat_getLast mc
  have hl:A.getLast mc∈A:=List.getLast_mem mc
  have bp:∀ a∈A.dropLast,a∈l9 c x:=fun a ha=>hs a (List.dropLast_subset A ha)
  have h1:=ih A.dropLast (by simp; omega) bp
  have h2:=Reaches.step (step:=xA c) h1 (hs _ hl)
  unfold xA at h2
  rw [Pu H (fun a ha=>(qj.1 (bp a ha)).1),hd] at h2
  exact h2
theorem Sd {s:List Int} (h:Sv c x s):Reaches (l9 c x) (xA c) [] s:=by
 have h1:=Ki H s.length s rfl fun a ha=>qj.2 ⟨h.arr a ha,h.src a ha⟩
 have h2:oq c s=s:=by
  conv=>rhs; rw [h.form]
  unfold oq
  apply List.filter_congr
  intro z hz
  rw [Bool.eq_iff_iff,Ee]
  constructor
  ·intro hc
   have:z∈oq c s:=List.mem_filter.2 ⟨hz,hc⟩
   obtain ⟨_,y,hy,b,hb,e1,e2⟩:=rh.1 this
   rw [← e2]; exact h.closed y hy b hb.1 hb.2 e1
  ·intro hs
   exact (List.mem_filter.1 (Hi H h.arr z hs)).2
 rw [h2] at h1; exact h1
theorem UP {L:List (List Int)} (h:Ai c x L) (s:List Int):s∈L↔Sv c x s:=⟨h.sv H s,fun hs=>(h.mem s).2 (Sd H hs)⟩
theorem Yv:Sv c x (l9 c x):=by
 refine ⟨?_,fun y hy=>(qj.1 hy).2,fun y hy b b0 b1 e=>?_⟩
 ·show (ns c.aG.length).filter _=_
  apply List.filter_congr
  intro z hz
  rw [Bool.eq_iff_iff,Ee,qj]
  simp only [beq_iff_eq]
  exact ⟨fun h=>⟨dv.1 hz,h⟩,fun h=>h.2⟩
 ·have hy:=qj.1 hy
  have c1:=H.cell y b hy.1.1 hy.1.2 b0 b1 e
  exact qj.2 ⟨⟨c1.1,c1.2.1⟩,by rw [c1.2.2.1]; exact hy.2⟩
end
end Go.Proofs.YtcnehblmgfbfoaaGreat
namespace Go.Li
open Go
section
variable {S S1 R α:Type} {body:S1→Option (Out S1 R)}
end
end Go.Li
namespace Go.Proofs.YtcnehblmgfbfoaaGreat
open Go Go.Li
theorem AO {L:List (List Int)} {s:List Int} (h:s∈L):∃ j:Nat,bd L s=(j:Int)∧L[j]? = some s:=by
 obtain ⟨j,x,h1,h2,h3⟩:=R7 (p:=fun y=>y == s) (l:=L) (i:=0) ⟨s,h,by simp⟩
 refine ⟨j,by unfold bd; rw [h1,Nat.zero_add],?_⟩
 rw [h2]; simp at h3; rw [h3]
theorem Pv {α:Type} {L:List α} {i j:Nat} {x:α} (hn:L.Nodup) (h1:L[i]? = some x) (h2:L[j]? = some x):i=j:=by
 obtain ⟨hi,e1⟩:=List.getElem?_eq_some_iff.1 h1
 obtain ⟨hj,e2⟩:=List.getElem?_eq_some_iff.1 h2
 rcases Nat.lt_trichotomy i j with h | h | h
 ·exact absurd (e1.trans e2.symm) (List.pairwise_iff_getElem.1 hn i j hi hj h)
 ·exact h
 ·exact absurd (e2.trans e1.symm) (List.pairwise_iff_getElem.1 hn j i hj hi h)
theorem Se {L:List (List Int)} {s:List Int} {i:Nat} (hn:L.Nodup) (h:L[i]? = some s):bd L s=(i:Int):=by
 obtain ⟨j,h1,h2⟩:=AO (List.mem_of_getElem? h)
 rw [h1,Pv hn h2 h]
def put (p:Int→List Int→Bool) (x:Int) (s:List Int):Int→List Int→Bool:=fun y t=>p y t || (y == x && t == s)
structure Tab (c:aH) (ls:List (List (List Int))):Prop where
 cat:lg c
 lists:M5 c c.aD.toNat ls
namespace Tab
variable {c:aH} {ls:List (List (List Int))} (T:Tab c ls)
include T
theorem len:(ls.length:Int)=c.aD:=by have h1:=T.lists.len; have h2:=T.cat.o0; omega
theorem sv {x:Int} (h0:0≤x) (h1:x < ls.length):Ai c x (gl ls x):=T.lists.sv T.cat h0 (by have:=T.lists.len; omega)
theorem mem {x:Int} (h0:0≤x) (h1:x < ls.length) {s:List Int}:s∈gl ls x↔Sv c x s:=UP T.cat (T.sv h0 h1) s
theorem nodup {x:Int} (h0:0≤x) (h1:x < ls.length):(gl ls x).Nodup:=(T.sv h0 h1).nodup
theorem fr {a:Int} (a0:0≤a) (a1:a < c.aG.length):0≤gi c.aG a∧gi c.aG a < ls.length:=by have:=T.cat.fr a0 a1; rw [← T.len] at this; exact this
theorem to {a:Int} (a0:0≤a) (a1:a < c.aG.length):0≤gi c.To a∧gi c.To a < ls.length:=by have:=T.cat.to a0 a1; rw [← T.len] at this; exact this
theorem out {x:Int} (h0:0≤x) (h1:x < ls.length):l9 c x∈gl ls x:=(T.mem h0 h1).2 (Yv T.cat)
theorem arr {x:Int} (h0:0≤x) (h1:x < ls.length) {s:List Int} (hs:s∈gl ls x) {a:Int} (ha:a∈s):0≤a∧a < c.aG.length:=((T.mem h0 h1).1 hs).arr a ha
theorem IX {a:Int} {i:Nat} {s:List Int} (hs:(gl ls (gi c.aG a))[i]? = some s):idx (act c ls a) (i:Int)=some (bd (gl ls (gi c.To a)) (HJ c a s)):=by
 have _:=T
 rw [bn]; unfold act; rw [List.getElem?_map,hs]; rfl
end Tab
def Yw (c:aH) (p:Int→List Int→Bool) (s t:List Int):Bool:=!(s.any fun a=>!(p (gi c.To a) (HJ c a t)))
structure alu (c:aH) (ls:List (List (List Int))) (q:Int→List Int→Bool):Prop where
 top:∀ x:Int,0≤x→x < ls.length→q x (l9 c x)=true
 arrow:∀ a s:_,0≤a→a < (c.aG.length:Int)→s∈gl ls (gi c.aG a)→q (gi c.aG a) s=true→q (gi c.To a) (HJ c a s)=true
 loc:∀ x:Int,0≤x→x < ls.length→∀ s∈gl ls x,∀ t∈gl ls x,q x s=true→Yw c q s t=true→q x t=true
section
variable {c:aH} {ls:List (List (List Int))} (T:Tab c ls) {p:Int→List Int→Bool}
include T
end
end Go.Proofs.YtcnehblmgfbfoaaGreat
namespace Go.Proofs.YtcnehblmgfbfoaaGreat
open Go Go.Li
def aaB (ls:List (List (List Int))):List (Int×List Int):=(ns ls.length).flatMap fun x=>(gl ls x).map fun s=>(x,s)
def xR (ls:List (List (List Int))) (p:Int→List Int→Bool):Nat:=(aaB ls).countP fun z=>p z.1 z.2
def Le (ls:List (List (List Int))) (p q:Int→List Int→Bool):Prop:=∀ y:Int,0≤y→y < ls.length→∀ t∈gl ls y,p y t=true→q y t=true
theorem Le.put {ls:List (List (List Int))} {p:Int→List Int→Bool} {x:Int} {s:List Int}:Le ls p (put p x s):=fun y _ _ t _ h=>by
 show (p y t || _)=true
 rw [h]; rfl
end Go.Proofs.YtcnehblmgfbfoaaGreat
namespace Go.Proofs.YtcnehblmgfbfoaaGreat
open Go Go.Li
section
variable {c:aH} {ls:List (List (List Int))} (T:Tab c ls) {p:Int→List Int→Bool}
include T
end
end Go.Proofs.YtcnehblmgfbfoaaGreat
namespace Go.Proofs.YtcnehblmgfbfoaaGreat
open Go Go.Li
end Go.Proofs.YtcnehblmgfbfoaaGreat
namespace Go.Proofs.YtcnehblmgfbfoaaGreat
open Go Go.Li
end Go.Proofs.YtcnehblmgfbfoaaGreat
namespace Go.Proofs.YtcnehblmgfbfoaaGreat
open Go Go.Li
theorem Ch {S S1 R:Type} {body:S1→Option (Out S1 R)} {k:Nat} {f:S1→Option (Out S R)} {s0:S1} (l:List Int) (q:Int→Bool) (pk:List Int→Nat→S1) (e0:pk [] 0=s0)
  (step:∀ i a acc,l[i]? = some a→acc.length≤i→body (pk acc i)=some (.norm (pk (if q a then acc++[a] else acc) (i+1)))) (last:∀ acc,body (pk acc l.length)=some (.exit k (pk acc l.length))) :
  ag (ae k (af body s0)) f=f (pk (l.filter q) l.length):=by
 refine (du l (fun i=>pk ((l.take i).filter q) i) (by simpa using e0) (fun i a ha=>?_) (e:=pk (l.filter q) l.length) ?_)
 ·rw [step i a _ ha (by have:=List.length_filter_le q (l.take i); rw [List.length_take] at this; omega),p8 ha,List.filter_append]
  cases h:q a <;> simp [h]
 ·rw [last,List.take_length]
section
variable {c:aH} {ls:List (List (List Int))} (T:Tab c ls) {p q:Int→List Int→Bool}
include T
end
end Go.Proofs.YtcnehblmgfbfoaaGreat
namespace Go.Proofs.YtcnehblmgfbfoaaGreat
open Go Go.Li
structure ib (f:aK):Prop where
 c:dk f.aC
 s:f.aP.length≤1048576
 k:f.aO.length≤1048576
 r:∀ y∈f.aO,y.length≤1048576
theorem Ef {f:aK} (h:ib f):lL f=some f:=by
 unfold lL
 rw [tn h.c,aA,mx _ h.s,aA,vW _ h.k h.r,aA]; rfl
structure o4 (m:bX):Prop where
 s:ib m.aF
 t:ib m.aM
 k:m.cD.length≤1048576
 r:∀ y∈m.cD,y.length≤1048576
theorem M7 {f g:aK} {p:List (List Int)} (hf:ib f) (hg:ib g) (hk:p.length≤1048576) (hr:∀ y∈p,y.length≤1048576):iY f g p=some (bX.mk f g p):=by
 unfold iY
 rw [Ef hf,aA,Ef hg,aA,vW _ hk hr,aA]; rfl
end Go.Proofs.YtcnehblmgfbfoaaGreat
namespace Go.Proofs.YtcnehblmgfbfoaaGreat
open Go Go.Li
def wh (c d:aH):Bool:=c.aD == d.aD && (c.aG == d.aG && (c.To == d.To && (c.aI == d.aI && c.aB == d.aB)))
theorem x9 {c d:aH}:wh c d=true↔c=d:=by
 unfold wh
 simp only [Bool.and_eq_true,beq_iff_eq]
 constructor
 ·rintro ⟨h1,h2,h3,h4,h5⟩
  cases c; cases d
  dsimp only at h1 h2 h3 h4 h5
  rw [h1,h2,h3,h4,h5]
 ·rintro rfl; exact ⟨rfl,rfl,rfl,rfl,rfl⟩
theorem Kj {c d:aH} (h:dk c):pH c d=some (wh c d):=by
 obtain ⟨h1,h2,h3,h4,h5⟩:=h
 have e5:qP c.aB d.aB=some (c.aB == d.aB):=Lj _ _ (by omega) (fun z hz=>by have:=h5 z hz; omega)
 unfold pH wh
 cases c.aD == d.aD with
 | false=>rfl
 | true=>
  rw [cond_true,Bw _ _ (by omega),aA]
  cases c.aG == d.aG with
  | false=>rfl
  | true=>
   rw [cond_true,Bw _ _ (by omega),aA]
   cases c.To == d.To with
   | false=>rfl
   | true=>
    rw [cond_true,Bw _ _ (by omega),aA]
    cases c.aI == d.aI with
    | false=>rfl
    | true=>rw [cond_true,e5]; rfl
theorem Sf:∀ {x y:List (List Int)},x.length=y.length→(x == y) = !((x.zip y).any fun z=>!(z.1 == z.2)):=by
 intro x
 induction x with
 | nil=>intro y h; cases y with
  | nil=>rfl
  | cons b y=>simp at h
 | cons a x ih=>
  intro y h
  cases y with
  | nil=>simp at h
  | cons b y=>
   have h':x.length=y.length:=by simpa using h
   rw [List.zip_cons_cons,List.any_cons,Bool.not_or,Bool.not_not,← ih h']; rfl
theorem DC {c d:aH} (h:dk c):iK c d=some (wh c d):=by
 obtain ⟨h1,h2,h3,h4,h5⟩:=h
 unfold iK wh
 cases e1:c.aD == d.aD with
 | false=>rw [show (c.aD != d.aD)=true by unfold bne; rw [e1]; rfl]; rfl
 | true=>
  rw [show (c.aD != d.aD)=false by unfold bne; rw [e1]; rfl,cond_false,yK _ _ (by omega),aA]
  cases c.aG == d.aG with
  | false=>rfl
  | true=>
   rw [Bool.not_true,cond_false,yK _ _ (by omega),aA]
   cases c.To == d.To with
   | false=>rfl
   | true=>
    rw [Bool.not_true,cond_false,yK _ _ (by omega),aA]
    cases c.aI == d.aI with
    | false=>rfl
    | true=>
     rw [Bool.not_true,cond_false,aA]
     simp only [Bool.true_and]
     by_cases hl:c.aB.length=d.aB.length
     ·rw [wW (by omega),cond_false,Sf hl]
      refine (congrArg ao (kc (c.aB.zip d.aB) (fun z=>!(z.1 == z.2)) (fun i=>(i:Int)) rfl ?_ ?_ (e:=((c.aB.zip d.aB).length:Int)) (y:=false) ?_)).trans ?_
      ·intro i z hz hp
       obtain ⟨z1,z2⟩:=z
       obtain ⟨g1,g2⟩:=List.getElem?_zip_eq_some.1 hz
       have hi:=bf g1
       have:=h5 _ (List.mem_of_getElem? g1)
       unfold iL
       rw [aw (by omega),cond_true,bn,g1,aA,bn,g2,aA,yK _ _ (by omega),aA]
       rw [show (!(z1 == z2))=false from hp,cond_false,bB (by omega)]
      ·intro i z hz hp
       obtain ⟨z1,z2⟩:=z
       obtain ⟨g1,g2⟩:=List.getElem?_zip_eq_some.1 hz
       have hi:=bf g1
       have:=h5 _ (List.mem_of_getElem? g1)
       unfold iL
       rw [aw (by omega),cond_true,bn,g1,aA,bn,g2,aA,yK _ _ (by omega),aA]
       rw [show (!(z1 == z2))=true from hp,cond_true]
      ·unfold iL
       rw [List.length_zip,← hl,Nat.min_self,aX (by omega),cond_false]
      ·cases (c.aB.zip d.aB).any fun z=>!(z.1 == z.2) <;> rfl
     ·rw [tO (by omega)]
      have:(c.aB == d.aB)=false:=rz fun h=>hl (by rw [h])
      rw [this]; rfl
end Go.Proofs.YtcnehblmgfbfoaaGreat
namespace Go.Proofs.YtcnehblmgfbfoaaGreat
open Go Go.Li
theorem zH {S R:Type} {body:Int→Option (Out Int R)} {k:Nat} {f:Int→Option (Out S R)} {n:Nat} (p:Int→Bool) {y:R}
  (h:∀ i:Nat,i < n→body (i:Int)=bif p i then some (.ret y) else some (.norm ((i+1:Nat):Int))) (last:body (n:Int)=some (.exit k (n:Int))) :
  ag (ae k (af body (0:Int))) f=bif (ns n).any p then some (.ret y) else f n:=by
 refine (kc (ns n) p (fun i=>(i:Int)) rfl ?_ ?_ (e:=(n:Int)) (y:=y) ?_).trans ?_
 ·intro i x hx hp; obtain ⟨rfl,hi⟩:=c8 hx; rw [h i hi,hp]; rfl
 ·intro i x hx hp; obtain ⟨rfl,hi⟩:=c8 hx; rw [h i hi,hp]; rfl
 ·rw [cH]; exact last
 ·cases (ns n).any p <;> rfl
theorem Eg {S R:Type} {body:Int→Option (Out Int R)} {k:Nat} {f:Int→Option (Out S R)} {n:Nat} (p:Int→Bool) (G:R→Prop)
  (h:∀ i:Nat,i < n→(p i=false∧body (i:Int)=some (.norm ((i+1:Nat):Int)))∨(p i=true∧∃ y,body (i:Int)=some (.ret y)∧G y)) (last:body (n:Int)=some (.exit k (n:Int))) :
  ((ns n).any p=false∧ag (ae k (af body (0:Int))) f=f n)∨((ns n).any p=true∧∃ y,ag (ae k (af body (0:Int))) f=some (.ret y)∧G y):=by
 refine (yH (ns n) p G (fun i=>(i:Int)) rfl ?_ ?_ (e:=(n:Int)) (by rw [cH]; exact last)).elim (fun h=>.inr h) (fun h=>.inl h)
 ·intro i x hx hp
  obtain ⟨rfl,hi⟩:=c8 hx
  rcases h i hi with ⟨_,h⟩ | ⟨h,_⟩
  ·exact h
  ·rw [hp] at h; cases h
 ·intro i x hx hp
  obtain ⟨rfl,hi⟩:=c8 hx
  rcases h i hi with ⟨h,_⟩ | ⟨_,h⟩
  ·rw [hp] at h; cases h
  ·exact h
theorem uU {α:Type} {b:Bool} {x y:α}:(bif b then some x else some y)=some (bif b then x else y):=by cases b <;> rfl
theorem GD {a b:Bool}:(bif a then true else b)=(a || b):=by cases a <;> rfl
theorem Eh {a b:Bool}:(bif a then b else false)=(a && b):=by cases a <;> rfl
theorem dy {n:Nat} {p:Int→Bool}:(ns n).any p=false↔∀ i:Int,0≤i→i < n→p i=false:=by
 rw [List.any_eq_false]
 exact ⟨fun h i h0 h1=>by simpa using h i (dv.2 ⟨h0,h1⟩),fun h i hi=>by simp [h i (dv.1 hi).1 (dv.1 hi).2]⟩
def CE (l:List Int) (m n:Int):Bool:=((l.length:Int) == m) && qb n l
theorem JP {l:List Int} {m n:Int}:CE l m n=true↔(l.length:Int)=m∧∀ y∈l,0≤y∧y < n:=by
 unfold CE; rw [Bool.and_eq_true,beq_iff_eq,tD]
theorem Hj (l:List Int) (m n:Int) (hl:l.length≤1048576000) (hn:0≤n) (Je:n≤1048576000):mK l m n=some (CE l m n):=by
 unfold mK CE
 rw [within l n hl hn Je,aA,uU,Eh]; rfl
theorem Hk (l:List Int) (m n:Int) (hl:l.length≤1048576000):(bif (l.length:Int) != m then some true else (iM n l>>=fun y=>some (!y)))=some (!CE l m n):=by
 rw [Gz n l hl,aA,uU,GD]
 unfold CE bne
 cases (l.length:Int) == m <;> simp
def yL (f:aK):Bool:=p6 f.aC && (((f.aP.length:Int) == f.aC.aD) && (qb 17 f.aP && (f.aO.length == f.aC.aG.length)))
def Ei (f:aK) (a:Int):Bool:=CE (gr f.aO a) (gi f.aP (gi f.aC.aG a)) (gi f.aP (gi f.aC.To a))
def rT (f:aK):Bool:=yL f && (ns f.aC.aG.length).all (Ei f)
structure SFHead (f:aK):Prop where
 cat:lg f.aC
 sl:(f.aP.length:Int)=f.aC.aD
 s:∀ x:Int,0≤x→x < f.aC.aD→0≤gi f.aP x∧gi f.aP x≤16
 al:f.aO.length=f.aC.aG.length
theorem CF {f:aK} (h:yL f=true):SFHead f:=by
 unfold yL at h
 simp only [Bool.and_eq_true,beq_iff_eq,tD] at h
 obtain ⟨h1,h2,h3,h4⟩:=h
 refine ⟨vr h1,h2,fun x h0 h1=>?_,h4⟩
 have:=h3 _ (fy h0 (by omega))
 omega
namespace SFHead
variable {f:aK} (H:SFHead f)
include H
theorem qe {x:Int} (h0:0≤x) (h1:x < f.aC.aD):idx f.aP x=some (gi f.aP x):=bQ h0 (by rw [H.sl]; exact h1)
theorem qi {a:Int} (h0:0≤a) (h1:a < f.aC.aG.length):idx f.aO a=some (gr f.aO a):=cb h0 (by rw [H.al]; exact h1)
theorem Yx {a:Int} (h0:0≤a) (h1:a < f.aC.aG.length):gr f.aO a∈f.aO:=j6 h0 (by rw [H.al]; exact h1)
end SFHead
structure SFShape (f:aK):Prop extends SFHead f where
 act:∀ a:Int,0≤a→a < f.aC.aG.length→((gr f.aO a).length:Int)=gi f.aP (gi f.aC.aG a)∧∀ y∈gr f.aO a,0≤y∧y < gi f.aP (gi f.aC.To a)
theorem By {f:aK} (h:rT f=true):SFShape f:=by
 unfold rT at h
 simp only [Bool.and_eq_true,List.all_eq_true] at h
 obtain ⟨h1,h2⟩:=h
 exact ⟨CF h1,fun a h0 h1=>JP.1 (h2 a (dv.2 ⟨h0,h1⟩))⟩
theorem M8 {f:aK} (hs:ib f):nD f=some (rT f):=by
 have h2:=hs.s
 have h3:=hs.k
 unfold nD rT yL
 rw [Ps hs.c,aA]
 cases hc:p6 f.aC with
 | false=>rfl
 | true=>
  rw [Bool.not_true,cond_false,uU,aA,GD]
  have H:=vr hc
  have ho:=H.o8
  have hm:=H.m
  cases e1:((f.aP.length:Int) == f.aC.aD) with
  | false=>rw [show ((f.aP.length:Int) != f.aC.aD)=true by unfold bne; rw [e1]; rfl]; rfl
  | true=>
   rw [show ((f.aP.length:Int) != f.aC.aD)=false by unfold bne; rw [e1]; rfl,Bool.false_or]
   have Tn:(f.aP.length:Int)=f.aC.aD:=by simpa using e1
   by_cases e2:f.aO.length=f.aC.aG.length
   ·rw [wW (by omega),cond_false,sk e2]
    have me:∀ i:Nat,i < f.aP.length→kO f (i:Int)=bif !(decide (0≤gi f.aP i) && decide (gi f.aP i≤16)) then some (.ret false) else some (.norm ((i+1:Nat):Int)):=by
     intro i hi
     unfold kO
     rw [aw (by omega),cond_true,bQ (by omega) (by omega),aA,Pm,aA,bB (by omega)]
    rw [zH (fun i=>!(decide (0≤gi f.aP i) && decide (gi f.aP i≤16))) me (by unfold kO; rw [aX (by omega),cond_false])]
    have e3:((ns f.aP.length).any fun i=>!(decide (0≤gi f.aP i) && decide (gi f.aP i≤16))) = !qb 17 f.aP:=by
     rw [ko]
     congr 1
     rw [Bool.eq_iff_iff,tD,List.all_eq_true]
     constructor
     ·intro h y hy
      obtain ⟨i,hi,rfl⟩:=List.getElem_of_mem hy
      have:=h (i:Int) (dv.2 ⟨by omega,by omega⟩)
      simp only [Bool.and_eq_true,decide_eq_true_eq] at this
      have e:gi f.aP (i:Int)=f.aP[i]:=by
       have:=bQ (l:=f.aP) (j:=(i:Int)) (by omega) (by omega)
       rw [bn,List.getElem?_eq_getElem hi] at this
       exact (Option.some.inj this).symm
      rw [← e]; omega
     ·intro h i hi
      obtain ⟨a,b⟩:=dv.1 hi
      have:=h _ (fy a (by omega))
      simp only [Bool.and_eq_true,decide_eq_true_eq]; omega
    rw [e3]
    cases e4:qb 17 f.aP with
    | false=>rfl
    | true=>
     have SH:SFHead f:=CF (by unfold yL; rw [hc,e1,e4,sk e2]; rfl)
     rw [Bool.not_true,cond_false]
     have Jf:∀ i:Nat,i < f.aO.length→kP f (i:Int)=bif !(Ei f i) then some (.ret false) else some (.norm ((i+1:Nat):Int)):=by
      intro i hi
      have hr:=hs.r _ (SH.Yx (a:=(i:Int)) (by omega) (by omega))
      have hf:=H.fr (f:=(i:Int)) (by omega) (by omega)
      have ht:=H.to (f:=(i:Int)) (by omega) (by omega)
      unfold kP
      rw [aw (by omega),cond_true,SH.qi (by omega) (by omega),aA,H.lh (by omega) (by omega),aA,SH.qe hf.1 hf.2,aA,H.l8 (by omega) (by omega),aA,SH.qe ht.1 ht.2,aA,aA,Hk _ _ _ (by omega),aA,bB (by omega)]
      rfl
     rw [zH (fun i=>!(Ei f i)) Jf (by unfold kP; rw [aX (by omega),cond_false]),ko,e2]
     cases (ns f.aC.aG.length).all (Ei f) <;> rfl
   ·rw [tO (by omega),cond_true,rz e2]
    simp only [Bool.and_false,Bool.false_and]
    rfl
theorem M9 {f:aK} (hs:ib f):gK f=some (rT f):=by
 have h2:=hs.s
 have h3:=hs.k
 unfold gK rT yL dE
 rw [JK hs.c,aA]
 cases hc:p6 f.aC with
 | false=>rfl
 | true=>
  rw [Bool.not_true,cond_false]
  have H:=vr hc
  have ho:=H.o8
  have hm:=H.m
  cases e1:((f.aP.length:Int) == f.aC.aD) with
  | false=>rw [show ((f.aP.length:Int) != f.aC.aD)=true by unfold bne; rw [e1]; rfl]; rfl
  | true=>
   rw [show ((f.aP.length:Int) != f.aC.aD)=false by unfold bne; rw [e1]; rfl,cond_false,within _ _ (by omega) (by omega) (by omega),aA]
   have Tn:(f.aP.length:Int)=f.aC.aD:=by simpa using e1
   cases e4:qb 17 f.aP with
   | false=>rfl
   | true=>
    rw [Bool.not_true,cond_false]
    by_cases e2:f.aO.length=f.aC.aG.length
    ·rw [sk e2]
     have SH:SFHead f:=CF (by unfold yL; rw [hc,e1,e4,sk e2]; rfl)
     have Jf:∀ i:Nat,i < f.aO.length→fP f (i:Int)=bif !(Ei f i) then some (.ret false) else some (.norm ((i+1:Nat):Int)):=by
      intro i hi
      have hr:=hs.r _ (SH.Yx (a:=(i:Int)) (by omega) (by omega))
      have hf:=H.fr (f:=(i:Int)) (by omega) (by omega)
      have ht:=H.to (f:=(i:Int)) (by omega) (by omega)
      have st:=SH.s _ ht.1 ht.2
      unfold fP
      rw [aw (by omega),cond_true,SH.qi (by omega) (by omega),aA,H.lh (by omega) (by omega),aA,SH.qe hf.1 hf.2,aA,H.l8 (by omega) (by omega),aA,SH.qe ht.1 ht.2,aA,Hj _ _ _ (by omega) (by omega) (by omega),aA,bB (by omega)]
      rfl
     show ao (bif ((f.aO.length:Int) != (f.aC.aG.length:Int)) then _ else _)=_
     rw [wW (by omega),cond_false]
     rw [zH (fun i=>!(Ei f i)) Jf (by unfold fP; rw [aX (by omega),cond_false]),ko,e2]
     cases (ns f.aC.aG.length).all (Ei f) <;> rfl
    ·rw [rz e2]
     show ao (bif ((f.aO.length:Int) != (f.aC.aG.length:Int)) then _ else _)=_
     rw [tO (by omega),cond_true]
     simp only [Bool.and_false,Bool.false_and]
     rfl
end Go.Proofs.YtcnehblmgfbfoaaGreat
namespace Go.Proofs.YtcnehblmgfbfoaaGreat
open Go Go.Li
def F5 (f:aK) (x:Int):Bool:=(ns (gi f.aP x).toNat).any fun e=>gi (gr f.aO (gi f.aC.aI x)) e != e
def vu (f:aK) (a b:Int):Bool:=(gi f.aC.To a == gi f.aC.aG b) && (ns (gi f.aP (gi f.aC.aG a)).toNat).any fun e=>gi (gr f.aO (gk f.aC.aB a b)) e != gi (gr f.aO b) (gi (gr f.aO a) e)
def Aj (f:aK):Bool:=!((ns f.aC.aD.toNat).any (F5 f)) && !((ns f.aC.aG.length).any fun a=>(ns f.aC.aG.length).any (vu f a))
namespace SFShape
variable {f:aK} (H:SFShape f)
include H
theorem row {a:Int} (h0:0≤a) (h1:a < f.aC.aG.length):(gr f.aO a).length=(gi f.aP (gi f.aC.aG a)).toNat:=by
 have:=(H.act a h0 h1).1
 have hf:=H.cat.fr h0 h1
 have:=H.s _ hf.1 hf.2
 omega
theorem at_ {a e:Int} (h0:0≤a) (h1:a < f.aC.aG.length) (e0:0≤e) (e1:e < gi f.aP (gi f.aC.aG a)):idx (gr f.aO a) e=some (gi (gr f.aO a) e):=bQ e0 (by rw [(H.act a h0 h1).1]; exact e1)
theorem DB {a e:Int} (h0:0≤a) (h1:a < f.aC.aG.length) (e0:0≤e) (e1:e < gi f.aP (gi f.aC.aG a)):0≤gi (gr f.aO a) e∧gi (gr f.aO a) e < gi f.aP (gi f.aC.To a):=
 (H.act a h0 h1).2 _ (fy e0 (by rw [(H.act a h0 h1).1]; exact e1))
end SFShape
theorem Pw {f:aK} {k1 k2 k3 k4 k5:Nat} {A0:Int→Option (Out Int (Int×Int×Int×Int))} {A1:Int→Int→Option (Out Int (Int×Int×Int×Int))} {B0:Int→Option (Out Int (Int×Int×Int×Int))} {B1:Int→Int→Option (Out Int (Int×Int×Int×Int))} {B2:Int→Int→Int→Option (Out Int (Int×Int×Int×Int))} {n m:Nat} {z:Int×Int×Int×Int} (hz:z.1=0) (hn:n=f.aC.aD.toNat) (hm:m=f.aC.aG.length)
  (a1:∀ x e:Nat,x < n→e < (gi f.aP x).toNat→∃ y:Int×Int×Int×Int,y.1≠0∧A1 x e=bif gi (gr f.aO (gi f.aC.aI x)) e != (e:Int) then some (.ret y) else some (.norm ((e+1:Nat):Int)))
  (a2:∀ x:Nat,x < n→A1 x ((gi f.aP x).toNat:Int)=some (.exit k2 ((gi f.aP x).toNat:Int)))
  (a0:∀ x:Nat,x < n→A0 x=ag (ae k2 (af (A1 x) (0:Int))) fun _=>some (.norm ((x+1:Nat):Int)))
  (a3:A0 n=some (.exit k1 (n:Int)))
  (b2:∀ a b e:Nat,a < m→b < m→gi f.aC.To a=gi f.aC.aG b→e < (gi f.aP (gi f.aC.aG a)).toNat→∃ y:Int×Int×Int×Int,y.1≠0∧B2 a b e=bif gi (gr f.aO (gk f.aC.aB a b)) e != gi (gr f.aO b) (gi (gr f.aO a) e) then some (.ret y) else some (.norm ((e+1:Nat):Int)))
  (b3:∀ a b:Nat,a < m→b < m→B2 a b ((gi f.aP (gi f.aC.aG a)).toNat:Int)=some (.exit k5 ((gi f.aP (gi f.aC.aG a)).toNat:Int)))
  (b1:∀ a b:Nat,a < m→b < m→B1 a b=bif gi f.aC.To a == gi f.aC.aG b then ag (ae k5 (af (B2 a b) (0:Int))) (fun _=>some (.norm ((b+1:Nat):Int))) else some (.norm ((b+1:Nat):Int)))
  (b4:∀ a:Nat,a < m→B1 a m=some (.exit k4 (m:Int)))
  (b0:∀ a:Nat,a < m→B0 a=ag (ae k4 (af (B1 a) (0:Int))) fun _=>some (.norm ((a+1:Nat):Int)))
  (b5:B0 m=some (.exit k3 (m:Int))) :
  ∃ y,ao (S:=Unit) (ag (ae k1 (af A0 (0:Int))) fun _=>ag (ae k3 (af B0 (0:Int))) fun _=>some (.ret z))=some y∧(y.1 == 0)=Aj f:=by
 have hA:∀ x:Nat,x < n→(F5 f x=false∧A0 x=some (.norm ((x+1:Nat):Int)))∨(F5 f x=true∧∃ y,A0 x=some (.ret y)∧y.1≠0):=by
  intro x hx
  rw [a0 x hx]
  refine Eg (n:=(gi f.aP x).toNat) (fun e=>gi (gr f.aO (gi f.aC.aI x)) e != e) (fun y:Int×Int×Int×Int=>y.1≠0) ?_ (a2 x hx)
  intro e he
  obtain ⟨y,hy,h⟩:=a1 x e hx he
  rw [h]
  cases gi (gr f.aO (gi f.aC.aI x)) e != (e:Int) with
  | true=>exact .inr ⟨rfl,y,rfl,hy⟩
  | false=>exact .inl ⟨rfl,rfl⟩
 have hB1:∀ a b:Nat,a < m→b < m→(vu f a b=false∧B1 a b=some (.norm ((b+1:Nat):Int)))∨(vu f a b=true∧∃ y,B1 a b=some (.ret y)∧y.1≠0):=by
  intro a b ha hb
  rw [b1 a b ha hb]
  unfold vu
  cases hc:gi f.aC.To a == gi f.aC.aG b with
  | false=>exact .inl ⟨rfl,rfl⟩
  | true=>
   rw [Bool.true_and,cond_true]
   refine Eg (n:=(gi f.aP (gi f.aC.aG a)).toNat) (fun e=>gi (gr f.aO (gk f.aC.aB a b)) e != gi (gr f.aO b) (gi (gr f.aO a) e)) (fun y:Int×Int×Int×Int=>y.1≠0) ?_ (b3 a b ha hb)
   intro e he
   obtain ⟨y,hy,h⟩:=b2 a b e ha hb (by simpa using hc) he
   rw [h]
   cases gi (gr f.aO (gk f.aC.aB a b)) e != gi (gr f.aO b) (gi (gr f.aO a) e) with
   | true=>exact .inr ⟨rfl,y,rfl,hy⟩
   | false=>exact .inl ⟨rfl,rfl⟩
 have hB:∀ a:Nat,a < m→((ns m).any (vu f a)=false∧B0 a=some (.norm ((a+1:Nat):Int)))∨((ns m).any (vu f a)=true∧∃ y,B0 a=some (.ret y)∧y.1≠0):=by
  intro a ha
  rw [b0 a ha]
  exact Eg (n:=m) (vu f a) (fun y:Int×Int×Int×Int=>y.1≠0) (fun b hb=>hB1 a b ha hb) (b4 a ha)
 unfold Aj
 rw [← hn,← hm]
 rcases Eg (S:=Unit) (f:=fun _=>ag (ae k3 (af B0 (0:Int))) fun _=>some (.ret z)) (n:=n) (F5 f) (fun y:Int×Int×Int×Int=>y.1≠0) hA a3 with ⟨h1,h2⟩ | ⟨h1,y,h2,h3⟩
 ·rw [h1,h2]
  rcases Eg (S:=Unit) (f:=fun _=>some (.ret z)) (n:=m) (fun a=>(ns m).any (vu f a)) (fun y:Int×Int×Int×Int=>y.1≠0) hB b5 with ⟨g1,g2⟩ | ⟨g1,y,g2,g3⟩
  ·rw [g1,g2]
   exact ⟨z,rfl,by rw [hz]; rfl⟩
  ·rw [g1,g2]
   exact ⟨y,rfl,by simpa using g3⟩
 ·rw [h1,h2]
  exact ⟨y,rfl,by simpa using h3⟩
theorem Na {f:aK} (H:SFShape f):∃ y,nE f=some y∧(y.1 == 0)=Aj f:=by
 have hm:=H.cat.m
 have o0:=H.cat.o0
 have o8:=H.cat.o8
 have hl:=H.sl
 have hA:=H.al
 unfold nE
 refine Pw (k2:=2) (k4:=6) (k5:=8) (A1:=kQ f) (B1:=kS f) (B2:=kR f) (n:=f.aC.aD.toNat) (m:=f.aC.aG.length) rfl rfl rfl ?_ ?_ ?_ ?_ ?_ ?_ ?_ ?_ ?_ ?_
 ·intro x e hx he
  have hi:=H.cat.id (x:=(x:Int)) (by omega) (by omega)
  have hs:=H.s (x:Int) (by omega) (by omega)
  have hf:=H.cat.zb (x:Int) (by omega) (by omega)
  refine ⟨(1,x,e,0),(by decide:(1:Int)≠0),?_⟩
  unfold kQ
  rw [H.qe (by omega) (by omega),aA,aw (by omega),cond_true,H.cat.um (by omega) (by omega),aA,H.qi hi.1 hi.2,aA,H.at_ hi.1 hi.2 (by omega) (by rw [hf]; omega),aA,bB (by omega)]
 ·intro x hx
  have hs:=H.s (x:Int) (by omega) (by omega)
  unfold kQ
  rw [H.qe (by omega) (by omega),aA,aX (by omega),cond_false]
 ·intro x hx
  unfold nQ
  rw [aw (by omega),cond_true,bB (by omega)]
 ·unfold nQ
  rw [aX (by omega),cond_false]
 ·intro a b e ha hb oy he
  have hf:=H.cat.fr (f:=(a:Int)) (by omega) (by omega)
  have hs:=H.s _ hf.1 hf.2
  have hc:=H.cat.cell (a:Int) (b:Int) (by omega) (by omega) (by omega) (by omega) oy
  have hi:=H.DB (a:=(a:Int)) (e:=(e:Int)) (by omega) (by omega) (by omega) (by omega)
  refine ⟨(2,a,b,e),(by decide:(2:Int)≠0),?_⟩
  unfold kR
  rw [H.cat.lh (by omega) (by omega),aA,H.qe hf.1 hf.2,aA,aw (by omega),cond_true,H.cat.tQ (by omega) (by omega),aA,H.cat.tR (by omega) (by omega) (by omega) (by omega),aA,
   H.qi hc.1 hc.2.1,aA,H.at_ hc.1 hc.2.1 (by omega) (by rw [hc.2.2.1]; omega),aA,H.qi (by omega) (by omega),aA,H.qi (by omega) (by omega),aA,H.at_ (by omega) (by omega) (by omega) (by omega),aA,
   H.at_ (by omega) (by omega) hi.1 (by rw [← oy]; exact hi.2),aA,bB (by omega)]
 ·intro a b ha hb
  have hf:=H.cat.fr (f:=(a:Int)) (by omega) (by omega)
  have hs:=H.s _ hf.1 hf.2
  unfold kR
  rw [H.cat.lh (by omega) (by omega),aA,H.qe hf.1 hf.2,aA,aX (by omega),cond_false]
 ·intro a b ha hb
  unfold kS
  rw [aw (by omega),cond_true,H.cat.l8 (by omega) (by omega),aA,H.cat.lh (by omega) (by omega),aA,bB (by omega)]
  unfold bne
  cases gi f.aC.To a == gi f.aC.aG b <;> rfl
 ·intro a ha
  unfold kS
  rw [aX (by omega),cond_false]
 ·intro a ha
  unfold nR
  rw [aw (by omega),cond_true,bB (by omega)]
 ·unfold nR
  rw [aX (by omega),cond_false]
theorem Nb {f:aK} (H:SFShape f):∃ y,iD f=some y∧(y.1 == 0)=Aj f:=by
 have hm:=H.cat.m
 have o0:=H.cat.o0
 have o8:=H.cat.o8
 have hl:=H.sl
 have hA:=H.al
 have il:=H.cat.il
 have kl:=H.cat.kl
 unfold iD
 refine Pw (k2:=2) (k4:=6) (k5:=8) (A1:=fun x=>eI x (gr f.aO (gi f.aC.aI x))) (B1:=fun a=>eL f a (gr f.aC.aB a)) (B2:=fun a b=>eJ f a b (gk f.aC.aB a b) (gr f.aO a)) (n:=f.aC.aD.toNat) (m:=f.aC.aG.length) rfl rfl rfl ?_ ?_ ?_ ?_ ?_ ?_ ?_ ?_ ?_ ?_
 ·intro x e hx he
  have hi:=H.cat.id (x:=(x:Int)) (by omega) (by omega)
  have hs:=H.s (x:Int) (by omega) (by omega)
  have hf:=H.cat.zb (x:Int) (by omega) (by omega)
  have hr:=H.row hi.1 hi.2
  rw [hf] at hr
  refine ⟨(1,x,e,0),(by decide:(1:Int)≠0),?_⟩
  show eI x (gr f.aO (gi f.aC.aI x)) e=_
  unfold eI
  rw [aw (by omega),cond_true,H.at_ hi.1 hi.2 (by omega) (by rw [hf]; omega),aA,bB (by omega)]
 ·intro x hx
  have hi:=H.cat.id (x:=(x:Int)) (by omega) (by omega)
  have hf:=H.cat.zb (x:Int) (by omega) (by omega)
  have hr:=H.row hi.1 hi.2
  rw [hf] at hr
  show eI x (gr f.aO (gi f.aC.aI x)) _=_
  unfold eI
  rw [aX (by omega),cond_false]
 ·intro x hx
  have hi:=H.cat.id (x:=(x:Int)) (by omega) (by omega)
  unfold jA
  rw [aw (by omega),cond_true,H.cat.um (by omega) (by omega),aA,H.qi hi.1 hi.2,aA,bB (by omega)]
 ·unfold jA
  rw [aX (by omega),cond_false]
 ·intro a b e ha hb oy he
  have hf:=H.cat.fr (f:=(a:Int)) (by omega) (by omega)
  have hs:=H.s _ hf.1 hf.2
  have hc:=H.cat.cell (a:Int) (b:Int) (by omega) (by omega) (by omega) (by omega) oy
  have hi:=H.DB (a:=(a:Int)) (e:=(e:Int)) (by omega) (by omega) (by omega) (by omega)
  have hr:=H.row (a:=(a:Int)) (by omega) (by omega)
  refine ⟨(2,a,b,e),(by decide:(2:Int)≠0),?_⟩
  show eJ f a b (gk f.aC.aB a b) (gr f.aO a) e=_
  unfold eJ
  rw [aw (by omega),cond_true,H.at_ (by omega) (by omega) (by omega) (by omega),aA,H.qi hc.1 hc.2.1,aA,H.at_ hc.1 hc.2.1 (by omega) (by rw [hc.2.2.1]; omega),aA,H.qi (by omega) (by omega),aA,
   H.at_ (by omega) (by omega) hi.1 (by rw [← oy]; exact hi.2),aA,bB (by omega)]
 ·intro a b ha hb
  have hr:=H.row (a:=(a:Int)) (by omega) (by omega)
  show eJ f a b (gk f.aC.aB a b) (gr f.aO a) _=_
  unfold eJ
  rw [aX (by omega),cond_false]
 ·intro a b ha hb
  have av:=H.cat.row (a:Int) (by omega) (by omega)
  show eL f a (gr f.aC.aB a) b=_
  unfold eL
  rw [aw (by omega),cond_true,H.cat.tR (by omega) (by omega) (by omega) (by omega),aA,bB (by omega)]
  by_cases he:gi f.aC.To a=gi f.aC.aG b
  ·have hc:=H.cat.cell (a:Int) (b:Int) (by omega) (by omega) (by omega) (by omega) he
   rw [aX (by omega),cond_false,H.qi (by omega) (by omega),aA,sk he,cond_true]
  ·have hc:=H.cat.none (a:Int) (b:Int) (by omega) (by omega) (by omega) (by omega) he
   rw [aw (by omega),cond_true,rz he,cond_false]
 ·intro a ha
  have av:=H.cat.row (a:Int) (by omega) (by omega)
  show eL f a (gr f.aC.aB a) _=_
  unfold eL
  rw [aX (by omega),cond_false]
 ·intro a ha
  unfold jB
  rw [aw (by omega),cond_true,H.cat.tQ (by omega) (by omega),aA,bB (by omega)]
 ·unfold jB
  rw [aX (by omega),cond_false]
def tK (f:aK):Bool:=rT f && Aj f
structure SF (f:aK):Prop extends SFShape f where
 one:∀ x e:Int,0≤x→x < f.aC.aD→0≤e→e < gi f.aP x→gi (gr f.aO (gi f.aC.aI x)) e=e
 comp:∀ a b e:Int,0≤a→a < f.aC.aG.length→0≤b→b < f.aC.aG.length→gi f.aC.To a=gi f.aC.aG b→0≤e→e < gi f.aP (gi f.aC.aG a)→gi (gr f.aO (gk f.aC.aB a b)) e=gi (gr f.aO b) (gi (gr f.aO a) e)
theorem zA {f:aK} (h:tK f=true):SF f:=by
 unfold tK at h
 rw [Bool.and_eq_true] at h
 obtain ⟨h1,h2⟩:=h
 have S:=By h1
 have o8:=S.cat.o8
 unfold Aj at h2
 rw [Bool.and_eq_true,Bool.not_eq_true',Bool.not_eq_true',dy,dy] at h2
 refine ⟨S,fun x e x0 x1 e0 e1=>?_,fun a b e a0 a1 b0 b1 oy e0 e1=>?_⟩
 ·have:=h2.1 x x0 (by omega)
  unfold F5 at this
  rw [dy] at this
  have:=this e e0 (by omega)
  simpa using this
 ·have:=h2.2 a a0 a1
  rw [dy] at this
  have:=this b b0 b1
  unfold vu at this
  rw [sk oy,Bool.true_and,dy] at this
  have:=this e e0 (by omega)
  simpa using this
theorem Lp {f:aK} (hs:ib f):pG f=some (tK f):=by
 unfold pG
 rw [M8 hs,aA]
 unfold tK
 cases h:rT f with
 | false=>rfl
 | true=>
  obtain ⟨y,h1,h2⟩:=Na (By h)
  rw [Bool.not_true,cond_false,h1,aA,h2]; rfl
theorem Gs {f:aK} (hs:ib f):eM f=some (tK f):=by
 unfold eM
 rw [M9 hs,aA]
 unfold tK
 cases h:rT f with
 | false=>rfl
 | true=>
  obtain ⟨y,h1,h2⟩:=Nb (By h)
  rw [Bool.not_true,cond_false,h1,aA,h2]; rfl
theorem Sg (l:List aK) (hl:l.length≤1048576) (hs:∀ f∈l,ib f):jG l=some (l.all tK):=by
 unfold jG
 refine (congrArg ao (kc l (fun f=>!tK f) (fun i=>(i:Int)) rfl ?_ ?_ (e:=(l.length:Int)) (y:=false) ?_)).trans ?_
 ·intro i x hx hp
  have hi:=bf hx
  unfold gV
  rw [aw (by omega),cond_true,bn,hx,aA,Gs (hs x (List.mem_of_getElem? hx)),aA,show (!tK x)=false from hp,cond_false,bB (by omega)]
 ·intro i x hx hp
  have hi:=bf hx
  unfold gV
  rw [aw (by omega),cond_true,bn,hx,aA,Gs (hs x (List.mem_of_getElem? hx)),aA,show (!tK x)=true from hp,cond_true]
 ·unfold gV
  rw [aX (by omega),cond_false]
 ·rw [ko]
  cases l.all tK <;> rfl
end Go.Proofs.YtcnehblmgfbfoaaGreat
namespace Go.Proofs.YtcnehblmgfbfoaaGreat
open Go Go.Li
def Ej (m:bX) (x:Int):Bool:=CE (gr m.cD x) (gi m.aF.aP x) (gi m.aM.aP x)
def Dg (m:bX):Bool:=(m.cD.length == m.aF.aP.length) && (ns m.cD.length).all (Ej m)
def wT (m:bX) (a:Int):Bool:=(ns (gi m.aF.aP (gi m.aF.aC.aG a)).toNat).any fun e=>gi (gr m.cD (gi m.aF.aC.To a)) (gi (gr m.aF.aO a) e) != gi (gr m.aM.aO a) (gi (gr m.cD (gi m.aF.aC.aG a)) e)
def pb (m:bX):Bool:=tK m.aF && (tK m.aM && (wh m.aF.aC m.aM.aC && Dg m))
def zZ (m:bX):Bool:=pb m && !((ns m.aF.aC.aG.length).any (wT m))
structure SMShape (m:bX):Prop where
 src:SF m.aF
 wE:SF m.aM
 same:m.aM.aC=m.aF.aC
 pl:(m.cD.length:Int)=m.aF.aC.aD
 part:∀ x:Int,0≤x→x < m.aF.aC.aD→((gr m.cD x).length:Int)=gi m.aF.aP x∧∀ y∈gr m.cD x,0≤y∧y < gi m.aM.aP x
theorem Bz {m:bX} (h:pb m=true):SMShape m:=by
 unfold pb Dg at h
 simp only [Bool.and_eq_true,List.all_eq_true,beq_iff_eq,x9] at h
 obtain ⟨h1,h2,h3,h4,h5⟩:=h
 have S:=zA h1
 have hl:=S.sl
 exact ⟨S,zA h2,h3.symm,by omega,fun x h0 h1=>JP.1 (h5 x (dv.2 ⟨h0,by omega⟩))⟩
namespace SMShape
variable {m:bX} (H:SMShape m)
include H
theorem D7 {x:Int} (h0:0≤x) (h1:x < m.aF.aC.aD):idx m.cD x=some (gr m.cD x):=cb h0 (by rw [H.pl]; exact h1)
theorem at_ {x e:Int} (h0:0≤x) (h1:x < m.aF.aC.aD) (e0:0≤e) (e1:e < gi m.aF.aP x):idx (gr m.cD x) e=some (gi (gr m.cD x) e):=bQ e0 (by rw [(H.part x h0 h1).1]; exact e1)
theorem DB {x e:Int} (h0:0≤x) (h1:x < m.aF.aC.aD) (e0:0≤e) (e1:e < gi m.aF.aP x):0≤gi (gr m.cD x) e∧gi (gr m.cD x) e < gi m.aM.aP x:=
 (H.part x h0 h1).2 _ (fy e0 (by rw [(H.part x h0 h1).1]; exact e1))
end SMShape
theorem Si {m:bX} (hs:o4 m) (S:SF m.aF) (T:SF m.aM) (he:m.aM.aC=m.aF.aC):lH m.aF m.aM m.cD=some (Dg m):=by
 have hk:=hs.k
 have hl:=S.sl
 have ho:=S.cat.o8
 unfold lH Dg
 by_cases h:m.cD.length=m.aF.aP.length
 ·rw [wW (by omega),cond_false,sk h,Bool.true_and]
  have hx:∀ i:Nat,i < m.cD.length→kV m.aF m.aM m.cD (i:Int)=bif !(Ej m i) then some (.ret false) else some (.norm ((i+1:Nat):Int)):=by
   intro i hi
   have hr:=hs.r _ (j6 (l:=m.cD) (j:=(i:Int)) (by omega) (by omega))
   unfold kV
   rw [aw (by omega),cond_true,cb (by omega) (by omega),aA,S.qe (by omega) (by omega),aA,T.qe (by omega) (by rw [he]; omega),aA,aA,Hk _ _ _ (by omega),aA,bB (by omega)]
   rfl
  rw [zH (fun i=>!(Ej m i)) hx (by unfold kV; rw [aX (by omega),cond_false]),ko]
  cases (ns m.cD.length).all (Ej m) <;> rfl
 ·rw [tO (by omega),cond_true,rz h]; rfl
theorem Sj {m:bX} (hs:o4 m) (S:SF m.aF) (T:SF m.aM) (he:m.aM.aC=m.aF.aC):kU m=some (Dg m):=by
 have hk:=hs.k
 have hl:=S.sl
 have ho:=S.cat.o8
 unfold kU Dg
 by_cases h:m.cD.length=m.aF.aP.length
 ·rw [wW (by omega),cond_false,sk h,Bool.true_and]
  have hx:∀ i:Nat,i < m.cD.length→jH m (i:Int)=bif !(Ej m i) then some (.ret false) else some (.norm ((i+1:Nat):Int)):=by
   intro i hi
   have hr:=hs.r _ (j6 (l:=m.cD) (j:=(i:Int)) (by omega) (by omega))
   have st:=T.s (i:Int) (by omega) (by rw [he]; omega)
   unfold jH
   rw [aw (by omega),cond_true,cb (by omega) (by omega),aA,S.qe (by omega) (by omega),aA,T.qe (by omega) (by rw [he]; omega),aA,Hj _ _ _ (by omega) (by omega) (by omega),aA,bB (by omega)]
   rfl
  rw [zH (fun i=>!(Ej m i)) hx (by unfold jH; rw [aX (by omega),cond_false]),ko]
  cases (ns m.cD.length).all (Ej m) <;> rfl
 ·rw [tO (by omega),cond_true,rz h]; rfl
theorem DM {f g:aK} (hf:ib f) (hg:ib g):iB f g=some (tK f && (tK g && wh f.aC g.aC)):=by
 unfold iB
 rw [Lp hf,aA,Lp hg,aA,Kj hf.c,aA,uU,Eh,uU,Eh]; rfl
theorem Nc {m:bX} (hs:o4 m):(iB m.aF m.aM>>=fun y=>(bif !y then some true else (lH m.aF m.aM m.cD>>=fun z=>some (!z))))=some (!pb m):=by
 rw [DM hs.s hs.t,aA]
 unfold pb
 cases h1:tK m.aF with
 | false=>rfl
 | true=>
  cases h2:tK m.aM with
  | false=>rfl
  | true=>
   cases h3:wh m.aF.aC m.aM.aC with
   | false=>rfl
   | true=>
    rw [Si hs (zA h1) (zA h2) (x9.1 h3).symm]
    simp only [Bool.true_and,Bool.not_true,cond_false,aA]
theorem Nd {m:bX} (hs:o4 m):jI m=some (pb m):=by
 unfold jI pb
 rw [Sg _ (by simp) (by intro f hf; simp at hf; rcases hf with rfl | rfl; exact hs.s; exact hs.t),aA]
 simp only [List.all_cons,List.all_nil,Bool.and_true]
 cases h1:tK m.aF with
 | false=>rfl
 | true=>
  cases h2:tK m.aM with
  | false=>rfl
  | true=>
   simp only [Bool.true_and,cond_true]
   rw [DC hs.s.c,aA]
   cases h3:wh m.aF.aC m.aM.aC with
   | false=>rfl
   | true=>
    rw [Sj hs (zA h1) (zA h2) (x9.1 h3).symm]; rfl
theorem Yy {m:bX} {k1 k2 n:Nat} {A0:Int→Option (Out Int (Int×Int))} {A1:Int→Int→Option (Out Int (Int×Int))} {z:Int×Int} (hz:z.1 < 0) (hn:n=m.aF.aC.aG.length)
  (a1:∀ a e:Nat,a < n→e < (gi m.aF.aP (gi m.aF.aC.aG a)).toNat→A1 a e=bif gi (gr m.cD (gi m.aF.aC.To a)) (gi (gr m.aF.aO a) e) != gi (gr m.aM.aO a) (gi (gr m.cD (gi m.aF.aC.aG a)) e) then some (.ret ((a:Int),(e:Int))) else some (.norm ((e+1:Nat):Int)))
  (a2:∀ a:Nat,a < n→A1 a ((gi m.aF.aP (gi m.aF.aC.aG a)).toNat:Int)=some (.exit k2 ((gi m.aF.aP (gi m.aF.aC.aG a)).toNat:Int)))
  (a0:∀ a:Nat,a < n→A0 a=ag (ae k2 (af (A1 a) (0:Int))) fun _=>some (.norm ((a+1:Nat):Int)))
  (a3:A0 n=some (.exit k1 (n:Int))) :
  ∃ y,ao (S:=Unit) (ag (ae k1 (af A0 (0:Int))) fun _=>some (.ret z))=some y∧decide (y.1 < 0) = !((ns m.aF.aC.aG.length).any (wT m)):=by
 have hA:∀ a:Nat,a < n→(wT m a=false∧A0 a=some (.norm ((a+1:Nat):Int)))∨(wT m a=true∧∃ y,A0 a=some (.ret y)∧0≤y.1):=by
  intro a ha
  rw [a0 a ha]
  refine Eg (n:=(gi m.aF.aP (gi m.aF.aC.aG a)).toNat) (fun e=>gi (gr m.cD (gi m.aF.aC.To a)) (gi (gr m.aF.aO a) e) != gi (gr m.aM.aO a) (gi (gr m.cD (gi m.aF.aC.aG a)) e)) (fun y:Int×Int=>0≤y.1) ?_ (a2 a ha)
  intro e he
  rw [a1 a e ha he]
  cases gi (gr m.cD (gi m.aF.aC.To a)) (gi (gr m.aF.aO a) e) != gi (gr m.aM.aO a) (gi (gr m.cD (gi m.aF.aC.aG a)) e) with
  | true=>exact .inr ⟨rfl,_,rfl,by show (0:Int)≤(a:Int); omega⟩
  | false=>exact .inl ⟨rfl,rfl⟩
 rw [← hn]
 rcases Eg (S:=Unit) (f:=fun _=>some (.ret z)) (n:=n) (wT m) (fun y:Int×Int=>0≤y.1) hA a3 with ⟨h1,h2⟩ | ⟨h1,y,h2,h3⟩
 ·rw [h1,h2]
  exact ⟨z,rfl,aw hz⟩
 ·rw [h1,h2]
  exact ⟨y,rfl,aX (by omega)⟩
theorem UQ {m:bX} (H:SMShape m):∃ y,jX m.aF m.aM m.cD=some y∧decide (y.1 < 0) = !((ns m.aF.aC.aG.length).any (wT m)):=by
 have hA:=H.src.al
 have hm:=H.src.cat.m
 have hT:=congrArg (fun c:aH=>c.aG.length) H.same
 unfold jX
 refine Yy (k2:=2) (n:=m.aF.aC.aG.length) (A1:=fun a=>fA m.aF m.aM m.cD a (gi m.aF.aC.aG a) (gi m.aF.aC.To a)) (by decide) rfl ?_ ?_ ?_ ?_
 ·intro a e ha he
  have hf:=H.src.cat.fr (f:=(a:Int)) (by omega) (by omega)
  have ht:=H.src.cat.to (f:=(a:Int)) (by omega) (by omega)
  have hs:=H.src.s _ hf.1 hf.2
  have hi:=H.src.DB (a:=(a:Int)) (e:=(e:Int)) (by omega) (by omega) (by omega) (by omega)
  have hp:=H.DB (x:=gi m.aF.aC.aG a) (e:=(e:Int)) hf.1 hf.2 (by omega) (by omega)
  have Px:(a:Int) < m.aM.aC.aG.length:=by omega
  have Yz:gi m.aM.aC.aG a=gi m.aF.aC.aG a:=by rw [H.same]
  show fA m.aF m.aM m.cD a (gi m.aF.aC.aG a) (gi m.aF.aC.To a) e=_
  unfold fA
  rw [H.src.qe hf.1 hf.2,aA,aw (by omega),cond_true,H.D7 ht.1 ht.2,aA,H.src.qi (by omega) (by omega),aA,H.src.at_ (by omega) (by omega) (by omega) (by omega),aA,H.at_ ht.1 ht.2 hi.1 hi.2,aA,
   H.wE.qi (by omega) Px,aA,H.D7 hf.1 hf.2,aA,H.at_ hf.1 hf.2 (by omega) (by omega),aA,H.wE.at_ (by omega) Px hp.1 (by rw [Yz]; exact hp.2),aA,bB (by omega)]
 ·intro a ha
  have hf:=H.src.cat.fr (f:=(a:Int)) (by omega) (by omega)
  have hs:=H.src.s _ hf.1 hf.2
  show fA m.aF m.aM m.cD a (gi m.aF.aC.aG a) (gi m.aF.aC.To a) _=_
  unfold fA
  rw [H.src.qe hf.1 hf.2,aA,aX (by omega),cond_false]
 ·intro a ha
  unfold kW
  rw [aw (by omega),cond_true,H.src.cat.lh (by omega) (by omega),aA,H.src.cat.l8 (by omega) (by omega),aA,bB (by omega)]
 ·unfold kW
  rw [aX (by omega),cond_false]
theorem UR {m:bX} (H:SMShape m):∃ y,iE m=some y∧decide (y.1 < 0) = !((ns m.aF.aC.aG.length).any (wT m)):=by
 have hA:=H.src.al
 have hm:=H.src.cat.m
 have hT:=congrArg (fun c:aH=>c.aG.length) H.same
 unfold iE
 refine Yy (k2:=2) (n:=m.aF.aC.aG.length) (A1:=fun a=>eN m a (gr m.aF.aO a)) (by decide) rfl ?_ ?_ ?_ ?_
 ·intro a e ha he
  have hf:=H.src.cat.fr (f:=(a:Int)) (by omega) (by omega)
  have ht:=H.src.cat.to (f:=(a:Int)) (by omega) (by omega)
  have hs:=H.src.s _ hf.1 hf.2
  have hi:=H.src.DB (a:=(a:Int)) (e:=(e:Int)) (by omega) (by omega) (by omega) (by omega)
  have hp:=H.DB (x:=gi m.aF.aC.aG a) (e:=(e:Int)) hf.1 hf.2 (by omega) (by omega)
  have hr:=H.src.row (a:=(a:Int)) (by omega) (by omega)
  have Px:(a:Int) < m.aM.aC.aG.length:=by omega
  have Yz:gi m.aM.aC.aG a=gi m.aF.aC.aG a:=by rw [H.same]
  show eN m a (gr m.aF.aO a) e=_
  unfold eN
  rw [aw (by omega),cond_true,H.src.at_ (by omega) (by omega) (by omega) (by omega),aA,H.src.cat.l8 (by omega) (by omega),aA,H.D7 ht.1 ht.2,aA,H.at_ ht.1 ht.2 hi.1 hi.2,aA,
   H.wE.qi (by omega) Px,aA,H.src.cat.lh (by omega) (by omega),aA,H.D7 hf.1 hf.2,aA,H.at_ hf.1 hf.2 (by omega) (by omega),aA,H.wE.at_ (by omega) Px hp.1 (by rw [Yz]; exact hp.2),aA,bB (by omega)]
 ·intro a ha
  have hr:=H.src.row (a:=(a:Int)) (by omega) (by omega)
  show eN m a (gr m.aF.aO a) _=_
  unfold eN
  rw [aX (by omega),cond_false]
 ·intro a ha
  unfold jC
  rw [aw (by omega),cond_true,H.src.qi (by omega) (by omega),aA,bB (by omega)]
 ·unfold jC
  rw [aX (by omega),cond_false]
structure SM (m:bX):Prop extends SMShape m where
 nat:∀ a e:Int,0≤a→a < m.aF.aC.aG.length→0≤e→e < gi m.aF.aP (gi m.aF.aC.aG a)→gi (gr m.cD (gi m.aF.aC.To a)) (gi (gr m.aF.aO a) e)=gi (gr m.aM.aO a) (gi (gr m.cD (gi m.aF.aC.aG a)) e)
theorem HD {m:bX} (h:zZ m=true):SM m:=by
 unfold zZ at h
 rw [Bool.and_eq_true,Bool.not_eq_true',dy] at h
 refine ⟨Bz h.1,fun a e a0 a1 e0 e1=>?_⟩
 have:=h.2 a a0 a1
 unfold wT at this
 rw [dy] at this
 have:=this e e0 (by omega)
 simpa using this
theorem Us {m:bX} (hs:o4 m):nF m=some (zZ m):=by
 unfold nF
 rw [Nc hs,aA]
 unfold zZ
 cases h:pb m with
 | false=>rfl
 | true=>
  obtain ⟨y,h1,h2⟩:=UQ (Bz h)
  rw [Bool.not_true,cond_false,h1,aA,h2]; rfl
theorem KZ {m:bX} (hs:o4 m):fU m=some (zZ m):=by
 unfold fU
 rw [Nd hs,aA]
 unfold zZ
 cases h:pb m with
 | false=>rfl
 | true=>
  obtain ⟨y,h1,h2⟩:=UR (Bz h)
  rw [Bool.not_true,cond_false,h1,aA,h2]; rfl
def thenS (a b:List Int):List Int:=cj a.length fun i=>gi b (gi a i)
theorem JR (a b:List Int) (ha:a.length≤1048576) (hb:∀ x∈a,0≤x∧x < b.length):qL a b=some (thenS a b):=by
 unfold qL
 rw [C5 (by omega) (by omega),aA]
 have hl:(thenS a b).length=a.length:=bI _ _
 refine (congrArg ao (du (ns a.length) (fun i=>((i:Int),(thenS a b).take i++List.replicate (a.length - i) (0:Int))) (by simp) ?_ (e:=((a.length:Int),thenS a b)) ?_)).trans rfl
 ·intro i x hx
  obtain ⟨rfl,hi⟩:=c8 hx
  have hg:(thenS a b)[i]? = some (gi b (gi a i)):=vR _ hi
  have hm:=hb _ (fy (l:=a) (j:=(i:Int)) (by omega) (by omega))
  have hc:=D6 (thenS a b) (0:Int) hg
  have hgc:=get_copy (thenS a b) (0:Int) hg
  rw [hl] at hc hgc
  show mM a b (i:Int) _=_
  unfold mM
  rw [aw (by omega),cond_true,bQ (by omega) (by omega),aA,bQ hm.1 hm.2,aA,bn,hgc,aA,bB (by omega),Int.toNat_natCast,hc]
 ·rw [cH]
  show mM a b _ _=_
  unfold mM
  rw [aX (by omega),cond_false,Nat.sub_self,List.take_of_length_le (by omega)]
  simp
end Go.Proofs.YtcnehblmgfbfoaaGreat
