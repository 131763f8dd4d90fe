/- All sieves at an object: the reference's search in depth and the program's search in breadth find the same list. No condition beside those that each theorem names. -/
import Derived.Test.YtbhhmalgcnhniaaGreatPh
import Derived.Test.YtbhhmalgcnhniaaGreatPa
set_option linter.unusedVariables false
set_option linter.unusedSectionVars false
set_option linter.unusedSimpArgs false
namespace Go.Li
open Go
end Go.Li
namespace Go.Proofs.YtbhhmalgcnhniaaGreat
open Go Go.Li
set_option linter.unusedVariables false
set_option linter.unusedSectionVars false
set_option linter.unusedSimpArgs false
structure Sv (c:aC) (x:Int) (s:List Int):Prop where
 form:s=(ns c.aA.length).filter (hasB s)
 src:∀ y∈s,gi c.aA y=x
 closed:∀ y∈s,∀ b:Int,0≤b→b < c.aA.length→gi c.To y=gi c.aA b→gk c.aB y b∈s
theorem Sv.arr {c:aC} {x:Int} {s:List Int} (h:Sv c x s):ME c s:=fun a ha=>by
 rw [h.form] at ha; exact dy.1 (List.mem_filter.1 ha).1
theorem Sv.len {c:aC} {x:Int} {s:List Int} (h:Sv c x s):s.length≤c.aA.length:=by
 rw [h.form]; exact Nat.le_trans (List.length_filter_le _ _) (by rw [bR]; exact Nat.le_refl _)
theorem Sv.nil (c:aC) (x:Int):Sv c x []:=⟨by rw [List.filter_eq_nil_iff.2]; intro a _; simp [hasB],fun _ h=>(nomatch h),fun _ h=>(nomatch h)⟩
theorem qv {c:aC} {A:List Int} {a:Int}:a∈nr c A↔(0≤a∧a < c.aA.length)∧∃ y∈A,∃ b:Int,(0≤b∧b < c.aA.length)∧gi c.To y=gi c.aA b∧gk c.aB y b=a:=by
 unfold nr QF
 rw [List.mem_filter,dy]
 simp only [List.any_eq_true,Bool.and_eq_true,beq_iff_eq]
 constructor
 ·rintro ⟨h,y,hy,b,hb,e1,e2⟩; exact ⟨h,y,hy,b,dy.1 hb,e1,e2⟩
 ·rintro ⟨h,y,hy,b,hb,e1,e2⟩; exact ⟨h,y,hy,b,dy.2 hb,e1,e2⟩
theorem HP {n:Nat} {p:Int→Bool}:(ns n).filter p=(ns n).filter (hasB ((ns n).filter p)):=by
 apply List.filter_congr
 intro a ha
 rw [Bool.eq_iff_iff,zd,List.mem_filter]
 exact ⟨fun h=>⟨ha,h⟩,fun h=>h.2⟩
section
variable {c:aC} (H:l3 c) {x:Int}
include H
theorem EA {A:List Int} (hA:ME c A):∀ y∈A,y∈nr c A:=fun y hy=>by
 have h:=hA y hy
 have ht:=H.to h.1 h.2
 have hi:=H.id ht.1 ht.2
 exact qv.2 ⟨h,y,hy,_,hi,(H.tM _ ht.1 ht.2).symm,H.yZ y h.1 h.2⟩
theorem Pm {A:List Int} (hA:ME c A) (hs:∀ y∈A,gi c.aA y=x):Sv c x (nr c A):=by
 refine ⟨HP,fun y hy=>?_,fun z hz b b0 b1 e=>?_⟩
 ·obtain ⟨_,z,hz,b,hb,e1,e2⟩:=qv.1 hy
  have h:=hA z hz
  rw [← e2,(H.cell z b h.1 h.2 hb.1 hb.2 e1).2.2.1]
  exact hs z hz
 ·obtain ⟨CK,y,hy,a,ha,e1,e2⟩:=qv.1 hz
  have h:=hA y hy
  have c1:=H.cell y a h.1 h.2 ha.1 ha.2 e1
  have e3:gi c.To a=gi c.aA b:=by rw [← c1.2.2.2,e2]; exact e
  have c2:=H.cell a b ha.1 ha.2 b0 b1 e3
  have c3:=H.cell z b CK.1 CK.2 b0 b1 e
  refine qv.2 ⟨⟨c3.1,c3.2.1⟩,y,hy,gk c.aB a b,⟨c2.1,c2.2.1⟩,by rw [c2.2.2.1]; exact e1,?_⟩
  rw [← H.assoc y a b h.1 h.2 ha.1 ha.2 b0 b1 e1 e3,e2]
def vv (c:aC) (s:List Int) (a:Int):List Int:=nr c (s++[a])
theorem G6 {s:List Int} {a:Int} (hs:Sv c x s) (ha:a∈r3 c x):ME c (s++[a])∧∀ y∈s++[a],gi c.aA y=x:=by
 have h:=sx.1 ha
 refine ⟨fun y hy=>?_,fun y hy=>?_⟩
 ·rcases List.mem_append.1 hy with h' | h'
  ·exact hs.arr y h'
  ·rw [List.mem_singleton.1 h']; exact h.1
 ·rcases List.mem_append.1 hy with h' | h'
  ·exact hs.src y h'
  ·rw [List.mem_singleton.1 h']; exact h.2
theorem RQ {s:List Int} {a:Int} (hs:Sv c x s) (ha:a∈r3 c x):Sv c x (vv c s a):=
 Pm H (G6 H hs ha).1 (G6 H hs ha).2
theorem Pn {s:List Int} (h:Reaches (r3 c x) (vv c) [] s):Sv c x s:=by
 induction h with
 | base=>exact Sv.nil c x
 | step _ ha ih=>exact RQ H ih ha
structure xZ (c:aC) (x:Int) (L:List (List Int)):Prop where
 mem:∀ s,s∈L↔Reaches (r3 c x) (vv c) [] s
 nodup:L.Nodup
 len:L.length≤16
theorem xZ.sv {L:List (List Int)} (h:xZ c x L):∀ s∈L,Sv c x s:=fun s hs=>Pn H ((h.mem s).1 hs)
theorem MI {K L:List (List Int)} (h:K.Perm L):K.mergeSort pw=L.mergeSort pw:=
 List.Perm.eq_of_pairwise (le:=fun a b=>pw a b=true) (fun _ _ _ _ h1 h2=>JT h1 h2) (List.pairwise_mergeSort BF BG K) (List.pairwise_mergeSort BF BG L)
  (((List.mergeSort_perm K pw).trans h).trans (List.mergeSort_perm L pw).symm)
inductive Found (c:aC) (x:Int):Option (List (List Int))→Prop
 | De (F:List (List Int)) (h:xf (r3 c x) (vv c) [] F) (hl:F.length≤16):Found c x (some (F.mergeSort pw))
 | many (h:Kj (r3 c x) (vv c) 16 []):Found c x none
theorem Found.uniq {a b:Option (List (List Int))} (h:Found c x a) (k:Found c x b):a=b:=by
 have _:=H
 cases h with
 | De F h hl=>
  cases k with
  | De G k kl=>rw [MI H (h.perm k)]
  | many k=>exact absurd k (h.De hl)
 | many h=>
  cases k with
  | De G k kl=>exact absurd h (k.De kl)
  | many k=>rfl
end
end Go.Proofs.YtbhhmalgcnhniaaGreat
namespace Go.Li
open Go
def dg {β:Type} (n:Nat) (g:Int→β):List β:=(ns n).map g
theorem bA {β:Type} (n:Nat) (g:Int→β):(dg n g).length=n:=by simp [dg,bR]
theorem qw {β:Type} (n:Nat) (g:Int→β):dg (n+1) g=dg n g++[g n]:=by
 unfold dg ns
 rw [List.range_succ]; simp
theorem nn {β:Type} {n i:Nat} (g:Int→β) (h:i < n):(dg n g)[i]? = some (g i):=by
 unfold dg ns
 simp [h]
theorem p5 {β:Type} {n:Nat} {g:Int→β} {y:β}:y∈dg n g↔∃ x:Int,(0≤x∧x < n)∧g x=y:=by
 unfold dg; simp only [List.mem_map,dy]
theorem tE {β:Type} {n:Nat} {g h:Int→β} (e:∀ i:Nat,i < n→g i=h i):dg n g=dg n h:=by
 apply List.map_congr_left
 intro x hx
 have:=dy.1 hx
 have:=e x.toNat (by omega)
 rwa [Int.toNat_of_nonneg (by omega)] at this
theorem wD {S S1 R β:Type} {body:S1→Option (Out S1 R)} {k:Nat} {f:S1→Option (Out S R)} {G7:S1} (n:Nat) (g:Int→β) (pk:List β→Nat→S1) (e0:pk [] 0=G7)
  (step:∀ i acc,i < n→acc.length=i→body (pk acc i)=some (.norm (pk (acc++[g i]) (i+1)))) (last:∀ acc,acc.length=n→body (pk acc n)=some (.exit k (pk acc n))) :
  ae (ab k (aj body G7)) f=f (pk (dg n g) n):=by
 rw [← e0]
 refine ql (ns n) (fun i=>pk (dg i g) i) rfl ?_ ?_
 ·intro i x hx
  obtain ⟨rfl,hi⟩:=jc hx
  rw [step i _ hi (bA i g),qw]
 ·rw [bR]; exact last _ (bA n g)
def gl {α:Type} (l:List (List α)) (j:Int):List α:=l.getD j.toNat []
theorem Cq {α:Type} {l:List (List α)} {i:Nat} (h:i < l.length):l[i]? = some (gl l i):=by
 unfold gl; rw [List.getD_eq_getElem?_getD,Int.toNat_natCast,List.getElem?_eq_getElem h]; rfl
theorem IP {α β:Type} (l:List (List α)) (g:List α→β):dg l.length (fun i=>g (gl l i))=l.map g:=by
 apply List.ext_getElem?
 intro i
 by_cases h:i < l.length
 ·rw [nn _ h,List.getElem?_map,Cq h]; rfl
 ·rw [List.getElem?_eq_none (by rw [bA]; omega),List.getElem?_eq_none (by rw [List.length_map]; omega)]
end Go.Li
namespace Go.Proofs.YtbhhmalgcnhniaaGreat
open Go Go.Li
set_option linter.unusedVariables false
set_option linter.unusedSectionVars false
set_option linter.unusedSimpArgs false
theorem jq (l:List Int) (hl:l.length≤1048576):bZ l=some l:=by
 unfold bZ
 rw [cD (by simp; omega) (by simp; omega),aE,List.nil_append]; rfl
theorem ze (l:List (List Int)) (hl:l.length≤1048576) (hr:∀ y∈l,y.length≤1048576):jA l=some l:=by
 unfold jA
 refine (congrArg aq (wD l.length (gr l) (fun acc i=>(acc,(i:Int))) rfl ?_ ?_)).trans ?_
 ·intro i acc hi ha
  show iI l acc i=_
  unfold iI
  rw [bm (by omega),cond_true,jf (by omega) (by omega),aE,jq _ (hr _ (ic (by omega) (by omega))),aE,cD (by omega) (by omega),aE,bI (by omega)]
 ·intro acc ha
  show iI l acc _=_
  unfold iI
  rw [br (by omega),cond_false]
 ·show some (dg l.length (gr l))=_
  have:=IP l (fun x=>x)
  rw [List.map_id'] at this
  exact congrArg some this
theorem wE {c:aC} (h:fk c):iN c=some c:=by
 unfold iN
 rw [jq _ h.f,aE,jq _ h.t,aE,jq _ h.i,aE,ze _ h.k h.r,aE]; rfl
theorem G8 {c:aC} (h:fk c):fI c=some c:=by
 have h1:∀ l:List Int,l.length≤1048576→fB l=some l:=fun l hl=>jq l hl
 have hk:=h.k
 unfold fI
 rw [h1 _ h.f,aE,h1 _ h.t,aE,h1 _ h.i,aE]
 have:nQ c.aB=some c.aB:=by
  unfold nQ
  rw [ur (by omega) (by omega),aE]
  refine (congrArg aq (wD c.aB.length (gr c.aB) (fun acc i=>(acc,(i:Int))) rfl ?_ ?_)).trans ?_
  ·intro i acc hi ha
   show jC c.aB acc i=_
   unfold jC
   rw [bm (by omega),cond_true,jf (by omega) (by omega),aE,h1 _ (h.r _ (ic (by omega) (by omega))),aE,cD (by omega) (by omega),aE,bI (by omega)]
  ·intro acc ha
   show jC c.aB acc _=_
   unfold jC
   rw [br (by omega),cond_false]
  ·have:=IP c.aB (fun x=>x)
   rw [List.map_id'] at this
   exact congrArg some this
 rw [this,aE]; rfl
structure Km (c:aC) (k:Nat) (ls:List (List (List Int))):Prop where
 len:ls.length=k
 found:∀ i:Nat,i < k→Found c i (some (gl ls i))
section
variable {c:aC} (H:l3 c)
include H
theorem Po {x:Int} {L:List (List Int)} (h:Found c x (some L)):xZ c x L:=by
 cases h with
 | De F h hl=>
  have hp:=List.mergeSort_perm F pw
  exact ⟨fun s=>by rw [hp.mem_iff]; exact h.mem s,hp.nodup_iff.2 h.nodup,by rw [hp.length_eq]; exact hl⟩
theorem Km.sv {k:Nat} {ls:List (List (List Int))} (h:Km c k ls) {i:Int} (h0:0≤i) (h1:i < k):xZ c i (gl ls i):=by
 have:=h.found i.toNat (by omega)
 rw [Int.toNat_of_nonneg h0] at this
 exact Po H this
end
end Go.Proofs.YtbhhmalgcnhniaaGreat
namespace Go.Proofs.YtbhhmalgcnhniaaGreat
open Go Go.Li
set_option linter.unusedVariables false
set_option linter.unusedSectionVars false
set_option linter.unusedSimpArgs false
section
variable {c:aC} (H:l3 c)
include H
end
end Go.Proofs.YtbhhmalgcnhniaaGreat
namespace Go.Proofs.YtbhhmalgcnhniaaGreat
open Go Go.Li
set_option linter.unusedVariables false
set_option linter.unusedSectionVars false
set_option linter.unusedSimpArgs false
section
variable {c:aC} (H:oM c)
include H
end
section
variable {c:aC} (H:l3 c) {x:Int}
include H
theorem MP {A:List Int} {a:Int} (hA:ME c A):nr c (nr c A++[a])=nr c (A++[a]):=by
 show (ns c.aA.length).filter _=(ns c.aA.length).filter _
 apply List.filter_congr
 intro z hz
 have key:∀ B:List Int,QF c B z=true↔z∈nr c B:=fun B=>by
  unfold nr; rw [List.mem_filter]; exact ⟨fun h=>⟨hz,h⟩,fun h=>h.2⟩
 rw [Bool.eq_iff_iff,key,key,qv,qv]
 refine and_congr_right fun hz=>⟨?_,?_⟩
 ·rintro ⟨y,hy,b,hb,e1,e2⟩
  rcases List.mem_append.1 hy with hy | hy
  ·obtain ⟨xE,u,hu,b',bz,e3,e4⟩:=qv.1 hy
   have Bw:=hA u hu
   have c1:=H.cell u b' Bw.1 Bw.2 bz.1 bz.2 e3
   have e5:gi c.To b'=gi c.aA b:=by rw [← c1.2.2.2,e4]; exact e1
   have c2:=H.cell b' b bz.1 bz.2 hb.1 hb.2 e5
   exact ⟨u,List.mem_append_left _ hu,gk c.aB b' b,⟨c2.1,c2.2.1⟩,by rw [c2.2.2.1]; exact e3,by rw [← H.assoc u b' b Bw.1 Bw.2 bz.1 bz.2 hb.1 hb.2 e3 e5,e4]; exact e2⟩
  ·exact ⟨y,List.mem_append_right _ hy,b,hb,e1,e2⟩
 ·rintro ⟨y,hy,b,hb,e1,e2⟩
  rcases List.mem_append.1 hy with hy | hy
  ·exact ⟨y,List.mem_append_left _ (EA H hA y hy),b,hb,e1,e2⟩
  ·exact ⟨y,List.mem_append_right _ hy,b,hb,e1,e2⟩
theorem HR:∀ (n:Nat) (A:List Int),A.length=n→(∀ a∈A,a∈r3 c x)→Reaches (r3 c x) (vv c) [] (nr c A):=by
 intro n
 induction n with
 | zero=>
  intro A hA _
  obtain rfl:A=[]:=List.length_eq_zero_iff.1 hA
  have:nr c []=[]:=by unfold nr; rw [List.filter_eq_nil_iff]; intro a _; simp [QF]
  rw [this]; exact .base
 | succ n ih=>
  intro A hA hs
  have iv:A≠[]:=by rintro rfl; cases hA
  have hd:=List.dropLast_concat_getLast iv
  have hl:A.getLast iv∈A:=List.getLast_mem iv
  have du:∀ a∈A.dropLast,a∈r3 c x:=fun a ha=>hs a (List.dropLast_subset A ha)
  have h1:=ih A.dropLast (by simp; omega) du
  have h2:=Reaches.step (step:=vv c) h1 (hs _ hl)
  unfold vv at h2
  rw [MP H (fun a ha=>(sx.1 (du a ha)).1),hd] at h2
  exact h2
theorem Pu {s:List Int} (h:Sv c x s):Reaches (r3 c x) (vv c) [] s:=by
 have h1:=HR H s.length s rfl fun a ha=>sx.2 ⟨h.arr a ha,h.src a ha⟩
 have h2:nr c s=s:=by
  conv=>rhs; rw [h.form]
  unfold nr
  apply List.filter_congr
  intro z hz
  rw [Bool.eq_iff_iff,zd]
  constructor
  ·intro hc
   have:z∈nr c s:=List.mem_filter.2 ⟨hz,hc⟩
   obtain ⟨_,y,hy,b,hb,e1,e2⟩:=qv.1 this
   rw [← e2]; exact h.closed y hy b hb.1 hb.2 e1
  ·intro hs
   exact (List.mem_filter.1 (EA H h.arr z hs)).2
 rw [h2] at h1; exact h1
theorem RW {L:List (List Int)} (h:xZ c x L) (s:List Int):s∈L↔Sv c x s:=⟨h.sv H s,fun hs=>(h.mem s).2 (Pu H hs)⟩
theorem VN:Sv c x (r3 c x):=by
 refine ⟨?_,fun y hy=>(sx.1 hy).2,fun y hy b b0 b1 e=>?_⟩
 ·show (ns c.aA.length).filter _=_
  apply List.filter_congr
  intro z hz
  rw [Bool.eq_iff_iff,zd,sx]
  simp only [beq_iff_eq]
  exact ⟨fun h=>⟨dy.1 hz,h⟩,fun h=>h.2⟩
 ·have hy:=sx.1 hy
  have c1:=H.cell y b hy.1.1 hy.1.2 b0 b1 e
  exact sx.2 ⟨⟨c1.1,c1.2.1⟩,by rw [c1.2.2.1]; exact hy.2⟩
end
end Go.Proofs.YtbhhmalgcnhniaaGreat
namespace Go.Li
open Go
section
variable {S S1 R α:Type} {body:S1→Option (Out S1 R)}
end
end Go.Li
namespace Go.Proofs.YtbhhmalgcnhniaaGreat
open Go Go.Li
set_option linter.unusedVariables false
set_option linter.unusedSectionVars false
set_option linter.unusedSimpArgs false
def put (p:Int→List Int→Bool) (x:Int) (s:List Int):Int→List Int→Bool:=fun y t=>p y t || (y == x && t == s)
structure Tab (c:aC) (ls:List (List (List Int))):Prop where
 cat:l3 c
 lists:Km c c.aD.toNat ls
namespace Tab
variable {c:aC} {ls:List (List (List Int))} (T:Tab c ls)
include T
theorem len:(ls.length:Int)=c.aD:=by have h1:=T.lists.len; have h2:=T.cat.o0; omega
theorem sv {x:Int} (h0:0≤x) (h1:x < ls.length):xZ c x (gl ls x):=T.lists.sv T.cat h0 (by have:=T.lists.len; omega)
theorem mem {x:Int} (h0:0≤x) (h1:x < ls.length) {s:List Int}:s∈gl ls x↔Sv c x s:=RW T.cat (T.sv h0 h1) s
theorem nodup {x:Int} (h0:0≤x) (h1:x < ls.length):(gl ls x).Nodup:=(T.sv h0 h1).nodup
theorem fr {a:Int} (a0:0≤a) (a1:a < c.aA.length):0≤gi c.aA a∧gi c.aA a < ls.length:=by have:=T.cat.fr a0 a1; rw [← T.len] at this; exact this
theorem to {a:Int} (a0:0≤a) (a1:a < c.aA.length):0≤gi c.To a∧gi c.To a < ls.length:=by have:=T.cat.to a0 a1; rw [← T.len] at this; exact this
theorem out {x:Int} (h0:0≤x) (h1:x < ls.length):r3 c x∈gl ls x:=(T.mem h0 h1).2 (VN T.cat)
theorem arr {x:Int} (h0:0≤x) (h1:x < ls.length) {s:List Int} (hs:s∈gl ls x) {a:Int} (ha:a∈s):0≤a∧a < c.aA.length:=((T.mem h0 h1).1 hs).arr a ha
end Tab
def VO (c:aC) (p:Int→List Int→Bool) (s t:List Int):Bool:=!(s.any fun a=>!(p (gi c.To a) (QG c a t)))
structure ahz (c:aC) (ls:List (List (List Int))) (q:Int→List Int→Bool):Prop where
 top:∀ x:Int,0≤x→x < ls.length→q x (r3 c x)=true
 arrow:∀ a s:_,0≤a→a < (c.aA.length:Int)→s∈gl ls (gi c.aA a)→q (gi c.aA a) s=true→q (gi c.To a) (QG c a s)=true
 loc:∀ x:Int,0≤x→x < ls.length→∀ s∈gl ls x,∀ t∈gl ls x,q x s=true→VO c q s t=true→q x t=true
section
variable {c:aC} {ls:List (List (List Int))} (T:Tab c ls) {p:Int→List Int→Bool}
include T
end
end Go.Proofs.YtbhhmalgcnhniaaGreat
namespace Go.Proofs.YtbhhmalgcnhniaaGreat
open Go Go.Li
set_option linter.unusedVariables false
set_option linter.unusedSectionVars false
set_option linter.unusedSimpArgs false
def Xr (ls:List (List (List Int))):List (Int×List Int):=(ns ls.length).flatMap fun x=>(gl ls x).map fun s=>(x,s)
def Ge (ls:List (List (List Int))) (p:Int→List Int→Bool):Nat:=(Xr ls).countP fun z=>p z.1 z.2
def Le (ls:List (List (List Int))) (p q:Int→List Int→Bool):Prop:=∀ y:Int,0≤y→y < ls.length→∀ t∈gl ls y,p y t=true→q y t=true
theorem Le.tr {ls:List (List (List Int))} {p q r:Int→List Int→Bool} (h:Le ls p q) (g:Le ls q r):Le ls p r:=fun y h0 h1 t ht hp=>g y h0 h1 t ht (h y h0 h1 t ht hp)
theorem Le.put {ls:List (List (List Int))} {p:Int→List Int→Bool} {x:Int} {s:List Int}:Le ls p (put p x s):=fun y _ _ t _ h=>by
 show (p y t || _)=true
 rw [h]; rfl
end Go.Proofs.YtbhhmalgcnhniaaGreat
namespace Go.Proofs.YtbhhmalgcnhniaaGreat
open Go Go.Li
set_option linter.unusedVariables false
set_option linter.unusedSectionVars false
set_option linter.unusedSimpArgs false
section
variable {c:aC} {ls:List (List (List Int))} (T:Tab c ls) {p:Int→List Int→Bool}
include T
end
end Go.Proofs.YtbhhmalgcnhniaaGreat
namespace Go.Proofs.YtbhhmalgcnhniaaGreat
open Go Go.Li
set_option linter.unusedVariables false
set_option linter.unusedSectionVars false
set_option linter.unusedSimpArgs false
section
end
end Go.Proofs.YtbhhmalgcnhniaaGreat
namespace Go.Proofs.YtbhhmalgcnhniaaGreat
open Go Go.Li
set_option linter.unusedVariables false
set_option linter.unusedSectionVars false
set_option linter.unusedSimpArgs false
end Go.Proofs.YtbhhmalgcnhniaaGreat
namespace Go.Proofs.YtbhhmalgcnhniaaGreat
open Go Go.Li
set_option linter.unusedVariables false
set_option linter.unusedSectionVars false
set_option linter.unusedSimpArgs false
theorem MQ {S S1 R:Type} {body:S1→Option (Out S1 R)} {k:Nat} {f:S1→Option (Out S R)} {s0:S1} (l:List Int) (q:Int→Bool) (pk:List Int→Nat→S1) (e0:pk [] 0=s0)
  (step:∀ i a acc,l[i]? = some a→acc.length≤i→body (pk acc i)=some (.norm (pk (if q a then acc++[a] else acc) (i+1)))) (last:∀ acc,body (pk acc l.length)=some (.exit k (pk acc l.length))) :
  ae (ab k (aj body s0)) f=f (pk (l.filter q) l.length):=by
 refine (ql l (fun i=>pk ((l.take i).filter q) i) (by simpa using e0) (fun i a ha=>?_) (e:=pk (l.filter q) l.length) ?_)
 ·rw [step i a _ ha (by have:=List.length_filter_le q (l.take i); rw [List.length_take] at this; omega),zI ha,List.filter_append]
  cases h:q a <;> simp [h]
 ·rw [last,List.take_length]
section
variable {c:aC} {ls:List (List (List Int))} (T:Tab c ls) {p q:Int→List Int→Bool}
include T
end
end Go.Proofs.YtbhhmalgcnhniaaGreat
namespace Go.Proofs.YtbhhmalgcnhniaaGreat
open Go Go.Li
set_option linter.unusedVariables false
set_option linter.unusedSectionVars false
set_option linter.unusedSimpArgs false
section
variable {c:aC} (H:l3 c)
include H
end
end Go.Proofs.YtbhhmalgcnhniaaGreat
namespace Go.Proofs.YtbhhmalgcnhniaaGreat
open Go Go.Li
set_option linter.unusedVariables false
set_option linter.unusedSectionVars false
set_option linter.unusedSimpArgs false
def QM (c d:aC):Bool:=c.aD == d.aD && (c.aA == d.aA && (c.To == d.To && (c.aF == d.aF && c.aB == d.aB)))
end Go.Proofs.YtbhhmalgcnhniaaGreat
namespace Go.Proofs.YtbhhmalgcnhniaaGreat
open Go Go.Li
set_option linter.unusedVariables false
set_option linter.unusedSectionVars false
set_option linter.unusedSimpArgs false
theorem ui {S R:Type} {body:Int→Option (Out Int R)} {k:Nat} {f:Int→Option (Out S R)} {n:Nat} (p:Int→Bool) {y:R}
  (h:∀ i:Nat,i < n→body (i:Int)=bif p i then some (.ret y) else some (.norm ((i+1:Nat):Int))) (last:body (n:Int)=some (.exit k (n:Int))) :
  ae (ab k (aj body (0:Int))) f=bif (ns n).any p then some (.ret y) else f n:=by
 refine (mf (ns n) p (fun i=>(i:Int)) rfl ?_ ?_ (e:=(n:Int)) (y:=y) ?_).trans ?_
 ·intro i x hx hp; obtain ⟨rfl,hi⟩:=jc hx; rw [h i hi,hp]; rfl
 ·intro i x hx hp; obtain ⟨rfl,hi⟩:=jc hx; rw [h i hi,hp]; rfl
 ·rw [bR]; exact last
 ·cases (ns n).any p <;> rfl
theorem rM {α:Type} {b:Bool} {x y:α}:(bif b then some x else some y)=some (bif b then x else y):=by cases b <;> rfl
theorem x8 {a b:Bool}:(bif a then true else b)=(a || b):=by cases a <;> rfl
theorem Hh {a b:Bool}:(bif a then b else false)=(a && b):=by cases a <;> rfl
theorem gu {n:Nat} {p:Int→Bool}:(ns n).any p=false↔∀ i:Int,0≤i→i < n→p i=false:=by
 rw [List.any_eq_false]
 exact ⟨fun h i h0 h1=>by simpa using h i (dy.2 ⟨h0,h1⟩),fun h i hi=>by simp [h i (dy.1 hi).1 (dy.1 hi).2]⟩
namespace SFHead
end SFHead
end Go.Proofs.YtbhhmalgcnhniaaGreat
namespace Go.Proofs.YtbhhmalgcnhniaaGreat
open Go Go.Li
set_option linter.unusedVariables false
set_option linter.unusedSectionVars false
set_option linter.unusedSimpArgs false
namespace SFShape
end SFShape
end Go.Proofs.YtbhhmalgcnhniaaGreat
namespace Go.Proofs.YtbhhmalgcnhniaaGreat
open Go Go.Li
set_option linter.unusedVariables false
set_option linter.unusedSectionVars false
set_option linter.unusedSimpArgs false
namespace SMShape
end SMShape
def thenS (a b:List Int):List Int:=dg a.length fun i=>gi b (gi a i)
theorem G9 (a b:List Int) (ha:a.length≤1048576) (hb:∀ x∈a,0≤x∧x < b.length):mU a b=some (thenS a b):=by
 unfold mU
 rw [ur (by omega) (by omega),aE]
 have hl:(thenS a b).length=a.length:=bA _ _
 refine (congrArg aq (ql (ns a.length) (fun i=>((i:Int),(thenS a b).take i++List.replicate (a.length - i) (0:Int))) (by simp) ?_ (e:=((a.length:Int),thenS a b)) ?_)).trans rfl
 ·intro i x hx
  obtain ⟨rfl,hi⟩:=jc hx
  have hg:(thenS a b)[i]? = some (gi b (gi a i)):=nn _ hi
  have hm:=hb _ (ib (l:=a) (j:=(i:Int)) (by omega) (by omega))
  have hc:=yW (thenS a b) (0:Int) hg
  have MR:=get_copy (thenS a b) (0:Int) hg
  rw [hl] at hc MR
  show kT a b (i:Int) _=_
  unfold kT
  rw [bm (by omega),cond_true,aZ (by omega) (by omega),aE,aZ hm.1 hm.2,aE,fj,MR,aE,bI (by omega),Int.toNat_natCast,hc]
 ·rw [bR]
  show kT a b _ _=_
  unfold kT
  rw [br (by omega),cond_false,Nat.sub_self,List.take_of_length_le (by omega)]
  simp
end Go.Proofs.YtbhhmalgcnhniaaGreat
