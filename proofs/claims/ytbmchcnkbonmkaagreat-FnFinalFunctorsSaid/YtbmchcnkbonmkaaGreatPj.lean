/- All sieves at an object: the reference's search in depth and the program's search in breadth find the same list. No condition beside those that each theorem names. -/
import Derived.Test.YtbmchcnkbonmkaaGreatPh
import Derived.Test.YtbmchcnkbonmkaaGreatPa
namespace Go.Li
open Go
end Go.Li
namespace Go.Proofs.YtbmchcnkbonmkaaGreat
open Go Go.Li
set_option linter.unusedSectionVars false
structure Sv (c:aG) (x:Int) (s:List Int):Prop where
 form:s=(ns c.aC.length).filter (hasB s)
 src:∀ y∈s,gi c.aC y=x
 closed:∀ y∈s,∀ b:Int,0≤b→b < c.aC.length→gi c.To y=gi c.aC b→gk c.aB y b∈s
theorem Sv.arr {c:aG} {x:Int} {s:List Int} (h:Sv c x s):OY c s:=fun a ha=>by
 rw [h.form] at ha; exact bp.1 (List.mem_filter.1 ha).1
theorem Sv.len {c:aG} {x:Int} {s:List Int} (h:Sv c x s):s.length≤c.aC.length:=by
 rw [h.form]; exact Nat.le_trans (List.length_filter_le _ _) (by rw [bZ]; exact Nat.le_refl _)
theorem Sv.nil (c:aG) (x:Int):Sv c x []:=⟨by rw [List.filter_eq_nil_iff.2]; intro a _; simp [hasB],fun _ h=>(nomatch h),fun _ h=>(nomatch h)⟩
theorem ta {c:aG} {A:List Int} {a:Int}:a∈pq c A↔(0≤a∧a < c.aC.length)∧∃ y∈A,∃ b:Int,(0≤b∧b < c.aC.length)∧gi c.To y=gi c.aC b∧gk c.aB y b=a:=by
 unfold pq Tp
 rw [List.mem_filter,bp]
 simp only [List.any_eq_true,Bool.and_eq_true,beq_iff_eq]
 constructor
 ·rintro ⟨h,y,hy,b,hb,e1,e2⟩; exact ⟨h,y,hy,b,bp.1 hb,e1,e2⟩
 ·rintro ⟨h,y,hy,b,hb,e1,e2⟩; exact ⟨h,y,hy,b,bp.2 hb,e1,e2⟩
theorem Ka {n:Nat} {p:Int→Bool}:(ns n).filter p=(ns n).filter (hasB ((ns n).filter p)):=by
 apply List.filter_congr
 intro a ha
 rw [Bool.eq_iff_iff,yW,List.mem_filter]
 exact ⟨fun h=>⟨ha,h⟩,fun h=>h.2⟩
section
variable {c:aG} (H:mc c) {x:Int}
include H
theorem GY {A:List Int} (hA:OY c A):∀ y∈A,y∈pq c A:=fun y hy=>by
 have h:=hA y hy
 have ht:=H.to h.1 h.2
 have hi:=H.id ht.1 ht.2
 exact ta.2 ⟨h,y,hy,_,hi,(H.uK _ ht.1 ht.2).symm,H.EZ y h.1 h.2⟩
theorem RL {A:List Int} (hA:OY c A) (hs:∀ y∈A,gi c.aC y=x):Sv c x (pq c A):=by
 refine ⟨Ka,fun y hy=>?_,fun z hz b b0 b1 e=>?_⟩
 ·obtain ⟨_,z,hz,b,hb,e1,e2⟩:=ta.1 hy
  have h:=hA z hz
  rw [← e2,(H.cell z b h.1 h.2 hb.1 hb.2 e1).2.2.1]
  exact hs z hz
 ·obtain ⟨Iz,y,hy,a,ha,e1,e2⟩:=ta.1 hz
  have h:=hA y hy
  have c1:=H.cell y a h.1 h.2 ha.1 ha.2 e1
  have e3:gi c.To a=gi c.aC b:=by rw [← c1.2.2.2,e2]; exact e
  have c2:=H.cell a b ha.1 ha.2 b0 b1 e3
  have c3:=H.cell z b Iz.1 Iz.2 b0 b1 e
  refine ta.2 ⟨⟨c3.1,c3.2.1⟩,y,hy,gk c.aB a b,⟨c2.1,c2.2.1⟩,by rw [c2.2.2.1]; exact e1,?_⟩
  rw [← H.assoc y a b h.1 h.2 ha.1 ha.2 b0 b1 e1 e3,e2]
def xR (c:aG) (s:List Int) (a:Int):List Int:=pq c (s++[a])
theorem Jo {s:List Int} {a:Int} (hs:Sv c x s) (ha:a∈sf c x):OY c (s++[a])∧∀ y∈s++[a],gi c.aC y=x:=by
 have h:=tW.1 ha
 refine ⟨fun y hy=>?_,fun y hy=>?_⟩
 ·rcases List.mem_append.1 hy with h' | h'
  ·exact hs.arr y h'
  ·rw [List.mem_singleton.1 h']; exact h.1
 ·rcases List.mem_append.1 hy with h' | h'
  ·exact hs.src y h'
  ·rw [List.mem_singleton.1 h']; exact h.2
theorem UC {s:List Int} {a:Int} (hs:Sv c x s) (ha:a∈sf c x):Sv c x (xR c s a):=
 RL H (Jo H hs ha).1 (Jo H hs ha).2
theorem RM {s:List Int} (h:Reaches (sf c x) (xR c) [] s):Sv c x s:=by
 induction h with
 | base=>exact Sv.nil c x
 | step _ ha ih=>exact UC H ih ha
structure AA (c:aG) (x:Int) (L:List (List Int)):Prop where
 mem:∀ s,s∈L↔Reaches (sf c x) (xR c) [] s
 nodup:L.Nodup
 len:L.length≤16
theorem AA.sv {L:List (List Int)} (h:AA c x L):∀ s∈L,Sv c x s:=fun s hs=>RM H ((h.mem s).1 hs)
theorem O1 {K L:List (List Int)} (h:K.Perm L):K.mergeSort r4=L.mergeSort r4:=
 List.Perm.eq_of_pairwise (le:=fun a b=>r4 a b=true) (fun _ _ _ _ h1 h2=>Mx h1 h2) (List.pairwise_mergeSort Ds Du K) (List.pairwise_mergeSort Ds Du L)
  (((List.mergeSort_perm K r4).trans h).trans (List.mergeSort_perm L r4).symm)
inductive Found (c:aG) (x:Int):Option (List (List Int))→Prop
 | EW (F:List (List Int)) (h:zG (sf c x) (xR c) [] F) (hl:F.length≤16):Found c x (some (F.mergeSort r4))
 | many (h:MQ (sf c x) (xR c) 16 []):Found c x none
theorem Found.uniq {a b:Option (List (List Int))} (h:Found c x a) (k:Found c x b):a=b:=by
 have _:=H
 cases h with
 | EW F h hl=>
  cases k with
  | EW G k kl=>rw [O1 H (h.perm k)]
  | many k=>exact absurd k (h.EW hl)
 | many h=>
  cases k with
  | EW G k kl=>exact absurd h (k.EW kl)
  | many k=>rfl
end
end Go.Proofs.YtbmchcnkbonmkaaGreat
namespace Go.Li
open Go
def db {β:Type} (n:Nat) (g:Int→β):List β:=(ns n).map g
theorem bL {β:Type} (n:Nat) (g:Int→β):(db n g).length=n:=by simp [db,bZ]
theorem p7 {β:Type} (n:Nat) (g:Int→β):db (n+1) g=db n g++[g n]:=by
 unfold db ns
 rw [List.range_succ]; simp
theorem tn {β:Type} {n i:Nat} (g:Int→β) (h:i < n):(db n g)[i]? = some (g i):=by
 unfold db ns
 simp [h]
theorem o6 {β:Type} {n:Nat} {g:Int→β} {y:β}:y∈db n g↔∃ x:Int,(0≤x∧x < n)∧g x=y:=by
 unfold db; simp only [List.mem_map,bp]
theorem vP {β:Type} {n:Nat} {g h:Int→β} (e:∀ i:Nat,i < n→g i=h i):db n g=db n h:=by
 apply List.map_congr_left
 intro x hx
 have:=bp.1 hx
 have:=e x.toNat (by omega)
 rwa [Int.toNat_of_nonneg (by omega)] at this
theorem yX {S S1 R β:Type} {body:S1→Option (Out S1 R)} {k:Nat} {f:S1→Option (Out S R)} {DB:S1} (n:Nat) (g:Int→β) (pk:List β→Nat→S1) (e0:pk [] 0=DB)
  (step:∀ i acc,i < n→acc.length=i→body (pk acc i)=some (.norm (pk (acc++[g i]) (i+1)))) (last:∀ acc,acc.length=n→body (pk acc n)=some (.exit k (pk acc n))) :
  ae (ab k (af body DB)) f=f (pk (db n g) n):=by
 rw [← e0]
 refine jo (ns n) (fun i=>pk (db i g) i) rfl ?_ ?_
 ·intro i x hx
  obtain ⟨rfl,hi⟩:=ij hx
  rw [step i _ hi (bL i g),p7]
 ·rw [bZ]; exact last _ (bL n g)
def gl {α:Type} (l:List (List α)) (j:Int):List α:=l.getD j.toNat []
theorem Ea {α:Type} {l:List (List α)} {i:Nat} (h:i < l.length):l[i]? = some (gl l i):=by
 unfold gl; rw [List.getD_eq_getElem?_getD,Int.toNat_natCast,List.getElem?_eq_getElem h]; rfl
theorem Lf {α β:Type} (l:List (List α)) (g:List α→β):db l.length (fun i=>g (gl l i))=l.map g:=by
 apply List.ext_getElem?
 intro i
 by_cases h:i < l.length
 ·rw [tn _ h,List.getElem?_map,Ea h]; rfl
 ·rw [List.getElem?_eq_none (by rw [bL]; omega),List.getElem?_eq_none (by rw [List.length_map]; omega)]
end Go.Li
namespace Go.Proofs.YtbmchcnkbonmkaaGreat
open Go Go.Li
set_option linter.unusedSectionVars false
theorem iu (l:List Int) (hl:l.length≤1048576):cW l=some l:=by
 unfold cW
 rw [cN (by simp; omega) (by simp; omega),aD,List.nil_append]; rfl
theorem Jq (l:List (List Int)) (hl:l.length≤1048576) (hr:∀ y∈l,y.length≤1048576):lZ l=some l:=by
 unfold lZ
 refine (congrArg ak (yX l.length (gr l) (fun acc i=>(acc,(i:Int))) rfl ?_ ?_)).trans ?_
 ·intro i acc hi ha
  show jQ l acc i=_
  unfold jQ
  rw [aq (by omega),cond_true,l8 (by omega) (by omega),aD,iu _ (hr _ (pj (by omega) (by omega))),aD,cN (by omega) (by omega),aD,bH (by omega)]
 ·intro acc ha
  show jQ l acc _=_
  unfold jQ
  rw [ba (by omega),cond_false]
 ·show some (db l.length (gr l))=_
  have:=Lf l (fun x=>x)
  rw [List.map_id'] at this
  exact congrArg some this
theorem yY {c:aG} (h:ir c):jZ c=some c:=by
 unfold jZ
 rw [iu _ h.f,aD,iu _ h.t,aD,iu _ h.i,aD,Jq _ h.k h.r,aD]; rfl
theorem Jr {c:aG} (h:ir c):gQ c=some c:=by
 have h1:∀ l:List Int,l.length≤1048576→eA l=some l:=fun l hl=>iu l hl
 have hk:=h.k
 unfold gQ
 rw [h1 _ h.f,aD,h1 _ h.t,aD,h1 _ h.i,aD]
 have:qF c.aB=some c.aB:=by
  unfold qF
  rw [zF (by omega) (by omega),aD]
  refine (congrArg ak (yX c.aB.length (gr c.aB) (fun acc i=>(acc,(i:Int))) rfl ?_ ?_)).trans ?_
  ·intro i acc hi ha
   show kP c.aB acc i=_
   unfold kP
   rw [aq (by omega),cond_true,l8 (by omega) (by omega),aD,h1 _ (h.r _ (pj (by omega) (by omega))),aD,cN (by omega) (by omega),aD,bH (by omega)]
  ·intro acc ha
   show kP c.aB acc _=_
   unfold kP
   rw [ba (by omega),cond_false]
  ·have:=Lf c.aB (fun x=>x)
   rw [List.map_id'] at this
   exact congrArg some this
 rw [this,aD]; rfl
structure MT (c:aG) (k:Nat) (ls:List (List (List Int))):Prop where
 len:ls.length=k
 found:∀ i:Nat,i < k→Found c i (some (gl ls i))
section
variable {c:aG} (H:mc c)
include H
theorem RN {x:Int} {L:List (List Int)} (h:Found c x (some L)):AA c x L:=by
 cases h with
 | EW F h hl=>
  have hp:=List.mergeSort_perm F r4
  exact ⟨fun s=>by rw [hp.mem_iff]; exact h.mem s,hp.nodup_iff.2 h.nodup,by rw [hp.length_eq]; exact hl⟩
theorem MT.sv {k:Nat} {ls:List (List (List Int))} (h:MT c k ls) {i:Int} (h0:0≤i) (h1:i < k):AA c i (gl ls i):=by
 have:=h.found i.toNat (by omega)
 rw [Int.toNat_of_nonneg h0] at this
 exact RN H this
end
end Go.Proofs.YtbmchcnkbonmkaaGreat
namespace Go.Proofs.YtbmchcnkbonmkaaGreat
open Go Go.Li
set_option linter.unusedSectionVars false
section
variable {c:aG} (H:mc c)
include H
end
end Go.Proofs.YtbmchcnkbonmkaaGreat
namespace Go.Proofs.YtbmchcnkbonmkaaGreat
open Go Go.Li
section
variable {c:aG} (H:rF c)
include H
end
section
variable {c:aG} (H:mc c) {x:Int}
include H
theorem O3 {A:List Int} {a:Int} (hA:OY c A):pq c (pq c A++[a])=pq c (A++[a]):=by
 show (ns c.aC.length).filter _=(ns c.aC.length).filter _
 apply List.filter_congr
 intro z hz
 have key:∀ B:List Int,Tp c B z=true↔z∈pq c B:=fun B=>by
  unfold pq; rw [List.mem_filter]; exact ⟨fun h=>⟨hz,h⟩,fun h=>h.2⟩
 rw [Bool.eq_iff_iff,key,key,ta,ta]
 refine and_congr_right fun hz=>⟨?_,?_⟩
 ·rintro ⟨y,hy,b,hb,e1,e2⟩
  rcases List.mem_append.1 hy with hy | hy
  ·obtain ⟨BP,u,hu,b',cq,e3,e4⟩:=ta.1 hy
   have Dj:=hA u hu
   have c1:=H.cell u b' Dj.1 Dj.2 cq.1 cq.2 e3
   have e5:gi c.To b'=gi c.aC b:=by rw [← c1.2.2.2,e4]; exact e1
   have c2:=H.cell b' b cq.1 cq.2 hb.1 hb.2 e5
   exact ⟨u,List.mem_append_left _ hu,gk c.aB b' b,⟨c2.1,c2.2.1⟩,by rw [c2.2.2.1]; exact e3,by rw [← H.assoc u b' b Dj.1 Dj.2 cq.1 cq.2 hb.1 hb.2 e3 e5,e4]; exact e2⟩
  ·exact ⟨y,List.mem_append_right _ hy,b,hb,e1,e2⟩
 ·rintro ⟨y,hy,b,hb,e1,e2⟩
  rcases List.mem_append.1 hy with hy | hy
  ·exact ⟨y,List.mem_append_left _ (GY H hA y hy),b,hb,e1,e2⟩
  ·exact ⟨y,List.mem_append_right _ hy,b,hb,e1,e2⟩
theorem Kc:∀ (n:Nat) (A:List Int),A.length=n→(∀ a∈A,a∈sf c x)→Reaches (sf c x) (xR c) [] (pq c A):=by
 intro n
 induction n with
 | zero=>
  intro A hA _
  obtain rfl:A=[]:=List.length_eq_zero_iff.1 hA
  have:pq c []=[]:=by unfold pq; rw [List.filter_eq_nil_iff]; intro a _; simp [Tp]
  rw [this]; exact .base
 | succ n ih=>
  intro A hA hs
  have jx:A≠[]:=by rintro rfl; cases hA
  have hd:=List.dropLast_concat_getLast jx
  have hl:A.getLast jx∈A:=List.getLast_mem jx
  have dk:∀ a∈A.dropLast,a∈sf c x:=fun a ha=>hs a (List.dropLast_subset A ha)
  have h1:=ih A.dropLast (by simp; omega) dk
  have h2:=Reaches.step (step:=xR c) h1 (hs _ hl)
  unfold xR at h2
  rw [O3 H (fun a ha=>(tW.1 (dk a ha)).1),hd] at h2
  exact h2
theorem RP {s:List Int} (h:Sv c x s):Reaches (sf c x) (xR c) [] s:=by
 have h1:=Kc H s.length s rfl fun a ha=>tW.2 ⟨h.arr a ha,h.src a ha⟩
 have h2:pq c s=s:=by
  conv=>rhs; rw [h.form]
  unfold pq
  apply List.filter_congr
  intro z hz
  rw [Bool.eq_iff_iff,yW]
  constructor
  ·intro hc
   have:z∈pq c s:=List.mem_filter.2 ⟨hz,hc⟩
   obtain ⟨_,y,hy,b,hb,e1,e2⟩:=ta.1 this
   rw [← e2]; exact h.closed y hy b hb.1 hb.2 e1
  ·intro hs
   exact (List.mem_filter.1 (GY H h.arr z hs)).2
 rw [h2] at h1; exact h1
theorem UE {L:List (List Int)} (h:AA c x L) (s:List Int):s∈L↔Sv c x s:=⟨h.sv H s,fun hs=>(h.mem s).2 (RP H hs)⟩
theorem Yc:Sv c x (sf c x):=by
 refine ⟨?_,fun y hy=>(tW.1 hy).2,fun y hy b b0 b1 e=>?_⟩
 ·show (ns c.aC.length).filter _=_
  apply List.filter_congr
  intro z hz
  rw [Bool.eq_iff_iff,yW,tW]
  simp only [beq_iff_eq]
  exact ⟨fun h=>⟨bp.1 hz,h⟩,fun h=>h.2⟩
 ·have hy:=tW.1 hy
  have c1:=H.cell y b hy.1.1 hy.1.2 b0 b1 e
  exact tW.2 ⟨⟨c1.1,c1.2.1⟩,by rw [c1.2.2.1]; exact hy.2⟩
end
end Go.Proofs.YtbmchcnkbonmkaaGreat
namespace Go.Li
open Go
section
variable {S S1 R α:Type} {body:S1→Option (Out S1 R)}
end
end Go.Li
namespace Go.Proofs.YtbmchcnkbonmkaaGreat
open Go Go.Li
def put (p:Int→List Int→Bool) (x:Int) (s:List Int):Int→List Int→Bool:=fun y t=>p y t || (y == x && t == s)
structure Tab (c:aG) (ls:List (List (List Int))):Prop where
 cat:mc c
 lists:MT c c.aA.toNat ls
namespace Tab
variable {c:aG} {ls:List (List (List Int))} (T:Tab c ls)
include T
theorem len:(ls.length:Int)=c.aA:=by have h1:=T.lists.len; have h2:=T.cat.o0; omega
theorem sv {x:Int} (h0:0≤x) (h1:x < ls.length):AA c x (gl ls x):=T.lists.sv T.cat h0 (by have:=T.lists.len; omega)
theorem mem {x:Int} (h0:0≤x) (h1:x < ls.length) {s:List Int}:s∈gl ls x↔Sv c x s:=UE T.cat (T.sv h0 h1) s
theorem nodup {x:Int} (h0:0≤x) (h1:x < ls.length):(gl ls x).Nodup:=(T.sv h0 h1).nodup
theorem fr {a:Int} (a0:0≤a) (a1:a < c.aC.length):0≤gi c.aC a∧gi c.aC a < ls.length:=by have:=T.cat.fr a0 a1; rw [← T.len] at this; exact this
theorem to {a:Int} (a0:0≤a) (a1:a < c.aC.length):0≤gi c.To a∧gi c.To a < ls.length:=by have:=T.cat.to a0 a1; rw [← T.len] at this; exact this
theorem out {x:Int} (h0:0≤x) (h1:x < ls.length):sf c x∈gl ls x:=(T.mem h0 h1).2 (Yc T.cat)
theorem arr {x:Int} (h0:0≤x) (h1:x < ls.length) {s:List Int} (hs:s∈gl ls x) {a:Int} (ha:a∈s):0≤a∧a < c.aC.length:=((T.mem h0 h1).1 hs).arr a ha
end Tab
def Yd (c:aG) (p:Int→List Int→Bool) (s t:List Int):Bool:=!(s.any fun a=>!(p (gi c.To a) (Tq c a t)))
structure ajC (c:aG) (ls:List (List (List Int))) (q:Int→List Int→Bool):Prop where
 top:∀ x:Int,0≤x→x < ls.length→q x (sf c x)=true
 arrow:∀ a s:_,0≤a→a < (c.aC.length:Int)→s∈gl ls (gi c.aC a)→q (gi c.aC a) s=true→q (gi c.To a) (Tq c a s)=true
 loc:∀ x:Int,0≤x→x < ls.length→∀ s∈gl ls x,∀ t∈gl ls x,q x s=true→Yd c q s t=true→q x t=true
section
variable {c:aG} {ls:List (List (List Int))} (T:Tab c ls) {p:Int→List Int→Bool}
include T
end
end Go.Proofs.YtbmchcnkbonmkaaGreat
namespace Go.Proofs.YtbmchcnkbonmkaaGreat
open Go Go.Li
def ZP (ls:List (List (List Int))):List (Int×List Int):=(ns ls.length).flatMap fun x=>(gl ls x).map fun s=>(x,s)
def Is (ls:List (List (List Int))) (p:Int→List Int→Bool):Nat:=(ZP ls).countP fun z=>p z.1 z.2
def Le (ls:List (List (List Int))) (p q:Int→List Int→Bool):Prop:=∀ y:Int,0≤y→y < ls.length→∀ t∈gl ls y,p y t=true→q y t=true
theorem Le.tr {ls:List (List (List Int))} {p q r:Int→List Int→Bool} (h:Le ls p q) (g:Le ls q r):Le ls p r:=fun y h0 h1 t ht hp=>g y h0 h1 t ht (h y h0 h1 t ht hp)
theorem Le.put {ls:List (List (List Int))} {p:Int→List Int→Bool} {x:Int} {s:List Int}:Le ls p (put p x s):=fun y _ _ t _ h=>by
 show (p y t || _)=true
 rw [h]; rfl
end Go.Proofs.YtbmchcnkbonmkaaGreat
namespace Go.Proofs.YtbmchcnkbonmkaaGreat
open Go Go.Li
section
variable {c:aG} {ls:List (List (List Int))} (T:Tab c ls) {p:Int→List Int→Bool}
include T
end
end Go.Proofs.YtbmchcnkbonmkaaGreat
namespace Go.Proofs.YtbmchcnkbonmkaaGreat
open Go Go.Li
section
end
end Go.Proofs.YtbmchcnkbonmkaaGreat
namespace Go.Proofs.YtbmchcnkbonmkaaGreat
open Go Go.Li
end Go.Proofs.YtbmchcnkbonmkaaGreat
namespace Go.Proofs.YtbmchcnkbonmkaaGreat
open Go Go.Li
theorem tX {S S1 R:Type} {body:S1→Option (Out S1 R)} {k:Nat} {f:S1→Option (Out S R)} {s0:S1} (l:List Int) (q:Int→Bool) (pk:List Int→Nat→S1) (e0:pk [] 0=s0)
  (step:∀ i a acc,l[i]? = some a→acc.length≤i→body (pk acc i)=some (.norm (pk (if q a then acc++[a] else acc) (i+1)))) (last:∀ acc,body (pk acc l.length)=some (.exit k (pk acc l.length))) :
  ae (ab k (af body s0)) f=f (pk (l.filter q) l.length):=by
 refine (jo l (fun i=>pk ((l.take i).filter q) i) (by simpa using e0) (fun i a ha=>?_) (e:=pk (l.filter q) l.length) ?_)
 ·rw [step i a _ ha (by have:=List.length_filter_le q (l.take i); rw [List.length_take] at this; omega),uL ha,List.filter_append]
  cases h:q a <;> simp [h]
 ·rw [last,List.take_length]
section
variable {c:aG} {ls:List (List (List Int))} (T:Tab c ls) {p q:Int→List Int→Bool}
include T
end
end Go.Proofs.YtbmchcnkbonmkaaGreat
namespace Go.Proofs.YtbmchcnkbonmkaaGreat
open Go Go.Li
section
variable {c:aG} (H:mc c)
include H
end
end Go.Proofs.YtbmchcnkbonmkaaGreat
namespace Go.Proofs.YtbmchcnkbonmkaaGreat
open Go Go.Li
def Hr (c d:aG):Bool:=c.aA == d.aA && (c.aC == d.aC && (c.To == d.To && (c.aH == d.aH && c.aB == d.aB)))
theorem Js {c d:aG}:Hr c d=true↔c=d:=by
 unfold Hr
 simp only [Bool.and_eq_true,beq_iff_eq]
 constructor
 ·rintro ⟨h1,h2,h3,h4,h5⟩
  cases c; cases d
  dsimp only at h1 h2 h3 h4 h5
  rw [h1,h2,h3,h4,h5]
 ·rintro rfl; exact ⟨rfl,rfl,rfl,rfl,rfl⟩
end Go.Proofs.YtbmchcnkbonmkaaGreat
namespace Go.Proofs.YtbmchcnkbonmkaaGreat
open Go Go.Li
theorem CD {S R:Type} {body:Int→Option (Out Int R)} {k:Nat} {f:Int→Option (Out S R)} {n:Nat} (p:Int→Bool) {y:R}
  (h:∀ i:Nat,i < n→body (i:Int)=bif p i then some (.ret y) else some (.norm ((i+1:Nat):Int))) (last:body (n:Int)=some (.exit k (n:Int))) :
  ae (ab k (af body (0:Int))) f=bif (ns n).any p then some (.ret y) else f n:=by
 refine (l4 (ns n) p (fun i=>(i:Int)) rfl ?_ ?_ (e:=(n:Int)) (y:=y) ?_).trans ?_
 ·intro i x hx hp; obtain ⟨rfl,hi⟩:=ij hx; rw [h i hi,hp]; rfl
 ·intro i x hx hp; obtain ⟨rfl,hi⟩:=ij hx; rw [h i hi,hp]; rfl
 ·rw [bZ]; exact last
 ·cases (ns n).any p <;> rfl
theorem tY {α:Type} {b:Bool} {x y:α}:(bif b then some x else some y)=some (bif b then x else y):=by cases b <;> rfl
theorem AB {a b:Bool}:(bif a then true else b)=(a || b):=by cases a <;> rfl
theorem Jt {a b:Bool}:(bif a then b else false)=(a && b):=by cases a <;> rfl
theorem dy {n:Nat} {p:Int→Bool}:(ns n).any p=false↔∀ i:Int,0≤i→i < n→p i=false:=by
 rw [List.any_eq_false]
 exact ⟨fun h i h0 h1=>by simpa using h i (bp.2 ⟨h0,h1⟩),fun h i hi=>by simp [h i (bp.1 hi).1 (bp.1 hi).2]⟩
namespace SFHead
end SFHead
end Go.Proofs.YtbmchcnkbonmkaaGreat
namespace Go.Proofs.YtbmchcnkbonmkaaGreat
open Go Go.Li
namespace SFShape
end SFShape
end Go.Proofs.YtbmchcnkbonmkaaGreat
namespace Go.Proofs.YtbmchcnkbonmkaaGreat
open Go Go.Li
namespace SMShape
end SMShape
def thenS (a b:List Int):List Int:=db a.length fun i=>gi b (gi a i)
end Go.Proofs.YtbmchcnkbonmkaaGreat
