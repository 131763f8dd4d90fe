/- All sieves at an object: the reference's search in depth and the program's search in breadth find the same list. No condition beside those that each theorem names. -/
import Derived.Test.YtcnehblmgfbfoaaGreatPh
import Derived.Test.YtcnehblmgfbfoaaGreatPa
set_option linter.unusedVariables false
set_option linter.unusedSectionVars false
set_option linter.unusedSimpArgs false
namespace Go.Li
open Go
end Go.Li
namespace Go.Proofs.YtcnehblmgfbfoaaGreat
open Go Go.Li
set_option linter.unusedSectionVars false
structure Sv (c:aJ) (x:Int) (s:List Int):Prop where
 form:s=(ns c.aH.length).filter (hasB s)
 src:∀ y∈s,gi c.aH y=x
 closed:∀ y∈s,∀ b:Int,0≤b→b < c.aH.length→gi c.To y=gi c.aH b→gk c.aG y b∈s
theorem Sv.arr {c:aJ} {x:Int} {s:List Int} (h:Sv c x s):JZ c s:=fun a ha=>by
 rw [h.form] at ha; exact dj.1 (List.mem_filter.1 ha).1
theorem Sv.len {c:aJ} {x:Int} {s:List Int} (h:Sv c x s):s.length≤c.aH.length:=by
 rw [h.form]; exact Nat.le_trans (List.length_filter_le _ _) (by rw [cJ]; exact Nat.le_refl _)
theorem Sv.nil (c:aJ) (x:Int):Sv c x []:=⟨by rw [List.filter_eq_nil_iff.2]; intro a _; simp [hasB],fun _ h=>(nomatch h),fun _ h=>(nomatch h)⟩
theorem oj {c:aJ} {A:List Int} {a:Int}:a∈ku c A↔(0≤a∧a < c.aH.length)∧∃ y∈A,∃ b:Int,(0≤b∧b < c.aH.length)∧gi c.To y=gi c.aH b∧gk c.aG y b=a:=by
 unfold ku N3
 rw [List.mem_filter,dj]
 simp only [List.any_eq_true,Bool.and_eq_true,beq_iff_eq]
 constructor
 ·rintro ⟨h,y,hy,b,hb,e1,e2⟩; exact ⟨h,y,hy,b,dj.1 hb,e1,e2⟩
 ·rintro ⟨h,y,hy,b,hb,e1,e2⟩; exact ⟨h,y,hy,b,dj.2 hb,e1,e2⟩
theorem FI {n:Nat} {p:Int→Bool}:(ns n).filter p=(ns n).filter (hasB ((ns n).filter p)):=by
 apply List.filter_congr
 intro a ha
 rw [Bool.eq_iff_iff,zF,List.mem_filter]
 exact ⟨fun h=>⟨ha,h⟩,fun h=>h.2⟩
section
variable {c:aJ} (H:gj c) {x:Int}
include H
theorem B9 {A:List Int} (hA:JZ c A):∀ y∈A,y∈ku c A:=fun y hy=>by
 have h:=hA y hy
 have ht:=H.to h.1 h.2
 have hi:=H.id ht.1 ht.2
 exact oj.2 ⟨h,y,hy,_,hi,(H.BZ _ ht.1 ht.2).symm,H.Ae y h.1 h.2⟩
theorem Mc {A:List Int} (hA:JZ c A) (hs:∀ y∈A,gi c.aH y=x):Sv c x (ku c A):=by
 refine ⟨FI,fun y hy=>?_,fun z hz b b0 b1 e=>?_⟩
 ·obtain ⟨_,z,hz,b,hb,e1,e2⟩:=oj.1 hy
  have h:=hA z hz
  rw [← e2,(H.cell z b h.1 h.2 hb.1 hb.2 e1).2.2.1]
  exact hs z hz
 ·obtain ⟨GL,y,hy,a,ha,e1,e2⟩:=oj.1 hz
  have h:=hA y hy
  have c1:=H.cell y a h.1 h.2 ha.1 ha.2 e1
  have e3:gi c.To a=gi c.aH b:=by rw [← c1.2.2.2,e2]; exact e
  have c2:=H.cell a b ha.1 ha.2 b0 b1 e3
  have c3:=H.cell z b GL.1 GL.2 b0 b1 e
  refine oj.2 ⟨⟨c3.1,c3.2.1⟩,y,hy,gk c.aG a b,⟨c2.1,c2.2.1⟩,by rw [c2.2.2.1]; exact e1,?_⟩
  rw [← H.assoc y a b h.1 h.2 ha.1 ha.2 b0 b1 e1 e3,e2]
def tO (c:aJ) (s:List Int) (a:Int):List Int:=ku c (s++[a])
theorem Ez {s:List Int} {a:Int} (hs:Sv c x s) (ha:a∈qS c x):JZ c (s++[a])∧∀ y∈s++[a],gi c.aH y=x:=by
 have h:=rh.1 ha
 refine ⟨fun y hy=>?_,fun y hy=>?_⟩
 ·rcases List.mem_append.1 hy with h' | h'
  ·exact hs.arr y h'
  ·rw [List.mem_singleton.1 h']; exact h.1
 ·rcases List.mem_append.1 hy with h' | h'
  ·exact hs.src y h'
  ·rw [List.mem_singleton.1 h']; exact h.2
theorem Pg {s:List Int} {a:Int} (hs:Sv c x s) (ha:a∈qS c x):Sv c x (tO c s a):=
 Mc H (Ez H hs ha).1 (Ez H hs ha).2
theorem Md {s:List Int} (h:Reaches (qS c x) (tO c) [] s):Sv c x s:=by
 induction h with
 | base=>exact Sv.nil c x
 | step _ ha ih=>exact Pg H ih ha
structure wo (c:aJ) (x:Int) (L:List (List Int)):Prop where
 mem:∀ s,s∈L↔Reaches (qS c x) (tO c) [] s
 nodup:L.Nodup
 len:L.length≤16
theorem wo.sv {L:List (List Int)} (h:wo c x L):∀ s∈L,Sv c x s:=fun s hs=>Md H ((h.mem s).1 hs)
inductive Found (c:aJ) (x:Int):Option (List (List Int))→Prop
 | SC (F:List (List Int)) (h:vi (qS c x) (tO c) [] F) (hl:F.length≤16):Found c x (some (F.mergeSort NS))
 | many (h:HX (qS c x) (tO c) 16 []):Found c x none
end
end Go.Proofs.YtcnehblmgfbfoaaGreat
namespace Go.Li
open Go
def cf {β:Type} (n:Nat) (g:Int→β):List β:=(ns n).map g
theorem cX {β:Type} (n:Nat) (g:Int→β):(cf n g).length=n:=by simp [cf,cJ]
theorem jq {β:Type} (n:Nat) (g:Int→β):cf (n+1) g=cf n g++[g n]:=by
 unfold cf ns
 rw [List.range_succ]; simp
theorem sD {β:Type} {n i:Nat} (g:Int→β) (h:i < n):(cf n g)[i]? = some (g i):=by
 unfold cf ns
 simp [h]
theorem uA {β:Type} {n:Nat} {g:Int→β} {y:β}:y∈cf n g↔∃ x:Int,(0≤x∧x < n)∧g x=y:=by
 unfold cf; simp only [List.mem_map,dj]
theorem uN {S S1 R β:Type} {body:S1→Option (Out S1 R)} {k:Nat} {f:S1→Option (Out S R)} {SI:S1} (n:Nat) (g:Int→β) (pk:List β→Nat→S1) (e0:pk [] 0=SI)
  (step:∀ i acc,i < n→acc.length=i→body (pk acc i)=some (.norm (pk (acc++[g i]) (i+1)))) (last:∀ acc,acc.length=n→body (pk acc n)=some (.exit k (pk acc n))) :
  aj (ag k (ai body SI)) f=f (pk (cf n g) n):=by
 rw [← e0]
 refine cw (ns n) (fun i=>pk (cf i g) i) rfl ?_ ?_
 ·intro i x hx
  obtain ⟨rfl,hi⟩:=cj hx
  rw [step i _ hi (cX i g),jq]
 ·rw [cJ]; exact last _ (cX n g)
def gl {α:Type} (l:List (List α)) (j:Int):List α:=l.getD j.toNat []
theorem Iu {α:Type} {l:List (List α)} {i:Nat} (h:i < l.length):l[i]? = some (gl l i):=by
 unfold gl; rw [List.getD_eq_getElem?_getD,Int.toNat_natCast,List.getElem?_eq_getElem h]; rfl
theorem GV {α β:Type} (l:List (List α)) (g:List α→β):cf l.length (fun i=>g (gl l i))=l.map g:=by
 apply List.ext_getElem?
 intro i
 by_cases h:i < l.length
 ·rw [sD _ h,List.getElem?_map,Iu h]; rfl
 ·rw [List.getElem?_eq_none (by rw [cX]; omega),List.getElem?_eq_none (by rw [List.length_map]; omega)]
end Go.Li
namespace Go.Proofs.YtcnehblmgfbfoaaGreat
open Go Go.Li
set_option linter.unusedSectionVars false
theorem qp (l:List Int) (hl:l.length≤1048576):gQ l=some l:=by
 unfold gQ
 rw [eB (by simp; omega) (by simp; omega),aB,List.nil_append]; rfl
theorem Me (l:List (List Int)) (hl:l.length≤1048576) (hr:∀ y∈l,y.length≤1048576):oL l=some l:=by
 unfold oL
 refine (congrArg an (uN l.length (gr l) (fun acc i=>(acc,(i:Int))) rfl ?_ ?_)).trans ?_
 ·intro i acc hi ha
  show kX l acc i=_
  unfold kX
  rw [ao (by omega),cond_true,po (by omega) (by omega),aB,qp _ (hr _ (nx (by omega) (by omega))),aB,eB (by omega) (by omega),aB,bR (by omega)]
 ·intro acc ha
  show kX l acc _=_
  unfold kX
  rw [av (by omega),cond_false]
 ·show some (cf l.length (gr l))=_
  have:=GV l (fun x=>x)
  rw [List.map_id'] at this
  exact congrArg some this
theorem EA {c:aJ} (h:ew c):nS c=some c:=by
 unfold nS
 rw [qp _ h.f,aB,qp _ h.t,aB,qp _ h.i,aB,Me _ h.k h.r,aB]; rfl
theorem EB {c:aJ} (h:ew c):iY c=some c:=by
 have h1:∀ l:List Int,l.length≤1048576→gM l=some l:=fun l hl=>qp l hl
 have hk:=h.k
 unfold iY
 rw [h1 _ h.f,aB,h1 _ h.t,aB,h1 _ h.i,aB]
 have:oW c.aG=some c.aG:=by
  unfold oW
  rw [xc (by omega) (by omega),aB]
  refine (congrArg an (uN c.aG.length (gr c.aG) (fun acc i=>(acc,(i:Int))) rfl ?_ ?_)).trans ?_
  ·intro i acc hi ha
   show mE c.aG acc i=_
   unfold mE
   rw [ao (by omega),cond_true,po (by omega) (by omega),aB,h1 _ (h.r _ (nx (by omega) (by omega))),aB,eB (by omega) (by omega),aB,bR (by omega)]
  ·intro acc ha
   show mE c.aG acc _=_
   unfold mE
   rw [av (by omega),cond_false]
  ·have:=GV c.aG (fun x=>x)
   rw [List.map_id'] at this
   exact congrArg some this
 rw [this,aB]; rfl
structure H0 (c:aJ) (k:Nat) (ls:List (List (List Int))):Prop where
 len:ls.length=k
 found:∀ i:Nat,i < k→Found c i (some (gl ls i))
section
variable {c:aJ} (H:gj c)
include H
theorem Mf {x:Int} {L:List (List Int)} (h:Found c x (some L)):wo c x L:=by
 cases h with
 | SC F h hl=>
  have hp:=List.mergeSort_perm F NS
  exact ⟨fun s=>by rw [hp.mem_iff]; exact h.mem s,hp.nodup_iff.2 h.nodup,by rw [hp.length_eq]; exact hl⟩
theorem H0.sv {k:Nat} {ls:List (List (List Int))} (h:H0 c k ls) {i:Int} (h0:0≤i) (h1:i < k):wo c i (gl ls i):=by
 have:=h.found i.toNat (by omega)
 rw [Int.toNat_of_nonneg h0] at this
 exact Mf H this
end
end Go.Proofs.YtcnehblmgfbfoaaGreat
namespace Go.Proofs.YtcnehblmgfbfoaaGreat
open Go Go.Li
set_option linter.unusedSectionVars false
section
variable {c:aJ} (H:gj c)
include H
end
end Go.Proofs.YtcnehblmgfbfoaaGreat
namespace Go.Proofs.YtcnehblmgfbfoaaGreat
open Go Go.Li
section
variable {c:aJ} (H:pP c)
include H
end
section
variable {c:aJ} (H:gj c) {x:Int}
include H
theorem Kf {A:List Int} {a:Int} (hA:JZ c A):ku c (ku c A++[a])=ku c (A++[a]):=by
 show (ns c.aH.length).filter _=(ns c.aH.length).filter _
 apply List.filter_congr
 intro z hz
 have key:∀ B:List Int,N3 c B z=true↔z∈ku c B:=fun B=>by
  unfold ku; rw [List.mem_filter]; exact ⟨fun h=>⟨hz,h⟩,fun h=>h.2⟩
 rw [Bool.eq_iff_iff,key,key,oj,oj]
 refine and_congr_right fun hz=>⟨?_,?_⟩
 ·rintro ⟨y,hy,b,hb,e1,e2⟩
  rcases List.mem_append.1 hy with hy | hy
  ·obtain ⟨yZ,u,hu,b',cg,e3,e4⟩:=oj.1 hy
   have zb:=hA u hu
   have c1:=H.cell u b' zb.1 zb.2 cg.1 cg.2 e3
   have e5:gi c.To b'=gi c.aH b:=by rw [← c1.2.2.2,e4]; exact e1
   have c2:=H.cell b' b cg.1 cg.2 hb.1 hb.2 e5
   exact ⟨u,List.mem_append_left _ hu,gk c.aG b' b,⟨c2.1,c2.2.1⟩,by rw [c2.2.2.1]; exact e3,by rw [← H.assoc u b' b zb.1 zb.2 cg.1 cg.2 hb.1 hb.2 e3 e5,e4]; exact e2⟩
  ·exact ⟨y,List.mem_append_right _ hy,b,hb,e1,e2⟩
 ·rintro ⟨y,hy,b,hb,e1,e2⟩
  rcases List.mem_append.1 hy with hy | hy
  ·exact ⟨y,List.mem_append_left _ (B9 H hA y hy),b,hb,e1,e2⟩
  ·exact ⟨y,List.mem_append_right _ hy,b,hb,e1,e2⟩
theorem FK:∀ (n:Nat) (A:List Int),A.length=n→(∀ a∈A,a∈qS c x)→Reaches (qS c x) (tO c) [] (ku c A):=by
 intro n
 induction n with
 | zero=>
  intro A hA _
  obtain rfl:A=[]:=List.length_eq_zero_iff.1 hA
  have:ku c []=[]:=by unfold ku; rw [List.filter_eq_nil_iff]; intro a _; simp [N3]
  rw [this]; exact .base
 | succ n ih=>
  intro A hA hs
  have mh:A≠[]:=by rintro rfl; cases hA
  have hd:=List.dropLast_concat_getLast mh
  have hl:A.getLast mh∈A:=List.getLast_mem mh
  have ei:∀ a∈A.dropLast,a∈qS c x:=fun a ha=>hs a (List.dropLast_subset A ha)
  have h1:=ih A.dropLast (by simp; omega) ei
  have h2:=Reaches.step (step:=tO c) h1 (hs _ hl)
  unfold tO at h2
  rw [Kf H (fun a ha=>(rh.1 (ei a ha)).1),hd] at h2
  exact h2
theorem MI {s:List Int} (h:Sv c x s):Reaches (qS c x) (tO c) [] s:=by
 have h1:=FK H s.length s rfl fun a ha=>rh.2 ⟨h.arr a ha,h.src a ha⟩
 have h2:ku c s=s:=by
  conv=>rhs; rw [h.form]
  unfold ku
  apply List.filter_congr
  intro z hz
  rw [Bool.eq_iff_iff,zF]
  constructor
  ·intro hc
   have:z∈ku c s:=List.mem_filter.2 ⟨hz,hc⟩
   obtain ⟨_,y,hy,b,hb,e1,e2⟩:=oj.1 this
   rw [← e2]; exact h.closed y hy b hb.1 hb.2 e1
  ·intro hs
   exact (List.mem_filter.1 (B9 H h.arr z hs)).2
 rw [h2] at h1; exact h1
theorem Pr {L:List (List Int)} (h:wo c x L) (s:List Int):s∈L↔Sv c x s:=⟨h.sv H s,fun hs=>(h.mem s).2 (MI H hs)⟩
theorem SY:Sv c x (qS c x):=by
 refine ⟨?_,fun y hy=>(rh.1 hy).2,fun y hy b b0 b1 e=>?_⟩
 ·show (ns c.aH.length).filter _=_
  apply List.filter_congr
  intro z hz
  rw [Bool.eq_iff_iff,zF,rh]
  simp only [beq_iff_eq]
  exact ⟨fun h=>⟨dj.1 hz,h⟩,fun h=>h.2⟩
 ·have hy:=rh.1 hy
  have c1:=H.cell y b hy.1.1 hy.1.2 b0 b1 e
  exact rh.2 ⟨⟨c1.1,c1.2.1⟩,by rw [c1.2.2.1]; exact hy.2⟩
end
end Go.Proofs.YtcnehblmgfbfoaaGreat
namespace Go.Li
open Go
section
variable {S S1 R α:Type} {body:S1→Option (Out S1 R)}
end
end Go.Li
namespace Go.Proofs.YtcnehblmgfbfoaaGreat
open Go Go.Li
def put (p:Int→List Int→Bool) (x:Int) (s:List Int):Int→List Int→Bool:=fun y t=>p y t || (y == x && t == s)
structure Tab (c:aJ) (ls:List (List (List Int))):Prop where
 cat:gj c
 lists:H0 c c.aE.toNat ls
namespace Tab
variable {c:aJ} {ls:List (List (List Int))} (T:Tab c ls)
include T
theorem len:(ls.length:Int)=c.aE:=by have h1:=T.lists.len; have h2:=T.cat.o0; omega
theorem sv {x:Int} (h0:0≤x) (h1:x < ls.length):wo c x (gl ls x):=T.lists.sv T.cat h0 (by have:=T.lists.len; omega)
theorem mem {x:Int} (h0:0≤x) (h1:x < ls.length) {s:List Int}:s∈gl ls x↔Sv c x s:=Pr T.cat (T.sv h0 h1) s
theorem nodup {x:Int} (h0:0≤x) (h1:x < ls.length):(gl ls x).Nodup:=(T.sv h0 h1).nodup
theorem fr {a:Int} (a0:0≤a) (a1:a < c.aH.length):0≤gi c.aH a∧gi c.aH a < ls.length:=by have:=T.cat.fr a0 a1; rw [← T.len] at this; exact this
theorem to {a:Int} (a0:0≤a) (a1:a < c.aH.length):0≤gi c.To a∧gi c.To a < ls.length:=by have:=T.cat.to a0 a1; rw [← T.len] at this; exact this
theorem out {x:Int} (h0:0≤x) (h1:x < ls.length):qS c x∈gl ls x:=(T.mem h0 h1).2 (SY T.cat)
theorem arr {x:Int} (h0:0≤x) (h1:x < ls.length) {s:List Int} (hs:s∈gl ls x) {a:Int} (ha:a∈s):0≤a∧a < c.aH.length:=((T.mem h0 h1).1 hs).arr a ha
end Tab
def SZ (c:aJ) (p:Int→List Int→Bool) (s t:List Int):Bool:=!(s.any fun a=>!(p (gi c.To a) (N4 c a t)))
structure aeI (c:aJ) (ls:List (List (List Int))) (q:Int→List Int→Bool):Prop where
 top:∀ x:Int,0≤x→x < ls.length→q x (qS c x)=true
 arrow:∀ a s:_,0≤a→a < (c.aH.length:Int)→s∈gl ls (gi c.aH a)→q (gi c.aH a) s=true→q (gi c.To a) (N4 c a s)=true
 loc:∀ x:Int,0≤x→x < ls.length→∀ s∈gl ls x,∀ t∈gl ls x,q x s=true→SZ c q s t=true→q x t=true
section
variable {c:aJ} {ls:List (List (List Int))} (T:Tab c ls) {p:Int→List Int→Bool}
include T
end
end Go.Proofs.YtcnehblmgfbfoaaGreat
namespace Go.Proofs.YtcnehblmgfbfoaaGreat
open Go Go.Li
def Va (ls:List (List (List Int))):List (Int×List Int):=(ns ls.length).flatMap fun x=>(gl ls x).map fun s=>(x,s)
def Dz (ls:List (List (List Int))) (p:Int→List Int→Bool):Nat:=(Va ls).countP fun z=>p z.1 z.2
def Le (ls:List (List (List Int))) (p q:Int→List Int→Bool):Prop:=∀ y:Int,0≤y→y < ls.length→∀ t∈gl ls y,p y t=true→q y t=true
theorem Le.tr {ls:List (List (List Int))} {p q r:Int→List Int→Bool} (h:Le ls p q) (g:Le ls q r):Le ls p r:=fun y h0 h1 t ht hp=>g y h0 h1 t ht (h y h0 h1 t ht hp)
theorem Le.put {ls:List (List (List Int))} {p:Int→List Int→Bool} {x:Int} {s:List Int}:Le ls p (put p x s):=fun y _ _ t _ h=>by
 show (p y t || _)=true
 rw [h]; rfl
end Go.Proofs.YtcnehblmgfbfoaaGreat
namespace Go.Proofs.YtcnehblmgfbfoaaGreat
open Go Go.Li
section
variable {c:aJ} {ls:List (List (List Int))} (T:Tab c ls) {p:Int→List Int→Bool}
include T
end
end Go.Proofs.YtcnehblmgfbfoaaGreat
namespace Go.Proofs.YtcnehblmgfbfoaaGreat
open Go Go.Li
section
end
end Go.Proofs.YtcnehblmgfbfoaaGreat
namespace Go.Proofs.YtcnehblmgfbfoaaGreat
open Go Go.Li
end Go.Proofs.YtcnehblmgfbfoaaGreat
namespace Go.Proofs.YtcnehblmgfbfoaaGreat
open Go Go.Li
theorem sW {S S1 R:Type} {body:S1→Option (Out S1 R)} {k:Nat} {f:S1→Option (Out S R)} {s0:S1} (l:List Int) (q:Int→Bool) (pk:List Int→Nat→S1) (e0:pk [] 0=s0)
  (step:∀ i a acc,l[i]? = some a→acc.length≤i→body (pk acc i)=some (.norm (pk (if q a then acc++[a] else acc) (i+1)))) (last:∀ acc,body (pk acc l.length)=some (.exit k (pk acc l.length))) :
  aj (ag k (ai body s0)) f=f (pk (l.filter q) l.length):=by
 refine (cw l (fun i=>pk ((l.take i).filter q) i) (by simpa using e0) (fun i a ha=>?_) (e:=pk (l.filter q) l.length) ?_)
 ·rw [step i a _ ha (by have:=List.length_filter_le q (l.take i); rw [List.length_take] at this; omega),jo ha,List.filter_append]
  cases h:q a <;> simp [h]
 ·rw [last,List.take_length]
section
variable {c:aJ} {ls:List (List (List Int))} (T:Tab c ls) {p q:Int→List Int→Bool}
include T
end
end Go.Proofs.YtcnehblmgfbfoaaGreat
namespace Go.Proofs.YtcnehblmgfbfoaaGreat
open Go Go.Li
section
variable {c:aJ} (H:gj c)
include H
end
end Go.Proofs.YtcnehblmgfbfoaaGreat
namespace Go.Proofs.YtcnehblmgfbfoaaGreat
open Go Go.Li
def jv (c d:aJ):Bool:=c.aE == d.aE && (c.aH == d.aH && (c.To == d.To && (c.aI == d.aI && c.aG == d.aG)))
theorem ib {c d:aJ}:jv c d=true↔c=d:=by
 unfold jv
 simp only [Bool.and_eq_true,beq_iff_eq]
 constructor
 ·rintro ⟨h1,h2,h3,h4,h5⟩
  cases c; cases d
  dsimp only at h1 h2 h3 h4 h5
  rw [h1,h2,h3,h4,h5]
 ·rintro rfl; exact ⟨rfl,rfl,rfl,rfl,rfl⟩
theorem vB {c d:aJ} (h:ew c):lZ c d=some (jv c d):=by
 obtain ⟨h1,h2,h3,h4,h5⟩:=h
 have e5:pE c.aG d.aG=some (c.aG == d.aG):=GS _ _ (by omega) (fun z hz=>by have:=h5 z hz; omega)
 unfold lZ jv
 cases c.aE == d.aE with
 | false=>rfl
 | true=>
  rw [cond_true,uy _ _ (by omega),aB]
  cases c.aH == d.aH with
  | false=>rfl
  | true=>
   rw [cond_true,uy _ _ (by omega),aB]
   cases c.To == d.To with
   | false=>rfl
   | true=>
    rw [cond_true,uy _ _ (by omega),aB]
    cases c.aI == d.aI with
    | false=>rfl
    | true=>rw [cond_true,e5]; rfl
theorem MK:∀ {x y:List (List Int)},x.length=y.length→(x == y) = !((x.zip y).any fun z=>!(z.1 == z.2)):=by
 intro x
 induction x with
 | nil=>intro y h; cases y with
  | nil=>rfl
  | cons b y=>simp at h
 | cons a x ih=>
  intro y h
  cases y with
  | nil=>simp at h
  | cons b y=>
   have h':x.length=y.length:=by simpa using h
   rw [List.zip_cons_cons,List.any_cons,Bool.not_or,Bool.not_not,← ih h']; rfl
theorem sM {c d:aJ} (h:ew c):fZ c d=some (jv c d):=by
 obtain ⟨h1,h2,h3,h4,h5⟩:=h
 unfold fZ jv
 cases e1:c.aE == d.aE with
 | false=>rw [show (c.aE != d.aE)=true by unfold bne; rw [e1]; rfl]; rfl
 | true=>
  rw [show (c.aE != d.aE)=false by unfold bne; rw [e1]; rfl,cond_false,uM _ _ (by omega),aB]
  cases c.aH == d.aH with
  | false=>rfl
  | true=>
   rw [Bool.not_true,cond_false,uM _ _ (by omega),aB]
   cases c.To == d.To with
   | false=>rfl
   | true=>
    rw [Bool.not_true,cond_false,uM _ _ (by omega),aB]
    cases c.aI == d.aI with
    | false=>rfl
    | true=>
     rw [Bool.not_true,cond_false,aB]
     simp only [Bool.true_and]
     by_cases hl:c.aG.length=d.aG.length
     ·rw [sa (by omega),cond_false,MK hl]
      refine (congrArg an (gh (c.aG.zip d.aG) (fun z=>!(z.1 == z.2)) (fun i=>(i:Int)) rfl ?_ ?_ (e:=((c.aG.zip d.aG).length:Int)) (y:=false) ?_)).trans ?_
      ·intro i z hz hp
       obtain ⟨z1,z2⟩:=z
       obtain ⟨g1,g2⟩:=List.getElem?_zip_eq_some.1 hz
       have hi:=bc g1
       have:=h5 _ (List.mem_of_getElem? g1)
       unfold jT
       rw [ao (by omega),cond_true,bf,g1,aB,bf,g2,aB,uM _ _ (by omega),aB]
       rw [show (!(z1 == z2))=false from hp,cond_false,bR (by omega)]
      ·intro i z hz hp
       obtain ⟨z1,z2⟩:=z
       obtain ⟨g1,g2⟩:=List.getElem?_zip_eq_some.1 hz
       have hi:=bc g1
       have:=h5 _ (List.mem_of_getElem? g1)
       unfold jT
       rw [ao (by omega),cond_true,bf,g1,aB,bf,g2,aB,uM _ _ (by omega),aB]
       rw [show (!(z1 == z2))=true from hp,cond_true]
      ·unfold jT
       rw [List.length_zip,← hl,Nat.min_self,av (by omega),cond_false]
      ·cases (c.aG.zip d.aG).any fun z=>!(z.1 == z.2) <;> rfl
     ·rw [qq (by omega)]
      have:(c.aG == d.aG)=false:=kz fun h=>hl (by rw [h])
      rw [this]; rfl
end Go.Proofs.YtcnehblmgfbfoaaGreat
namespace Go.Proofs.YtcnehblmgfbfoaaGreat
open Go Go.Li
theorem ke {S R:Type} {body:Int→Option (Out Int R)} {k:Nat} {f:Int→Option (Out S R)} {n:Nat} (p:Int→Bool) {y:R}
  (h:∀ i:Nat,i < n→body (i:Int)=bif p i then some (.ret y) else some (.norm ((i+1:Nat):Int))) (last:body (n:Int)=some (.exit k (n:Int))) :
  aj (ag k (ai body (0:Int))) f=bif (ns n).any p then some (.ret y) else f n:=by
 refine (gh (ns n) p (fun i=>(i:Int)) rfl ?_ ?_ (e:=(n:Int)) (y:=y) ?_).trans ?_
 ·intro i x hx hp; obtain ⟨rfl,hi⟩:=cj hx; rw [h i hi,hp]; rfl
 ·intro i x hx hp; obtain ⟨rfl,hi⟩:=cj hx; rw [h i hi,hp]; rfl
 ·rw [cJ]; exact last
 ·cases (ns n).any p <;> rfl
theorem YR {S R:Type} {body:Int→Option (Out Int R)} {k:Nat} {f:Int→Option (Out S R)} {n:Nat} (p:Int→Bool) (G:R→Prop)
  (h:∀ i:Nat,i < n→(p i=false∧body (i:Int)=some (.norm ((i+1:Nat):Int)))∨(p i=true∧∃ y,body (i:Int)=some (.ret y)∧G y)) (last:body (n:Int)=some (.exit k (n:Int))) :
  ((ns n).any p=false∧aj (ag k (ai body (0:Int))) f=f n)∨((ns n).any p=true∧∃ y,aj (ag k (ai body (0:Int))) f=some (.ret y)∧G y):=by
 refine (uI (ns n) p G (fun i=>(i:Int)) rfl ?_ ?_ (e:=(n:Int)) (by rw [cJ]; exact last)).elim (fun h=>.inr h) (fun h=>.inl h)
 ·intro i x hx hp
  obtain ⟨rfl,hi⟩:=cj hx
  rcases h i hi with ⟨_,h⟩ | ⟨h,_⟩
  ·exact h
  ·rw [hp] at h; cases h
 ·intro i x hx hp
  obtain ⟨rfl,hi⟩:=cj hx
  rcases h i hi with ⟨h,_⟩ | ⟨_,h⟩
  ·rw [hp] at h; cases h
  ·exact h
theorem vl {α:Type} {b:Bool} {x y:α}:(bif b then some x else some y)=some (bif b then x else y):=by cases b <;> rfl
theorem Bv {a b:Bool}:(bif a then true else b)=(a || b):=by cases a <;> rfl
theorem ML {a b:Bool}:(bif a then b else false)=(a && b):=by cases a <;> rfl
theorem dn {n:Nat} {p:Int→Bool}:(ns n).any p=false↔∀ i:Int,0≤i→i < n→p i=false:=by
 rw [List.any_eq_false]
 exact ⟨fun h i h0 h1=>by simpa using h i (dj.2 ⟨h0,h1⟩),fun h i hi=>by simp [h i (dj.1 hi).1 (dj.1 hi).2]⟩
namespace SFHead
end SFHead
end Go.Proofs.YtcnehblmgfbfoaaGreat
namespace Go.Proofs.YtcnehblmgfbfoaaGreat
open Go Go.Li
namespace SFShape
end SFShape
end Go.Proofs.YtcnehblmgfbfoaaGreat
namespace Go.Proofs.YtcnehblmgfbfoaaGreat
open Go Go.Li
namespace SMShape
end SMShape
def thenS (a b:List Int):List Int:=cf a.length fun i=>gi b (gi a i)
theorem zI (a b:List Int) (ha:a.length≤1048576) (hb:∀ x∈a,0≤x∧x < b.length):nI a b=some (thenS a b):=by
 unfold nI
 rw [xc (by omega) (by omega),aB]
 have hl:(thenS a b).length=a.length:=cX _ _
 refine (congrArg an (cw (ns a.length) (fun i=>((i:Int),(thenS a b).take i++List.replicate (a.length - i) (0:Int))) (by simp) ?_ (e:=((a.length:Int),thenS a b)) ?_)).trans rfl
 ·intro i x hx
  obtain ⟨rfl,hi⟩:=cj hx
  have hg:(thenS a b)[i]? = some (gi b (gi a i)):=sD _ hi
  have hm:=hb _ (ks (l:=a) (j:=(i:Int)) (by omega) (by omega))
  have hc:=sC (thenS a b) (0:Int) hg
  have Ki:=get_copy (thenS a b) (0:Int) hg
  rw [hl] at hc Ki
  show nH a b (i:Int) _=_
  unfold nH
  rw [ao (by omega),cond_true,dE (by omega) (by omega),aB,dE hm.1 hm.2,aB,bf,Ki,aB,bR (by omega),Int.toNat_natCast,hc]
 ·rw [cJ]
  show nH a b _ _=_
  unfold nH
  rw [av (by omega),cond_false,Nat.sub_self,List.take_of_length_le (by omega)]
  simp
end Go.Proofs.YtcnehblmgfbfoaaGreat
