/- Tables told by two numbers: loops in loops that fill a list, and what stands where. No condition beside those that each theorem names. -/
import Derived.Test.YtbhhmalgcnhniaaGreatPj
import Derived.Test.YtbhhmalgcnhniaaGreatPe
import Derived.Test.YtbhhmalgcnhniaaGreatVc
namespace Go.Proofs.YtbhhmalgcnhniaaGreat
open Go Go.Li
def l6 {β:Type} (n m:Nat) (g:Int→Int→β):List β:=(bz n fun a=>bz m (g a)).flatten
theorem Fg {β:Type} (m:Nat) (g:Int→Int→β):l6 0 m g=[]:=rfl
theorem vX {β:Type} (n m:Nat) (g:Int→Int→β):l6 (n+1) m g=l6 n m g++bz m (g n):=by
 unfold l6
 rw [gv,List.flatten_append]
 simp
theorem gn {β:Type} (n m:Nat) (g:Int→Int→β):(l6 n m g).length=n * m:=by
 induction n with
 | zero=>simp [Fg]
 | succ n ih=>rw [vX,List.length_append,ih,bJ,Nat.succ_mul]
theorem HX {β:Type} {n m:Nat} (g:Int→Int→β) {a b:Nat} (ha:a < n) (hb:b < m):(l6 n m g)[a * m+b]? = some (g a b):=by
 induction n with
 | zero=>omega
 | succ n ih=>
  rw [vX]
  by_cases h:a < n
  ·have hl:a * m+b < (l6 n m g).length:=by
    rw [gn]
    have:(a+1) * m≤n * m:=Nat.mul_le_mul_right m h
    rw [Nat.succ_mul] at this
    omega
   rw [List.getElem?_append_left hl]
   exact ih h
  ·obtain rfl:a=n:=by omega
   rw [List.getElem?_append_right (by rw [gn]; omega),gn,show a * m+b - a * m=b by omega]
   exact p9 _ hb
theorem zY {β:Type} {n m:Nat} {g:Int→Int→β} {y:β}:y∈l6 n m g↔∃ a b:Int,(0≤a∧a < n)∧(0≤b∧b < m)∧g a b=y:=by
 unfold l6
 rw [List.mem_flatten]
 constructor
 ·rintro ⟨l,hl,hy⟩
  obtain ⟨a,ha,rfl⟩:=ov.1 hl
  obtain ⟨b,hb,rfl⟩:=ov.1 hy
  exact ⟨a,b,ha,hb,rfl⟩
 ·rintro ⟨a,b,ha,hb,rfl⟩
  exact ⟨_,ov.2 ⟨a,ha,rfl⟩,ov.2 ⟨b,hb,rfl⟩⟩
theorem V1 {n m k:Nat} (h:k < n * m):∃ a b,a < n∧b < m∧k=a * m+b:=by
 have hm:0 < m:=by
  rcases Nat.eq_zero_or_pos m with rfl | hm
  ·simp at h
  ·exact hm
 exact ⟨k / m,k % m,Nat.div_lt_of_lt_mul (by rwa [Nat.mul_comm] at h),Nat.mod_lt _ hm,by rw [Nat.mul_comm]; exact (Nat.div_add_mod k m).symm⟩
section
variable {S S1 R β:Type} {body:S1→Option (Out S1 R)} {k:Nat} {f:S1→Option (Out S R)} {HC:S1}
theorem tP (n:Nat) (g:Int→β) (vr:List β) (pk:List β→Nat→S1) (e0:pk vr 0=HC)
  (step:∀ i acc,i < n→acc.length=vr.length+i→body (pk acc i)=some (.norm (pk (acc++[g i]) (i+1)))) (last:∀ acc,acc.length=vr.length+n→body (pk acc n)=some (.exit k (pk acc n))) :
  af (ae k (ag body HC)) f=f (pk (vr++bz n g) n):=by
 refine (vp n g (fun acc i=>pk (vr++acc) i) (by rw [List.append_nil]; exact e0) (fun i acc hi ha=>?_) fun acc ha=>?_)
 ·rw [step i _ hi (by rw [List.length_append,ha]),List.append_assoc]
 ·exact last _ (by rw [List.length_append,ha])
theorem yd (n m:Nat) (g:Int→Int→β) (vr:List β) (pk:List β→Nat→S1) (e0:pk vr 0=HC)
  (step:∀ i acc,i < n→acc.length=vr.length+i * m→body (pk acc i)=some (.norm (pk (acc++bz m (g i)) (i+1)))) (last:∀ acc,acc.length=vr.length+n * m→body (pk acc n)=some (.exit k (pk acc n))) :
  af (ae k (ag body HC)) f=f (pk (vr++l6 n m g) n):=by
 rw [← e0]
 refine (congrArg (fun s=>af (ae k (ag body s)) f) (show pk vr 0=pk (vr++l6 0 m g) 0 by rw [Fg,List.append_nil])).trans ?_
 refine j5 (ns n) (fun i=>pk (vr++l6 i m g) i) rfl ?_ ?_
 ·intro i x hx
  obtain ⟨rfl,hi⟩:=dg hx
  rw [step i _ hi (by rw [List.length_append,gn]),vX,List.append_assoc]
 ·rw [cN]; exact last _ (by rw [List.length_append,gn])
end
theorem lq {n:Nat} {g:Int→Int} {i:Int} (h0:0≤i) (h1:i < n):gi (bz n g) i=g i:=by
 obtain ⟨k,rfl⟩ : ∃ k:Nat,i=k:=⟨i.toNat,by omega⟩
 have h:=p9 g (i:=k) (n:=n) (by omega)
 unfold gi
 rw [List.getD_eq_getElem?_getD,show ((k:Int)).toNat=k from rfl,h]; rfl
theorem wO {n m:Nat} {g:Int→Int→Int} {a b:Int} (a0:0≤a) (a1:a < n) (b0:0≤b) (b1:b < m):gi (l6 n m g) (a * m+b)=g a b:=by
 obtain ⟨i,rfl⟩ : ∃ k:Nat,a=k:=⟨a.toNat,by omega⟩
 obtain ⟨j,rfl⟩ : ∃ k:Nat,b=k:=⟨b.toNat,by omega⟩
 have h:=HX g (a:=i) (b:=j) (n:=n) (m:=m) (by omega) (by omega)
 unfold gi
 rw [List.getD_eq_getElem?_getD,show ((i:Int) * (m:Int)+(j:Int)).toNat=i * m+j by
  rw [← Int.natCast_mul,← Int.natCast_add]; rfl,h]; rfl
end Go.Proofs.YtbhhmalgcnhniaaGreat
namespace Go.Proofs.YtbhhmalgcnhniaaGreat
open Go Go.Li
theorem PJ {β γ:Type} (n:Nat) (g:Int→β) (h:β→γ):(bz n g).map h=bz n fun i=>h (g i):=by
 induction n with
 | zero=>rfl
 | succ n ih=>rw [gv,gv,List.map_append,ih]; rfl
theorem xF {β γ:Type} (n m:Nat) (g:Int→Int→β) (h:β→γ):(l6 n m g).map h=l6 n m fun a b=>h (g a b):=by
 induction n with
 | zero=>rfl
 | succ n ih=>rw [vX,vX,List.map_append,ih,PJ]
structure Ty (c:aG):Prop where
 o0:0≤c.aA
 f:∀ x∈c.aF,0≤x∧x < c.aA
 tl:c.To.length=c.aF.length
 t:∀ x∈c.To,0≤x∧x < c.aA
 kl:c.aC.length=c.aF.length
 kr:∀ r∈c.aC,r.length=c.aF.length
 il:(c.aH.length:Int)=c.aA
 i:∀ x∈c.aH,0≤x∧x < c.aF.length
 u4:∀ x:Int,0≤x→x < c.aA→gi c.aF (gi c.aH x)=x
 wu:∀ x:Int,0≤x→x < c.aA→gi c.To (gi c.aH x)=x
 cell:∀ f g:Int,0≤f→f < c.aF.length→0≤g→g < c.aF.length→gi c.To f=gi c.aF g→(0≤gk c.aC f g∧gk c.aC f g < c.aF.length)∧gi c.aF (gk c.aC f g)=gi c.aF f∧gi c.To (gk c.aC f g)=gi c.To g
 none:∀ f g:Int,0≤f→f < c.aF.length→0≤g→g < c.aF.length→gi c.To f≠gi c.aF g→gk c.aC f g = -1
 uu:∀ x:Int,0≤x→x < c.aA→gk c.aC (gi c.aH x) (gi c.aH x)=gi c.aH x
namespace Ty
variable {c:aG} (h:Ty c)
include h
theorem fr {f:Int} (h0:0≤f) (h1:f < c.aF.length):0≤gi c.aF f∧gi c.aF f < c.aA:=h.f _ (eh h0 h1)
theorem to {f:Int} (h0:0≤f) (h1:f < c.aF.length):0≤gi c.To f∧gi c.To f < c.aA:=h.t _ (eh h0 (by rw [h.tl]; exact h1))
theorem id {x:Int} (h0:0≤x) (h1:x < c.aA):0≤gi c.aH x∧gi c.aH x < c.aF.length:=h.i _ (eh h0 (by rw [h.il]; exact h1))
theorem ic {f:Int} (h0:0≤f) (h1:f < c.aF.length):idx c.aF f=some (gi c.aF f):=have _:=h; bL h0 h1
theorem ig {f:Int} (h0:0≤f) (h1:f < c.aF.length):idx c.To f=some (gi c.To f):=bL h0 (by rw [h.tl]; exact h1)
theorem kz {x:Int} (h0:0≤x) (h1:x < c.aA):idx c.aH x=some (gi c.aH x):=bL h0 (by rw [h.il]; exact h1)
theorem nq {f:Int} (h0:0≤f) (h1:f < c.aF.length):idx c.aC f=some (gr c.aC f):=j6 h0 (by rw [h.kl]; exact h1)
theorem row {f:Int} (h0:0≤f) (h1:f < c.aF.length):(gr c.aC f).length=c.aF.length:=h.kr _ (kv h0 (by rw [h.kl]; exact h1))
theorem me {f g:Int} (h0:0≤f) (h1:f < c.aF.length) (h2:0≤g) (h3:g < c.aF.length):idx (gr c.aC f) g=some (gk c.aC f g):=bL h2 (by rw [h.row h0 h1]; exact h3)
theorem BT {f g:Int} (h0:0≤f) (h1:f < c.aF.length) (h2:0≤g) (h3:g < c.aF.length) : -1≤gk c.aC f g∧gk c.aC f g < c.aF.length:=by
 by_cases e:gi c.To f=gi c.aF g
 ·have:=(h.cell f g h0 h1 h2 h3 e).1; omega
 ·rw [h.none f g h0 h1 h2 h3 e]; omega
end Ty
def mz (c d:aG) (a b f g:Int):Int:=
 if 0≤gk c.aC a f∧0≤gk d.aC b g then gk c.aC a f * d.aF.length+gk d.aC b g else -1
def vB (c d:aG):aG:=
 ⟨c.aA * d.aA,l6 c.aF.length d.aF.length fun a b=>gi c.aF a * d.aA+gi d.aF b,
  l6 c.aF.length d.aF.length fun a b=>gi c.To a * d.aA+gi d.To b,
  l6 c.aA.toNat d.aA.toNat fun x y=>gi c.aH x * d.aF.length+gi d.aH y,
  l6 c.aF.length d.aF.length fun a b=>l6 c.aF.length d.aF.length (mz c d a b)⟩
theorem HY {i n a b:Int} (i0:0≤i) (i1:i≤a) (n0:0≤n) (n1:n≤b):0≤i * n∧i * n≤a * b:=
 ⟨Int.mul_nonneg i0 n0,Int.mul_le_mul i1 n1 n0 (Int.le_trans i0 i1)⟩
theorem Iu {c d:aG} (C:Ty c) (D:Ty d) (co:c.aA≤10000) (cm:c.aF.length≤10000) (dO:d.aA≤10000) (dm:d.aF.length≤10000):fV c d=some (vB c d):=by
 have c0:=C.o0
 have d0:=D.o0
 obtain ⟨no,sd⟩ : ∃ n:Nat,c.aA=n:=⟨c.aA.toNat,by omega⟩
 obtain ⟨nd,dt⟩ : ∃ n:Nat,d.aA=n:=⟨d.aA.toNat,by omega⟩
 have Q3:∀ {x y n:Int} {m:Nat},0≤x→x < n→n≤10000→0≤y→y < m→m≤10000→aj (aj (x * (m:Int))+y)=x * m+y:=by
  intro x y n m x0 x1 x2 y0 y1 y2
  have:=HY (n:=(m:Int)) (b:=10000) x0 (Int.le_of_lt x1) (by omega) (by omega)
  have h2:n * 10000≤10000 * 10000:=Int.mul_le_mul_of_nonneg_right x2 (by omega)
  rw [dM (a:=x * (m:Int)) (by omega) (by omega),dM (by omega) (by omega)]
 unfold fV
 refine (congrArg ak (yd (β:=Int) no nd (fun x y=>gi c.aH x * d.aF.length+gi d.aH y) [] (fun acc i=>((i:Int),acc)) rfl ?_ ?_)).trans ?_
 ·intro i acc hi ha
  show fI c d i acc=_
  unfold fI
  rw [ao (by omega:(i:Int) < c.aA),cond_true]
  refine (tP (β:=Int) nd (fun y=>gi c.aH i * d.aF.length+gi d.aH y) acc (fun acc j=>((j:Int),acc)) rfl ?_ ?_).trans ?_
  ·intro j tQ hj ha'
   show fH c d i j tQ=_
   unfold fH
   have hl:tQ.length≤100010000:=by
    have:i * nd≤10000 * 10000:=Nat.mul_le_mul (by omega) (by omega)
    simp only [List.length_nil] at ha
    omega
   have e1:=C.id (x:=(i:Int)) (by omega) (by omega)
   have e2:=D.id (x:=(j:Int)) (by omega) (by omega)
   rw [ao (by omega:(j:Int) < d.aA),cond_true,C.kz (by omega) (by omega),aE,D.kz (by omega) (by omega),aE,cY (by omega) (by omega),aE,bF (by omega),Q3 e1.1 e1.2 (by omega) e2.1 e2.2 (by omega)]
  ·intro tQ _
   show fH c d i _ tQ=_
   unfold fH
   rw [ay (by omega),cond_false]
  ·dsimp only
   rw [bF (by omega)]
 ·intro acc _
  show fI c d _ acc=_
  unfold fI
  rw [ay (by omega),cond_false]
 ·dsimp only
  refine (congrArg ak (yd (β:=Int×Int×List Int) c.aF.length d.aF.length (fun a b=>(gi c.aF a * d.aA+gi d.aF b,gi c.To a * d.aA+gi d.To b,l6 c.aF.length d.aF.length (mz c d a b))) [] (fun acc i=>((i:Int),acc.map (·.1),acc.map (·.2.1),acc.map (·.2.2))) rfl ?_ ?_)).trans ?_
  ·intro i acc hi ha
   show fM c d i (acc.map (·.1)) (acc.map (·.2.1)) (acc.map (·.2.2))=_
   unfold fM
   rw [ao (by omega:(i:Int) < (c.aF.length:Int)),cond_true]
   refine (tP (β:=Int×Int×List Int) d.aF.length (fun b=>(gi c.aF i * d.aA+gi d.aF b,gi c.To i * d.aA+gi d.To b,l6 c.aF.length d.aF.length (mz c d i b))) acc (fun acc j=>((j:Int),acc.map (·.1),acc.map (·.2.1),acc.map (·.2.2))) rfl ?_ ?_).trans ?_
   ·intro j tQ hj ha'
    show fL c d i j (tQ.map (·.1)) (tQ.map (·.2.1)) (tQ.map (·.2.2))=_
    unfold fL
    have i0:(0:Int)≤i:=by omega
    have i1:(i:Int) < (c.aF.length:Int):=by omega
    have j0:(0:Int)≤j:=by omega
    have j1:(j:Int) < (d.aF.length:Int):=by omega
    have hl:tQ.length≤100010000:=by
     have:i * d.aF.length≤10000 * 10000:=Nat.mul_le_mul (by omega) dm
     simp only [List.length_nil] at ha
     omega
    have f1:=C.fr i0 i1
    have f2:=D.fr j0 j1
    have t1:=C.to i0 i1
    have t2:=D.to j0 j1
    rw [ao (by omega:(j:Int) < (d.aF.length:Int)),cond_true,C.ic i0 i1,aE,D.ic j0 j1,aE,cY (by rw [List.length_map]; omega) (by rw [List.length_map]; omega),aE,C.ig i0 i1,aE,D.ig j0 j1,aE,cY (by rw [List.length_map]; omega) (by rw [List.length_map]; omega),aE]
    refine (yd (β:=Int) c.aF.length d.aF.length (mz c d i j) [] (fun acc p=>(acc,(p:Int))) rfl ?_ ?_).trans ?_
    ·intro p row hp hr
     show fK c d i j row p=_
     unfold fK
     have p0:(0:Int)≤p:=by omega
     have p1:(p:Int) < (c.aF.length:Int):=by omega
     rw [ao (by omega:(p:Int) < (c.aF.length:Int)),cond_true]
     refine (tP (β:=Int) d.aF.length (fun q=>mz c d i j p q) row (fun acc q=>(acc,(q:Int))) rfl ?_ ?_).trans ?_
     ·intro q KT hq gp
      show fJ c d i j p KT q=_
      unfold fJ
      have q0:(0:Int)≤q:=by omega
      have q1:(q:Int) < (d.aF.length:Int):=by omega
      have CV:KT.length≤100010000:=by
       have:p * d.aF.length≤10000 * 10000:=Nat.mul_le_mul (by omega) dm
       simp only [List.length_nil] at hr
       omega
      have k1:=C.BT i0 i1 p0 p1
      have k2:=D.BT j0 j1 q0 q1
      rw [ao (by omega:(q:Int) < (d.aF.length:Int)),cond_true,C.nq i0 i1,aE,C.me i0 i1 p0 p1,aE]
      by_cases e1:0≤gk c.aC i p
      ·rw [ao (show gk c.aC i p ≥ 0 from e1),cond_true,D.nq j0 j1,aE,D.me j0 j1 q0 q1,aE,aE]
       by_cases e2:0≤gk d.aC j q
       ·rw [ao (show gk d.aC j q ≥ 0 from e2),cond_true,aE,C.me i0 i1 p0 p1,aE,aE,D.me j0 j1 q0 q1,aE,cY (by omega) (by omega),aE,bF (by omega),Q3 e1 k1.2 (by omega) e2 k2.2 (by omega)]
        unfold mz
        rw [if_pos ⟨e1,e2⟩]
       ·rw [ay (show ¬ gk d.aC j q ≥ 0 from e2),cond_false,cY (by omega) (by omega),aE,bF (by omega)]
        unfold mz
        rw [if_neg (fun h=>e2 h.2)]
      ·rw [ay (show ¬ gk c.aC i p ≥ 0 from e1),cond_false,aE,cond_false,cY (by omega) (by omega),aE,bF (by omega)]
       unfold mz
       rw [if_neg (fun h=>e1 h.1)]
     ·intro KT _
      show fJ c d i j p KT _=_
      unfold fJ
      rw [ay (by omega),cond_false]
     ·dsimp only
      rw [bF (by omega)]
    ·intro row _
     show fK c d i j row _=_
     unfold fK
     rw [ay (by omega),cond_false]
    ·dsimp only
     rw [cY (by rw [List.length_map]; omega) (by rw [List.length_map]; omega),aE,bF (by omega),dt,Q3 f1.1 f1.2 co f2.1 (by omega) (by omega),Q3 t1.1 t1.2 co t2.1 (by omega) (by omega)]
     simp only [List.map_append,List.map_cons,List.map_nil,List.nil_append]
   ·intro tQ _
    show fL c d i _ (tQ.map (·.1)) (tQ.map (·.2.1)) (tQ.map (·.2.2))=_
    unfold fL
    rw [ay (by omega),cond_false]
   ·dsimp only
    rw [bF (by omega)]
  ·intro acc _
   show fM c d _ (acc.map (·.1)) (acc.map (·.2.1)) (acc.map (·.2.2))=_
   unfold fM
   rw [ay (by omega),cond_false]
  ·have:=HY (a:=10000) (b:=10000) c0 co d0 dO
   show some _=_
   rw [List.nil_append,List.nil_append,xF,xF,xF,dM (by omega) (by omega)]
   unfold vB
   rw [sd,dt]
   rfl
end Go.Proofs.YtbhhmalgcnhniaaGreat
namespace Go.Proofs.YtbhhmalgcnhniaaGreat
open Go Go.Li
def Bq (l:List Int) (n y:Int):Prop:=(y = -1∧∀ k:Nat,l[k]?≠some n)∨∃ k:Nat,y=k∧l[k]? = some n∧∀ j:Nat,j < k→l[j]?≠some n
theorem Bq.vE {l:List Int} {n y z:Int} (h:Bq l n y) (k:Bq l n z):y=z:=by
 rcases h with ⟨rfl,h⟩ | ⟨a,rfl,h1,h2⟩
 ·rcases k with ⟨rfl,_⟩ | ⟨b,rfl,k1,_⟩
  ·rfl
  ·exact absurd k1 (h b)
 ·rcases k with ⟨rfl,k⟩ | ⟨b,rfl,k1,k2⟩
  ·exact absurd h1 (k a)
  ·rcases Nat.lt_trichotomy a b with wo | rfl | wo
   ·exact absurd h1 (k2 a wo)
   ·rfl
   ·exact absurd k1 (h2 b wo)
theorem Bq.pos {l:List Int} {n y:Int} (h:Bq l n y) (hy:0≤y):y < l.length∧l[y.toNat]? = some n:=by
 rcases h with ⟨rfl,_⟩ | ⟨k,rfl,h1,_⟩
 ·omega
 ·exact ⟨by have:=(List.getElem?_eq_some_iff.1 h1).1; omega,h1⟩
theorem Bq.app {l:List Int} {n y m:Int} (h:Bq l n y) (hy:0≤y):Bq (l++[m]) n y:=by
 rcases h with ⟨rfl,_⟩ | ⟨k,rfl,h1,h2⟩
 ·omega
 ·have hk:=(List.getElem?_eq_some_iff.1 h1).1
  exact .inr ⟨k,rfl,by rw [List.getElem?_append_left hk]; exact h1,fun j hj=>by rw [List.getElem?_append_left (by omega)]; exact h2 j hj⟩
theorem Bq.new {l:List Int} {n y:Int} (h:Bq l n y) (hy:y < 0):Bq (l++[n]) n (l.length:Int):=by
 rcases h with ⟨_,h⟩ | ⟨k,rfl,_⟩
 ·refine .inr ⟨l.length,rfl,by simp,fun j hj=>?_⟩
  rw [List.getElem?_append_left hj]
  exact h j
 ·omega
def Rg (q:List Int):Prop:=∀ y∈q,∀ z:Int,0≤z→z≤y→z∈q
end Go.Proofs.YtbhhmalgcnhniaaGreat
namespace Go.Proofs.YtbhhmalgcnhniaaGreat
open Go Go.Li
theorem V2 {cl:List (List Int)} {y:Nat} {q:List Int} (x:Nat):gr (cl.set y q) x=if y=x∧y < cl.length then q else gr cl x:=by
 unfold gr
 rw [List.getD_eq_getElem?_getD,List.getD_eq_getElem?_getD,show ((x:Int)).toNat=x from rfl,List.getElem?_set]
 by_cases h:y=x
 ·subst h
  by_cases h2:y < cl.length
  ·simp [h2]
  ·simp [h2]
 ·simp [h]
theorem MI {l:List (List Int)} {y:List Int} (h:y∈l):∃ i:Int,0≤i∧i < l.length∧gr l i=y:=by
 obtain ⟨k,hk⟩:=List.getElem?_of_mem h
 have hl:=(List.getElem?_eq_some_iff.1 hk).1
 refine ⟨k,by omega,by omega,?_⟩
 unfold gr
 rw [List.getD_eq_getElem?_getD,show ((k:Int)).toNat=k from rfl,hk]; rfl
theorem qv {l:List Int} {q:Int} {i j:Int} (i0:0≤i) (i1:i < l.length) (j0:0≤j):gi (l.set i.toNat q) j=if j=i then q else gi l j:=by
 unfold gi
 rw [List.getD_eq_getElem?_getD,List.getD_eq_getElem?_getD,List.getElem?_set]
 by_cases h:j=i
 ·subst h; rw [if_pos rfl,if_pos rfl,if_pos (by omega)]; rfl
 ·rw [if_neg (by omega),if_neg h]
theorem j7 {l:List Int} {y:Int} (h:y∈l):∃ i:Int,0≤i∧i < l.length∧gi l i=y:=by
 obtain ⟨k,hk⟩:=List.getElem?_of_mem h
 have hl:=(List.getElem?_eq_some_iff.1 hk).1
 refine ⟨k,by omega,by omega,?_⟩
 unfold gi
 rw [List.getD_eq_getElem?_getD,show ((k:Int)).toNat=k from rfl,hk]; rfl
section
end
end Go.Proofs.YtbhhmalgcnhniaaGreat
namespace Go.Proofs.YtbhhmalgcnhniaaGreat
open Go Go.Li
theorem ll {l:List Int} {q:Int} {j:Int} (h0:0≤j):gi (l++[q]) j=if j < l.length then gi l j else if j=l.length then q else 0:=by
 obtain ⟨n,rfl⟩ : ∃ n:Nat,j=n:=⟨j.toNat,by omega⟩
 unfold gi
 rw [List.getD_eq_getElem?_getD,List.getD_eq_getElem?_getD,show ((n:Int)).toNat=n from rfl]
 by_cases h:n < l.length
 ·rw [List.getElem?_append_left h,if_pos (by omega)]
 ·rw [List.getElem?_append_right (by omega),if_neg (by omega)]
  by_cases e:n=l.length
  ·subst e; rw [if_pos rfl,Nat.sub_self]; rfl
  ·rw [if_neg (by omega),List.getElem?_eq_none (by simp; omega)]; rfl
theorem DW {l:List (List Int)} {q:List Int} {j:Int} (h0:0≤j):gr (l++[q]) j=if j < l.length then gr l j else if j=l.length then q else []:=by
 obtain ⟨n,rfl⟩ : ∃ n:Nat,j=n:=⟨j.toNat,by omega⟩
 unfold gr
 rw [List.getD_eq_getElem?_getD,List.getD_eq_getElem?_getD,show ((n:Int)).toNat=n from rfl]
 by_cases h:n < l.length
 ·rw [List.getElem?_append_left h,if_pos (by omega)]
 ·rw [List.getElem?_append_right (by omega),if_neg (by omega)]
  by_cases e:n=l.length
  ·subst e; rw [if_pos rfl,Nat.sub_self]; rfl
  ·rw [if_neg (by omega),List.getElem?_eq_none (by simp; omega)]; rfl
theorem K2 {α:Type} {l:List (List α)} {q:List α} {i j:Int} (i0:0≤i) (i1:i < l.length) (j0:0≤j):gl (l.set i.toNat q) j=if j=i then q else gl l j:=by
 unfold gl
 rw [List.getD_eq_getElem?_getD,List.getD_eq_getElem?_getD,List.getElem?_set]
 by_cases h:j=i
 ·subst h; rw [if_pos rfl,if_pos rfl,if_pos (by omega)]; rfl
 ·rw [if_neg (by omega),if_neg h]
end Go.Proofs.YtbhhmalgcnhniaaGreat
namespace Go.Proofs.YtbhhmalgcnhniaaGreat
open Go Go.Li
theorem yb (x y:List Int) (hx:x.length≤1048576000):gD x y=some (x == y):=Mz x y hx
theorem my {a b:List Int} {e:Int} (h0:0≤e) (h1:e < a.length):gi (thenS a b) e=gi b (gi a e):=lq h0 h1
theorem Fh {a b:List Int} {y n:Int} (hb:∀ x∈a,0≤x∧x < b.length) (hn:∀ z∈b,0≤z∧z < n) (hy:y∈thenS a b):0≤y∧y < n:=by
 obtain ⟨i,hi,rfl⟩:=ov.1 hy
 have h:=hb _ (eh hi.1 hi.2)
 exact hn _ (eh h.1 h.2)
section
end
theorem Ck {n:Int} (n0:0≤n) (n1:n≤1048576):nB n=some (ns n.toNat):=by
 unfold nB
 obtain ⟨k,rfl⟩ : ∃ k:Nat,n=k:=⟨n.toNat,by omega⟩
 rw [FC (by omega) (by omega),aE]
 have hl:(ns k).length=k:=cN k
 refine (congrArg ak (j5 (ns k) (fun i=>((i:Int),(ns k).take i++List.replicate (k - i) (0:Int))) (by simp) ?_ (e:=((k:Int),ns k)) ?_)).trans rfl
 ·intro i x hx
  have yc:=hx
  obtain ⟨rfl,hi⟩:=dg hx
  have hc:=Hu (ns k) (0:Int) yc
  have M7:=get_copy (ns k) (0:Int) yc
  rw [hl] at hc M7
  show kQ k (i:Int) _=_
  unfold kQ
  rw [ao (by rw [List.length_replicate]; omega),cond_true,bu,M7,aE,bF (by omega),Int.toNat_natCast,hc]
 ·rw [hl]
  show kQ k _ _=_
  unfold kQ
  rw [ay (by rw [List.length_replicate]; omega),cond_false,Nat.sub_self,List.take_of_length_le (by omega)]
  simp
theorem vA {n:Nat} {e:Int} (h0:0≤e) (h1:e < n):gi (ns n) e=e:=by
 have h:=lq (g:=fun e=>e) h0 h1
 rwa [show bz n (fun e:Int=>e)=ns n from List.map_id' _] at h
theorem V3 {a b:List Int} (hl:a.length=b.length) (h:∀ x:Int,0≤x→x < b.length→gi a x=gi b x):a=b:=by
 refine List.ext_getElem hl fun i h1 h2=>?_
 have:=h i (by omega) (by omega)
 unfold gi at this
 rw [List.getD_eq_getElem?_getD,List.getD_eq_getElem?_getD,show ((i:Int)).toNat=i from rfl,List.getElem?_eq_getElem h1,List.getElem?_eq_getElem h2] at this
 exact this
end Go.Proofs.YtbhhmalgcnhniaaGreat
