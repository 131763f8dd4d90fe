/- Tables told by two numbers: loops in loops that fill a list, and what stands where. No condition beside those that each theorem names. -/
import Derived.Test.YtkcpiblgpnjanaaGreatPj
import Derived.Test.YtkcpiblgpnjanaaGreatPe
import Derived.Test.YtkcpiblgpnjanaaGreatVc
namespace Go.Proofs.YtkcpiblgpnjanaaGreat
open Go Go.Li
def mj {β:Type} (n m:Nat) (g:Int→Int→β):List β:=(ew n fun a=>ew m (g a)).flatten
theorem FB {β:Type} (m:Nat) (g:Int→Int→β):mj 0 m g=[]:=rfl
theorem vW {β:Type} (n m:Nat) (g:Int→Int→β):mj (n+1) m g=mj n m g++ew m (g n):=by
 unfold mj
 rw [rY,List.flatten_append]
 simp
theorem gu {β:Type} (n m:Nat) (g:Int→Int→β):(mj n m g).length=n * m:=by
 induction n with
 | zero=>simp [FB]
 | succ n ih=>rw [vW,List.length_append,ih,dA,Nat.succ_mul]
theorem HW {β:Type} {n m:Nat} (g:Int→Int→β) {a b:Nat} (ha:a < n) (hb:b < m):(mj n m g)[a * m+b]? = some (g a b):=by
 induction n with
 | zero=>omega
 | succ n ih=>
  rw [vW]
  by_cases h:a < n
  ·have hl:a * m+b < (mj n m g).length:=by
    rw [gu]
    have:(a+1) * m≤n * m:=Nat.mul_le_mul_right m h
    rw [Nat.succ_mul] at this
    omega
   rw [List.getElem?_append_left hl]
   exact ih h
  ·obtain rfl:a=n:=by omega
   rw [List.getElem?_append_right (by rw [gu]; omega),gu,show a * m+b - a * m=b by omega]
   exact nv _ hb
theorem Ai {β:Type} {n m:Nat} {g:Int→Int→β} {y:β}:y∈mj n m g↔∃ a b:Int,(0≤a∧a < n)∧(0≤b∧b < m)∧g a b=y:=by
 unfold mj
 rw [List.mem_flatten]
 constructor
 ·rintro ⟨l,hl,hy⟩
  obtain ⟨a,ha,rfl⟩:=rz.1 hl
  obtain ⟨b,hb,rfl⟩:=rz.1 hy
  exact ⟨a,b,ha,hb,rfl⟩
 ·rintro ⟨a,b,ha,hb,rfl⟩
  exact ⟨_,rz.2 ⟨a,ha,rfl⟩,rz.2 ⟨b,hb,rfl⟩⟩
theorem Wt {n m k:Nat} (h:k < n * m):∃ a b,a < n∧b < m∧k=a * m+b:=by
 have hm:0 < m:=by
  rcases Nat.eq_zero_or_pos m with rfl | hm
  ·simp at h
  ·exact hm
 exact ⟨k / m,k % m,Nat.div_lt_of_lt_mul (by rwa [Nat.mul_comm] at h),Nat.mod_lt _ hm,by rw [Nat.mul_comm]; exact (Nat.div_add_mod k m).symm⟩
section
variable {S S1 R β:Type} {body:S1→Option (Out S1 R)} {k:Nat} {f:S1→Option (Out S R)} {HS:S1}
theorem tO (n:Nat) (g:Int→β) (vp:List β) (pk:List β→Nat→S1) (e0:pk vp 0=HS)
  (step:∀ i acc,i < n→acc.length=vp.length+i→body (pk acc i)=some (.norm (pk (acc++[g i]) (i+1)))) (last:∀ acc,acc.length=vp.length+n→body (pk acc n)=some (.exit k (pk acc n))) :
  ah (ae k (ai body HS)) f=f (pk (vp++ew n g) n):=by
 refine (xD n g (fun acc i=>pk (vp++acc) i) (by rw [List.append_nil]; exact e0) (fun i acc hi ha=>?_) fun acc ha=>?_)
 ·rw [step i _ hi (by rw [List.length_append,ha]),List.append_assoc]
 ·exact last _ (by rw [List.length_append,ha])
theorem yg (n m:Nat) (g:Int→Int→β) (vp:List β) (pk:List β→Nat→S1) (e0:pk vp 0=HS)
  (step:∀ i acc,i < n→acc.length=vp.length+i * m→body (pk acc i)=some (.norm (pk (acc++ew m (g i)) (i+1)))) (last:∀ acc,acc.length=vp.length+n * m→body (pk acc n)=some (.exit k (pk acc n))) :
  ah (ae k (ai body HS)) f=f (pk (vp++mj n m g) n):=by
 rw [← e0]
 refine (congrArg (fun s=>ah (ae k (ai body s)) f) (show pk vp 0=pk (vp++mj 0 m g) 0 by rw [FB,List.append_nil])).trans ?_
 refine td (ns n) (fun i=>pk (vp++mj i m g) i) rfl ?_ ?_
 ·intro i x hx
  obtain ⟨rfl,hi⟩:=fh hx
  rw [step i _ hi (by rw [List.length_append,gu]),vW,List.append_assoc]
 ·rw [dQ]; exact last _ (by rw [List.length_append,gu])
end
theorem sm {n:Nat} {g:Int→Int} {i:Int} (h0:0≤i) (h1:i < n):gi (ew n g) i=g i:=by
 obtain ⟨k,rfl⟩ : ∃ k:Nat,i=k:=⟨i.toNat,by omega⟩
 have h:=nv g (i:=k) (n:=n) (by omega)
 unfold gi
 rw [List.getD_eq_getElem?_getD,show ((k:Int)).toNat=k from rfl,h]; rfl
theorem wR {n m:Nat} {g:Int→Int→Int} {a b:Int} (a0:0≤a) (a1:a < n) (b0:0≤b) (b1:b < m):gi (mj n m g) (a * m+b)=g a b:=by
 obtain ⟨i,rfl⟩ : ∃ k:Nat,a=k:=⟨a.toNat,by omega⟩
 obtain ⟨j,rfl⟩ : ∃ k:Nat,b=k:=⟨b.toNat,by omega⟩
 have h:=HW g (a:=i) (b:=j) (n:=n) (m:=m) (by omega) (by omega)
 unfold gi
 rw [List.getD_eq_getElem?_getD,show ((i:Int) * (m:Int)+(j:Int)).toNat=i * m+j by
  rw [← Int.natCast_mul,← Int.natCast_add]; rfl,h]; rfl
end Go.Proofs.YtkcpiblgpnjanaaGreat
namespace Go.Proofs.YtkcpiblgpnjanaaGreat
open Go Go.Li
theorem P5 {β γ:Type} (n:Nat) (g:Int→β) (h:β→γ):(ew n g).map h=ew n fun i=>h (g i):=by
 induction n with
 | zero=>rfl
 | succ n ih=>rw [rY,rY,List.map_append,ih]; rfl
theorem xF {β γ:Type} (n m:Nat) (g:Int→Int→β) (h:β→γ):(mj n m g).map h=mj n m fun a b=>h (g a b):=by
 induction n with
 | zero=>rfl
 | succ n ih=>rw [vW,vW,List.map_append,ih,P5]
structure Ty (c:aI):Prop where
 o0:0≤c.aC
 f:∀ x∈c.aG,0≤x∧x < c.aC
 tl:c.To.length=c.aG.length
 t:∀ x∈c.To,0≤x∧x < c.aC
 kl:c.aF.length=c.aG.length
 kr:∀ r∈c.aF,r.length=c.aG.length
 il:(c.aJ.length:Int)=c.aC
 i:∀ x∈c.aJ,0≤x∧x < c.aG.length
 xA:∀ x:Int,0≤x→x < c.aC→gi c.aG (gi c.aJ x)=x
 zb:∀ x:Int,0≤x→x < c.aC→gi c.To (gi c.aJ x)=x
 cell:∀ f g:Int,0≤f→f < c.aG.length→0≤g→g < c.aG.length→gi c.To f=gi c.aG g→(0≤gk c.aF f g∧gk c.aF f g < c.aG.length)∧gi c.aG (gk c.aF f g)=gi c.aG f∧gi c.To (gk c.aF f g)=gi c.To g
 none:∀ f g:Int,0≤f→f < c.aG.length→0≤g→g < c.aG.length→gi c.To f≠gi c.aG g→gk c.aF f g = -1
 uu:∀ x:Int,0≤x→x < c.aC→gk c.aF (gi c.aJ x) (gi c.aJ x)=gi c.aJ x
namespace Ty
variable {c:aI} (h:Ty c)
include h
theorem fr {f:Int} (h0:0≤f) (h1:f < c.aG.length):0≤gi c.aG f∧gi c.aG f < c.aC:=h.f _ (er h0 h1)
theorem to {f:Int} (h0:0≤f) (h1:f < c.aG.length):0≤gi c.To f∧gi c.To f < c.aC:=h.t _ (er h0 (by rw [h.tl]; exact h1))
theorem id {x:Int} (h0:0≤x) (h1:x < c.aC):0≤gi c.aJ x∧gi c.aJ x < c.aG.length:=h.i _ (er h0 (by rw [h.il]; exact h1))
theorem iz {f:Int} (h0:0≤f) (h1:f < c.aG.length):idx c.aG f=some (gi c.aG f):=have _:=h; cT h0 h1
theorem jc {f:Int} (h0:0≤f) (h1:f < c.aG.length):idx c.To f=some (gi c.To f):=cT h0 (by rw [h.tl]; exact h1)
theorem ot {x:Int} (h0:0≤x) (h1:x < c.aC):idx c.aJ x=some (gi c.aJ x):=cT h0 (by rw [h.il]; exact h1)
theorem nj {f:Int} (h0:0≤f) (h1:f < c.aG.length):idx c.aF f=some (gr c.aF f):=rT h0 (by rw [h.kl]; exact h1)
theorem row {f:Int} (h0:0≤f) (h1:f < c.aG.length):(gr c.aF f).length=c.aG.length:=h.kr _ (qx h0 (by rw [h.kl]; exact h1))
theorem l9 {f g:Int} (h0:0≤f) (h1:f < c.aG.length) (h2:0≤g) (h3:g < c.aG.length):idx (gr c.aF f) g=some (gk c.aF f g):=cT h2 (by rw [h.row h0 h1]; exact h3)
theorem Cg {f g:Int} (h0:0≤f) (h1:f < c.aG.length) (h2:0≤g) (h3:g < c.aG.length) : -1≤gk c.aF f g∧gk c.aF f g < c.aG.length:=by
 by_cases e:gi c.To f=gi c.aG g
 ·have:=(h.cell f g h0 h1 h2 h3 e).1; omega
 ·rw [h.none f g h0 h1 h2 h3 e]; omega
end Ty
def nw (c d:aI) (a b f g:Int):Int:=
 if 0≤gk c.aF a f∧0≤gk d.aF b g then gk c.aF a f * d.aG.length+gk d.aF b g else -1
def vD (c d:aI):aI:=
 ⟨c.aC * d.aC,mj c.aG.length d.aG.length fun a b=>gi c.aG a * d.aC+gi d.aG b,
  mj c.aG.length d.aG.length fun a b=>gi c.To a * d.aC+gi d.To b,
  mj c.aC.toNat d.aC.toNat fun x y=>gi c.aJ x * d.aG.length+gi d.aJ y,
  mj c.aG.length d.aG.length fun a b=>mj c.aG.length d.aG.length (nw c d a b)⟩
theorem HX {i n a b:Int} (i0:0≤i) (i1:i≤a) (n0:0≤n) (n1:n≤b):0≤i * n∧i * n≤a * b:=
 ⟨Int.mul_nonneg i0 n0,Int.mul_le_mul i1 n1 n0 (Int.le_trans i0 i1)⟩
theorem II {c d:aI} (C:Ty c) (D:Ty d) (co:c.aC≤10000) (cm:c.aG.length≤10000) (dO:d.aC≤10000) (dm:d.aG.length≤10000):fY c d=some (vD c d):=by
 have c0:=C.o0
 have d0:=D.o0
 obtain ⟨no,sA⟩ : ∃ n:Nat,c.aC=n:=⟨c.aC.toNat,by omega⟩
 obtain ⟨nd,cn⟩ : ∃ n:Nat,d.aC=n:=⟨d.aC.toNat,by omega⟩
 have RE:∀ {x y n:Int} {m:Nat},0≤x→x < n→n≤10000→0≤y→y < m→m≤10000→aj (aj (x * (m:Int))+y)=x * m+y:=by
  intro x y n m x0 x1 x2 y0 y1 y2
  have:=HX (n:=(m:Int)) (b:=10000) x0 (Int.le_of_lt x1) (by omega) (by omega)
  have h2:n * 10000≤10000 * 10000:=Int.mul_le_mul_of_nonneg_right x2 (by omega)
  rw [eA (a:=x * (m:Int)) (by omega) (by omega),eA (by omega) (by omega)]
 unfold fY
 refine (congrArg ao (yg (β:=Int) no nd (fun x y=>gi c.aJ x * d.aG.length+gi d.aJ y) [] (fun acc i=>((i:Int),acc)) rfl ?_ ?_)).trans ?_
 ·intro i acc hi ha
  show fJ c d i acc=_
  unfold fJ
  rw [aX (by omega:(i:Int) < c.aC),cond_true]
  refine (tO (β:=Int) nd (fun y=>gi c.aJ i * d.aG.length+gi d.aJ y) acc (fun acc j=>((j:Int),acc)) rfl ?_ ?_).trans ?_
  ·intro j tP hj MB
   show fI c d i j tP=_
   unfold fI
   have hl:tP.length≤100010000:=by
    have:i * nd≤10000 * 10000:=Nat.mul_le_mul (by omega) (by omega)
    simp only [List.length_nil] at ha
    omega
   have e1:=C.id (x:=(i:Int)) (by omega) (by omega)
   have e2:=D.id (x:=(j:Int)) (by omega) (by omega)
   rw [aX (by omega:(j:Int) < d.aC),cond_true,C.ot (by omega) (by omega),aH,D.ot (by omega) (by omega),aH,dZ (by omega) (by omega),aH,cA (by omega),RE e1.1 e1.2 (by omega) e2.1 e2.2 (by omega)]
  ·intro tP _
   show fI c d i _ tP=_
   unfold fI
   rw [bn (by omega),cond_false]
  ·dsimp only
   rw [cA (by omega)]
 ·intro acc _
  show fJ c d _ acc=_
  unfold fJ
  rw [bn (by omega),cond_false]
 ·dsimp only
  refine (congrArg ao (yg (β:=Int×Int×List Int) c.aG.length d.aG.length (fun a b=>(gi c.aG a * d.aC+gi d.aG b,gi c.To a * d.aC+gi d.To b,mj c.aG.length d.aG.length (nw c d a b))) [] (fun acc i=>((i:Int),acc.map (·.1),acc.map (·.2.1),acc.map (·.2.2))) rfl ?_ ?_)).trans ?_
  ·intro i acc hi ha
   show fN c d i (acc.map (·.1)) (acc.map (·.2.1)) (acc.map (·.2.2))=_
   unfold fN
   rw [aX (by omega:(i:Int) < (c.aG.length:Int)),cond_true]
   refine (tO (β:=Int×Int×List Int) d.aG.length (fun b=>(gi c.aG i * d.aC+gi d.aG b,gi c.To i * d.aC+gi d.To b,mj c.aG.length d.aG.length (nw c d i b))) acc (fun acc j=>((j:Int),acc.map (·.1),acc.map (·.2.1),acc.map (·.2.2))) rfl ?_ ?_).trans ?_
   ·intro j tP hj MB
    show fM c d i j (tP.map (·.1)) (tP.map (·.2.1)) (tP.map (·.2.2))=_
    unfold fM
    have i0:(0:Int)≤i:=by omega
    have i1:(i:Int) < (c.aG.length:Int):=by omega
    have j0:(0:Int)≤j:=by omega
    have j1:(j:Int) < (d.aG.length:Int):=by omega
    have hl:tP.length≤100010000:=by
     have:i * d.aG.length≤10000 * 10000:=Nat.mul_le_mul (by omega) dm
     simp only [List.length_nil] at ha
     omega
    have f1:=C.fr i0 i1
    have f2:=D.fr j0 j1
    have t1:=C.to i0 i1
    have t2:=D.to j0 j1
    rw [aX (by omega:(j:Int) < (d.aG.length:Int)),cond_true,C.iz i0 i1,aH,D.iz j0 j1,aH,dZ (by rw [List.length_map]; omega) (by rw [List.length_map]; omega),aH,C.jc i0 i1,aH,D.jc j0 j1,aH,dZ (by rw [List.length_map]; omega) (by rw [List.length_map]; omega),aH]
    refine (yg (β:=Int) c.aG.length d.aG.length (nw c d i j) [] (fun acc p=>(acc,(p:Int))) rfl ?_ ?_).trans ?_
    ·intro p row hp hr
     show fL c d i j row p=_
     unfold fL
     have p0:(0:Int)≤p:=by omega
     have p1:(p:Int) < (c.aG.length:Int):=by omega
     rw [aX (by omega:(p:Int) < (c.aG.length:Int)),cond_true]
     refine (tO (β:=Int) d.aG.length (fun q=>nw c d i j p q) row (fun acc q=>(acc,(q:Int))) rfl ?_ ?_).trans ?_
     ·intro q K9 hq ee
      show fK c d i j p K9 q=_
      unfold fK
      have q0:(0:Int)≤q:=by omega
      have q1:(q:Int) < (d.aG.length:Int):=by omega
      have yH:K9.length≤100010000:=by
       have:p * d.aG.length≤10000 * 10000:=Nat.mul_le_mul (by omega) dm
       simp only [List.length_nil] at hr
       omega
      have k1:=C.Cg i0 i1 p0 p1
      have k2:=D.Cg j0 j1 q0 q1
      rw [aX (by omega:(q:Int) < (d.aG.length:Int)),cond_true,C.nj i0 i1,aH,C.l9 i0 i1 p0 p1,aH]
      by_cases e1:0≤gk c.aF i p
      ·rw [aX (show gk c.aF i p ≥ 0 from e1),cond_true,D.nj j0 j1,aH,D.l9 j0 j1 q0 q1,aH,aH]
       by_cases e2:0≤gk d.aF j q
       ·rw [aX (show gk d.aF j q ≥ 0 from e2),cond_true,aH,C.l9 i0 i1 p0 p1,aH,aH,D.l9 j0 j1 q0 q1,aH,dZ (by omega) (by omega),aH,cA (by omega),RE e1 k1.2 (by omega) e2 k2.2 (by omega)]
        unfold nw
        rw [if_pos ⟨e1,e2⟩]
       ·rw [bn (show ¬ gk d.aF j q ≥ 0 from e2),cond_false,dZ (by omega) (by omega),aH,cA (by omega)]
        unfold nw
        rw [if_neg (fun h=>e2 h.2)]
      ·rw [bn (show ¬ gk c.aF i p ≥ 0 from e1),cond_false,aH,cond_false,dZ (by omega) (by omega),aH,cA (by omega)]
       unfold nw
       rw [if_neg (fun h=>e1 h.1)]
     ·intro K9 _
      show fK c d i j p K9 _=_
      unfold fK
      rw [bn (by omega),cond_false]
     ·dsimp only
      rw [cA (by omega)]
    ·intro row _
     show fL c d i j row _=_
     unfold fL
     rw [bn (by omega),cond_false]
    ·dsimp only
     rw [dZ (by rw [List.length_map]; omega) (by rw [List.length_map]; omega),aH,cA (by omega),cn,RE f1.1 f1.2 co f2.1 (by omega) (by omega),RE t1.1 t1.2 co t2.1 (by omega) (by omega)]
     simp only [List.map_append,List.map_cons,List.map_nil,List.nil_append]
   ·intro tP _
    show fM c d i _ (tP.map (·.1)) (tP.map (·.2.1)) (tP.map (·.2.2))=_
    unfold fM
    rw [bn (by omega),cond_false]
   ·dsimp only
    rw [cA (by omega)]
  ·intro acc _
   show fN c d _ (acc.map (·.1)) (acc.map (·.2.1)) (acc.map (·.2.2))=_
   unfold fN
   rw [bn (by omega),cond_false]
  ·have:=HX (a:=10000) (b:=10000) c0 co d0 dO
   show some _=_
   rw [List.nil_append,List.nil_append,xF,xF,xF,eA (by omega) (by omega)]
   unfold vD
   rw [sA,cn]
   rfl
end Go.Proofs.YtkcpiblgpnjanaaGreat
namespace Go.Proofs.YtkcpiblgpnjanaaGreat
open Go Go.Li
def zg (l:List Int) (n y:Int):Prop:=(y = -1∧∀ k:Nat,l[k]?≠some n)∨∃ k:Nat,y=k∧l[k]? = some n∧∀ j:Nat,j < k→l[j]?≠some n
theorem zg.uq {l:List Int} {n y z:Int} (h:zg l n y) (k:zg l n z):y=z:=by
 rcases h with ⟨rfl,h⟩ | ⟨a,rfl,h1,h2⟩
 ·rcases k with ⟨rfl,_⟩ | ⟨b,rfl,k1,_⟩
  ·rfl
  ·exact absurd k1 (h b)
 ·rcases k with ⟨rfl,k⟩ | ⟨b,rfl,k1,k2⟩
  ·exact absurd h1 (k a)
  ·rcases Nat.lt_trichotomy a b with uE | rfl | uE
   ·exact absurd h1 (k2 a uE)
   ·rfl
   ·exact absurd k1 (h2 b uE)
theorem zg.pos {l:List Int} {n y:Int} (h:zg l n y) (hy:0≤y):y < l.length∧l[y.toNat]? = some n:=by
 rcases h with ⟨rfl,_⟩ | ⟨k,rfl,h1,_⟩
 ·omega
 ·exact ⟨by have:=(List.getElem?_eq_some_iff.1 h1).1; omega,h1⟩
theorem zg.app {l:List Int} {n y m:Int} (h:zg l n y) (hy:0≤y):zg (l++[m]) n y:=by
 rcases h with ⟨rfl,_⟩ | ⟨k,rfl,h1,h2⟩
 ·omega
 ·have hk:=(List.getElem?_eq_some_iff.1 h1).1
  exact .inr ⟨k,rfl,by rw [List.getElem?_append_left hk]; exact h1,fun j hj=>by rw [List.getElem?_append_left (by omega)]; exact h2 j hj⟩
theorem zg.new {l:List Int} {n y:Int} (h:zg l n y) (hy:y < 0):zg (l++[n]) n (l.length:Int):=by
 rcases h with ⟨_,h⟩ | ⟨k,rfl,_⟩
 ·refine .inr ⟨l.length,rfl,by simp,fun j hj=>?_⟩
  rw [List.getElem?_append_left hj]
  exact h j
 ·omega
theorem P6 {l:List Int} {n:Int} (hl:l.length≤1048576):Ok (nN l n) (zg l n):=by
 unfold nN
 refine lr (ol (fun s:Int=>(0≤s∧s≤l.length)∧∀ k:Nat,(k:Int) < s→l[k]?≠some n) (fun s=>(l.length - s).toNat) ⟨⟨Int.le_refl _,by omega⟩,fun k hk=>by omega⟩ ?_)
 rintro s ⟨⟨s0,s1⟩,hs⟩
 unfold qD
 refine od (fun h=>?_) fun h=>os ⟨rfl,os (.inl ⟨rfl,fun k hk=>?_⟩)⟩
 ·obtain ⟨i,rfl⟩ : ∃ i:Nat,s=i:=⟨s.toNat,by omega⟩
  refine oe (cT s0 h) ?_
  have hg:l[i]? = some (gi l i):=by
   have:=cT s0 h
   rwa [ca] at this
  refine oc (fun e=>os ?_) fun e=>os ⟨⟨⟨?_,?_⟩,fun k hk=>?_⟩,?_⟩
  ·exact .inr ⟨i,rfl,by rw [hg,of_decide_eq_true e],fun j hj=>hs j (by omega)⟩
  ·rw [w1 s0 h (by omega)]; omega
  ·rw [w1 s0 h (by omega)]; omega
  ·rw [w1 s0 h (by omega)] at hk
   rcases (by omega:k < i∨k=i) with h3 | rfl
   ·exact hs k (by omega)
   ·rw [hg]
    intro h4
    have:gi l k=n:=Option.some.inj h4
    rw [this] at e
    simp at e
  ·dsimp only; rw [w1 s0 h (by omega)]; omega
 ·have:=(List.getElem?_eq_some_iff.1 hk).1
  exact hs k (by omega) hk
def Rg (q:List Int):Prop:=∀ y∈q,∀ z:Int,0≤z→z≤y→z∈q
theorem Lb {l:List Int} (hl:l.length≤1048576):Ok (lY l) fun q=>q.length=l.length∧(∀ y∈q,0≤y∧y < l.length)∧(∀ i j:Nat,i < l.length→l[i]? = l[j]?→q[i]? = q[j]?)∧Rg q:=by
 unfold lY
 refine lr (ol (fun z:List Int×List Int×Int=>(0≤z.2.2∧z.2.2≤l.length)∧(z.1.length:Int)=z.2.2∧(z.2.1.length:Int)≤z.2.2∧(∀ k:Nat,(k:Int) < z.2.2→∃ a:Int,0≤a∧z.1[k]? = some a∧∃ n,l[k]? = some n∧zg z.2.1 n a)∧∀ k:Nat,k < z.2.1.length→(k:Int)∈z.1) (fun z=>(l.length - z.2.2).toNat) ⟨⟨by show (0:Int)≤0; omega,by show (0:Int)≤_; omega⟩,rfl,by show (0:Int)≤0; omega,fun k hk=>by have:(k:Int) < 0:=hk; omega,fun k hk=>absurd hk (Nat.not_lt_zero _)⟩ ?_)
 rintro ⟨out,seen,s⟩ ⟨⟨s0,s1⟩,ho,hn,hk,hz⟩
 dsimp only at s0 s1 ho hn hk hz
 show Ok (mM l out seen s) _
 unfold mM
 refine od (fun h=>?_) fun h=>os ⟨rfl,os ⟨by omega,fun y hy=>?_,fun i j hi sP=>?_,fun y hy z z0 z1=>?_⟩⟩
 ·obtain ⟨i,rfl⟩ : ∃ i:Nat,s=i:=⟨s.toNat,by omega⟩
  have hg:l[i]? = some (gi l i):=by
   have:=cT s0 h
   rwa [ca] at this
  refine oe (cT s0 h) (ob (P6 (by omega)) fun y hy=>?_)
  have hw:=w1 s0 h (by omega)
  refine od (fun C4=>oe (cT s0 h) (fv (by omega) (by omega) (fv (by omega) (by omega) (os ⟨⟨⟨?_,?_⟩,?_,?_,fun k wX=>?_,fun k yI=>?_⟩,?_⟩)))) fun ZO=>fv (by omega) (by omega) (os ⟨⟨⟨?_,?_⟩,?_,?_,fun k wX=>?_,fun k yI=>?_⟩,?_⟩)
  all_goals first | (dsimp only at wX; rw [hw] at wX) | skip
  all_goals dsimp only
  all_goals first | (rw [hw]; simp only [List.length_append,List.length_singleton]; omega) | (rw [hw]; omega) | skip
  ·rcases (by omega:k < i∨k=i) with h3 | rfl
   ·obtain ⟨a,a0,e,n,e2,hf⟩:=hk k (by omega)
    exact ⟨a,a0,by rw [List.getElem?_append_left (by omega)]; exact e,n,e2,hf.app a0⟩
   ·refine ⟨seen.length,by omega,?_,gi l k,hg,hy.new C4⟩
    rw [List.getElem?_append_right (by omega),show k - out.length=0 by omega]; rfl
  ·simp only [List.length_append,List.length_singleton] at yI
   rcases (by omega:k < seen.length∨k=seen.length) with h3 | rfl
   ·exact List.mem_append_left _ (hz k h3)
   ·exact List.mem_append_right _ (List.mem_singleton.2 rfl)
  ·rcases (by omega:k < i∨k=i) with h3 | rfl
   ·obtain ⟨a,a0,e,n,e2,hf⟩:=hk k (by omega)
    exact ⟨a,a0,by rw [List.getElem?_append_left (by omega)]; exact e,n,e2,hf⟩
   ·refine ⟨y,by omega,?_,gi l k,hg,hy⟩
    rw [List.getElem?_append_right (by omega),show k - out.length=0 by omega]; rfl
  ·exact List.mem_append_left _ (hz k yI)
 ·obtain ⟨k,HY⟩:=List.getElem?_of_mem hy
  have bc:=(List.getElem?_eq_some_iff.1 HY).1
  obtain ⟨a,a0,e,n,e2,hf⟩:=hk k (by omega)
  rw [e] at HY
  obtain rfl:=Option.some.inj HY
  have:=(hf.pos a0).1
  omega
 ·have hj:j < l.length:=by
   rw [List.getElem?_eq_getElem hi] at sP
   exact (List.getElem?_eq_some_iff.1 sP.symm).1
  obtain ⟨a,a0,e,n,e2,hf⟩:=hk i (by omega)
  obtain ⟨b,b0,e',n',Wu,tx⟩:=hk j (by omega)
  rw [e2,Wu] at sP
  obtain rfl:=Option.some.inj sP
  rw [e,e',hf.uq tx]
 ·obtain ⟨k,HY⟩:=List.getElem?_of_mem hy
  have bc:=(List.getElem?_eq_some_iff.1 HY).1
  obtain ⟨a,a0,e,n,e2,hf⟩:=hk k (by omega)
  rw [e] at HY
  obtain rfl:=Option.some.inj HY
  have:=(hf.pos a0).1
  have:=hz z.toNat (by omega)
  rwa [show ((z.toNat:Nat):Int)=z by omega] at this
end Go.Proofs.YtkcpiblgpnjanaaGreat
namespace Go.Proofs.YtkcpiblgpnjanaaGreat
open Go Go.Li
theorem Wv {cl:List (List Int)} {y:Nat} {q:List Int} (x:Nat):gr (cl.set y q) x=if y=x∧y < cl.length then q else gr cl x:=by
 unfold gr
 rw [List.getD_eq_getElem?_getD,List.getD_eq_getElem?_getD,show ((x:Int)).toNat=x from rfl,List.getElem?_set]
 by_cases h:y=x
 ·subst h
  by_cases h2:y < cl.length
  ·simp [h2]
  ·simp [h2]
 ·simp [h]
theorem Ww {l:List (List Int)} {y:List Int} (h:y∈l):∃ i:Int,0≤i∧i < l.length∧gr l i=y:=by
 obtain ⟨k,hk⟩:=List.getElem?_of_mem h
 have hl:=(List.getElem?_eq_some_iff.1 hk).1
 refine ⟨k,by omega,by omega,?_⟩
 unfold gr
 rw [List.getD_eq_getElem?_getD,show ((k:Int)).toNat=k from rfl,hk]; rfl
theorem pw {l:List Int} {q:Int} {i j:Int} (i0:0≤i) (i1:i < l.length) (j0:0≤j):gi (l.set i.toNat q) j=if j=i then q else gi l j:=by
 unfold gi
 rw [List.getD_eq_getElem?_getD,List.getD_eq_getElem?_getD,List.getElem?_set]
 by_cases h:j=i
 ·subst h; rw [if_pos rfl,if_pos rfl,if_pos (by omega)]; rfl
 ·rw [if_neg (by omega),if_neg h]
theorem BL {l:List Int} {y:Int} (h:y∈l):∃ i:Int,0≤i∧i < l.length∧gi l i=y:=by
 obtain ⟨k,hk⟩:=List.getElem?_of_mem h
 have hl:=(List.getElem?_eq_some_iff.1 hk).1
 refine ⟨k,by omega,by omega,?_⟩
 unfold gi
 rw [List.getD_eq_getElem?_getD,show ((k:Int)).toNat=k from rfl,hk]; rfl
section
end
end Go.Proofs.YtkcpiblgpnjanaaGreat
namespace Go.Proofs.YtkcpiblgpnjanaaGreat
open Go Go.Li
theorem jy {l:List Int} {q:Int} {j:Int} (h0:0≤j):gi (l++[q]) j=if j < l.length then gi l j else if j=l.length then q else 0:=by
 obtain ⟨n,rfl⟩ : ∃ n:Nat,j=n:=⟨j.toNat,by omega⟩
 unfold gi
 rw [List.getD_eq_getElem?_getD,List.getD_eq_getElem?_getD,show ((n:Int)).toNat=n from rfl]
 by_cases h:n < l.length
 ·rw [List.getElem?_append_left h,if_pos (by omega)]
 ·rw [List.getElem?_append_right (by omega),if_neg (by omega)]
  by_cases e:n=l.length
  ·subst e; rw [if_pos rfl,Nat.sub_self]; rfl
  ·rw [if_neg (by omega),List.getElem?_eq_none (by simp; omega)]; rfl
theorem Eb {l:List (List Int)} {q:List Int} {j:Int} (h0:0≤j):gr (l++[q]) j=if j < l.length then gr l j else if j=l.length then q else []:=by
 obtain ⟨n,rfl⟩ : ∃ n:Nat,j=n:=⟨j.toNat,by omega⟩
 unfold gr
 rw [List.getD_eq_getElem?_getD,List.getD_eq_getElem?_getD,show ((n:Int)).toNat=n from rfl]
 by_cases h:n < l.length
 ·rw [List.getElem?_append_left h,if_pos (by omega)]
 ·rw [List.getElem?_append_right (by omega),if_neg (by omega)]
  by_cases e:n=l.length
  ·subst e; rw [if_pos rfl,Nat.sub_self]; rfl
  ·rw [if_neg (by omega),List.getElem?_eq_none (by simp; omega)]; rfl
theorem Lz {α:Type} {l:List (List α)} {q:List α} {i j:Int} (i0:0≤i) (i1:i < l.length) (j0:0≤j):gl (l.set i.toNat q) j=if j=i then q else gl l j:=by
 unfold gl
 rw [List.getD_eq_getElem?_getD,List.getD_eq_getElem?_getD,List.getElem?_set]
 by_cases h:j=i
 ·subst h; rw [if_pos rfl,if_pos rfl,if_pos (by omega)]; rfl
 ·rw [if_neg (by omega),if_neg h]
end Go.Proofs.YtkcpiblgpnjanaaGreat
namespace Go.Proofs.YtkcpiblgpnjanaaGreat
open Go Go.Li
theorem wO (x y:List Int) (hx:x.length≤1048576000):eV x y=some (x == y):=D9 x y hx
theorem Wx (x y:List (List Int)) (hx:x.length≤1048576000) (hr:∀ z∈x,z.length≤1048576000):qH x y=some (x == y):=JC x y hx hr
theorem NB {c:aI} (h:gj c):lN c c=some true:=by
 unfold lN
 have h1:=h.f
 have h2:=h.t
 have h3:=h.i
 have h4:=h.k
 rw [show (c.aC == c.aC)=true by simp,cond_true,wO _ _ (by omega),aH,beq_self_eq_true,cond_true,wO _ _ (by omega),aH,beq_self_eq_true,cond_true,wO _ _ (by omega),aH,beq_self_eq_true,cond_true,Wx _ _ (by omega) (fun z hz=>by have:=h.r z hz; omega),aH,beq_self_eq_true]
 rfl
theorem P7 {a b:List Int} {e:Int} (h0:0≤e) (h1:e < a.length):gi (thenS a b) e=gi b (gi a e):=sm h0 h1
section
end
theorem HZ {a b:List Int} (hl:a.length=b.length) (h:∀ x:Int,0≤x→x < b.length→gi a x=gi b x):a=b:=by
 refine List.ext_getElem hl fun i h1 h2=>?_
 have:=h i (by omega) (by omega)
 unfold gi at this
 rw [List.getD_eq_getElem?_getD,List.getD_eq_getElem?_getD,show ((i:Int)).toNat=i from rfl,List.getElem?_eq_getElem h1,List.getElem?_eq_getElem h2] at this
 exact this
end Go.Proofs.YtkcpiblgpnjanaaGreat
