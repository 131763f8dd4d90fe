/- Tables told by two numbers: loops in loops that fill a list, and what stands where. No condition beside those that each theorem names. -/
import Derived.Test.YtcnehblmgfbfoaaGreatPj
import Derived.Test.YtcnehblmgfbfoaaGreatPe
import Derived.Test.YtcnehblmgfbfoaaGreatVc
set_option linter.unusedVariables false
set_option linter.unusedSectionVars false
set_option linter.unusedSimpArgs false
namespace Go.Proofs.YtcnehblmgfbfoaaGreat
open Go Go.Li
def iy {β:Type} (n m:Nat) (g:Int→Int→β):List β:=(bj n fun a=>bj m (g a)).flatten
theorem DR {β:Type} (m:Nat) (g:Int→Int→β):iy 0 m g=[]:=rfl
theorem ue {β:Type} (n m:Nat) (g:Int→Int→β):iy (n+1) m g=iy n m g++bj m (g n):=by
 unfold iy
 rw [ib,List.flatten_append]
 simp
theorem dk {β:Type} (n m:Nat) (g:Int→Int→β):(iy n m g).length=n * m:=by
 induction n with
 | zero=>simp [DR]
 | succ n ih=>rw [ue,List.length_append,ih,aW,Nat.succ_mul]
theorem Gv {β:Type} {n m:Nat} (g:Int→Int→β) {a b:Nat} (ha:a < n) (hb:b < m):(iy n m g)[a * m+b]? = some (g a b):=by
 induction n with
 | zero=>omega
 | succ n ih=>
  rw [ue]
  by_cases h:a < n
  ·have hl:a * m+b < (iy n m g).length:=by
    rw [dk]
    have:(a+1) * m≤n * m:=Nat.mul_le_mul_right m h
    rw [Nat.succ_mul] at this
    omega
   rw [List.getElem?_append_left hl]
   exact ih h
  ·obtain rfl:a=n:=by omega
   rw [List.getElem?_append_right (by rw [dk]; omega),dk,show a * m+b - a * m=b by omega]
   exact ja _ hb
theorem yy {β:Type} {n m:Nat} {g:Int→Int→β} {y:β}:y∈iy n m g↔∃ a b:Int,(0≤a∧a < n)∧(0≤b∧b < m)∧g a b=y:=by
 unfold iy
 rw [List.mem_flatten]
 constructor
 ·rintro ⟨l,hl,hy⟩
  obtain ⟨a,ha,rfl⟩:=ij.1 hl
  obtain ⟨b,hb,rfl⟩:=ij.1 hy
  exact ⟨a,b,ha,hb,rfl⟩
 ·rintro ⟨a,b,ha,hb,rfl⟩
  exact ⟨_,ij.2 ⟨a,ha,rfl⟩,ij.2 ⟨b,hb,rfl⟩⟩
theorem TY {n m k:Nat} (h:k < n * m):∃ a b,a < n∧b < m∧k=a * m+b:=by
 have hm:0 < m:=by
  rcases Nat.eq_zero_or_pos m with rfl | hm
  ·simp at h
  ·exact hm
 exact ⟨k / m,k % m,Nat.div_lt_of_lt_mul (by rwa [Nat.mul_comm] at h),Nat.mod_lt _ hm,by rw [Nat.mul_comm]; exact (Nat.div_add_mod k m).symm⟩
section
variable {S S1 R β:Type} {body:S1→Option (Out S1 R)} {k:Nat} {f:S1→Option (Out S R)} {Gp:S1}
theorem np (n:Nat) (g:Int→β) (tx:List β) (pk:List β→Nat→S1) (e0:pk tx 0=Gp)
  (step:∀ i acc,i < n→acc.length=tx.length+i→body (pk acc i)=some (.norm (pk (acc++[g i]) (i+1)))) (last:∀ acc,acc.length=tx.length+n→body (pk acc n)=some (.exit k (pk acc n))) :
  ah (ab k (aj body Gp)) f=f (pk (tx++bj n g) n):=by
 refine (tn n g (fun acc i=>pk (tx++acc) i) (by rw [List.append_nil]; exact e0) (fun i acc hi ha=>?_) fun acc ha=>?_)
 ·rw [step i _ hi (by rw [List.length_append,ha]),List.append_assoc]
 ·exact last _ (by rw [List.length_append,ha])
theorem sf (n m:Nat) (g:Int→Int→β) (tx:List β) (pk:List β→Nat→S1) (e0:pk tx 0=Gp)
  (step:∀ i acc,i < n→acc.length=tx.length+i * m→body (pk acc i)=some (.norm (pk (acc++bj m (g i)) (i+1)))) (last:∀ acc,acc.length=tx.length+n * m→body (pk acc n)=some (.exit k (pk acc n))) :
  ah (ab k (aj body Gp)) f=f (pk (tx++iy n m g) n):=by
 rw [← e0]
 refine (congrArg (fun s=>ah (ab k (aj body s)) f) (show pk tx 0=pk (tx++iy 0 m g) 0 by rw [DR,List.append_nil])).trans ?_
 refine jj (ns n) (fun i=>pk (tx++iy i m g) i) rfl ?_ ?_
 ·intro i x hx
  obtain ⟨rfl,hi⟩:=fl hx
  rw [step i _ hi (by rw [List.length_append,dk]),ue,List.append_assoc]
 ·rw [cA]; exact last _ (by rw [List.length_append,dk])
end
theorem ei {n:Nat} {g:Int→Int} {i:Int} (h0:0≤i) (h1:i < n):gi (bj n g) i=g i:=by
 obtain ⟨k,rfl⟩ : ∃ k:Nat,i=k:=⟨i.toNat,by omega⟩
 have h:=ja g (i:=k) (n:=n) (by omega)
 unfold gi
 rw [List.getD_eq_getElem?_getD,show ((k:Int)).toNat=k from rfl,h]; rfl
theorem oK {n m:Nat} {g:Int→Int→Int} {a b:Int} (a0:0≤a) (a1:a < n) (b0:0≤b) (b1:b < m):gi (iy n m g) (a * m+b)=g a b:=by
 obtain ⟨i,rfl⟩ : ∃ k:Nat,a=k:=⟨a.toNat,by omega⟩
 obtain ⟨j,rfl⟩ : ∃ k:Nat,b=k:=⟨b.toNat,by omega⟩
 have h:=Gv g (a:=i) (b:=j) (n:=n) (m:=m) (by omega) (by omega)
 unfold gi
 rw [List.getD_eq_getElem?_getD,show ((i:Int) * (m:Int)+(j:Int)).toNat=i * m+j by
  rw [← Int.natCast_mul,← Int.natCast_add]; rfl,h]; rfl
end Go.Proofs.YtcnehblmgfbfoaaGreat
namespace Go.Proofs.YtcnehblmgfbfoaaGreat
open Go Go.Li
theorem NP {β γ:Type} (n:Nat) (g:Int→β) (h:β→γ):(bj n g).map h=bj n fun i=>h (g i):=by
 induction n with
 | zero=>rfl
 | succ n ih=>rw [ib,ib,List.map_append,ih]; rfl
theorem rN {β γ:Type} (n m:Nat) (g:Int→Int→β) (h:β→γ):(iy n m g).map h=iy n m fun a b=>h (g a b):=by
 induction n with
 | zero=>rfl
 | succ n ih=>rw [ue,ue,List.map_append,ih,NP]
structure Ty (c:aD):Prop where
 o0:0≤c.aA
 f:∀ x∈c.aB,0≤x∧x < c.aA
 tl:c.To.length=c.aB.length
 t:∀ x∈c.To,0≤x∧x < c.aA
 kl:c.aC.length=c.aB.length
 kr:∀ r∈c.aC,r.length=c.aB.length
 il:(c.aF.length:Int)=c.aA
 i:∀ x∈c.aF,0≤x∧x < c.aB.length
 qK:∀ x:Int,0≤x→x < c.aA→gi c.aB (gi c.aF x)=x
 rz:∀ x:Int,0≤x→x < c.aA→gi c.To (gi c.aF x)=x
 cell:∀ f g:Int,0≤f→f < c.aB.length→0≤g→g < c.aB.length→gi c.To f=gi c.aB g→(0≤gk c.aC f g∧gk c.aC f g < c.aB.length)∧gi c.aB (gk c.aC f g)=gi c.aB f∧gi c.To (gk c.aC f g)=gi c.To g
 none:∀ f g:Int,0≤f→f < c.aB.length→0≤g→g < c.aB.length→gi c.To f≠gi c.aB g→gk c.aC f g = -1
 uu:∀ x:Int,0≤x→x < c.aA→gk c.aC (gi c.aF x) (gi c.aF x)=gi c.aF x
namespace Ty
variable {c:aD} (h:Ty c)
include h
theorem fr {f:Int} (h0:0≤f) (h1:f < c.aB.length):0≤gi c.aB f∧gi c.aB f < c.aA:=h.f _ (gw h0 h1)
theorem to {f:Int} (h0:0≤f) (h1:f < c.aB.length):0≤gi c.To f∧gi c.To f < c.aA:=h.t _ (gw h0 (by rw [h.tl]; exact h1))
theorem id {x:Int} (h0:0≤x) (h1:x < c.aA):0≤gi c.aF x∧gi c.aF x < c.aB.length:=h.i _ (gw h0 (by rw [h.il]; exact h1))
theorem j5 {f:Int} (h0:0≤f) (h1:f < c.aB.length):idx c.aB f=some (gi c.aB f):=have _:=h; bV h0 h1
theorem ke {f:Int} (h0:0≤f) (h1:f < c.aB.length):idx c.To f=some (gi c.To f):=bV h0 (by rw [h.tl]; exact h1)
theorem l6 {x:Int} (h0:0≤x) (h1:x < c.aA):idx c.aF x=some (gi c.aF x):=bV h0 (by rw [h.il]; exact h1)
theorem mx {f:Int} (h0:0≤f) (h1:f < c.aB.length):idx c.aC f=some (gr c.aC f):=qt h0 (by rw [h.kl]; exact h1)
theorem row {f:Int} (h0:0≤f) (h1:f < c.aB.length):(gr c.aC f).length=c.aB.length:=h.kr _ (pq h0 (by rw [h.kl]; exact h1))
theorem l8 {f g:Int} (h0:0≤f) (h1:f < c.aB.length) (h2:0≤g) (h3:g < c.aB.length):idx (gr c.aC f) g=some (gk c.aC f g):=bV h2 (by rw [h.row h0 h1]; exact h3)
theorem uX {f g:Int} (h0:0≤f) (h1:f < c.aB.length) (h2:0≤g) (h3:g < c.aB.length) : -1≤gk c.aC f g∧gk c.aC f g < c.aB.length:=by
 by_cases e:gi c.To f=gi c.aB g
 ·have:=(h.cell f g h0 h1 h2 h3 e).1; omega
 ·rw [h.none f g h0 h1 h2 h3 e]; omega
end Ty
def kp (c d:aD) (a b f g:Int):Int:=
 if 0≤gk c.aC a f∧0≤gk d.aC b g then gk c.aC a f * d.aB.length+gk d.aC b g else -1
def bn (c d:aD):aD:=
 ⟨c.aA * d.aA,iy c.aB.length d.aB.length fun a b=>gi c.aB a * d.aA+gi d.aB b,
  iy c.aB.length d.aB.length fun a b=>gi c.To a * d.aA+gi d.To b,
  iy c.aA.toNat d.aA.toNat fun x y=>gi c.aF x * d.aB.length+gi d.aF y,
  iy c.aB.length d.aB.length fun a b=>iy c.aB.length d.aB.length (kp c d a b)⟩
theorem vp {i n a b:Int} (i0:0≤i) (i1:i≤a) (n0:0≤n) (n1:n≤b):0≤i * n∧i * n≤a * b:=
 ⟨Int.mul_nonneg i0 n0,Int.mul_le_mul i1 n1 n0 (Int.le_trans i0 i1)⟩
theorem AP {c d:aD} (C:Ty c) (D:Ty d) (co:c.aA≤10000) (cm:c.aB.length≤10000) (dO:d.aA≤10000) (dm:d.aB.length≤10000):cS c d=some (bn c d):=by
 have c0:=C.o0
 have d0:=D.o0
 obtain ⟨no,qB⟩ : ∃ n:Nat,c.aA=n:=⟨c.aA.toNat,by omega⟩
 obtain ⟨nd,cq⟩ : ∃ n:Nat,d.aA=n:=⟨d.aA.toNat,by omega⟩
 have B6:∀ {x y n:Int} {m:Nat},0≤x→x < n→n≤10000→0≤y→y < m→m≤10000→ai (ai (x * (m:Int))+y)=x * m+y:=by
  intro x y n m x0 x1 x2 y0 y1 y2
  have:=vp (n:=(m:Int)) (b:=10000) x0 (Int.le_of_lt x1) (by omega) (by omega)
  have h2:n * 10000≤10000 * 10000:=Int.mul_le_mul_of_nonneg_right x2 (by omega)
  rw [bX (a:=x * (m:Int)) (by omega) (by omega),bX (by omega) (by omega)]
 unfold cS
 refine (congrArg an (sf (β:=Int) no nd (fun x y=>gi c.aF x * d.aB.length+gi d.aF y) [] (fun acc i=>((i:Int),acc)) rfl ?_ ?_)).trans ?_
 ·intro i acc hi ha
  show cV c d i acc=_
  unfold cV
  rw [au (by omega:(i:Int) < c.aA),cond_true]
  refine (np (β:=Int) nd (fun y=>gi c.aF i * d.aB.length+gi d.aF y) acc (fun acc j=>((j:Int),acc)) rfl ?_ ?_).trans ?_
  ·intro j ll hj R9
   show cU c d i j ll=_
   unfold cU
   have hl:ll.length≤100010000:=by
    have:i * nd≤10000 * 10000:=Nat.mul_le_mul (by omega) (by omega)
    simp only [List.length_nil] at ha
    omega
   have e1:=C.id (x:=(i:Int)) (by omega) (by omega)
   have e2:=D.id (x:=(j:Int)) (by omega) (by omega)
   rw [au (by omega:(j:Int) < d.aA),cond_true,C.l6 (by omega) (by omega),aE,D.l6 (by omega) (by omega),aE,cB (by omega) (by omega),aE,bD (by omega),B6 e1.1 e1.2 (by omega) e2.1 e2.2 (by omega)]
  ·intro ll _
   show cU c d i _ ll=_
   unfold cU
   rw [ba (by omega),cond_false]
  ·dsimp only
   rw [bD (by omega)]
 ·intro acc _
  show cV c d _ acc=_
  unfold cV
  rw [ba (by omega),cond_false]
 ·dsimp only
  refine (congrArg an (sf (β:=Int×Int×List Int) c.aB.length d.aB.length (fun a b=>(gi c.aB a * d.aA+gi d.aB b,gi c.To a * d.aA+gi d.To b,iy c.aB.length d.aB.length (kp c d a b))) [] (fun acc i=>((i:Int),acc.map (·.1),acc.map (·.2.1),acc.map (·.2.2))) rfl ?_ ?_)).trans ?_
  ·intro i acc hi ha
   show cZ c d i (acc.map (·.1)) (acc.map (·.2.1)) (acc.map (·.2.2))=_
   unfold cZ
   rw [au (by omega:(i:Int) < (c.aB.length:Int)),cond_true]
   refine (np (β:=Int×Int×List Int) d.aB.length (fun b=>(gi c.aB i * d.aA+gi d.aB b,gi c.To i * d.aA+gi d.To b,iy c.aB.length d.aB.length (kp c d i b))) acc (fun acc j=>((j:Int),acc.map (·.1),acc.map (·.2.1),acc.map (·.2.2))) rfl ?_ ?_).trans ?_
   ·intro j ll hj R9
    show cY c d i j (ll.map (·.1)) (ll.map (·.2.1)) (ll.map (·.2.2))=_
    unfold cY
    have i0:(0:Int)≤i:=by omega
    have i1:(i:Int) < (c.aB.length:Int):=by omega
    have j0:(0:Int)≤j:=by omega
    have j1:(j:Int) < (d.aB.length:Int):=by omega
    have hl:ll.length≤100010000:=by
     have:i * d.aB.length≤10000 * 10000:=Nat.mul_le_mul (by omega) dm
     simp only [List.length_nil] at ha
     omega
    have f1:=C.fr i0 i1
    have f2:=D.fr j0 j1
    have t1:=C.to i0 i1
    have t2:=D.to j0 j1
    rw [au (by omega:(j:Int) < (d.aB.length:Int)),cond_true,C.j5 i0 i1,aE,D.j5 j0 j1,aE,cB (by rw [List.length_map]; omega) (by rw [List.length_map]; omega),aE,C.ke i0 i1,aE,D.ke j0 j1,aE,cB (by rw [List.length_map]; omega) (by rw [List.length_map]; omega),aE]
    refine (sf (β:=Int) c.aB.length d.aB.length (kp c d i j) [] (fun acc p=>(acc,(p:Int))) rfl ?_ ?_).trans ?_
    ·intro p row hp hr
     show cX c d i j row p=_
     unfold cX
     have p0:(0:Int)≤p:=by omega
     have p1:(p:Int) < (c.aB.length:Int):=by omega
     rw [au (by omega:(p:Int) < (c.aB.length:Int)),cond_true]
     refine (np (β:=Int) d.aB.length (fun q=>kp c d i j p q) row (fun acc q=>(acc,(q:Int))) rfl ?_ ?_).trans ?_
     ·intro q Jx hq fi
      show cW c d i j p Jx q=_
      unfold cW
      have q0:(0:Int)≤q:=by omega
      have q1:(q:Int) < (d.aB.length:Int):=by omega
      have BL:Jx.length≤100010000:=by
       have:p * d.aB.length≤10000 * 10000:=Nat.mul_le_mul (by omega) dm
       simp only [List.length_nil] at hr
       omega
      have k1:=C.uX i0 i1 p0 p1
      have k2:=D.uX j0 j1 q0 q1
      rw [au (by omega:(q:Int) < (d.aB.length:Int)),cond_true,C.mx i0 i1,aE,C.l8 i0 i1 p0 p1,aE]
      by_cases e1:0≤gk c.aC i p
      ·rw [au (show gk c.aC i p ≥ 0 from e1),cond_true,D.mx j0 j1,aE,D.l8 j0 j1 q0 q1,aE,aE]
       by_cases e2:0≤gk d.aC j q
       ·rw [au (show gk d.aC j q ≥ 0 from e2),cond_true,aE,C.l8 i0 i1 p0 p1,aE,aE,D.l8 j0 j1 q0 q1,aE,cB (by omega) (by omega),aE,bD (by omega),B6 e1 k1.2 (by omega) e2 k2.2 (by omega)]
        unfold kp
        rw [if_pos ⟨e1,e2⟩]
       ·rw [ba (show ¬ gk d.aC j q ≥ 0 from e2),cond_false,cB (by omega) (by omega),aE,bD (by omega)]
        unfold kp
        rw [if_neg (fun h=>e2 h.2)]
      ·rw [ba (show ¬ gk c.aC i p ≥ 0 from e1),cond_false,aE,cond_false,cB (by omega) (by omega),aE,bD (by omega)]
       unfold kp
       rw [if_neg (fun h=>e1 h.1)]
     ·intro Jx _
      show cW c d i j p Jx _=_
      unfold cW
      rw [ba (by omega),cond_false]
     ·dsimp only
      rw [bD (by omega)]
    ·intro row _
     show cX c d i j row _=_
     unfold cX
     rw [ba (by omega),cond_false]
    ·dsimp only
     rw [cB (by rw [List.length_map]; omega) (by rw [List.length_map]; omega),aE,bD (by omega),cq,B6 f1.1 f1.2 co f2.1 (by omega) (by omega),B6 t1.1 t1.2 co t2.1 (by omega) (by omega)]
     simp only [List.map_append,List.map_cons,List.map_nil,List.nil_append]
   ·intro ll _
    show cY c d i _ (ll.map (·.1)) (ll.map (·.2.1)) (ll.map (·.2.2))=_
    unfold cY
    rw [ba (by omega),cond_false]
   ·dsimp only
    rw [bD (by omega)]
  ·intro acc _
   show cZ c d _ (acc.map (·.1)) (acc.map (·.2.1)) (acc.map (·.2.2))=_
   unfold cZ
   rw [ba (by omega),cond_false]
  ·have:=vp (a:=10000) (b:=10000) c0 co d0 dO
   show some _=_
   rw [List.nil_append,List.nil_append,rN,rN,rN,bX (by omega) (by omega)]
   unfold bn
   rw [qB,cq]
   rfl
end Go.Proofs.YtcnehblmgfbfoaaGreat
namespace Go.Proofs.YtcnehblmgfbfoaaGreat
open Go Go.Li
def zR (l:List Int) (n y:Int):Prop:=(y = -1∧∀ k:Nat,l[k]?≠some n)∨∃ k:Nat,y=k∧l[k]? = some n∧∀ j:Nat,j < k→l[j]?≠some n
theorem zR.tH {l:List Int} {n y z:Int} (h:zR l n y) (k:zR l n z):y=z:=by
 rcases h with ⟨rfl,h⟩ | ⟨a,rfl,h1,h2⟩
 ·rcases k with ⟨rfl,_⟩ | ⟨b,rfl,k1,_⟩
  ·rfl
  ·exact absurd k1 (h b)
 ·rcases k with ⟨rfl,k⟩ | ⟨b,rfl,k1,k2⟩
  ·exact absurd h1 (k a)
  ·rcases Nat.lt_trichotomy a b with sH | rfl | sH
   ·exact absurd h1 (k2 a sH)
   ·rfl
   ·exact absurd k1 (h2 b sH)
theorem zR.pos {l:List Int} {n y:Int} (h:zR l n y) (hy:0≤y):y < l.length∧l[y.toNat]? = some n:=by
 rcases h with ⟨rfl,_⟩ | ⟨k,rfl,h1,_⟩
 ·omega
 ·exact ⟨by have:=(List.getElem?_eq_some_iff.1 h1).1; omega,h1⟩
theorem zR.app {l:List Int} {n y m:Int} (h:zR l n y) (hy:0≤y):zR (l++[m]) n y:=by
 rcases h with ⟨rfl,_⟩ | ⟨k,rfl,h1,h2⟩
 ·omega
 ·have hk:=(List.getElem?_eq_some_iff.1 h1).1
  exact .inr ⟨k,rfl,by rw [List.getElem?_append_left hk]; exact h1,fun j hj=>by rw [List.getElem?_append_left (by omega)]; exact h2 j hj⟩
theorem zR.new {l:List Int} {n y:Int} (h:zR l n y) (hy:y < 0):zR (l++[n]) n (l.length:Int):=by
 rcases h with ⟨_,h⟩ | ⟨k,rfl,_⟩
 ·refine .inr ⟨l.length,rfl,by simp,fun j hj=>?_⟩
  rw [List.getElem?_append_left hj]
  exact h j
 ·omega
def Rg (q:List Int):Prop:=∀ y∈q,∀ z:Int,0≤z→z≤y→z∈q
end Go.Proofs.YtcnehblmgfbfoaaGreat
namespace Go.Proofs.YtcnehblmgfbfoaaGreat
open Go Go.Li
theorem TZ {cl:List (List Int)} {y:Nat} {q:List Int} (x:Nat):gr (cl.set y q) x=if y=x∧y < cl.length then q else gr cl x:=by
 unfold gr
 rw [List.getD_eq_getElem?_getD,List.getD_eq_getElem?_getD,show ((x:Int)).toNat=x from rfl,List.getElem?_set]
 by_cases h:y=x
 ·subst h
  by_cases h2:y < cl.length
  ·simp [h2]
  ·simp [h2]
 ·simp [h]
theorem T0 {l:List (List Int)} {y:List Int} (h:y∈l):∃ i:Int,0≤i∧i < l.length∧gr l i=y:=by
 obtain ⟨k,hk⟩:=List.getElem?_of_mem h
 have hl:=(List.getElem?_eq_some_iff.1 hk).1
 refine ⟨k,by omega,by omega,?_⟩
 unfold gr
 rw [List.getD_eq_getElem?_getD,show ((k:Int)).toNat=k from rfl,hk]; rfl
theorem qb {l:List Int} {q:Int} {i j:Int} (i0:0≤i) (i1:i < l.length) (j0:0≤j):gi (l.set i.toNat q) j=if j=i then q else gi l j:=by
 unfold gi
 rw [List.getD_eq_getElem?_getD,List.getD_eq_getElem?_getD,List.getElem?_set]
 by_cases h:j=i
 ·subst h; rw [if_pos rfl,if_pos rfl,if_pos (by omega)]; rfl
 ·rw [if_neg (by omega),if_neg h]
theorem xD {l:List Int} {y:Int} (h:y∈l):∃ i:Int,0≤i∧i < l.length∧gi l i=y:=by
 obtain ⟨k,hk⟩:=List.getElem?_of_mem h
 have hl:=(List.getElem?_eq_some_iff.1 hk).1
 refine ⟨k,by omega,by omega,?_⟩
 unfold gi
 rw [List.getD_eq_getElem?_getD,show ((k:Int)).toNat=k from rfl,hk]; rfl
section
end
end Go.Proofs.YtcnehblmgfbfoaaGreat
namespace Go.Proofs.YtcnehblmgfbfoaaGreat
open Go Go.Li
theorem mm {l:List Int} {q:Int} {j:Int} (h0:0≤j):gi (l++[q]) j=if j < l.length then gi l j else if j=l.length then q else 0:=by
 obtain ⟨n,rfl⟩ : ∃ n:Nat,j=n:=⟨j.toNat,by omega⟩
 unfold gi
 rw [List.getD_eq_getElem?_getD,List.getD_eq_getElem?_getD,show ((n:Int)).toNat=n from rfl]
 by_cases h:n < l.length
 ·rw [List.getElem?_append_left h,if_pos (by omega)]
 ·rw [List.getElem?_append_right (by omega),if_neg (by omega)]
  by_cases e:n=l.length
  ·subst e; rw [if_pos rfl,Nat.sub_self]; rfl
  ·rw [if_neg (by omega),List.getElem?_eq_none (by simp; omega)]; rfl
theorem CJ {l:List (List Int)} {q:List Int} {j:Int} (h0:0≤j):gr (l++[q]) j=if j < l.length then gr l j else if j=l.length then q else []:=by
 obtain ⟨n,rfl⟩ : ∃ n:Nat,j=n:=⟨j.toNat,by omega⟩
 unfold gr
 rw [List.getD_eq_getElem?_getD,List.getD_eq_getElem?_getD,show ((n:Int)).toNat=n from rfl]
 by_cases h:n < l.length
 ·rw [List.getElem?_append_left h,if_pos (by omega)]
 ·rw [List.getElem?_append_right (by omega),if_neg (by omega)]
  by_cases e:n=l.length
  ·subst e; rw [if_pos rfl,Nat.sub_self]; rfl
  ·rw [if_neg (by omega),List.getElem?_eq_none (by simp; omega)]; rfl
theorem JH {α:Type} {l:List (List α)} {q:List α} {i j:Int} (i0:0≤i) (i1:i < l.length) (j0:0≤j):gl (l.set i.toNat q) j=if j=i then q else gl l j:=by
 unfold gl
 rw [List.getD_eq_getElem?_getD,List.getD_eq_getElem?_getD,List.getElem?_set]
 by_cases h:j=i
 ·subst h; rw [if_pos rfl,if_pos rfl,if_pos (by omega)]; rfl
 ·rw [if_neg (by omega),if_neg h]
end Go.Proofs.YtcnehblmgfbfoaaGreat
namespace Go.Proofs.YtcnehblmgfbfoaaGreat
open Go Go.Li
theorem wA (x y:List Int) (hx:x.length≤1048576000):dE x y=some (x == y):=CI x y hx
theorem vv {a b:List Int} {e:Int} (h0:0≤e) (h1:e < a.length):gi (thenS a b) e=gi b (gi a e):=ei h0 h1
section
end
theorem AR {n:Int} (n0:0≤n) (n1:n≤1048576):jQ n=some (ns n.toNat):=by
 unfold jQ
 obtain ⟨k,rfl⟩ : ∃ k:Nat,n=k:=⟨n.toNat,by omega⟩
 rw [uK (by omega) (by omega),aE]
 have hl:(ns k).length=k:=cA k
 refine (congrArg an (jj (ns k) (fun i=>((i:Int),(ns k).take i++List.replicate (k - i) (0:Int))) (by simp) ?_ (e:=((k:Int),ns k)) ?_)).trans rfl
 ·intro i x hx
  have wK:=hx
  obtain ⟨rfl,hi⟩:=fl hx
  have hc:=rO (ns k) (0:Int) wK
  have Lk:=get_copy (ns k) (0:Int) wK
  rw [hl] at hc Lk
  show gU k (i:Int) _=_
  unfold gU
  rw [au (by rw [List.length_replicate]; omega),cond_true,bw,Lk,aE,bD (by omega),Int.toNat_natCast,hc]
 ·rw [hl]
  show gU k _ _=_
  unfold gU
  rw [ba (by rw [List.length_replicate]; omega),cond_false,Nat.sub_self,List.take_of_length_le (by omega)]
  simp
theorem R8 {a b:List (List Int)} (hl:a.length=b.length) (h:∀ x:Int,0≤x→x < b.length→gr a x=gr b x):a=b:=by
 refine List.ext_getElem hl fun i h1 h2=>?_
 have:=h i (by omega) (by omega)
 unfold gr at this
 rw [List.getD_eq_getElem?_getD,List.getD_eq_getElem?_getD,show ((i:Int)).toNat=i from rfl,List.getElem?_eq_getElem h1,List.getElem?_eq_getElem h2] at this
 exact this
theorem tU {a b:List Int} (hl:a.length=b.length) (h:∀ x:Int,0≤x→x < b.length→gi a x=gi b x):a=b:=by
 refine List.ext_getElem hl fun i h1 h2=>?_
 have:=h i (by omega) (by omega)
 unfold gi at this
 rw [List.getD_eq_getElem?_getD,List.getD_eq_getElem?_getD,show ((i:Int)).toNat=i from rfl,List.getElem?_eq_getElem h1,List.getElem?_eq_getElem h2] at this
 exact this
end Go.Proofs.YtcnehblmgfbfoaaGreat
