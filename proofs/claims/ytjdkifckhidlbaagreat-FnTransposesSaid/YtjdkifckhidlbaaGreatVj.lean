/- Tables told by two numbers: loops in loops that fill a list, and what stands where. No condition beside those that each theorem names. -/
import Derived.Test.YtjdkifckhidlbaaGreatPj
import Derived.Test.YtjdkifckhidlbaaGreatPe
import Derived.Test.YtjdkifckhidlbaaGreatVc
namespace Go.Proofs.YtjdkifckhidlbaaGreat
open Go Go.Li
def mf {β:Type} (n m:Nat) (g:Int→Int→β):List β:=(dk n fun a=>dk m (g a)).flatten
theorem DR {β:Type} (m:Nat) (g:Int→Int→β):mf 0 m g=[]:=rfl
theorem u6 {β:Type} (n m:Nat) (g:Int→Int→β):mf (n+1) m g=mf n m g++dk m (g n):=by
 unfold mf
 rw [n5,List.flatten_append]
 simp
theorem gv {β:Type} (n m:Nat) (g:Int→Int→β):(mf n m g).length=n * m:=by
 induction n with
 | zero=>simp [DR]
 | succ n ih=>rw [u6,List.length_append,ih,cR,Nat.succ_mul]
theorem Gw {β:Type} {n m:Nat} (g:Int→Int→β) {a b:Nat} (ha:a < n) (hb:b < m):(mf n m g)[a * m+b]? = some (g a b):=by
 induction n with
 | zero=>omega
 | succ n ih=>
  rw [u6]
  by_cases h:a < n
  ·have hl:a * m+b < (mf n m g).length:=by
    rw [gv]
    have:(a+1) * m≤n * m:=Nat.mul_le_mul_right m h
    rw [Nat.succ_mul] at this
    omega
   rw [List.getElem?_append_left hl]
   exact ih h
  ·obtain rfl:a=n:=by omega
   rw [List.getElem?_append_right (by rw [gv]; omega),gv,show a * m+b - a * m=b by omega]
   exact p9 _ hb
theorem yS {β:Type} {n m:Nat} {g:Int→Int→β} {y:β}:y∈mf n m g↔∃ a b:Int,(0≤a∧a < n)∧(0≤b∧b < m)∧g a b=y:=by
 unfold mf
 rw [List.mem_flatten]
 constructor
 ·rintro ⟨l,hl,hy⟩
  obtain ⟨a,ha,rfl⟩:=ox.1 hl
  obtain ⟨b,hb,rfl⟩:=ox.1 hy
  exact ⟨a,b,ha,hb,rfl⟩
 ·rintro ⟨a,b,ha,hb,rfl⟩
  exact ⟨_,ox.2 ⟨a,ha,rfl⟩,ox.2 ⟨b,hb,rfl⟩⟩
theorem TX {n m k:Nat} (h:k < n * m):∃ a b,a < n∧b < m∧k=a * m+b:=by
 have hm:0 < m:=by
  rcases Nat.eq_zero_or_pos m with rfl | hm
  ·simp at h
  ·exact hm
 exact ⟨k / m,k % m,Nat.div_lt_of_lt_mul (by rwa [Nat.mul_comm] at h),Nat.mod_lt _ hm,by rw [Nat.mul_comm]; exact (Nat.div_add_mod k m).symm⟩
section
variable {S S1 R β:Type} {body:S1→Option (Out S1 R)} {k:Nat} {f:S1→Option (Out S R)} {Gj:S1}
theorem sP (n:Nat) (g:Int→β) (uy:List β) (pk:List β→Nat→S1) (e0:pk uy 0=Gj)
  (step:∀ i acc,i < n→acc.length=uy.length+i→body (pk acc i)=some (.norm (pk (acc++[g i]) (i+1)))) (last:∀ acc,acc.length=uy.length+n→body (pk acc n)=some (.exit k (pk acc n))) :
  ah (af k (aj body Gj)) f=f (pk (uy++dk n g) n):=by
 refine (ux n g (fun acc i=>pk (uy++acc) i) (by rw [List.append_nil]; exact e0) (fun i acc hi ha=>?_) fun acc ha=>?_)
 ·rw [step i _ hi (by rw [List.length_append,ha]),List.append_assoc]
 ·exact last _ (by rw [List.length_append,ha])
theorem xc (n m:Nat) (g:Int→Int→β) (uy:List β) (pk:List β→Nat→S1) (e0:pk uy 0=Gj)
  (step:∀ i acc,i < n→acc.length=uy.length+i * m→body (pk acc i)=some (.norm (pk (acc++dk m (g i)) (i+1)))) (last:∀ acc,acc.length=uy.length+n * m→body (pk acc n)=some (.exit k (pk acc n))) :
  ah (af k (aj body Gj)) f=f (pk (uy++mf n m g) n):=by
 rw [← e0]
 refine (congrArg (fun s=>ah (af k (aj body s)) f) (show pk uy 0=pk (uy++mf 0 m g) 0 by rw [DR,List.append_nil])).trans ?_
 refine sa (ns n) (fun i=>pk (uy++mf i m g) i) rfl ?_ ?_
 ·intro i x hx
  obtain ⟨rfl,hi⟩:=gh hx
  rw [step i _ hi (by rw [List.length_append,gv]),u6,List.append_assoc]
 ·rw [cZ]; exact last _ (by rw [List.length_append,gv])
end
theorem sb {n:Nat} {g:Int→Int} {i:Int} (h0:0≤i) (h1:i < n):gi (dk n g) i=g i:=by
 obtain ⟨k,rfl⟩ : ∃ k:Nat,i=k:=⟨i.toNat,by omega⟩
 have h:=p9 g (i:=k) (n:=n) (by omega)
 unfold gi
 rw [List.getD_eq_getElem?_getD,show ((k:Int)).toNat=k from rfl,h]; rfl
theorem vJ {n m:Nat} {g:Int→Int→Int} {a b:Int} (a0:0≤a) (a1:a < n) (b0:0≤b) (b1:b < m):gi (mf n m g) (a * m+b)=g a b:=by
 obtain ⟨i,rfl⟩ : ∃ k:Nat,a=k:=⟨a.toNat,by omega⟩
 obtain ⟨j,rfl⟩ : ∃ k:Nat,b=k:=⟨b.toNat,by omega⟩
 have h:=Gw g (a:=i) (b:=j) (n:=n) (m:=m) (by omega) (by omega)
 unfold gi
 rw [List.getD_eq_getElem?_getD,show ((i:Int) * (m:Int)+(j:Int)).toNat=i * m+j by
  rw [← Int.natCast_mul,← Int.natCast_add]; rfl,h]; rfl
end Go.Proofs.YtjdkifckhidlbaaGreat
namespace Go.Proofs.YtjdkifckhidlbaaGreat
open Go Go.Li
theorem NQ {β γ:Type} (n:Nat) (g:Int→β) (h:β→γ):(dk n g).map h=dk n fun i=>h (g i):=by
 induction n with
 | zero=>rfl
 | succ n ih=>rw [n5,n5,List.map_append,ih]; rfl
theorem wF {β γ:Type} (n m:Nat) (g:Int→Int→β) (h:β→γ):(mf n m g).map h=mf n m fun a b=>h (g a b):=by
 induction n with
 | zero=>rfl
 | succ n ih=>rw [u6,u6,List.map_append,ih,NQ]
structure Ty (c:aI):Prop where
 o0:0≤c.aA
 f:∀ x∈c.aG,0≤x∧x < c.aA
 tl:c.To.length=c.aG.length
 t:∀ x∈c.To,0≤x∧x < c.aA
 kl:c.aB.length=c.aG.length
 kr:∀ r∈c.aB,r.length=c.aG.length
 il:(c.aJ.length:Int)=c.aA
 i:∀ x∈c.aJ,0≤x∧x < c.aG.length
 vo:∀ x:Int,0≤x→x < c.aA→gi c.aG (gi c.aJ x)=x
 wA:∀ x:Int,0≤x→x < c.aA→gi c.To (gi c.aJ x)=x
 cell:∀ f g:Int,0≤f→f < c.aG.length→0≤g→g < c.aG.length→gi c.To f=gi c.aG g→(0≤gk c.aB f g∧gk c.aB f g < c.aG.length)∧gi c.aG (gk c.aB f g)=gi c.aG f∧gi c.To (gk c.aB f g)=gi c.To g
 none:∀ f g:Int,0≤f→f < c.aG.length→0≤g→g < c.aG.length→gi c.To f≠gi c.aG g→gk c.aB f g = -1
 uu:∀ x:Int,0≤x→x < c.aA→gk c.aB (gi c.aJ x) (gi c.aJ x)=gi c.aJ x
namespace Ty
variable {c:aI} (h:Ty c)
include h
theorem fr {f:Int} (h0:0≤f) (h1:f < c.aG.length):0≤gi c.aG f∧gi c.aG f < c.aA:=h.f _ (ec h0 h1)
theorem to {f:Int} (h0:0≤f) (h1:f < c.aG.length):0≤gi c.To f∧gi c.To f < c.aA:=h.t _ (ec h0 (by rw [h.tl]; exact h1))
theorem id {x:Int} (h0:0≤x) (h1:x < c.aA):0≤gi c.aJ x∧gi c.aJ x < c.aG.length:=h.i _ (ec h0 (by rw [h.il]; exact h1))
theorem iy {f:Int} (h0:0≤f) (h1:f < c.aG.length):idx c.aG f=some (gi c.aG f):=have _:=h; cF h0 h1
theorem j3 {f:Int} (h0:0≤f) (h1:f < c.aG.length):idx c.To f=some (gi c.To f):=cF h0 (by rw [h.tl]; exact h1)
theorem mr {x:Int} (h0:0≤x) (h1:x < c.aA):idx c.aJ x=some (gi c.aJ x):=cF h0 (by rw [h.il]; exact h1)
theorem me {f:Int} (h0:0≤f) (h1:f < c.aG.length):idx c.aB f=some (gr c.aB f):=lz h0 (by rw [h.kl]; exact h1)
theorem row {f:Int} (h0:0≤f) (h1:f < c.aG.length):(gr c.aB f).length=c.aG.length:=h.kr _ (l7 h0 (by rw [h.kl]; exact h1))
theorem l3 {f g:Int} (h0:0≤f) (h1:f < c.aG.length) (h2:0≤g) (h3:g < c.aG.length):idx (gr c.aB f) g=some (gk c.aB f g):=cF h2 (by rw [h.row h0 h1]; exact h3)
theorem Ay {f g:Int} (h0:0≤f) (h1:f < c.aG.length) (h2:0≤g) (h3:g < c.aG.length) : -1≤gk c.aB f g∧gk c.aB f g < c.aG.length:=by
 by_cases e:gi c.To f=gi c.aG g
 ·have:=(h.cell f g h0 h1 h2 h3 e).1; omega
 ·rw [h.none f g h0 h1 h2 h3 e]; omega
end Ty
def ni (c d:aI) (a b f g:Int):Int:=
 if 0≤gk c.aB a f∧0≤gk d.aB b g then gk c.aB a f * d.aG.length+gk d.aB b g else -1
def uI (c d:aI):aI:=
 ⟨c.aA * d.aA,mf c.aG.length d.aG.length fun a b=>gi c.aG a * d.aA+gi d.aG b,
  mf c.aG.length d.aG.length fun a b=>gi c.To a * d.aA+gi d.To b,
  mf c.aA.toNat d.aA.toNat fun x y=>gi c.aJ x * d.aG.length+gi d.aJ y,
  mf c.aG.length d.aG.length fun a b=>mf c.aG.length d.aG.length (ni c d a b)⟩
theorem Gx {i n a b:Int} (i0:0≤i) (i1:i≤a) (n0:0≤n) (n1:n≤b):0≤i * n∧i * n≤a * b:=
 ⟨Int.mul_nonneg i0 n0,Int.mul_le_mul i1 n1 n0 (Int.le_trans i0 i1)⟩
theorem G4 {c d:aI} (C:Ty c) (D:Ty d) (co:c.aA≤10000) (cm:c.aG.length≤10000) (dO:d.aA≤10000) (dm:d.aG.length≤10000):fJ c d=some (uI c d):=by
 have c0:=C.o0
 have d0:=D.o0
 obtain ⟨no,rR⟩ : ∃ n:Nat,c.aA=n:=⟨c.aA.toNat,by omega⟩
 obtain ⟨nd,dp⟩ : ∃ n:Nat,d.aA=n:=⟨d.aA.toNat,by omega⟩
 have O4:∀ {x y n:Int} {m:Nat},0≤x→x < n→n≤10000→0≤y→y < m→m≤10000→an (an (x * (m:Int))+y)=x * m+y:=by
  intro x y n m x0 x1 x2 y0 y1 y2
  have:=Gx (n:=(m:Int)) (b:=10000) x0 (Int.le_of_lt x1) (by omega) (by omega)
  have h2:n * 10000≤10000 * 10000:=Int.mul_le_mul_of_nonneg_right x2 (by omega)
  rw [dM (a:=x * (m:Int)) (by omega) (by omega),dM (by omega) (by omega)]
 unfold fJ
 refine (congrArg ao (xc (β:=Int) no nd (fun x y=>gi c.aJ x * d.aG.length+gi d.aJ y) [] (fun acc i=>((i:Int),acc)) rfl ?_ ?_)).trans ?_
 ·intro i acc hi ha
  show eY c d i acc=_
  unfold eY
  rw [aX (by omega:(i:Int) < c.aA),cond_true]
  refine (sP (β:=Int) nd (fun y=>gi c.aJ i * d.aG.length+gi d.aJ y) acc (fun acc j=>((j:Int),acc)) rfl ?_ ?_).trans ?_
  ·intro j sQ hj ha'
   show eX c d i j sQ=_
   unfold eX
   have hl:sQ.length≤100010000:=by
    have:i * nd≤10000 * 10000:=Nat.mul_le_mul (by omega) (by omega)
    simp only [List.length_nil] at ha
    omega
   have e1:=C.id (x:=(i:Int)) (by omega) (by omega)
   have e2:=D.id (x:=(j:Int)) (by omega) (by omega)
   rw [aX (by omega:(j:Int) < d.aA),cond_true,C.mr (by omega) (by omega),aF,D.mr (by omega) (by omega),aF,dQ (by omega) (by omega),aF,cH (by omega),O4 e1.1 e1.2 (by omega) e2.1 e2.2 (by omega)]
  ·intro sQ _
   show eX c d i _ sQ=_
   unfold eX
   rw [bj (by omega),cond_false]
  ·dsimp only
   rw [cH (by omega)]
 ·intro acc _
  show eY c d _ acc=_
  unfold eY
  rw [bj (by omega),cond_false]
 ·dsimp only
  refine (congrArg ao (xc (β:=Int×Int×List Int) c.aG.length d.aG.length (fun a b=>(gi c.aG a * d.aA+gi d.aG b,gi c.To a * d.aA+gi d.To b,mf c.aG.length d.aG.length (ni c d a b))) [] (fun acc i=>((i:Int),acc.map (·.1),acc.map (·.2.1),acc.map (·.2.2))) rfl ?_ ?_)).trans ?_
  ·intro i acc hi ha
   show fC c d i (acc.map (·.1)) (acc.map (·.2.1)) (acc.map (·.2.2))=_
   unfold fC
   rw [aX (by omega:(i:Int) < (c.aG.length:Int)),cond_true]
   refine (sP (β:=Int×Int×List Int) d.aG.length (fun b=>(gi c.aG i * d.aA+gi d.aG b,gi c.To i * d.aA+gi d.To b,mf c.aG.length d.aG.length (ni c d i b))) acc (fun acc j=>((j:Int),acc.map (·.1),acc.map (·.2.1),acc.map (·.2.2))) rfl ?_ ?_).trans ?_
   ·intro j sQ hj ha'
    show fB c d i j (sQ.map (·.1)) (sQ.map (·.2.1)) (sQ.map (·.2.2))=_
    unfold fB
    have i0:(0:Int)≤i:=by omega
    have i1:(i:Int) < (c.aG.length:Int):=by omega
    have j0:(0:Int)≤j:=by omega
    have j1:(j:Int) < (d.aG.length:Int):=by omega
    have hl:sQ.length≤100010000:=by
     have:i * d.aG.length≤10000 * 10000:=Nat.mul_le_mul (by omega) dm
     simp only [List.length_nil] at ha
     omega
    have f1:=C.fr i0 i1
    have f2:=D.fr j0 j1
    have t1:=C.to i0 i1
    have t2:=D.to j0 j1
    rw [aX (by omega:(j:Int) < (d.aG.length:Int)),cond_true,C.iy i0 i1,aF,D.iy j0 j1,aF,dQ (by rw [List.length_map]; omega) (by rw [List.length_map]; omega),aF,C.j3 i0 i1,aF,D.j3 j0 j1,aF,dQ (by rw [List.length_map]; omega) (by rw [List.length_map]; omega),aF]
    refine (xc (β:=Int) c.aG.length d.aG.length (ni c d i j) [] (fun acc p=>(acc,(p:Int))) rfl ?_ ?_).trans ?_
    ·intro p row hp hr
     show fA c d i j row p=_
     unfold fA
     have p0:(0:Int)≤p:=by omega
     have p1:(p:Int) < (c.aG.length:Int):=by omega
     rw [aX (by omega:(p:Int) < (c.aG.length:Int)),cond_true]
     refine (sP (β:=Int) d.aG.length (fun q=>ni c d i j p q) row (fun acc q=>(acc,(q:Int))) rfl ?_ ?_).trans ?_
     ·intro q Jh hq gw
      show eZ c d i j p Jh q=_
      unfold eZ
      have q0:(0:Int)≤q:=by omega
      have q1:(q:Int) < (d.aG.length:Int):=by omega
      have BO:Jh.length≤100010000:=by
       have:p * d.aG.length≤10000 * 10000:=Nat.mul_le_mul (by omega) dm
       simp only [List.length_nil] at hr
       omega
      have k1:=C.Ay i0 i1 p0 p1
      have k2:=D.Ay j0 j1 q0 q1
      rw [aX (by omega:(q:Int) < (d.aG.length:Int)),cond_true,C.me i0 i1,aF,C.l3 i0 i1 p0 p1,aF]
      by_cases e1:0≤gk c.aB i p
      ·rw [aX (show gk c.aB i p ≥ 0 from e1),cond_true,D.me j0 j1,aF,D.l3 j0 j1 q0 q1,aF,aF]
       by_cases e2:0≤gk d.aB j q
       ·rw [aX (show gk d.aB j q ≥ 0 from e2),cond_true,aF,C.l3 i0 i1 p0 p1,aF,aF,D.l3 j0 j1 q0 q1,aF,dQ (by omega) (by omega),aF,cH (by omega),O4 e1 k1.2 (by omega) e2 k2.2 (by omega)]
        unfold ni
        rw [if_pos ⟨e1,e2⟩]
       ·rw [bj (show ¬ gk d.aB j q ≥ 0 from e2),cond_false,dQ (by omega) (by omega),aF,cH (by omega)]
        unfold ni
        rw [if_neg (fun h=>e2 h.2)]
      ·rw [bj (show ¬ gk c.aB i p ≥ 0 from e1),cond_false,aF,cond_false,dQ (by omega) (by omega),aF,cH (by omega)]
       unfold ni
       rw [if_neg (fun h=>e1 h.1)]
     ·intro Jh _
      show eZ c d i j p Jh _=_
      unfold eZ
      rw [bj (by omega),cond_false]
     ·dsimp only
      rw [cH (by omega)]
    ·intro row _
     show fA c d i j row _=_
     unfold fA
     rw [bj (by omega),cond_false]
    ·dsimp only
     rw [dQ (by rw [List.length_map]; omega) (by rw [List.length_map]; omega),aF,cH (by omega),dp,O4 f1.1 f1.2 co f2.1 (by omega) (by omega),O4 t1.1 t1.2 co t2.1 (by omega) (by omega)]
     simp only [List.map_append,List.map_cons,List.map_nil,List.nil_append]
   ·intro sQ _
    show fB c d i _ (sQ.map (·.1)) (sQ.map (·.2.1)) (sQ.map (·.2.2))=_
    unfold fB
    rw [bj (by omega),cond_false]
   ·dsimp only
    rw [cH (by omega)]
  ·intro acc _
   show fC c d _ (acc.map (·.1)) (acc.map (·.2.1)) (acc.map (·.2.2))=_
   unfold fC
   rw [bj (by omega),cond_false]
  ·have:=Gx (a:=10000) (b:=10000) c0 co d0 dO
   show some _=_
   rw [List.nil_append,List.nil_append,wF,wF,wF,dM (by omega) (by omega)]
   unfold uI
   rw [rR,dp]
   rfl
end Go.Proofs.YtjdkifckhidlbaaGreat
namespace Go.Proofs.YtjdkifckhidlbaaGreat
open Go Go.Li
def z7 (l:List Int) (n y:Int):Prop:=(y = -1∧∀ k:Nat,l[k]?≠some n)∨∃ k:Nat,y=k∧l[k]? = some n∧∀ j:Nat,j < k→l[j]?≠some n
theorem z7.uL {l:List Int} {n y z:Int} (h:z7 l n y) (k:z7 l n z):y=z:=by
 rcases h with ⟨rfl,h⟩ | ⟨a,rfl,h1,h2⟩
 ·rcases k with ⟨rfl,_⟩ | ⟨b,rfl,k1,_⟩
  ·rfl
  ·exact absurd k1 (h b)
 ·rcases k with ⟨rfl,k⟩ | ⟨b,rfl,k1,k2⟩
  ·exact absurd h1 (k a)
  ·rcases Nat.lt_trichotomy a b with uU | rfl | uU
   ·exact absurd h1 (k2 a uU)
   ·rfl
   ·exact absurd k1 (h2 b uU)
theorem z7.pos {l:List Int} {n y:Int} (h:z7 l n y) (hy:0≤y):y < l.length∧l[y.toNat]? = some n:=by
 rcases h with ⟨rfl,_⟩ | ⟨k,rfl,h1,_⟩
 ·omega
 ·exact ⟨by have:=(List.getElem?_eq_some_iff.1 h1).1; omega,h1⟩
theorem z7.app {l:List Int} {n y m:Int} (h:z7 l n y) (hy:0≤y):z7 (l++[m]) n y:=by
 rcases h with ⟨rfl,_⟩ | ⟨k,rfl,h1,h2⟩
 ·omega
 ·have hk:=(List.getElem?_eq_some_iff.1 h1).1
  exact .inr ⟨k,rfl,by rw [List.getElem?_append_left hk]; exact h1,fun j hj=>by rw [List.getElem?_append_left (by omega)]; exact h2 j hj⟩
theorem z7.new {l:List Int} {n y:Int} (h:z7 l n y) (hy:y < 0):z7 (l++[n]) n (l.length:Int):=by
 rcases h with ⟨_,h⟩ | ⟨k,rfl,_⟩
 ·refine .inr ⟨l.length,rfl,by simp,fun j hj=>?_⟩
  rw [List.getElem?_append_left hj]
  exact h j
 ·omega
def Rg (q:List Int):Prop:=∀ y∈q,∀ z:Int,0≤z→z≤y→z∈q
end Go.Proofs.YtjdkifckhidlbaaGreat
namespace Go.Proofs.YtjdkifckhidlbaaGreat
open Go Go.Li
theorem TY {cl:List (List Int)} {y:Nat} {q:List Int} (x:Nat):gr (cl.set y q) x=if y=x∧y < cl.length then q else gr cl x:=by
 unfold gr
 rw [List.getD_eq_getElem?_getD,List.getD_eq_getElem?_getD,show ((x:Int)).toNat=x from rfl,List.getElem?_set]
 by_cases h:y=x
 ·subst h
  by_cases h2:y < cl.length
  ·simp [h2]
  ·simp [h2]
 ·simp [h]
theorem Tt {l:List (List Int)} {y:List Int} (h:y∈l):∃ i:Int,0≤i∧i < l.length∧gr l i=y:=by
 obtain ⟨k,hk⟩:=List.getElem?_of_mem h
 have hl:=(List.getElem?_eq_some_iff.1 hk).1
 refine ⟨k,by omega,by omega,?_⟩
 unfold gr
 rw [List.getD_eq_getElem?_getD,show ((k:Int)).toNat=k from rfl,hk]; rfl
theorem rE {l:List Int} {q:Int} {i j:Int} (i0:0≤i) (i1:i < l.length) (j0:0≤j):gi (l.set i.toNat q) j=if j=i then q else gi l j:=by
 unfold gi
 rw [List.getD_eq_getElem?_getD,List.getD_eq_getElem?_getD,List.getElem?_set]
 by_cases h:j=i
 ·subst h; rw [if_pos rfl,if_pos rfl,if_pos (by omega)]; rfl
 ·rw [if_neg (by omega),if_neg h]
theorem sA {l:List Int} {y:Int} (h:y∈l):∃ i:Int,0≤i∧i < l.length∧gi l i=y:=by
 obtain ⟨k,hk⟩:=List.getElem?_of_mem h
 have hl:=(List.getElem?_eq_some_iff.1 hk).1
 refine ⟨k,by omega,by omega,?_⟩
 unfold gi
 rw [List.getD_eq_getElem?_getD,show ((k:Int)).toNat=k from rfl,hk]; rfl
section
end
end Go.Proofs.YtjdkifckhidlbaaGreat
namespace Go.Proofs.YtjdkifckhidlbaaGreat
open Go Go.Li
theorem j8 {l:List Int} {q:Int} {j:Int} (h0:0≤j):gi (l++[q]) j=if j < l.length then gi l j else if j=l.length then q else 0:=by
 obtain ⟨n,rfl⟩ : ∃ n:Nat,j=n:=⟨j.toNat,by omega⟩
 unfold gi
 rw [List.getD_eq_getElem?_getD,List.getD_eq_getElem?_getD,show ((n:Int)).toNat=n from rfl]
 by_cases h:n < l.length
 ·rw [List.getElem?_append_left h,if_pos (by omega)]
 ·rw [List.getElem?_append_right (by omega),if_neg (by omega)]
  by_cases e:n=l.length
  ·subst e; rw [if_pos rfl,Nat.sub_self]; rfl
  ·rw [if_neg (by omega),List.getElem?_eq_none (by simp; omega)]; rfl
theorem Cr {l:List (List Int)} {q:List Int} {j:Int} (h0:0≤j):gr (l++[q]) j=if j < l.length then gr l j else if j=l.length then q else []:=by
 obtain ⟨n,rfl⟩ : ∃ n:Nat,j=n:=⟨j.toNat,by omega⟩
 unfold gr
 rw [List.getD_eq_getElem?_getD,List.getD_eq_getElem?_getD,show ((n:Int)).toNat=n from rfl]
 by_cases h:n < l.length
 ·rw [List.getElem?_append_left h,if_pos (by omega)]
 ·rw [List.getElem?_append_right (by omega),if_neg (by omega)]
  by_cases e:n=l.length
  ·subst e; rw [if_pos rfl,Nat.sub_self]; rfl
  ·rw [if_neg (by omega),List.getElem?_eq_none (by simp; omega)]; rfl
theorem Jt {α:Type} {l:List (List α)} {q:List α} {i j:Int} (i0:0≤i) (i1:i < l.length) (j0:0≤j):gl (l.set i.toNat q) j=if j=i then q else gl l j:=by
 unfold gl
 rw [List.getD_eq_getElem?_getD,List.getD_eq_getElem?_getD,List.getElem?_set]
 by_cases h:j=i
 ·subst h; rw [if_pos rfl,if_pos rfl,if_pos (by omega)]; rfl
 ·rw [if_neg (by omega),if_neg h]
end Go.Proofs.YtjdkifckhidlbaaGreat
namespace Go.Proofs.YtjdkifckhidlbaaGreat
open Go Go.Li
theorem r6 {a b:List Int} {e:Int} (h0:0≤e) (h1:e < a.length):gi (thenS a b) e=gi b (gi a e):=sb h0 h1
theorem DS {a b:List Int} {y n:Int} (hb:∀ x∈a,0≤x∧x < b.length) (hn:∀ z∈b,0≤z∧z < n) (hy:y∈thenS a b):0≤y∧y < n:=by
 obtain ⟨i,hi,rfl⟩:=ox.1 hy
 have h:=hb _ (ec hi.1 hi.2)
 exact hn _ (ec h.1 h.2)
section
end
theorem A4 {n:Int} (n0:0≤n) (n1:n≤1048576):lN n=some (ns n.toNat):=by
 unfold lN
 obtain ⟨k,rfl⟩ : ∃ k:Nat,n=k:=⟨n.toNat,by omega⟩
 rw [D9 (by omega) (by omega),aF]
 have hl:(ns k).length=k:=cZ k
 refine (congrArg ao (sa (ns k) (fun i=>((i:Int),(ns k).take i++List.replicate (k - i) (0:Int))) (by simp) ?_ (e:=((k:Int),ns k)) ?_)).trans rfl
 ·intro i x hx
  have xa:=hx
  obtain ⟨rfl,hi⟩:=gh hx
  have hc:=Ga (ns k) (0:Int) xa
  have KY:=get_copy (ns k) (0:Int) xa
  rw [hl] at hc KY
  show jK k (i:Int) _=_
  unfold jK
  rw [aX (by rw [List.length_replicate]; omega),cond_true,cy,KY,aF,cH (by omega),Int.toNat_natCast,hc]
 ·rw [hl]
  show jK k _ _=_
  unfold jK
  rw [bj (by rw [List.length_replicate]; omega),cond_false,Nat.sub_self,List.take_of_length_le (by omega)]
  simp
theorem w8 {n:Nat} {e:Int} (h0:0≤e) (h1:e < n):gi (ns n) e=e:=by
 have h:=sb (g:=fun e=>e) h0 h1
 rwa [show dk n (fun e:Int=>e)=ns n from List.map_id' _] at h
theorem TZ {a b:List Int} (hl:a.length=b.length) (h:∀ x:Int,0≤x→x < b.length→gi a x=gi b x):a=b:=by
 refine List.ext_getElem hl fun i h1 h2=>?_
 have:=h i (by omega) (by omega)
 unfold gi at this
 rw [List.getD_eq_getElem?_getD,List.getD_eq_getElem?_getD,show ((i:Int)).toNat=i from rfl,List.getElem?_eq_getElem h1,List.getElem?_eq_getElem h2] at this
 exact this
end Go.Proofs.YtjdkifckhidlbaaGreat
