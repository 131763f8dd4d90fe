/- Tables told by two numbers: loops in loops that fill a list, and what stands where. No condition beside those that each theorem names. -/
import Derived.Test.YtgjbmjjihmfppaaGreatPj
import Derived.Test.YtgjbmjjihmfppaaGreatPe
import Derived.Test.YtgjbmjjihmfppaaGreatVc
namespace Go.Proofs.YtgjbmjjihmfppaaGreat
open Go Go.Li
def nk {β:Type} (n m:Nat) (g:Int→Int→β):List β:=(dt n fun a=>dt m (g a)).flatten
theorem GN {β:Type} (m:Nat) (g:Int→Int→β):nk 0 m g=[]:=rfl
theorem w6 {β:Type} (n m:Nat) (g:Int→Int→β):nk (n+1) m g=nk n m g++dt m (g n):=by
 unfold nk
 rw [pg,List.flatten_append]
 simp
theorem iv {β:Type} (n m:Nat) (g:Int→Int→β):(nk n m g).length=n * m:=by
 induction n with
 | zero=>simp [GN]
 | succ n ih=>rw [w6,List.length_append,ih,cD,Nat.succ_mul]
theorem JC {β:Type} {n m:Nat} (g:Int→Int→β) {a b:Nat} (ha:a < n) (hb:b < m):(nk n m g)[a * m+b]? = some (g a b):=by
 induction n with
 | zero=>omega
 | succ n ih=>
  rw [w6]
  by_cases h:a < n
  ·have hl:a * m+b < (nk n m g).length:=by
    rw [iv]
    have:(a+1) * m≤n * m:=Nat.mul_le_mul_right m h
    rw [Nat.succ_mul] at this
    omega
   rw [List.getElem?_append_left hl]
   exact ih h
  ·obtain rfl:a=n:=by omega
   rw [List.getElem?_append_right (by rw [iv]; omega),iv,show a * m+b - a * m=b by omega]
   exact ry _ hb
theorem Bd {β:Type} {n m:Nat} {g:Int→Int→β} {y:β}:y∈nk n m g↔∃ a b:Int,(0≤a∧a < n)∧(0≤b∧b < m)∧g a b=y:=by
 unfold nk
 rw [List.mem_flatten]
 constructor
 ·rintro ⟨l,hl,hy⟩
  obtain ⟨a,ha,rfl⟩:=ou.1 hl
  obtain ⟨b,hb,rfl⟩:=ou.1 hy
  exact ⟨a,b,ha,hb,rfl⟩
 ·rintro ⟨a,b,ha,hb,rfl⟩
  exact ⟨_,ou.2 ⟨a,ha,rfl⟩,ou.2 ⟨b,hb,rfl⟩⟩
theorem X5 {n m k:Nat} (h:k < n * m):∃ a b,a < n∧b < m∧k=a * m+b:=by
 have hm:0 < m:=by
  rcases Nat.eq_zero_or_pos m with rfl | hm
  ·simp at h
  ·exact hm
 exact ⟨k / m,k % m,Nat.div_lt_of_lt_mul (by rwa [Nat.mul_comm] at h),Nat.mod_lt _ hm,by rw [Nat.mul_comm]; exact (Nat.div_add_mod k m).symm⟩
section
variable {S S1 R β:Type} {body:S1→Option (Out S1 R)} {k:Nat} {f:S1→Option (Out S R)} {Jg:S1}
theorem uE (n:Nat) (g:Int→β) (wk:List β) (pk:List β→Nat→S1) (e0:pk wk 0=Jg)
  (step:∀ i acc,i < n→acc.length=wk.length+i→body (pk acc i)=some (.norm (pk (acc++[g i]) (i+1)))) (last:∀ acc,acc.length=wk.length+n→body (pk acc n)=some (.exit k (pk acc n))) :
  ah (ae k (ai body Jg)) f=f (pk (wk++dt n g) n):=by
 refine (wc n g (fun acc i=>pk (wk++acc) i) (by rw [List.append_nil]; exact e0) (fun i acc hi ha=>?_) fun acc ha=>?_)
 ·rw [step i _ hi (by rw [List.length_append,ha]),List.append_assoc]
 ·exact last _ (by rw [List.length_append,ha])
theorem zr (n m:Nat) (g:Int→Int→β) (wk:List β) (pk:List β→Nat→S1) (e0:pk wk 0=Jg)
  (step:∀ i acc,i < n→acc.length=wk.length+i * m→body (pk acc i)=some (.norm (pk (acc++dt m (g i)) (i+1)))) (last:∀ acc,acc.length=wk.length+n * m→body (pk acc n)=some (.exit k (pk acc n))) :
  ah (ae k (ai body Jg)) f=f (pk (wk++nk n m g) n):=by
 rw [← e0]
 refine (congrArg (fun s=>ah (ae k (ai body s)) f) (show pk wk 0=pk (wk++nk 0 m g) 0 by rw [GN,List.append_nil])).trans ?_
 refine pq (ns n) (fun i=>pk (wk++nk i m g) i) rfl ?_ ?_
 ·intro i x hx
  obtain ⟨rfl,hi⟩:=iH hx
  rw [step i _ hi (by rw [List.length_append,iv]),w6,List.append_assoc]
 ·rw [dM]; exact last _ (by rw [List.length_append,iv])
end
theorem tb {n:Nat} {g:Int→Int} {i:Int} (h0:0≤i) (h1:i < n):gi (dt n g) i=g i:=by
 obtain ⟨k,rfl⟩ : ∃ k:Nat,i=k:=⟨i.toNat,by omega⟩
 have h:=ry g (i:=k) (n:=n) (by omega)
 unfold gi
 rw [List.getD_eq_getElem?_getD,show ((k:Int)).toNat=k from rfl,h]; rfl
theorem xR {n m:Nat} {g:Int→Int→Int} {a b:Int} (a0:0≤a) (a1:a < n) (b0:0≤b) (b1:b < m):gi (nk n m g) (a * m+b)=g a b:=by
 obtain ⟨i,rfl⟩ : ∃ k:Nat,a=k:=⟨a.toNat,by omega⟩
 obtain ⟨j,rfl⟩ : ∃ k:Nat,b=k:=⟨b.toNat,by omega⟩
 have h:=JC g (a:=i) (b:=j) (n:=n) (m:=m) (by omega) (by omega)
 unfold gi
 rw [List.getD_eq_getElem?_getD,show ((i:Int) * (m:Int)+(j:Int)).toNat=i * m+j by
  rw [← Int.natCast_mul,← Int.natCast_add]; rfl,h]; rfl
end Go.Proofs.YtgjbmjjihmfppaaGreat
namespace Go.Proofs.YtgjbmjjihmfppaaGreat
open Go Go.Li
theorem Ru {β γ:Type} (n:Nat) (g:Int→β) (h:β→γ):(dt n g).map h=dt n fun i=>h (g i):=by
 induction n with
 | zero=>rfl
 | succ n ih=>rw [pg,pg,List.map_append,ih]; rfl
theorem yN {β γ:Type} (n m:Nat) (g:Int→Int→β) (h:β→γ):(nk n m g).map h=nk n m fun a b=>h (g a b):=by
 induction n with
 | zero=>rfl
 | succ n ih=>rw [w6,w6,List.map_append,ih,Ru]
structure Ty (c:aG):Prop where
 o0:0≤c.aA
 f:∀ x∈c.aD,0≤x∧x < c.aA
 tl:c.To.length=c.aD.length
 t:∀ x∈c.To,0≤x∧x < c.aA
 kl:c.aB.length=c.aD.length
 kr:∀ r∈c.aB,r.length=c.aD.length
 il:(c.aH.length:Int)=c.aA
 i:∀ x∈c.aH,0≤x∧x < c.aD.length
 vx:∀ x:Int,0≤x→x < c.aA→gi c.aD (gi c.aH x)=x
 wZ:∀ x:Int,0≤x→x < c.aA→gi c.To (gi c.aH x)=x
 cell:∀ f g:Int,0≤f→f < c.aD.length→0≤g→g < c.aD.length→gi c.To f=gi c.aD g→(0≤gk c.aB f g∧gk c.aB f g < c.aD.length)∧gi c.aD (gk c.aB f g)=gi c.aD f∧gi c.To (gk c.aB f g)=gi c.To g
 none:∀ f g:Int,0≤f→f < c.aD.length→0≤g→g < c.aD.length→gi c.To f≠gi c.aD g→gk c.aB f g = -1
 uu:∀ x:Int,0≤x→x < c.aA→gk c.aB (gi c.aH x) (gi c.aH x)=gi c.aH x
namespace Ty
variable {c:aG} (h:Ty c)
include h
theorem fr {f:Int} (h0:0≤f) (h1:f < c.aD.length):0≤gi c.aD f∧gi c.aD f < c.aA:=h.f _ (fj h0 h1)
theorem to {f:Int} (h0:0≤f) (h1:f < c.aD.length):0≤gi c.To f∧gi c.To f < c.aA:=h.t _ (fj h0 (by rw [h.tl]; exact h1))
theorem id {x:Int} (h0:0≤x) (h1:x < c.aA):0≤gi c.aH x∧gi c.aH x < c.aD.length:=h.i _ (fj h0 (by rw [h.il]; exact h1))
theorem js {f:Int} (h0:0≤f) (h1:f < c.aD.length):idx c.aD f=some (gi c.aD f):=have _:=h; cH h0 h1
theorem j3 {f:Int} (h0:0≤f) (h1:f < c.aD.length):idx c.To f=some (gi c.To f):=cH h0 (by rw [h.tl]; exact h1)
theorem p9 {x:Int} (h0:0≤x) (h1:x < c.aA):idx c.aH x=some (gi c.aH x):=cH h0 (by rw [h.il]; exact h1)
theorem mm {f:Int} (h0:0≤f) (h1:f < c.aD.length):idx c.aB f=some (gr c.aB f):=ny h0 (by rw [h.kl]; exact h1)
theorem row {f:Int} (h0:0≤f) (h1:f < c.aD.length):(gr c.aB f).length=c.aD.length:=h.kr _ (ra h0 (by rw [h.kl]; exact h1))
theorem l8 {f g:Int} (h0:0≤f) (h1:f < c.aD.length) (h2:0≤g) (h3:g < c.aD.length):idx (gr c.aB f) g=some (gk c.aB f g):=cH h2 (by rw [h.row h0 h1]; exact h3)
theorem C0 {f g:Int} (h0:0≤f) (h1:f < c.aD.length) (h2:0≤g) (h3:g < c.aD.length) : -1≤gk c.aB f g∧gk c.aB f g < c.aD.length:=by
 by_cases e:gi c.To f=gi c.aD g
 ·have:=(h.cell f g h0 h1 h2 h3 e).1; omega
 ·rw [h.none f g h0 h1 h2 h3 e]; omega
end Ty
def ov (c d:aG) (a b f g:Int):Int:=
 if 0≤gk c.aB a f∧0≤gk d.aB b g then gk c.aB a f * d.aD.length+gk d.aB b g else -1
def wE (c d:aG):aG:=
 ⟨c.aA * d.aA,nk c.aD.length d.aD.length fun a b=>gi c.aD a * d.aA+gi d.aD b,
  nk c.aD.length d.aD.length fun a b=>gi c.To a * d.aA+gi d.To b,
  nk c.aA.toNat d.aA.toNat fun x y=>gi c.aH x * d.aD.length+gi d.aH y,
  nk c.aD.length d.aD.length fun a b=>nk c.aD.length d.aD.length (ov c d a b)⟩
theorem JD {i n a b:Int} (i0:0≤i) (i1:i≤a) (n0:0≤n) (n1:n≤b):0≤i * n∧i * n≤a * b:=
 ⟨Int.mul_nonneg i0 n0,Int.mul_le_mul i1 n1 n0 (Int.le_trans i0 i1)⟩
theorem J8 {c d:aG} (C:Ty c) (D:Ty d) (co:c.aA≤10000) (cm:c.aD.length≤10000) (dO:d.aA≤10000) (dm:d.aD.length≤10000):fC c d=some (wE c d):=by
 have c0:=C.o0
 have d0:=D.o0
 obtain ⟨no,tj⟩ : ∃ n:Nat,c.aA=n:=⟨c.aA.toNat,by omega⟩
 obtain ⟨nd,da⟩ : ∃ n:Nat,d.aA=n:=⟨d.aA.toNat,by omega⟩
 have S8:∀ {x y n:Int} {m:Nat},0≤x→x < n→n≤10000→0≤y→y < m→m≤10000→aj (aj (x * (m:Int))+y)=x * m+y:=by
  intro x y n m x0 x1 x2 y0 y1 y2
  have:=JD (n:=(m:Int)) (b:=10000) x0 (Int.le_of_lt x1) (by omega) (by omega)
  have h2:n * 10000≤10000 * 10000:=Int.mul_le_mul_of_nonneg_right x2 (by omega)
  rw [dV (a:=x * (m:Int)) (by omega) (by omega),dV (by omega) (by omega)]
 unfold fC
 refine (congrArg ak (zr (β:=Int) no nd (fun x y=>gi c.aH x * d.aD.length+gi d.aH y) [] (fun acc i=>((i:Int),acc)) rfl ?_ ?_)).trans ?_
 ·intro i acc hi ha
  show eV c d i acc=_
  unfold eV
  rw [av (by omega:(i:Int) < c.aA),cond_true]
  refine (uE (β:=Int) nd (fun y=>gi c.aH i * d.aD.length+gi d.aH y) acc (fun acc j=>((j:Int),acc)) rfl ?_ ?_).trans ?_
  ·intro j uF hj NM
   show eU c d i j uF=_
   unfold eU
   have hl:uF.length≤100010000:=by
    have:i * nd≤10000 * 10000:=Nat.mul_le_mul (by omega) (by omega)
    simp only [List.length_nil] at ha
    omega
   have e1:=C.id (x:=(i:Int)) (by omega) (by omega)
   have e2:=D.id (x:=(j:Int)) (by omega) (by omega)
   rw [av (by omega:(j:Int) < d.aA),cond_true,C.p9 (by omega) (by omega),aF,D.p9 (by omega) (by omega),aF,dK (by omega) (by omega),aF,bR (by omega),S8 e1.1 e1.2 (by omega) e2.1 e2.2 (by omega)]
  ·intro uF _
   show eU c d i _ uF=_
   unfold eU
   rw [aX (by omega),cond_false]
  ·dsimp only
   rw [bR (by omega)]
 ·intro acc _
  show eV c d _ acc=_
  unfold eV
  rw [aX (by omega),cond_false]
 ·dsimp only
  refine (congrArg ak (zr (β:=Int×Int×List Int) c.aD.length d.aD.length (fun a b=>(gi c.aD a * d.aA+gi d.aD b,gi c.To a * d.aA+gi d.To b,nk c.aD.length d.aD.length (ov c d a b))) [] (fun acc i=>((i:Int),acc.map (·.1),acc.map (·.2.1),acc.map (·.2.2))) rfl ?_ ?_)).trans ?_
  ·intro i acc hi ha
   show eZ c d i (acc.map (·.1)) (acc.map (·.2.1)) (acc.map (·.2.2))=_
   unfold eZ
   rw [av (by omega:(i:Int) < (c.aD.length:Int)),cond_true]
   refine (uE (β:=Int×Int×List Int) d.aD.length (fun b=>(gi c.aD i * d.aA+gi d.aD b,gi c.To i * d.aA+gi d.To b,nk c.aD.length d.aD.length (ov c d i b))) acc (fun acc j=>((j:Int),acc.map (·.1),acc.map (·.2.1),acc.map (·.2.2))) rfl ?_ ?_).trans ?_
   ·intro j uF hj NM
    show eY c d i j (uF.map (·.1)) (uF.map (·.2.1)) (uF.map (·.2.2))=_
    unfold eY
    have i0:(0:Int)≤i:=by omega
    have i1:(i:Int) < (c.aD.length:Int):=by omega
    have j0:(0:Int)≤j:=by omega
    have j1:(j:Int) < (d.aD.length:Int):=by omega
    have hl:uF.length≤100010000:=by
     have:i * d.aD.length≤10000 * 10000:=Nat.mul_le_mul (by omega) dm
     simp only [List.length_nil] at ha
     omega
    have f1:=C.fr i0 i1
    have f2:=D.fr j0 j1
    have t1:=C.to i0 i1
    have t2:=D.to j0 j1
    rw [av (by omega:(j:Int) < (d.aD.length:Int)),cond_true,C.js i0 i1,aF,D.js j0 j1,aF,dK (by rw [List.length_map]; omega) (by rw [List.length_map]; omega),aF,C.j3 i0 i1,aF,D.j3 j0 j1,aF,dK (by rw [List.length_map]; omega) (by rw [List.length_map]; omega),aF]
    refine (zr (β:=Int) c.aD.length d.aD.length (ov c d i j) [] (fun acc p=>(acc,(p:Int))) rfl ?_ ?_).trans ?_
    ·intro p row hp hr
     show eX c d i j row p=_
     unfold eX
     have p0:(0:Int)≤p:=by omega
     have p1:(p:Int) < (c.aD.length:Int):=by omega
     rw [av (by omega:(p:Int) < (c.aD.length:Int)),cond_true]
     refine (uE (β:=Int) d.aD.length (fun q=>ov c d i j p q) row (fun acc q=>(acc,(q:Int))) rfl ?_ ?_).trans ?_
     ·intro q MJ hq fh
      show eW c d i j p MJ q=_
      unfold eW
      have q0:(0:Int)≤q:=by omega
      have q1:(q:Int) < (d.aD.length:Int):=by omega
      have D4:MJ.length≤100010000:=by
       have:p * d.aD.length≤10000 * 10000:=Nat.mul_le_mul (by omega) dm
       simp only [List.length_nil] at hr
       omega
      have k1:=C.C0 i0 i1 p0 p1
      have k2:=D.C0 j0 j1 q0 q1
      rw [av (by omega:(q:Int) < (d.aD.length:Int)),cond_true,C.mm i0 i1,aF,C.l8 i0 i1 p0 p1,aF]
      by_cases e1:0≤gk c.aB i p
      ·rw [av (show gk c.aB i p ≥ 0 from e1),cond_true,D.mm j0 j1,aF,D.l8 j0 j1 q0 q1,aF,aF]
       by_cases e2:0≤gk d.aB j q
       ·rw [av (show gk d.aB j q ≥ 0 from e2),cond_true,aF,C.l8 i0 i1 p0 p1,aF,aF,D.l8 j0 j1 q0 q1,aF,dK (by omega) (by omega),aF,bR (by omega),S8 e1 k1.2 (by omega) e2 k2.2 (by omega)]
        unfold ov
        rw [if_pos ⟨e1,e2⟩]
       ·rw [aX (show ¬ gk d.aB j q ≥ 0 from e2),cond_false,dK (by omega) (by omega),aF,bR (by omega)]
        unfold ov
        rw [if_neg (fun h=>e2 h.2)]
      ·rw [aX (show ¬ gk c.aB i p ≥ 0 from e1),cond_false,aF,cond_false,dK (by omega) (by omega),aF,bR (by omega)]
       unfold ov
       rw [if_neg (fun h=>e1 h.1)]
     ·intro MJ _
      show eW c d i j p MJ _=_
      unfold eW
      rw [aX (by omega),cond_false]
     ·dsimp only
      rw [bR (by omega)]
    ·intro row _
     show eX c d i j row _=_
     unfold eX
     rw [aX (by omega),cond_false]
    ·dsimp only
     rw [dK (by rw [List.length_map]; omega) (by rw [List.length_map]; omega),aF,bR (by omega),da,S8 f1.1 f1.2 co f2.1 (by omega) (by omega),S8 t1.1 t1.2 co t2.1 (by omega) (by omega)]
     simp only [List.map_append,List.map_cons,List.map_nil,List.nil_append]
   ·intro uF _
    show eY c d i _ (uF.map (·.1)) (uF.map (·.2.1)) (uF.map (·.2.2))=_
    unfold eY
    rw [aX (by omega),cond_false]
   ·dsimp only
    rw [bR (by omega)]
  ·intro acc _
   show eZ c d _ (acc.map (·.1)) (acc.map (·.2.1)) (acc.map (·.2.2))=_
   unfold eZ
   rw [aX (by omega),cond_false]
  ·have:=JD (a:=10000) (b:=10000) c0 co d0 dO
   show some _=_
   rw [List.nil_append,List.nil_append,yN,yN,yN,dV (by omega) (by omega)]
   unfold wE
   rw [tj,da]
   rfl
end Go.Proofs.YtgjbmjjihmfppaaGreat
namespace Go.Proofs.YtgjbmjjihmfppaaGreat
open Go Go.Li
def Ak (l:List Int) (n y:Int):Prop:=(y = -1∧∀ k:Nat,l[k]?≠some n)∨∃ k:Nat,y=k∧l[k]? = some n∧∀ j:Nat,j < k→l[j]?≠some n
theorem Ak.vG {l:List Int} {n y z:Int} (h:Ak l n y) (k:Ak l n z):y=z:=by
 rcases h with ⟨rfl,h⟩ | ⟨a,rfl,h1,h2⟩
 ·rcases k with ⟨rfl,_⟩ | ⟨b,rfl,k1,_⟩
  ·rfl
  ·exact absurd k1 (h b)
 ·rcases k with ⟨rfl,k⟩ | ⟨b,rfl,k1,k2⟩
  ·exact absurd h1 (k a)
  ·rcases Nat.lt_trichotomy a b with py | rfl | py
   ·exact absurd h1 (k2 a py)
   ·rfl
   ·exact absurd k1 (h2 b py)
theorem Ak.pos {l:List Int} {n y:Int} (h:Ak l n y) (hy:0≤y):y < l.length∧l[y.toNat]? = some n:=by
 rcases h with ⟨rfl,_⟩ | ⟨k,rfl,h1,_⟩
 ·omega
 ·exact ⟨by have:=(List.getElem?_eq_some_iff.1 h1).1; omega,h1⟩
theorem Ak.app {l:List Int} {n y m:Int} (h:Ak l n y) (hy:0≤y):Ak (l++[m]) n y:=by
 rcases h with ⟨rfl,_⟩ | ⟨k,rfl,h1,h2⟩
 ·omega
 ·have hk:=(List.getElem?_eq_some_iff.1 h1).1
  exact .inr ⟨k,rfl,by rw [List.getElem?_append_left hk]; exact h1,fun j hj=>by rw [List.getElem?_append_left (by omega)]; exact h2 j hj⟩
theorem Ak.new {l:List Int} {n y:Int} (h:Ak l n y) (hy:y < 0):Ak (l++[n]) n (l.length:Int):=by
 rcases h with ⟨_,h⟩ | ⟨k,rfl,_⟩
 ·refine .inr ⟨l.length,rfl,by simp,fun j hj=>?_⟩
  rw [List.getElem?_append_left hj]
  exact h j
 ·omega
theorem Rv {l:List Int} {n:Int} (hl:l.length≤1048576):Ok (nX l n) (Ak l n):=by
 unfold nX
 refine jo (ol (fun s:Int=>(0≤s∧s≤l.length)∧∀ k:Nat,(k:Int) < s→l[k]?≠some n) (fun s=>(l.length - s).toNat) ⟨⟨Int.le_refl _,by omega⟩,fun k hk=>by omega⟩ ?_)
 rintro s ⟨⟨s0,s1⟩,hs⟩
 unfold qV
 refine od (fun h=>?_) fun h=>os ⟨rfl,os (.inl ⟨rfl,fun k hk=>?_⟩)⟩
 ·obtain ⟨i,rfl⟩ : ∃ i:Nat,s=i:=⟨s.toNat,by omega⟩
  refine oe (cH s0 h) ?_
  have hg:l[i]? = some (gi l i):=by
   have:=cH s0 h
   rwa [bu] at this
  refine oc (fun e=>os ?_) fun e=>os ⟨⟨⟨?_,?_⟩,fun k hk=>?_⟩,?_⟩
  ·exact .inr ⟨i,rfl,by rw [hg,of_decide_eq_true e],fun j hj=>hs j (by omega)⟩
  ·rw [w1 s0 h (by omega)]; omega
  ·rw [w1 s0 h (by omega)]; omega
  ·rw [w1 s0 h (by omega)] at hk
   rcases (by omega:k < i∨k=i) with h3 | rfl
   ·exact hs k (by omega)
   ·rw [hg]
    intro h4
    have:gi l k=n:=Option.some.inj h4
    rw [this] at e
    simp at e
  ·dsimp only; rw [w1 s0 h (by omega)]; omega
 ·have:=(List.getElem?_eq_some_iff.1 hk).1
  exact hs k (by omega) hk
def Rg (q:List Int):Prop:=∀ y∈q,∀ z:Int,0≤z→z≤y→z∈q
theorem MK {l:List Int} (hl:l.length≤1048576):Ok (mD l) fun q=>q.length=l.length∧(∀ y∈q,0≤y∧y < l.length)∧(∀ i j:Nat,i < l.length→l[i]? = l[j]?→q[i]? = q[j]?)∧Rg q:=by
 unfold mD
 refine jo (ol (fun z:List Int×List Int×Int=>(0≤z.2.2∧z.2.2≤l.length)∧(z.1.length:Int)=z.2.2∧(z.2.1.length:Int)≤z.2.2∧(∀ k:Nat,(k:Int) < z.2.2→∃ a:Int,0≤a∧z.1[k]? = some a∧∃ n,l[k]? = some n∧Ak z.2.1 n a)∧∀ k:Nat,k < z.2.1.length→(k:Int)∈z.1) (fun z=>(l.length - z.2.2).toNat) ⟨⟨by show (0:Int)≤0; omega,by show (0:Int)≤_; omega⟩,rfl,by show (0:Int)≤0; omega,fun k hk=>by have:(k:Int) < 0:=hk; omega,fun k hk=>absurd hk (Nat.not_lt_zero _)⟩ ?_)
 rintro ⟨out,seen,s⟩ ⟨⟨s0,s1⟩,ho,hn,hk,hz⟩
 dsimp only at s0 s1 ho hn hk hz
 show Ok (mP l out seen s) _
 unfold mP
 refine od (fun h=>?_) fun h=>os ⟨rfl,os ⟨by omega,fun y hy=>?_,fun i j hi tG=>?_,fun y hy z z0 z1=>?_⟩⟩
 ·obtain ⟨i,rfl⟩ : ∃ i:Nat,s=i:=⟨s.toNat,by omega⟩
  have hg:l[i]? = some (gi l i):=by
   have:=cH s0 h
   rwa [bu] at this
  refine oe (cH s0 h) (ob (Rv (by omega)) fun y hy=>?_)
  have hw:=w1 s0 h (by omega)
  refine od (fun DW=>oe (cH s0 h) (fk (by omega) (by omega) (fk (by omega) (by omega) (os ⟨⟨⟨?_,?_⟩,?_,?_,fun k x6=>?_,fun k HA=>?_⟩,?_⟩)))) fun abt=>fk (by omega) (by omega) (os ⟨⟨⟨?_,?_⟩,?_,?_,fun k x6=>?_,fun k HA=>?_⟩,?_⟩)
  all_goals first | (dsimp only at x6; rw [hw] at x6) | skip
  all_goals dsimp only
  all_goals first | (rw [hw]; simp only [List.length_append,List.length_singleton]; omega) | (rw [hw]; omega) | skip
  ·rcases (by omega:k < i∨k=i) with h3 | rfl
   ·obtain ⟨a,a0,e,n,e2,hf⟩:=hk k (by omega)
    exact ⟨a,a0,by rw [List.getElem?_append_left (by omega)]; exact e,n,e2,hf.app a0⟩
   ·refine ⟨seen.length,by omega,?_,gi l k,hg,hy.new DW⟩
    rw [List.getElem?_append_right (by omega),show k - out.length=0 by omega]; rfl
  ·simp only [List.length_append,List.length_singleton] at HA
   rcases (by omega:k < seen.length∨k=seen.length) with h3 | rfl
   ·exact List.mem_append_left _ (hz k h3)
   ·exact List.mem_append_right _ (List.mem_singleton.2 rfl)
  ·rcases (by omega:k < i∨k=i) with h3 | rfl
   ·obtain ⟨a,a0,e,n,e2,hf⟩:=hk k (by omega)
    exact ⟨a,a0,by rw [List.getElem?_append_left (by omega)]; exact e,n,e2,hf⟩
   ·refine ⟨y,by omega,?_,gi l k,hg,hy⟩
    rw [List.getElem?_append_right (by omega),show k - out.length=0 by omega]; rfl
  ·exact List.mem_append_left _ (hz k HA)
 ·obtain ⟨k,JE⟩:=List.getElem?_of_mem hy
  have bm:=(List.getElem?_eq_some_iff.1 JE).1
  obtain ⟨a,a0,e,n,e2,hf⟩:=hk k (by omega)
  rw [e] at JE
  obtain rfl:=Option.some.inj JE
  have:=(hf.pos a0).1
  omega
 ·have hj:j < l.length:=by
   rw [List.getElem?_eq_getElem hi] at tG
   exact (List.getElem?_eq_some_iff.1 tG.symm).1
  obtain ⟨a,a0,e,n,e2,hf⟩:=hk i (by omega)
  obtain ⟨b,b0,e',n',X6,ve⟩:=hk j (by omega)
  rw [e2,X6] at tG
  obtain rfl:=Option.some.inj tG
  rw [e,e',hf.vG ve]
 ·obtain ⟨k,JE⟩:=List.getElem?_of_mem hy
  have bm:=(List.getElem?_eq_some_iff.1 JE).1
  obtain ⟨a,a0,e,n,e2,hf⟩:=hk k (by omega)
  rw [e] at JE
  obtain rfl:=Option.some.inj JE
  have:=(hf.pos a0).1
  have:=hz z.toNat (by omega)
  rwa [show ((z.toNat:Nat):Int)=z by omega] at this
end Go.Proofs.YtgjbmjjihmfppaaGreat
namespace Go.Proofs.YtgjbmjjihmfppaaGreat
open Go Go.Li
theorem JB {cl:List (List Int)} {y:Nat} {q:List Int} (x:Nat):gr (cl.set y q) x=if y=x∧y < cl.length then q else gr cl x:=by
 unfold gr
 rw [List.getD_eq_getElem?_getD,List.getD_eq_getElem?_getD,show ((x:Int)).toNat=x from rfl,List.getElem?_set]
 by_cases h:y=x
 ·subst h
  by_cases h2:y < cl.length
  ·simp [h2]
  ·simp [h2]
 ·simp [h]
theorem X7 {l:List (List Int)} {y:List Int} (h:y∈l):∃ i:Int,0≤i∧i < l.length∧gr l i=y:=by
 obtain ⟨k,hk⟩:=List.getElem?_of_mem h
 have hl:=(List.getElem?_eq_some_iff.1 hk).1
 refine ⟨k,by omega,by omega,?_⟩
 unfold gr
 rw [List.getD_eq_getElem?_getD,show ((k:Int)).toNat=k from rfl,hk]; rfl
theorem mw {l:List Int} {q:Int} {i j:Int} (i0:0≤i) (i1:i < l.length) (j0:0≤j):gi (l.set i.toNat q) j=if j=i then q else gi l j:=by
 unfold gi
 rw [List.getD_eq_getElem?_getD,List.getD_eq_getElem?_getD,List.getElem?_set]
 by_cases h:j=i
 ·subst h; rw [if_pos rfl,if_pos rfl,if_pos (by omega)]; rfl
 ·rw [if_neg (by omega),if_neg h]
theorem Cv {l:List Int} {y:Int} (h:y∈l):∃ i:Int,0≤i∧i < l.length∧gi l i=y:=by
 obtain ⟨k,hk⟩:=List.getElem?_of_mem h
 have hl:=(List.getElem?_eq_some_iff.1 hk).1
 refine ⟨k,by omega,by omega,?_⟩
 unfold gi
 rw [List.getD_eq_getElem?_getD,show ((k:Int)).toNat=k from rfl,hk]; rfl
section
end
end Go.Proofs.YtgjbmjjihmfppaaGreat
namespace Go.Proofs.YtgjbmjjihmfppaaGreat
open Go Go.Li
theorem km {l:List Int} {q:Int} {j:Int} (h0:0≤j):gi (l++[q]) j=if j < l.length then gi l j else if j=l.length then q else 0:=by
 obtain ⟨n,rfl⟩ : ∃ n:Nat,j=n:=⟨j.toNat,by omega⟩
 unfold gi
 rw [List.getD_eq_getElem?_getD,List.getD_eq_getElem?_getD,show ((n:Int)).toNat=n from rfl]
 by_cases h:n < l.length
 ·rw [List.getElem?_append_left h,if_pos (by omega)]
 ·rw [List.getElem?_append_right (by omega),if_neg (by omega)]
  by_cases e:n=l.length
  ·subst e; rw [if_pos rfl,Nat.sub_self]; rfl
  ·rw [if_neg (by omega),List.getElem?_eq_none (by simp; omega)]; rfl
theorem EV {l:List (List Int)} {q:List Int} {j:Int} (h0:0≤j):gr (l++[q]) j=if j < l.length then gr l j else if j=l.length then q else []:=by
 obtain ⟨n,rfl⟩ : ∃ n:Nat,j=n:=⟨j.toNat,by omega⟩
 unfold gr
 rw [List.getD_eq_getElem?_getD,List.getD_eq_getElem?_getD,show ((n:Int)).toNat=n from rfl]
 by_cases h:n < l.length
 ·rw [List.getElem?_append_left h,if_pos (by omega)]
 ·rw [List.getElem?_append_right (by omega),if_neg (by omega)]
  by_cases e:n=l.length
  ·subst e; rw [if_pos rfl,Nat.sub_self]; rfl
  ·rw [if_neg (by omega),List.getElem?_eq_none (by simp; omega)]; rfl
theorem MU {α:Type} {l:List (List α)} {q:List α} {i j:Int} (i0:0≤i) (i1:i < l.length) (j0:0≤j):gl (l.set i.toNat q) j=if j=i then q else gl l j:=by
 unfold gl
 rw [List.getD_eq_getElem?_getD,List.getD_eq_getElem?_getD,List.getElem?_set]
 by_cases h:j=i
 ·subst h; rw [if_pos rfl,if_pos rfl,if_pos (by omega)]; rfl
 ·rw [if_neg (by omega),if_neg h]
end Go.Proofs.YtgjbmjjihmfppaaGreat
namespace Go.Proofs.YtgjbmjjihmfppaaGreat
open Go Go.Li
theorem yM {a b:List Int} {e:Int} (h0:0≤e) (h1:e < a.length):gi (thenS a b) e=gi b (gi a e):=tb h0 h1
theorem GO {a b:List Int} {y n:Int} (hb:∀ x∈a,0≤x∧x < b.length) (hn:∀ z∈b,0≤z∧z < n) (hy:y∈thenS a b):0≤y∧y < n:=by
 obtain ⟨i,hi,rfl⟩:=ou.1 hy
 have h:=hb _ (fj hi.1 hi.2)
 exact hn _ (fj h.1 h.2)
section
end
theorem XX {a b:List (List Int)} (hl:a.length=b.length) (h:∀ x:Int,0≤x→x < b.length→gr a x=gr b x):a=b:=by
 refine List.ext_getElem hl fun i h1 h2=>?_
 have:=h i (by omega) (by omega)
 unfold gr at this
 rw [List.getD_eq_getElem?_getD,List.getD_eq_getElem?_getD,show ((i:Int)).toNat=i from rfl,List.getElem?_eq_getElem h1,List.getElem?_eq_getElem h2] at this
 exact this
theorem Jy {a b:List Int} (hl:a.length=b.length) (h:∀ x:Int,0≤x→x < b.length→gi a x=gi b x):a=b:=by
 refine List.ext_getElem hl fun i h1 h2=>?_
 have:=h i (by omega) (by omega)
 unfold gi at this
 rw [List.getD_eq_getElem?_getD,List.getD_eq_getElem?_getD,show ((i:Int)).toNat=i from rfl,List.getElem?_eq_getElem h1,List.getElem?_eq_getElem h2] at this
 exact this
end Go.Proofs.YtgjbmjjihmfppaaGreat
