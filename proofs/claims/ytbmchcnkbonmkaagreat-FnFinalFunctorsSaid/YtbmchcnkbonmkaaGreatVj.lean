/- Tables told by two numbers: loops in loops that fill a list, and what stands where. No condition beside those that each theorem names. -/
import Derived.Test.YtbmchcnkbonmkaaGreatPj
import Derived.Test.YtbmchcnkbonmkaaGreatPe
import Derived.Test.YtbmchcnkbonmkaaGreatVc
namespace Go.Proofs.YtbmchcnkbonmkaaGreat
open Go Go.Li
def nn {β:Type} (n m:Nat) (g:Int→Int→β):List β:=(db n fun a=>db m (g a)).flatten
theorem G8 {β:Type} (m:Nat) (g:Int→Int→β):nn 0 m g=[]:=rfl
theorem xc {β:Type} (n m:Nat) (g:Int→Int→β):nn (n+1) m g=nn n m g++db m (g n):=by
 unfold nn
 rw [p7,List.flatten_append]
 simp
theorem iv {β:Type} (n m:Nat) (g:Int→Int→β):(nn n m g).length=n * m:=by
 induction n with
 | zero=>simp [G8]
 | succ n ih=>rw [xc,List.length_append,ih,bL,Nat.succ_mul]
theorem JJ {β:Type} {n m:Nat} (g:Int→Int→β) {a b:Nat} (ha:a < n) (hb:b < m):(nn n m g)[a * m+b]? = some (g a b):=by
 induction n with
 | zero=>omega
 | succ n ih=>
  rw [xc]
  by_cases h:a < n
  ·have hl:a * m+b < (nn n m g).length:=by
    rw [iv]
    have:(a+1) * m≤n * m:=Nat.mul_le_mul_right m h
    rw [Nat.succ_mul] at this
    omega
   rw [List.getElem?_append_left hl]
   exact ih h
  ·obtain rfl:a=n:=by omega
   rw [List.getElem?_append_right (by rw [iv]; omega),iv,show a * m+b - a * m=b by omega]
   exact tn _ hb
theorem BE {β:Type} {n m:Nat} {g:Int→Int→β} {y:β}:y∈nn n m g↔∃ a b:Int,(0≤a∧a < n)∧(0≤b∧b < m)∧g a b=y:=by
 unfold nn
 rw [List.mem_flatten]
 constructor
 ·rintro ⟨l,hl,hy⟩
  obtain ⟨a,ha,rfl⟩:=o6.1 hl
  obtain ⟨b,hb,rfl⟩:=o6.1 hy
  exact ⟨a,b,ha,hb,rfl⟩
 ·rintro ⟨a,b,ha,hb,rfl⟩
  exact ⟨_,o6.2 ⟨a,ha,rfl⟩,o6.2 ⟨b,hb,rfl⟩⟩
theorem YL {n m k:Nat} (h:k < n * m):∃ a b,a < n∧b < m∧k=a * m+b:=by
 have hm:0 < m:=by
  rcases Nat.eq_zero_or_pos m with rfl | hm
  ·simp at h
  ·exact hm
 exact ⟨k / m,k % m,Nat.div_lt_of_lt_mul (by rwa [Nat.mul_comm] at h),Nat.mod_lt _ hm,by rw [Nat.mul_comm]; exact (Nat.div_add_mod k m).symm⟩
section
variable {S S1 R β:Type} {body:S1→Option (Out S1 R)} {k:Nat} {f:S1→Option (Out S R)} {DB:S1}
theorem uU (n:Nat) (g:Int→β) (wC:List β) (pk:List β→Nat→S1) (e0:pk wC 0=DB)
  (step:∀ i acc,i < n→acc.length=wC.length+i→body (pk acc i)=some (.norm (pk (acc++[g i]) (i+1)))) (last:∀ acc,acc.length=wC.length+n→body (pk acc n)=some (.exit k (pk acc n))) :
  ae (ab k (af body DB)) f=f (pk (wC++db n g) n):=by
 refine (yX n g (fun acc i=>pk (wC++acc) i) (by rw [List.append_nil]; exact e0) (fun i acc hi ha=>?_) fun acc ha=>?_)
 ·rw [step i _ hi (by rw [List.length_append,ha]),List.append_assoc]
 ·exact last _ (by rw [List.length_append,ha])
theorem zM (n m:Nat) (g:Int→Int→β) (wC:List β) (pk:List β→Nat→S1) (e0:pk wC 0=DB)
  (step:∀ i acc,i < n→acc.length=wC.length+i * m→body (pk acc i)=some (.norm (pk (acc++db m (g i)) (i+1)))) (last:∀ acc,acc.length=wC.length+n * m→body (pk acc n)=some (.exit k (pk acc n))) :
  ae (ab k (af body DB)) f=f (pk (wC++nn n m g) n):=by
 rw [← e0]
 refine (congrArg (fun s=>ae (ab k (af body s)) f) (show pk wC 0=pk (wC++nn 0 m g) 0 by rw [G8,List.append_nil])).trans ?_
 refine jo (ns n) (fun i=>pk (wC++nn i m g) i) rfl ?_ ?_
 ·intro i x hx
  obtain ⟨rfl,hi⟩:=ij hx
  rw [step i _ hi (by rw [List.length_append,iv]),xc,List.append_assoc]
 ·rw [bZ]; exact last _ (by rw [List.length_append,iv])
end
theorem qh {n:Nat} {g:Int→Int} {i:Int} (h0:0≤i) (h1:i < n):gi (db n g) i=g i:=by
 obtain ⟨k,rfl⟩ : ∃ k:Nat,i=k:=⟨i.toNat,by omega⟩
 have h:=tn g (i:=k) (n:=n) (by omega)
 unfold gi
 rw [List.getD_eq_getElem?_getD,show ((k:Int)).toNat=k from rfl,h]; rfl
theorem xY {n m:Nat} {g:Int→Int→Int} {a b:Int} (a0:0≤a) (a1:a < n) (b0:0≤b) (b1:b < m):gi (nn n m g) (a * m+b)=g a b:=by
 obtain ⟨i,rfl⟩ : ∃ k:Nat,a=k:=⟨a.toNat,by omega⟩
 obtain ⟨j,rfl⟩ : ∃ k:Nat,b=k:=⟨b.toNat,by omega⟩
 have h:=JJ g (a:=i) (b:=j) (n:=n) (m:=m) (by omega) (by omega)
 unfold gi
 rw [List.getD_eq_getElem?_getD,show ((i:Int) * (m:Int)+(j:Int)).toNat=i * m+j by
  rw [← Int.natCast_mul,← Int.natCast_add]; rfl,h]; rfl
end Go.Proofs.YtbmchcnkbonmkaaGreat
namespace Go.Proofs.YtbmchcnkbonmkaaGreat
open Go Go.Li
theorem R7 {β γ:Type} (n:Nat) (g:Int→β) (h:β→γ):(db n g).map h=db n fun i=>h (g i):=by
 induction n with
 | zero=>rfl
 | succ n ih=>rw [p7,p7,List.map_append,ih]; rfl
theorem zb {β γ:Type} (n m:Nat) (g:Int→Int→β) (h:β→γ):(nn n m g).map h=nn n m fun a b=>h (g a b):=by
 induction n with
 | zero=>rfl
 | succ n ih=>rw [xc,xc,List.map_append,ih,R7]
structure Ty (c:aG):Prop where
 o0:0≤c.aA
 f:∀ x∈c.aC,0≤x∧x < c.aA
 tl:c.To.length=c.aC.length
 t:∀ x∈c.To,0≤x∧x < c.aA
 kl:c.aB.length=c.aC.length
 kr:∀ r∈c.aB,r.length=c.aC.length
 il:(c.aH.length:Int)=c.aA
 i:∀ x∈c.aH,0≤x∧x < c.aC.length
 uK:∀ x:Int,0≤x→x < c.aA→gi c.aC (gi c.aH x)=x
 vL:∀ x:Int,0≤x→x < c.aA→gi c.To (gi c.aH x)=x
 cell:∀ f g:Int,0≤f→f < c.aC.length→0≤g→g < c.aC.length→gi c.To f=gi c.aC g→(0≤gk c.aB f g∧gk c.aB f g < c.aC.length)∧gi c.aC (gk c.aB f g)=gi c.aC f∧gi c.To (gk c.aB f g)=gi c.To g
 none:∀ f g:Int,0≤f→f < c.aC.length→0≤g→g < c.aC.length→gi c.To f≠gi c.aC g→gk c.aB f g = -1
 uu:∀ x:Int,0≤x→x < c.aA→gk c.aB (gi c.aH x) (gi c.aH x)=gi c.aH x
namespace Ty
variable {c:aG} (h:Ty c)
include h
theorem fr {f:Int} (h0:0≤f) (h1:f < c.aC.length):0≤gi c.aC f∧gi c.aC f < c.aA:=h.f _ (fj h0 h1)
theorem to {f:Int} (h0:0≤f) (h1:f < c.aC.length):0≤gi c.To f∧gi c.To f < c.aA:=h.t _ (fj h0 (by rw [h.tl]; exact h1))
theorem id {x:Int} (h0:0≤x) (h1:x < c.aA):0≤gi c.aH x∧gi c.aH x < c.aC.length:=h.i _ (fj h0 (by rw [h.il]; exact h1))
theorem ji {f:Int} (h0:0≤f) (h1:f < c.aC.length):idx c.aC f=some (gi c.aC f):=have _:=h; bI h0 h1
theorem jj {f:Int} (h0:0≤f) (h1:f < c.aC.length):idx c.To f=some (gi c.To f):=bI h0 (by rw [h.tl]; exact h1)
theorem qw {x:Int} (h0:0≤x) (h1:x < c.aA):idx c.aH x=some (gi c.aH x):=bI h0 (by rw [h.il]; exact h1)
theorem mm {f:Int} (h0:0≤f) (h1:f < c.aC.length):idx c.aB f=some (gr c.aB f):=l8 h0 (by rw [h.kl]; exact h1)
theorem row {f:Int} (h0:0≤f) (h1:f < c.aC.length):(gr c.aB f).length=c.aC.length:=h.kr _ (pj h0 (by rw [h.kl]; exact h1))
theorem l5 {f g:Int} (h0:0≤f) (h1:f < c.aC.length) (h2:0≤g) (h3:g < c.aC.length):idx (gr c.aB f) g=some (gk c.aB f g):=bI h2 (by rw [h.row h0 h1]; exact h3)
theorem C7 {f g:Int} (h0:0≤f) (h1:f < c.aC.length) (h2:0≤g) (h3:g < c.aC.length) : -1≤gk c.aB f g∧gk c.aB f g < c.aC.length:=by
 by_cases e:gi c.To f=gi c.aC g
 ·have:=(h.cell f g h0 h1 h2 h3 e).1; omega
 ·rw [h.none f g h0 h1 h2 h3 e]; omega
end Ty
def o7 (c d:aG) (a b f g:Int):Int:=
 if 0≤gk c.aB a f∧0≤gk d.aB b g then gk c.aB a f * d.aC.length+gk d.aB b g else -1
def wK (c d:aG):aG:=
 ⟨c.aA * d.aA,nn c.aC.length d.aC.length fun a b=>gi c.aC a * d.aA+gi d.aC b,
  nn c.aC.length d.aC.length fun a b=>gi c.To a * d.aA+gi d.To b,
  nn c.aA.toNat d.aA.toNat fun x y=>gi c.aH x * d.aC.length+gi d.aH y,
  nn c.aC.length d.aC.length fun a b=>nn c.aC.length d.aC.length (o7 c d a b)⟩
theorem JK {i n a b:Int} (i0:0≤i) (i1:i≤a) (n0:0≤n) (n1:n≤b):0≤i * n∧i * n≤a * b:=
 ⟨Int.mul_nonneg i0 n0,Int.mul_le_mul i1 n1 n0 (Int.le_trans i0 i1)⟩
theorem Kf {c d:aG} (C:Ty c) (D:Ty d) (co:c.aA≤10000) (cm:c.aC.length≤10000) (dO:d.aA≤10000) (dm:d.aC.length≤10000):eV c d=some (wK c d):=by
 have c0:=C.o0
 have d0:=D.o0
 obtain ⟨no,tK⟩ : ∃ n:Nat,c.aA=n:=⟨c.aA.toNat,by omega⟩
 obtain ⟨nd,du⟩ : ∃ n:Nat,d.aA=n:=⟨d.aA.toNat,by omega⟩
 have TB:∀ {x y n:Int} {m:Nat},0≤x→x < n→n≤10000→0≤y→y < m→m≤10000→aj (aj (x * (m:Int))+y)=x * m+y:=by
  intro x y n m x0 x1 x2 y0 y1 y2
  have:=JK (n:=(m:Int)) (b:=10000) x0 (Int.le_of_lt x1) (by omega) (by omega)
  have h2:n * 10000≤10000 * 10000:=Int.mul_le_mul_of_nonneg_right x2 (by omega)
  rw [cV (a:=x * (m:Int)) (by omega) (by omega),cV (by omega) (by omega)]
 unfold eV
 refine (congrArg ak (zM (β:=Int) no nd (fun x y=>gi c.aH x * d.aC.length+gi d.aH y) [] (fun acc i=>((i:Int),acc)) rfl ?_ ?_)).trans ?_
 ·intro i acc hi ha
  show eH c d i acc=_
  unfold eH
  rw [aq (by omega:(i:Int) < c.aA),cond_true]
  refine (uU (β:=Int) nd (fun y=>gi c.aH i * d.aC.length+gi d.aH y) acc (fun acc j=>((j:Int),acc)) rfl ?_ ?_).trans ?_
  ·intro j uV hj N5
   show eG c d i j uV=_
   unfold eG
   have hl:uV.length≤100010000:=by
    have:i * nd≤10000 * 10000:=Nat.mul_le_mul (by omega) (by omega)
    simp only [List.length_nil] at ha
    omega
   have e1:=C.id (x:=(i:Int)) (by omega) (by omega)
   have e2:=D.id (x:=(j:Int)) (by omega) (by omega)
   rw [aq (by omega:(j:Int) < d.aA),cond_true,C.qw (by omega) (by omega),aD,D.qw (by omega) (by omega),aD,cN (by omega) (by omega),aD,bH (by omega),TB e1.1 e1.2 (by omega) e2.1 e2.2 (by omega)]
  ·intro uV _
   show eG c d i _ uV=_
   unfold eG
   rw [ba (by omega),cond_false]
  ·dsimp only
   rw [bH (by omega)]
 ·intro acc _
  show eH c d _ acc=_
  unfold eH
  rw [ba (by omega),cond_false]
 ·dsimp only
  refine (congrArg ak (zM (β:=Int×Int×List Int) c.aC.length d.aC.length (fun a b=>(gi c.aC a * d.aA+gi d.aC b,gi c.To a * d.aA+gi d.To b,nn c.aC.length d.aC.length (o7 c d a b))) [] (fun acc i=>((i:Int),acc.map (·.1),acc.map (·.2.1),acc.map (·.2.2))) rfl ?_ ?_)).trans ?_
  ·intro i acc hi ha
   show eL c d i (acc.map (·.1)) (acc.map (·.2.1)) (acc.map (·.2.2))=_
   unfold eL
   rw [aq (by omega:(i:Int) < (c.aC.length:Int)),cond_true]
   refine (uU (β:=Int×Int×List Int) d.aC.length (fun b=>(gi c.aC i * d.aA+gi d.aC b,gi c.To i * d.aA+gi d.To b,nn c.aC.length d.aC.length (o7 c d i b))) acc (fun acc j=>((j:Int),acc.map (·.1),acc.map (·.2.1),acc.map (·.2.2))) rfl ?_ ?_).trans ?_
   ·intro j uV hj N5
    show eK c d i j (uV.map (·.1)) (uV.map (·.2.1)) (uV.map (·.2.2))=_
    unfold eK
    have i0:(0:Int)≤i:=by omega
    have i1:(i:Int) < (c.aC.length:Int):=by omega
    have j0:(0:Int)≤j:=by omega
    have j1:(j:Int) < (d.aC.length:Int):=by omega
    have hl:uV.length≤100010000:=by
     have:i * d.aC.length≤10000 * 10000:=Nat.mul_le_mul (by omega) dm
     simp only [List.length_nil] at ha
     omega
    have f1:=C.fr i0 i1
    have f2:=D.fr j0 j1
    have t1:=C.to i0 i1
    have t2:=D.to j0 j1
    rw [aq (by omega:(j:Int) < (d.aC.length:Int)),cond_true,C.ji i0 i1,aD,D.ji j0 j1,aD,cN (by rw [List.length_map]; omega) (by rw [List.length_map]; omega),aD,C.jj i0 i1,aD,D.jj j0 j1,aD,cN (by rw [List.length_map]; omega) (by rw [List.length_map]; omega),aD]
    refine (zM (β:=Int) c.aC.length d.aC.length (o7 c d i j) [] (fun acc p=>(acc,(p:Int))) rfl ?_ ?_).trans ?_
    ·intro p row hp hr
     show eJ c d i j row p=_
     unfold eJ
     have p0:(0:Int)≤p:=by omega
     have p1:(p:Int) < (c.aC.length:Int):=by omega
     rw [aq (by omega:(p:Int) < (c.aC.length:Int)),cond_true]
     refine (uU (β:=Int) d.aC.length (fun q=>o7 c d i j p q) row (fun acc q=>(acc,(q:Int))) rfl ?_ ?_).trans ?_
     ·intro q M6 hq gx
      show eI c d i j p M6 q=_
      unfold eI
      have q0:(0:Int)≤q:=by omega
      have q1:(q:Int) < (d.aC.length:Int):=by omega
      have B4:M6.length≤100010000:=by
       have:p * d.aC.length≤10000 * 10000:=Nat.mul_le_mul (by omega) dm
       simp only [List.length_nil] at hr
       omega
      have k1:=C.C7 i0 i1 p0 p1
      have k2:=D.C7 j0 j1 q0 q1
      rw [aq (by omega:(q:Int) < (d.aC.length:Int)),cond_true,C.mm i0 i1,aD,C.l5 i0 i1 p0 p1,aD]
      by_cases e1:0≤gk c.aB i p
      ·rw [aq (show gk c.aB i p ≥ 0 from e1),cond_true,D.mm j0 j1,aD,D.l5 j0 j1 q0 q1,aD,aD]
       by_cases e2:0≤gk d.aB j q
       ·rw [aq (show gk d.aB j q ≥ 0 from e2),cond_true,aD,C.l5 i0 i1 p0 p1,aD,aD,D.l5 j0 j1 q0 q1,aD,cN (by omega) (by omega),aD,bH (by omega),TB e1 k1.2 (by omega) e2 k2.2 (by omega)]
        unfold o7
        rw [if_pos ⟨e1,e2⟩]
       ·rw [ba (show ¬ gk d.aB j q ≥ 0 from e2),cond_false,cN (by omega) (by omega),aD,bH (by omega)]
        unfold o7
        rw [if_neg (fun h=>e2 h.2)]
      ·rw [ba (show ¬ gk c.aB i p ≥ 0 from e1),cond_false,aD,cond_false,cN (by omega) (by omega),aD,bH (by omega)]
       unfold o7
       rw [if_neg (fun h=>e1 h.1)]
     ·intro M6 _
      show eI c d i j p M6 _=_
      unfold eI
      rw [ba (by omega),cond_false]
     ·dsimp only
      rw [bH (by omega)]
    ·intro row _
     show eJ c d i j row _=_
     unfold eJ
     rw [ba (by omega),cond_false]
    ·dsimp only
     rw [cN (by rw [List.length_map]; omega) (by rw [List.length_map]; omega),aD,bH (by omega),du,TB f1.1 f1.2 co f2.1 (by omega) (by omega),TB t1.1 t1.2 co t2.1 (by omega) (by omega)]
     simp only [List.map_append,List.map_cons,List.map_nil,List.nil_append]
   ·intro uV _
    show eK c d i _ (uV.map (·.1)) (uV.map (·.2.1)) (uV.map (·.2.2))=_
    unfold eK
    rw [ba (by omega),cond_false]
   ·dsimp only
    rw [bH (by omega)]
  ·intro acc _
   show eL c d _ (acc.map (·.1)) (acc.map (·.2.1)) (acc.map (·.2.2))=_
   unfold eL
   rw [ba (by omega),cond_false]
  ·have:=JK (a:=10000) (b:=10000) c0 co d0 dO
   show some _=_
   rw [List.nil_append,List.nil_append,zb,zb,zb,cV (by omega) (by omega)]
   unfold wK
   rw [tK,du]
   rfl
end Go.Proofs.YtbmchcnkbonmkaaGreat
namespace Go.Proofs.YtbmchcnkbonmkaaGreat
open Go Go.Li
def zH (l:List Int) (n y:Int):Prop:=(y = -1∧∀ k:Nat,l[k]?≠some n)∨∃ k:Nat,y=k∧l[k]? = some n∧∀ j:Nat,j < k→l[j]?≠some n
theorem zH.vX {l:List Int} {n y z:Int} (h:zH l n y) (k:zH l n z):y=z:=by
 rcases h with ⟨rfl,h⟩ | ⟨a,rfl,h1,h2⟩
 ·rcases k with ⟨rfl,_⟩ | ⟨b,rfl,k1,_⟩
  ·rfl
  ·exact absurd k1 (h b)
 ·rcases k with ⟨rfl,k⟩ | ⟨b,rfl,k1,k2⟩
  ·exact absurd h1 (k a)
  ·rcases Nat.lt_trichotomy a b with nu | rfl | nu
   ·exact absurd h1 (k2 a nu)
   ·rfl
   ·exact absurd k1 (h2 b nu)
theorem zH.pos {l:List Int} {n y:Int} (h:zH l n y) (hy:0≤y):y < l.length∧l[y.toNat]? = some n:=by
 rcases h with ⟨rfl,_⟩ | ⟨k,rfl,h1,_⟩
 ·omega
 ·exact ⟨by have:=(List.getElem?_eq_some_iff.1 h1).1; omega,h1⟩
theorem zH.app {l:List Int} {n y m:Int} (h:zH l n y) (hy:0≤y):zH (l++[m]) n y:=by
 rcases h with ⟨rfl,_⟩ | ⟨k,rfl,h1,h2⟩
 ·omega
 ·have hk:=(List.getElem?_eq_some_iff.1 h1).1
  exact .inr ⟨k,rfl,by rw [List.getElem?_append_left hk]; exact h1,fun j hj=>by rw [List.getElem?_append_left (by omega)]; exact h2 j hj⟩
theorem zH.new {l:List Int} {n y:Int} (h:zH l n y) (hy:y < 0):zH (l++[n]) n (l.length:Int):=by
 rcases h with ⟨_,h⟩ | ⟨k,rfl,_⟩
 ·refine .inr ⟨l.length,rfl,by simp,fun j hj=>?_⟩
  rw [List.getElem?_append_left hj]
  exact h j
 ·omega
theorem Jz {l:List Int} {n:Int} (hl:l.length≤1048576):Ok (nX l n) (zH l n):=by
 unfold nX
 refine jb (ol (fun s:Int=>(0≤s∧s≤l.length)∧∀ k:Nat,(k:Int) < s→l[k]?≠some n) (fun s=>(l.length - s).toNat) ⟨⟨Int.le_refl _,by omega⟩,fun k hk=>by omega⟩ ?_)
 rintro s ⟨⟨s0,s1⟩,hs⟩
 unfold qW
 refine od (fun h=>?_) fun h=>os ⟨rfl,os (.inl ⟨rfl,fun k hk=>?_⟩)⟩
 ·obtain ⟨i,rfl⟩ : ∃ i:Nat,s=i:=⟨s.toNat,by omega⟩
  refine oe (bI s0 h) ?_
  have hg:l[i]? = some (gi l i):=by
   have:=bI s0 h
   rwa [bx] at this
  refine oc (fun e=>os ?_) fun e=>os ⟨⟨⟨?_,?_⟩,fun k hk=>?_⟩,?_⟩
  ·exact .inr ⟨i,rfl,by rw [hg,of_decide_eq_true e],fun j hj=>hs j (by omega)⟩
  ·rw [w1 s0 h (by omega)]; omega
  ·rw [w1 s0 h (by omega)]; omega
  ·rw [w1 s0 h (by omega)] at hk
   rcases (by omega:k < i∨k=i) with h3 | rfl
   ·exact hs k (by omega)
   ·rw [hg]
    intro h4
    have:gi l k=n:=Option.some.inj h4
    rw [this] at e
    simp at e
  ·dsimp only; rw [w1 s0 h (by omega)]; omega
 ·have:=(List.getElem?_eq_some_iff.1 hk).1
  exact hs k (by omega) hk
def Rg (q:List Int):Prop:=∀ y∈q,∀ z:Int,0≤z→z≤y→z∈q
theorem E2 {l:List Int} (hl:l.length≤1048576):Ok (gX l) fun q=>q.length=l.length∧(∀ y∈q,0≤y∧y < l.length)∧(∀ i j:Nat,i < l.length→l[i]? = l[j]?→q[i]? = q[j]?)∧Rg q:=by
 unfold gX
 refine jb (ol (fun z:List Int×List Int×Int=>(0≤z.2.2∧z.2.2≤l.length)∧(z.1.length:Int)=z.2.2∧(z.2.1.length:Int)≤z.2.2∧(∀ k:Nat,(k:Int) < z.2.2→∃ a:Int,0≤a∧z.1[k]? = some a∧∃ n,l[k]? = some n∧zH z.2.1 n a)∧∀ k:Nat,k < z.2.1.length→(k:Int)∈z.1) (fun z=>(l.length - z.2.2).toNat) ⟨⟨by show (0:Int)≤0; omega,by show (0:Int)≤_; omega⟩,rfl,by show (0:Int)≤0; omega,fun k hk=>by have:(k:Int) < 0:=hk; omega,fun k hk=>absurd hk (Nat.not_lt_zero _)⟩ ?_)
 rintro ⟨out,seen,s⟩ ⟨⟨s0,s1⟩,ho,hn,hk,hz⟩
 dsimp only at s0 s1 ho hn hk hz
 show Ok (gP l out seen s) _
 unfold gP
 refine od (fun h=>?_) fun h=>os ⟨rfl,os ⟨by omega,fun y hy=>?_,fun i j hi s8=>?_,fun y hy z z0 z1=>?_⟩⟩
 ·obtain ⟨i,rfl⟩ : ∃ i:Nat,s=i:=⟨s.toNat,by omega⟩
  have hg:l[i]? = some (gi l i):=by
   have:=bI s0 h
   rwa [bx] at this
  refine oe (bI s0 h) (ob (Jz (by omega)) fun y hy=>?_)
  have hw:=w1 s0 h (by omega)
  refine od (fun BA=>oe (bI s0 h) (ew (by omega) (by omega) (ew (by omega) (by omega) (os ⟨⟨⟨?_,?_⟩,?_,?_,fun k sZ=>?_,fun k HT=>?_⟩,?_⟩)))) fun VE=>ew (by omega) (by omega) (os ⟨⟨⟨?_,?_⟩,?_,?_,fun k sZ=>?_,fun k HT=>?_⟩,?_⟩)
  all_goals first | (dsimp only at sZ; rw [hw] at sZ) | skip
  all_goals dsimp only
  all_goals first | (rw [hw]; simp only [List.length_append,List.length_singleton]; omega) | (rw [hw]; omega) | skip
  ·rcases (by omega:k < i∨k=i) with h3 | rfl
   ·obtain ⟨a,a0,e,n,e2,hf⟩:=hk k (by omega)
    exact ⟨a,a0,by rw [List.getElem?_append_left (by omega)]; exact e,n,e2,hf.app a0⟩
   ·refine ⟨seen.length,by omega,?_,gi l k,hg,hy.new BA⟩
    rw [List.getElem?_append_right (by omega),show k - out.length=0 by omega]; rfl
  ·simp only [List.length_append,List.length_singleton] at HT
   rcases (by omega:k < seen.length∨k=seen.length) with h3 | rfl
   ·exact List.mem_append_left _ (hz k h3)
   ·exact List.mem_append_right _ (List.mem_singleton.2 rfl)
  ·rcases (by omega:k < i∨k=i) with h3 | rfl
   ·obtain ⟨a,a0,e,n,e2,hf⟩:=hk k (by omega)
    exact ⟨a,a0,by rw [List.getElem?_append_left (by omega)]; exact e,n,e2,hf⟩
   ·refine ⟨y,by omega,?_,gi l k,hg,hy⟩
    rw [List.getElem?_append_right (by omega),show k - out.length=0 by omega]; rfl
  ·exact List.mem_append_left _ (hz k HT)
 ·obtain ⟨k,JL⟩:=List.getElem?_of_mem hy
  have bc:=(List.getElem?_eq_some_iff.1 JL).1
  obtain ⟨a,a0,e,n,e2,hf⟩:=hk k (by omega)
  rw [e] at JL
  obtain rfl:=Option.some.inj JL
  have:=(hf.pos a0).1
  omega
 ·have hj:j < l.length:=by
   rw [List.getElem?_eq_getElem hi] at s8
   exact (List.getElem?_eq_some_iff.1 s8.symm).1
  obtain ⟨a,a0,e,n,e2,hf⟩:=hk i (by omega)
  obtain ⟨b,b0,e',n',O6,uG⟩:=hk j (by omega)
  rw [e2,O6] at s8
  obtain rfl:=Option.some.inj s8
  rw [e,e',hf.vX uG]
 ·obtain ⟨k,JL⟩:=List.getElem?_of_mem hy
  have bc:=(List.getElem?_eq_some_iff.1 JL).1
  obtain ⟨a,a0,e,n,e2,hf⟩:=hk k (by omega)
  rw [e] at JL
  obtain rfl:=Option.some.inj JL
  have:=(hf.pos a0).1
  have:=hz z.toNat (by omega)
  rwa [show ((z.toNat:Nat):Int)=z by omega] at this
def vR (a b x:Int):Int:=if x=b then a else x
theorem M7 (a x:Int):vR a a x=x:=by unfold vR; split <;> simp_all
theorem MY {S R:Type} {k:Nat} {f:Int×List Int→Option (Out S R)} {Q:Out S R→Prop} {ny:List Int} {a b:Int} (hl:ny.length≤1048576) {body:Int×List Int→Option (Out (Int×List Int) R)}
  (hb:∀ i o,body (i,o)=(((bif decide (i < (o.length:Int)) then (some (a != b)) else (some false)))>>=fun XW=>(bif XW then ((idx o i)>>=fun OJ=>(bif OJ == b then ((idx o i)>>=fun _=>(some (Out.norm (aj (i+(1:Int)),o.set i.toNat a)))) else (some (Out.norm (aj (i+(1:Int)),o))))) else (some (Out.exit k (i,o))))))
  (h:∀ i,Ok (f (i,ny.map (vR a b))) Q):Ok (ae (ab k (af body ((0:Int),ny))) f) Q:=by
 refine ol (fun z:Int×List Int=>(0≤z.1∧z.1≤ny.length)∧z.2.length=ny.length∧∀ m:Nat,z.2[m]? = if (m:Int) < z.1 then (ny[m]?).map (vR a b) else ny[m]?) (fun z=>(ny.length - z.1).toNat) ⟨⟨by show (0:Int)≤0; omega,by show (0:Int)≤_; omega⟩,rfl,fun m=>by rw [if_neg (by show ¬ (m:Int) < 0; omega)]⟩ ?_
 rintro ⟨i,o⟩ ⟨⟨i0,i1⟩,ho,hm⟩
 dsimp only at i0 i1 ho hm
 rw [hb]
 have fin:(¬ (i < (o.length:Int)∧a≠b))→o=ny.map (vR a b):=by
  intro hn
  refine List.ext_getElem? fun m=>?_
  rw [hm m,List.getElem?_map]
  by_cases nu:a=b
  ·subst nu
   have e:(vR a a)=id:=funext fun x=>M7 a x
   rw [e]
   cases ny[m]? <;> simp
  ·have : ¬ i < (o.length:Int):=fun h=>hn ⟨h,nu⟩
   by_cases G9:(m:Int) < i
   ·rw [if_pos G9]
   ·rw [if_neg G9,List.getElem?_eq_none (by omega)]; rfl
 refine ob (P:=fun g=>g=true↔(i < (o.length:Int)∧a≠b)) (od (fun h1=>os ?_) fun h1=>os ?_) fun g hg=>oc (fun e=>?_) fun e=>os ⟨rfl,?_⟩
 ·by_cases nu:a=b <;> simp [nu,h1]
 ·simp [h1]
 ·obtain ⟨h1,nu⟩:=hg.1 e
  obtain ⟨n,rfl⟩ : ∃ n:Nat,i=n:=⟨i.toNat,by omega⟩
  have Yj:o[n]? = some (gi o n):=by
   have:=bI i0 h1
   rwa [bx] at this
  have HB:ny[n]? = some (gi o n):=by rw [← Yj,hm n,if_neg (by omega)]
  have hw:=w1 i0 h1 (by omega)
  refine oe (bI i0 h1) (oc (fun eb=>oe (bI i0 h1) (os ⟨⟨⟨?_,?_⟩,?_,fun m=>?_⟩,?_⟩)) fun eb=>os ⟨⟨⟨?_,?_⟩,?_,fun m=>?_⟩,?_⟩)
  all_goals dsimp only
  all_goals first | (rw [hw]; omega) | (rw [List.length_set]; exact ho) | exact ho | skip
  ·rw [hw,show ((n:Int)).toNat=n from rfl,List.getElem?_set]
   by_cases TC:n=m
   ·subst TC
    rw [if_pos rfl,if_pos (by omega),if_pos (by omega),HB]
    have:gi o n=b:=of_decide_eq_true eb
    simp [vR,this]
   ·rw [if_neg TC,hm m]
    by_cases G9:(m:Int) < n
    ·rw [if_pos G9,if_pos (by omega)]
    ·rw [if_neg G9,if_neg (by omega)]
  ·rw [hw,hm m]
   by_cases TC:m=n
   ·subst TC
    rw [if_neg (by omega),if_pos (by omega),HB]
    have : ¬ gi o m=b:=fun h=>by rw [h] at eb; simp at eb
    simp [vR,this]
   ·by_cases G9:(m:Int) < n
    ·rw [if_pos G9,if_pos (by omega)]
    ·rw [if_neg G9,if_neg (by omega)]
 ·rw [fin fun h=>by rw [hg.2 h] at e; cases e]
  exact h i
def Prs (n:Int) (ps:List (List Int)):Prop:=∀ r∈ps,∃ a b t,r=a :: b :: t∧(0≤a∧a < n)∧(0≤b∧b < n)
end Go.Proofs.YtbmchcnkbonmkaaGreat
namespace Go.Proofs.YtbmchcnkbonmkaaGreat
open Go Go.Li
theorem JI {cl:List (List Int)} {y:Nat} {q:List Int} (x:Nat):gr (cl.set y q) x=if y=x∧y < cl.length then q else gr cl x:=by
 unfold gr
 rw [List.getD_eq_getElem?_getD,List.getD_eq_getElem?_getD,show ((x:Int)).toNat=x from rfl,List.getElem?_set]
 by_cases h:y=x
 ·subst h
  by_cases h2:y < cl.length
  ·simp [h2]
  ·simp [h2]
 ·simp [h]
theorem iy {l:List Int} {q:Int} {i j:Int} (i0:0≤i) (i1:i < l.length) (j0:0≤j):gi (l.set i.toNat q) j=if j=i then q else gi l j:=by
 unfold gi
 rw [List.getD_eq_getElem?_getD,List.getD_eq_getElem?_getD,List.getElem?_set]
 by_cases h:j=i
 ·subst h; rw [if_pos rfl,if_pos rfl,if_pos (by omega)]; rfl
 ·rw [if_neg (by omega),if_neg h]
theorem AJ {l:List Int} {y:Int} (h:y∈l):∃ i:Int,0≤i∧i < l.length∧gi l i=y:=by
 obtain ⟨k,hk⟩:=List.getElem?_of_mem h
 have hl:=(List.getElem?_eq_some_iff.1 hk).1
 refine ⟨k,by omega,by omega,?_⟩
 unfold gi
 rw [List.getD_eq_getElem?_getD,show ((k:Int)).toNat=k from rfl,hk]; rfl
section
end
end Go.Proofs.YtbmchcnkbonmkaaGreat
namespace Go.Proofs.YtbmchcnkbonmkaaGreat
open Go Go.Li
theorem j7 {l:List Int} {q:Int} {j:Int} (h0:0≤j):gi (l++[q]) j=if j < l.length then gi l j else if j=l.length then q else 0:=by
 obtain ⟨n,rfl⟩ : ∃ n:Nat,j=n:=⟨j.toNat,by omega⟩
 unfold gi
 rw [List.getD_eq_getElem?_getD,List.getD_eq_getElem?_getD,show ((n:Int)).toNat=n from rfl]
 by_cases h:n < l.length
 ·rw [List.getElem?_append_left h,if_pos (by omega)]
 ·rw [List.getElem?_append_right (by omega),if_neg (by omega)]
  by_cases e:n=l.length
  ·subst e; rw [if_pos rfl,Nat.sub_self]; rfl
  ·rw [if_neg (by omega),List.getElem?_eq_none (by simp; omega)]; rfl
theorem E8 {l:List (List Int)} {q:List Int} {j:Int} (h0:0≤j):gr (l++[q]) j=if j < l.length then gr l j else if j=l.length then q else []:=by
 obtain ⟨n,rfl⟩ : ∃ n:Nat,j=n:=⟨j.toNat,by omega⟩
 unfold gr
 rw [List.getD_eq_getElem?_getD,List.getD_eq_getElem?_getD,show ((n:Int)).toNat=n from rfl]
 by_cases h:n < l.length
 ·rw [List.getElem?_append_left h,if_pos (by omega)]
 ·rw [List.getElem?_append_right (by omega),if_neg (by omega)]
  by_cases e:n=l.length
  ·subst e; rw [if_pos rfl,Nat.sub_self]; rfl
  ·rw [if_neg (by omega),List.getElem?_eq_none (by simp; omega)]; rfl
theorem Nf {α:Type} {l:List (List α)} {q:List α} {i j:Int} (i0:0≤i) (i1:i < l.length) (j0:0≤j):gl (l.set i.toNat q) j=if j=i then q else gl l j:=by
 unfold gl
 rw [List.getD_eq_getElem?_getD,List.getD_eq_getElem?_getD,List.getElem?_set]
 by_cases h:j=i
 ·subst h; rw [if_pos rfl,if_pos rfl,if_pos (by omega)]; rfl
 ·rw [if_neg (by omega),if_neg h]
end Go.Proofs.YtbmchcnkbonmkaaGreat
namespace Go.Proofs.YtbmchcnkbonmkaaGreat
open Go Go.Li
theorem ZW (x y:List Int) (hx:x.length≤1048576000):qN x y=some (x == y):=X4 x y hx
theorem Jx {a b:List Int} {e:Int} (h0:0≤e) (h1:e < a.length):gi (thenS a b) e=gi b (gi a e):=qh h0 h1
section
end
theorem z8 {n:Int} (n0:0≤n) (n1:n≤1048576):kM n=some (ns n.toNat):=by
 unfold kM
 obtain ⟨k,rfl⟩ : ∃ k:Nat,n=k:=⟨n.toNat,by omega⟩
 rw [zF (by omega) (by omega),aD]
 have hl:(ns k).length=k:=bZ k
 refine (congrArg ak (jo (ns k) (fun i=>((i:Int),(ns k).take i++List.replicate (k - i) (0:Int))) (by simp) ?_ (e:=((k:Int),ns k)) ?_)).trans rfl
 ·intro i x hx
  have zL:=hx
  obtain ⟨rfl,hi⟩:=ij hx
  have hc:=RH (ns k) (0:Int) zL
  have hgc:=get_copy (ns k) (0:Int) zL
  rw [hl] at hc hgc
  show jS k (i:Int) _=_
  unfold jS
  rw [aq (by rw [List.length_replicate]; omega),cond_true,bx,hgc,aD,bH (by omega),Int.toNat_natCast,hc]
 ·rw [hl]
  show jS k _ _=_
  unfold jS
  rw [ba (by rw [List.length_replicate]; omega),cond_false,Nat.sub_self,List.take_of_length_le (by omega)]
  simp
theorem C5 {n:Nat} {e:Int} (h0:0≤e) (h1:e < n):gi (ns n) e=e:=by
 have h:=qh (g:=fun e=>e) h0 h1
 rwa [show db n (fun e:Int=>e)=ns n from List.map_id' _] at h
theorem O5 {a b:List (List Int)} (hl:a.length=b.length) (h:∀ x:Int,0≤x→x < b.length→gr a x=gr b x):a=b:=by
 refine List.ext_getElem hl fun i h1 h2=>?_
 have:=h i (by omega) (by omega)
 unfold gr at this
 rw [List.getD_eq_getElem?_getD,List.getD_eq_getElem?_getD,show ((i:Int)).toNat=i from rfl,List.getElem?_eq_getElem h1,List.getElem?_eq_getElem h2] at this
 exact this
theorem AE {a b:List Int} (hl:a.length=b.length) (h:∀ x:Int,0≤x→x < b.length→gi a x=gi b x):a=b:=by
 refine List.ext_getElem hl fun i h1 h2=>?_
 have:=h i (by omega) (by omega)
 unfold gi at this
 rw [List.getD_eq_getElem?_getD,List.getD_eq_getElem?_getD,show ((i:Int)).toNat=i from rfl,List.getElem?_eq_getElem h1,List.getElem?_eq_getElem h2] at this
 exact this
end Go.Proofs.YtbmchcnkbonmkaaGreat
