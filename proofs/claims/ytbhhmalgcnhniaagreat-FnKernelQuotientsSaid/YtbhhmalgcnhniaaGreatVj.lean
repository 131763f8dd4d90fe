/- Tables told by two numbers: loops in loops that fill a list, and what stands where. No condition beside those that each theorem names. -/
import Derived.Test.YtbhhmalgcnhniaaGreatPj
import Derived.Test.YtbhhmalgcnhniaaGreatPe
import Derived.Test.YtbhhmalgcnhniaaGreatVc
set_option linter.unusedVariables false
set_option linter.unusedSectionVars false
set_option linter.unusedSimpArgs false
namespace Go.Proofs.YtbhhmalgcnhniaaGreat
open Go Go.Li
set_option linter.unusedVariables false
set_option linter.unusedSectionVars false
set_option linter.unusedSimpArgs false
def mh {β:Type} (n m:Nat) (g:Int→Int→β):List β:=(dg n fun a=>dg m (g a)).flatten
theorem EG {β:Type} (m:Nat) (g:Int→Int→β):mh 0 m g=[]:=rfl
theorem uY {β:Type} (n m:Nat) (g:Int→Int→β):mh (n+1) m g=mh n m g++dg m (g n):=by
 unfold mh
 rw [qw,List.flatten_append]
 simp
theorem iy {β:Type} (n m:Nat) (g:Int→Int→β):(mh n m g).length=n * m:=by
 induction n with
 | zero=>simp [EG]
 | succ n ih=>rw [uY,List.length_append,ih,bA,Nat.succ_mul]
theorem Ho {β:Type} {n m:Nat} (g:Int→Int→β) {a b:Nat} (ha:a < n) (hb:b < m):(mh n m g)[a * m+b]? = some (g a b):=by
 induction n with
 | zero=>omega
 | succ n ih=>
  rw [uY]
  by_cases h:a < n
  ·have hl:a * m+b < (mh n m g).length:=by
    rw [iy]
    have:(a+1) * m≤n * m:=Nat.mul_le_mul_right m h
    rw [Nat.succ_mul] at this
    omega
   rw [List.getElem?_append_left hl]
   exact ih h
  ·obtain rfl:a=n:=by omega
   rw [List.getElem?_append_right (by rw [iy]; omega),iy,show a * m+b - a * m=b by omega]
   exact nn _ hb
theorem zm {β:Type} {n m:Nat} {g:Int→Int→β} {y:β}:y∈mh n m g↔∃ a b:Int,(0≤a∧a < n)∧(0≤b∧b < m)∧g a b=y:=by
 unfold mh
 rw [List.mem_flatten]
 constructor
 ·rintro ⟨l,hl,hy⟩
  obtain ⟨a,ha,rfl⟩:=p5.1 hl
  obtain ⟨b,hb,rfl⟩:=p5.1 hy
  exact ⟨a,b,ha,hb,rfl⟩
 ·rintro ⟨a,b,ha,hb,rfl⟩
  exact ⟨_,p5.2 ⟨a,ha,rfl⟩,p5.2 ⟨b,hb,rfl⟩⟩
theorem Wh {n m k:Nat} (h:k < n * m):∃ a b,a < n∧b < m∧k=a * m+b:=by
 have hm:0 < m:=by
  rcases Nat.eq_zero_or_pos m with rfl | hm
  ·simp at h
  ·exact hm
 exact ⟨k / m,k % m,Nat.div_lt_of_lt_mul (by rwa [Nat.mul_comm] at h),Nat.mod_lt _ hm,by rw [Nat.mul_comm]; exact (Nat.div_add_mod k m).symm⟩
section
variable {S S1 R β:Type} {body:S1→Option (Out S1 R)} {k:Nat} {f:S1→Option (Out S R)} {G7:S1}
theorem sC (n:Nat) (g:Int→β) (uj:List β) (pk:List β→Nat→S1) (e0:pk uj 0=G7)
  (step:∀ i acc,i < n→acc.length=uj.length+i→body (pk acc i)=some (.norm (pk (acc++[g i]) (i+1)))) (last:∀ acc,acc.length=uj.length+n→body (pk acc n)=some (.exit k (pk acc n))) :
  ae (ab k (aj body G7)) f=f (pk (uj++dg n g) n):=by
 refine (wD n g (fun acc i=>pk (uj++acc) i) (by rw [List.append_nil]; exact e0) (fun i acc hi ha=>?_) fun acc ha=>?_)
 ·rw [step i _ hi (by rw [List.length_append,ha]),List.append_assoc]
 ·exact last _ (by rw [List.length_append,ha])
theorem xi (n m:Nat) (g:Int→Int→β) (uj:List β) (pk:List β→Nat→S1) (e0:pk uj 0=G7)
  (step:∀ i acc,i < n→acc.length=uj.length+i * m→body (pk acc i)=some (.norm (pk (acc++dg m (g i)) (i+1)))) (last:∀ acc,acc.length=uj.length+n * m→body (pk acc n)=some (.exit k (pk acc n))) :
  ae (ab k (aj body G7)) f=f (pk (uj++mh n m g) n):=by
 rw [← e0]
 refine (congrArg (fun s=>ae (ab k (aj body s)) f) (show pk uj 0=pk (uj++mh 0 m g) 0 by rw [EG,List.append_nil])).trans ?_
 refine ql (ns n) (fun i=>pk (uj++mh i m g) i) rfl ?_ ?_
 ·intro i x hx
  obtain ⟨rfl,hi⟩:=jc hx
  rw [step i _ hi (by rw [List.length_append,iy]),uY,List.append_assoc]
 ·rw [bR]; exact last _ (by rw [List.length_append,iy])
end
theorem gp {n:Nat} {g:Int→Int} {i:Int} (h0:0≤i) (h1:i < n):gi (dg n g) i=g i:=by
 obtain ⟨k,rfl⟩ : ∃ k:Nat,i=k:=⟨i.toNat,by omega⟩
 have h:=nn g (i:=k) (n:=n) (by omega)
 unfold gi
 rw [List.getD_eq_getElem?_getD,show ((k:Int)).toNat=k from rfl,h]; rfl
theorem vB {n m:Nat} {g:Int→Int→Int} {a b:Int} (a0:0≤a) (a1:a < n) (b0:0≤b) (b1:b < m):gi (mh n m g) (a * m+b)=g a b:=by
 obtain ⟨i,rfl⟩ : ∃ k:Nat,a=k:=⟨a.toNat,by omega⟩
 obtain ⟨j,rfl⟩ : ∃ k:Nat,b=k:=⟨b.toNat,by omega⟩
 have h:=Ho g (a:=i) (b:=j) (n:=n) (m:=m) (by omega) (by omega)
 unfold gi
 rw [List.getD_eq_getElem?_getD,show ((i:Int) * (m:Int)+(j:Int)).toNat=i * m+j by
  rw [← Int.natCast_mul,← Int.natCast_add]; rfl,h]; rfl
end Go.Proofs.YtbhhmalgcnhniaaGreat
namespace Go.Proofs.YtbhhmalgcnhniaaGreat
open Go Go.Li
set_option linter.unusedVariables false
set_option linter.unusedSectionVars false
set_option linter.unusedSimpArgs false
theorem PF {β γ:Type} (n:Nat) (g:Int→β) (h:β→γ):(dg n g).map h=dg n fun i=>h (g i):=by
 induction n with
 | zero=>rfl
 | succ n ih=>rw [qw,qw,List.map_append,ih]; rfl
theorem wI {β γ:Type} (n m:Nat) (g:Int→Int→β) (h:β→γ):(mh n m g).map h=mh n m fun a b=>h (g a b):=by
 induction n with
 | zero=>rfl
 | succ n ih=>rw [uY,uY,List.map_append,ih,PF]
structure Ty (c:aC):Prop where
 o0:0≤c.aD
 f:∀ x∈c.aA,0≤x∧x < c.aD
 tl:c.To.length=c.aA.length
 t:∀ x∈c.To,0≤x∧x < c.aD
 kl:c.aB.length=c.aA.length
 kr:∀ r∈c.aB,r.length=c.aA.length
 il:(c.aF.length:Int)=c.aD
 i:∀ x∈c.aF,0≤x∧x < c.aA.length
 tM:∀ x:Int,0≤x→x < c.aD→gi c.aA (gi c.aF x)=x
 rH:∀ x:Int,0≤x→x < c.aD→gi c.To (gi c.aF x)=x
 cell:∀ f g:Int,0≤f→f < c.aA.length→0≤g→g < c.aA.length→gi c.To f=gi c.aA g→(0≤gk c.aB f g∧gk c.aB f g < c.aA.length)∧gi c.aA (gk c.aB f g)=gi c.aA f∧gi c.To (gk c.aB f g)=gi c.To g
 none:∀ f g:Int,0≤f→f < c.aA.length→0≤g→g < c.aA.length→gi c.To f≠gi c.aA g→gk c.aB f g = -1
 uu:∀ x:Int,0≤x→x < c.aD→gk c.aB (gi c.aF x) (gi c.aF x)=gi c.aF x
namespace Ty
variable {c:aC} (h:Ty c)
include h
theorem fr {f:Int} (h0:0≤f) (h1:f < c.aA.length):0≤gi c.aA f∧gi c.aA f < c.aD:=h.f _ (ib h0 h1)
theorem to {f:Int} (h0:0≤f) (h1:f < c.aA.length):0≤gi c.To f∧gi c.To f < c.aD:=h.t _ (ib h0 (by rw [h.tl]; exact h1))
theorem id {x:Int} (h0:0≤x) (h1:x < c.aD):0≤gi c.aF x∧gi c.aF x < c.aA.length:=h.i _ (ib h0 (by rw [h.il]; exact h1))
theorem iH {f:Int} (h0:0≤f) (h1:f < c.aA.length):idx c.aA f=some (gi c.aA f):=have _:=h; aZ h0 h1
theorem jd {f:Int} (h0:0≤f) (h1:f < c.aA.length):idx c.To f=some (gi c.To f):=aZ h0 (by rw [h.tl]; exact h1)
theorem p4 {x:Int} (h0:0≤x) (h1:x < c.aD):idx c.aF x=some (gi c.aF x):=aZ h0 (by rw [h.il]; exact h1)
theorem nm {f:Int} (h0:0≤f) (h1:f < c.aA.length):idx c.aB f=some (gr c.aB f):=jf h0 (by rw [h.kl]; exact h1)
theorem row {f:Int} (h0:0≤f) (h1:f < c.aA.length):(gr c.aB f).length=c.aA.length:=h.kr _ (ic h0 (by rw [h.kl]; exact h1))
theorem mg {f g:Int} (h0:0≤f) (h1:f < c.aA.length) (h2:0≤g) (h3:g < c.aA.length):idx (gr c.aB f) g=some (gk c.aB f g):=aZ h2 (by rw [h.row h0 h1]; exact h3)
theorem Bj {f g:Int} (h0:0≤f) (h1:f < c.aA.length) (h2:0≤g) (h3:g < c.aA.length) : -1≤gk c.aB f g∧gk c.aB f g < c.aA.length:=by
 by_cases e:gi c.To f=gi c.aA g
 ·have:=(h.cell f g h0 h1 h2 h3 e).1; omega
 ·rw [h.none f g h0 h1 h2 h3 e]; omega
end Ty
def np (c d:aC) (a b f g:Int):Int:=
 if 0≤gk c.aB a f∧0≤gk d.aB b g then gk c.aB a f * d.aA.length+gk d.aB b g else -1
def uy (c d:aC):aC:=
 ⟨c.aD * d.aD,mh c.aA.length d.aA.length fun a b=>gi c.aA a * d.aD+gi d.aA b,
  mh c.aA.length d.aA.length fun a b=>gi c.To a * d.aD+gi d.To b,
  mh c.aD.toNat d.aD.toNat fun x y=>gi c.aF x * d.aA.length+gi d.aF y,
  mh c.aA.length d.aA.length fun a b=>mh c.aA.length d.aA.length (np c d a b)⟩
theorem Hp {i n a b:Int} (i0:0≤i) (i1:i≤a) (n0:0≤n) (n1:n≤b):0≤i * n∧i * n≤a * b:=
 ⟨Int.mul_nonneg i0 n0,Int.mul_le_mul i1 n1 n0 (Int.le_trans i0 i1)⟩
theorem HT {c d:aC} (C:Ty c) (D:Ty d) (co:c.aD≤10000) (cm:c.aA.length≤10000) (dO:d.aD≤10000) (dm:d.aA.length≤10000):dC c d=some (uy c d):=by
 have c0:=C.o0
 have d0:=D.o0
 obtain ⟨no,qW⟩ : ∃ n:Nat,c.aD=n:=⟨c.aD.toNat,by omega⟩
 obtain ⟨nd,dw⟩ : ∃ n:Nat,d.aD=n:=⟨d.aD.toNat,by omega⟩
 have QR:∀ {x y n:Int} {m:Nat},0≤x→x < n→n≤10000→0≤y→y < m→m≤10000→ak (ak (x * (m:Int))+y)=x * m+y:=by
  intro x y n m x0 x1 x2 y0 y1 y2
  have:=Hp (n:=(m:Int)) (b:=10000) x0 (Int.le_of_lt x1) (by omega) (by omega)
  have h2:n * 10000≤10000 * 10000:=Int.mul_le_mul_of_nonneg_right x2 (by omega)
  rw [bT (a:=x * (m:Int)) (by omega) (by omega),bT (by omega) (by omega)]
 unfold dC
 refine (congrArg aq (xi (β:=Int) no nd (fun x y=>gi c.aF x * d.aA.length+gi d.aF y) [] (fun acc i=>((i:Int),acc)) rfl ?_ ?_)).trans ?_
 ·intro i acc hi ha
  show cS c d i acc=_
  unfold cS
  rw [bm (by omega:(i:Int) < c.aD),cond_true]
  refine (sC (β:=Int) nd (fun y=>gi c.aF i * d.aA.length+gi d.aF y) acc (fun acc j=>((j:Int),acc)) rfl ?_ ?_).trans ?_
  ·intro j sD hj VI
   show cR c d i j sD=_
   unfold cR
   have hl:sD.length≤100010000:=by
    have:i * nd≤10000 * 10000:=Nat.mul_le_mul (by omega) (by omega)
    simp only [List.length_nil] at ha
    omega
   have e1:=C.id (x:=(i:Int)) (by omega) (by omega)
   have e2:=D.id (x:=(j:Int)) (by omega) (by omega)
   rw [bm (by omega:(j:Int) < d.aD),cond_true,C.p4 (by omega) (by omega),aE,D.p4 (by omega) (by omega),aE,cD (by omega) (by omega),aE,bI (by omega),QR e1.1 e1.2 (by omega) e2.1 e2.2 (by omega)]
  ·intro sD _
   show cR c d i _ sD=_
   unfold cR
   rw [br (by omega),cond_false]
  ·dsimp only
   rw [bI (by omega)]
 ·intro acc _
  show cS c d _ acc=_
  unfold cS
  rw [br (by omega),cond_false]
 ·dsimp only
  refine (congrArg aq (xi (β:=Int×Int×List Int) c.aA.length d.aA.length (fun a b=>(gi c.aA a * d.aD+gi d.aA b,gi c.To a * d.aD+gi d.To b,mh c.aA.length d.aA.length (np c d a b))) [] (fun acc i=>((i:Int),acc.map (·.1),acc.map (·.2.1),acc.map (·.2.2))) rfl ?_ ?_)).trans ?_
  ·intro i acc hi ha
   show cW c d i (acc.map (·.1)) (acc.map (·.2.1)) (acc.map (·.2.2))=_
   unfold cW
   rw [bm (by omega:(i:Int) < (c.aA.length:Int)),cond_true]
   refine (sC (β:=Int×Int×List Int) d.aA.length (fun b=>(gi c.aA i * d.aD+gi d.aA b,gi c.To i * d.aD+gi d.To b,mh c.aA.length d.aA.length (np c d i b))) acc (fun acc j=>((j:Int),acc.map (·.1),acc.map (·.2.1),acc.map (·.2.2))) rfl ?_ ?_).trans ?_
   ·intro j sD hj VI
    show cV c d i j (sD.map (·.1)) (sD.map (·.2.1)) (sD.map (·.2.2))=_
    unfold cV
    have i0:(0:Int)≤i:=by omega
    have i1:(i:Int) < (c.aA.length:Int):=by omega
    have j0:(0:Int)≤j:=by omega
    have j1:(j:Int) < (d.aA.length:Int):=by omega
    have hl:sD.length≤100010000:=by
     have:i * d.aA.length≤10000 * 10000:=Nat.mul_le_mul (by omega) dm
     simp only [List.length_nil] at ha
     omega
    have f1:=C.fr i0 i1
    have f2:=D.fr j0 j1
    have t1:=C.to i0 i1
    have t2:=D.to j0 j1
    rw [bm (by omega:(j:Int) < (d.aA.length:Int)),cond_true,C.iH i0 i1,aE,D.iH j0 j1,aE,cD (by rw [List.length_map]; omega) (by rw [List.length_map]; omega),aE,C.jd i0 i1,aE,D.jd j0 j1,aE,cD (by rw [List.length_map]; omega) (by rw [List.length_map]; omega),aE]
    refine (xi (β:=Int) c.aA.length d.aA.length (np c d i j) [] (fun acc p=>(acc,(p:Int))) rfl ?_ ?_).trans ?_
    ·intro p row hp hr
     show cU c d i j row p=_
     unfold cU
     have p0:(0:Int)≤p:=by omega
     have p1:(p:Int) < (c.aA.length:Int):=by omega
     rw [bm (by omega:(p:Int) < (c.aA.length:Int)),cond_true]
     refine (sC (β:=Int) d.aA.length (fun q=>np c d i j p q) row (fun acc q=>(acc,(q:Int))) rfl ?_ ?_).trans ?_
     ·intro q KE hq fw
      show cT c d i j p KE q=_
      unfold cT
      have q0:(0:Int)≤q:=by omega
      have q1:(q:Int) < (d.aA.length:Int):=by omega
      have xB:KE.length≤100010000:=by
       have:p * d.aA.length≤10000 * 10000:=Nat.mul_le_mul (by omega) dm
       simp only [List.length_nil] at hr
       omega
      have k1:=C.Bj i0 i1 p0 p1
      have k2:=D.Bj j0 j1 q0 q1
      rw [bm (by omega:(q:Int) < (d.aA.length:Int)),cond_true,C.nm i0 i1,aE,C.mg i0 i1 p0 p1,aE]
      by_cases e1:0≤gk c.aB i p
      ·rw [bm (show gk c.aB i p ≥ 0 from e1),cond_true,D.nm j0 j1,aE,D.mg j0 j1 q0 q1,aE,aE]
       by_cases e2:0≤gk d.aB j q
       ·rw [bm (show gk d.aB j q ≥ 0 from e2),cond_true,aE,C.mg i0 i1 p0 p1,aE,aE,D.mg j0 j1 q0 q1,aE,cD (by omega) (by omega),aE,bI (by omega),QR e1 k1.2 (by omega) e2 k2.2 (by omega)]
        unfold np
        rw [if_pos ⟨e1,e2⟩]
       ·rw [br (show ¬ gk d.aB j q ≥ 0 from e2),cond_false,cD (by omega) (by omega),aE,bI (by omega)]
        unfold np
        rw [if_neg (fun h=>e2 h.2)]
      ·rw [br (show ¬ gk c.aB i p ≥ 0 from e1),cond_false,aE,cond_false,cD (by omega) (by omega),aE,bI (by omega)]
       unfold np
       rw [if_neg (fun h=>e1 h.1)]
     ·intro KE _
      show cT c d i j p KE _=_
      unfold cT
      rw [br (by omega),cond_false]
     ·dsimp only
      rw [bI (by omega)]
    ·intro row _
     show cU c d i j row _=_
     unfold cU
     rw [br (by omega),cond_false]
    ·dsimp only
     rw [cD (by rw [List.length_map]; omega) (by rw [List.length_map]; omega),aE,bI (by omega),dw,QR f1.1 f1.2 co f2.1 (by omega) (by omega),QR t1.1 t1.2 co t2.1 (by omega) (by omega)]
     simp only [List.map_append,List.map_cons,List.map_nil,List.nil_append]
   ·intro sD _
    show cV c d i _ (sD.map (·.1)) (sD.map (·.2.1)) (sD.map (·.2.2))=_
    unfold cV
    rw [br (by omega),cond_false]
   ·dsimp only
    rw [bI (by omega)]
  ·intro acc _
   show cW c d _ (acc.map (·.1)) (acc.map (·.2.1)) (acc.map (·.2.2))=_
   unfold cW
   rw [br (by omega),cond_false]
  ·have:=Hp (a:=10000) (b:=10000) c0 co d0 dO
   show some _=_
   rw [List.nil_append,List.nil_append,wI,wI,wI,bT (by omega) (by omega)]
   unfold uy
   rw [qW,dw]
   rfl
end Go.Proofs.YtbhhmalgcnhniaaGreat
namespace Go.Proofs.YtbhhmalgcnhniaaGreat
open Go Go.Li
set_option linter.unusedVariables false
set_option linter.unusedSectionVars false
set_option linter.unusedSimpArgs false
def tN (l:List Int) (n y:Int):Prop:=(y = -1∧∀ k:Nat,l[k]?≠some n)∨∃ k:Nat,y=k∧l[k]? = some n∧∀ j:Nat,j < k→l[j]?≠some n
theorem tN.tJ {l:List Int} {n y z:Int} (h:tN l n y) (k:tN l n z):y=z:=by
 rcases h with ⟨rfl,h⟩ | ⟨a,rfl,h1,h2⟩
 ·rcases k with ⟨rfl,_⟩ | ⟨b,rfl,k1,_⟩
  ·rfl
  ·exact absurd k1 (h b)
 ·rcases k with ⟨rfl,k⟩ | ⟨b,rfl,k1,k2⟩
  ·exact absurd h1 (k a)
  ·rcases Nat.lt_trichotomy a b with mi | rfl | mi
   ·exact absurd h1 (k2 a mi)
   ·rfl
   ·exact absurd k1 (h2 b mi)
theorem tN.pos {l:List Int} {n y:Int} (h:tN l n y) (hy:0≤y):y < l.length∧l[y.toNat]? = some n:=by
 rcases h with ⟨rfl,_⟩ | ⟨k,rfl,h1,_⟩
 ·omega
 ·exact ⟨by have:=(List.getElem?_eq_some_iff.1 h1).1; omega,h1⟩
theorem tN.MW {l:List Int} {n y:Int} (h:tN l n y) (hm:n∈l):0≤y:=by
 rcases h with ⟨_,h⟩ | ⟨k,rfl,_⟩
 ·obtain ⟨k,hk⟩:=List.getElem?_of_mem hm
  exact absurd hk (h k)
 ·omega
theorem tN.app {l:List Int} {n y m:Int} (h:tN l n y) (hy:0≤y):tN (l++[m]) n y:=by
 rcases h with ⟨rfl,_⟩ | ⟨k,rfl,h1,h2⟩
 ·omega
 ·have hk:=(List.getElem?_eq_some_iff.1 h1).1
  exact .inr ⟨k,rfl,by rw [List.getElem?_append_left hk]; exact h1,fun j hj=>by rw [List.getElem?_append_left (by omega)]; exact h2 j hj⟩
theorem tN.new {l:List Int} {n y:Int} (h:tN l n y) (hy:y < 0):tN (l++[n]) n (l.length:Int):=by
 rcases h with ⟨_,h⟩ | ⟨k,rfl,_⟩
 ·refine .inr ⟨l.length,rfl,by simp,fun j hj=>?_⟩
  rw [List.getElem?_append_left hj]
  exact h j
 ·omega
theorem Cf {l:List Int} {n:Int} (hl:l.length≤1048576):Ok (iG l n) (tN l n):=by
 unfold iG
 refine ew (ol (fun s:Int=>(0≤s∧s≤l.length)∧∀ k:Nat,(k:Int) < s→l[k]?≠some n) (fun s=>(l.length - s).toNat) ⟨⟨Int.le_refl _,by omega⟩,fun k hk=>by omega⟩ ?_)
 rintro s ⟨⟨s0,s1⟩,hs⟩
 unfold oB
 refine od (fun h=>?_) fun h=>os ⟨rfl,os (.inl ⟨rfl,fun k hk=>?_⟩)⟩
 ·obtain ⟨i,rfl⟩ : ∃ i:Nat,s=i:=⟨s.toNat,by omega⟩
  refine oe (aZ s0 h) ?_
  have hg:l[i]? = some (gi l i):=by
   have:=aZ s0 h
   rwa [fj] at this
  refine oc (fun e=>os ?_) fun e=>os ⟨⟨⟨?_,?_⟩,fun k hk=>?_⟩,?_⟩
  ·exact .inr ⟨i,rfl,by rw [hg,of_decide_eq_true e],fun j hj=>hs j (by omega)⟩
  ·rw [w1 s0 h (by omega)]; omega
  ·rw [w1 s0 h (by omega)]; omega
  ·rw [w1 s0 h (by omega)] at hk
   rcases (by omega:k < i∨k=i) with h3 | rfl
   ·exact hs k (by omega)
   ·rw [hg]
    intro h4
    have:gi l k=n:=Option.some.inj h4
    rw [this] at e
    simp at e
  ·dsimp only; rw [w1 s0 h (by omega)]; omega
 ·have:=(List.getElem?_eq_some_iff.1 hk).1
  exact hs k (by omega) hk
def Rg (q:List Int):Prop:=∀ y∈q,∀ z:Int,0≤z→z≤y→z∈q
def tG (a b x:Int):Int:=if x=b then a else x
theorem KF (a x:Int):tG a a x=x:=by unfold tG; split <;> simp_all
theorem Kr {S R:Type} {k:Nat} {f:Int×List Int→Option (Out S R)} {Q:Out S R→Prop} {nb:List Int} {a b:Int} (hl:nb.length≤1048576) {body:Int×List Int→Option (Out (Int×List Int) R)}
  (hb:∀ i o,body (i,o)=(((bif decide (i < (o.length:Int)) then (some (a != b)) else (some false)))>>=fun U2=>(bif U2 then ((idx o i)>>=fun GV=>(bif GV == b then ((idx o i)>>=fun _=>(some (Out.norm (ak (i+(1:Int)),o.set i.toNat a)))) else (some (Out.norm (ak (i+(1:Int)),o))))) else (some (Out.exit k (i,o))))))
  (h:∀ i,Ok (f (i,nb.map (tG a b))) Q):Ok (ae (ab k (aj body ((0:Int),nb))) f) Q:=by
 refine ol (fun z:Int×List Int=>(0≤z.1∧z.1≤nb.length)∧z.2.length=nb.length∧∀ m:Nat,z.2[m]? = if (m:Int) < z.1 then (nb[m]?).map (tG a b) else nb[m]?) (fun z=>(nb.length - z.1).toNat) ⟨⟨by show (0:Int)≤0; omega,by show (0:Int)≤_; omega⟩,rfl,fun m=>by rw [if_neg (by show ¬ (m:Int) < 0; omega)]⟩ ?_
 rintro ⟨i,o⟩ ⟨⟨i0,i1⟩,ho,hm⟩
 dsimp only at i0 i1 ho hm
 rw [hb]
 have fin:(¬ (i < (o.length:Int)∧a≠b))→o=nb.map (tG a b):=by
  intro hn
  refine List.ext_getElem? fun m=>?_
  rw [hm m,List.getElem?_map]
  by_cases mi:a=b
  ·subst mi
   have e:(tG a a)=id:=funext fun x=>KF a x
   rw [e]
   cases nb[m]? <;> simp
  ·have : ¬ i < (o.length:Int):=fun h=>hn ⟨h,mi⟩
   by_cases EH:(m:Int) < i
   ·rw [if_pos EH]
   ·rw [if_neg EH,List.getElem?_eq_none (by omega)]; rfl
 refine ob (P:=fun g=>g=true↔(i < (o.length:Int)∧a≠b)) (od (fun h1=>os ?_) fun h1=>os ?_) fun g hg=>oc (fun e=>?_) fun e=>os ⟨rfl,?_⟩
 ·by_cases mi:a=b <;> simp [mi,h1]
 ·simp [h1]
 ·obtain ⟨h1,mi⟩:=hg.1 e
  obtain ⟨n,rfl⟩ : ∃ n:Nat,i=n:=⟨i.toNat,by omega⟩
  have VB:o[n]? = some (gi o n):=by
   have:=aZ i0 h1
   rwa [fj] at this
  have E7:nb[n]? = some (gi o n):=by rw [← VB,hm n,if_neg (by omega)]
  have hw:=w1 i0 h1 (by omega)
  refine oe (aZ i0 h1) (oc (fun eb=>oe (aZ i0 h1) (os ⟨⟨⟨?_,?_⟩,?_,fun m=>?_⟩,?_⟩)) fun eb=>os ⟨⟨⟨?_,?_⟩,?_,fun m=>?_⟩,?_⟩)
  all_goals dsimp only
  all_goals first | (rw [hw]; omega) | (rw [List.length_set]; exact ho) | exact ho | skip
  ·rw [hw,show ((n:Int)).toNat=n from rfl,List.getElem?_set]
   by_cases IU:n=m
   ·subst IU
    rw [if_pos rfl,if_pos (by omega),if_pos (by omega),E7]
    have:gi o n=b:=of_decide_eq_true eb
    simp [tG,this]
   ·rw [if_neg IU,hm m]
    by_cases EH:(m:Int) < n
    ·rw [if_pos EH,if_pos (by omega)]
    ·rw [if_neg EH,if_neg (by omega)]
  ·rw [hw,hm m]
   by_cases IU:m=n
   ·subst IU
    rw [if_neg (by omega),if_pos (by omega),E7]
    have : ¬ gi o m=b:=fun h=>by rw [h] at eb; simp at eb
    simp [tG,this]
   ·by_cases EH:(m:Int) < n
    ·rw [if_pos EH,if_pos (by omega)]
    ·rw [if_neg EH,if_neg (by omega)]
 ·rw [fin fun h=>by rw [hg.2 h] at e; cases e]
  exact h i
def Prs (n:Int) (ps:List (List Int)):Prop:=∀ r∈ps,∃ a b t,r=a :: b :: t∧(0≤a∧a < n)∧(0≤b∧b < n)
end Go.Proofs.YtbhhmalgcnhniaaGreat
namespace Go.Proofs.YtbhhmalgcnhniaaGreat
open Go Go.Li
set_option linter.unusedVariables false
set_option linter.unusedSectionVars false
set_option linter.unusedSimpArgs false
theorem Wi {cl:List (List Int)} {y:Nat} {q:List Int} (x:Nat):gr (cl.set y q) x=if y=x∧y < cl.length then q else gr cl x:=by
 unfold gr
 rw [List.getD_eq_getElem?_getD,List.getD_eq_getElem?_getD,show ((x:Int)).toNat=x from rfl,List.getElem?_set]
 by_cases h:y=x
 ·subst h
  by_cases h2:y < cl.length
  ·simp [h2]
  ·simp [h2]
 ·simp [h]
theorem jo {l:List Int} {q:Int} {i j:Int} (i0:0≤i) (i1:i < l.length) (j0:0≤j):gi (l.set i.toNat q) j=if j=i then q else gi l j:=by
 unfold gi
 rw [List.getD_eq_getElem?_getD,List.getD_eq_getElem?_getD,List.getElem?_set]
 by_cases h:j=i
 ·subst h; rw [if_pos rfl,if_pos rfl,if_pos (by omega)]; rfl
 ·rw [if_neg (by omega),if_neg h]
theorem rL {l:List Int} {y:Int} (h:y∈l):∃ i:Int,0≤i∧i < l.length∧gi l i=y:=by
 obtain ⟨k,hk⟩:=List.getElem?_of_mem h
 have hl:=(List.getElem?_eq_some_iff.1 hk).1
 refine ⟨k,by omega,by omega,?_⟩
 unfold gi
 rw [List.getD_eq_getElem?_getD,show ((k:Int)).toNat=k from rfl,hk]; rfl
section
end
end Go.Proofs.YtbhhmalgcnhniaaGreat
namespace Go.Proofs.YtbhhmalgcnhniaaGreat
open Go Go.Li
set_option linter.unusedVariables false
set_option linter.unusedSectionVars false
set_option linter.unusedSimpArgs false
theorem nt {l:List Int} {q:Int} {j:Int} (h0:0≤j):gi (l++[q]) j=if j < l.length then gi l j else if j=l.length then q else 0:=by
 obtain ⟨n,rfl⟩ : ∃ n:Nat,j=n:=⟨j.toNat,by omega⟩
 unfold gi
 rw [List.getD_eq_getElem?_getD,List.getD_eq_getElem?_getD,show ((n:Int)).toNat=n from rfl]
 by_cases h:n < l.length
 ·rw [List.getElem?_append_left h,if_pos (by omega)]
 ·rw [List.getElem?_append_right (by omega),if_neg (by omega)]
  by_cases e:n=l.length
  ·subst e; rw [if_pos rfl,Nat.sub_self]; rfl
  ·rw [if_neg (by omega),List.getElem?_eq_none (by simp; omega)]; rfl
theorem Ds {l:List (List Int)} {q:List Int} {j:Int} (h0:0≤j):gr (l++[q]) j=if j < l.length then gr l j else if j=l.length then q else []:=by
 obtain ⟨n,rfl⟩ : ∃ n:Nat,j=n:=⟨j.toNat,by omega⟩
 unfold gr
 rw [List.getD_eq_getElem?_getD,List.getD_eq_getElem?_getD,show ((n:Int)).toNat=n from rfl]
 by_cases h:n < l.length
 ·rw [List.getElem?_append_left h,if_pos (by omega)]
 ·rw [List.getElem?_append_right (by omega),if_neg (by omega)]
  by_cases e:n=l.length
  ·subst e; rw [if_pos rfl,Nat.sub_self]; rfl
  ·rw [if_neg (by omega),List.getElem?_eq_none (by simp; omega)]; rfl
theorem KU {α:Type} {l:List (List α)} {q:List α} {i j:Int} (i0:0≤i) (i1:i < l.length) (j0:0≤j):gl (l.set i.toNat q) j=if j=i then q else gl l j:=by
 unfold gl
 rw [List.getD_eq_getElem?_getD,List.getD_eq_getElem?_getD,List.getElem?_set]
 by_cases h:j=i
 ·subst h; rw [if_pos rfl,if_pos rfl,if_pos (by omega)]; rfl
 ·rw [if_neg (by omega),if_neg h]
end Go.Proofs.YtbhhmalgcnhniaaGreat
namespace Go.Proofs.YtbhhmalgcnhniaaGreat
open Go Go.Li
set_option linter.unusedVariables false
set_option linter.unusedSectionVars false
set_option linter.unusedSimpArgs false
theorem rb (x y:List Int) (hx:x.length≤1048576000):bY x y=some (x == y):=My x y hx
theorem zf {a b:List Int} {e:Int} (h0:0≤e) (h1:e < a.length):gi (thenS a b) e=gi b (gi a e):=gp h0 h1
section
end
theorem BO {n:Int} (n0:0≤n) (n1:n≤1048576):kQ n=some (ns n.toNat):=by
 unfold kQ
 obtain ⟨k,rfl⟩ : ∃ k:Nat,n=k:=⟨n.toNat,by omega⟩
 rw [ur (by omega) (by omega),aE]
 have hl:(ns k).length=k:=bR k
 refine (congrArg aq (ql (ns k) (fun i=>((i:Int),(ns k).take i++List.replicate (k - i) (0:Int))) (by simp) ?_ (e:=((k:Int),ns k)) ?_)).trans rfl
 ·intro i x hx
  have xh:=hx
  obtain ⟨rfl,hi⟩:=jc hx
  have hc:=yW (ns k) (0:Int) xh
  have MR:=get_copy (ns k) (0:Int) xh
  rw [hl] at hc MR
  show iK k (i:Int) _=_
  unfold iK
  rw [bm (by rw [List.length_replicate]; omega),cond_true,fj,MR,aE,bI (by omega),Int.toNat_natCast,hc]
 ·rw [hl]
  show iK k _ _=_
  unfold iK
  rw [br (by rw [List.length_replicate]; omega),cond_false,Nat.sub_self,List.take_of_length_le (by omega)]
  simp
theorem qf {n:Nat} {e:Int} (h0:0≤e) (h1:e < n):gi (ns n) e=e:=by
 have h:=gp (g:=fun e=>e) h0 h1
 rwa [show dg n (fun e:Int=>e)=ns n from List.map_id' _] at h
theorem VU {a b:List (List Int)} (hl:a.length=b.length) (h:∀ x:Int,0≤x→x < b.length→gr a x=gr b x):a=b:=by
 refine List.ext_getElem hl fun i h1 h2=>?_
 have:=h i (by omega) (by omega)
 unfold gr at this
 rw [List.getD_eq_getElem?_getD,List.getD_eq_getElem?_getD,show ((i:Int)).toNat=i from rfl,List.getElem?_eq_getElem h1,List.getElem?_eq_getElem h2] at this
 exact this
theorem sc {a b:List Int} (hl:a.length=b.length) (h:∀ x:Int,0≤x→x < b.length→gi a x=gi b x):a=b:=by
 refine List.ext_getElem hl fun i h1 h2=>?_
 have:=h i (by omega) (by omega)
 unfold gi at this
 rw [List.getD_eq_getElem?_getD,List.getD_eq_getElem?_getD,show ((i:Int)).toNat=i from rfl,List.getElem?_eq_getElem h1,List.getElem?_eq_getElem h2] at this
 exact this
end Go.Proofs.YtbhhmalgcnhniaaGreat
