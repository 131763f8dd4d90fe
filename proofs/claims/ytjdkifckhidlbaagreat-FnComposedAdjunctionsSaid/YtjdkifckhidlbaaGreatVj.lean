/- Tables told by two numbers: loops in loops that fill a list, and what stands where. No condition beside those that each theorem names. -/
import Derived.Test.YtjdkifckhidlbaaGreatPj
import Derived.Test.YtjdkifckhidlbaaGreatPe
import Derived.Test.YtjdkifckhidlbaaGreatVc
namespace Go.Proofs.YtjdkifckhidlbaaGreat
open Go Go.Li
def n5 {β:Type} (n m:Nat) (g:Int→Int→β):List β:=(cn n fun a=>cn m (g a)).flatten
theorem GQ {β:Type} (m:Nat) (g:Int→Int→β):n5 0 m g=[]:=rfl
theorem w5 {β:Type} (n m:Nat) (g:Int→Int→β):n5 (n+1) m g=n5 n m g++cn m (g n):=by
 unfold n5
 rw [mq,List.flatten_append]
 simp
theorem iy {β:Type} (n m:Nat) (g:Int→Int→β):(n5 n m g).length=n * m:=by
 induction n with
 | zero=>simp [GQ]
 | succ n ih=>rw [w5,List.length_append,ih,cL,Nat.succ_mul]
theorem Jq {β:Type} {n m:Nat} (g:Int→Int→β) {a b:Nat} (ha:a < n) (hb:b < m):(n5 n m g)[a * m+b]? = some (g a b):=by
 induction n with
 | zero=>omega
 | succ n ih=>
  rw [w5]
  by_cases h:a < n
  ·have hl:a * m+b < (n5 n m g).length:=by
    rw [iy]
    have:(a+1) * m≤n * m:=Nat.mul_le_mul_right m h
    rw [Nat.succ_mul] at this
    omega
   rw [List.getElem?_append_left hl]
   exact ih h
  ·obtain rfl:a=n:=by omega
   rw [List.getElem?_append_right (by rw [iy]; omega),iy,show a * m+b - a * m=b by omega]
   exact su _ hb
theorem Bi {β:Type} {n m:Nat} {g:Int→Int→β} {y:β}:y∈n5 n m g↔∃ a b:Int,(0≤a∧a < n)∧(0≤b∧b < m)∧g a b=y:=by
 unfold n5
 rw [List.mem_flatten]
 constructor
 ·rintro ⟨l,hl,hy⟩
  obtain ⟨a,ha,rfl⟩:=pw.1 hl
  obtain ⟨b,hb,rfl⟩:=pw.1 hy
  exact ⟨a,b,ha,hb,rfl⟩
 ·rintro ⟨a,b,ha,hb,rfl⟩
  exact ⟨_,pw.2 ⟨a,ha,rfl⟩,pw.2 ⟨b,hb,rfl⟩⟩
theorem X9 {n m k:Nat} (h:k < n * m):∃ a b,a < n∧b < m∧k=a * m+b:=by
 have hm:0 < m:=by
  rcases Nat.eq_zero_or_pos m with rfl | hm
  ·simp at h
  ·exact hm
 exact ⟨k / m,k % m,Nat.div_lt_of_lt_mul (by rwa [Nat.mul_comm] at h),Nat.mod_lt _ hm,by rw [Nat.mul_comm]; exact (Nat.div_add_mod k m).symm⟩
section
variable {S S1 R β:Type} {body:S1→Option (Out S1 R)} {k:Nat} {f:S1→Option (Out S R)} {I6:S1}
theorem uT (n:Nat) (g:Int→β) (wD:List β) (pk:List β→Nat→S1) (e0:pk wD 0=I6)
  (step:∀ i acc,i < n→acc.length=wD.length+i→body (pk acc i)=some (.norm (pk (acc++[g i]) (i+1)))) (last:∀ acc,acc.length=wD.length+n→body (pk acc n)=some (.exit k (pk acc n))) :
  ai (af k (aj body I6)) f=f (pk (wD++cn n g) n):=by
 refine (wA n g (fun acc i=>pk (wD++acc) i) (by rw [List.append_nil]; exact e0) (fun i acc hi ha=>?_) fun acc ha=>?_)
 ·rw [step i _ hi (by rw [List.length_append,ha]),List.append_assoc]
 ·exact last _ (by rw [List.length_append,ha])
theorem zp (n m:Nat) (g:Int→Int→β) (wD:List β) (pk:List β→Nat→S1) (e0:pk wD 0=I6)
  (step:∀ i acc,i < n→acc.length=wD.length+i * m→body (pk acc i)=some (.norm (pk (acc++cn m (g i)) (i+1)))) (last:∀ acc,acc.length=wD.length+n * m→body (pk acc n)=some (.exit k (pk acc n))) :
  ai (af k (aj body I6)) f=f (pk (wD++n5 n m g) n):=by
 rw [← e0]
 refine (congrArg (fun s=>ai (af k (aj body s)) f) (show pk wD 0=pk (wD++n5 0 m g) 0 by rw [GQ,List.append_nil])).trans ?_
 refine uo (ns n) (fun i=>pk (wD++n5 i m g) i) rfl ?_ ?_
 ·intro i x hx
  obtain ⟨rfl,hi⟩:=iu hx
  rw [step i _ hi (by rw [List.length_append,iy]),w5,List.append_assoc]
 ·rw [dC]; exact last _ (by rw [List.length_append,iy])
end
theorem qo {n:Nat} {g:Int→Int} {i:Int} (h0:0≤i) (h1:i < n):gi (cn n g) i=g i:=by
 obtain ⟨k,rfl⟩ : ∃ k:Nat,i=k:=⟨i.toNat,by omega⟩
 have h:=su g (i:=k) (n:=n) (by omega)
 unfold gi
 rw [List.getD_eq_getElem?_getD,show ((k:Int)).toNat=k from rfl,h]; rfl
theorem xJ {n m:Nat} {g:Int→Int→Int} {a b:Int} (a0:0≤a) (a1:a < n) (b0:0≤b) (b1:b < m):gi (n5 n m g) (a * m+b)=g a b:=by
 obtain ⟨i,rfl⟩ : ∃ k:Nat,a=k:=⟨a.toNat,by omega⟩
 obtain ⟨j,rfl⟩ : ∃ k:Nat,b=k:=⟨b.toNat,by omega⟩
 have h:=Jq g (a:=i) (b:=j) (n:=n) (m:=m) (by omega) (by omega)
 unfold gi
 rw [List.getD_eq_getElem?_getD,show ((i:Int) * (m:Int)+(j:Int)).toNat=i * m+j by
  rw [← Int.natCast_mul,← Int.natCast_add]; rfl,h]; rfl
end Go.Proofs.YtjdkifckhidlbaaGreat
namespace Go.Proofs.YtjdkifckhidlbaaGreat
open Go Go.Li
theorem RC {β γ:Type} (n:Nat) (g:Int→β) (h:β→γ):(cn n g).map h=cn n fun i=>h (g i):=by
 induction n with
 | zero=>rfl
 | succ n ih=>rw [mq,mq,List.map_append,ih]; rfl
theorem yI {β γ:Type} (n m:Nat) (g:Int→Int→β) (h:β→γ):(n5 n m g).map h=n5 n m fun a b=>h (g a b):=by
 induction n with
 | zero=>rfl
 | succ n ih=>rw [w5,w5,List.map_append,ih,RC]
structure Ty (c:aI):Prop where
 o0:0≤c.aA
 f:∀ x∈c.aH,0≤x∧x < c.aA
 tl:c.To.length=c.aH.length
 t:∀ x∈c.To,0≤x∧x < c.aA
 kl:c.aE.length=c.aH.length
 kr:∀ r∈c.aE,r.length=c.aH.length
 il:(c.aJ.length:Int)=c.aA
 i:∀ x∈c.aJ,0≤x∧x < c.aH.length
 vf:∀ x:Int,0≤x→x < c.aA→gi c.aH (gi c.aJ x)=x
 vZ:∀ x:Int,0≤x→x < c.aA→gi c.To (gi c.aJ x)=x
 cell:∀ f g:Int,0≤f→f < c.aH.length→0≤g→g < c.aH.length→gi c.To f=gi c.aH g→(0≤gk c.aE f g∧gk c.aE f g < c.aH.length)∧gi c.aH (gk c.aE f g)=gi c.aH f∧gi c.To (gk c.aE f g)=gi c.To g
 none:∀ f g:Int,0≤f→f < c.aH.length→0≤g→g < c.aH.length→gi c.To f≠gi c.aH g→gk c.aE f g = -1
 uu:∀ x:Int,0≤x→x < c.aA→gk c.aE (gi c.aJ x) (gi c.aJ x)=gi c.aJ x
namespace Ty
variable {c:aI} (h:Ty c)
include h
theorem fr {f:Int} (h0:0≤f) (h1:f < c.aH.length):0≤gi c.aH f∧gi c.aH f < c.aA:=h.f _ (fj h0 h1)
theorem to {f:Int} (h0:0≤f) (h1:f < c.aH.length):0≤gi c.To f∧gi c.To f < c.aA:=h.t _ (fj h0 (by rw [h.tl]; exact h1))
theorem id {x:Int} (h0:0≤x) (h1:x < c.aA):0≤gi c.aJ x∧gi c.aJ x < c.aH.length:=h.i _ (fj h0 (by rw [h.il]; exact h1))
theorem lg {f:Int} (h0:0≤f) (h1:f < c.aH.length):idx c.aH f=some (gi c.aH f):=have _:=h; cH h0 h1
theorem ma {f:Int} (h0:0≤f) (h1:f < c.aH.length):idx c.To f=some (gi c.To f):=cH h0 (by rw [h.tl]; exact h1)
theorem oK {x:Int} (h0:0≤x) (h1:x < c.aA):idx c.aJ x=some (gi c.aJ x):=cH h0 (by rw [h.il]; exact h1)
theorem o5 {f:Int} (h0:0≤f) (h1:f < c.aH.length):idx c.aE f=some (gr c.aE f):=mm h0 (by rw [h.kl]; exact h1)
theorem row {f:Int} (h0:0≤f) (h1:f < c.aH.length):(gr c.aE f).length=c.aH.length:=h.kr _ (nn h0 (by rw [h.kl]; exact h1))
theorem nt {f g:Int} (h0:0≤f) (h1:f < c.aH.length) (h2:0≤g) (h3:g < c.aH.length):idx (gr c.aE f) g=some (gk c.aE f g):=cH h2 (by rw [h.row h0 h1]; exact h3)
theorem C3 {f g:Int} (h0:0≤f) (h1:f < c.aH.length) (h2:0≤g) (h3:g < c.aH.length) : -1≤gk c.aE f g∧gk c.aE f g < c.aH.length:=by
 by_cases e:gi c.To f=gi c.aH g
 ·have:=(h.cell f g h0 h1 h2 h3 e).1; omega
 ·rw [h.none f g h0 h1 h2 h3 e]; omega
end Ty
def px (c d:aI) (a b f g:Int):Int:=
 if 0≤gk c.aE a f∧0≤gk d.aE b g then gk c.aE a f * d.aH.length+gk d.aE b g else -1
def wO (c d:aI):aI:=
 ⟨c.aA * d.aA,n5 c.aH.length d.aH.length fun a b=>gi c.aH a * d.aA+gi d.aH b,
  n5 c.aH.length d.aH.length fun a b=>gi c.To a * d.aA+gi d.To b,
  n5 c.aA.toNat d.aA.toNat fun x y=>gi c.aJ x * d.aH.length+gi d.aJ y,
  n5 c.aH.length d.aH.length fun a b=>n5 c.aH.length d.aH.length (px c d a b)⟩
theorem Jr {i n a b:Int} (i0:0≤i) (i1:i≤a) (n0:0≤n) (n1:n≤b):0≤i * n∧i * n≤a * b:=
 ⟨Int.mul_nonneg i0 n0,Int.mul_le_mul i1 n1 n0 (Int.le_trans i0 i1)⟩
theorem JX {c d:aI} (C:Ty c) (D:Ty d) (co:c.aA≤10000) (cm:c.aH.length≤10000) (dO:d.aA≤10000) (dm:d.aH.length≤10000):gI c d=some (wO c d):=by
 have c0:=C.o0
 have d0:=D.o0
 obtain ⟨no,tM⟩ : ∃ n:Nat,c.aA=n:=⟨c.aA.toNat,by omega⟩
 obtain ⟨nd,db⟩ : ∃ n:Nat,d.aA=n:=⟨d.aA.toNat,by omega⟩
 have Te:∀ {x y n:Int} {m:Nat},0≤x→x < n→n≤10000→0≤y→y < m→m≤10000→ao (ao (x * (m:Int))+y)=x * m+y:=by
  intro x y n m x0 x1 x2 y0 y1 y2
  have:=Jr (n:=(m:Int)) (b:=10000) x0 (Int.le_of_lt x1) (by omega) (by omega)
  have h2:n * 10000≤10000 * 10000:=Int.mul_le_mul_of_nonneg_right x2 (by omega)
  rw [dL (a:=x * (m:Int)) (by omega) (by omega),dL (by omega) (by omega)]
 unfold gI
 refine (congrArg aq (zp (β:=Int) no nd (fun x y=>gi c.aJ x * d.aH.length+gi d.aJ y) [] (fun acc i=>((i:Int),acc)) rfl ?_ ?_)).trans ?_
 ·intro i acc hi ha
  show fT c d i acc=_
  unfold fT
  rw [bc (by omega:(i:Int) < c.aA),cond_true]
  refine (uT (β:=Int) nd (fun y=>gi c.aJ i * d.aH.length+gi d.aJ y) acc (fun acc j=>((j:Int),acc)) rfl ?_ ?_).trans ?_
  ·intro j uU hj ha'
   show fS c d i j uU=_
   unfold fS
   have hl:uU.length≤100010000:=by
    have:i * nd≤10000 * 10000:=Nat.mul_le_mul (by omega) (by omega)
    simp only [List.length_nil] at ha
    omega
   have e1:=C.id (x:=(i:Int)) (by omega) (by omega)
   have e2:=D.id (x:=(j:Int)) (by omega) (by omega)
   rw [bc (by omega:(j:Int) < d.aA),cond_true,C.oK (by omega) (by omega),aG,D.oK (by omega) (by omega),aG,dU (by omega) (by omega),aG,cI (by omega),Te e1.1 e1.2 (by omega) e2.1 e2.2 (by omega)]
  ·intro uU _
   show fS c d i _ uU=_
   unfold fS
   rw [br (by omega),cond_false]
  ·dsimp only
   rw [cI (by omega)]
 ·intro acc _
  show fT c d _ acc=_
  unfold fT
  rw [br (by omega),cond_false]
 ·dsimp only
  refine (congrArg aq (zp (β:=Int×Int×List Int) c.aH.length d.aH.length (fun a b=>(gi c.aH a * d.aA+gi d.aH b,gi c.To a * d.aA+gi d.To b,n5 c.aH.length d.aH.length (px c d a b))) [] (fun acc i=>((i:Int),acc.map (·.1),acc.map (·.2.1),acc.map (·.2.2))) rfl ?_ ?_)).trans ?_
  ·intro i acc hi ha
   show fX c d i (acc.map (·.1)) (acc.map (·.2.1)) (acc.map (·.2.2))=_
   unfold fX
   rw [bc (by omega:(i:Int) < (c.aH.length:Int)),cond_true]
   refine (uT (β:=Int×Int×List Int) d.aH.length (fun b=>(gi c.aH i * d.aA+gi d.aH b,gi c.To i * d.aA+gi d.To b,n5 c.aH.length d.aH.length (px c d i b))) acc (fun acc j=>((j:Int),acc.map (·.1),acc.map (·.2.1),acc.map (·.2.2))) rfl ?_ ?_).trans ?_
   ·intro j uU hj ha'
    show fW c d i j (uU.map (·.1)) (uU.map (·.2.1)) (uU.map (·.2.2))=_
    unfold fW
    have i0:(0:Int)≤i:=by omega
    have i1:(i:Int) < (c.aH.length:Int):=by omega
    have j0:(0:Int)≤j:=by omega
    have j1:(j:Int) < (d.aH.length:Int):=by omega
    have hl:uU.length≤100010000:=by
     have:i * d.aH.length≤10000 * 10000:=Nat.mul_le_mul (by omega) dm
     simp only [List.length_nil] at ha
     omega
    have f1:=C.fr i0 i1
    have f2:=D.fr j0 j1
    have t1:=C.to i0 i1
    have t2:=D.to j0 j1
    rw [bc (by omega:(j:Int) < (d.aH.length:Int)),cond_true,C.lg i0 i1,aG,D.lg j0 j1,aG,dU (by rw [List.length_map]; omega) (by rw [List.length_map]; omega),aG,C.ma i0 i1,aG,D.ma j0 j1,aG,dU (by rw [List.length_map]; omega) (by rw [List.length_map]; omega),aG]
    refine (zp (β:=Int) c.aH.length d.aH.length (px c d i j) [] (fun acc p=>(acc,(p:Int))) rfl ?_ ?_).trans ?_
    ·intro p row hp hr
     show fV c d i j row p=_
     unfold fV
     have p0:(0:Int)≤p:=by omega
     have p1:(p:Int) < (c.aH.length:Int):=by omega
     rw [bc (by omega:(p:Int) < (c.aH.length:Int)),cond_true]
     refine (uT (β:=Int) d.aH.length (fun q=>px c d i j p q) row (fun acc q=>(acc,(q:Int))) rfl ?_ ?_).trans ?_
     ·intro q MH hq fi
      show fU c d i j p MH q=_
      unfold fU
      have q0:(0:Int)≤q:=by omega
      have q1:(q:Int) < (d.aH.length:Int):=by omega
      have zO:MH.length≤100010000:=by
       have:p * d.aH.length≤10000 * 10000:=Nat.mul_le_mul (by omega) dm
       simp only [List.length_nil] at hr
       omega
      have k1:=C.C3 i0 i1 p0 p1
      have k2:=D.C3 j0 j1 q0 q1
      rw [bc (by omega:(q:Int) < (d.aH.length:Int)),cond_true,C.o5 i0 i1,aG,C.nt i0 i1 p0 p1,aG]
      by_cases e1:0≤gk c.aE i p
      ·rw [bc (show gk c.aE i p ≥ 0 from e1),cond_true,D.o5 j0 j1,aG,D.nt j0 j1 q0 q1,aG,aG]
       by_cases e2:0≤gk d.aE j q
       ·rw [bc (show gk d.aE j q ≥ 0 from e2),cond_true,aG,C.nt i0 i1 p0 p1,aG,aG,D.nt j0 j1 q0 q1,aG,dU (by omega) (by omega),aG,cI (by omega),Te e1 k1.2 (by omega) e2 k2.2 (by omega)]
        unfold px
        rw [if_pos ⟨e1,e2⟩]
       ·rw [br (show ¬ gk d.aE j q ≥ 0 from e2),cond_false,dU (by omega) (by omega),aG,cI (by omega)]
        unfold px
        rw [if_neg (fun h=>e2 h.2)]
      ·rw [br (show ¬ gk c.aE i p ≥ 0 from e1),cond_false,aG,cond_false,dU (by omega) (by omega),aG,cI (by omega)]
       unfold px
       rw [if_neg (fun h=>e1 h.1)]
     ·intro MH _
      show fU c d i j p MH _=_
      unfold fU
      rw [br (by omega),cond_false]
     ·dsimp only
      rw [cI (by omega)]
    ·intro row _
     show fV c d i j row _=_
     unfold fV
     rw [br (by omega),cond_false]
    ·dsimp only
     rw [dU (by rw [List.length_map]; omega) (by rw [List.length_map]; omega),aG,cI (by omega),db,Te f1.1 f1.2 co f2.1 (by omega) (by omega),Te t1.1 t1.2 co t2.1 (by omega) (by omega)]
     simp only [List.map_append,List.map_cons,List.map_nil,List.nil_append]
   ·intro uU _
    show fW c d i _ (uU.map (·.1)) (uU.map (·.2.1)) (uU.map (·.2.2))=_
    unfold fW
    rw [br (by omega),cond_false]
   ·dsimp only
    rw [cI (by omega)]
  ·intro acc _
   show fX c d _ (acc.map (·.1)) (acc.map (·.2.1)) (acc.map (·.2.2))=_
   unfold fX
   rw [br (by omega),cond_false]
  ·have:=Jr (a:=10000) (b:=10000) c0 co d0 dO
   show some _=_
   rw [List.nil_append,List.nil_append,yI,yI,yI,dL (by omega) (by omega)]
   unfold wO
   rw [tM,db]
   rfl
end Go.Proofs.YtjdkifckhidlbaaGreat
namespace Go.Proofs.YtjdkifckhidlbaaGreat
open Go Go.Li
def Cw (l:List Int) (n y:Int):Prop:=(y = -1∧∀ k:Nat,l[k]?≠some n)∨∃ k:Nat,y=k∧l[k]? = some n∧∀ j:Nat,j < k→l[j]?≠some n
theorem Cw.vT {l:List Int} {n y z:Int} (h:Cw l n y) (k:Cw l n z):y=z:=by
 rcases h with ⟨rfl,h⟩ | ⟨a,rfl,h1,h2⟩
 ·rcases k with ⟨rfl,_⟩ | ⟨b,rfl,k1,_⟩
  ·rfl
  ·exact absurd k1 (h b)
 ·rcases k with ⟨rfl,k⟩ | ⟨b,rfl,k1,k2⟩
  ·exact absurd h1 (k a)
  ·rcases Nat.lt_trichotomy a b with vX | rfl | vX
   ·exact absurd h1 (k2 a vX)
   ·rfl
   ·exact absurd k1 (h2 b vX)
theorem Cw.pos {l:List Int} {n y:Int} (h:Cw l n y) (hy:0≤y):y < l.length∧l[y.toNat]? = some n:=by
 rcases h with ⟨rfl,_⟩ | ⟨k,rfl,h1,_⟩
 ·omega
 ·exact ⟨by have:=(List.getElem?_eq_some_iff.1 h1).1; omega,h1⟩
theorem Cw.app {l:List Int} {n y m:Int} (h:Cw l n y) (hy:0≤y):Cw (l++[m]) n y:=by
 rcases h with ⟨rfl,_⟩ | ⟨k,rfl,h1,h2⟩
 ·omega
 ·have hk:=(List.getElem?_eq_some_iff.1 h1).1
  exact .inr ⟨k,rfl,by rw [List.getElem?_append_left hk]; exact h1,fun j hj=>by rw [List.getElem?_append_left (by omega)]; exact h2 j hj⟩
theorem Cw.new {l:List Int} {n y:Int} (h:Cw l n y) (hy:y < 0):Cw (l++[n]) n (l.length:Int):=by
 rcases h with ⟨_,h⟩ | ⟨k,rfl,_⟩
 ·refine .inr ⟨l.length,rfl,by simp,fun j hj=>?_⟩
  rw [List.getElem?_append_left hj]
  exact h j
 ·omega
def Rg (q:List Int):Prop:=∀ y∈q,∀ z:Int,0≤z→z≤y→z∈q
end Go.Proofs.YtjdkifckhidlbaaGreat
namespace Go.Proofs.YtjdkifckhidlbaaGreat
open Go Go.Li
theorem Ya {cl:List (List Int)} {y:Nat} {q:List Int} (x:Nat):gr (cl.set y q) x=if y=x∧y < cl.length then q else gr cl x:=by
 unfold gr
 rw [List.getD_eq_getElem?_getD,List.getD_eq_getElem?_getD,show ((x:Int)).toNat=x from rfl,List.getElem?_set]
 by_cases h:y=x
 ·subst h
  by_cases h2:y < cl.length
  ·simp [h2]
  ·simp [h2]
 ·simp [h]
theorem OU {l:List (List Int)} {y:List Int} (h:y∈l):∃ i:Int,0≤i∧i < l.length∧gr l i=y:=by
 obtain ⟨k,hk⟩:=List.getElem?_of_mem h
 have hl:=(List.getElem?_eq_some_iff.1 hk).1
 refine ⟨k,by omega,by omega,?_⟩
 unfold gr
 rw [List.getD_eq_getElem?_getD,show ((k:Int)).toNat=k from rfl,hk]; rfl
theorem tG {l:List Int} {q:Int} {i j:Int} (i0:0≤i) (i1:i < l.length) (j0:0≤j):gi (l.set i.toNat q) j=if j=i then q else gi l j:=by
 unfold gi
 rw [List.getD_eq_getElem?_getD,List.getD_eq_getElem?_getD,List.getElem?_set]
 by_cases h:j=i
 ·subst h; rw [if_pos rfl,if_pos rfl,if_pos (by omega)]; rfl
 ·rw [if_neg (by omega),if_neg h]
theorem ue {l:List Int} {y:Int} (h:y∈l):∃ i:Int,0≤i∧i < l.length∧gi l i=y:=by
 obtain ⟨k,hk⟩:=List.getElem?_of_mem h
 have hl:=(List.getElem?_eq_some_iff.1 hk).1
 refine ⟨k,by omega,by omega,?_⟩
 unfold gi
 rw [List.getD_eq_getElem?_getD,show ((k:Int)).toNat=k from rfl,hk]; rfl
section
end
end Go.Proofs.YtjdkifckhidlbaaGreat
namespace Go.Proofs.YtjdkifckhidlbaaGreat
open Go Go.Li
theorem mb {l:List Int} {q:Int} {j:Int} (h0:0≤j):gi (l++[q]) j=if j < l.length then gi l j else if j=l.length then q else 0:=by
 obtain ⟨n,rfl⟩ : ∃ n:Nat,j=n:=⟨j.toNat,by omega⟩
 unfold gi
 rw [List.getD_eq_getElem?_getD,List.getD_eq_getElem?_getD,show ((n:Int)).toNat=n from rfl]
 by_cases h:n < l.length
 ·rw [List.getElem?_append_left h,if_pos (by omega)]
 ·rw [List.getElem?_append_right (by omega),if_neg (by omega)]
  by_cases e:n=l.length
  ·subst e; rw [if_pos rfl,Nat.sub_self]; rfl
  ·rw [if_neg (by omega),List.getElem?_eq_none (by simp; omega)]; rfl
theorem Fc {l:List (List Int)} {q:List Int} {j:Int} (h0:0≤j):gr (l++[q]) j=if j < l.length then gr l j else if j=l.length then q else []:=by
 obtain ⟨n,rfl⟩ : ∃ n:Nat,j=n:=⟨j.toNat,by omega⟩
 unfold gr
 rw [List.getD_eq_getElem?_getD,List.getD_eq_getElem?_getD,show ((n:Int)).toNat=n from rfl]
 by_cases h:n < l.length
 ·rw [List.getElem?_append_left h,if_pos (by omega)]
 ·rw [List.getElem?_append_right (by omega),if_neg (by omega)]
  by_cases e:n=l.length
  ·subst e; rw [if_pos rfl,Nat.sub_self]; rfl
  ·rw [if_neg (by omega),List.getElem?_eq_none (by simp; omega)]; rfl
theorem MS {α:Type} {l:List (List α)} {q:List α} {i j:Int} (i0:0≤i) (i1:i < l.length) (j0:0≤j):gl (l.set i.toNat q) j=if j=i then q else gl l j:=by
 unfold gl
 rw [List.getD_eq_getElem?_getD,List.getD_eq_getElem?_getD,List.getElem?_set]
 by_cases h:j=i
 ·subst h; rw [if_pos rfl,if_pos rfl,if_pos (by omega)]; rfl
 ·rw [if_neg (by omega),if_neg h]
end Go.Proofs.YtjdkifckhidlbaaGreat
namespace Go.Proofs.YtjdkifckhidlbaaGreat
open Go Go.Li
theorem zn (x y:List Int) (hx:x.length≤1048576000):gC x y=some (x == y):=E0 x y hx
theorem dv {a b:List Int} {e:Int} (h0:0≤e) (h1:e < a.length):gi (thenS a b) e=gi b (gi a e):=qo h0 h1
theorem zq {a b:List Int} {y n:Int} (hb:∀ x∈a,0≤x∧x < b.length) (hn:∀ z∈b,0≤z∧z < n) (hy:y∈thenS a b):0≤y∧y < n:=by
 obtain ⟨i,hi,rfl⟩:=pw.1 hy
 have h:=hb _ (fj hi.1 hi.2)
 exact hn _ (fj h.1 h.2)
section
end
theorem Ds {n:Int} (n0:0≤n) (n1:n≤1048576):mW n=some (ns n.toNat):=by
 unfold mW
 obtain ⟨k,rfl⟩ : ∃ k:Nat,n=k:=⟨n.toNat,by omega⟩
 rw [Hb (by omega) (by omega),aG]
 have hl:(ns k).length=k:=dC k
 refine (congrArg aq (uo (ns k) (fun i=>((i:Int),(ns k).take i++List.replicate (k - i) (0:Int))) (by simp) ?_ (e:=((k:Int),ns k)) ?_)).trans rfl
 ·intro i x hx
  have zo:=hx
  obtain ⟨rfl,hi⟩:=iu hx
  have hc:=I0 (ns k) (0:Int) zo
  have OL:=get_copy (ns k) (0:Int) zo
  rw [hl] at hc OL
  show kV k (i:Int) _=_
  unfold kV
  rw [bc (by rw [List.length_replicate]; omega),cond_true,di,OL,aG,cI (by omega),Int.toNat_natCast,hc]
 ·rw [hl]
  show kV k _ _=_
  unfold kV
  rw [br (by rw [List.length_replicate]; omega),cond_false,Nat.sub_self,List.take_of_length_le (by omega)]
  simp
theorem xF {n:Nat} {e:Int} (h0:0≤e) (h1:e < n):gi (ns n) e=e:=by
 have h:=qo (g:=fun e=>e) h0 h1
 rwa [show cn n (fun e:Int=>e)=ns n from List.map_id' _] at h
theorem Ck {a b:List Int} (hl:a.length=b.length) (h:∀ x:Int,0≤x→x < b.length→gi a x=gi b x):a=b:=by
 refine List.ext_getElem hl fun i h1 h2=>?_
 have:=h i (by omega) (by omega)
 unfold gi at this
 rw [List.getD_eq_getElem?_getD,List.getD_eq_getElem?_getD,show ((i:Int)).toNat=i from rfl,List.getElem?_eq_getElem h1,List.getElem?_eq_getElem h2] at this
 exact this
end Go.Proofs.YtjdkifckhidlbaaGreat
