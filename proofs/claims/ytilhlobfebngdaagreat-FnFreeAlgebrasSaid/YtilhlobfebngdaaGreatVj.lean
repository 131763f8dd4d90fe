/- Tables told by two numbers: loops in loops that fill a list, and what stands where. No condition beside those that each theorem names. -/
import Derived.Test.YtilhlobfebngdaaGreatPj
import Derived.Test.YtilhlobfebngdaaGreatPe
import Derived.Test.YtilhlobfebngdaaGreatVc
namespace Go.Proofs.YtilhlobfebngdaaGreat
open Go Go.Li
def mw {β:Type} (n m:Nat) (g:Int→Int→β):List β:=(ec n fun a=>ec m (g a)).flatten
theorem Hs {β:Type} (m:Nat) (g:Int→Int→β):mw 0 m g=[]:=rfl
theorem xA {β:Type} (n m:Nat) (g:Int→Int→β):mw (n+1) m g=mw n m g++ec m (g n):=by
 unfold mw
 rw [ot,List.flatten_append]
 simp
theorem gy {β:Type} (n m:Nat) (g:Int→Int→β):(mw n m g).length=n * m:=by
 induction n with
 | zero=>simp [Hs]
 | succ n ih=>rw [xA,List.length_append,ih,cS,Nat.succ_mul]
theorem Kd {β:Type} {n m:Nat} (g:Int→Int→β) {a b:Nat} (ha:a < n) (hb:b < m):(mw n m g)[a * m+b]? = some (g a b):=by
 induction n with
 | zero=>omega
 | succ n ih=>
  rw [xA]
  by_cases h:a < n
  ·have hl:a * m+b < (mw n m g).length:=by
    rw [gy]
    have:(a+1) * m≤n * m:=Nat.mul_le_mul_right m h
    rw [Nat.succ_mul] at this
    omega
   rw [List.getElem?_append_left hl]
   exact ih h
  ·obtain rfl:a=n:=by omega
   rw [List.getElem?_append_right (by rw [gy]; omega),gy,show a * m+b - a * m=b by omega]
   exact qg _ hb
theorem BW {β:Type} {n m:Nat} {g:Int→Int→β} {y:β}:y∈mw n m g↔∃ a b:Int,(0≤a∧a < n)∧(0≤b∧b < m)∧g a b=y:=by
 unfold mw
 rw [List.mem_flatten]
 constructor
 ·rintro ⟨l,hl,hy⟩
  obtain ⟨a,ha,rfl⟩:=o9.1 hl
  obtain ⟨b,hb,rfl⟩:=o9.1 hy
  exact ⟨a,b,ha,hb,rfl⟩
 ·rintro ⟨a,b,ha,hb,rfl⟩
  exact ⟨_,o9.2 ⟨a,ha,rfl⟩,o9.2 ⟨b,hb,rfl⟩⟩
theorem Yt {n m k:Nat} (h:k < n * m):∃ a b,a < n∧b < m∧k=a * m+b:=by
 have hm:0 < m:=by
  rcases Nat.eq_zero_or_pos m with rfl | hm
  ·simp at h
  ·exact hm
 exact ⟨k / m,k % m,Nat.div_lt_of_lt_mul (by rwa [Nat.mul_comm] at h),Nat.mod_lt _ hm,by rw [Nat.mul_comm]; exact (Nat.div_add_mod k m).symm⟩
section
variable {S S1 R β:Type} {body:S1→Option (Out S1 R)} {k:Nat} {f:S1→Option (Out S R)} {JX:S1}
theorem ve (n:Nat) (g:Int→β) (wV:List β) (pk:List β→Nat→S1) (e0:pk wV 0=JX)
  (step:∀ i acc,i < n→acc.length=wV.length+i→body (pk acc i)=some (.norm (pk (acc++[g i]) (i+1)))) (last:∀ acc,acc.length=wV.length+n→body (pk acc n)=some (.exit k (pk acc n))) :
  ah (ae k (aj body JX)) f=f (pk (wV++ec n g) n):=by
 refine (wS n g (fun acc i=>pk (wV++acc) i) (by rw [List.append_nil]; exact e0) (fun i acc hi ha=>?_) fun acc ha=>?_)
 ·rw [step i _ hi (by rw [List.length_append,ha]),List.append_assoc]
 ·exact last _ (by rw [List.length_append,ha])
theorem z6 (n m:Nat) (g:Int→Int→β) (wV:List β) (pk:List β→Nat→S1) (e0:pk wV 0=JX)
  (step:∀ i acc,i < n→acc.length=wV.length+i * m→body (pk acc i)=some (.norm (pk (acc++ec m (g i)) (i+1)))) (last:∀ acc,acc.length=wV.length+n * m→body (pk acc n)=some (.exit k (pk acc n))) :
  ah (ae k (aj body JX)) f=f (pk (wV++mw n m g) n):=by
 rw [← e0]
 refine (congrArg (fun s=>ah (ae k (aj body s)) f) (show pk wV 0=pk (wV++mw 0 m g) 0 by rw [Hs,List.append_nil])).trans ?_
 refine ud (ns n) (fun i=>pk (wV++mw i m g) i) rfl ?_ ?_
 ·intro i x hx
  obtain ⟨rfl,hi⟩:=gh hx
  rw [step i _ hi (by rw [List.length_append,gy]),xA,List.append_assoc]
 ·rw [cT]; exact last _ (by rw [List.length_append,gy])
end
theorem ue {n:Nat} {g:Int→Int} {i:Int} (h0:0≤i) (h1:i < n):gi (ec n g) i=g i:=by
 obtain ⟨k,rfl⟩ : ∃ k:Nat,i=k:=⟨i.toNat,by omega⟩
 have h:=qg g (i:=k) (n:=n) (by omega)
 unfold gi
 rw [List.getD_eq_getElem?_getD,show ((k:Int)).toNat=k from rfl,h]; rfl
theorem yr {n m:Nat} {g:Int→Int→Int} {a b:Int} (a0:0≤a) (a1:a < n) (b0:0≤b) (b1:b < m):gi (mw n m g) (a * m+b)=g a b:=by
 obtain ⟨i,rfl⟩ : ∃ k:Nat,a=k:=⟨a.toNat,by omega⟩
 obtain ⟨j,rfl⟩ : ∃ k:Nat,b=k:=⟨b.toNat,by omega⟩
 have h:=Kd g (a:=i) (b:=j) (n:=n) (m:=m) (by omega) (by omega)
 unfold gi
 rw [List.getD_eq_getElem?_getD,show ((i:Int) * (m:Int)+(j:Int)).toNat=i * m+j by
  rw [← Int.natCast_mul,← Int.natCast_add]; rfl,h]; rfl
end Go.Proofs.YtilhlobfebngdaaGreat
namespace Go.Proofs.YtilhlobfebngdaaGreat
open Go Go.Li
theorem Sd {β γ:Type} (n:Nat) (g:Int→β) (h:β→γ):(ec n g).map h=ec n fun i=>h (g i):=by
 induction n with
 | zero=>rfl
 | succ n ih=>rw [ot,ot,List.map_append,ih]; rfl
theorem zt {β γ:Type} (n m:Nat) (g:Int→Int→β) (h:β→γ):(mw n m g).map h=mw n m fun a b=>h (g a b):=by
 induction n with
 | zero=>rfl
 | succ n ih=>rw [xA,xA,List.map_append,ih,Sd]
structure Ty (c:aI):Prop where
 o0:0≤c.aA
 f:∀ x∈c.aG,0≤x∧x < c.aA
 tl:c.To.length=c.aG.length
 t:∀ x∈c.To,0≤x∧x < c.aA
 kl:c.aE.length=c.aG.length
 kr:∀ r∈c.aE,r.length=c.aG.length
 il:(c.aJ.length:Int)=c.aA
 i:∀ x∈c.aJ,0≤x∧x < c.aG.length
 xu:∀ x:Int,0≤x→x < c.aA→gi c.aG (gi c.aJ x)=x
 xS:∀ x:Int,0≤x→x < c.aA→gi c.To (gi c.aJ x)=x
 cell:∀ f g:Int,0≤f→f < c.aG.length→0≤g→g < c.aG.length→gi c.To f=gi c.aG g→(0≤gk c.aE f g∧gk c.aE f g < c.aG.length)∧gi c.aG (gk c.aE f g)=gi c.aG f∧gi c.To (gk c.aE f g)=gi c.To g
 none:∀ f g:Int,0≤f→f < c.aG.length→0≤g→g < c.aG.length→gi c.To f≠gi c.aG g→gk c.aE f g = -1
 uu:∀ x:Int,0≤x→x < c.aA→gk c.aE (gi c.aJ x) (gi c.aJ x)=gi c.aJ x
namespace Ty
variable {c:aI} (h:Ty c)
include h
theorem fr {f:Int} (h0:0≤f) (h1:f < c.aG.length):0≤gi c.aG f∧gi c.aG f < c.aA:=h.f _ (cy h0 h1)
theorem to {f:Int} (h0:0≤f) (h1:f < c.aG.length):0≤gi c.To f∧gi c.To f < c.aA:=h.t _ (cy h0 (by rw [h.tl]; exact h1))
theorem id {x:Int} (h0:0≤x) (h1:x < c.aA):0≤gi c.aJ x∧gi c.aJ x < c.aG.length:=h.i _ (cy h0 (by rw [h.il]; exact h1))
theorem iq {f:Int} (h0:0≤f) (h1:f < c.aG.length):idx c.aG f=some (gi c.aG f):=have _:=h; bS h0 h1
theorem jf {f:Int} (h0:0≤f) (h1:f < c.aG.length):idx c.To f=some (gi c.To f):=bS h0 (by rw [h.tl]; exact h1)
theorem nh {x:Int} (h0:0≤x) (h1:x < c.aA):idx c.aJ x=some (gi c.aJ x):=bS h0 (by rw [h.il]; exact h1)
theorem me {f:Int} (h0:0≤f) (h1:f < c.aG.length):idx c.aE f=some (gr c.aE f):=jz h0 (by rw [h.kl]; exact h1)
theorem row {f:Int} (h0:0≤f) (h1:f < c.aG.length):(gr c.aE f).length=c.aG.length:=h.kr _ (kq h0 (by rw [h.kl]; exact h1))
theorem lv {f g:Int} (h0:0≤f) (h1:f < c.aG.length) (h2:0≤g) (h3:g < c.aG.length):idx (gr c.aE f) g=some (gk c.aE f g):=bS h2 (by rw [h.row h0 h1]; exact h3)
theorem DF {f g:Int} (h0:0≤f) (h1:f < c.aG.length) (h2:0≤g) (h3:g < c.aG.length) : -1≤gk c.aE f g∧gk c.aE f g < c.aG.length:=by
 by_cases e:gi c.To f=gi c.aG g
 ·have:=(h.cell f g h0 h1 h2 h3 e).1; omega
 ·rw [h.none f g h0 h1 h2 h3 e]; omega
end Ty
def nt (c d:aI) (a b f g:Int):Int:=
 if 0≤gk c.aE a f∧0≤gk d.aE b g then gk c.aE a f * d.aG.length+gk d.aE b g else -1
def w7 (c d:aI):aI:=
 ⟨c.aA * d.aA,mw c.aG.length d.aG.length fun a b=>gi c.aG a * d.aA+gi d.aG b,
  mw c.aG.length d.aG.length fun a b=>gi c.To a * d.aA+gi d.To b,
  mw c.aA.toNat d.aA.toNat fun x y=>gi c.aJ x * d.aG.length+gi d.aJ y,
  mw c.aG.length d.aG.length fun a b=>mw c.aG.length d.aG.length (nt c d a b)⟩
theorem Ke {i n a b:Int} (i0:0≤i) (i1:i≤a) (n0:0≤n) (n1:n≤b):0≤i * n∧i * n≤a * b:=
 ⟨Int.mul_nonneg i0 n0,Int.mul_le_mul i1 n1 n0 (Int.le_trans i0 i1)⟩
theorem KN {c d:aI} (C:Ty c) (D:Ty d) (co:c.aA≤10000) (cm:c.aG.length≤10000) (dO:d.aA≤10000) (dm:d.aG.length≤10000):gM c d=some (w7 c d):=by
 have c0:=C.o0
 have d0:=D.o0
 obtain ⟨no,sk⟩ : ∃ n:Nat,c.aA=n:=⟨c.aA.toNat,by omega⟩
 obtain ⟨nd,dx⟩ : ∃ n:Nat,d.aA=n:=⟨d.aA.toNat,by omega⟩
 have TH:∀ {x y n:Int} {m:Nat},0≤x→x < n→n≤10000→0≤y→y < m→m≤10000→ao (ao (x * (m:Int))+y)=x * m+y:=by
  intro x y n m x0 x1 x2 y0 y1 y2
  have:=Ke (n:=(m:Int)) (b:=10000) x0 (Int.le_of_lt x1) (by omega) (by omega)
  have h2:n * 10000≤10000 * 10000:=Int.mul_le_mul_of_nonneg_right x2 (by omega)
  rw [eI (a:=x * (m:Int)) (by omega) (by omega),eI (by omega) (by omega)]
 unfold gM
 refine (congrArg aq (z6 (β:=Int) no nd (fun x y=>gi c.aJ x * d.aG.length+gi d.aJ y) [] (fun acc i=>((i:Int),acc)) rfl ?_ ?_)).trans ?_
 ·intro i acc hi ha
  show fZ c d i acc=_
  unfold fZ
  rw [bb (by omega:(i:Int) < c.aA),cond_true]
  refine (ve (β:=Int) nd (fun y=>gi c.aJ i * d.aG.length+gi d.aJ y) acc (fun acc j=>((j:Int),acc)) rfl ?_ ?_).trans ?_
  ·intro j vf hj ha'
   show fY c d i j vf=_
   unfold fY
   have hl:vf.length≤100010000:=by
    have:i * nd≤10000 * 10000:=Nat.mul_le_mul (by omega) (by omega)
    simp only [List.length_nil] at ha
    omega
   have e1:=C.id (x:=(i:Int)) (by omega) (by omega)
   have e2:=D.id (x:=(j:Int)) (by omega) (by omega)
   rw [bb (by omega:(j:Int) < d.aA),cond_true,C.nh (by omega) (by omega),aF,D.nh (by omega) (by omega),aF,eB (by omega) (by omega),aF,cA (by omega),TH e1.1 e1.2 (by omega) e2.1 e2.2 (by omega)]
  ·intro vf _
   show fY c d i _ vf=_
   unfold fY
   rw [br (by omega),cond_false]
  ·dsimp only
   rw [cA (by omega)]
 ·intro acc _
  show fZ c d _ acc=_
  unfold fZ
  rw [br (by omega),cond_false]
 ·dsimp only
  refine (congrArg aq (z6 (β:=Int×Int×List Int) c.aG.length d.aG.length (fun a b=>(gi c.aG a * d.aA+gi d.aG b,gi c.To a * d.aA+gi d.To b,mw c.aG.length d.aG.length (nt c d a b))) [] (fun acc i=>((i:Int),acc.map (·.1),acc.map (·.2.1),acc.map (·.2.2))) rfl ?_ ?_)).trans ?_
  ·intro i acc hi ha
   show gD c d i (acc.map (·.1)) (acc.map (·.2.1)) (acc.map (·.2.2))=_
   unfold gD
   rw [bb (by omega:(i:Int) < (c.aG.length:Int)),cond_true]
   refine (ve (β:=Int×Int×List Int) d.aG.length (fun b=>(gi c.aG i * d.aA+gi d.aG b,gi c.To i * d.aA+gi d.To b,mw c.aG.length d.aG.length (nt c d i b))) acc (fun acc j=>((j:Int),acc.map (·.1),acc.map (·.2.1),acc.map (·.2.2))) rfl ?_ ?_).trans ?_
   ·intro j vf hj ha'
    show gC c d i j (vf.map (·.1)) (vf.map (·.2.1)) (vf.map (·.2.2))=_
    unfold gC
    have i0:(0:Int)≤i:=by omega
    have i1:(i:Int) < (c.aG.length:Int):=by omega
    have j0:(0:Int)≤j:=by omega
    have j1:(j:Int) < (d.aG.length:Int):=by omega
    have hl:vf.length≤100010000:=by
     have:i * d.aG.length≤10000 * 10000:=Nat.mul_le_mul (by omega) dm
     simp only [List.length_nil] at ha
     omega
    have f1:=C.fr i0 i1
    have f2:=D.fr j0 j1
    have t1:=C.to i0 i1
    have t2:=D.to j0 j1
    rw [bb (by omega:(j:Int) < (d.aG.length:Int)),cond_true,C.iq i0 i1,aF,D.iq j0 j1,aF,eB (by rw [List.length_map]; omega) (by rw [List.length_map]; omega),aF,C.jf i0 i1,aF,D.jf j0 j1,aF,eB (by rw [List.length_map]; omega) (by rw [List.length_map]; omega),aF]
    refine (z6 (β:=Int) c.aG.length d.aG.length (nt c d i j) [] (fun acc p=>(acc,(p:Int))) rfl ?_ ?_).trans ?_
    ·intro p row hp hr
     show gB c d i j row p=_
     unfold gB
     have p0:(0:Int)≤p:=by omega
     have p1:(p:Int) < (c.aG.length:Int):=by omega
     rw [bb (by omega:(p:Int) < (c.aG.length:Int)),cond_true]
     refine (ve (β:=Int) d.aG.length (fun q=>nt c d i j p q) row (fun acc q=>(acc,(q:Int))) rfl ?_ ?_).trans ?_
     ·intro q Nq hq ig
      show gA c d i j p Nq q=_
      unfold gA
      have q0:(0:Int)≤q:=by omega
      have q1:(q:Int) < (d.aG.length:Int):=by omega
      have EL:Nq.length≤100010000:=by
       have:p * d.aG.length≤10000 * 10000:=Nat.mul_le_mul (by omega) dm
       simp only [List.length_nil] at hr
       omega
      have k1:=C.DF i0 i1 p0 p1
      have k2:=D.DF j0 j1 q0 q1
      rw [bb (by omega:(q:Int) < (d.aG.length:Int)),cond_true,C.me i0 i1,aF,C.lv i0 i1 p0 p1,aF]
      by_cases e1:0≤gk c.aE i p
      ·rw [bb (show gk c.aE i p ≥ 0 from e1),cond_true,D.me j0 j1,aF,D.lv j0 j1 q0 q1,aF,aF]
       by_cases e2:0≤gk d.aE j q
       ·rw [bb (show gk d.aE j q ≥ 0 from e2),cond_true,aF,C.lv i0 i1 p0 p1,aF,aF,D.lv j0 j1 q0 q1,aF,eB (by omega) (by omega),aF,cA (by omega),TH e1 k1.2 (by omega) e2 k2.2 (by omega)]
        unfold nt
        rw [if_pos ⟨e1,e2⟩]
       ·rw [br (show ¬ gk d.aE j q ≥ 0 from e2),cond_false,eB (by omega) (by omega),aF,cA (by omega)]
        unfold nt
        rw [if_neg (fun h=>e2 h.2)]
      ·rw [br (show ¬ gk c.aE i p ≥ 0 from e1),cond_false,aF,cond_false,eB (by omega) (by omega),aF,cA (by omega)]
       unfold nt
       rw [if_neg (fun h=>e1 h.1)]
     ·intro Nq _
      show gA c d i j p Nq _=_
      unfold gA
      rw [br (by omega),cond_false]
     ·dsimp only
      rw [cA (by omega)]
    ·intro row _
     show gB c d i j row _=_
     unfold gB
     rw [br (by omega),cond_false]
    ·dsimp only
     rw [eB (by rw [List.length_map]; omega) (by rw [List.length_map]; omega),aF,cA (by omega),dx,TH f1.1 f1.2 co f2.1 (by omega) (by omega),TH t1.1 t1.2 co t2.1 (by omega) (by omega)]
     simp only [List.map_append,List.map_cons,List.map_nil,List.nil_append]
   ·intro vf _
    show gC c d i _ (vf.map (·.1)) (vf.map (·.2.1)) (vf.map (·.2.2))=_
    unfold gC
    rw [br (by omega),cond_false]
   ·dsimp only
    rw [cA (by omega)]
  ·intro acc _
   show gD c d _ (acc.map (·.1)) (acc.map (·.2.1)) (acc.map (·.2.2))=_
   unfold gD
   rw [br (by omega),cond_false]
  ·have:=Ke (a:=10000) (b:=10000) c0 co d0 dO
   show some _=_
   rw [List.nil_append,List.nil_append,zt,zt,zt,eI (by omega) (by omega)]
   unfold w7
   rw [sk,dx]
   rfl
end Go.Proofs.YtilhlobfebngdaaGreat
namespace Go.Proofs.YtilhlobfebngdaaGreat
open Go Go.Li
def AV (l:List Int) (n y:Int):Prop:=(y = -1∧∀ k:Nat,l[k]?≠some n)∨∃ k:Nat,y=k∧l[k]? = some n∧∀ j:Nat,j < k→l[j]?≠some n
theorem AV.wh {l:List Int} {n y z:Int} (h:AV l n y) (k:AV l n z):y=z:=by
 rcases h with ⟨rfl,h⟩ | ⟨a,rfl,h1,h2⟩
 ·rcases k with ⟨rfl,_⟩ | ⟨b,rfl,k1,_⟩
  ·rfl
  ·exact absurd k1 (h b)
 ·rcases k with ⟨rfl,k⟩ | ⟨b,rfl,k1,k2⟩
  ·exact absurd h1 (k a)
  ·rcases Nat.lt_trichotomy a b with xi | rfl | xi
   ·exact absurd h1 (k2 a xi)
   ·rfl
   ·exact absurd k1 (h2 b xi)
theorem AV.pos {l:List Int} {n y:Int} (h:AV l n y) (hy:0≤y):y < l.length∧l[y.toNat]? = some n:=by
 rcases h with ⟨rfl,_⟩ | ⟨k,rfl,h1,_⟩
 ·omega
 ·exact ⟨by have:=(List.getElem?_eq_some_iff.1 h1).1; omega,h1⟩
theorem AV.app {l:List Int} {n y m:Int} (h:AV l n y) (hy:0≤y):AV (l++[m]) n y:=by
 rcases h with ⟨rfl,_⟩ | ⟨k,rfl,h1,h2⟩
 ·omega
 ·have hk:=(List.getElem?_eq_some_iff.1 h1).1
  exact .inr ⟨k,rfl,by rw [List.getElem?_append_left hk]; exact h1,fun j hj=>by rw [List.getElem?_append_left (by omega)]; exact h2 j hj⟩
theorem AV.new {l:List Int} {n y:Int} (h:AV l n y) (hy:y < 0):AV (l++[n]) n (l.length:Int):=by
 rcases h with ⟨_,h⟩ | ⟨k,rfl,_⟩
 ·refine .inr ⟨l.length,rfl,by simp,fun j hj=>?_⟩
  rw [List.getElem?_append_left hj]
  exact h j
 ·omega
theorem Se {l:List Int} {n:Int} (hl:l.length≤1048576):Ok (pD l n) (AV l n):=by
 unfold pD
 refine gj (ol (fun s:Int=>(0≤s∧s≤l.length)∧∀ k:Nat,(k:Int) < s→l[k]?≠some n) (fun s=>(l.length - s).toNat) ⟨⟨Int.le_refl _,by omega⟩,fun k hk=>by omega⟩ ?_)
 rintro s ⟨⟨s0,s1⟩,hs⟩
 unfold tE
 refine od (fun h=>?_) fun h=>os ⟨rfl,os (.inl ⟨rfl,fun k hk=>?_⟩)⟩
 ·obtain ⟨i,rfl⟩ : ∃ i:Nat,s=i:=⟨s.toNat,by omega⟩
  refine oe (bS s0 h) ?_
  have hg:l[i]? = some (gi l i):=by
   have:=bS s0 h
   rwa [cw] at this
  refine oc (fun e=>os ?_) fun e=>os ⟨⟨⟨?_,?_⟩,fun k hk=>?_⟩,?_⟩
  ·exact .inr ⟨i,rfl,by rw [hg,of_decide_eq_true e],fun j hj=>hs j (by omega)⟩
  ·rw [w1 s0 h (by omega)]; omega
  ·rw [w1 s0 h (by omega)]; omega
  ·rw [w1 s0 h (by omega)] at hk
   rcases (by omega:k < i∨k=i) with h3 | rfl
   ·exact hs k (by omega)
   ·rw [hg]
    intro h4
    have:gi l k=n:=Option.some.inj h4
    rw [this] at e
    simp at e
  ·dsimp only; rw [w1 s0 h (by omega)]; omega
 ·have:=(List.getElem?_eq_some_iff.1 hk).1
  exact hs k (by omega) hk
def Rg (q:List Int):Prop:=∀ y∈q,∀ z:Int,0≤z→z≤y→z∈q
theorem Nr {l:List Int} (hl:l.length≤1048576):Ok (nC l) fun q=>q.length=l.length∧(∀ y∈q,0≤y∧y < l.length)∧(∀ i j:Nat,i < l.length→l[i]? = l[j]?→q[i]? = q[j]?)∧Rg q:=by
 unfold nC
 refine gj (ol (fun z:List Int×List Int×Int=>(0≤z.2.2∧z.2.2≤l.length)∧(z.1.length:Int)=z.2.2∧(z.2.1.length:Int)≤z.2.2∧(∀ k:Nat,(k:Int) < z.2.2→∃ a:Int,0≤a∧z.1[k]? = some a∧∃ n,l[k]? = some n∧AV z.2.1 n a)∧∀ k:Nat,k < z.2.1.length→(k:Int)∈z.1) (fun z=>(l.length - z.2.2).toNat) ⟨⟨by show (0:Int)≤0; omega,by show (0:Int)≤_; omega⟩,rfl,by show (0:Int)≤0; omega,fun k hk=>by have:(k:Int) < 0:=hk; omega,fun k hk=>absurd hk (Nat.not_lt_zero _)⟩ ?_)
 rintro ⟨out,seen,s⟩ ⟨⟨s0,s1⟩,ho,hn,hk,hz⟩
 dsimp only at s0 s1 ho hn hk hz
 show Ok (nL l out seen s) _
 unfold nL
 refine od (fun h=>?_) fun h=>os ⟨rfl,os ⟨by omega,fun y hy=>?_,fun i j hi wm=>?_,fun y hy z z0 z1=>?_⟩⟩
 ·obtain ⟨i,rfl⟩ : ∃ i:Nat,s=i:=⟨s.toNat,by omega⟩
  have hg:l[i]? = some (gi l i):=by
   have:=bS s0 h
   rwa [cw] at this
  refine oe (bS s0 h) (ob (Se (by omega)) fun y hy=>?_)
  have hw:=w1 s0 h (by omega)
  refine od (fun EA=>oe (bS s0 h) (dp (by omega) (by omega) (dp (by omega) (by omega) (os ⟨⟨⟨?_,?_⟩,?_,?_,fun k yC=>?_,fun k Ik=>?_⟩,?_⟩)))) fun abG=>dp (by omega) (by omega) (os ⟨⟨⟨?_,?_⟩,?_,?_,fun k yC=>?_,fun k Ik=>?_⟩,?_⟩)
  all_goals first | (dsimp only at yC; rw [hw] at yC) | skip
  all_goals dsimp only
  all_goals first | (rw [hw]; simp only [List.length_append,List.length_singleton]; omega) | (rw [hw]; omega) | skip
  ·rcases (by omega:k < i∨k=i) with h3 | rfl
   ·obtain ⟨a,a0,e,n,e2,hf⟩:=hk k (by omega)
    exact ⟨a,a0,by rw [List.getElem?_append_left (by omega)]; exact e,n,e2,hf.app a0⟩
   ·refine ⟨seen.length,by omega,?_,gi l k,hg,hy.new EA⟩
    rw [List.getElem?_append_right (by omega),show k - out.length=0 by omega]; rfl
  ·simp only [List.length_append,List.length_singleton] at Ik
   rcases (by omega:k < seen.length∨k=seen.length) with h3 | rfl
   ·exact List.mem_append_left _ (hz k h3)
   ·exact List.mem_append_right _ (List.mem_singleton.2 rfl)
  ·rcases (by omega:k < i∨k=i) with h3 | rfl
   ·obtain ⟨a,a0,e,n,e2,hf⟩:=hk k (by omega)
    exact ⟨a,a0,by rw [List.getElem?_append_left (by omega)]; exact e,n,e2,hf⟩
   ·refine ⟨y,by omega,?_,gi l k,hg,hy⟩
    rw [List.getElem?_append_right (by omega),show k - out.length=0 by omega]; rfl
  ·exact List.mem_append_left _ (hz k Ik)
 ·obtain ⟨k,Kf⟩:=List.getElem?_of_mem hy
  have bp:=(List.getElem?_eq_some_iff.1 Kf).1
  obtain ⟨a,a0,e,n,e2,hf⟩:=hk k (by omega)
  rw [e] at Kf
  obtain rfl:=Option.some.inj Kf
  have:=(hf.pos a0).1
  omega
 ·have hj:j < l.length:=by
   rw [List.getElem?_eq_getElem hi] at wm
   exact (List.getElem?_eq_some_iff.1 wm.symm).1
  obtain ⟨a,a0,e,n,e2,hf⟩:=hk i (by omega)
  obtain ⟨b,b0,e',n',Yu,xg⟩:=hk j (by omega)
  rw [e2,Yu] at wm
  obtain rfl:=Option.some.inj wm
  rw [e,e',hf.wh xg]
 ·obtain ⟨k,Kf⟩:=List.getElem?_of_mem hy
  have bp:=(List.getElem?_eq_some_iff.1 Kf).1
  obtain ⟨a,a0,e,n,e2,hf⟩:=hk k (by omega)
  rw [e] at Kf
  obtain rfl:=Option.some.inj Kf
  have:=(hf.pos a0).1
  have:=hz z.toNat (by omega)
  rwa [show ((z.toNat:Nat):Int)=z by omega] at this
end Go.Proofs.YtilhlobfebngdaaGreat
namespace Go.Proofs.YtilhlobfebngdaaGreat
open Go Go.Li
theorem Yv {cl:List (List Int)} {y:Nat} {q:List Int} (x:Nat):gr (cl.set y q) x=if y=x∧y < cl.length then q else gr cl x:=by
 unfold gr
 rw [List.getD_eq_getElem?_getD,List.getD_eq_getElem?_getD,show ((x:Int)).toNat=x from rfl,List.getElem?_set]
 by_cases h:y=x
 ·subst h
  by_cases h2:y < cl.length
  ·simp [h2]
  ·simp [h2]
 ·simp [h]
theorem XV {l:List (List Int)} {y:List Int} (h:y∈l):∃ i:Int,0≤i∧i < l.length∧gr l i=y:=by
 obtain ⟨k,hk⟩:=List.getElem?_of_mem h
 have hl:=(List.getElem?_eq_some_iff.1 hk).1
 refine ⟨k,by omega,by omega,?_⟩
 unfold gr
 rw [List.getD_eq_getElem?_getD,show ((k:Int)).toNat=k from rfl,hk]; rfl
theorem qz {l:List Int} {q:Int} {i j:Int} (i0:0≤i) (i1:i < l.length) (j0:0≤j):gi (l.set i.toNat q) j=if j=i then q else gi l j:=by
 unfold gi
 rw [List.getD_eq_getElem?_getD,List.getD_eq_getElem?_getD,List.getElem?_set]
 by_cases h:j=i
 ·subst h; rw [if_pos rfl,if_pos rfl,if_pos (by omega)]; rfl
 ·rw [if_neg (by omega),if_neg h]
theorem mb {l:List Int} {y:Int} (h:y∈l):∃ i:Int,0≤i∧i < l.length∧gi l i=y:=by
 obtain ⟨k,hk⟩:=List.getElem?_of_mem h
 have hl:=(List.getElem?_eq_some_iff.1 hk).1
 refine ⟨k,by omega,by omega,?_⟩
 unfold gi
 rw [List.getD_eq_getElem?_getD,show ((k:Int)).toNat=k from rfl,hk]; rfl
section
end
end Go.Proofs.YtilhlobfebngdaaGreat
namespace Go.Proofs.YtilhlobfebngdaaGreat
open Go Go.Li
theorem ks {l:List Int} {q:Int} {j:Int} (h0:0≤j):gi (l++[q]) j=if j < l.length then gi l j else if j=l.length then q else 0:=by
 obtain ⟨n,rfl⟩ : ∃ n:Nat,j=n:=⟨j.toNat,by omega⟩
 unfold gi
 rw [List.getD_eq_getElem?_getD,List.getD_eq_getElem?_getD,show ((n:Int)).toNat=n from rfl]
 by_cases h:n < l.length
 ·rw [List.getElem?_append_left h,if_pos (by omega)]
 ·rw [List.getElem?_append_right (by omega),if_neg (by omega)]
  by_cases e:n=l.length
  ·subst e; rw [if_pos rfl,Nat.sub_self]; rfl
  ·rw [if_neg (by omega),List.getElem?_eq_none (by simp; omega)]; rfl
theorem FN {l:List (List Int)} {q:List Int} {j:Int} (h0:0≤j):gr (l++[q]) j=if j < l.length then gr l j else if j=l.length then q else []:=by
 obtain ⟨n,rfl⟩ : ∃ n:Nat,j=n:=⟨j.toNat,by omega⟩
 unfold gr
 rw [List.getD_eq_getElem?_getD,List.getD_eq_getElem?_getD,show ((n:Int)).toNat=n from rfl]
 by_cases h:n < l.length
 ·rw [List.getElem?_append_left h,if_pos (by omega)]
 ·rw [List.getElem?_append_right (by omega),if_neg (by omega)]
  by_cases e:n=l.length
  ·subst e; rw [if_pos rfl,Nat.sub_self]; rfl
  ·rw [if_neg (by omega),List.getElem?_eq_none (by simp; omega)]; rfl
theorem NC {α:Type} {l:List (List α)} {q:List α} {i j:Int} (i0:0≤i) (i1:i < l.length) (j0:0≤j):gl (l.set i.toNat q) j=if j=i then q else gl l j:=by
 unfold gl
 rw [List.getD_eq_getElem?_getD,List.getD_eq_getElem?_getD,List.getElem?_set]
 by_cases h:j=i
 ·subst h; rw [if_pos rfl,if_pos rfl,if_pos (by omega)]; rfl
 ·rw [if_neg (by omega),if_neg h]
end Go.Proofs.YtilhlobfebngdaaGreat
namespace Go.Proofs.YtilhlobfebngdaaGreat
open Go Go.Li
theorem ZV (x y:List Int) (hx:x.length≤1048576000):sU x y=some (x == y):=FH x y hx
theorem nr {a b:List Int} {e:Int} (h0:0≤e) (h1:e < a.length):gi (thenS a b) e=gi b (gi a e):=ue h0 h1
theorem Ht {a b:List Int} {y n:Int} (hb:∀ x∈a,0≤x∧x < b.length) (hn:∀ z∈b,0≤z∧z < n) (hy:y∈thenS a b):0≤y∧y < n:=by
 obtain ⟨i,hi,rfl⟩:=o9.1 hy
 have h:=hb _ (cy hi.1 hi.2)
 exact hn _ (cy h.1 h.2)
section
end
theorem D3 {n:Int} (n0:0≤n) (n1:n≤1048576):nW n=some (ns n.toNat):=by
 unfold nW
 obtain ⟨k,rfl⟩ : ∃ k:Nat,n=k:=⟨n.toNat,by omega⟩
 rw [HK (by omega) (by omega),aF]
 have hl:(ns k).length=k:=cT k
 refine (congrArg aq (ud (ns k) (fun i=>((i:Int),(ns k).take i++List.replicate (k - i) (0:Int))) (by simp) ?_ (e:=((k:Int),ns k)) ?_)).trans rfl
 ·intro i x hx
  have zZ:=hx
  obtain ⟨rfl,hi⟩:=gh hx
  have hc:=JP (ns k) (0:Int) zZ
  have O9:=get_copy (ns k) (0:Int) zZ
  rw [hl] at hc O9
  show lG k (i:Int) _=_
  unfold lG
  rw [bb (by rw [List.length_replicate]; omega),cond_true,cw,O9,aF,cA (by omega),Int.toNat_natCast,hc]
 ·rw [hl]
  show lG k _ _=_
  unfold lG
  rw [br (by rw [List.length_replicate]; omega),cond_false,Nat.sub_self,List.take_of_length_le (by omega)]
  simp
theorem BQ {n:Nat} {e:Int} (h0:0≤e) (h1:e < n):gi (ns n) e=e:=by
 have h:=ue (g:=fun e=>e) h0 h1
 rwa [show ec n (fun e:Int=>e)=ns n from List.map_id' _] at h
theorem Yw {a b:List Int} (hl:a.length=b.length) (h:∀ x:Int,0≤x→x < b.length→gi a x=gi b x):a=b:=by
 refine List.ext_getElem hl fun i h1 h2=>?_
 have:=h i (by omega) (by omega)
 unfold gi at this
 rw [List.getD_eq_getElem?_getD,List.getD_eq_getElem?_getD,show ((i:Int)).toNat=i from rfl,List.getElem?_eq_getElem h1,List.getElem?_eq_getElem h2] at this
 exact this
end Go.Proofs.YtilhlobfebngdaaGreat
