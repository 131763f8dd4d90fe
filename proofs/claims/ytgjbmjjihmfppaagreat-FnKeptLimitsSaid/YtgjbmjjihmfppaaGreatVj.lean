/- Tables told by two numbers: loops in loops that fill a list, and what stands where. No condition beside those that each theorem names. -/
import Derived.Test.YtgjbmjjihmfppaaGreatPj
import Derived.Test.YtgjbmjjihmfppaaGreatPe
import Derived.Test.YtgjbmjjihmfppaaGreatVc
namespace Go.Proofs.YtgjbmjjihmfppaaGreat
open Go Go.Li
def ml {β:Type} (n m:Nat) (g:Int→Int→β):List β:=(er n fun a=>er m (g a)).flatten
theorem FY {β:Type} (m:Nat) (g:Int→Int→β):ml 0 m g=[]:=rfl
theorem wc {β:Type} (n m:Nat) (g:Int→Int→β):ml (n+1) m g=ml n m g++er m (g n):=by
 unfold ml
 rw [r3,List.flatten_append]
 simp
theorem gv {β:Type} (n m:Nat) (g:Int→Int→β):(ml n m g).length=n * m:=by
 induction n with
 | zero=>simp [FY]
 | succ n ih=>rw [wc,List.length_append,ih,cO,Nat.succ_mul]
theorem II {β:Type} {n m:Nat} (g:Int→Int→β) {a b:Nat} (ha:a < n) (hb:b < m):(ml n m g)[a * m+b]? = some (g a b):=by
 induction n with
 | zero=>omega
 | succ n ih=>
  rw [wc]
  by_cases h:a < n
  ·have hl:a * m+b < (ml n m g).length:=by
    rw [gv]
    have:(a+1) * m≤n * m:=Nat.mul_le_mul_right m h
    rw [Nat.succ_mul] at this
    omega
   rw [List.getElem?_append_left hl]
   exact ih h
  ·obtain rfl:a=n:=by omega
   rw [List.getElem?_append_right (by rw [gv]; omega),gv,show a * m+b - a * m=b by omega]
   exact qw _ hb
theorem Au {β:Type} {n m:Nat} {g:Int→Int→β} {y:β}:y∈ml n m g↔∃ a b:Int,(0≤a∧a < n)∧(0≤b∧b < m)∧g a b=y:=by
 unfold ml
 rw [List.mem_flatten]
 constructor
 ·rintro ⟨l,hl,hy⟩
  obtain ⟨a,ha,rfl⟩:=o4.1 hl
  obtain ⟨b,hb,rfl⟩:=o4.1 hy
  exact ⟨a,b,ha,hb,rfl⟩
 ·rintro ⟨a,b,ha,hb,rfl⟩
  exact ⟨_,o4.2 ⟨a,ha,rfl⟩,o4.2 ⟨b,hb,rfl⟩⟩
theorem WG {n m k:Nat} (h:k < n * m):∃ a b,a < n∧b < m∧k=a * m+b:=by
 have hm:0 < m:=by
  rcases Nat.eq_zero_or_pos m with rfl | hm
  ·simp at h
  ·exact hm
 exact ⟨k / m,k % m,Nat.div_lt_of_lt_mul (by rwa [Nat.mul_comm] at h),Nat.mod_lt _ hm,by rw [Nat.mul_comm]; exact (Nat.div_add_mod k m).symm⟩
section
variable {S S1 R β:Type} {body:S1→Option (Out S1 R)} {k:Nat} {f:S1→Option (Out S R)} {Is:S1}
theorem tR (n:Nat) (g:Int→β) (vz:List β) (pk:List β→Nat→S1) (e0:pk vz 0=Is)
  (step:∀ i acc,i < n→acc.length=vz.length+i→body (pk acc i)=some (.norm (pk (acc++[g i]) (i+1)))) (last:∀ acc,acc.length=vz.length+n→body (pk acc n)=some (.exit k (pk acc n))) :
  ag (ae k (ai body Is)) f=f (pk (vz++er n g) n):=by
 refine (vw n g (fun acc i=>pk (vz++acc) i) (by rw [List.append_nil]; exact e0) (fun i acc hi ha=>?_) fun acc ha=>?_)
 ·rw [step i _ hi (by rw [List.length_append,ha]),List.append_assoc]
 ·exact last _ (by rw [List.length_append,ha])
theorem yH (n m:Nat) (g:Int→Int→β) (vz:List β) (pk:List β→Nat→S1) (e0:pk vz 0=Is)
  (step:∀ i acc,i < n→acc.length=vz.length+i * m→body (pk acc i)=some (.norm (pk (acc++er m (g i)) (i+1)))) (last:∀ acc,acc.length=vz.length+n * m→body (pk acc n)=some (.exit k (pk acc n))) :
  ag (ae k (ai body Is)) f=f (pk (vz++ml n m g) n):=by
 rw [← e0]
 refine (congrArg (fun s=>ag (ae k (ai body s)) f) (show pk vz 0=pk (vz++ml 0 m g) 0 by rw [FY,List.append_nil])).trans ?_
 refine n7 (ns n) (fun i=>pk (vz++ml i m g) i) rfl ?_ ?_
 ·intro i x hx
  obtain ⟨rfl,hi⟩:=ic hx
  rw [step i _ hi (by rw [List.length_append,gv]),wc,List.append_assoc]
 ·rw [dD]; exact last _ (by rw [List.length_append,gv])
end
theorem um {n:Nat} {g:Int→Int} {i:Int} (h0:0≤i) (h1:i < n):gi (er n g) i=g i:=by
 obtain ⟨k,rfl⟩ : ∃ k:Nat,i=k:=⟨i.toNat,by omega⟩
 have h:=qw g (i:=k) (n:=n) (by omega)
 unfold gi
 rw [List.getD_eq_getElem?_getD,show ((k:Int)).toNat=k from rfl,h]; rfl
theorem w6 {n m:Nat} {g:Int→Int→Int} {a b:Int} (a0:0≤a) (a1:a < n) (b0:0≤b) (b1:b < m):gi (ml n m g) (a * m+b)=g a b:=by
 obtain ⟨i,rfl⟩ : ∃ k:Nat,a=k:=⟨a.toNat,by omega⟩
 obtain ⟨j,rfl⟩ : ∃ k:Nat,b=k:=⟨b.toNat,by omega⟩
 have h:=II g (a:=i) (b:=j) (n:=n) (m:=m) (by omega) (by omega)
 unfold gi
 rw [List.getD_eq_getElem?_getD,show ((i:Int) * (m:Int)+(j:Int)).toNat=i * m+j by
  rw [← Int.natCast_mul,← Int.natCast_add]; rfl,h]; rfl
end Go.Proofs.YtgjbmjjihmfppaaGreat
namespace Go.Proofs.YtgjbmjjihmfppaaGreat
open Go Go.Li
theorem Qm {β γ:Type} (n:Nat) (g:Int→β) (h:β→γ):(er n g).map h=er n fun i=>h (g i):=by
 induction n with
 | zero=>rfl
 | succ n ih=>rw [r3,r3,List.map_append,ih]; rfl
theorem x8 {β γ:Type} (n m:Nat) (g:Int→Int→β) (h:β→γ):(ml n m g).map h=ml n m fun a b=>h (g a b):=by
 induction n with
 | zero=>rfl
 | succ n ih=>rw [wc,wc,List.map_append,ih,Qm]
structure Ty (c:aI):Prop where
 o0:0≤c.aA
 f:∀ x∈c.aF,0≤x∧x < c.aA
 tl:c.To.length=c.aF.length
 t:∀ x∈c.To,0≤x∧x < c.aA
 kl:c.aD.length=c.aF.length
 kr:∀ r∈c.aD,r.length=c.aF.length
 il:(c.aJ.length:Int)=c.aA
 i:∀ x∈c.aJ,0≤x∧x < c.aF.length
 v7:∀ x:Int,0≤x→x < c.aA→gi c.aF (gi c.aJ x)=x
 xR:∀ x:Int,0≤x→x < c.aA→gi c.To (gi c.aJ x)=x
 cell:∀ f g:Int,0≤f→f < c.aF.length→0≤g→g < c.aF.length→gi c.To f=gi c.aF g→(0≤gk c.aD f g∧gk c.aD f g < c.aF.length)∧gi c.aF (gk c.aD f g)=gi c.aF f∧gi c.To (gk c.aD f g)=gi c.To g
 none:∀ f g:Int,0≤f→f < c.aF.length→0≤g→g < c.aF.length→gi c.To f≠gi c.aF g→gk c.aD f g = -1
 uu:∀ x:Int,0≤x→x < c.aA→gk c.aD (gi c.aJ x) (gi c.aJ x)=gi c.aJ x
namespace Ty
variable {c:aI} (h:Ty c)
include h
theorem fr {f:Int} (h0:0≤f) (h1:f < c.aF.length):0≤gi c.aF f∧gi c.aF f < c.aA:=h.f _ (ep h0 h1)
theorem to {f:Int} (h0:0≤f) (h1:f < c.aF.length):0≤gi c.To f∧gi c.To f < c.aA:=h.t _ (ep h0 (by rw [h.tl]; exact h1))
theorem id {x:Int} (h0:0≤x) (h1:x < c.aA):0≤gi c.aJ x∧gi c.aJ x < c.aF.length:=h.i _ (ep h0 (by rw [h.il]; exact h1))
theorem ja {f:Int} (h0:0≤f) (h1:f < c.aF.length):idx c.aF f=some (gi c.aF f):=have _:=h; cB h0 h1
theorem je {f:Int} (h0:0≤f) (h1:f < c.aF.length):idx c.To f=some (gi c.To f):=cB h0 (by rw [h.tl]; exact h1)
theorem oK {x:Int} (h0:0≤x) (h1:x < c.aA):idx c.aJ x=some (gi c.aJ x):=cB h0 (by rw [h.il]; exact h1)
theorem mb {f:Int} (h0:0≤f) (h1:f < c.aF.length):idx c.aD f=some (gr c.aD f):=rq h0 (by rw [h.kl]; exact h1)
theorem row {f:Int} (h0:0≤f) (h1:f < c.aF.length):(gr c.aD f).length=c.aF.length:=h.kr _ (qh h0 (by rw [h.kl]; exact h1))
theorem lg {f g:Int} (h0:0≤f) (h1:f < c.aF.length) (h2:0≤g) (h3:g < c.aF.length):idx (gr c.aD f) g=some (gk c.aD f g):=cB h2 (by rw [h.row h0 h1]; exact h3)
theorem Cp {f g:Int} (h0:0≤f) (h1:f < c.aF.length) (h2:0≤g) (h3:g < c.aF.length) : -1≤gk c.aD f g∧gk c.aD f g < c.aF.length:=by
 by_cases e:gi c.To f=gi c.aF g
 ·have:=(h.cell f g h0 h1 h2 h3 e).1; omega
 ·rw [h.none f g h0 h1 h2 h3 e]; omega
end Ty
def nq (c d:aI) (a b f g:Int):Int:=
 if 0≤gk c.aD a f∧0≤gk d.aD b g then gk c.aD a f * d.aF.length+gk d.aD b g else -1
def vI (c d:aI):aI:=
 ⟨c.aA * d.aA,ml c.aF.length d.aF.length fun a b=>gi c.aF a * d.aA+gi d.aF b,
  ml c.aF.length d.aF.length fun a b=>gi c.To a * d.aA+gi d.To b,
  ml c.aA.toNat d.aA.toNat fun x y=>gi c.aJ x * d.aF.length+gi d.aJ y,
  ml c.aF.length d.aF.length fun a b=>ml c.aF.length d.aF.length (nq c d a b)⟩
theorem IJ {i n a b:Int} (i0:0≤i) (i1:i≤a) (n0:0≤n) (n1:n≤b):0≤i * n∧i * n≤a * b:=
 ⟨Int.mul_nonneg i0 n0,Int.mul_le_mul i1 n1 n0 (Int.le_trans i0 i1)⟩
theorem Jc {c d:aI} (C:Ty c) (D:Ty d) (co:c.aA≤10000) (cm:c.aF.length≤10000) (dO:d.aA≤10000) (dm:d.aF.length≤10000):eY c d=some (vI c d):=by
 have c0:=C.o0
 have d0:=D.o0
 obtain ⟨no,sN⟩ : ∃ n:Nat,c.aA=n:=⟨c.aA.toNat,by omega⟩
 obtain ⟨nd,df⟩ : ∃ n:Nat,d.aA=n:=⟨d.aA.toNat,by omega⟩
 have RL:∀ {x y n:Int} {m:Nat},0≤x→x < n→n≤10000→0≤y→y < m→m≤10000→aj (aj (x * (m:Int))+y)=x * m+y:=by
  intro x y n m x0 x1 x2 y0 y1 y2
  have:=IJ (n:=(m:Int)) (b:=10000) x0 (Int.le_of_lt x1) (by omega) (by omega)
  have h2:n * 10000≤10000 * 10000:=Int.mul_le_mul_of_nonneg_right x2 (by omega)
  rw [dK (a:=x * (m:Int)) (by omega) (by omega),dK (by omega) (by omega)]
 unfold eY
 refine (congrArg ak (yH (β:=Int) no nd (fun x y=>gi c.aJ x * d.aF.length+gi d.aJ y) [] (fun acc i=>((i:Int),acc)) rfl ?_ ?_)).trans ?_
 ·intro i acc hi ha
  show eR c d i acc=_
  unfold eR
  rw [av (by omega:(i:Int) < c.aA),cond_true]
  refine (tR (β:=Int) nd (fun y=>gi c.aJ i * d.aF.length+gi d.aJ y) acc (fun acc j=>((j:Int),acc)) rfl ?_ ?_).trans ?_
  ·intro j tS hj MK
   show eQ c d i j tS=_
   unfold eQ
   have hl:tS.length≤100010000:=by
    have:i * nd≤10000 * 10000:=Nat.mul_le_mul (by omega) (by omega)
    simp only [List.length_nil] at ha
    omega
   have e1:=C.id (x:=(i:Int)) (by omega) (by omega)
   have e2:=D.id (x:=(j:Int)) (by omega) (by omega)
   rw [av (by omega:(j:Int) < d.aA),cond_true,C.oK (by omega) (by omega),aG,D.oK (by omega) (by omega),aG,dF (by omega) (by omega),aG,bN (by omega),RL e1.1 e1.2 (by omega) e2.1 e2.2 (by omega)]
  ·intro tS _
   show eQ c d i _ tS=_
   unfold eQ
   rw [bd (by omega),cond_false]
  ·dsimp only
   rw [bN (by omega)]
 ·intro acc _
  show eR c d _ acc=_
  unfold eR
  rw [bd (by omega),cond_false]
 ·dsimp only
  refine (congrArg ak (yH (β:=Int×Int×List Int) c.aF.length d.aF.length (fun a b=>(gi c.aF a * d.aA+gi d.aF b,gi c.To a * d.aA+gi d.To b,ml c.aF.length d.aF.length (nq c d a b))) [] (fun acc i=>((i:Int),acc.map (·.1),acc.map (·.2.1),acc.map (·.2.2))) rfl ?_ ?_)).trans ?_
  ·intro i acc hi ha
   show eW c d i (acc.map (·.1)) (acc.map (·.2.1)) (acc.map (·.2.2))=_
   unfold eW
   rw [av (by omega:(i:Int) < (c.aF.length:Int)),cond_true]
   refine (tR (β:=Int×Int×List Int) d.aF.length (fun b=>(gi c.aF i * d.aA+gi d.aF b,gi c.To i * d.aA+gi d.To b,ml c.aF.length d.aF.length (nq c d i b))) acc (fun acc j=>((j:Int),acc.map (·.1),acc.map (·.2.1),acc.map (·.2.2))) rfl ?_ ?_).trans ?_
   ·intro j tS hj MK
    show eV c d i j (tS.map (·.1)) (tS.map (·.2.1)) (tS.map (·.2.2))=_
    unfold eV
    have i0:(0:Int)≤i:=by omega
    have i1:(i:Int) < (c.aF.length:Int):=by omega
    have j0:(0:Int)≤j:=by omega
    have j1:(j:Int) < (d.aF.length:Int):=by omega
    have hl:tS.length≤100010000:=by
     have:i * d.aF.length≤10000 * 10000:=Nat.mul_le_mul (by omega) dm
     simp only [List.length_nil] at ha
     omega
    have f1:=C.fr i0 i1
    have f2:=D.fr j0 j1
    have t1:=C.to i0 i1
    have t2:=D.to j0 j1
    rw [av (by omega:(j:Int) < (d.aF.length:Int)),cond_true,C.ja i0 i1,aG,D.ja j0 j1,aG,dF (by rw [List.length_map]; omega) (by rw [List.length_map]; omega),aG,C.je i0 i1,aG,D.je j0 j1,aG,dF (by rw [List.length_map]; omega) (by rw [List.length_map]; omega),aG]
    refine (yH (β:=Int) c.aF.length d.aF.length (nq c d i j) [] (fun acc p=>(acc,(p:Int))) rfl ?_ ?_).trans ?_
    ·intro p row hp hr
     show eU c d i j row p=_
     unfold eU
     have p0:(0:Int)≤p:=by omega
     have p1:(p:Int) < (c.aF.length:Int):=by omega
     rw [av (by omega:(p:Int) < (c.aF.length:Int)),cond_true]
     refine (tR (β:=Int) d.aF.length (fun q=>nq c d i j p q) row (fun acc q=>(acc,(q:Int))) rfl ?_ ?_).trans ?_
     ·intro q LC hq fq
      show eS c d i j p LC q=_
      unfold eS
      have q0:(0:Int)≤q:=by omega
      have q1:(q:Int) < (d.aF.length:Int):=by omega
      have Dr:LC.length≤100010000:=by
       have:p * d.aF.length≤10000 * 10000:=Nat.mul_le_mul (by omega) dm
       simp only [List.length_nil] at hr
       omega
      have k1:=C.Cp i0 i1 p0 p1
      have k2:=D.Cp j0 j1 q0 q1
      rw [av (by omega:(q:Int) < (d.aF.length:Int)),cond_true,C.mb i0 i1,aG,C.lg i0 i1 p0 p1,aG]
      by_cases e1:0≤gk c.aD i p
      ·rw [av (show gk c.aD i p ≥ 0 from e1),cond_true,D.mb j0 j1,aG,D.lg j0 j1 q0 q1,aG,aG]
       by_cases e2:0≤gk d.aD j q
       ·rw [av (show gk d.aD j q ≥ 0 from e2),cond_true,aG,C.lg i0 i1 p0 p1,aG,aG,D.lg j0 j1 q0 q1,aG,dF (by omega) (by omega),aG,bN (by omega),RL e1 k1.2 (by omega) e2 k2.2 (by omega)]
        unfold nq
        rw [if_pos ⟨e1,e2⟩]
       ·rw [bd (show ¬ gk d.aD j q ≥ 0 from e2),cond_false,dF (by omega) (by omega),aG,bN (by omega)]
        unfold nq
        rw [if_neg (fun h=>e2 h.2)]
      ·rw [bd (show ¬ gk c.aD i p ≥ 0 from e1),cond_false,aG,cond_false,dF (by omega) (by omega),aG,bN (by omega)]
       unfold nq
       rw [if_neg (fun h=>e1 h.1)]
     ·intro LC _
      show eS c d i j p LC _=_
      unfold eS
      rw [bd (by omega),cond_false]
     ·dsimp only
      rw [bN (by omega)]
    ·intro row _
     show eU c d i j row _=_
     unfold eU
     rw [bd (by omega),cond_false]
    ·dsimp only
     rw [dF (by rw [List.length_map]; omega) (by rw [List.length_map]; omega),aG,bN (by omega),df,RL f1.1 f1.2 co f2.1 (by omega) (by omega),RL t1.1 t1.2 co t2.1 (by omega) (by omega)]
     simp only [List.map_append,List.map_cons,List.map_nil,List.nil_append]
   ·intro tS _
    show eV c d i _ (tS.map (·.1)) (tS.map (·.2.1)) (tS.map (·.2.2))=_
    unfold eV
    rw [bd (by omega),cond_false]
   ·dsimp only
    rw [bN (by omega)]
  ·intro acc _
   show eW c d _ (acc.map (·.1)) (acc.map (·.2.1)) (acc.map (·.2.2))=_
   unfold eW
   rw [bd (by omega),cond_false]
  ·have:=IJ (a:=10000) (b:=10000) c0 co d0 dO
   show some _=_
   rw [List.nil_append,List.nil_append,x8,x8,x8,dK (by omega) (by omega)]
   unfold vI
   rw [sN,df]
   rfl
end Go.Proofs.YtgjbmjjihmfppaaGreat
namespace Go.Proofs.YtgjbmjjihmfppaaGreat
open Go Go.Li
def zA (l:List Int) (n y:Int):Prop:=(y = -1∧∀ k:Nat,l[k]?≠some n)∨∃ k:Nat,y=k∧l[k]? = some n∧∀ j:Nat,j < k→l[j]?≠some n
theorem zA.u4 {l:List Int} {n y z:Int} (h:zA l n y) (k:zA l n z):y=z:=by
 rcases h with ⟨rfl,h⟩ | ⟨a,rfl,h1,h2⟩
 ·rcases k with ⟨rfl,_⟩ | ⟨b,rfl,k1,_⟩
  ·rfl
  ·exact absurd k1 (h b)
 ·rcases k with ⟨rfl,k⟩ | ⟨b,rfl,k1,k2⟩
  ·exact absurd h1 (k a)
  ·rcases Nat.lt_trichotomy a b with va | rfl | va
   ·exact absurd h1 (k2 a va)
   ·rfl
   ·exact absurd k1 (h2 b va)
theorem zA.pos {l:List Int} {n y:Int} (h:zA l n y) (hy:0≤y):y < l.length∧l[y.toNat]? = some n:=by
 rcases h with ⟨rfl,_⟩ | ⟨k,rfl,h1,_⟩
 ·omega
 ·exact ⟨by have:=(List.getElem?_eq_some_iff.1 h1).1; omega,h1⟩
theorem zA.app {l:List Int} {n y m:Int} (h:zA l n y) (hy:0≤y):zA (l++[m]) n y:=by
 rcases h with ⟨rfl,_⟩ | ⟨k,rfl,h1,h2⟩
 ·omega
 ·have hk:=(List.getElem?_eq_some_iff.1 h1).1
  exact .inr ⟨k,rfl,by rw [List.getElem?_append_left hk]; exact h1,fun j hj=>by rw [List.getElem?_append_left (by omega)]; exact h2 j hj⟩
theorem zA.new {l:List Int} {n y:Int} (h:zA l n y) (hy:y < 0):zA (l++[n]) n (l.length:Int):=by
 rcases h with ⟨_,h⟩ | ⟨k,rfl,_⟩
 ·refine .inr ⟨l.length,rfl,by simp,fun j hj=>?_⟩
  rw [List.getElem?_append_left hj]
  exact h j
 ·omega
theorem Qn {l:List Int} {n:Int} (hl:l.length≤1048576):Ok (nK l n) (zA l n):=by
 unfold nK
 refine jk (ol (fun s:Int=>(0≤s∧s≤l.length)∧∀ k:Nat,(k:Int) < s→l[k]?≠some n) (fun s=>(l.length - s).toNat) ⟨⟨Int.le_refl _,by omega⟩,fun k hk=>by omega⟩ ?_)
 rintro s ⟨⟨s0,s1⟩,hs⟩
 unfold qW
 refine od (fun h=>?_) fun h=>os ⟨rfl,os (.inl ⟨rfl,fun k hk=>?_⟩)⟩
 ·obtain ⟨i,rfl⟩ : ∃ i:Nat,s=i:=⟨s.toNat,by omega⟩
  refine oe (cB s0 h) ?_
  have hg:l[i]? = some (gi l i):=by
   have:=cB s0 h
   rwa [bu] at this
  refine oc (fun e=>os ?_) fun e=>os ⟨⟨⟨?_,?_⟩,fun k hk=>?_⟩,?_⟩
  ·exact .inr ⟨i,rfl,by rw [hg,of_decide_eq_true e],fun j hj=>hs j (by omega)⟩
  ·rw [w1 s0 h (by omega)]; omega
  ·rw [w1 s0 h (by omega)]; omega
  ·rw [w1 s0 h (by omega)] at hk
   rcases (by omega:k < i∨k=i) with h3 | rfl
   ·exact hs k (by omega)
   ·rw [hg]
    intro h4
    have:gi l k=n:=Option.some.inj h4
    rw [this] at e
    simp at e
  ·dsimp only; rw [w1 s0 h (by omega)]; omega
 ·have:=(List.getElem?_eq_some_iff.1 hk).1
  exact hs k (by omega) hk
def Rg (q:List Int):Prop:=∀ y∈q,∀ z:Int,0≤z→z≤y→z∈q
theorem LD {l:List Int} (hl:l.length≤1048576):Ok (lL l) fun q=>q.length=l.length∧(∀ y∈q,0≤y∧y < l.length)∧(∀ i j:Nat,i < l.length→l[i]? = l[j]?→q[i]? = q[j]?)∧Rg q:=by
 unfold lL
 refine jk (ol (fun z:List Int×List Int×Int=>(0≤z.2.2∧z.2.2≤l.length)∧(z.1.length:Int)=z.2.2∧(z.2.1.length:Int)≤z.2.2∧(∀ k:Nat,(k:Int) < z.2.2→∃ a:Int,0≤a∧z.1[k]? = some a∧∃ n,l[k]? = some n∧zA z.2.1 n a)∧∀ k:Nat,k < z.2.1.length→(k:Int)∈z.1) (fun z=>(l.length - z.2.2).toNat) ⟨⟨by show (0:Int)≤0; omega,by show (0:Int)≤_; omega⟩,rfl,by show (0:Int)≤0; omega,fun k hk=>by have:(k:Int) < 0:=hk; omega,fun k hk=>absurd hk (Nat.not_lt_zero _)⟩ ?_)
 rintro ⟨out,seen,s⟩ ⟨⟨s0,s1⟩,ho,hn,hk,hz⟩
 dsimp only at s0 s1 ho hn hk hz
 show Ok (lX l out seen s) _
 unfold lX
 refine od (fun h=>?_) fun h=>os ⟨rfl,os ⟨by omega,fun y hy=>?_,fun i j hi sY=>?_,fun y hy z z0 z1=>?_⟩⟩
 ·obtain ⟨i,rfl⟩ : ∃ i:Nat,s=i:=⟨s.toNat,by omega⟩
  have hg:l[i]? = some (gi l i):=by
   have:=cB s0 h
   rwa [bu] at this
  refine oe (cB s0 h) (ob (Qn (by omega)) fun y hy=>?_)
  have hw:=w1 s0 h (by omega)
  refine od (fun Dh=>oe (cB s0 h) (fg (by omega) (by omega) (fg (by omega) (by omega) (os ⟨⟨⟨?_,?_⟩,?_,?_,fun k xg=>?_,fun k GK=>?_⟩,?_⟩)))) fun Z4=>fg (by omega) (by omega) (os ⟨⟨⟨?_,?_⟩,?_,?_,fun k xg=>?_,fun k GK=>?_⟩,?_⟩)
  all_goals first | (dsimp only at xg; rw [hw] at xg) | skip
  all_goals dsimp only
  all_goals first | (rw [hw]; simp only [List.length_append,List.length_singleton]; omega) | (rw [hw]; omega) | skip
  ·rcases (by omega:k < i∨k=i) with h3 | rfl
   ·obtain ⟨a,a0,e,n,e2,hf⟩:=hk k (by omega)
    exact ⟨a,a0,by rw [List.getElem?_append_left (by omega)]; exact e,n,e2,hf.app a0⟩
   ·refine ⟨seen.length,by omega,?_,gi l k,hg,hy.new Dh⟩
    rw [List.getElem?_append_right (by omega),show k - out.length=0 by omega]; rfl
  ·simp only [List.length_append,List.length_singleton] at GK
   rcases (by omega:k < seen.length∨k=seen.length) with h3 | rfl
   ·exact List.mem_append_left _ (hz k h3)
   ·exact List.mem_append_right _ (List.mem_singleton.2 rfl)
  ·rcases (by omega:k < i∨k=i) with h3 | rfl
   ·obtain ⟨a,a0,e,n,e2,hf⟩:=hk k (by omega)
    exact ⟨a,a0,by rw [List.getElem?_append_left (by omega)]; exact e,n,e2,hf⟩
   ·refine ⟨y,by omega,?_,gi l k,hg,hy⟩
    rw [List.getElem?_append_right (by omega),show k - out.length=0 by omega]; rfl
  ·exact List.mem_append_left _ (hz k GK)
 ·obtain ⟨k,IK⟩:=List.getElem?_of_mem hy
  have bj:=(List.getElem?_eq_some_iff.1 IK).1
  obtain ⟨a,a0,e,n,e2,hf⟩:=hk k (by omega)
  rw [e] at IK
  obtain rfl:=Option.some.inj IK
  have:=(hf.pos a0).1
  omega
 ·have hj:j < l.length:=by
   rw [List.getElem?_eq_getElem hi] at sY
   exact (List.getElem?_eq_some_iff.1 sY.symm).1
  obtain ⟨a,a0,e,n,e2,hf⟩:=hk i (by omega)
  obtain ⟨b,b0,e',n',WH,uH⟩:=hk j (by omega)
  rw [e2,WH] at sY
  obtain rfl:=Option.some.inj sY
  rw [e,e',hf.u4 uH]
 ·obtain ⟨k,IK⟩:=List.getElem?_of_mem hy
  have bj:=(List.getElem?_eq_some_iff.1 IK).1
  obtain ⟨a,a0,e,n,e2,hf⟩:=hk k (by omega)
  rw [e] at IK
  obtain rfl:=Option.some.inj IK
  have:=(hf.pos a0).1
  have:=hz z.toNat (by omega)
  rwa [show ((z.toNat:Nat):Int)=z by omega] at this
end Go.Proofs.YtgjbmjjihmfppaaGreat
namespace Go.Proofs.YtgjbmjjihmfppaaGreat
open Go Go.Li
theorem WI {cl:List (List Int)} {y:Nat} {q:List Int} (x:Nat):gr (cl.set y q) x=if y=x∧y < cl.length then q else gr cl x:=by
 unfold gr
 rw [List.getD_eq_getElem?_getD,List.getD_eq_getElem?_getD,show ((x:Int)).toNat=x from rfl,List.getElem?_set]
 by_cases h:y=x
 ·subst h
  by_cases h2:y < cl.length
  ·simp [h2]
  ·simp [h2]
 ·simp [h]
theorem WJ {l:List (List Int)} {y:List Int} (h:y∈l):∃ i:Int,0≤i∧i < l.length∧gr l i=y:=by
 obtain ⟨k,hk⟩:=List.getElem?_of_mem h
 have hl:=(List.getElem?_eq_some_iff.1 hk).1
 refine ⟨k,by omega,by omega,?_⟩
 unfold gr
 rw [List.getD_eq_getElem?_getD,show ((k:Int)).toNat=k from rfl,hk]; rfl
theorem n8 {l:List Int} {q:Int} {i j:Int} (i0:0≤i) (i1:i < l.length) (j0:0≤j):gi (l.set i.toNat q) j=if j=i then q else gi l j:=by
 unfold gi
 rw [List.getD_eq_getElem?_getD,List.getD_eq_getElem?_getD,List.getElem?_set]
 by_cases h:j=i
 ·subst h; rw [if_pos rfl,if_pos rfl,if_pos (by omega)]; rfl
 ·rw [if_neg (by omega),if_neg h]
theorem BV {l:List Int} {y:Int} (h:y∈l):∃ i:Int,0≤i∧i < l.length∧gi l i=y:=by
 obtain ⟨k,hk⟩:=List.getElem?_of_mem h
 have hl:=(List.getElem?_eq_some_iff.1 hk).1
 refine ⟨k,by omega,by omega,?_⟩
 unfold gi
 rw [List.getD_eq_getElem?_getD,show ((k:Int)).toNat=k from rfl,hk]; rfl
section
end
end Go.Proofs.YtgjbmjjihmfppaaGreat
namespace Go.Proofs.YtgjbmjjihmfppaaGreat
open Go Go.Li
theorem jz {l:List Int} {q:Int} {j:Int} (h0:0≤j):gi (l++[q]) j=if j < l.length then gi l j else if j=l.length then q else 0:=by
 obtain ⟨n,rfl⟩ : ∃ n:Nat,j=n:=⟨j.toNat,by omega⟩
 unfold gi
 rw [List.getD_eq_getElem?_getD,List.getD_eq_getElem?_getD,show ((n:Int)).toNat=n from rfl]
 by_cases h:n < l.length
 ·rw [List.getElem?_append_left h,if_pos (by omega)]
 ·rw [List.getElem?_append_right (by omega),if_neg (by omega)]
  by_cases e:n=l.length
  ·subst e; rw [if_pos rfl,Nat.sub_self]; rfl
  ·rw [if_neg (by omega),List.getElem?_eq_none (by simp; omega)]; rfl
theorem Ec {l:List (List Int)} {q:List Int} {j:Int} (h0:0≤j):gr (l++[q]) j=if j < l.length then gr l j else if j=l.length then q else []:=by
 obtain ⟨n,rfl⟩ : ∃ n:Nat,j=n:=⟨j.toNat,by omega⟩
 unfold gr
 rw [List.getD_eq_getElem?_getD,List.getD_eq_getElem?_getD,show ((n:Int)).toNat=n from rfl]
 by_cases h:n < l.length
 ·rw [List.getElem?_append_left h,if_pos (by omega)]
 ·rw [List.getElem?_append_right (by omega),if_neg (by omega)]
  by_cases e:n=l.length
  ·subst e; rw [if_pos rfl,Nat.sub_self]; rfl
  ·rw [if_neg (by omega),List.getElem?_eq_none (by simp; omega)]; rfl
theorem LU {α:Type} {l:List (List α)} {q:List α} {i j:Int} (i0:0≤i) (i1:i < l.length) (j0:0≤j):gl (l.set i.toNat q) j=if j=i then q else gl l j:=by
 unfold gl
 rw [List.getD_eq_getElem?_getD,List.getD_eq_getElem?_getD,List.getElem?_set]
 by_cases h:j=i
 ·subst h; rw [if_pos rfl,if_pos rfl,if_pos (by omega)]; rfl
 ·rw [if_neg (by omega),if_neg h]
end Go.Proofs.YtgjbmjjihmfppaaGreat
namespace Go.Proofs.YtgjbmjjihmfppaaGreat
open Go Go.Li
theorem x7 {a b:List Int} {e:Int} (h0:0≤e) (h1:e < a.length):gi (thenS a b) e=gi b (gi a e):=um h0 h1
theorem FZ {a b:List Int} {y n:Int} (hb:∀ x∈a,0≤x∧x < b.length) (hn:∀ z∈b,0≤z∧z < n) (hy:y∈thenS a b):0≤y∧y < n:=by
 obtain ⟨i,hi,rfl⟩:=o4.1 hy
 have h:=hb _ (ep hi.1 hi.2)
 exact hn _ (ep h.1 h.2)
section
end
theorem NT {a b:List Int} (hl:a.length=b.length) (h:∀ x:Int,0≤x→x < b.length→gi a x=gi b x):a=b:=by
 refine List.ext_getElem hl fun i h1 h2=>?_
 have:=h i (by omega) (by omega)
 unfold gi at this
 rw [List.getD_eq_getElem?_getD,List.getD_eq_getElem?_getD,show ((i:Int)).toNat=i from rfl,List.getElem?_eq_getElem h1,List.getElem?_eq_getElem h2] at this
 exact this
end Go.Proofs.YtgjbmjjihmfppaaGreat
