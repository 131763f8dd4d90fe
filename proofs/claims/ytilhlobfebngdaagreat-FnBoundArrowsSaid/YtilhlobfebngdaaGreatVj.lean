/- Tables told by two numbers: loops in loops that fill a list, and what stands where. No condition beside those that each theorem names. -/
import Derived.Test.YtilhlobfebngdaaGreatPj
import Derived.Test.YtilhlobfebngdaaGreatPe
import Derived.Test.YtilhlobfebngdaaGreatVc
namespace Go.Proofs.YtilhlobfebngdaaGreat
open Go Go.Li
def nm {β:Type} (n m:Nat) (g:Int→Int→β):List β:=(cg n fun a=>cg m (g a)).flatten
theorem IY {β:Type} (m:Nat) (g:Int→Int→β):nm 0 m g=[]:=rfl
theorem yx {β:Type} (n m:Nat) (g:Int→Int→β):nm (n+1) m g=nm n m g++cg m (g n):=by
 unfold nm
 rw [j6,List.flatten_append]
 simp
theorem ir {β:Type} (n m:Nat) (g:Int→Int→β):(nm n m g).length=n * m:=by
 induction n with
 | zero=>simp [IY]
 | succ n ih=>rw [yx,List.length_append,ih,cE,Nat.succ_mul]
theorem LM {β:Type} {n m:Nat} (g:Int→Int→β) {a b:Nat} (ha:a < n) (hb:b < m):(nm n m g)[a * m+b]? = some (g a b):=by
 induction n with
 | zero=>omega
 | succ n ih=>
  rw [yx]
  by_cases h:a < n
  ·have hl:a * m+b < (nm n m g).length:=by
    rw [ir]
    have:(a+1) * m≤n * m:=Nat.mul_le_mul_right m h
    rw [Nat.succ_mul] at this
    omega
   rw [List.getElem?_append_left hl]
   exact ih h
  ·obtain rfl:a=n:=by omega
   rw [List.getElem?_append_right (by rw [ir]; omega),ir,show a * m+b - a * m=b by omega]
   exact ov _ hb
theorem CU {β:Type} {n m:Nat} {g:Int→Int→β} {y:β}:y∈nm n m g↔∃ a b:Int,(0≤a∧a < n)∧(0≤b∧b < m)∧g a b=y:=by
 unfold nm
 rw [List.mem_flatten]
 constructor
 ·rintro ⟨l,hl,hy⟩
  obtain ⟨a,ha,rfl⟩:=nj.1 hl
  obtain ⟨b,hb,rfl⟩:=nj.1 hy
  exact ⟨a,b,ha,hb,rfl⟩
 ·rintro ⟨a,b,ha,hb,rfl⟩
  exact ⟨_,nj.2 ⟨a,ha,rfl⟩,nj.2 ⟨b,hb,rfl⟩⟩
theorem aaY {n m k:Nat} (h:k < n * m):∃ a b,a < n∧b < m∧k=a * m+b:=by
 have hm:0 < m:=by
  rcases Nat.eq_zero_or_pos m with rfl | hm
  ·simp at h
  ·exact hm
 exact ⟨k / m,k % m,Nat.div_lt_of_lt_mul (by rwa [Nat.mul_comm] at h),Nat.mod_lt _ hm,by rw [Nat.mul_comm]; exact (Nat.div_add_mod k m).symm⟩
section
variable {S S1 R β:Type} {body:S1→Option (Out S1 R)} {k:Nat} {f:S1→Option (Out S R)} {Lq:S1}
theorem wb (n:Nat) (g:Int→β) (xU:List β) (pk:List β→Nat→S1) (e0:pk xU 0=Lq)
  (step:∀ i acc,i < n→acc.length=xU.length+i→body (pk acc i)=some (.norm (pk (acc++[g i]) (i+1)))) (last:∀ acc,acc.length=xU.length+n→body (pk acc n)=some (.exit k (pk acc n))) :
  af (ae k (ah body Lq)) f=f (pk (xU++cg n g) n):=by
 refine (u3 n g (fun acc i=>pk (xU++acc) i) (by rw [List.append_nil]; exact e0) (fun i acc hi ha=>?_) fun acc ha=>?_)
 ·rw [step i _ hi (by rw [List.length_append,ha]),List.append_assoc]
 ·exact last _ (by rw [List.length_append,ha])
theorem Bj (n m:Nat) (g:Int→Int→β) (xU:List β) (pk:List β→Nat→S1) (e0:pk xU 0=Lq)
  (step:∀ i acc,i < n→acc.length=xU.length+i * m→body (pk acc i)=some (.norm (pk (acc++cg m (g i)) (i+1)))) (last:∀ acc,acc.length=xU.length+n * m→body (pk acc n)=some (.exit k (pk acc n))) :
  af (ae k (ah body Lq)) f=f (pk (xU++nm n m g) n):=by
 rw [← e0]
 refine (congrArg (fun s=>af (ae k (ah body s)) f) (show pk xU 0=pk (xU++nm 0 m g) 0 by rw [IY,List.append_nil])).trans ?_
 refine gu (ns n) (fun i=>pk (xU++nm i m g) i) rfl ?_ ?_
 ·intro i x hx
  obtain ⟨rfl,hi⟩:=dy hx
  rw [step i _ hi (by rw [List.length_append,ir]),yx,List.append_assoc]
 ·rw [cN]; exact last _ (by rw [List.length_append,ir])
end
theorem sc {n:Nat} {g:Int→Int} {i:Int} (h0:0≤i) (h1:i < n):gi (cg n g) i=g i:=by
 obtain ⟨k,rfl⟩ : ∃ k:Nat,i=k:=⟨i.toNat,by omega⟩
 have h:=ov g (i:=k) (n:=n) (by omega)
 unfold gi
 rw [List.getD_eq_getElem?_getD,show ((k:Int)).toNat=k from rfl,h]; rfl
theorem zq {n m:Nat} {g:Int→Int→Int} {a b:Int} (a0:0≤a) (a1:a < n) (b0:0≤b) (b1:b < m):gi (nm n m g) (a * m+b)=g a b:=by
 obtain ⟨i,rfl⟩ : ∃ k:Nat,a=k:=⟨a.toNat,by omega⟩
 obtain ⟨j,rfl⟩ : ∃ k:Nat,b=k:=⟨b.toNat,by omega⟩
 have h:=LM g (a:=i) (b:=j) (n:=n) (m:=m) (by omega) (by omega)
 unfold gi
 rw [List.getD_eq_getElem?_getD,show ((i:Int) * (m:Int)+(j:Int)).toNat=i * m+j by
  rw [← Int.natCast_mul,← Int.natCast_add]; rfl,h]; rfl
end Go.Proofs.YtilhlobfebngdaaGreat
namespace Go.Proofs.YtilhlobfebngdaaGreat
open Go Go.Li
theorem Uv {β γ:Type} (n:Nat) (g:Int→β) (h:β→γ):(cg n g).map h=cg n fun i=>h (g i):=by
 induction n with
 | zero=>rfl
 | succ n ih=>rw [j6,j6,List.map_append,ih]; rfl
theorem Ay {β γ:Type} (n m:Nat) (g:Int→Int→β) (h:β→γ):(nm n m g).map h=nm n m fun a b=>h (g a b):=by
 induction n with
 | zero=>rfl
 | succ n ih=>rw [yx,yx,List.map_append,ih,Uv]
structure Ty (c:aF):Prop where
 o0:0≤c.aA
 f:∀ x∈c.aE,0≤x∧x < c.aA
 tl:c.To.length=c.aE.length
 t:∀ x∈c.To,0≤x∧x < c.aA
 kl:c.aC.length=c.aE.length
 kr:∀ r∈c.aC,r.length=c.aE.length
 il:(c.aH.length:Int)=c.aA
 i:∀ x∈c.aH,0≤x∧x < c.aE.length
 yu:∀ x:Int,0≤x→x < c.aA→gi c.aE (gi c.aH x)=x
 yS:∀ x:Int,0≤x→x < c.aA→gi c.To (gi c.aH x)=x
 cell:∀ f g:Int,0≤f→f < c.aE.length→0≤g→g < c.aE.length→gi c.To f=gi c.aE g→(0≤gk c.aC f g∧gk c.aC f g < c.aE.length)∧gi c.aE (gk c.aC f g)=gi c.aE f∧gi c.To (gk c.aC f g)=gi c.To g
 none:∀ f g:Int,0≤f→f < c.aE.length→0≤g→g < c.aE.length→gi c.To f≠gi c.aE g→gk c.aC f g = -1
 uu:∀ x:Int,0≤x→x < c.aA→gk c.aC (gi c.aH x) (gi c.aH x)=gi c.aH x
namespace Ty
variable {c:aF} (h:Ty c)
include h
theorem fr {f:Int} (h0:0≤f) (h1:f < c.aE.length):0≤gi c.aE f∧gi c.aE f < c.aA:=h.f _ (dc h0 h1)
theorem to {f:Int} (h0:0≤f) (h1:f < c.aE.length):0≤gi c.To f∧gi c.To f < c.aA:=h.t _ (dc h0 (by rw [h.tl]; exact h1))
theorem id {x:Int} (h0:0≤x) (h1:x < c.aA):0≤gi c.aH x∧gi c.aH x < c.aE.length:=h.i _ (dc h0 (by rw [h.il]; exact h1))
theorem jc {f:Int} (h0:0≤f) (h1:f < c.aE.length):idx c.aE f=some (gi c.aE f):=have _:=h; bQ h0 h1
theorem jm {f:Int} (h0:0≤f) (h1:f < c.aE.length):idx c.To f=some (gi c.To f):=bQ h0 (by rw [h.tl]; exact h1)
theorem ou {x:Int} (h0:0≤x) (h1:x < c.aA):idx c.aH x=some (gi c.aH x):=bQ h0 (by rw [h.il]; exact h1)
theorem ni {f:Int} (h0:0≤f) (h1:f < c.aE.length):idx c.aC f=some (gr c.aC f):=fx h0 (by rw [h.kl]; exact h1)
theorem row {f:Int} (h0:0≤f) (h1:f < c.aE.length):(gr c.aC f).length=c.aE.length:=h.kr _ (fy h0 (by rw [h.kl]; exact h1))
theorem mi {f g:Int} (h0:0≤f) (h1:f < c.aE.length) (h2:0≤g) (h3:g < c.aE.length):idx (gr c.aC f) g=some (gk c.aC f g):=bQ h2 (by rw [h.row h0 h1]; exact h3)
theorem EV {f g:Int} (h0:0≤f) (h1:f < c.aE.length) (h2:0≤g) (h3:g < c.aE.length) : -1≤gk c.aC f g∧gk c.aC f g < c.aE.length:=by
 by_cases e:gi c.To f=gi c.aE g
 ·have:=(h.cell f g h0 h1 h2 h3 e).1; omega
 ·rw [h.none f g h0 h1 h2 h3 e]; omega
end Ty
def ox (c d:aF) (a b f g:Int):Int:=
 if 0≤gk c.aC a f∧0≤gk d.aC b g then gk c.aC a f * d.aE.length+gk d.aC b g else -1
def x9 (c d:aF):aF:=
 ⟨c.aA * d.aA,nm c.aE.length d.aE.length fun a b=>gi c.aE a * d.aA+gi d.aE b,
  nm c.aE.length d.aE.length fun a b=>gi c.To a * d.aA+gi d.To b,
  nm c.aA.toNat d.aA.toNat fun x y=>gi c.aH x * d.aE.length+gi d.aH y,
  nm c.aE.length d.aE.length fun a b=>nm c.aE.length d.aE.length (ox c d a b)⟩
theorem LP {i n a b:Int} (i0:0≤i) (i1:i≤a) (n0:0≤n) (n1:n≤b):0≤i * n∧i * n≤a * b:=
 ⟨Int.mul_nonneg i0 n0,Int.mul_le_mul i1 n1 n0 (Int.le_trans i0 i1)⟩
theorem Mt {c d:aF} (C:Ty c) (D:Ty d) (co:c.aA≤10000) (cm:c.aE.length≤10000) (dO:d.aA≤10000) (dm:d.aE.length≤10000):gO c d=some (x9 c d):=by
 have c0:=C.o0
 have d0:=D.o0
 obtain ⟨no,ue⟩ : ∃ n:Nat,c.aA=n:=⟨c.aA.toNat,by omega⟩
 obtain ⟨nd,dp⟩ : ∃ n:Nat,d.aA=n:=⟨d.aA.toNat,by omega⟩
 have sn:∀ {x y n:Int} {m:Nat},0≤x→x < n→n≤10000→0≤y→y < m→m≤10000→aj (aj (x * (m:Int))+y)=x * m+y:=by
  intro x y n m x0 x1 x2 y0 y1 y2
  have:=LP (n:=(m:Int)) (b:=10000) x0 (Int.le_of_lt x1) (by omega) (by omega)
  have h2:n * 10000≤10000 * 10000:=Int.mul_le_mul_of_nonneg_right x2 (by omega)
  rw [eH (a:=x * (m:Int)) (by omega) (by omega),eH (by omega) (by omega)]
 unfold gO
 refine (congrArg ak (Bj (β:=Int) no nd (fun x y=>gi c.aH x * d.aE.length+gi d.aH y) [] (fun acc i=>((i:Int),acc)) rfl ?_ ?_)).trans ?_
 ·intro i acc hi ha
  show gC c d i acc=_
  unfold gC
  rw [au (by omega:(i:Int) < c.aA),cond_true]
  refine (wb (β:=Int) nd (fun y=>gi c.aH i * d.aE.length+gi d.aH y) acc (fun acc j=>((j:Int),acc)) rfl ?_ ?_).trans ?_
  ·intro j wc hj ha'
   show gB c d i j wc=_
   unfold gB
   have hl:wc.length≤100010000:=by
    have:i * nd≤10000 * 10000:=Nat.mul_le_mul (by omega) (by omega)
    simp only [List.length_nil] at ha
    omega
   have e1:=C.id (x:=(i:Int)) (by omega) (by omega)
   have e2:=D.id (x:=(j:Int)) (by omega) (by omega)
   rw [au (by omega:(j:Int) < d.aA),cond_true,C.ou (by omega) (by omega),aD,D.ou (by omega) (by omega),aD,dL (by omega) (by omega),aD,bR (by omega),sn e1.1 e1.2 (by omega) e2.1 e2.2 (by omega)]
  ·intro wc _
   show gB c d i _ wc=_
   unfold gB
   rw [ay (by omega),cond_false]
  ·dsimp only
   rw [bR (by omega)]
 ·intro acc _
  show gC c d _ acc=_
  unfold gC
  rw [ay (by omega),cond_false]
 ·dsimp only
  refine (congrArg ak (Bj (β:=Int×Int×List Int) c.aE.length d.aE.length (fun a b=>(gi c.aE a * d.aA+gi d.aE b,gi c.To a * d.aA+gi d.To b,nm c.aE.length d.aE.length (ox c d a b))) [] (fun acc i=>((i:Int),acc.map (·.1),acc.map (·.2.1),acc.map (·.2.2))) rfl ?_ ?_)).trans ?_
  ·intro i acc hi ha
   show gG c d i (acc.map (·.1)) (acc.map (·.2.1)) (acc.map (·.2.2))=_
   unfold gG
   rw [au (by omega:(i:Int) < (c.aE.length:Int)),cond_true]
   refine (wb (β:=Int×Int×List Int) d.aE.length (fun b=>(gi c.aE i * d.aA+gi d.aE b,gi c.To i * d.aA+gi d.To b,nm c.aE.length d.aE.length (ox c d i b))) acc (fun acc j=>((j:Int),acc.map (·.1),acc.map (·.2.1),acc.map (·.2.2))) rfl ?_ ?_).trans ?_
   ·intro j wc hj ha'
    show gF c d i j (wc.map (·.1)) (wc.map (·.2.1)) (wc.map (·.2.2))=_
    unfold gF
    have i0:(0:Int)≤i:=by omega
    have i1:(i:Int) < (c.aE.length:Int):=by omega
    have j0:(0:Int)≤j:=by omega
    have j1:(j:Int) < (d.aE.length:Int):=by omega
    have hl:wc.length≤100010000:=by
     have:i * d.aE.length≤10000 * 10000:=Nat.mul_le_mul (by omega) dm
     simp only [List.length_nil] at ha
     omega
    have f1:=C.fr i0 i1
    have f2:=D.fr j0 j1
    have t1:=C.to i0 i1
    have t2:=D.to j0 j1
    rw [au (by omega:(j:Int) < (d.aE.length:Int)),cond_true,C.jc i0 i1,aD,D.jc j0 j1,aD,dL (by rw [List.length_map]; omega) (by rw [List.length_map]; omega),aD,C.jm i0 i1,aD,D.jm j0 j1,aD,dL (by rw [List.length_map]; omega) (by rw [List.length_map]; omega),aD]
    refine (Bj (β:=Int) c.aE.length d.aE.length (ox c d i j) [] (fun acc p=>(acc,(p:Int))) rfl ?_ ?_).trans ?_
    ·intro p row hp hr
     show gE c d i j row p=_
     unfold gE
     have p0:(0:Int)≤p:=by omega
     have p1:(p:Int) < (c.aE.length:Int):=by omega
     rw [au (by omega:(p:Int) < (c.aE.length:Int)),cond_true]
     refine (wb (β:=Int) d.aE.length (fun q=>ox c d i j p q) row (fun acc q=>(acc,(q:Int))) rfl ?_ ?_).trans ?_
     ·intro q Pc hq ik
      show gD c d i j p Pc q=_
      unfold gD
      have q0:(0:Int)≤q:=by omega
      have q1:(q:Int) < (d.aE.length:Int):=by omega
      have F8:Pc.length≤100010000:=by
       have:p * d.aE.length≤10000 * 10000:=Nat.mul_le_mul (by omega) dm
       simp only [List.length_nil] at hr
       omega
      have k1:=C.EV i0 i1 p0 p1
      have k2:=D.EV j0 j1 q0 q1
      rw [au (by omega:(q:Int) < (d.aE.length:Int)),cond_true,C.ni i0 i1,aD,C.mi i0 i1 p0 p1,aD]
      by_cases e1:0≤gk c.aC i p
      ·rw [au (show gk c.aC i p ≥ 0 from e1),cond_true,D.ni j0 j1,aD,D.mi j0 j1 q0 q1,aD,aD]
       by_cases e2:0≤gk d.aC j q
       ·rw [au (show gk d.aC j q ≥ 0 from e2),cond_true,aD,C.mi i0 i1 p0 p1,aD,aD,D.mi j0 j1 q0 q1,aD,dL (by omega) (by omega),aD,bR (by omega),sn e1 k1.2 (by omega) e2 k2.2 (by omega)]
        unfold ox
        rw [if_pos ⟨e1,e2⟩]
       ·rw [ay (show ¬ gk d.aC j q ≥ 0 from e2),cond_false,dL (by omega) (by omega),aD,bR (by omega)]
        unfold ox
        rw [if_neg (fun h=>e2 h.2)]
      ·rw [ay (show ¬ gk c.aC i p ≥ 0 from e1),cond_false,aD,cond_false,dL (by omega) (by omega),aD,bR (by omega)]
       unfold ox
       rw [if_neg (fun h=>e1 h.1)]
     ·intro Pc _
      show gD c d i j p Pc _=_
      unfold gD
      rw [ay (by omega),cond_false]
     ·dsimp only
      rw [bR (by omega)]
    ·intro row _
     show gE c d i j row _=_
     unfold gE
     rw [ay (by omega),cond_false]
    ·dsimp only
     rw [dL (by rw [List.length_map]; omega) (by rw [List.length_map]; omega),aD,bR (by omega),dp,sn f1.1 f1.2 co f2.1 (by omega) (by omega),sn t1.1 t1.2 co t2.1 (by omega) (by omega)]
     simp only [List.map_append,List.map_cons,List.map_nil,List.nil_append]
   ·intro wc _
    show gF c d i _ (wc.map (·.1)) (wc.map (·.2.1)) (wc.map (·.2.2))=_
    unfold gF
    rw [ay (by omega),cond_false]
   ·dsimp only
    rw [bR (by omega)]
  ·intro acc _
   show gG c d _ (acc.map (·.1)) (acc.map (·.2.1)) (acc.map (·.2.2))=_
   unfold gG
   rw [ay (by omega),cond_false]
  ·have:=LP (a:=10000) (b:=10000) c0 co d0 dO
   show some _=_
   rw [List.nil_append,List.nil_append,Ay,Ay,Ay,eH (by omega) (by omega)]
   unfold x9
   rw [ue,dp]
   rfl
end Go.Proofs.YtilhlobfebngdaaGreat
namespace Go.Proofs.YtilhlobfebngdaaGreat
open Go Go.Li
def B6 (l:List Int) (n y:Int):Prop:=(y = -1∧∀ k:Nat,l[k]?≠some n)∨∃ k:Nat,y=k∧l[k]? = some n∧∀ j:Nat,j < k→l[j]?≠some n
theorem B6.xh {l:List Int} {n y z:Int} (h:B6 l n y) (k:B6 l n z):y=z:=by
 rcases h with ⟨rfl,h⟩ | ⟨a,rfl,h1,h2⟩
 ·rcases k with ⟨rfl,_⟩ | ⟨b,rfl,k1,_⟩
  ·rfl
  ·exact absurd k1 (h b)
 ·rcases k with ⟨rfl,k⟩ | ⟨b,rfl,k1,k2⟩
  ·exact absurd h1 (k a)
  ·rcases Nat.lt_trichotomy a b with yh | rfl | yh
   ·exact absurd h1 (k2 a yh)
   ·rfl
   ·exact absurd k1 (h2 b yh)
theorem B6.pos {l:List Int} {n y:Int} (h:B6 l n y) (hy:0≤y):y < l.length∧l[y.toNat]? = some n:=by
 rcases h with ⟨rfl,_⟩ | ⟨k,rfl,h1,_⟩
 ·omega
 ·exact ⟨by have:=(List.getElem?_eq_some_iff.1 h1).1; omega,h1⟩
theorem B6.app {l:List Int} {n y m:Int} (h:B6 l n y) (hy:0≤y):B6 (l++[m]) n y:=by
 rcases h with ⟨rfl,_⟩ | ⟨k,rfl,h1,h2⟩
 ·omega
 ·have hk:=(List.getElem?_eq_some_iff.1 h1).1
  exact .inr ⟨k,rfl,by rw [List.getElem?_append_left hk]; exact h1,fun j hj=>by rw [List.getElem?_append_left (by omega)]; exact h2 j hj⟩
theorem B6.new {l:List Int} {n y:Int} (h:B6 l n y) (hy:y < 0):B6 (l++[n]) n (l.length:Int):=by
 rcases h with ⟨_,h⟩ | ⟨k,rfl,_⟩
 ·refine .inr ⟨l.length,rfl,by simp,fun j hj=>?_⟩
  rw [List.getElem?_append_left hj]
  exact h j
 ·omega
theorem Uw {l:List Int} {n:Int} (hl:l.length≤1048576):Ok (pZ l n) (B6 l n):=by
 unfold pZ
 refine ie (ol (fun s:Int=>(0≤s∧s≤l.length)∧∀ k:Nat,(k:Int) < s→l[k]?≠some n) (fun s=>(l.length - s).toNat) ⟨⟨Int.le_refl _,by omega⟩,fun k hk=>by omega⟩ ?_)
 rintro s ⟨⟨s0,s1⟩,hs⟩
 unfold tS
 refine od (fun h=>?_) fun h=>os ⟨rfl,os (.inl ⟨rfl,fun k hk=>?_⟩)⟩
 ·obtain ⟨i,rfl⟩ : ∃ i:Nat,s=i:=⟨s.toNat,by omega⟩
  refine oe (bQ s0 h) ?_
  have hg:l[i]? = some (gi l i):=by
   have:=bQ s0 h
   rwa [ch] at this
  refine oc (fun e=>os ?_) fun e=>os ⟨⟨⟨?_,?_⟩,fun k hk=>?_⟩,?_⟩
  ·exact .inr ⟨i,rfl,by rw [hg,of_decide_eq_true e],fun j hj=>hs j (by omega)⟩
  ·rw [w1 s0 h (by omega)]; omega
  ·rw [w1 s0 h (by omega)]; omega
  ·rw [w1 s0 h (by omega)] at hk
   rcases (by omega:k < i∨k=i) with h3 | rfl
   ·exact hs k (by omega)
   ·rw [hg]
    intro h4
    have:gi l k=n:=Option.some.inj h4
    rw [this] at e
    simp at e
  ·dsimp only; rw [w1 s0 h (by omega)]; omega
 ·have:=(List.getElem?_eq_some_iff.1 hk).1
  exact hs k (by omega) hk
def Rg (q:List Int):Prop:=∀ y∈q,∀ z:Int,0≤z→z≤y→z∈q
theorem Pd {l:List Int} (hl:l.length≤1048576):Ok (nT l) fun q=>q.length=l.length∧(∀ y∈q,0≤y∧y < l.length)∧(∀ i j:Nat,i < l.length→l[i]? = l[j]?→q[i]? = q[j]?)∧Rg q:=by
 unfold nT
 refine ie (ol (fun z:List Int×List Int×Int=>(0≤z.2.2∧z.2.2≤l.length)∧(z.1.length:Int)=z.2.2∧(z.2.1.length:Int)≤z.2.2∧(∀ k:Nat,(k:Int) < z.2.2→∃ a:Int,0≤a∧z.1[k]? = some a∧∃ n,l[k]? = some n∧B6 z.2.1 n a)∧∀ k:Nat,k < z.2.1.length→(k:Int)∈z.1) (fun z=>(l.length - z.2.2).toNat) ⟨⟨by show (0:Int)≤0; omega,by show (0:Int)≤_; omega⟩,rfl,by show (0:Int)≤0; omega,fun k hk=>by have:(k:Int) < 0:=hk; omega,fun k hk=>absurd hk (Nat.not_lt_zero _)⟩ ?_)
 rintro ⟨out,seen,s⟩ ⟨⟨s0,s1⟩,ho,hn,hk,hz⟩
 dsimp only at s0 s1 ho hn hk hz
 show Ok (oD l out seen s) _
 unfold oD
 refine od (fun h=>?_) fun h=>os ⟨rfl,os ⟨by omega,fun y hy=>?_,fun i j hi xn=>?_,fun y hy z z0 z1=>?_⟩⟩
 ·obtain ⟨i,rfl⟩ : ∃ i:Nat,s=i:=⟨s.toNat,by omega⟩
  have hg:l[i]? = some (gi l i):=by
   have:=bQ s0 h
   rwa [ch] at this
  refine oe (bQ s0 h) (ob (Uw (by omega)) fun y hy=>?_)
  have hw:=w1 s0 h (by omega)
  refine od (fun FW=>oe (bQ s0 h) (dt (by omega) (by omega) (dt (by omega) (by omega) (os ⟨⟨⟨?_,?_⟩,?_,?_,fun k zG=>?_,fun k JF=>?_⟩,?_⟩)))) fun aeG=>dt (by omega) (by omega) (os ⟨⟨⟨?_,?_⟩,?_,?_,fun k zG=>?_,fun k JF=>?_⟩,?_⟩)
  all_goals first | (dsimp only at zG; rw [hw] at zG) | skip
  all_goals dsimp only
  all_goals first | (rw [hw]; simp only [List.length_append,List.length_singleton]; omega) | (rw [hw]; omega) | skip
  ·rcases (by omega:k < i∨k=i) with h3 | rfl
   ·obtain ⟨a,a0,e,n,e2,hf⟩:=hk k (by omega)
    exact ⟨a,a0,by rw [List.getElem?_append_left (by omega)]; exact e,n,e2,hf.app a0⟩
   ·refine ⟨seen.length,by omega,?_,gi l k,hg,hy.new FW⟩
    rw [List.getElem?_append_right (by omega),show k - out.length=0 by omega]; rfl
  ·simp only [List.length_append,List.length_singleton] at JF
   rcases (by omega:k < seen.length∨k=seen.length) with h3 | rfl
   ·exact List.mem_append_left _ (hz k h3)
   ·exact List.mem_append_right _ (List.mem_singleton.2 rfl)
  ·rcases (by omega:k < i∨k=i) with h3 | rfl
   ·obtain ⟨a,a0,e,n,e2,hf⟩:=hk k (by omega)
    exact ⟨a,a0,by rw [List.getElem?_append_left (by omega)]; exact e,n,e2,hf⟩
   ·refine ⟨y,by omega,?_,gi l k,hg,hy⟩
    rw [List.getElem?_append_right (by omega),show k - out.length=0 by omega]; rfl
  ·exact List.mem_append_left _ (hz k JF)
 ·obtain ⟨k,LR⟩:=List.getElem?_of_mem hy
  have bn:=(List.getElem?_eq_some_iff.1 LR).1
  obtain ⟨a,a0,e,n,e2,hf⟩:=hk k (by omega)
  rw [e] at LR
  obtain rfl:=Option.some.inj LR
  have:=(hf.pos a0).1
  omega
 ·have hj:j < l.length:=by
   rw [List.getElem?_eq_getElem hi] at xn
   exact (List.getElem?_eq_some_iff.1 xn.symm).1
  obtain ⟨a,a0,e,n,e2,hf⟩:=hk i (by omega)
  obtain ⟨b,b0,e',n',e2',wP⟩:=hk j (by omega)
  rw [e2,e2'] at xn
  obtain rfl:=Option.some.inj xn
  rw [e,e',hf.xh wP]
 ·obtain ⟨k,LR⟩:=List.getElem?_of_mem hy
  have bn:=(List.getElem?_eq_some_iff.1 LR).1
  obtain ⟨a,a0,e,n,e2,hf⟩:=hk k (by omega)
  rw [e] at LR
  obtain rfl:=Option.some.inj LR
  have:=(hf.pos a0).1
  have:=hz z.toNat (by omega)
  rwa [show ((z.toNat:Nat):Int)=z by omega] at this
end Go.Proofs.YtilhlobfebngdaaGreat
namespace Go.Proofs.YtilhlobfebngdaaGreat
open Go Go.Li
theorem aa0 {cl:List (List Int)} {y:Nat} {q:List Int} (x:Nat):gr (cl.set y q) x=if y=x∧y < cl.length then q else gr cl x:=by
 unfold gr
 rw [List.getD_eq_getElem?_getD,List.getD_eq_getElem?_getD,show ((x:Int)).toNat=x from rfl,List.getElem?_set]
 by_cases h:y=x
 ·subst h
  by_cases h2:y < cl.length
  ·simp [h2]
  ·simp [h2]
 ·simp [h]
theorem aaw {l:List (List Int)} {y:List Int} (h:y∈l):∃ i:Int,0≤i∧i < l.length∧gr l i=y:=by
 obtain ⟨k,hk⟩:=List.getElem?_of_mem h
 have hl:=(List.getElem?_eq_some_iff.1 hk).1
 refine ⟨k,by omega,by omega,?_⟩
 unfold gr
 rw [List.getD_eq_getElem?_getD,show ((k:Int)).toNat=k from rfl,hk]; rfl
theorem sd {l:List Int} {q:Int} {i j:Int} (i0:0≤i) (i1:i < l.length) (j0:0≤j):gi (l.set i.toNat q) j=if j=i then q else gi l j:=by
 unfold gi
 rw [List.getD_eq_getElem?_getD,List.getD_eq_getElem?_getD,List.getElem?_set]
 by_cases h:j=i
 ·subst h; rw [if_pos rfl,if_pos rfl,if_pos (by omega)]; rfl
 ·rw [if_neg (by omega),if_neg h]
theorem my {l:List Int} {y:Int} (h:y∈l):∃ i:Int,0≤i∧i < l.length∧gi l i=y:=by
 obtain ⟨k,hk⟩:=List.getElem?_of_mem h
 have hl:=(List.getElem?_eq_some_iff.1 hk).1
 refine ⟨k,by omega,by omega,?_⟩
 unfold gi
 rw [List.getD_eq_getElem?_getD,show ((k:Int)).toNat=k from rfl,hk]; rfl
section
end
end Go.Proofs.YtilhlobfebngdaaGreat
namespace Go.Proofs.YtilhlobfebngdaaGreat
open Go Go.Li
theorem lr {l:List Int} {q:Int} {j:Int} (h0:0≤j):gi (l++[q]) j=if j < l.length then gi l j else if j=l.length then q else 0:=by
 obtain ⟨n,rfl⟩ : ∃ n:Nat,j=n:=⟨j.toNat,by omega⟩
 unfold gi
 rw [List.getD_eq_getElem?_getD,List.getD_eq_getElem?_getD,show ((n:Int)).toNat=n from rfl]
 by_cases h:n < l.length
 ·rw [List.getElem?_append_left h,if_pos (by omega)]
 ·rw [List.getElem?_append_right (by omega),if_neg (by omega)]
  by_cases e:n=l.length
  ·subst e; rw [if_pos rfl,Nat.sub_self]; rfl
  ·rw [if_neg (by omega),List.getElem?_eq_none (by simp; omega)]; rfl
theorem Hi {l:List (List Int)} {q:List Int} {j:Int} (h0:0≤j):gr (l++[q]) j=if j < l.length then gr l j else if j=l.length then q else []:=by
 obtain ⟨n,rfl⟩ : ∃ n:Nat,j=n:=⟨j.toNat,by omega⟩
 unfold gr
 rw [List.getD_eq_getElem?_getD,List.getD_eq_getElem?_getD,show ((n:Int)).toNat=n from rfl]
 by_cases h:n < l.length
 ·rw [List.getElem?_append_left h,if_pos (by omega)]
 ·rw [List.getElem?_append_right (by omega),if_neg (by omega)]
  by_cases e:n=l.length
  ·subst e; rw [if_pos rfl,Nat.sub_self]; rfl
  ·rw [if_neg (by omega),List.getElem?_eq_none (by simp; omega)]; rfl
theorem Pn {α:Type} {l:List (List α)} {q:List α} {i j:Int} (i0:0≤i) (i1:i < l.length) (j0:0≤j):gl (l.set i.toNat q) j=if j=i then q else gl l j:=by
 unfold gl
 rw [List.getD_eq_getElem?_getD,List.getD_eq_getElem?_getD,List.getElem?_set]
 by_cases h:j=i
 ·subst h; rw [if_pos rfl,if_pos rfl,if_pos (by omega)]; rfl
 ·rw [if_neg (by omega),if_neg h]
end Go.Proofs.YtilhlobfebngdaaGreat
namespace Go.Proofs.YtilhlobfebngdaaGreat
open Go Go.Li
theorem G8 (x y:List Int) (hx:x.length≤1048576000):eR x y=some (x == y):=G3 x y hx
theorem ta {a b:List Int} {e:Int} (h0:0≤e) (h1:e < a.length):gi (thenS a b) e=gi b (gi a e):=sc h0 h1
theorem IZ {a b:List Int} {y n:Int} (hb:∀ x∈a,0≤x∧x < b.length) (hn:∀ z∈b,0≤z∧z < n) (hy:y∈thenS a b):0≤y∧y < n:=by
 obtain ⟨i,hi,rfl⟩:=nj.1 hy
 have h:=hb _ (dc hi.1 hi.2)
 exact hn _ (dc h.1 h.2)
section
end
theorem Fh {n:Int} (n0:0≤n) (n1:n≤1048576):oQ n=some (ns n.toNat):=by
 unfold oQ
 obtain ⟨k,rfl⟩ : ∃ k:Nat,n=k:=⟨n.toNat,by omega⟩
 rw [EK (by omega) (by omega),aD]
 have hl:(ns k).length=k:=cN k
 refine (congrArg ak (gu (ns k) (fun i=>((i:Int),(ns k).take i++List.replicate (k - i) (0:Int))) (by simp) ?_ (e:=((k:Int),ns k)) ?_)).trans rfl
 ·intro i x hx
  have Bi:=hx
  obtain ⟨rfl,hi⟩:=dy hx
  have hc:=CJ (ns k) (0:Int) Bi
  have Q5:=get_copy (ns k) (0:Int) Bi
  rw [hl] at hc Q5
  show lX k (i:Int) _=_
  unfold lX
  rw [au (by rw [List.length_replicate]; omega),cond_true,ch,Q5,aD,bR (by omega),Int.toNat_natCast,hc]
 ·rw [hl]
  show lX k _ _=_
  unfold lX
  rw [ay (by rw [List.length_replicate]; omega),cond_false,Nat.sub_self,List.take_of_length_le (by omega)]
  simp
theorem Hf {n:Nat} {e:Int} (h0:0≤e) (h1:e < n):gi (ns n) e=e:=by
 have h:=sc (g:=fun e=>e) h0 h1
 rwa [show cg n (fun e:Int=>e)=ns n from List.map_id' _] at h
theorem aa1 {a b:List Int} (hl:a.length=b.length) (h:∀ x:Int,0≤x→x < b.length→gi a x=gi b x):a=b:=by
 refine List.ext_getElem hl fun i h1 h2=>?_
 have:=h i (by omega) (by omega)
 unfold gi at this
 rw [List.getD_eq_getElem?_getD,List.getD_eq_getElem?_getD,show ((i:Int)).toNat=i from rfl,List.getElem?_eq_getElem h1,List.getElem?_eq_getElem h2] at this
 exact this
end Go.Proofs.YtilhlobfebngdaaGreat
