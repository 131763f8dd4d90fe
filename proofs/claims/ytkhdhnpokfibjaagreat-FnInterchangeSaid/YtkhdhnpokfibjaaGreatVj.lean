/- Tables told by two numbers: loops in loops that fill a list, and what stands where. No condition beside those that each theorem names. -/
import Derived.Test.YtkhdhnpokfibjaaGreatPk
import Derived.Test.YtkhdhnpokfibjaaGreatPe
namespace Go.Proofs.YtkhdhnpokfibjaaGreat
open Go Go.Li
def tab2 {β:Type} (n m:Nat) (g:Int→Int→β):List β:=(mapI n fun a=>mapI m (g a)).flatten
theorem tab2_zero {β:Type} (m:Nat) (g:Int→Int→β):tab2 0 m g=[]:=rfl
theorem tab2_succ {β:Type} (n m:Nat) (g:Int→Int→β):tab2 (n+1) m g=tab2 n m g++mapI m (g n):=by
 unfold tab2
 rw [mapI_succ,List.flatten_append]
 simp
theorem tab2_length {β:Type} (n m:Nat) (g:Int→Int→β):(tab2 n m g).length=n * m:=by
 induction n with
 | zero=>simp [tab2_zero]
 | succ n ih=>rw [tab2_succ,List.length_append,ih,dP,Nat.succ_mul]
theorem tab2_get {β:Type} {n m:Nat} (g:Int→Int→β) {a b:Nat} (ha:a < n) (hb:b < m):(tab2 n m g)[a * m+b]? = some (g a b):=by
 induction n with
 | zero=>omega
 | succ n ih=>
  rw [tab2_succ]
  by_cases h:a < n
  ·have hl:a * m+b < (tab2 n m g).length:=by
    rw [tab2_length]
    have:(a+1) * m≤n * m:=Nat.mul_le_mul_right m h
    rw [Nat.succ_mul] at this
    omega
   rw [List.getElem?_append_left hl]
   exact ih h
  ·obtain rfl:a=n:=by omega
   rw [List.getElem?_append_right (by rw [tab2_length]; omega),tab2_length,show a * m+b - a * m=b by omega]
   exact mapI_get _ hb
theorem tab2_mem {β:Type} {n m:Nat} {g:Int→Int→β} {y:β}:y∈tab2 n m g↔∃ a b:Int,(0≤a∧a < n)∧(0≤b∧b < m)∧g a b=y:=by
 unfold tab2
 rw [List.mem_flatten]
 constructor
 ·rintro ⟨l,hl,hy⟩
  obtain ⟨a,ha,rfl⟩:=mapI_mem.1 hl
  obtain ⟨b,hb,rfl⟩:=mapI_mem.1 hy
  exact ⟨a,b,ha,hb,rfl⟩
 ·rintro ⟨a,b,ha,hb,rfl⟩
  exact ⟨_,mapI_mem.2 ⟨a,ha,rfl⟩,mapI_mem.2 ⟨b,hb,rfl⟩⟩
theorem split2 {n m k:Nat} (h:k < n * m):∃ a b,a < n∧b < m∧k=a * m+b:=by
 have hm:0 < m:=by
  rcases Nat.eq_zero_or_pos m with rfl | hm
  ·simp at h
  ·exact hm
 exact ⟨k / m,k % m,Nat.div_lt_of_lt_mul (by rwa [Nat.mul_comm] at h),Nat.mod_lt _ hm,by rw [Nat.mul_comm]; exact (Nat.div_add_mod k m).symm⟩
section
variable {S S1 R β:Type} {body:S1→Option (Out S1 R)} {k:Nat} {f:S1→Option (Out S R)} {s0':S1}
theorem app_loop (n:Nat) (g:Int→β) (acc0:List β) (pk:List β→Nat→S1) (e0:pk acc0 0=s0')
  (step:∀ i acc,i < n→acc.length=acc0.length+i→body (pk acc i)=some (.norm (pk (acc++[g i]) (i+1)))) (last:∀ acc,acc.length=acc0.length+n→body (pk acc n)=some (.exit k (pk acc n))) :
  lbind (blockM k (loopM body s0')) f=f (pk (acc0++mapI n g) n):=by
 refine (map_loop n g (fun acc i=>pk (acc0++acc) i) (by rw [List.append_nil]; exact e0) (fun i acc hi ha=>?_) fun acc ha=>?_)
 ·rw [step i _ hi (by rw [List.length_append,ha]),List.append_assoc]
 ·exact last _ (by rw [List.length_append,ha])
theorem flat_loop (n m:Nat) (g:Int→Int→β) (acc0:List β) (pk:List β→Nat→S1) (e0:pk acc0 0=s0')
  (step:∀ i acc,i < n→acc.length=acc0.length+i * m→body (pk acc i)=some (.norm (pk (acc++mapI m (g i)) (i+1)))) (last:∀ acc,acc.length=acc0.length+n * m→body (pk acc n)=some (.exit k (pk acc n))) :
  lbind (blockM k (loopM body s0')) f=f (pk (acc0++tab2 n m g) n):=by
 rw [← e0]
 refine (congrArg (fun s=>lbind (blockM k (loopM body s)) f) (show pk acc0 0=pk (acc0++tab2 0 m g) 0 by rw [tab2_zero,List.append_nil])).trans ?_
 refine for_all (ns n) (fun i=>pk (acc0++tab2 i m g) i) rfl ?_ ?_
 ·intro i x hx
  obtain ⟨rfl,hi⟩:=ns_get hx
  rw [step i _ hi (by rw [List.length_append,tab2_length]),tab2_succ,List.append_assoc]
 ·rw [fB]; exact last _ (by rw [List.length_append,tab2_length])
end
theorem gi_mapI {n:Nat} {g:Int→Int} {i:Int} (h0:0≤i) (h1:i < n):gi (mapI n g) i=g i:=by
 obtain ⟨k,rfl⟩ : ∃ k:Nat,i=k:=⟨i.toNat,by omega⟩
 have h:=mapI_get g (i:=k) (n:=n) (by omega)
 unfold gi
 rw [List.getD_eq_getElem?_getD,show ((k:Int)).toNat=k from rfl,h]; rfl
theorem gi_tab2 {n m:Nat} {g:Int→Int→Int} {a b:Int} (a0:0≤a) (a1:a < n) (b0:0≤b) (b1:b < m):gi (tab2 n m g) (a * m+b)=g a b:=by
 obtain ⟨i,rfl⟩ : ∃ k:Nat,a=k:=⟨a.toNat,by omega⟩
 obtain ⟨j,rfl⟩ : ∃ k:Nat,b=k:=⟨b.toNat,by omega⟩
 have h:=tab2_get g (a:=i) (b:=j) (n:=n) (m:=m) (by omega) (by omega)
 unfold gi
 rw [List.getD_eq_getElem?_getD,show ((i:Int) * (m:Int)+(j:Int)).toNat=i * m+j by
  rw [← Int.natCast_mul,← Int.natCast_add]; rfl,h]; rfl
end Go.Proofs.YtkhdhnpokfibjaaGreat
namespace Go.Proofs.YtkhdhnpokfibjaaGreat
open Go Go.Li
theorem mapI_map {β γ:Type} (n:Nat) (g:Int→β) (h:β→γ):(mapI n g).map h=mapI n fun i=>h (g i):=by
 induction n with
 | zero=>rfl
 | succ n ih=>rw [mapI_succ,mapI_succ,List.map_append,ih]; rfl
theorem tab2_map {β γ:Type} (n m:Nat) (g:Int→Int→β) (h:β→γ):(tab2 n m g).map h=tab2 n m fun a b=>h (g a b):=by
 induction n with
 | zero=>rfl
 | succ n ih=>rw [tab2_succ,tab2_succ,List.map_append,ih,mapI_map]
structure Ty (c:aI):Prop where
 o0:0≤c.aD
 f:∀ x∈c.aG,0≤x∧x < c.aD
 tl:c.To.length=c.aG.length
 t:∀ x∈c.To,0≤x∧x < c.aD
 kl:c.aF.length=c.aG.length
 kr:∀ r∈c.aF,r.length=c.aG.length
 il:(c.aJ.length:Int)=c.aD
 i:∀ x∈c.aJ,0≤x∧x < c.aG.length
 idf:∀ x:Int,0≤x→x < c.aD→gi c.aG (gi c.aJ x)=x
 idt:∀ x:Int,0≤x→x < c.aD→gi c.To (gi c.aJ x)=x
 cell:∀ f g:Int,0≤f→f < c.aG.length→0≤g→g < c.aG.length→gi c.To f=gi c.aG g→(0≤gk c.aF f g∧gk c.aF f g < c.aG.length)∧gi c.aG (gk c.aF f g)=gi c.aG f∧gi c.To (gk c.aF f g)=gi c.To g
 none:∀ f g:Int,0≤f→f < c.aG.length→0≤g→g < c.aG.length→gi c.To f≠gi c.aG g→gk c.aF f g = -1
 uu:∀ x:Int,0≤x→x < c.aD→gk c.aF (gi c.aJ x) (gi c.aJ x)=gi c.aJ x
namespace Ty
variable {c:aI} (h:Ty c)
include h
theorem fr {f:Int} (h0:0≤f) (h1:f < c.aG.length):0≤gi c.aG f∧gi c.aG f < c.aD:=h.f _ (gi_mem h0 h1)
theorem to {f:Int} (h0:0≤f) (h1:f < c.aG.length):0≤gi c.To f∧gi c.To f < c.aD:=h.t _ (gi_mem h0 (by rw [h.tl]; exact h1))
theorem id {x:Int} (h0:0≤x) (h1:x < c.aD):0≤gi c.aJ x∧gi c.aJ x < c.aG.length:=h.i _ (gi_mem h0 (by rw [h.il]; exact h1))
theorem idxF {f:Int} (h0:0≤f) (h1:f < c.aG.length):idx c.aG f=some (gi c.aG f):=have _:=h; cU h0 h1
theorem idxT {f:Int} (h0:0≤f) (h1:f < c.aG.length):idx c.To f=some (gi c.To f):=cU h0 (by rw [h.tl]; exact h1)
theorem idxI {x:Int} (h0:0≤x) (h1:x < c.aD):idx c.aJ x=some (gi c.aJ x):=cU h0 (by rw [h.il]; exact h1)
theorem idxK {f:Int} (h0:0≤f) (h1:f < c.aG.length):idx c.aF f=some (gr c.aF f):=idx_gr h0 (by rw [h.kl]; exact h1)
theorem row {f:Int} (h0:0≤f) (h1:f < c.aG.length):(gr c.aF f).length=c.aG.length:=h.kr _ (gr_mem h0 (by rw [h.kl]; exact h1))
theorem idxC {f g:Int} (h0:0≤f) (h1:f < c.aG.length) (h2:0≤g) (h3:g < c.aG.length):idx (gr c.aF f) g=some (gk c.aF f g):=cU h2 (by rw [h.row h0 h1]; exact h3)
theorem comp_lt {f g:Int} (h0:0≤f) (h1:f < c.aG.length) (h2:0≤g) (h3:g < c.aG.length) : -1≤gk c.aF f g∧gk c.aF f g < c.aG.length:=by
 by_cases e:gi c.To f=gi c.aG g
 ·have:=(h.cell f g h0 h1 h2 h3 e).1; omega
 ·rw [h.none f g h0 h1 h2 h3 e]; omega
end Ty
def prodCell (c d:aI) (a b f g:Int):Int:=
 if 0≤gk c.aF a f∧0≤gk d.aF b g then gk c.aF a f * d.aG.length+gk d.aF b g else -1
def prodC (c d:aI):aI:=
 ⟨c.aD * d.aD,tab2 c.aG.length d.aG.length fun a b=>gi c.aG a * d.aD+gi d.aG b,
  tab2 c.aG.length d.aG.length fun a b=>gi c.To a * d.aD+gi d.To b,
  tab2 c.aD.toNat d.aD.toNat fun x y=>gi c.aJ x * d.aG.length+gi d.aJ y,
  tab2 c.aG.length d.aG.length fun a b=>tab2 c.aG.length d.aG.length (prodCell c d a b)⟩
theorem mul_bd {i n a b:Int} (i0:0≤i) (i1:i≤a) (n0:0≤n) (n1:n≤b):0≤i * n∧i * n≤a * b:=
 ⟨Int.mul_nonneg i0 n0,Int.mul_le_mul i1 n1 n0 (Int.le_trans i0 i1)⟩
theorem specProduct {c d:aI} (C:Ty c) (D:Ty d) (co:c.aD≤10000) (cm:c.aG.length≤10000) (dO:d.aD≤10000) (dm:d.aG.length≤10000):fZ c d=some (prodC c d):=by
 have c0:=C.o0
 have d0:=D.o0
 obtain ⟨no,hno⟩ : ∃ n:Nat,c.aD=n:=⟨c.aD.toNat,by omega⟩
 obtain ⟨nd,hnd⟩ : ∃ n:Nat,d.aD=n:=⟨d.aD.toNat,by omega⟩
 have bnd:∀ {x y n:Int} {m:Nat},0≤x→x < n→n≤10000→0≤y→y < m→m≤10000→w64 (w64 (x * (m:Int))+y)=x * m+y:=by
  intro x y n m x0 x1 x2 y0 y1 y2
  have:=mul_bd (n:=(m:Int)) (b:=10000) x0 (Int.le_of_lt x1) (by omega) (by omega)
  have h2:n * 10000≤10000 * 10000:=Int.mul_le_mul_of_nonneg_right x2 (by omega)
  rw [eX (a:=x * (m:Int)) (by omega) (by omega),eX (by omega) (by omega)]
 unfold fZ
 refine (congrArg retM (flat_loop (β:=Int) no nd (fun x y=>gi c.aJ x * d.aG.length+gi d.aJ y) [] (fun acc i=>((i:Int),acc)) rfl ?_ ?_)).trans ?_
 ·intro i acc hi ha
  show fO c d i acc=_
  unfold fO
  rw [decT (by omega:(i:Int) < c.aD),cond_true]
  refine (app_loop (β:=Int) nd (fun y=>gi c.aJ i * d.aG.length+gi d.aJ y) acc (fun acc j=>((j:Int),acc)) rfl ?_ ?_).trans ?_
  ·intro j acc' hj ha'
   show fN c d i j acc'=_
   unfold fN
   have hl:acc'.length≤100010000:=by
    have:i * nd≤10000 * 10000:=Nat.mul_le_mul (by omega) (by omega)
    simp only [List.length_nil] at ha
    omega
   have e1:=C.id (x:=(i:Int)) (by omega) (by omega)
   have e2:=D.id (x:=(j:Int)) (by omega) (by omega)
   rw [decT (by omega:(j:Int) < d.aD),cond_true,C.idxI (by omega) (by omega),aH,D.idxI (by omega) (by omega),aH,fA (by omega) (by omega),aH,cP (by omega),bnd e1.1 e1.2 (by omega) e2.1 e2.2 (by omega)]
  ·intro acc' _
   show fN c d i _ acc'=_
   unfold fN
   rw [decF (by omega),cond_false]
  ·dsimp only
   rw [cP (by omega)]
 ·intro acc _
  show fO c d _ acc=_
  unfold fO
  rw [decF (by omega),cond_false]
 ·dsimp only
  refine (congrArg retM (flat_loop (β:=Int×Int×List Int) c.aG.length d.aG.length (fun a b=>(gi c.aG a * d.aD+gi d.aG b,gi c.To a * d.aD+gi d.To b,tab2 c.aG.length d.aG.length (prodCell c d a b))) [] (fun acc i=>((i:Int),acc.map (·.1),acc.map (·.2.1),acc.map (·.2.2))) rfl ?_ ?_)).trans ?_
  ·intro i acc hi ha
   show fS c d i (acc.map (·.1)) (acc.map (·.2.1)) (acc.map (·.2.2))=_
   unfold fS
   rw [decT (by omega:(i:Int) < (c.aG.length:Int)),cond_true]
   refine (app_loop (β:=Int×Int×List Int) d.aG.length (fun b=>(gi c.aG i * d.aD+gi d.aG b,gi c.To i * d.aD+gi d.To b,tab2 c.aG.length d.aG.length (prodCell c d i b))) acc (fun acc j=>((j:Int),acc.map (·.1),acc.map (·.2.1),acc.map (·.2.2))) rfl ?_ ?_).trans ?_
   ·intro j acc' hj ha'
    show fR c d i j (acc'.map (·.1)) (acc'.map (·.2.1)) (acc'.map (·.2.2))=_
    unfold fR
    have i0:(0:Int)≤i:=by omega
    have i1:(i:Int) < (c.aG.length:Int):=by omega
    have j0:(0:Int)≤j:=by omega
    have j1:(j:Int) < (d.aG.length:Int):=by omega
    have hl:acc'.length≤100010000:=by
     have:i * d.aG.length≤10000 * 10000:=Nat.mul_le_mul (by omega) dm
     simp only [List.length_nil] at ha
     omega
    have f1:=C.fr i0 i1
    have f2:=D.fr j0 j1
    have t1:=C.to i0 i1
    have t2:=D.to j0 j1
    rw [decT (by omega:(j:Int) < (d.aG.length:Int)),cond_true,C.idxF i0 i1,aH,D.idxF j0 j1,aH,fA (by rw [List.length_map]; omega) (by rw [List.length_map]; omega),aH,C.idxT i0 i1,aH,D.idxT j0 j1,aH,fA (by rw [List.length_map]; omega) (by rw [List.length_map]; omega),aH]
    refine (flat_loop (β:=Int) c.aG.length d.aG.length (prodCell c d i j) [] (fun acc p=>(acc,(p:Int))) rfl ?_ ?_).trans ?_
    ·intro p row hp hr
     show fQ c d i j row p=_
     unfold fQ
     have p0:(0:Int)≤p:=by omega
     have p1:(p:Int) < (c.aG.length:Int):=by omega
     rw [decT (by omega:(p:Int) < (c.aG.length:Int)),cond_true]
     refine (app_loop (β:=Int) d.aG.length (fun q=>prodCell c d i j p q) row (fun acc q=>(acc,(q:Int))) rfl ?_ ?_).trans ?_
     ·intro q row' hq hr'
      show fP c d i j p row' q=_
      unfold fP
      have q0:(0:Int)≤q:=by omega
      have q1:(q:Int) < (d.aG.length:Int):=by omega
      have hl':row'.length≤100010000:=by
       have:p * d.aG.length≤10000 * 10000:=Nat.mul_le_mul (by omega) dm
       simp only [List.length_nil] at hr
       omega
      have k1:=C.comp_lt i0 i1 p0 p1
      have k2:=D.comp_lt j0 j1 q0 q1
      rw [decT (by omega:(q:Int) < (d.aG.length:Int)),cond_true,C.idxK i0 i1,aH,C.idxC i0 i1 p0 p1,aH]
      by_cases e1:0≤gk c.aF i p
      ·rw [decT (show gk c.aF i p ≥ 0 from e1),cond_true,D.idxK j0 j1,aH,D.idxC j0 j1 q0 q1,aH,aH]
       by_cases e2:0≤gk d.aF j q
       ·rw [decT (show gk d.aF j q ≥ 0 from e2),cond_true,aH,C.idxC i0 i1 p0 p1,aH,aH,D.idxC j0 j1 q0 q1,aH,fA (by omega) (by omega),aH,cP (by omega),bnd e1 k1.2 (by omega) e2 k2.2 (by omega)]
        unfold prodCell
        rw [if_pos ⟨e1,e2⟩]
       ·rw [decF (show ¬ gk d.aF j q ≥ 0 from e2),cond_false,fA (by omega) (by omega),aH,cP (by omega)]
        unfold prodCell
        rw [if_neg (fun h=>e2 h.2)]
      ·rw [decF (show ¬ gk c.aF i p ≥ 0 from e1),cond_false,aH,cond_false,fA (by omega) (by omega),aH,cP (by omega)]
       unfold prodCell
       rw [if_neg (fun h=>e1 h.1)]
     ·intro row' _
      show fP c d i j p row' _=_
      unfold fP
      rw [decF (by omega),cond_false]
     ·dsimp only
      rw [cP (by omega)]
    ·intro row _
     show fQ c d i j row _=_
     unfold fQ
     rw [decF (by omega),cond_false]
    ·dsimp only
     rw [fA (by rw [List.length_map]; omega) (by rw [List.length_map]; omega),aH,cP (by omega),hnd,bnd f1.1 f1.2 co f2.1 (by omega) (by omega),bnd t1.1 t1.2 co t2.1 (by omega) (by omega)]
     simp only [List.map_append,List.map_cons,List.map_nil,List.nil_append]
   ·intro acc' _
    show fR c d i _ (acc'.map (·.1)) (acc'.map (·.2.1)) (acc'.map (·.2.2))=_
    unfold fR
    rw [decF (by omega),cond_false]
   ·dsimp only
    rw [cP (by omega)]
  ·intro acc _
   show fS c d _ (acc.map (·.1)) (acc.map (·.2.1)) (acc.map (·.2.2))=_
   unfold fS
   rw [decF (by omega),cond_false]
  ·have:=mul_bd (a:=10000) (b:=10000) c0 co d0 dO
   show some _=_
   rw [List.nil_append,List.nil_append,tab2_map,tab2_map,tab2_map,eX (by omega) (by omega)]
   unfold prodC
   rw [hno,hnd]
   rfl
end Go.Proofs.YtkhdhnpokfibjaaGreat
