/- That a model does not fail, and what it gives: rules. No condition beside those that each theorem names. -/
import Derived.Test.YtjdkifckhidlbaaGreatPa
import Derived.Test.YtjdkifckhidlbaaGreatPj
namespace Go.Li
open Go
def Ok {α:Type} (m:Option α) (Q:α→Prop):Prop:=∃ x,m=some x∧Q x
section
variable {α β S S1 R:Type}
theorem Ok.mono {m:Option α} {P Q:α→Prop} (h:Ok m P) (hq:∀ x,P x→Q x):Ok m Q:=by
 obtain ⟨x,e,hx⟩:=h
 exact ⟨x,e,hq x hx⟩
theorem os {x:α} {Q:α→Prop} (h:Q x):Ok (some x) Q:=⟨x,rfl,h⟩
theorem ob {m:Option α} {f:α→Option β} {Q:β→Prop} {P:α→Prop} (hm:Ok m P) (h:∀ x,P x→Ok (f x) Q):Ok (m>>=f) Q:=by
 obtain ⟨x,rfl,hx⟩:=hm
 exact h x hx
theorem oe {m:Option α} {f:α→Option β} {Q:β→Prop} {x:α} (e:m=some x) (h:Ok (f x) Q):Ok (m>>=f) Q:=by
 subst e; exact h
theorem oi {l:List α} {j:Int} {f:α→Option β} {Q:β→Prop} (h0:0≤j) (h1:j < l.length) (h:∀ x∈l,Ok (f x) Q):Ok (idx l j>>=f) Q:=by
 rw [Ch h0 h1]
 exact h _ (List.getElem_mem _)
theorem fk {b n:Nat} {f:Unit→Option β} {Q:β→Prop} (h1:n * b≤140737488355328) (h2:n≤9223372036854775807) (h:Ok (f ()) Q):Ok (fits b n>>=f) Q:=oe (dU h1 h2) h
theorem Tb {b:Nat} {j:Int} {f:Nat→Option β} {Q:β→Prop} (h0:0≤j) (h1:b * j.toNat≤281474976710656) (h2:j≤9223372036854775807) (h:Ok (f j.toNat) Q):Ok (mk b j>>=f) Q:=by
 obtain ⟨n,rfl⟩ : ∃ n:Nat,j=n:=⟨j.toNat,by omega⟩
 exact oe (Hb (by simpa using h1) (by omega)) (by simpa using h)
theorem oc {b:Bool} {x y:Option α} {Q:α→Prop} (h1:b=true→Ok x Q) (h2:b=false→Ok y Q):Ok (bif b then x else y) Q:=by
 cases b with
 | true=>exact h1 rfl
 | false=>exact h2 rfl
theorem od {p:Prop} [Decidable p] {x y:Option α} {Q:α→Prop} (h1:p→Ok x Q) (h2 : ¬ p→Ok y Q):Ok (bif decide p then x else y) Q:=
 oc (fun h=>h1 (of_decide_eq_true h)) (fun h=>h2 (of_decide_eq_false h))
theorem og {m:Option Bool} {f:Bool→Option β} {Q:β→Prop} (hm:Ok m fun _=>True) (h:∀ b,Ok (f b) Q):Ok (m>>=f) Q:=ob hm fun b _=>h b
def E8 (k:Nat) (J:S1→Prop) (mu:S1→Nat) (n:Nat) (E:S1→Prop) (G:R→Prop):Out S1 R→Prop
 | .norm s=>J s∧mu s < n
 | .exit k' s=>k'=k∧E s
 | .ret r=>G r
def Rt (Q:R→Prop):Out S R→Prop
 | .ret r=>Q r
 | _=>False
theorem jv {m:Option (Out S R)} {Q:R→Prop} (h:Ok m (Rt Q)):Ok (aq m) Q:=by
 obtain ⟨o,rfl,ho⟩:=h
 cases o with
 | ret r=>exact ⟨r,rfl,ho⟩
 | _=>exact ho.elim
def Rn (Q:R→Prop):Out R R→Prop
 | .norm r=>Q r
 | .ret r=>Q r
 | _=>False
theorem off {m:Option (Out R R)} {Q:R→Prop} (h:Ok m (Rn Q)):Ok (ab7 m) Q:=by
 obtain ⟨o,rfl,ho⟩:=h
 cases o with
 | ret r=>exact ⟨r,rfl,ho⟩
 | norm r=>exact ⟨r,rfl,ho⟩
 | _=>exact ho.elim
theorem ol {body:S1→Option (Out S1 R)} {k:Nat} {f:S1→Option (Out S R)} {Q:Out S R→Prop} (J:S1→Prop) (mu:S1→Nat) {s0:S1} (h0:J s0)
  (step:∀ s,J s→Ok (body s) (E8 k J mu (mu s) (fun s=>Ok (f s) Q) (fun r=>Q (.ret r)))):Ok (ai (af k (aj body s0)) f) Q:=by
 have key:∀ n s,mu s=n→J s→Ok (ai (af k (aj body s)) f) Q:=by
  intro n
  induction n using Nat.strongRecOn with
  | ind n ih=>
   intro s hn hs
   obtain ⟨o,e,ho⟩:=step s hs
   rw [uQ,e]
   cases o with
   | norm s'=>exact ih _ (hn ▸ ho.2) s' rfl ho.1
   | exit k' s'=>
    obtain ⟨rfl,he⟩:=ho
    have:ai (S:=S) (af k' (some (Out.exit k' s':Out S1 R))) f=f s':=Ac rfl
    rw [this]; exact he
   | ret r=>
    have:ai (S:=S) (af k (some (Out.ret r:Out S1 R))) f=some (.ret r):=EX rfl
    rw [this]; exact ⟨_,rfl,ho⟩
 exact key _ s0 rfl h0
end
theorem w1 {i n:Int} (h0:0≤i) (h1:i < n) (hn:n≤1048576000):ao (i+1)=i+1:=dL (by omega) (by omega)
theorem Al {α:Type} {P:α→Prop} {l:List α} {i:Nat} {x:α} (hl:∀ y∈l,P y) (hx:P x):∀ y∈l.set i x,P y:=fun y hy=>by
 rcases List.mem_or_eq_of_mem_set hy with h | h
 ·exact hl y h
 ·rw [h]; exact hx
theorem jf {α:Type} {P:α→Prop} {l:List α} {x:α} (hl:∀ y∈l,P y) (hx:P x):∀ y∈l++[x],P y:=fun y hy=>by
 rcases List.mem_append.1 hy with h | h
 ·exact hl y h
 ·rw [List.mem_singleton.1 h]; exact hx
theorem lu {α:Type} {P:α→Prop}:∀ y∈([]:List α),P y:=fun _ h=>nomatch h
end Go.Li
namespace Go.Proofs.YtjdkifckhidlbaaGreat
open Go Go.Li
structure zm (x:List Int):Prop where
 len:x.length≤4096
 b:∀ y∈x,0≤y∧y < 256
structure Src (x:List Int) (s:aL):Prop where
 c:s.Code=x
 a0:0≤s.At
 a1:s.At≤x.length
theorem Src.on {x:List Int} {s t:aL} {h:Int} (S:Src x s) (T:Src x t):Src x (aL.mk s.Code t.At h):=⟨S.c,T.a0,T.a1⟩
theorem Src.at_ {x:List Int} {s:aL} {a h:Int} (S:Src x s) (h0:0≤a) (h1:a≤x.length):Src x (aL.mk s.Code a h):=⟨S.c,h0,h1⟩
theorem GP (z:Int):∃ n:Nat,n≤16777215∧rf .and .u64 z (16777215:Int)=some (n:Int):=by
 refine ⟨(BitVec.ofInt 64 z &&& BitVec.ofInt 64 16777215).toNat,?_,?_⟩
 ·rw [BitVec.toNat_and]
  exact Nat.le_trans Nat.and_le_right (by decide)
 ·have h:(BitVec.ofInt 64 z &&& BitVec.ofInt 64 16777215).toNat≤16777215:=by
   rw [BitVec.toNat_and]
   exact Nat.le_trans Nat.and_le_right (by decide)
  show some (IntKind.u64.wrap ((BitVec.ofInt 64 z &&& BitVec.ofInt 64 16777215).toNat:Int))=_
  congr 1
  generalize (BitVec.ofInt 64 z &&& BitVec.ofInt 64 16777215).toNat=n at h
  unfold IntKind.wrap
  simp [IntKind.bits,IntKind.signed]
  omega
theorem S9 (z:Int):∃ y,rf .shr .u64 z (33:Int)=some y:=by
 simp only [rf]
 rw [if_neg (by decide)]
 exact ⟨_,rfl⟩
theorem er {x:List Int} (B:zm x) {s:aL} (S:Src x s) (n:Int):Ok (cM s n) fun y=>(0≤y.1∧(1≤n→y.1 < n))∧Src x y.2:=by
 obtain ⟨hc,h0,h1⟩:=S
 have hl:=B.len
 unfold cM
 refine jv (od (fun h=>os ⟨⟨Int.le_refl _,fun h'=>by omega⟩,hc,h0,h1⟩) fun h=>?_)
 obtain ⟨IC,ET⟩:=S9 (IntKind.u64.wrap (IntKind.u64.wrap (s.av * 6364136223846793005)+1442695040888963407))
 refine oe rfl (oe rfl (oe ET ?_))
 obtain ⟨m,hm,em⟩:=GP IC
 refine oe em ?_
 have e1:IntKind.i64.wrap (m:Int)=m:=dL (by omega) (by omega)
 rw [e1]
 have mod:∀ z:Int,0≤z→rf .rem .i64 z n=some (z.tmod n)∧0≤z.tmod n∧z.tmod n < n:=fun z hz=>
  ⟨if_neg (by omega),Int.tmod_nonneg n hz,Int.tmod_lt_of_pos z (by omega)⟩
 refine od (fun h2=>?_) fun h2=>?_
 ·rw [hc] at h2 ⊢
  refine oi h0 h2 fun y hy=>?_
  have hb:=B.b y hy
  rw [show IntKind.i64.wrap y=y from dL (by omega) (by omega),dL (by omega) (by omega)]
  obtain ⟨e,g0,g1⟩:=mod ((m:Int)+y) (by omega)
  refine oe e (os ⟨⟨g0,fun _=>g1⟩,rfl,?_,?_⟩)
  ·show 0≤ao (s.At+1); rw [w1 h0 h2 (by omega)]; omega
  ·show ao (s.At+1)≤_; rw [w1 h0 h2 (by omega)]; omega
 ·obtain ⟨e,g0,g1⟩:=mod (m:Int) (by omega)
  exact oe e (os ⟨⟨g0,fun _=>g1⟩,hc,h0,h1⟩)
theorem X0 {x:List Int} (B:zm x):Ok (pA x) fun y=>∃ s,y=some s∧Src x s:=by
 have hl:=B.len
 unfold pA
 refine jv (oe rfl (ol (fun s:Int×Int=>0≤s.1∧s.1≤x.length) (fun s=>(x.length - s.1).toNat) ⟨Int.le_refl _,by show (0:Int)≤_; omega⟩ ?_))
 rintro ⟨i,h⟩ ⟨h0,h1⟩
 dsimp only at h0 h1
 show Ok (oZ x i h) _
 unfold oZ
 refine ob (P:=fun b=>b=true→i < x.length) (od (fun h=>os fun _=>h) fun _=>os fun h=>by cases h) fun b hb=>oc (fun cg=>?_) fun _=>?_
 ·have hi:=hb cg
  refine oe rfl (oi h0 hi fun y _=>oe rfl (oe rfl (os ⟨⟨?_,?_⟩,?_⟩)))
  ·show 0≤ao (i+1); rw [w1 h0 hi (by omega)]; omega
  ·show ao (i+1)≤_; rw [w1 h0 hi (by omega)]; omega
  ·show (x.length - ao (i+1)).toNat < (x.length - i).toNat; rw [w1 h0 hi (by omega)]; omega
 ·exact os ⟨rfl,os ⟨_,rfl,rfl,Int.le_refl _,by show (0:Int)≤_; omega⟩⟩
theorem O6 {x:List Int} (B:zm x) {s:aL} (S:Src x s) {l:List Int} (hl:1≤l.length):Ok (mP s l) fun y=>y.1∈l∧Src x y.2:=by
 unfold mP
 refine jv (ob (er B S _) fun y hy=>?_)
 have h:=hy.1.2 (by omega)
 rw [Ch hy.1.1 h]
 exact os ⟨List.getElem_mem _,S.on hy.2⟩
structure lh (a b:Nat) (c:aI):Prop where
 o0:0≤c.aA
 o:c.aA≤a
 m:c.aH.length≤b
 t:c.To.length=c.aH.length
 i:(c.aJ.length:Int)=c.aA
 k:c.aE.length=c.aH.length
 r:∀ y∈c.aE,y.length=c.aH.length
theorem lh.mono {a b a' b':Nat} {c:aI} (h:lh a b c) (ha:a≤a') (hb:b≤b'):lh a' b' c:=
 ⟨h.o0,by have:=h.o; omega,Nat.le_trans h.m hb,h.t,h.i,h.k,h.r⟩
theorem lh.small {a b:Nat} {c:aI} (h:lh a b c) (ha:a≤1048576) (hb:b≤1048576):fx c:=
 ⟨Nat.le_trans h.m hb,by rw [h.t]; exact Nat.le_trans h.m hb,by have:=h.i; have:=h.o; omega,by rw [h.k]; exact Nat.le_trans h.m hb,fun y hy=>by rw [h.r y hy]; exact Nat.le_trans h.m hb⟩
structure Sq (n:Nat) (l:List (List Int)):Prop where
 len:l.length=n
 row:∀ y∈l,y.length=n
theorem Tc {n:Nat} {l:List (List Int)} (h:Sq n l) {e:List Int} (he:e∈l) (i j:Nat) (v:Int):Sq n (l.set i (e.set j v)):=
 ⟨by rw [List.length_set]; exact h.len,Al h.row (by rw [List.length_set]; exact h.row e he)⟩
end Go.Proofs.YtjdkifckhidlbaaGreat
namespace Go.Proofs.YtjdkifckhidlbaaGreat
open Go Go.Li
theorem Td {c d:aI} {a b a' b':Nat} (C:lh a b c) (D:lh a' b' d) (ha:a+a'≤100000) (hb:b+b'≤100000):Ok (jT c d) fun e=>lh (a+a') (b+b') e∧e.aA=c.aA+d.aA:=by
 have hC:=C.small (by omega) (by omega)
 obtain ⟨c0,c1,c2,c3,c4,c5,c6⟩:=C
 obtain ⟨d0,d1,d2,d3,d4,d5,d6⟩:=D
 unfold jT
 refine jv (oe (yD hC) ?_)
 refine ol (fun z:Int×List Int=>(0≤z.1∧z.1≤d.aA)∧(z.2.length:Int)=c.aA+z.1) (fun z=>(d.aA - z.1).toNat) ⟨⟨by show (0:Int)≤0; omega,d0⟩,by show (c.aJ.length:Int)=_+0; omega⟩ ?_
 rintro ⟨i,id⟩ ⟨⟨i0,i1⟩,uG⟩
 dsimp only at i0 i1 uG
 show Ok (iN c d i id) _
 unfold iN
 refine od (fun hi=>?_) fun hi=>os ⟨rfl,?_⟩
 ·have hw:=w1 i0 hi (by omega)
  refine oi i0 (by omega) fun _ _=>fk (by omega) (by omega) (os ⟨⟨⟨?_,?_⟩,?_⟩,?_⟩) <;> dsimp only <;> rw [hw] <;> (try simp only [List.length_append,List.length_singleton]) <;> omega
 have row:∀ (l:List (List Int)) (i:Int),(∀ (k:Nat) y,l[k]? = some y→y.length=if (k:Int) < i then c.aH.length+d.aH.length else c.aH.length)→∀ y∈l,y.length≤c.aH.length+d.aH.length:=fun l i h y hy=>by
  obtain ⟨k,hk⟩:=List.getElem?_of_mem hy
  have:=h k y hk
  split at this <;> omega
 refine ol (fun z:Int×List (List Int)=>(0≤z.1∧z.1≤c.aH.length)∧z.2.length=c.aH.length∧∀ (k:Nat) y,z.2[k]? = some y→y.length=if (k:Int) < z.1 then c.aH.length+d.aH.length else c.aH.length) (fun z=>(c.aH.length - z.1).toNat)
  ⟨⟨by show (0:Int)≤0; omega,by show (0:Int)≤_; omega⟩,c5,fun k y hk=>by rw [if_neg (by show ¬ (k:Int) < 0; omega)]; exact c6 y (List.mem_of_getElem? hk)⟩ ?_
 rintro ⟨j,l⟩ ⟨⟨j0,j1⟩,hl,hr⟩
 dsimp only at j0 j1 hl hr
 show Ok (iP d j l) _
 unfold iP
 refine od (fun hj=>?_) fun hj=>os ⟨rfl,?_⟩
 ·refine ol (fun z:Int×List (List Int)=>(0≤z.1∧z.1≤d.aH.length)∧z.2.length=c.aH.length∧∀ (k:Nat) y,z.2[k]? = some y→(y.length:Int)=if (k:Int) < j then (c.aH.length:Int)+d.aH.length else if (k:Int)=j then (c.aH.length:Int)+z.1 else (c.aH.length:Int)) (fun z=>(d.aH.length - z.1).toNat)
   ⟨⟨by show (0:Int)≤0; omega,by show (0:Int)≤_; omega⟩,hl,fun k y hk=>by
    have:=hr k y hk
    show _=if (k:Int) < j then _ else if (k:Int)=j then (c.aH.length:Int)+0 else _
    split at this <;> split <;> (try split) <;> omega⟩ ?_
  rintro ⟨m,l⟩ ⟨⟨m0,m1⟩,hl,hr⟩
  dsimp only at m0 m1 hl hr
  show Ok (iO d j m l) _
  unfold iO
  refine od (fun hm=>?_) fun hm=>os ⟨rfl,?_⟩
  ·have hw:=w1 m0 hm (by omega)
   have hg:l[j.toNat]? = some (l[j.toNat]'(by omega)):=List.getElem?_eq_getElem _
   have hlen:=hr _ _ hg
   rw [if_neg (by omega),if_pos (by omega)] at hlen
   rw [Ch j0 (by omega)]
   refine fk (by omega) (by omega) (os ⟨⟨⟨?_,?_⟩,?_,?_⟩,?_⟩)
   ·dsimp only; rw [hw]; omega
   ·dsimp only; rw [hw]; omega
   ·dsimp only; rw [List.length_set]; exact hl
   ·intro k y hk
    dsimp only at hk ⊢
    rw [hw]
    rw [List.getElem?_set] at hk
    by_cases e:j.toNat=k
    ·rw [if_pos e,if_pos (by omega)] at hk
     rw [← Option.some.inj hk,if_neg (by omega),if_pos (by omega),List.length_append,List.length_singleton]; omega
    ·rw [if_neg e] at hk
     have:=hr k y hk
     rw [if_neg (show ¬ (k:Int)=j by omega)] at this ⊢
     exact this
   ·dsimp only; rw [hw]; omega
  ·have hw:=w1 j0 hj (by omega)
   refine os ⟨⟨⟨?_,?_⟩,hl,?_⟩,?_⟩
   ·dsimp only; rw [hw]; omega
   ·dsimp only; rw [hw]; omega
   ·intro k y hk
    dsimp only at hk ⊢
    rw [hw]
    have:=hr k y hk
    split at this <;> split <;> (try split at this) <;> omega
   ·dsimp only; rw [hw]; omega
 have fi:∀ y∈l,y.length=c.aH.length+d.aH.length:=fun y hy=>by
  obtain ⟨k,hk⟩:=List.getElem?_of_mem hy
  have h1:=hr k y hk
  have h2:=cj hk
  rw [if_pos (by omega)] at h1
  exact h1
 refine ol (fun z:Int×List Int×List Int×List (List Int)=>(0≤z.1∧z.1≤d.aH.length)∧(z.2.1.length:Int)=c.aH.length+z.1∧(z.2.2.1.length:Int)=c.aH.length+z.1∧(z.2.2.2.length:Int)=c.aH.length+z.1∧∀ y∈z.2.2.2,y.length=c.aH.length+d.aH.length) (fun z=>(d.aH.length - z.1).toNat)
  ⟨⟨by show (0:Int)≤0; omega,by show (0:Int)≤_; omega⟩,by show (c.aH.length:Int)=_+0; omega,by show (c.To.length:Int)=_+0; omega,by show (l.length:Int)=_+0; omega,fi⟩ ?_
 rintro ⟨m,f,t,k⟩ ⟨⟨m0,m1⟩,hf,ht,hk,qg⟩
 dsimp only at m0 m1 hf ht hk qg
 show Ok (iS c d m f t k) _
 unfold iS
 refine od (fun hm=>?_) fun hm=>os ⟨rfl,os ?_⟩
 ·have hw:=w1 m0 hm (by omega)
  refine oi m0 (by omega) fun _ _=>fk (by omega) (by omega) (oi m0 (by omega) fun _ _=>fk (by omega) (by omega) ?_)
  refine ol (fun z:List Int×Int=>(0≤z.2∧z.2≤c.aH.length)∧(z.1.length:Int)=z.2) (fun z=>(c.aH.length - z.2).toNat) ⟨⟨by show (0:Int)≤0; omega,by show (0:Int)≤_; omega⟩,rfl⟩ ?_
  rintro ⟨row,p⟩ ⟨⟨p0,p1⟩,bg⟩
  dsimp only at p0 p1 bg
  show Ok (iQ c row p) _
  unfold iQ
  refine od (fun hp=>?_) fun hp=>os ⟨rfl,?_⟩
  ·have hw:=w1 p0 hp (by omega)
   refine fk (by omega) (by omega) (os ⟨⟨⟨?_,?_⟩,?_⟩,?_⟩) <;> dsimp only <;> rw [hw] <;> (try simp only [List.length_append,List.length_singleton]) <;> omega
  ·refine ol (fun z:List Int×Int=>(0≤z.2∧z.2≤d.aH.length)∧(z.1.length:Int)=c.aH.length+z.2) (fun z=>(d.aH.length - z.2).toNat) ⟨⟨by show (0:Int)≤0; omega,by show (0:Int)≤_; omega⟩,by show (row.length:Int)=_+0; omega⟩ ?_
   rintro ⟨row,q⟩ ⟨⟨q0,q1⟩,bg⟩
   dsimp only at q0 q1 bg
   show Ok (iR c d m row q) _
   unfold iR
   refine od (fun hq=>?_) fun hq=>os ⟨rfl,?_⟩
   ·have hw:=w1 q0 hq (by omega)
    refine oi m0 (by omega) fun e he=>?_
    have:=d6 e he
    refine oi q0 (by omega) fun e' _=>od (fun _=>fk (by omega) (by omega) (os ⟨⟨⟨?_,?_⟩,?_⟩,?_⟩)) fun _=>fk (by omega) (by omega) (os ⟨⟨⟨?_,?_⟩,?_⟩,?_⟩) <;> dsimp only <;> rw [hw] <;> (try simp only [List.length_append,List.length_singleton]) <;> omega
   ·refine fk (by omega) (by omega) (os ⟨⟨⟨?_,?_⟩,?_,?_,?_,jf qg (by omega)⟩,?_⟩) <;> dsimp only <;> rw [hw] <;> (try simp only [List.length_append,List.length_singleton]) <;> omega
 ·have hw:ao (c.aA+d.aA)=c.aA+d.aA:=dL (by omega) (by omega)
  refine ⟨⟨?_,?_,?_,?_,?_,?_,fun y hy=>?_⟩,hw⟩ <;> dsimp only
  ·rw [hw]; omega
  ·rw [hw]; omega
  ·omega
  ·omega
  ·rw [hw]; omega
  ·omega
  ·have:=qg y hy; omega
end Go.Proofs.YtjdkifckhidlbaaGreat
namespace Go.Proofs.YtjdkifckhidlbaaGreat
open Go Go.Li
theorem X3 {c d:aI} (C:lh 1 4 c) (D:lh 1 4 d):Ok (jB c d) (lh 2 12):=by
 unfold jB
 refine jv (ob (Td C D (by omega) (by omega)) fun e he=>?_)
 obtain ⟨⟨e0,e1,e2,e3,e4,e5,e6⟩,_⟩:=he
 obtain ⟨c0,c1,-⟩:=C
 obtain ⟨d0,d1,-⟩:=D
 refine ol (fun z:Int×List Int×List Int=>(0≤z.1∧z.1≤c.aA)∧z.2.2.length=z.2.1.length∧(e.aH.length≤z.2.1.length∧(z.2.1.length:Int)≤8+4 * z.1)) (fun z=>(c.aA - z.1).toNat) ⟨⟨by show (0:Int)≤0; omega,c0⟩,e3,Nat.le_refl _,by show (e.aH.length:Int)≤8+4 * 0; omega⟩ ?_
 rintro ⟨i,f,t⟩ ⟨⟨i0,i1⟩,ht,hm,hf⟩
 dsimp only at i0 i1 ht hm hf
 show Ok (gX c d i f t) _
 unfold gX
 refine od (fun hi=>?_) fun hi=>os ⟨rfl,?_⟩
 ·refine ol (fun z:Int×List Int×List Int=>(0≤z.1∧z.1≤d.aA)∧z.2.2.length=z.2.1.length∧(e.aH.length≤z.2.1.length∧(z.2.1.length:Int)≤8+4 * i+z.1)) (fun z=>(d.aA - z.1).toNat) ⟨⟨by show (0:Int)≤0; omega,d0⟩,ht,hm,by show (f.length:Int)≤8+4 * i+0; omega⟩ ?_
  rintro ⟨j,f,t⟩ ⟨⟨j0,j1⟩,ht,hm,hf⟩
  dsimp only at j0 j1 ht hm hf
  show Ok (gW c d i j f t) _
  unfold gW
  refine od (fun hj=>?_) fun hj=>os ⟨rfl,?_⟩
  ·have hw:=w1 j0 hj (by omega)
   refine fk (by omega) (by omega) (fk (by omega) (by omega) (os ⟨⟨⟨?_,?_⟩,?_,?_,?_⟩,?_⟩)) <;> dsimp only <;> (try rw [hw]) <;> (try simp only [List.length_append,List.length_singleton]) <;> omega
  ·have hw:=w1 i0 hi (by omega)
   refine os ⟨⟨⟨?_,?_⟩,ht,hm,?_⟩,?_⟩ <;> dsimp only <;> rw [hw] <;> omega
 ·refine ol (fun z:List (List Int)×Int=>(0≤z.2∧z.2≤f.length)∧(z.1.length:Int)=z.2∧∀ y∈z.1,y.length=f.length) (fun z=>(f.length - z.2).toNat) ⟨⟨by show (0:Int)≤0; omega,by show (0:Int)≤_; omega⟩,rfl,lu⟩ ?_
  rintro ⟨k,b⟩ ⟨⟨b0,b1⟩,hk,qg⟩
  dsimp only at b0 b1 hk qg
  show Ok (gZ c d e f t k b) _
  unfold gZ
  refine od (fun hb=>?_) fun hb=>os ⟨rfl,os ⟨e0,e1,?_,ht,e4,?_,qg⟩⟩
  ·refine ol (fun z:List Int×Int=>(0≤z.2∧z.2≤f.length)∧(z.1.length:Int)=z.2) (fun z=>(f.length - z.2).toNat) ⟨⟨by show (0:Int)≤0; omega,by show (0:Int)≤_; omega⟩,rfl⟩ ?_
   rintro ⟨row,g⟩ ⟨⟨g0,g1⟩,bg⟩
   dsimp only at g0 g1 bg
   show Ok (gY c d e f t b row g) _
   unfold gY
   refine od (fun hg=>?_) fun hg=>os ⟨rfl,?_⟩
   ·have hw:=w1 g0 hg (by omega)
    refine oi b0 (by omega) fun _ _=>oi g0 (by omega) fun _ _=>oc (fun _=>?_) fun _=>ob (P:=fun x=>x=true→b < e.aH.length∧g < e.aH.length) (od (fun h1=>os fun h=>⟨h1,of_decide_eq_true h⟩) fun _=>os fun h=>by cases h) fun x hx=>oc (fun zo=>?_) fun _=>oi b0 (by omega) fun _ _=>oi g0 (by omega) fun _ _=>?_
    ·refine fk (by omega) (by omega) (os ⟨⟨⟨?_,?_⟩,?_⟩,?_⟩) <;> dsimp only <;> rw [hw] <;> (try simp only [List.length_append,List.length_singleton]) <;> omega
    ·obtain ⟨h1,h2⟩:=hx zo
     refine oi b0 (by omega) fun y hy=>?_
     have:=e6 y hy
     refine oi g0 (by omega) fun _ _=>fk (by omega) (by omega) (os ⟨⟨⟨?_,?_⟩,?_⟩,?_⟩) <;> dsimp only <;> rw [hw] <;> (try simp only [List.length_append,List.length_singleton]) <;> omega
    ·refine fk (by omega) (by omega) (os ⟨⟨⟨?_,?_⟩,?_⟩,?_⟩) <;> dsimp only <;> rw [hw] <;> (try simp only [List.length_append,List.length_singleton]) <;> omega
   ·have hw:=w1 b0 hb (by omega)
    refine fk (by omega) (by omega) (os ⟨⟨⟨?_,?_⟩,?_,jf qg (by omega)⟩,?_⟩) <;> dsimp only <;> rw [hw] <;> (try simp only [List.length_append,List.length_singleton]) <;> omega
  all_goals (try dsimp only)
  all_goals omega
theorem O7 {i n a b:Int} (i0:0≤i) (i1:i≤a) (n0:0≤n) (n1:n≤b):0≤i * n∧i * n≤a * b:=
 ⟨Int.mul_nonneg i0 n0,Int.mul_le_mul i1 n1 n0 (by omega)⟩
theorem DW (i n:Int):(i+1) * n=i * n+n:=by rw [Int.add_mul,Int.one_mul]
theorem FR {i n a:Int} (h1 : ¬ i < a) (h2:i≤a):i * n=a * n:=by rw [show i=a by omega]
theorem O8 {c d:aI} (C:lh 8 40 c) (D:lh 4 20 d):Ok (gI c d) (lh 32 800):=by
 obtain ⟨c0,c1,c2,c3,c4,c5,c6⟩:=C
 obtain ⟨d0,d1,d2,d3,d4,d5,d6⟩:=D
 have bO:∀ {i:Int},0≤i→i≤c.aA→0≤i * d.aA∧i * d.aA≤8 * 4:=fun h0 h1=>O7 h0 (by omega) d0 (by omega)
 have bM:∀ {i:Int},0≤i→i≤c.aH.length→0≤i * (d.aH.length:Int)∧i * (d.aH.length:Int)≤40 * 20:=fun h0 h1=>O7 h0 (by omega) (by omega) (by omega)
 unfold gI
 refine jv (ol (fun z:Int×List Int=>(0≤z.1∧z.1≤c.aA)∧(z.2.length:Int)=z.1 * d.aA) (fun z=>(c.aA - z.1).toNat) ⟨⟨by show (0:Int)≤0; omega,c0⟩,by show (0:Int)=0 * d.aA; rw [Int.zero_mul]⟩ ?_)
 rintro ⟨i,id⟩ ⟨⟨i0,i1⟩,uG⟩
 dsimp only at i0 i1 uG
 show Ok (fT c d i id) _
 unfold fT
 have hbi:=bO i0 i1
 refine od (fun hi=>?_) fun hi=>os ⟨rfl,?_⟩
 ·refine ol (fun z:Int×List Int=>(0≤z.1∧z.1≤d.aA)∧(z.2.length:Int)=i * d.aA+z.1) (fun z=>(d.aA - z.1).toNat) ⟨⟨by show (0:Int)≤0; omega,d0⟩,by show (id.length:Int)=i * d.aA+0; omega⟩ ?_
  rintro ⟨j,id⟩ ⟨⟨j0,j1⟩,uG⟩
  dsimp only at j0 j1 uG
  show Ok (fS c d i j id) _
  unfold fS
  refine od (fun hj=>?_) fun hj=>os ⟨rfl,?_⟩
  ·have hw:=w1 j0 hj (by omega)
   refine oi i0 (by omega) fun _ _=>oi j0 (by omega) fun _ _=>fk (by omega) (by omega) (os ⟨⟨⟨?_,?_⟩,?_⟩,?_⟩) <;> dsimp only <;> rw [hw] <;> (try simp only [List.length_append,List.length_singleton]) <;> omega
  ·have hw:=w1 i0 hi (by omega)
   have hn:=DW i d.aA
   refine os ⟨⟨⟨?_,?_⟩,?_⟩,?_⟩ <;> dsimp only <;> rw [hw] <;> omega
 have hO:=FR (n:=d.aA) hi i1
 refine ol (fun z:Int×List Int×List Int×List (List Int)=>(0≤z.1∧z.1≤c.aH.length)∧(z.2.1.length:Int)=z.1 * (d.aH.length:Int)∧z.2.2.1.length=z.2.1.length∧z.2.2.2.length=z.2.1.length∧∀ y∈z.2.2.2,(y.length:Int)=(c.aH.length:Int) * (d.aH.length:Int)) (fun z=>(c.aH.length - z.1).toNat)
  ⟨⟨by show (0:Int)≤0; omega,by show (0:Int)≤_; omega⟩,by show (0:Int)=0 * (d.aH.length:Int); rw [Int.zero_mul],rfl,rfl,lu⟩ ?_
 rintro ⟨a,f,t,k⟩ ⟨⟨a0,a1⟩,hf,ht,hk,qg⟩
 dsimp only at a0 a1 hf ht hk qg
 show Ok (fX c d a f t k) _
 unfold fX
 have hba:=bM a0 a1
 have hbc:=bM (i:=(c.aH.length:Int)) (by omega) (by omega)
 refine od (fun ha=>?_) fun ha=>os ⟨rfl,os ?_⟩
 ·refine ol (fun z:Int×List Int×List Int×List (List Int)=>(0≤z.1∧z.1≤d.aH.length)∧(z.2.1.length:Int)=a * (d.aH.length:Int)+z.1∧z.2.2.1.length=z.2.1.length∧z.2.2.2.length=z.2.1.length∧∀ y∈z.2.2.2,(y.length:Int)=(c.aH.length:Int) * (d.aH.length:Int)) (fun z=>(d.aH.length - z.1).toNat)
   ⟨⟨by show (0:Int)≤0; omega,by show (0:Int)≤_; omega⟩,by show (f.length:Int)=a * (d.aH.length:Int)+0; omega,ht,hk,qg⟩ ?_
  rintro ⟨b,f,t,k⟩ ⟨⟨b0,b1⟩,hf,ht,hk,qg⟩
  dsimp only at b0 b1 hf ht hk qg
  show Ok (fW c d a b f t k) _
  unfold fW
  refine od (fun hb=>?_) fun hb=>os ⟨rfl,?_⟩
  ·refine oi a0 (by omega) fun _ _=>oi b0 (by omega) fun _ _=>fk (by omega) (by omega) (oi a0 (by omega) fun _ _=>oi b0 (by omega) fun _ _=>fk (by omega) (by omega) ?_)
   refine ol (fun z:List Int×Int=>(0≤z.2∧z.2≤c.aH.length)∧(z.1.length:Int)=z.2 * (d.aH.length:Int)) (fun z=>(c.aH.length - z.2).toNat) ⟨⟨by show (0:Int)≤0; omega,by show (0:Int)≤_; omega⟩,by show (0:Int)=0 * (d.aH.length:Int); rw [Int.zero_mul]⟩ ?_
   rintro ⟨row,p⟩ ⟨⟨p0,p1⟩,bg⟩
   dsimp only at p0 p1 bg
   show Ok (fV c d a b row p) _
   unfold fV
   have hbp:=bM p0 p1
   refine od (fun hp=>?_) fun hp=>os ⟨rfl,?_⟩
   ·refine ol (fun z:List Int×Int=>(0≤z.2∧z.2≤d.aH.length)∧(z.1.length:Int)=p * (d.aH.length:Int)+z.2) (fun z=>(d.aH.length - z.2).toNat) ⟨⟨by show (0:Int)≤0; omega,by show (0:Int)≤_; omega⟩,by show (row.length:Int)=p * (d.aH.length:Int)+0; omega⟩ ?_
    rintro ⟨row,q⟩ ⟨⟨q0,q1⟩,bg⟩
    dsimp only at q0 q1 bg
    show Ok (fU c d a b p row q) _
    unfold fU
    refine od (fun hq=>?_) fun hq=>os ⟨rfl,?_⟩
    ·have hw:=w1 q0 hq (by omega)
     refine ob (P:=fun _=>True) (oi a0 (by omega) fun y hy=>?_) fun g _=>oc (fun _=>oi a0 (by omega) fun y hy=>?_) fun _=>?_
     ·have:=c6 y hy
      refine oi p0 (by omega) fun _ _=>od (fun _=>oi b0 (by omega) fun y' uF=>?_) fun _=>os trivial
      have:=d6 y' uF
      exact oi q0 (by omega) fun _ _=>os trivial
     ·have:=c6 y hy
      refine oi p0 (by omega) fun _ _=>oi b0 (by omega) fun y' uF=>?_
      have:=d6 y' uF
      refine oi q0 (by omega) fun _ _=>fk (by omega) (by omega) (os ⟨⟨⟨?_,?_⟩,?_⟩,?_⟩) <;> dsimp only <;> rw [hw] <;> (try simp only [List.length_append,List.length_singleton]) <;> omega
     ·refine fk (by omega) (by omega) (os ⟨⟨⟨?_,?_⟩,?_⟩,?_⟩) <;> dsimp only <;> rw [hw] <;> (try simp only [List.length_append,List.length_singleton]) <;> omega
    ·have hw:=w1 p0 hp (by omega)
     have hn:=DW p (d.aH.length:Int)
     refine os ⟨⟨⟨?_,?_⟩,?_⟩,?_⟩ <;> dsimp only <;> rw [hw] <;> omega
   ·have hw:=w1 b0 hb (by omega)
    have hP:=FR (n:=(d.aH.length:Int)) hp p1
    refine fk (by omega) (by omega) (os ⟨⟨⟨?_,?_⟩,?_,?_,?_,jf qg (by omega)⟩,?_⟩) <;> dsimp only <;> (try rw [hw]) <;> (try simp only [List.length_append,List.length_singleton]) <;> omega
  ·have hw:=w1 a0 ha (by omega)
   have hn:=DW a (d.aH.length:Int)
   refine os ⟨⟨⟨?_,?_⟩,?_,ht,hk,qg⟩,?_⟩ <;> dsimp only <;> rw [hw] <;> omega
 ·have hA:=FR (n:=(d.aH.length:Int)) ha a1
  have hbo:=bO c0 (Int.le_refl _)
  have hw:ao (c.aA * d.aA)=c.aA * d.aA:=dL (by omega) (by omega)
  refine ⟨?_,?_,?_,ht,?_,hk,fun y hy=>?_⟩ <;> dsimp only
  ·rw [hw]; omega
  ·rw [hw]; omega
  ·omega
  ·rw [hw]; omega
  ·have:=qg y hy; omega
end Go.Proofs.YtjdkifckhidlbaaGreat
namespace Go.Proofs.YtjdkifckhidlbaaGreat
open Go Go.Li
structure Dag (n:Int) (f t:List Int):Prop where
 len:t.length=f.length
 SM:f.length≤3
 up:∀ (k:Nat) u v,f[k]? = some u→t[k]? = some v→0≤u∧u < v∧v < n
def wt (v:Int):Nat:=if v=0 then 13 else if v=1 then 4 else 1
def vj (l:List cE):Nat:=(l.map fun p=>wt p.To).sum
def cap (v:Int) (e:Nat):Nat:=if v=0 then 4 * e else if v=1 then e else 0
theorem K1 (l:List cE) (p:cE):vj (l++[p])=vj l+wt p.To:=by simp [vj]
theorem X4 (v:Int):1≤wt v:=by unfold wt; split <;> (try split) <;> omega
theorem K2 (l:List cE):l.length≤vj l:=by
 induction l with
 | nil=>exact Nat.le_refl _
 | cons p l ih=>
  have:=X4 p.To
  have e:vj (p :: l)=wt p.To+vj l:=by simp [vj]
  rw [e,List.length_cons]; omega
theorem RA {l:List cE} {k:Nat} {p:cE} (h:l[k]? = some p):vj (l.drop k)=wt p.To+vj (l.drop (k+1)):=by
 have hk:=cj h
 rw [List.getElem?_eq_getElem hk] at h
 rw [List.drop_eq_getElem_cons hk,Option.some.inj h]
 simp [vj]
structure vR (n:Int) (m:Nat) (p:cE):Prop where
 f0:0≤p.aH
 f1:p.aH < n
 t0:0≤p.To
 t1:p.To < n
 e:p.nk.length≤m
theorem RB {p q:cE} (h:p.nk.length≤1048576):Ok (jW p q) fun _=>True:=by
 unfold jW
 exact jv (oc (fun _=>os trivial) fun _=>oc (fun _=>os trivial) fun _=>oe (Rc _ _ (by omega)) (os trivial))
theorem X5 {a b:List Int} (h:a.length≤1048576):Ok (fL a b) fun _=>True:=by
 unfold fL
 refine jv (oc (fun _=>os trivial) fun hl=>?_)
 have hl:(a.length:Int)=b.length:=by simpa using hl
 refine ol (fun i:Int=>0≤i∧i≤a.length) (fun i=>(a.length - i).toNat) ⟨by omega,by omega⟩ fun i hi=>?_
 unfold mI
 refine od (fun h1=>oi hi.1 h1 fun _ _=>oi hi.1 (by omega) fun _ _=>oc (fun _=>os trivial) fun _=>os ⟨⟨?_,?_⟩,?_⟩) fun _=>os ⟨rfl,os trivial⟩
 all_goals (try dsimp only)
 all_goals rw [w1 hi.1 h1 (by omega)]
 all_goals omega
section
variable {n:Int} {f t:List Int} (D:Dag n f t) (n0:0≤n) (n3:n≤3)
include D n0 n3
theorem X6 {l0:List cE} {k:Nat} {p0:cE} (hp:l0[k]? = some p0) (hl:∀ (i:Nat) p,l0[i]? = some p→vR n i p) (hw:k+vj (l0.drop k)≤18) {Q:Out (List cE×Int) (List cE)→Prop} {g:List cE×Int→Option (Out (List cE×Int) (List cE))}
  (hg:∀ l e,(∀ (i:Nat) p,l[i]? = some p→vR n i p)→k+1+vj (l.drop (k+1))≤18→Ok (g (l,e)) Q):Ok (ai (af 4 (aj (fun s=>jX f t k s.1 s.2) (l0,(0:Int)))) g) Q:=by
 have hP:=hl k p0 hp
 have hk:=cj hp
 have hd:=RA hp
 have f3:=D.SM
 refine ol (fun z:List cE×Int=>((0≤z.2∧z.2≤f.length)∧z.1[k]? = some p0)∧(∀ (i:Nat) p,z.1[i]? = some p→vR n i p)∧k+wt p0.To+vj (z.1.drop (k+1))≤18+cap p0.To z.2.toNat) (fun z=>(f.length - z.2).toNat)
  ⟨⟨⟨by show (0:Int)≤0; omega,by show (0:Int)≤_; omega⟩,hp⟩,hl,by show k+wt p0.To+vj (l0.drop (k+1))≤_; omega⟩ ?_
 rintro ⟨l,e⟩ ⟨⟨⟨e0,e1⟩,xY⟩,hl,hs⟩
 dsimp only at e0 e1 xY hl hs
 have BA:=cj xY
 have hlen:l.length≤1000:=by
  have h1:=K2 (l.drop (k+1))
  rw [List.length_drop] at h1
  have:cap p0.To e.toNat≤12:=by unfold cap; split <;> (try split) <;> omega
  omega
 show Ok (jX f t k l e) _
 unfold jX
 refine od (fun he=>?_) fun he=>os ⟨rfl,hg l e hl ?_⟩
 ·have hw:=w1 e0 he (by omega)
  have hu:f[e.toNat]? = some (f[e.toNat]'(by omega)):=List.getElem?_eq_getElem _
  have hv:t[e.toNat]? = some (t[e.toNat]'(by have:=D.len; omega)):=List.getElem?_eq_getElem _
  have up:=D.up _ _ _ hu hv
  have eu:idx f e=some (f[e.toNat]'(by omega)):=by rw [IZ e0]; exact hu
  have ev:idx t e=some (t[e.toNat]'(by have:=D.len; omega)):=by rw [IZ e0]; exact hv
  have ek:idx l (k:Int)=some p0:=by rw [di]; exact xY
  generalize f[e.toNat]'(by omega)=u at *
  generalize t[e.toNat]'(by have:=D.len; omega)=v at *
  refine oe eu (oe ek (oc (fun h=>?_) fun h=>os ⟨⟨⟨⟨?_,?_⟩,xY⟩,hl,?_⟩,?_⟩))
  ·have h:u=p0.To:=by simpa using h
   have hpe:=hP.e
   refine oe ek (oe ev (oe ek (oe (ee _ (by omega)) (fk (by omega) (by omega) (fk (by omega) (by omega) (os ⟨⟨⟨⟨?_,?_⟩,?_⟩,?_,?_⟩,?_⟩))))))
   ·dsimp only; rw [hw]; omega
   ·dsimp only; rw [hw]; omega
   ·dsimp only; rw [List.getElem?_append_left BA]; exact xY
   ·intro i p hi
    dsimp only at hi
    by_cases ux:i < l.length
    ·rw [List.getElem?_append_left ux] at hi; exact hl i p hi
    ·rw [List.getElem?_append_right (by omega)] at hi
     have wR:i - l.length=0:=by
      have:=cj hi
      rw [List.length_singleton] at this; omega
     rw [wR] at hi
     have hi:=Option.some.inj hi
     rw [← hi]
     refine ⟨hP.f0,hP.f1,?_,?_,?_⟩ <;> dsimp only
     ·omega
     ·omega
     ·rw [List.length_append,List.length_singleton]; omega
   ·dsimp only
    rw [hw,List.drop_append_of_le_length (by omega),K1]
    have e2:(e+1).toNat=e.toNat+1:=by omega
    rw [e2]
    have h1:0≤p0.To:=hP.t0
    have hc:wt v+cap p0.To e.toNat≤cap p0.To (e.toNat+1):=by
     unfold cap wt
     by_cases z0:p0.To=0
     ·rw [if_pos z0,if_pos z0]
      rw [if_neg (by omega)]
      split <;> omega
     ·by_cases z1:p0.To=1
      ·rw [if_neg z0,if_neg z0,if_pos z1,if_pos z1,if_neg (by omega),if_neg (by omega)]; omega
      ·omega
    show k+wt p0.To+(vj (l.drop (k+1))+wt v)≤_
    omega
   ·dsimp only; rw [hw]; omega
  ·dsimp only; rw [hw]; omega
  ·dsimp only; rw [hw]; omega
  ·dsimp only; rw [hw]
   have e2:(e+1).toNat=e.toNat+1:=by omega
   rw [e2]
   have:cap p0.To e.toNat≤cap p0.To (e.toNat+1):=by unfold cap; split <;> (try split) <;> omega
   omega
  ·dsimp only; rw [hw]; omega
 ·have:cap p0.To e.toNat+1≤wt p0.To:=by
   have hm:e.toNat≤3:=by omega
   unfold cap wt
   split
   ·omega
   ·split <;> omega
  omega
theorem X7:Ok (mC n f t) fun l=>l.length≤18∧∀ p∈l,vR n 18 p:=by
 unfold mC
 refine jv (ol (fun z:List cE×Int=>(0≤z.2∧z.2≤n)∧(z.1.length:Int)=z.2∧(∀ (i:Nat) p,z.1[i]? = some p→vR n i p)∧vj z.1≤(if z.2=0 then 0 else if z.2=1 then 13 else if z.2=2 then 17 else 18)) (fun z=>(n - z.2).toNat)
  ⟨⟨by show (0:Int)≤0; omega,n0⟩,rfl,(fun i p h=>by simp at h),Nat.le_refl _⟩ ?_)
 rintro ⟨l,x⟩ ⟨⟨x0,x1⟩,hl,hp,hw⟩
 dsimp only at x0 x1 hl hp hw
 show Ok (lF n l x) _
 unfold lF
 refine od (fun hx=>?_) fun hx=>os ⟨rfl,?_⟩
 ·have B1:=w1 x0 hx (by omega)
  refine fk (by omega) (by omega) (os ⟨⟨⟨?_,?_⟩,?_,?_,?_⟩,?_⟩)
  ·dsimp only; rw [B1]; omega
  ·dsimp only; rw [B1]; omega
  ·dsimp only; rw [B1,List.length_append,List.length_singleton]; omega
  ·intro i p hi
   dsimp only at hi
   by_cases ux:i < l.length
   ·rw [List.getElem?_append_left ux] at hi; exact hp i p hi
   ·rw [List.getElem?_append_right (by omega)] at hi
    have wR:i - l.length=0:=by
     have:=cj hi
     rw [List.length_singleton] at this; omega
    rw [wR] at hi
    rw [← Option.some.inj hi]
    exact ⟨x0,hx,x0,hx,Nat.zero_le _⟩
  ·dsimp only
   rw [B1,K1]
   show vj l+wt x≤_
   unfold wt
   by_cases h0:x=0
   ·subst h0; simp at hw ⊢; omega
   ·by_cases h1:x=1
    ·subst h1; simp at hw ⊢; omega
    ·obtain rfl:x=2:=by omega
     simp at hw ⊢; omega
  ·dsimp only; rw [B1]; omega
 ·have hw0:vj l≤18:=by
   refine Nat.le_trans hw ?_
   split
   ·omega
   ·split
    ·omega
    ·split <;> omega
  refine ol (fun z:List cE×Int=>0≤z.2∧(∀ (i:Nat) p,z.1[i]? = some p→vR n i p)∧z.2.toNat+vj (z.1.drop z.2.toNat)≤18) (fun z=>(19 - z.2).toNat) ⟨by show (0:Int)≤0; omega,hp,by show 0+vj (l.drop 0)≤18; rw [List.drop_zero]; omega⟩ ?_
  rintro ⟨l,k⟩ ⟨k0,hp,hw⟩
  dsimp only at k0 hp hw
  obtain ⟨k,rfl⟩ : ∃ m:Nat,k=m:=⟨k.toNat,by omega⟩
  rw [Int.toNat_natCast] at hw
  have OT:l.length≤18:=by
   have:=K2 (l.drop k)
   rw [List.length_drop] at this; omega
  show Ok (lG f t l k) _
  unfold lG
  refine ob (P:=fun b=>b=true→(k:Int) < l.length) (od (fun h=>os fun _=>h) fun _=>os fun h=>by cases h) fun b hb=>oc (fun cg=>?_) fun _=>os ⟨rfl,?_⟩
  ·have BA:=hb cg
   have hg:l[k]? = some (l[k]'(by omega)):=List.getElem?_eq_getElem _
   refine X6 D n0 n3 hg hp hw fun l' e xl B1=>os ⟨⟨?_,xl,?_⟩,?_⟩
   ·dsimp only; rw [cI (by omega)]; omega
   ·dsimp only; rw [cI (by omega),Int.toNat_natCast]; exact B1
   ·dsimp only; rw [cI (by omega)]; omega
  ·have fq:∀ p∈l,vR n 18 p:=fun p h=>by
    obtain ⟨i,hi⟩:=List.getElem?_of_mem h
    have:=hp i p hi
    have uW:=cj hi
    exact ⟨this.f0,this.f1,this.t0,this.t1,by have:=this.e; omega⟩
   refine ol (fun z:List cE×Int=>1≤z.2∧z.1.length≤18∧∀ p∈z.1,vR n 18 p) (fun z=>(19 - z.2).toNat) ⟨by show (1:Int)≤1; omega,OT,fq⟩ ?_
   rintro ⟨l,i⟩ ⟨i0,hl,hp⟩
   dsimp only at i0 hl hp
   show Ok (lJ l i) _
   unfold lJ
   refine od (fun hi=>?_) fun _=>os ⟨rfl,os ⟨hl,hp⟩⟩
   refine ol (fun z:List cE×Int=>(0≤z.2∧z.2 < z.1.length)∧z.1.length≤18∧∀ p∈z.1,vR n 18 p) (fun z=>z.2.toNat) ⟨⟨by show 0≤i; omega,hi⟩,hl,hp⟩ ?_
   rintro ⟨l,j⟩ ⟨⟨j0,j1⟩,hl,hp⟩
   dsimp only at j0 j1 hl hp
   show Ok (lH l j) _
   unfold lH
   refine ob (P:=fun b=>b=true→0 < j) (od (fun h=>?_) fun _=>os fun h=>by cases h) fun b hb=>oc (fun cg=>?_) fun _=>os ⟨rfl,os ⟨⟨?_,hl,hp⟩,?_⟩⟩
   ·rw [dL (a:=j - 1) (by omega) (by omega)]
    refine oi j0 j1 fun p tB=>oi (by omega) (by omega) fun q _=>?_
    have:=(hp p tB).e
    exact ob (RB (by omega)) fun _ _=>os fun _=>h
   ·have h:=hb cg
    rw [dL (a:=j - 1) (by omega) (by omega)]
    refine oi j0 j1 fun p tB=>oi (by omega) (by omega) fun q hq=>oi j0 j1 fun _ _=>oi (by omega) (by rw [List.length_set]; omega) fun _ _=>os ⟨⟨⟨?_,?_⟩,?_,Al (Al hp (hp q hq)) (hp p tB)⟩,?_⟩ <;> dsimp only <;> (try rw [List.length_set,List.length_set]) <;> omega
   ·dsimp only; rw [dL (by omega) (by omega)]; omega
   ·dsimp only; rw [dL (by omega) (by omega)]; omega
theorem FU:Ok (gA n f t) (lh 3 18):=by
 unfold gA
 refine jv (ob (X7 D n0 n3) fun l hl=>?_)
 obtain ⟨hl,hp⟩:=hl
 refine Tb n0 (by omega) (by omega) ?_
 refine ol (fun z:Int×List Int×List Int×List Int=>(0≤z.1∧z.1≤l.length)∧(z.2.1.length:Int)=z.1∧(z.2.2.1.length:Int)=z.1∧(z.2.2.2.length:Int)=n) (fun z=>(l.length - z.1).toNat) ⟨⟨by show (0:Int)≤0; omega,by show (0:Int)≤_; omega⟩,rfl,rfl,by show ((List.replicate _ _).length:Int)=n; rw [List.length_replicate]; omega⟩ ?_
 rintro ⟨i,a,b,id⟩ ⟨⟨i0,i1⟩,ha,hb,uG⟩
 dsimp only at i0 i1 ha hb uG
 show Ok (kC l i a b id) _
 unfold kC
 refine od (fun hi=>?_) fun hi=>os ⟨rfl,?_⟩
 ·have hw:=w1 i0 hi (by omega)
  refine oi i0 hi fun _ _=>fk (by omega) (by omega) (oi i0 hi fun _ _=>fk (by omega) (by omega) (oi i0 hi fun _ _=>oc (fun _=>oi i0 hi fun p tB=>?_) fun _=>os ⟨⟨⟨?_,?_⟩,?_,?_,uG⟩,?_⟩))
  ·have h:=hp p tB
   refine oi h.f0 (by have:=h.f1; omega) fun _ _=>os ⟨⟨⟨?_,?_⟩,?_,?_,?_⟩,?_⟩ <;> dsimp only <;> (try rw [hw]) <;> (try simp only [List.length_append,List.length_singleton,List.length_set]) <;> omega
  all_goals (try dsimp only)
  all_goals (try rw [hw])
  all_goals (try simp only [List.length_append,List.length_singleton])
  all_goals omega
 ·have fits:Ok (eC (aI.mk n a b id [])) fun y=>y=true:=by
   unfold eC
   refine jv (ob (P:=fun y=>y=true) (od (fun _=>os (decide_eq_true (by show (a.length:Int)≤40; omega))) fun h=>absurd (show n≤8 by omega) h) fun y hy=>os hy)
  refine ob fits fun y hy=>?_
  subst hy
  show Ok (ai (af 2 (aj (fun s=>iM l s.1 s.2) ((0:Int),([]:(List (List Int)))))) _) _
  refine ol (fun z:Int×List (List Int)=>(0≤z.1∧z.1≤l.length)∧(z.2.length:Int)=z.1∧∀ y∈z.2,y.length=a.length) (fun z=>(l.length - z.1).toNat) ⟨⟨by show (0:Int)≤0; omega,by show (0:Int)≤_; omega⟩,rfl,lu⟩ ?_
  rintro ⟨j,k⟩ ⟨⟨j0,j1⟩,hk,qg⟩
  dsimp only at j0 j1 hk qg
  show Ok (iM l j k) _
  unfold iM
  refine od (fun hj=>?_) fun hj=>os ⟨rfl,os ⟨n0,?_,?_,?_,uG,?_,qg⟩⟩
  ·refine ol (fun z:List Int×Int=>(0≤z.2∧z.2≤l.length)∧(z.1.length:Int)=z.2) (fun z=>(l.length - z.2).toNat) ⟨⟨by show (0:Int)≤0; omega,by show (0:Int)≤_; omega⟩,rfl⟩ ?_
   rintro ⟨row,g⟩ ⟨⟨g0,g1⟩,bg⟩
   dsimp only at g0 g1 bg
   show Ok (kE l j row g) _
   unfold kE
   refine od (fun hg=>?_) fun hg=>os ⟨rfl,?_⟩
   ·have hw:=w1 g0 hg (by omega)
    refine oi j0 hj fun _ _=>oi g0 hg fun _ _=>oc (fun _=>oi j0 hj fun p tB=>?_) fun _=>?_
    ·have h1:=(hp p tB).e
     refine oe (ee _ (by omega)) (oi g0 hg fun q hq=>?_)
     have h2:=(hp q hq).e
     refine fk (by omega) (by omega) ?_
     refine ol (fun z:Int×Int=>0≤z.2∧z.2≤l.length) (fun z=>(l.length - z.2).toNat) ⟨by show (0:Int)≤0; omega,by show (0:Int)≤_; omega⟩ ?_
     rintro ⟨c,h⟩ ⟨c0,c1⟩
     dsimp only at c0 c1
     show Ok (kD l j p.nk q c h) _
     unfold kD
     refine od (fun hh=>?_) fun hh=>os ⟨rfl,?_⟩
     ·have hw:=w1 c0 hh (by omega)
      refine ob (P:=fun _=>True) (oi c0 hh fun _ _=>oi j0 hj fun _ _=>oc (fun _=>oi c0 hh fun r hr=>?_) fun _=>os trivial) fun _ _=>oc (fun _=>os ⟨⟨?_,?_⟩,?_⟩) fun _=>os ⟨⟨?_,?_⟩,?_⟩
      ·have:=(hp r hr).e
       exact ob (X5 (by omega)) fun _ _=>os trivial
      all_goals (try dsimp only)
      all_goals rw [hw]
      all_goals omega
     ·refine fk (by omega) (by omega) (os ⟨⟨⟨?_,?_⟩,?_⟩,?_⟩) <;> dsimp only <;> rw [hw] <;> (try simp only [List.length_append,List.length_singleton]) <;> omega
    ·refine fk (by omega) (by omega) (os ⟨⟨⟨?_,?_⟩,?_⟩,?_⟩) <;> dsimp only <;> rw [hw] <;> (try simp only [List.length_append,List.length_singleton]) <;> omega
   ·have hw:=w1 j0 hj (by omega)
    refine fk (by omega) (by omega) (os ⟨⟨⟨?_,?_⟩,?_,jf qg (by omega)⟩,?_⟩) <;> dsimp only <;> rw [hw] <;> (try simp only [List.length_append,List.length_singleton]) <;> omega
  all_goals (try dsimp only)
  all_goals omega
end
end Go.Proofs.YtjdkifckhidlbaaGreat
namespace Go.Proofs.YtjdkifckhidlbaaGreat
open Go Go.Li
theorem sq1:Sq 1 [[(1:Int)]]:=⟨rfl,by simp⟩
section
variable {x:List Int} (B:zm x)
include B
theorem X8 {s:aL} (S:Src x s) {c:aI} (C:lh 8 800 c):Ok (pI s c) fun y=>fx y.1∧Src x y.2:=by
 have hC:=C.small (by omega) (by omega)
 have hm:=C.m
 have hk:=C.k
 have ht:=C.t
 have hi:=C.i
 have o0:=C.o0
 have o8:=C.o
 unfold pI
 refine jv (oe (yD hC) (ob (er B S _) fun y hy=>ob (er B (S.on hy.2) _) fun z hz=>?_))
 have T:=S.on (h:=z.2.av) hz.2
 have same:fx c∧Src x (aL.mk s.Code z.2.At z.2.av):=⟨hC,T⟩
 have cell:Ok (bif decide ((c.aH.length:Int) > (0:Int)) then ((idx c.aE (y.1))>>=fun e=>((cM (aL.mk s.Code z.2.At z.2.av) ((c.aH.length:Int)))>>=fun u=>((cM (aL.mk s.Code u.2.At u.2.av) (ao ((c.aH.length:Int)+(1:Int))))>>=fun v=>((idx e (u.1))>>=fun _=>(some (Out.ret (S:=Unit) ((aI.mk c.aA c.aH c.To c.aJ (c.aE.set (y.1).toNat (e.set (u.1).toNat (ao (v.1 - (1:Int)))))),(aL.mk s.Code v.2.At v.2.av)))))))) else (some (Out.ret (c,(aL.mk s.Code z.2.At z.2.av))))) (Rt fun y=>fx y.1∧Src x y.2):=by
  refine od (fun h=>oi hy.1.1 (by have:=hy.1.2 (by omega); omega) fun e he=>ob (er B T _) fun u hu=>ob (er B (S.on hu.2) _) fun v hv=>?_) fun _=>os same
  have hr:=C.r e he
  refine oi hu.1.1 (by have:=hu.1.2 (by omega); omega) fun _ _=>os ⟨⟨hC.f,hC.t,hC.i,?_,Al hC.r ?_⟩,S.on hv.2⟩
  ·show (List.set _ _ _).length≤_; rw [List.length_set]; exact hC.k
  ·show (List.set _ _ _).length≤_; rw [List.length_set]; omega
 refine oc (fun _=>ob (O6 B T (l:=[ao (c.aA+(1:Int)),(-1:Int),(9:Int)]) (by simp)) fun p hp=>os ⟨⟨hC.f,hC.t,hC.i,hC.k,hC.r⟩,S.on hp.2⟩) fun _=>oc (fun _=>fk (by omega) (by omega) (os ⟨⟨?_,hC.t,hC.i,hC.k,hC.r⟩,T⟩)) fun _=>
  oc (fun _=>od (fun h=>ob (er B T _) fun p hp=>oi (by omega) (by omega) fun _ _=>os ⟨⟨hC.f,hC.t,?_,hC.k,hC.r⟩,S.on hp.2⟩) fun _=>os same) fun _=>oc (fun _=>cell) fun _=>oc (fun _=>cell) fun _=>oc (fun _=>cell) fun _=>
  oc (fun _=>od (fun h=>ob (er B T _) fun p hp=>oi hy.1.1 (by have:=hy.1.2 (by omega); omega) fun _ _=>os ⟨⟨hC.f,?_,hC.i,hC.k,hC.r⟩,S.on hp.2⟩) fun _=>os same) fun _=>od (fun h=>oi hy.1.1 (by have:=hy.1.2 (by omega); omega) fun e he=>?_) fun _=>os same
 ·show (c.aH++[(0:Int)]).length≤_; rw [List.length_append,List.length_singleton]; omega
 ·show (List.set _ _ _).length≤_; rw [List.length_set]; exact hC.i
 ·show (List.set _ _ _).length≤_; rw [List.length_set]; exact hC.t
 ·have hr:=C.r e he
  have etl:tl e (1:Int)=some (e.drop 1):=by
   unfold tl
   rw [bc (by omega),cond_true]; rfl
  refine oe etl (oi hy.1.1 (by have:=hy.1.2 (by omega); omega) fun _ _=>os ⟨⟨hC.f,hC.t,hC.i,?_,Al hC.r ?_⟩,T⟩)
  ·show (List.set _ _ _).length≤_; rw [List.length_set]; exact hC.k
  ·rw [List.length_drop]; omega
end
end Go.Proofs.YtjdkifckhidlbaaGreat
