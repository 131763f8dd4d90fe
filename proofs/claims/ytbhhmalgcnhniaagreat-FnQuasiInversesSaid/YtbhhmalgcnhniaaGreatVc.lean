/- That a model does not fail, and what it gives: rules. No condition beside those that each theorem names. -/
import Derived.Test.YtbhhmalgcnhniaaGreatPa
import Derived.Test.YtbhhmalgcnhniaaGreatPj
namespace Go.Li
open Go
def Ok {α:Type} (m:Option α) (Q:α→Prop):Prop:=∃ x,m=some x∧Q x
section
variable {α β S S1 R:Type}
theorem Ok.mono {m:Option α} {P Q:α→Prop} (h:Ok m P) (hq:∀ x,P x→Q x):Ok m Q:=by
 obtain ⟨x,e,hx⟩:=h
 exact ⟨x,e,hq x hx⟩
theorem os {x:α} {Q:α→Prop} (h:Q x):Ok (some x) Q:=⟨x,rfl,h⟩
theorem ob {m:Option α} {f:α→Option β} {Q:β→Prop} {P:α→Prop} (hm:Ok m P) (h:∀ x,P x→Ok (f x) Q):Ok (m>>=f) Q:=by
 obtain ⟨x,rfl,hx⟩:=hm
 exact h x hx
theorem oe {m:Option α} {f:α→Option β} {Q:β→Prop} {x:α} (e:m=some x) (h:Ok (f x) Q):Ok (m>>=f) Q:=by
 subst e; exact h
theorem oi {l:List α} {j:Int} {f:α→Option β} {Q:β→Prop} (h0:0≤j) (h1:j < l.length) (h:∀ x∈l,Ok (f x) Q):Ok (idx l j>>=f) Q:=by
 rw [AZ h0 h1]
 exact h _ (List.getElem_mem _)
theorem fj {b n:Nat} {f:Unit→Option β} {Q:β→Prop} (h1:n * b≤140737488355328) (h2:n≤9223372036854775807) (h:Ok (f ()) Q):Ok (fits b n>>=f) Q:=oe (cY h1 h2) h
theorem Q0 {b:Nat} {j:Int} {f:Nat→Option β} {Q:β→Prop} (h0:0≤j) (h1:b * j.toNat≤281474976710656) (h2:j≤9223372036854775807) (h:Ok (f j.toNat) Q):Ok (mk b j>>=f) Q:=by
 obtain ⟨n,rfl⟩ : ∃ n:Nat,j=n:=⟨j.toNat,by omega⟩
 exact oe (FC (by simpa using h1) (by omega)) (by simpa using h)
theorem oc {b:Bool} {x y:Option α} {Q:α→Prop} (h1:b=true→Ok x Q) (h2:b=false→Ok y Q):Ok (bif b then x else y) Q:=by
 cases b with
 | true=>exact h1 rfl
 | false=>exact h2 rfl
theorem od {p:Prop} [Decidable p] {x y:Option α} {Q:α→Prop} (h1:p→Ok x Q) (h2 : ¬ p→Ok y Q):Ok (bif decide p then x else y) Q:=
 oc (fun h=>h1 (of_decide_eq_true h)) (fun h=>h2 (of_decide_eq_false h))
theorem og {m:Option Bool} {f:Bool→Option β} {Q:β→Prop} (hm:Ok m fun _=>True) (h:∀ b,Ok (f b) Q):Ok (m>>=f) Q:=ob hm fun b _=>h b
def HT (k:Nat) (J:S1→Prop) (mu:S1→Nat) (n:Nat) (E:S1→Prop) (G:R→Prop):Out S1 R→Prop
 | .norm s=>J s∧mu s < n
 | .exit k' s=>k'=k∧E s
 | .ret r=>G r
def Rt (Q:R→Prop):Out S R→Prop
 | .ret r=>Q r
 | _=>False
theorem lj {m:Option (Out S R)} {Q:R→Prop} (h:Ok m (Rt Q)):Ok (ak m) Q:=by
 obtain ⟨o,rfl,ho⟩:=h
 cases o with
 | ret r=>exact ⟨r,rfl,ho⟩
 | _=>exact ho.elim
def Rn (Q:R→Prop):Out R R→Prop
 | .norm r=>Q r
 | .ret r=>Q r
 | _=>False
theorem off {m:Option (Out R R)} {Q:R→Prop} (h:Ok m (Rn Q)):Ok (ZK m) Q:=by
 obtain ⟨o,rfl,ho⟩:=h
 cases o with
 | ret r=>exact ⟨r,rfl,ho⟩
 | norm r=>exact ⟨r,rfl,ho⟩
 | _=>exact ho.elim
theorem ol {body:S1→Option (Out S1 R)} {k:Nat} {f:S1→Option (Out S R)} {Q:Out S R→Prop} (J:S1→Prop) (mu:S1→Nat) {s0:S1} (h0:J s0)
  (step:∀ s,J s→Ok (body s) (HT k J mu (mu s) (fun s=>Ok (f s) Q) (fun r=>Q (.ret r)))):Ok (af (ae k (ag body s0)) f) Q:=by
 have key:∀ n s,mu s=n→J s→Ok (af (ae k (ag body s)) f) Q:=by
  intro n
  induction n using Nat.strongRecOn with
  | ind n ih=>
   intro s hn hs
   obtain ⟨o,e,ho⟩:=step s hs
   rw [p5,e]
   cases o with
   | norm s'=>exact ih _ (hn ▸ ho.2) s' rfl ho.1
   | exit k' s'=>
    obtain ⟨rfl,he⟩:=ho
    have:af (S:=S) (ae k' (some (Out.exit k' s':Out S1 R))) f=f s':=vn rfl
    rw [this]; exact he
   | ret r=>
    have:af (S:=S) (ae k (some (Out.ret r:Out S1 R))) f=some (.ret r):=AY rfl
    rw [this]; exact ⟨_,rfl,ho⟩
 exact key _ s0 rfl h0
end
theorem w1 {i n:Int} (h0:0≤i) (h1:i < n) (hn:n≤1048576000):aj (i+1)=i+1:=dM (by omega) (by omega)
theorem yY {α:Type} {P:α→Prop} {l:List α} {i:Nat} {x:α} (hl:∀ y∈l,P y) (hx:P x):∀ y∈l.set i x,P y:=fun y hy=>by
 rcases List.mem_or_eq_of_mem_set hy with h | h
 ·exact hl y h
 ·rw [h]; exact hx
theorem ib {α:Type} {P:α→Prop} {l:List α} {x:α} (hl:∀ y∈l,P y) (hx:P x):∀ y∈l++[x],P y:=fun y hy=>by
 rcases List.mem_append.1 hy with h | h
 ·exact hl y h
 ·rw [List.mem_singleton.1 h]; exact hx
theorem jw {α:Type} {P:α→Prop}:∀ y∈([]:List α),P y:=fun _ h=>nomatch h
end Go.Li
namespace Go.Proofs.YtbhhmalgcnhniaaGreat
open Go Go.Li
structure xB (x:List Int):Prop where
 len:x.length≤4096
 b:∀ y∈x,0≤y∧y < 256
structure Src (x:List Int) (s:aM):Prop where
 c:s.Code=x
 a0:0≤s.At
 a1:s.At≤x.length
theorem Src.on {x:List Int} {s t:aM} {h:Int} (S:Src x s) (T:Src x t):Src x (aM.mk s.Code t.At h):=⟨S.c,T.a0,T.a1⟩
theorem Src.at_ {x:List Int} {s:aM} {a h:Int} (S:Src x s) (h0:0≤a) (h1:a≤x.length):Src x (aM.mk s.Code a h):=⟨S.c,h0,h1⟩
theorem Nc (z:Int):∃ n:Nat,n≤16777215∧uV .and .u64 z (16777215:Int)=some (n:Int):=by
 refine ⟨(BitVec.ofInt 64 z &&& BitVec.ofInt 64 16777215).toNat,?_,?_⟩
 ·rw [BitVec.toNat_and]
  exact Nat.le_trans Nat.and_le_right (by decide)
 ·have h:(BitVec.ofInt 64 z &&& BitVec.ofInt 64 16777215).toNat≤16777215:=by
   rw [BitVec.toNat_and]
   exact Nat.le_trans Nat.and_le_right (by decide)
  show some (IntKind.u64.wrap ((BitVec.ofInt 64 z &&& BitVec.ofInt 64 16777215).toNat:Int))=_
  congr 1
  generalize (BitVec.ofInt 64 z &&& BitVec.ofInt 64 16777215).toNat=n at h
  unfold IntKind.wrap
  simp [IntKind.bits,IntKind.signed]
  omega
theorem XK (z:Int):∃ y,uV .shr .u64 z (33:Int)=some y:=by
 simp only [uV]
 rw [if_neg (by decide)]
 exact ⟨_,rfl⟩
theorem ei {x:List Int} (B:xB x) {s:aM} (S:Src x s) (n:Int):Ok (bK s n) fun y=>(0≤y.1∧(1≤n→y.1 < n))∧Src x y.2:=by
 obtain ⟨hc,h0,h1⟩:=S
 have hl:=B.len
 unfold bK
 refine lj (od (fun h=>os ⟨⟨Int.le_refl _,fun h'=>by omega⟩,hc,h0,h1⟩) fun h=>?_)
 obtain ⟨Uz,Al⟩:=XK (IntKind.u64.wrap (IntKind.u64.wrap (s.aw * 6364136223846793005)+1442695040888963407))
 refine oe rfl (oe rfl (oe Al ?_))
 obtain ⟨m,hm,em⟩:=Nc Uz
 refine oe em ?_
 have e1:IntKind.i64.wrap (m:Int)=m:=dM (by omega) (by omega)
 rw [e1]
 have mod:∀ z:Int,0≤z→uV .rem .i64 z n=some (z.tmod n)∧0≤z.tmod n∧z.tmod n < n:=fun z hz=>
  ⟨if_neg (by omega),Int.tmod_nonneg n hz,Int.tmod_lt_of_pos z (by omega)⟩
 refine od (fun h2=>?_) fun h2=>?_
 ·rw [hc] at h2 ⊢
  refine oi h0 h2 fun y hy=>?_
  have hb:=B.b y hy
  rw [show IntKind.i64.wrap y=y from dM (by omega) (by omega),dM (by omega) (by omega)]
  obtain ⟨e,g0,g1⟩:=mod ((m:Int)+y) (by omega)
  refine oe e (os ⟨⟨g0,fun _=>g1⟩,rfl,?_,?_⟩)
  ·show 0≤aj (s.At+1); rw [w1 h0 h2 (by omega)]; omega
  ·show aj (s.At+1)≤_; rw [w1 h0 h2 (by omega)]; omega
 ·obtain ⟨e,g0,g1⟩:=mod (m:Int) (by omega)
  exact oe e (os ⟨⟨g0,fun _=>g1⟩,hc,h0,h1⟩)
theorem VA {x:List Int} (B:xB x):Ok (pC x) fun y=>∃ s,y=some s∧Src x s:=by
 have hl:=B.len
 unfold pC
 refine lj (oe rfl (ol (fun s:Int×Int=>0≤s.1∧s.1≤x.length) (fun s=>(x.length - s.1).toNat) ⟨Int.le_refl _,by show (0:Int)≤_; omega⟩ ?_))
 rintro ⟨i,h⟩ ⟨h0,h1⟩
 dsimp only at h0 h1
 show Ok (pB x i h) _
 unfold pB
 refine ob (P:=fun b=>b=true→i < x.length) (od (fun h=>os fun _=>h) fun _=>os fun h=>by cases h) fun b hb=>oc (fun cg=>?_) fun _=>?_
 ·have hi:=hb cg
  refine oe rfl (oi h0 hi fun y _=>oe rfl (oe rfl (os ⟨⟨?_,?_⟩,?_⟩)))
  ·show 0≤aj (i+1); rw [w1 h0 hi (by omega)]; omega
  ·show aj (i+1)≤_; rw [w1 h0 hi (by omega)]; omega
  ·show (x.length - aj (i+1)).toNat < (x.length - i).toNat; rw [w1 h0 hi (by omega)]; omega
 ·exact os ⟨rfl,os ⟨_,rfl,rfl,Int.le_refl _,by show (0:Int)≤_; omega⟩⟩
theorem VU {x:List Int} (B:xB x) {s:aM} (S:Src x s) {l:List Int} (hl:1≤l.length):Ok (pI s l) fun y=>y.1∈l∧Src x y.2:=by
 unfold pI
 refine lj (ob (ei B S _) fun y hy=>?_)
 have h:=hy.1.2 (by omega)
 rw [AZ hy.1.1 h]
 exact os ⟨List.getElem_mem _,S.on hy.2⟩
structure jg (a b:Nat) (c:aG):Prop where
 o0:0≤c.aA
 o:c.aA≤a
 m:c.aF.length≤b
 t:c.To.length=c.aF.length
 i:(c.aH.length:Int)=c.aA
 k:c.aC.length=c.aF.length
 r:∀ y∈c.aC,y.length=c.aF.length
theorem jg.mono {a b a' b':Nat} {c:aG} (h:jg a b c) (ha:a≤a') (hb:b≤b'):jg a' b' c:=
 ⟨h.o0,by have:=h.o; omega,Nat.le_trans h.m hb,h.t,h.i,h.k,h.r⟩
theorem jg.small {a b:Nat} {c:aG} (h:jg a b c) (ha:a≤1048576) (hb:b≤1048576):fg c:=
 ⟨Nat.le_trans h.m hb,by rw [h.t]; exact Nat.le_trans h.m hb,by have:=h.i; have:=h.o; omega,by rw [h.k]; exact Nat.le_trans h.m hb,fun y hy=>by rw [h.r y hy]; exact Nat.le_trans h.m hb⟩
structure Sq (n:Nat) (l:List (List Int)):Prop where
 len:l.length=n
 row:∀ y∈l,y.length=n
theorem Q1 {n:Nat} {l:List (List Int)} (h:Sq n l) {e:List Int} (he:e∈l) (i j:Nat) (v:Int):Sq n (l.set i (e.set j v)):=
 ⟨by rw [List.length_set]; exact h.len,yY h.row (by rw [List.length_set]; exact h.row e he)⟩
end Go.Proofs.YtbhhmalgcnhniaaGreat
namespace Go.Proofs.YtbhhmalgcnhniaaGreat
open Go Go.Li
theorem Q2 {c d:aG} {a b a' b':Nat} (C:jg a b c) (D:jg a' b' d) (ha:a+a'≤100000) (hb:b+b'≤100000):Ok (jL c d) fun e=>jg (a+a') (b+b') e∧e.aA=c.aA+d.aA:=by
 have hC:=C.small (by omega) (by omega)
 obtain ⟨c0,c1,c2,c3,c4,c5,c6⟩:=C
 obtain ⟨d0,d1,d2,d3,d4,d5,d6⟩:=D
 unfold jL
 refine lj (oe (xx hC) ?_)
 refine ol (fun z:Int×List Int=>(0≤z.1∧z.1≤d.aA)∧(z.2.length:Int)=c.aA+z.1) (fun z=>(d.aA - z.1).toNat) ⟨⟨by show (0:Int)≤0; omega,d0⟩,by show (c.aH.length:Int)=_+0; omega⟩ ?_
 rintro ⟨i,id⟩ ⟨⟨i0,i1⟩,tC⟩
 dsimp only at i0 i1 tC
 show Ok (hY c d i id) _
 unfold hY
 refine od (fun hi=>?_) fun hi=>os ⟨rfl,?_⟩
 ·have hw:=w1 i0 hi (by omega)
  refine oi i0 (by omega) fun _ _=>fj (by omega) (by omega) (os ⟨⟨⟨?_,?_⟩,?_⟩,?_⟩) <;> dsimp only <;> rw [hw] <;> (try simp only [List.length_append,List.length_singleton]) <;> omega
 have row:∀ (l:List (List Int)) (i:Int),(∀ (k:Nat) y,l[k]? = some y→y.length=if (k:Int) < i then c.aF.length+d.aF.length else c.aF.length)→∀ y∈l,y.length≤c.aF.length+d.aF.length:=fun l i h y hy=>by
  obtain ⟨k,hk⟩:=List.getElem?_of_mem hy
  have:=h k y hk
  split at this <;> omega
 refine ol (fun z:Int×List (List Int)=>(0≤z.1∧z.1≤c.aF.length)∧z.2.length=c.aF.length∧∀ (k:Nat) y,z.2[k]? = some y→y.length=if (k:Int) < z.1 then c.aF.length+d.aF.length else c.aF.length) (fun z=>(c.aF.length - z.1).toNat)
  ⟨⟨by show (0:Int)≤0; omega,by show (0:Int)≤_; omega⟩,c5,fun k y hk=>by rw [if_neg (by show ¬ (k:Int) < 0; omega)]; exact c6 y (List.mem_of_getElem? hk)⟩ ?_
 rintro ⟨j,l⟩ ⟨⟨j0,j1⟩,hl,hr⟩
 dsimp only at j0 j1 hl hr
 show Ok (iB d j l) _
 unfold iB
 refine od (fun hj=>?_) fun hj=>os ⟨rfl,?_⟩
 ·refine ol (fun z:Int×List (List Int)=>(0≤z.1∧z.1≤d.aF.length)∧z.2.length=c.aF.length∧∀ (k:Nat) y,z.2[k]? = some y→(y.length:Int)=if (k:Int) < j then (c.aF.length:Int)+d.aF.length else if (k:Int)=j then (c.aF.length:Int)+z.1 else (c.aF.length:Int)) (fun z=>(d.aF.length - z.1).toNat)
   ⟨⟨by show (0:Int)≤0; omega,by show (0:Int)≤_; omega⟩,hl,fun k y hk=>by
    have:=hr k y hk
    show _=if (k:Int) < j then _ else if (k:Int)=j then (c.aF.length:Int)+0 else _
    split at this <;> split <;> (try split) <;> omega⟩ ?_
  rintro ⟨m,l⟩ ⟨⟨m0,m1⟩,hl,hr⟩
  dsimp only at m0 m1 hl hr
  show Ok (iA d j m l) _
  unfold iA
  refine od (fun hm=>?_) fun hm=>os ⟨rfl,?_⟩
  ·have hw:=w1 m0 hm (by omega)
   have hg:l[j.toNat]? = some (l[j.toNat]'(by omega)):=List.getElem?_eq_getElem _
   have hlen:=hr _ _ hg
   rw [if_neg (by omega),if_pos (by omega)] at hlen
   rw [AZ j0 (by omega)]
   refine fj (by omega) (by omega) (os ⟨⟨⟨?_,?_⟩,?_,?_⟩,?_⟩)
   ·dsimp only; rw [hw]; omega
   ·dsimp only; rw [hw]; omega
   ·dsimp only; rw [List.length_set]; exact hl
   ·intro k y hk
    dsimp only at hk ⊢
    rw [hw]
    rw [List.getElem?_set] at hk
    by_cases e:j.toNat=k
    ·rw [if_pos e,if_pos (by omega)] at hk
     rw [← Option.some.inj hk,if_neg (by omega),if_pos (by omega),List.length_append,List.length_singleton]; omega
    ·rw [if_neg e] at hk
     have:=hr k y hk
     rw [if_neg (show ¬ (k:Int)=j by omega)] at this ⊢
     exact this
   ·dsimp only; rw [hw]; omega
  ·have hw:=w1 j0 hj (by omega)
   refine os ⟨⟨⟨?_,?_⟩,hl,?_⟩,?_⟩
   ·dsimp only; rw [hw]; omega
   ·dsimp only; rw [hw]; omega
   ·intro k y hk
    dsimp only at hk ⊢
    rw [hw]
    have:=hr k y hk
    split at this <;> split <;> (try split at this) <;> omega
   ·dsimp only; rw [hw]; omega
 have gp:∀ y∈l,y.length=c.aF.length+d.aF.length:=fun y hy=>by
  obtain ⟨k,hk⟩:=List.getElem?_of_mem hy
  have h1:=hr k y hk
  have h2:=bb hk
  rw [if_pos (by omega)] at h1
  exact h1
 refine ol (fun z:Int×List Int×List Int×List (List Int)=>(0≤z.1∧z.1≤d.aF.length)∧(z.2.1.length:Int)=c.aF.length+z.1∧(z.2.2.1.length:Int)=c.aF.length+z.1∧(z.2.2.2.length:Int)=c.aF.length+z.1∧∀ y∈z.2.2.2,y.length=c.aF.length+d.aF.length) (fun z=>(d.aF.length - z.1).toNat)
  ⟨⟨by show (0:Int)≤0; omega,by show (0:Int)≤_; omega⟩,by show (c.aF.length:Int)=_+0; omega,by show (c.To.length:Int)=_+0; omega,by show (l.length:Int)=_+0; omega,gp⟩ ?_
 rintro ⟨m,f,t,k⟩ ⟨⟨m0,m1⟩,hf,ht,hk,nu⟩
 dsimp only at m0 m1 hf ht hk nu
 show Ok (iE c d m f t k) _
 unfold iE
 refine od (fun hm=>?_) fun hm=>os ⟨rfl,os ?_⟩
 ·have hw:=w1 m0 hm (by omega)
  refine oi m0 (by omega) fun _ _=>fj (by omega) (by omega) (oi m0 (by omega) fun _ _=>fj (by omega) (by omega) ?_)
  refine ol (fun z:List Int×Int=>(0≤z.2∧z.2≤c.aF.length)∧(z.1.length:Int)=z.2) (fun z=>(c.aF.length - z.2).toNat) ⟨⟨by show (0:Int)≤0; omega,by show (0:Int)≤_; omega⟩,rfl⟩ ?_
  rintro ⟨row,p⟩ ⟨⟨p0,p1⟩,bj⟩
  dsimp only at p0 p1 bj
  show Ok (iC c row p) _
  unfold iC
  refine od (fun hp=>?_) fun hp=>os ⟨rfl,?_⟩
  ·have hw:=w1 p0 hp (by omega)
   refine fj (by omega) (by omega) (os ⟨⟨⟨?_,?_⟩,?_⟩,?_⟩) <;> dsimp only <;> rw [hw] <;> (try simp only [List.length_append,List.length_singleton]) <;> omega
  ·refine ol (fun z:List Int×Int=>(0≤z.2∧z.2≤d.aF.length)∧(z.1.length:Int)=c.aF.length+z.2) (fun z=>(d.aF.length - z.2).toNat) ⟨⟨by show (0:Int)≤0; omega,by show (0:Int)≤_; omega⟩,by show (row.length:Int)=_+0; omega⟩ ?_
   rintro ⟨row,q⟩ ⟨⟨q0,q1⟩,bj⟩
   dsimp only at q0 q1 bj
   show Ok (iD c d m row q) _
   unfold iD
   refine od (fun hq=>?_) fun hq=>os ⟨rfl,?_⟩
   ·have hw:=w1 q0 hq (by omega)
    refine oi m0 (by omega) fun e he=>?_
    have:=d6 e he
    refine oi q0 (by omega) fun e' _=>od (fun _=>fj (by omega) (by omega) (os ⟨⟨⟨?_,?_⟩,?_⟩,?_⟩)) fun _=>fj (by omega) (by omega) (os ⟨⟨⟨?_,?_⟩,?_⟩,?_⟩) <;> dsimp only <;> rw [hw] <;> (try simp only [List.length_append,List.length_singleton]) <;> omega
   ·refine fj (by omega) (by omega) (os ⟨⟨⟨?_,?_⟩,?_,?_,?_,ib nu (by omega)⟩,?_⟩) <;> dsimp only <;> rw [hw] <;> (try simp only [List.length_append,List.length_singleton]) <;> omega
 ·have hw:aj (c.aA+d.aA)=c.aA+d.aA:=dM (by omega) (by omega)
  refine ⟨⟨?_,?_,?_,?_,?_,?_,fun y hy=>?_⟩,hw⟩ <;> dsimp only
  ·rw [hw]; omega
  ·rw [hw]; omega
  ·omega
  ·omega
  ·rw [hw]; omega
  ·omega
  ·have:=nu y hy; omega
end Go.Proofs.YtbhhmalgcnhniaaGreat
namespace Go.Proofs.YtbhhmalgcnhniaaGreat
open Go Go.Li
theorem VV {c d:aG} (C:jg 1 4 c) (D:jg 1 4 d):Ok (iP c d) (jg 2 12):=by
 unfold iP
 refine lj (ob (Q2 C D (by omega) (by omega)) fun e he=>?_)
 obtain ⟨⟨e0,e1,e2,e3,e4,e5,e6⟩,_⟩:=he
 obtain ⟨c0,c1,-⟩:=C
 obtain ⟨d0,d1,-⟩:=D
 refine ol (fun z:Int×List Int×List Int=>(0≤z.1∧z.1≤c.aA)∧z.2.2.length=z.2.1.length∧(e.aF.length≤z.2.1.length∧(z.2.1.length:Int)≤8+4 * z.1)) (fun z=>(c.aA - z.1).toNat) ⟨⟨by show (0:Int)≤0; omega,c0⟩,e3,Nat.le_refl _,by show (e.aF.length:Int)≤8+4 * 0; omega⟩ ?_
 rintro ⟨i,f,t⟩ ⟨⟨i0,i1⟩,ht,hm,hf⟩
 dsimp only at i0 i1 ht hm hf
 show Ok (gK c d i f t) _
 unfold gK
 refine od (fun hi=>?_) fun hi=>os ⟨rfl,?_⟩
 ·refine ol (fun z:Int×List Int×List Int=>(0≤z.1∧z.1≤d.aA)∧z.2.2.length=z.2.1.length∧(e.aF.length≤z.2.1.length∧(z.2.1.length:Int)≤8+4 * i+z.1)) (fun z=>(d.aA - z.1).toNat) ⟨⟨by show (0:Int)≤0; omega,d0⟩,ht,hm,by show (f.length:Int)≤8+4 * i+0; omega⟩ ?_
  rintro ⟨j,f,t⟩ ⟨⟨j0,j1⟩,ht,hm,hf⟩
  dsimp only at j0 j1 ht hm hf
  show Ok (gJ c d i j f t) _
  unfold gJ
  refine od (fun hj=>?_) fun hj=>os ⟨rfl,?_⟩
  ·have hw:=w1 j0 hj (by omega)
   refine fj (by omega) (by omega) (fj (by omega) (by omega) (os ⟨⟨⟨?_,?_⟩,?_,?_,?_⟩,?_⟩)) <;> dsimp only <;> (try rw [hw]) <;> (try simp only [List.length_append,List.length_singleton]) <;> omega
  ·have hw:=w1 i0 hi (by omega)
   refine os ⟨⟨⟨?_,?_⟩,ht,hm,?_⟩,?_⟩ <;> dsimp only <;> rw [hw] <;> omega
 ·refine ol (fun z:List (List Int)×Int=>(0≤z.2∧z.2≤f.length)∧(z.1.length:Int)=z.2∧∀ y∈z.1,y.length=f.length) (fun z=>(f.length - z.2).toNat) ⟨⟨by show (0:Int)≤0; omega,by show (0:Int)≤_; omega⟩,rfl,jw⟩ ?_
  rintro ⟨k,b⟩ ⟨⟨b0,b1⟩,hk,nu⟩
  dsimp only at b0 b1 hk nu
  show Ok (gM c d e f t k b) _
  unfold gM
  refine od (fun hb=>?_) fun hb=>os ⟨rfl,os ⟨e0,e1,?_,ht,e4,?_,nu⟩⟩
  ·refine ol (fun z:List Int×Int=>(0≤z.2∧z.2≤f.length)∧(z.1.length:Int)=z.2) (fun z=>(f.length - z.2).toNat) ⟨⟨by show (0:Int)≤0; omega,by show (0:Int)≤_; omega⟩,rfl⟩ ?_
   rintro ⟨row,g⟩ ⟨⟨g0,g1⟩,bj⟩
   dsimp only at g0 g1 bj
   show Ok (gL c d e f t b row g) _
   unfold gL
   refine od (fun hg=>?_) fun hg=>os ⟨rfl,?_⟩
   ·have hw:=w1 g0 hg (by omega)
    refine oi b0 (by omega) fun _ _=>oi g0 (by omega) fun _ _=>oc (fun _=>?_) fun _=>ob (P:=fun x=>x=true→b < e.aF.length∧g < e.aF.length) (od (fun h1=>os fun h=>⟨h1,of_decide_eq_true h⟩) fun _=>os fun h=>by cases h) fun x hx=>oc (fun yc=>?_) fun _=>oi b0 (by omega) fun _ _=>oi g0 (by omega) fun _ _=>?_
    ·refine fj (by omega) (by omega) (os ⟨⟨⟨?_,?_⟩,?_⟩,?_⟩) <;> dsimp only <;> rw [hw] <;> (try simp only [List.length_append,List.length_singleton]) <;> omega
    ·obtain ⟨h1,h2⟩:=hx yc
     refine oi b0 (by omega) fun y hy=>?_
     have:=e6 y hy
     refine oi g0 (by omega) fun _ _=>fj (by omega) (by omega) (os ⟨⟨⟨?_,?_⟩,?_⟩,?_⟩) <;> dsimp only <;> rw [hw] <;> (try simp only [List.length_append,List.length_singleton]) <;> omega
    ·refine fj (by omega) (by omega) (os ⟨⟨⟨?_,?_⟩,?_⟩,?_⟩) <;> dsimp only <;> rw [hw] <;> (try simp only [List.length_append,List.length_singleton]) <;> omega
   ·have hw:=w1 b0 hb (by omega)
    refine fj (by omega) (by omega) (os ⟨⟨⟨?_,?_⟩,?_,ib nu (by omega)⟩,?_⟩) <;> dsimp only <;> rw [hw] <;> (try simp only [List.length_append,List.length_singleton]) <;> omega
  all_goals (try dsimp only)
  all_goals omega
theorem Nd {i n a b:Int} (i0:0≤i) (i1:i≤a) (n0:0≤n) (n1:n≤b):0≤i * n∧i * n≤a * b:=
 ⟨Int.mul_nonneg i0 n0,Int.mul_le_mul i1 n1 n0 (by omega)⟩
theorem CL (i n:Int):(i+1) * n=i * n+n:=by rw [Int.add_mul,Int.one_mul]
theorem Es {i n a:Int} (h1 : ¬ i < a) (h2:i≤a):i * n=a * n:=by rw [show i=a by omega]
theorem Nf {c d:aG} (C:jg 8 40 c) (D:jg 4 20 d):Ok (fV c d) (jg 32 800):=by
 obtain ⟨c0,c1,c2,c3,c4,c5,c6⟩:=C
 obtain ⟨d0,d1,d2,d3,d4,d5,d6⟩:=D
 have bO:∀ {i:Int},0≤i→i≤c.aA→0≤i * d.aA∧i * d.aA≤8 * 4:=fun h0 h1=>Nd h0 (by omega) d0 (by omega)
 have bM:∀ {i:Int},0≤i→i≤c.aF.length→0≤i * (d.aF.length:Int)∧i * (d.aF.length:Int)≤40 * 20:=fun h0 h1=>Nd h0 (by omega) (by omega) (by omega)
 unfold fV
 refine lj (ol (fun z:Int×List Int=>(0≤z.1∧z.1≤c.aA)∧(z.2.length:Int)=z.1 * d.aA) (fun z=>(c.aA - z.1).toNat) ⟨⟨by show (0:Int)≤0; omega,c0⟩,by show (0:Int)=0 * d.aA; rw [Int.zero_mul]⟩ ?_)
 rintro ⟨i,id⟩ ⟨⟨i0,i1⟩,tC⟩
 dsimp only at i0 i1 tC
 show Ok (fI c d i id) _
 unfold fI
 have hbi:=bO i0 i1
 refine od (fun hi=>?_) fun hi=>os ⟨rfl,?_⟩
 ·refine ol (fun z:Int×List Int=>(0≤z.1∧z.1≤d.aA)∧(z.2.length:Int)=i * d.aA+z.1) (fun z=>(d.aA - z.1).toNat) ⟨⟨by show (0:Int)≤0; omega,d0⟩,by show (id.length:Int)=i * d.aA+0; omega⟩ ?_
  rintro ⟨j,id⟩ ⟨⟨j0,j1⟩,tC⟩
  dsimp only at j0 j1 tC
  show Ok (fH c d i j id) _
  unfold fH
  refine od (fun hj=>?_) fun hj=>os ⟨rfl,?_⟩
  ·have hw:=w1 j0 hj (by omega)
   refine oi i0 (by omega) fun _ _=>oi j0 (by omega) fun _ _=>fj (by omega) (by omega) (os ⟨⟨⟨?_,?_⟩,?_⟩,?_⟩) <;> dsimp only <;> rw [hw] <;> (try simp only [List.length_append,List.length_singleton]) <;> omega
  ·have hw:=w1 i0 hi (by omega)
   have hn:=CL i d.aA
   refine os ⟨⟨⟨?_,?_⟩,?_⟩,?_⟩ <;> dsimp only <;> rw [hw] <;> omega
 have hO:=Es (n:=d.aA) hi i1
 refine ol (fun z:Int×List Int×List Int×List (List Int)=>(0≤z.1∧z.1≤c.aF.length)∧(z.2.1.length:Int)=z.1 * (d.aF.length:Int)∧z.2.2.1.length=z.2.1.length∧z.2.2.2.length=z.2.1.length∧∀ y∈z.2.2.2,(y.length:Int)=(c.aF.length:Int) * (d.aF.length:Int)) (fun z=>(c.aF.length - z.1).toNat)
  ⟨⟨by show (0:Int)≤0; omega,by show (0:Int)≤_; omega⟩,by show (0:Int)=0 * (d.aF.length:Int); rw [Int.zero_mul],rfl,rfl,jw⟩ ?_
 rintro ⟨a,f,t,k⟩ ⟨⟨a0,a1⟩,hf,ht,hk,nu⟩
 dsimp only at a0 a1 hf ht hk nu
 show Ok (fM c d a f t k) _
 unfold fM
 have hba:=bM a0 a1
 have hbc:=bM (i:=(c.aF.length:Int)) (by omega) (by omega)
 refine od (fun ha=>?_) fun ha=>os ⟨rfl,os ?_⟩
 ·refine ol (fun z:Int×List Int×List Int×List (List Int)=>(0≤z.1∧z.1≤d.aF.length)∧(z.2.1.length:Int)=a * (d.aF.length:Int)+z.1∧z.2.2.1.length=z.2.1.length∧z.2.2.2.length=z.2.1.length∧∀ y∈z.2.2.2,(y.length:Int)=(c.aF.length:Int) * (d.aF.length:Int)) (fun z=>(d.aF.length - z.1).toNat)
   ⟨⟨by show (0:Int)≤0; omega,by show (0:Int)≤_; omega⟩,by show (f.length:Int)=a * (d.aF.length:Int)+0; omega,ht,hk,nu⟩ ?_
  rintro ⟨b,f,t,k⟩ ⟨⟨b0,b1⟩,hf,ht,hk,nu⟩
  dsimp only at b0 b1 hf ht hk nu
  show Ok (fL c d a b f t k) _
  unfold fL
  refine od (fun hb=>?_) fun hb=>os ⟨rfl,?_⟩
  ·refine oi a0 (by omega) fun _ _=>oi b0 (by omega) fun _ _=>fj (by omega) (by omega) (oi a0 (by omega) fun _ _=>oi b0 (by omega) fun _ _=>fj (by omega) (by omega) ?_)
   refine ol (fun z:List Int×Int=>(0≤z.2∧z.2≤c.aF.length)∧(z.1.length:Int)=z.2 * (d.aF.length:Int)) (fun z=>(c.aF.length - z.2).toNat) ⟨⟨by show (0:Int)≤0; omega,by show (0:Int)≤_; omega⟩,by show (0:Int)=0 * (d.aF.length:Int); rw [Int.zero_mul]⟩ ?_
   rintro ⟨row,p⟩ ⟨⟨p0,p1⟩,bj⟩
   dsimp only at p0 p1 bj
   show Ok (fK c d a b row p) _
   unfold fK
   have hbp:=bM p0 p1
   refine od (fun hp=>?_) fun hp=>os ⟨rfl,?_⟩
   ·refine ol (fun z:List Int×Int=>(0≤z.2∧z.2≤d.aF.length)∧(z.1.length:Int)=p * (d.aF.length:Int)+z.2) (fun z=>(d.aF.length - z.2).toNat) ⟨⟨by show (0:Int)≤0; omega,by show (0:Int)≤_; omega⟩,by show (row.length:Int)=p * (d.aF.length:Int)+0; omega⟩ ?_
    rintro ⟨row,q⟩ ⟨⟨q0,q1⟩,bj⟩
    dsimp only at q0 q1 bj
    show Ok (fJ c d a b p row q) _
    unfold fJ
    refine od (fun hq=>?_) fun hq=>os ⟨rfl,?_⟩
    ·have hw:=w1 q0 hq (by omega)
     refine ob (P:=fun _=>True) (oi a0 (by omega) fun y hy=>?_) fun g _=>oc (fun _=>oi a0 (by omega) fun y hy=>?_) fun _=>?_
     ·have:=c6 y hy
      refine oi p0 (by omega) fun _ _=>od (fun _=>oi b0 (by omega) fun y' tB=>?_) fun _=>os trivial
      have:=d6 y' tB
      exact oi q0 (by omega) fun _ _=>os trivial
     ·have:=c6 y hy
      refine oi p0 (by omega) fun _ _=>oi b0 (by omega) fun y' tB=>?_
      have:=d6 y' tB
      refine oi q0 (by omega) fun _ _=>fj (by omega) (by omega) (os ⟨⟨⟨?_,?_⟩,?_⟩,?_⟩) <;> dsimp only <;> rw [hw] <;> (try simp only [List.length_append,List.length_singleton]) <;> omega
     ·refine fj (by omega) (by omega) (os ⟨⟨⟨?_,?_⟩,?_⟩,?_⟩) <;> dsimp only <;> rw [hw] <;> (try simp only [List.length_append,List.length_singleton]) <;> omega
    ·have hw:=w1 p0 hp (by omega)
     have hn:=CL p (d.aF.length:Int)
     refine os ⟨⟨⟨?_,?_⟩,?_⟩,?_⟩ <;> dsimp only <;> rw [hw] <;> omega
   ·have hw:=w1 b0 hb (by omega)
    have hP:=Es (n:=(d.aF.length:Int)) hp p1
    refine fj (by omega) (by omega) (os ⟨⟨⟨?_,?_⟩,?_,?_,?_,ib nu (by omega)⟩,?_⟩) <;> dsimp only <;> (try rw [hw]) <;> (try simp only [List.length_append,List.length_singleton]) <;> omega
  ·have hw:=w1 a0 ha (by omega)
   have hn:=CL a (d.aF.length:Int)
   refine os ⟨⟨⟨?_,?_⟩,?_,ht,hk,nu⟩,?_⟩ <;> dsimp only <;> rw [hw] <;> omega
 ·have hA:=Es (n:=(d.aF.length:Int)) ha a1
  have hbo:=bO c0 (Int.le_refl _)
  have hw:aj (c.aA * d.aA)=c.aA * d.aA:=dM (by omega) (by omega)
  refine ⟨?_,?_,?_,ht,?_,hk,fun y hy=>?_⟩ <;> dsimp only
  ·rw [hw]; omega
  ·rw [hw]; omega
  ·omega
  ·rw [hw]; omega
  ·have:=nu y hy; omega
end Go.Proofs.YtbhhmalgcnhniaaGreat
namespace Go.Proofs.YtbhhmalgcnhniaaGreat
open Go Go.Li
structure Dag (n:Int) (f t:List Int):Prop where
 len:t.length=f.length
 QN:f.length≤3
 up:∀ (k:Nat) u v,f[k]? = some u→t[k]? = some v→0≤u∧u < v∧v < n
def wt (v:Int):Nat:=if v=0 then 13 else if v=1 then 4 else 1
def ue (l:List bH):Nat:=(l.map fun p=>wt p.To).sum
def cap (v:Int) (e:Nat):Nat:=if v=0 then 4 * e else if v=1 then e else 0
theorem Jn (l:List bH) (p:bH):ue (l++[p])=ue l+wt p.To:=by simp [ue]
theorem VW (v:Int):1≤wt v:=by unfold wt; split <;> (try split) <;> omega
theorem Jo (l:List bH):l.length≤ue l:=by
 induction l with
 | nil=>exact Nat.le_refl _
 | cons p l ih=>
  have:=VW p.To
  have e:ue (p :: l)=wt p.To+ue l:=by simp [ue]
  rw [e,List.length_cons]; omega
theorem PH {l:List bH} {k:Nat} {p:bH} (h:l[k]? = some p):ue (l.drop k)=wt p.To+ue (l.drop (k+1)):=by
 have hk:=bb h
 rw [List.getElem?_eq_getElem hk] at h
 rw [List.drop_eq_getElem_cons hk,Option.some.inj h]
 simp [ue]
structure uS (n:Int) (m:Nat) (p:bH):Prop where
 f0:0≤p.aF
 f1:p.aF < n
 t0:0≤p.To
 t1:p.To < n
 e:p.kq.length≤m
theorem PI {p q:bH} (h:p.kq.length≤1048576):Ok (jN p q) fun _=>True:=by
 unfold jN
 exact lj (oc (fun _=>os trivial) fun _=>oc (fun _=>os trivial) fun _=>oe (Pf _ _ (by omega)) (os trivial))
theorem VX {a b:List Int} (h:a.length≤1048576):Ok (iO a b) fun _=>True:=by
 unfold iO
 refine lj (oc (fun _=>os trivial) fun hl=>?_)
 have hl:(a.length:Int)=b.length:=by simpa using hl
 refine ol (fun i:Int=>0≤i∧i≤a.length) (fun i=>(a.length - i).toNat) ⟨by omega,by omega⟩ fun i hi=>?_
 unfold mO
 refine od (fun h1=>oi hi.1 h1 fun _ _=>oi hi.1 (by omega) fun _ _=>oc (fun _=>os trivial) fun _=>os ⟨⟨?_,?_⟩,?_⟩) fun _=>os ⟨rfl,os trivial⟩
 all_goals (try dsimp only)
 all_goals rw [w1 hi.1 h1 (by omega)]
 all_goals omega
section
variable {n:Int} {f t:List Int} (D:Dag n f t) (n0:0≤n) (n3:n≤3)
include D n0 n3
theorem VY {l0:List bH} {k:Nat} {p0:bH} (hp:l0[k]? = some p0) (hl:∀ (i:Nat) p,l0[i]? = some p→uS n i p) (hw:k+ue (l0.drop k)≤18) {Q:Out (List bH×Int) (List bH)→Prop} {g:List bH×Int→Option (Out (List bH×Int) (List bH))}
  (hg:∀ l e,(∀ (i:Nat) p,l[i]? = some p→uS n i p)→k+1+ue (l.drop (k+1))≤18→Ok (g (l,e)) Q):Ok (af (ae 4 (ag (fun s=>jO f t k s.1 s.2) (l0,(0:Int)))) g) Q:=by
 have hP:=hl k p0 hp
 have hk:=bb hp
 have hd:=PH hp
 have f3:=D.QN
 refine ol (fun z:List bH×Int=>((0≤z.2∧z.2≤f.length)∧z.1[k]? = some p0)∧(∀ (i:Nat) p,z.1[i]? = some p→uS n i p)∧k+wt p0.To+ue (z.1.drop (k+1))≤18+cap p0.To z.2.toNat) (fun z=>(f.length - z.2).toNat)
  ⟨⟨⟨by show (0:Int)≤0; omega,by show (0:Int)≤_; omega⟩,hp⟩,hl,by show k+wt p0.To+ue (l0.drop (k+1))≤_; omega⟩ ?_
 rintro ⟨l,e⟩ ⟨⟨⟨e0,e1⟩,Gv⟩,hl,hs⟩
 dsimp only at e0 e1 Gv hl hs
 have CZ:=bb Gv
 have hlen:l.length≤1000:=by
  have h1:=Jo (l.drop (k+1))
  rw [List.length_drop] at h1
  have:cap p0.To e.toNat≤12:=by unfold cap; split <;> (try split) <;> omega
  omega
 show Ok (jO f t k l e) _
 unfold jO
 refine od (fun he=>?_) fun he=>os ⟨rfl,hg l e hl ?_⟩
 ·have hw:=w1 e0 he (by omega)
  have hu:f[e.toNat]? = some (f[e.toNat]'(by omega)):=List.getElem?_eq_getElem _
  have hv:t[e.toNat]? = some (t[e.toNat]'(by have:=D.len; omega)):=List.getElem?_eq_getElem _
  have up:=D.up _ _ _ hu hv
  have eu:idx f e=some (f[e.toNat]'(by omega)):=by rw [Ht e0]; exact hu
  have ev:idx t e=some (t[e.toNat]'(by have:=D.len; omega)):=by rw [Ht e0]; exact hv
  have ek:idx l (k:Int)=some p0:=by rw [bu]; exact Gv
  generalize f[e.toNat]'(by omega)=u at *
  generalize t[e.toNat]'(by have:=D.len; omega)=v at *
  refine oe eu (oe ek (oc (fun h=>?_) fun h=>os ⟨⟨⟨⟨?_,?_⟩,Gv⟩,hl,?_⟩,?_⟩))
  ·have h:u=p0.To:=by simpa using h
   have hpe:=hP.e
   refine oe ek (oe ev (oe ek (oe (j3 _ (by omega)) (fj (by omega) (by omega) (fj (by omega) (by omega) (os ⟨⟨⟨⟨?_,?_⟩,?_⟩,?_,?_⟩,?_⟩))))))
   ·dsimp only; rw [hw]; omega
   ·dsimp only; rw [hw]; omega
   ·dsimp only; rw [List.getElem?_append_left CZ]; exact Gv
   ·intro i p hi
    dsimp only at hi
    by_cases pq:i < l.length
    ·rw [List.getElem?_append_left pq] at hi; exact hl i p hi
    ·rw [List.getElem?_append_right (by omega)] at hi
     have vJ:i - l.length=0:=by
      have:=bb hi
      rw [List.length_singleton] at this; omega
     rw [vJ] at hi
     have hi:=Option.some.inj hi
     rw [← hi]
     refine ⟨hP.f0,hP.f1,?_,?_,?_⟩ <;> dsimp only
     ·omega
     ·omega
     ·rw [List.length_append,List.length_singleton]; omega
   ·dsimp only
    rw [hw,List.drop_append_of_le_length (by omega),Jn]
    have e2:(e+1).toNat=e.toNat+1:=by omega
    rw [e2]
    have h1:0≤p0.To:=hP.t0
    have hc:wt v+cap p0.To e.toNat≤cap p0.To (e.toNat+1):=by
     unfold cap wt
     by_cases z0:p0.To=0
     ·rw [if_pos z0,if_pos z0]
      rw [if_neg (by omega)]
      split <;> omega
     ·by_cases z1:p0.To=1
      ·rw [if_neg z0,if_neg z0,if_pos z1,if_pos z1,if_neg (by omega),if_neg (by omega)]; omega
      ·omega
    show k+wt p0.To+(ue (l.drop (k+1))+wt v)≤_
    omega
   ·dsimp only; rw [hw]; omega
  ·dsimp only; rw [hw]; omega
  ·dsimp only; rw [hw]; omega
  ·dsimp only; rw [hw]
   have e2:(e+1).toNat=e.toNat+1:=by omega
   rw [e2]
   have:cap p0.To e.toNat≤cap p0.To (e.toNat+1):=by unfold cap; split <;> (try split) <;> omega
   omega
  ·dsimp only; rw [hw]; omega
 ·have:cap p0.To e.toNat+1≤wt p0.To:=by
   have hm:e.toNat≤3:=by omega
   unfold cap wt
   split
   ·omega
   ·split <;> omega
  omega
theorem VZ:Ok (mG n f t) fun l=>l.length≤18∧∀ p∈l,uS n 18 p:=by
 unfold mG
 refine lj (ol (fun z:List bH×Int=>(0≤z.2∧z.2≤n)∧(z.1.length:Int)=z.2∧(∀ (i:Nat) p,z.1[i]? = some p→uS n i p)∧ue z.1≤(if z.2=0 then 0 else if z.2=1 then 13 else if z.2=2 then 17 else 18)) (fun z=>(n - z.2).toNat)
  ⟨⟨by show (0:Int)≤0; omega,n0⟩,rfl,(fun i p h=>by simp at h),Nat.le_refl _⟩ ?_)
 rintro ⟨l,x⟩ ⟨⟨x0,x1⟩,hl,hp,hw⟩
 dsimp only at x0 x1 hl hp hw
 show Ok (lE n l x) _
 unfold lE
 refine od (fun hx=>?_) fun hx=>os ⟨rfl,?_⟩
 ·have AM:=w1 x0 hx (by omega)
  refine fj (by omega) (by omega) (os ⟨⟨⟨?_,?_⟩,?_,?_,?_⟩,?_⟩)
  ·dsimp only; rw [AM]; omega
  ·dsimp only; rw [AM]; omega
  ·dsimp only; rw [AM,List.length_append,List.length_singleton]; omega
  ·intro i p hi
   dsimp only at hi
   by_cases pq:i < l.length
   ·rw [List.getElem?_append_left pq] at hi; exact hp i p hi
   ·rw [List.getElem?_append_right (by omega)] at hi
    have vJ:i - l.length=0:=by
     have:=bb hi
     rw [List.length_singleton] at this; omega
    rw [vJ] at hi
    rw [← Option.some.inj hi]
    exact ⟨x0,hx,x0,hx,Nat.zero_le _⟩
  ·dsimp only
   rw [AM,Jn]
   show ue l+wt x≤_
   unfold wt
   by_cases h0:x=0
   ·subst h0; simp at hw ⊢; omega
   ·by_cases h1:x=1
    ·subst h1; simp at hw ⊢; omega
    ·obtain rfl:x=2:=by omega
     simp at hw ⊢; omega
  ·dsimp only; rw [AM]; omega
 ·have hw0:ue l≤18:=by
   refine Nat.le_trans hw ?_
   split
   ·omega
   ·split
    ·omega
    ·split <;> omega
  refine ol (fun z:List bH×Int=>0≤z.2∧(∀ (i:Nat) p,z.1[i]? = some p→uS n i p)∧z.2.toNat+ue (z.1.drop z.2.toNat)≤18) (fun z=>(19 - z.2).toNat) ⟨by show (0:Int)≤0; omega,hp,by show 0+ue (l.drop 0)≤18; rw [List.drop_zero]; omega⟩ ?_
  rintro ⟨l,k⟩ ⟨k0,hp,hw⟩
  dsimp only at k0 hp hw
  obtain ⟨k,rfl⟩ : ∃ m:Nat,k=m:=⟨k.toNat,by omega⟩
  rw [Int.toNat_natCast] at hw
  have QU:l.length≤18:=by
   have:=Jo (l.drop k)
   rw [List.length_drop] at this; omega
  show Ok (lF f t l k) _
  unfold lF
  refine ob (P:=fun b=>b=true→(k:Int) < l.length) (od (fun h=>os fun _=>h) fun _=>os fun h=>by cases h) fun b hb=>oc (fun cg=>?_) fun _=>os ⟨rfl,?_⟩
  ·have CZ:=hb cg
   have hg:l[k]? = some (l[k]'(by omega)):=List.getElem?_eq_getElem _
   refine VY D n0 n3 hg hp hw fun l' e xP AM=>os ⟨⟨?_,xP,?_⟩,?_⟩
   ·dsimp only; rw [bF (by omega)]; omega
   ·dsimp only; rw [bF (by omega),Int.toNat_natCast]; exact AM
   ·dsimp only; rw [bF (by omega)]; omega
  ·have dx:∀ p∈l,uS n 18 p:=fun p h=>by
    obtain ⟨i,hi⟩:=List.getElem?_of_mem h
    have:=hp i p hi
    have tU:=bb hi
    exact ⟨this.f0,this.f1,this.t0,this.t1,by have:=this.e; omega⟩
   refine ol (fun z:List bH×Int=>1≤z.2∧z.1.length≤18∧∀ p∈z.1,uS n 18 p) (fun z=>(19 - z.2).toNat) ⟨by show (1:Int)≤1; omega,QU,dx⟩ ?_
   rintro ⟨l,i⟩ ⟨i0,hl,hp⟩
   dsimp only at i0 hl hp
   show Ok (lH l i) _
   unfold lH
   refine od (fun hi=>?_) fun _=>os ⟨rfl,os ⟨hl,hp⟩⟩
   refine ol (fun z:List bH×Int=>(0≤z.2∧z.2 < z.1.length)∧z.1.length≤18∧∀ p∈z.1,uS n 18 p) (fun z=>z.2.toNat) ⟨⟨by show 0≤i; omega,hi⟩,hl,hp⟩ ?_
   rintro ⟨l,j⟩ ⟨⟨j0,j1⟩,hl,hp⟩
   dsimp only at j0 j1 hl hp
   show Ok (lG l j) _
   unfold lG
   refine ob (P:=fun b=>b=true→0 < j) (od (fun h=>?_) fun _=>os fun h=>by cases h) fun b hb=>oc (fun cg=>?_) fun _=>os ⟨rfl,os ⟨⟨?_,hl,hp⟩,?_⟩⟩
   ·rw [dM (a:=j - 1) (by omega) (by omega)]
    refine oi j0 j1 fun p tW=>oi (by omega) (by omega) fun q _=>?_
    have:=(hp p tW).e
    exact ob (PI (by omega)) fun _ _=>os fun _=>h
   ·have h:=hb cg
    rw [dM (a:=j - 1) (by omega) (by omega)]
    refine oi j0 j1 fun p tW=>oi (by omega) (by omega) fun q hq=>oi j0 j1 fun _ _=>oi (by omega) (by rw [List.length_set]; omega) fun _ _=>os ⟨⟨⟨?_,?_⟩,?_,yY (yY hp (hp q hq)) (hp p tW)⟩,?_⟩ <;> dsimp only <;> (try rw [List.length_set,List.length_set]) <;> omega
   ·dsimp only; rw [dM (by omega) (by omega)]; omega
   ·dsimp only; rw [dM (by omega) (by omega)]; omega
theorem Et:Ok (fQ n f t) (jg 3 18):=by
 unfold fQ
 refine lj (ob (VZ D n0 n3) fun l hl=>?_)
 obtain ⟨hl,hp⟩:=hl
 refine Q0 n0 (by omega) (by omega) ?_
 refine ol (fun z:Int×List Int×List Int×List Int=>(0≤z.1∧z.1≤l.length)∧(z.2.1.length:Int)=z.1∧(z.2.2.1.length:Int)=z.1∧(z.2.2.2.length:Int)=n) (fun z=>(l.length - z.1).toNat) ⟨⟨by show (0:Int)≤0; omega,by show (0:Int)≤_; omega⟩,rfl,rfl,by show ((List.replicate _ _).length:Int)=n; rw [List.length_replicate]; omega⟩ ?_
 rintro ⟨i,a,b,id⟩ ⟨⟨i0,i1⟩,ha,hb,tC⟩
 dsimp only at i0 i1 ha hb tC
 show Ok (jT l i a b id) _
 unfold jT
 refine od (fun hi=>?_) fun hi=>os ⟨rfl,?_⟩
 ·have hw:=w1 i0 hi (by omega)
  refine oi i0 hi fun _ _=>fj (by omega) (by omega) (oi i0 hi fun _ _=>fj (by omega) (by omega) (oi i0 hi fun _ _=>oc (fun _=>oi i0 hi fun p tW=>?_) fun _=>os ⟨⟨⟨?_,?_⟩,?_,?_,tC⟩,?_⟩))
  ·have h:=hp p tW
   refine oi h.f0 (by have:=h.f1; omega) fun _ _=>os ⟨⟨⟨?_,?_⟩,?_,?_,?_⟩,?_⟩ <;> dsimp only <;> (try rw [hw]) <;> (try simp only [List.length_append,List.length_singleton,List.length_set]) <;> omega
  all_goals (try dsimp only)
  all_goals (try rw [hw])
  all_goals (try simp only [List.length_append,List.length_singleton])
  all_goals omega
 ·have fits:Ok (dT (aG.mk n a b id [])) fun y=>y=true:=by
   unfold dT
   refine lj (ob (P:=fun y=>y=true) (od (fun _=>os (decide_eq_true (by show (a.length:Int)≤40; omega))) fun h=>absurd (show n≤8 by omega) h) fun y hy=>os hy)
  refine ob fits fun y hy=>?_
  subst hy
  show Ok (af (ae 2 (ag (fun s=>hJ l s.1 s.2) ((0:Int),([]:(List (List Int)))))) _) _
  refine ol (fun z:Int×List (List Int)=>(0≤z.1∧z.1≤l.length)∧(z.2.length:Int)=z.1∧∀ y∈z.2,y.length=a.length) (fun z=>(l.length - z.1).toNat) ⟨⟨by show (0:Int)≤0; omega,by show (0:Int)≤_; omega⟩,rfl,jw⟩ ?_
  rintro ⟨j,k⟩ ⟨⟨j0,j1⟩,hk,nu⟩
  dsimp only at j0 j1 hk nu
  show Ok (hJ l j k) _
  unfold hJ
  refine od (fun hj=>?_) fun hj=>os ⟨rfl,os ⟨n0,?_,?_,?_,tC,?_,nu⟩⟩
  ·refine ol (fun z:List Int×Int=>(0≤z.2∧z.2≤l.length)∧(z.1.length:Int)=z.2) (fun z=>(l.length - z.2).toNat) ⟨⟨by show (0:Int)≤0; omega,by show (0:Int)≤_; omega⟩,rfl⟩ ?_
   rintro ⟨row,g⟩ ⟨⟨g0,g1⟩,bj⟩
   dsimp only at g0 g1 bj
   show Ok (jV l j row g) _
   unfold jV
   refine od (fun hg=>?_) fun hg=>os ⟨rfl,?_⟩
   ·have hw:=w1 g0 hg (by omega)
    refine oi j0 hj fun _ _=>oi g0 hg fun _ _=>oc (fun _=>oi j0 hj fun p tW=>?_) fun _=>?_
    ·have h1:=(hp p tW).e
     refine oe (j3 _ (by omega)) (oi g0 hg fun q hq=>?_)
     have h2:=(hp q hq).e
     refine fj (by omega) (by omega) ?_
     refine ol (fun z:Int×Int=>0≤z.2∧z.2≤l.length) (fun z=>(l.length - z.2).toNat) ⟨by show (0:Int)≤0; omega,by show (0:Int)≤_; omega⟩ ?_
     rintro ⟨c,h⟩ ⟨c0,c1⟩
     dsimp only at c0 c1
     show Ok (jU l j p.kq q c h) _
     unfold jU
     refine od (fun hh=>?_) fun hh=>os ⟨rfl,?_⟩
     ·have hw:=w1 c0 hh (by omega)
      refine ob (P:=fun _=>True) (oi c0 hh fun _ _=>oi j0 hj fun _ _=>oc (fun _=>oi c0 hh fun r hr=>?_) fun _=>os trivial) fun _ _=>oc (fun _=>os ⟨⟨?_,?_⟩,?_⟩) fun _=>os ⟨⟨?_,?_⟩,?_⟩
      ·have:=(hp r hr).e
       exact ob (VX (by omega)) fun _ _=>os trivial
      all_goals (try dsimp only)
      all_goals rw [hw]
      all_goals omega
     ·refine fj (by omega) (by omega) (os ⟨⟨⟨?_,?_⟩,?_⟩,?_⟩) <;> dsimp only <;> rw [hw] <;> (try simp only [List.length_append,List.length_singleton]) <;> omega
    ·refine fj (by omega) (by omega) (os ⟨⟨⟨?_,?_⟩,?_⟩,?_⟩) <;> dsimp only <;> rw [hw] <;> (try simp only [List.length_append,List.length_singleton]) <;> omega
   ·have hw:=w1 j0 hj (by omega)
    refine fj (by omega) (by omega) (os ⟨⟨⟨?_,?_⟩,?_,ib nu (by omega)⟩,?_⟩) <;> dsimp only <;> rw [hw] <;> (try simp only [List.length_append,List.length_singleton]) <;> omega
  all_goals (try dsimp only)
  all_goals omega
end
end Go.Proofs.YtbhhmalgcnhniaaGreat
namespace Go.Proofs.YtbhhmalgcnhniaaGreat
open Go Go.Li
theorem sq1:Sq 1 [[(1:Int)]]:=⟨rfl,by simp⟩
section
variable {x:List Int} (B:xB x)
include B
theorem V0 {s:aM} (S:Src x s) {c:aG} (C:jg 8 800 c):Ok (pJ s c) fun y=>fg y.1∧Src x y.2:=by
 have hC:=C.small (by omega) (by omega)
 have hm:=C.m
 have hk:=C.k
 have ht:=C.t
 have hi:=C.i
 have o0:=C.o0
 have o8:=C.o
 unfold pJ
 refine lj (oe (xx hC) (ob (ei B S _) fun y hy=>ob (ei B (S.on hy.2) _) fun z hz=>?_))
 have T:=S.on (h:=z.2.aw) hz.2
 have same:fg c∧Src x (aM.mk s.Code z.2.At z.2.aw):=⟨hC,T⟩
 have cell:Ok (bif decide ((c.aF.length:Int) > (0:Int)) then ((idx c.aC (y.1))>>=fun e=>((bK (aM.mk s.Code z.2.At z.2.aw) ((c.aF.length:Int)))>>=fun u=>((bK (aM.mk s.Code u.2.At u.2.aw) (aj ((c.aF.length:Int)+(1:Int))))>>=fun v=>((idx e (u.1))>>=fun _=>(some (Out.ret (S:=Unit) ((aG.mk c.aA c.aF c.To c.aH (c.aC.set (y.1).toNat (e.set (u.1).toNat (aj (v.1 - (1:Int)))))),(aM.mk s.Code v.2.At v.2.aw)))))))) else (some (Out.ret (c,(aM.mk s.Code z.2.At z.2.aw))))) (Rt fun y=>fg y.1∧Src x y.2):=by
  refine od (fun h=>oi hy.1.1 (by have:=hy.1.2 (by omega); omega) fun e he=>ob (ei B T _) fun u hu=>ob (ei B (S.on hu.2) _) fun v hv=>?_) fun _=>os same
  have hr:=C.r e he
  refine oi hu.1.1 (by have:=hu.1.2 (by omega); omega) fun _ _=>os ⟨⟨hC.f,hC.t,hC.i,?_,yY hC.r ?_⟩,S.on hv.2⟩
  ·show (List.set _ _ _).length≤_; rw [List.length_set]; exact hC.k
  ·show (List.set _ _ _).length≤_; rw [List.length_set]; omega
 refine oc (fun _=>ob (VU B T (l:=[aj (c.aA+(1:Int)),(-1:Int),(9:Int)]) (by simp)) fun p hp=>os ⟨⟨hC.f,hC.t,hC.i,hC.k,hC.r⟩,S.on hp.2⟩) fun _=>oc (fun _=>fj (by omega) (by omega) (os ⟨⟨?_,hC.t,hC.i,hC.k,hC.r⟩,T⟩)) fun _=>
  oc (fun _=>od (fun h=>ob (ei B T _) fun p hp=>oi (by omega) (by omega) fun _ _=>os ⟨⟨hC.f,hC.t,?_,hC.k,hC.r⟩,S.on hp.2⟩) fun _=>os same) fun _=>oc (fun _=>cell) fun _=>oc (fun _=>cell) fun _=>oc (fun _=>cell) fun _=>
  oc (fun _=>od (fun h=>ob (ei B T _) fun p hp=>oi hy.1.1 (by have:=hy.1.2 (by omega); omega) fun _ _=>os ⟨⟨hC.f,?_,hC.i,hC.k,hC.r⟩,S.on hp.2⟩) fun _=>os same) fun _=>od (fun h=>oi hy.1.1 (by have:=hy.1.2 (by omega); omega) fun e he=>?_) fun _=>os same
 ·show (c.aF++[(0:Int)]).length≤_; rw [List.length_append,List.length_singleton]; omega
 ·show (List.set _ _ _).length≤_; rw [List.length_set]; exact hC.i
 ·show (List.set _ _ _).length≤_; rw [List.length_set]; exact hC.t
 ·have hr:=C.r e he
  have etl:tl e (1:Int)=some (e.drop 1):=by
   unfold tl
   rw [ao (by omega),cond_true]; rfl
  refine oe etl (oi hy.1.1 (by have:=hy.1.2 (by omega); omega) fun _ _=>os ⟨⟨hC.f,hC.t,hC.i,?_,yY hC.r ?_⟩,T⟩)
  ·show (List.set _ _ _).length≤_; rw [List.length_set]; exact hC.k
  ·rw [List.length_drop]; omega
end
end Go.Proofs.YtbhhmalgcnhniaaGreat
