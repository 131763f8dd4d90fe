/- That a model does not fail, and what it gives: rules. No condition beside those that each theorem names. -/
import Derived.Test.YtilhlobfebngdaaGreatPa
import Derived.Test.YtilhlobfebngdaaGreatPj
namespace Go.Li
open Go
def Ok {α:Type} (m:Option α) (Q:α→Prop):Prop:=∃ x,m=some x∧Q x
section
variable {α β S S1 R:Type}
theorem Ok.mono {m:Option α} {P Q:α→Prop} (h:Ok m P) (hq:∀ x,P x→Q x):Ok m Q:=by
 obtain ⟨x,e,hx⟩:=h
 exact ⟨x,e,hq x hx⟩
theorem os {x:α} {Q:α→Prop} (h:Q x):Ok (some x) Q:=⟨x,rfl,h⟩
theorem ob {m:Option α} {f:α→Option β} {Q:β→Prop} {P:α→Prop} (hm:Ok m P) (h:∀ x,P x→Ok (f x) Q):Ok (m>>=f) Q:=by
 obtain ⟨x,rfl,hx⟩:=hm
 exact h x hx
theorem oe {m:Option α} {f:α→Option β} {Q:β→Prop} {x:α} (e:m=some x) (h:Ok (f x) Q):Ok (m>>=f) Q:=by
 subst e; exact h
theorem oi {l:List α} {j:Int} {f:α→Option β} {Q:β→Prop} (h0:0≤j) (h1:j < l.length) (h:∀ x∈l,Ok (f x) Q):Ok (idx l j>>=f) Q:=by
 rw [D8 h0 h1]
 exact h _ (List.getElem_mem _)
theorem dt {b n:Nat} {f:Unit→Option β} {Q:β→Prop} (h1:n * b≤140737488355328) (h2:n≤9223372036854775807) (h:Ok (f ()) Q):Ok (fits b n>>=f) Q:=oe (dL h1 h2) h
theorem VR {b:Nat} {j:Int} {f:Nat→Option β} {Q:β→Prop} (h0:0≤j) (h1:b * j.toNat≤281474976710656) (h2:j≤9223372036854775807) (h:Ok (f j.toNat) Q):Ok (mk b j>>=f) Q:=by
 obtain ⟨n,rfl⟩ : ∃ n:Nat,j=n:=⟨j.toNat,by omega⟩
 exact oe (EK (by simpa using h1) (by omega)) (by simpa using h)
theorem oc {b:Bool} {x y:Option α} {Q:α→Prop} (h1:b=true→Ok x Q) (h2:b=false→Ok y Q):Ok (bif b then x else y) Q:=by
 cases b with
 | true=>exact h1 rfl
 | false=>exact h2 rfl
theorem od {p:Prop} [Decidable p] {x y:Option α} {Q:α→Prop} (h1:p→Ok x Q) (h2 : ¬ p→Ok y Q):Ok (bif decide p then x else y) Q:=
 oc (fun h=>h1 (of_decide_eq_true h)) (fun h=>h2 (of_decide_eq_false h))
theorem og {m:Option Bool} {f:Bool→Option β} {Q:β→Prop} (hm:Ok m fun _=>True) (h:∀ b,Ok (f b) Q):Ok (m>>=f) Q:=ob hm fun b _=>h b
def IW (k:Nat) (J:S1→Prop) (mu:S1→Nat) (n:Nat) (E:S1→Prop) (G:R→Prop):Out S1 R→Prop
 | .norm s=>J s∧mu s < n
 | .exit k' s=>k'=k∧E s
 | .ret r=>G r
def Rt (Q:R→Prop):Out S R→Prop
 | .ret r=>Q r
 | _=>False
theorem ie {m:Option (Out S R)} {Q:R→Prop} (h:Ok m (Rt Q)):Ok (ak m) Q:=by
 obtain ⟨o,rfl,ho⟩:=h
 cases o with
 | ret r=>exact ⟨r,rfl,ho⟩
 | _=>exact ho.elim
def Rn (Q:R→Prop):Out R R→Prop
 | .norm r=>Q r
 | .ret r=>Q r
 | _=>False
theorem off {m:Option (Out R R)} {Q:R→Prop} (h:Ok m (Rn Q)):Ok (Hu m) Q:=by
 obtain ⟨o,rfl,ho⟩:=h
 cases o with
 | ret r=>exact ⟨r,rfl,ho⟩
 | norm r=>exact ⟨r,rfl,ho⟩
 | _=>exact ho.elim
theorem ol {body:S1→Option (Out S1 R)} {k:Nat} {f:S1→Option (Out S R)} {Q:Out S R→Prop} (J:S1→Prop) (mu:S1→Nat) {s0:S1} (h0:J s0)
  (step:∀ s,J s→Ok (body s) (IW k J mu (mu s) (fun s=>Ok (f s) Q) (fun r=>Q (.ret r)))):Ok (af (ae k (ah body s0)) f) Q:=by
 have key:∀ n s,mu s=n→J s→Ok (af (ae k (ah body s)) f) Q:=by
  intro n
  induction n using Nat.strongRecOn with
  | ind n ih=>
   intro s hn hs
   obtain ⟨o,e,ho⟩:=step s hs
   rw [vY,e]
   cases o with
   | norm s'=>exact ih _ (hn ▸ ho.2) s' rfl ho.1
   | exit k' s'=>
    obtain ⟨rfl,he⟩:=ho
    have:af (S:=S) (ae k' (some (Out.exit k' s':Out S1 R))) f=f s':=BW rfl
    rw [this]; exact he
   | ret r=>
    have:af (S:=S) (ae k (some (Out.ret r:Out S1 R))) f=some (.ret r):=GY rfl
    rw [this]; exact ⟨_,rfl,ho⟩
 exact key _ s0 rfl h0
end
theorem w1 {i n:Int} (h0:0≤i) (h1:i < n) (hn:n≤1048576000):aj (i+1)=i+1:=eH (by omega) (by omega)
theorem zp {α:Type} {P:α→Prop} {l:List α} {i:Nat} {x:α} (hl:∀ y∈l,P y) (hx:P x):∀ y∈l.set i x,P y:=fun y hy=>by
 rcases List.mem_or_eq_of_mem_set hy with h | h
 ·exact hl y h
 ·rw [h]; exact hx
theorem ew {α:Type} {P:α→Prop} {l:List α} {x:α} (hl:∀ y∈l,P y) (hx:P x):∀ y∈l++[x],P y:=fun y hy=>by
 rcases List.mem_append.1 hy with h | h
 ·exact hl y h
 ·rw [List.mem_singleton.1 h]; exact hx
theorem ei {α:Type} {P:α→Prop}:∀ y∈([]:List α),P y:=fun _ h=>nomatch h
end Go.Li
namespace Go.Proofs.YtilhlobfebngdaaGreat
open Go Go.Li
structure yT (x:List Int):Prop where
 len:x.length≤4096
 b:∀ y∈x,0≤y∧y < 256
structure Src (x:List Int) (s:aJ):Prop where
 c:s.Code=x
 a0:0≤s.At
 a1:s.At≤x.length
theorem Src.on {x:List Int} {s t:aJ} {h:Int} (S:Src x s) (T:Src x t):Src x (aJ.mk s.Code t.At h):=⟨S.c,T.a0,T.a1⟩
theorem Src.at_ {x:List Int} {s:aJ} {a h:Int} (S:Src x s) (h0:0≤a) (h1:a≤x.length):Src x (aJ.mk s.Code a h):=⟨S.c,h0,h1⟩
theorem Ri (z:Int):∃ n:Nat,n≤16777215∧xi .and .u64 z (16777215:Int)=some (n:Int):=by
 refine ⟨(BitVec.ofInt 64 z &&& BitVec.ofInt 64 16777215).toNat,?_,?_⟩
 ·rw [BitVec.toNat_and]
  exact Nat.le_trans Nat.and_le_right (by decide)
 ·have h:(BitVec.ofInt 64 z &&& BitVec.ofInt 64 16777215).toNat≤16777215:=by
   rw [BitVec.toNat_and]
   exact Nat.le_trans Nat.and_le_right (by decide)
  show some (IntKind.u64.wrap ((BitVec.ofInt 64 z &&& BitVec.ofInt 64 16777215).toNat:Int))=_
  congr 1
  generalize (BitVec.ofInt 64 z &&& BitVec.ofInt 64 16777215).toNat=n at h
  unfold IntKind.wrap
  simp [IntKind.bits,IntKind.signed]
  omega
theorem acH (z:Int):∃ y,xi .shr .u64 z (33:Int)=some y:=by
 simp only [xi]
 rw [if_neg (by decide)]
 exact ⟨_,rfl⟩
theorem dk {x:List Int} (B:yT x) {s:aJ} (S:Src x s) (n:Int):Ok (bY s n) fun y=>(0≤y.1∧(1≤n→y.1 < n))∧Src x y.2:=by
 obtain ⟨hc,h0,h1⟩:=S
 have hl:=B.len
 unfold bY
 refine ie (od (fun h=>os ⟨⟨Int.le_refl _,fun h'=>by omega⟩,hc,h0,h1⟩) fun h=>?_)
 obtain ⟨Zi,K0⟩:=acH (IntKind.u64.wrap (IntKind.u64.wrap (s.an * 6364136223846793005)+1442695040888963407))
 refine oe rfl (oe rfl (oe K0 ?_))
 obtain ⟨m,hm,em⟩:=Ri Zi
 refine oe em ?_
 have e1:IntKind.i64.wrap (m:Int)=m:=eH (by omega) (by omega)
 rw [e1]
 have mod:∀ z:Int,0≤z→xi .rem .i64 z n=some (z.tmod n)∧0≤z.tmod n∧z.tmod n < n:=fun z hz=>
  ⟨if_neg (by omega),Int.tmod_nonneg n hz,Int.tmod_lt_of_pos z (by omega)⟩
 refine od (fun h2=>?_) fun h2=>?_
 ·rw [hc] at h2 ⊢
  refine oi h0 h2 fun y hy=>?_
  have hb:=B.b y hy
  rw [show IntKind.i64.wrap y=y from eH (by omega) (by omega),eH (by omega) (by omega)]
  obtain ⟨e,g0,g1⟩:=mod ((m:Int)+y) (by omega)
  refine oe e (os ⟨⟨g0,fun _=>g1⟩,rfl,?_,?_⟩)
  ·show 0≤aj (s.At+1); rw [w1 h0 h2 (by omega)]; omega
  ·show aj (s.At+1)≤_; rw [w1 h0 h2 (by omega)]; omega
 ·obtain ⟨e,g0,g1⟩:=mod (m:Int) (by omega)
  exact oe e (os ⟨⟨g0,fun _=>g1⟩,hc,h0,h1⟩)
theorem aah {x:List Int} (B:yT x):Ok (qX x) fun y=>∃ s,y=some s∧Src x s:=by
 have hl:=B.len
 unfold qX
 refine ie (oe rfl (ol (fun s:Int×Int=>0≤s.1∧s.1≤x.length) (fun s=>(x.length - s.1).toNat) ⟨Int.le_refl _,by show (0:Int)≤_; omega⟩ ?_))
 rintro ⟨i,h⟩ ⟨h0,h1⟩
 dsimp only at h0 h1
 show Ok (qW x i h) _
 unfold qW
 refine ob (P:=fun b=>b=true→i < x.length) (od (fun h=>os fun _=>h) fun _=>os fun h=>by cases h) fun b hb=>oc (fun cu=>?_) fun _=>?_
 ·have hi:=hb cu
  refine oe rfl (oi h0 hi fun y _=>oe rfl (oe rfl (os ⟨⟨?_,?_⟩,?_⟩)))
  ·show 0≤aj (i+1); rw [w1 h0 hi (by omega)]; omega
  ·show aj (i+1)≤_; rw [w1 h0 hi (by omega)]; omega
  ·show (x.length - aj (i+1)).toNat < (x.length - i).toNat; rw [w1 h0 hi (by omega)]; omega
 ·exact os ⟨rfl,os ⟨_,rfl,rfl,Int.le_refl _,by show (0:Int)≤_; omega⟩⟩
theorem Rj {x:List Int} (B:yT x) {s:aJ} (S:Src x s) {l:List Int} (hl:1≤l.length):Ok (oI s l) fun y=>y.1∈l∧Src x y.2:=by
 unfold oI
 refine ie (ob (dk B S _) fun y hy=>?_)
 have h:=hy.1.2 (by omega)
 rw [D8 hy.1.1 h]
 exact os ⟨List.getElem_mem _,S.on hy.2⟩
structure j7 (a b:Nat) (c:aF):Prop where
 o0:0≤c.aA
 o:c.aA≤a
 m:c.aE.length≤b
 t:c.To.length=c.aE.length
 i:(c.aH.length:Int)=c.aA
 k:c.aC.length=c.aE.length
 r:∀ y∈c.aC,y.length=c.aE.length
theorem j7.mono {a b a' b':Nat} {c:aF} (h:j7 a b c) (ha:a≤a') (hb:b≤b'):j7 a' b' c:=
 ⟨h.o0,by have:=h.o; omega,Nat.le_trans h.m hb,h.t,h.i,h.k,h.r⟩
theorem j7.small {a b:Nat} {c:aF} (h:j7 a b c) (ha:a≤1048576) (hb:b≤1048576):gh c:=
 ⟨Nat.le_trans h.m hb,by rw [h.t]; exact Nat.le_trans h.m hb,by have:=h.i; have:=h.o; omega,by rw [h.k]; exact Nat.le_trans h.m hb,fun y hy=>by rw [h.r y hy]; exact Nat.le_trans h.m hb⟩
structure Sq (n:Nat) (l:List (List Int)):Prop where
 len:l.length=n
 row:∀ y∈l,y.length=n
theorem VS {n:Nat} {l:List (List Int)} (h:Sq n l) {e:List Int} (he:e∈l) (i j:Nat) (v:Int):Sq n (l.set i (e.set j v)):=
 ⟨by rw [List.length_set]; exact h.len,zp h.row (by rw [List.length_set]; exact h.row e he)⟩
end Go.Proofs.YtilhlobfebngdaaGreat
namespace Go.Proofs.YtilhlobfebngdaaGreat
open Go Go.Li
theorem VT {c d:aF} {a b a' b':Nat} (C:j7 a b c) (D:j7 a' b' d) (ha:a+a'≤100000) (hb:b+b'≤100000):Ok (kQ c d) fun e=>j7 (a+a') (b+b') e∧e.aA=c.aA+d.aA:=by
 have hC:=C.small (by omega) (by omega)
 obtain ⟨c0,c1,c2,c3,c4,c5,c6⟩:=C
 obtain ⟨d0,d1,d2,d3,d4,d5,d6⟩:=D
 unfold kQ
 refine ie (oe (Ar hC) ?_)
 refine ol (fun z:Int×List Int=>(0≤z.1∧z.1≤d.aA)∧(z.2.length:Int)=c.aA+z.1) (fun z=>(d.aA - z.1).toNat) ⟨⟨by show (0:Int)≤0; omega,d0⟩,by show (c.aH.length:Int)=_+0; omega⟩ ?_
 rintro ⟨i,id⟩ ⟨⟨i0,i1⟩,vz⟩
 dsimp only at i0 i1 vz
 show Ok (jE c d i id) _
 unfold jE
 refine od (fun hi=>?_) fun hi=>os ⟨rfl,?_⟩
 ·have hw:=w1 i0 hi (by omega)
  refine oi i0 (by omega) fun _ _=>dt (by omega) (by omega) (os ⟨⟨⟨?_,?_⟩,?_⟩,?_⟩) <;> dsimp only <;> rw [hw] <;> (try simp only [List.length_append,List.length_singleton]) <;> omega
 have row:∀ (l:List (List Int)) (i:Int),(∀ (k:Nat) y,l[k]? = some y→y.length=if (k:Int) < i then c.aE.length+d.aE.length else c.aE.length)→∀ y∈l,y.length≤c.aE.length+d.aE.length:=fun l i h y hy=>by
  obtain ⟨k,hk⟩:=List.getElem?_of_mem hy
  have:=h k y hk
  split at this <;> omega
 refine ol (fun z:Int×List (List Int)=>(0≤z.1∧z.1≤c.aE.length)∧z.2.length=c.aE.length∧∀ (k:Nat) y,z.2[k]? = some y→y.length=if (k:Int) < z.1 then c.aE.length+d.aE.length else c.aE.length) (fun z=>(c.aE.length - z.1).toNat)
  ⟨⟨by show (0:Int)≤0; omega,by show (0:Int)≤_; omega⟩,c5,fun k y hk=>by rw [if_neg (by show ¬ (k:Int) < 0; omega)]; exact c6 y (List.mem_of_getElem? hk)⟩ ?_
 rintro ⟨j,l⟩ ⟨⟨j0,j1⟩,hl,hr⟩
 dsimp only at j0 j1 hl hr
 show Ok (jG d j l) _
 unfold jG
 refine od (fun hj=>?_) fun hj=>os ⟨rfl,?_⟩
 ·refine ol (fun z:Int×List (List Int)=>(0≤z.1∧z.1≤d.aE.length)∧z.2.length=c.aE.length∧∀ (k:Nat) y,z.2[k]? = some y→(y.length:Int)=if (k:Int) < j then (c.aE.length:Int)+d.aE.length else if (k:Int)=j then (c.aE.length:Int)+z.1 else (c.aE.length:Int)) (fun z=>(d.aE.length - z.1).toNat)
   ⟨⟨by show (0:Int)≤0; omega,by show (0:Int)≤_; omega⟩,hl,fun k y hk=>by
    have:=hr k y hk
    show _=if (k:Int) < j then _ else if (k:Int)=j then (c.aE.length:Int)+0 else _
    split at this <;> split <;> (try split) <;> omega⟩ ?_
  rintro ⟨m,l⟩ ⟨⟨m0,m1⟩,hl,hr⟩
  dsimp only at m0 m1 hl hr
  show Ok (jF d j m l) _
  unfold jF
  refine od (fun hm=>?_) fun hm=>os ⟨rfl,?_⟩
  ·have hw:=w1 m0 hm (by omega)
   have hg:l[j.toNat]? = some (l[j.toNat]'(by omega)):=List.getElem?_eq_getElem _
   have hlen:=hr _ _ hg
   rw [if_neg (by omega),if_pos (by omega)] at hlen
   rw [D8 j0 (by omega)]
   refine dt (by omega) (by omega) (os ⟨⟨⟨?_,?_⟩,?_,?_⟩,?_⟩)
   ·dsimp only; rw [hw]; omega
   ·dsimp only; rw [hw]; omega
   ·dsimp only; rw [List.length_set]; exact hl
   ·intro k y hk
    dsimp only at hk ⊢
    rw [hw]
    rw [List.getElem?_set] at hk
    by_cases e:j.toNat=k
    ·rw [if_pos e,if_pos (by omega)] at hk
     rw [← Option.some.inj hk,if_neg (by omega),if_pos (by omega),List.length_append,List.length_singleton]; omega
    ·rw [if_neg e] at hk
     have:=hr k y hk
     rw [if_neg (show ¬ (k:Int)=j by omega)] at this ⊢
     exact this
   ·dsimp only; rw [hw]; omega
  ·have hw:=w1 j0 hj (by omega)
   refine os ⟨⟨⟨?_,?_⟩,hl,?_⟩,?_⟩
   ·dsimp only; rw [hw]; omega
   ·dsimp only; rw [hw]; omega
   ·intro k y hk
    dsimp only at hk ⊢
    rw [hw]
    have:=hr k y hk
    split at this <;> split <;> (try split at this) <;> omega
   ·dsimp only; rw [hw]; omega
 have ik:∀ y∈l,y.length=c.aE.length+d.aE.length:=fun y hy=>by
  obtain ⟨k,hk⟩:=List.getElem?_of_mem hy
  have h1:=hr k y hk
  have h2:=cc hk
  rw [if_pos (by omega)] at h1
  exact h1
 refine ol (fun z:Int×List Int×List Int×List (List Int)=>(0≤z.1∧z.1≤d.aE.length)∧(z.2.1.length:Int)=c.aE.length+z.1∧(z.2.2.1.length:Int)=c.aE.length+z.1∧(z.2.2.2.length:Int)=c.aE.length+z.1∧∀ y∈z.2.2.2,y.length=c.aE.length+d.aE.length) (fun z=>(d.aE.length - z.1).toNat)
  ⟨⟨by show (0:Int)≤0; omega,by show (0:Int)≤_; omega⟩,by show (c.aE.length:Int)=_+0; omega,by show (c.To.length:Int)=_+0; omega,by show (l.length:Int)=_+0; omega,ik⟩ ?_
 rintro ⟨m,f,t,k⟩ ⟨⟨m0,m1⟩,hf,ht,hk,o6⟩
 dsimp only at m0 m1 hf ht hk o6
 show Ok (jJ c d m f t k) _
 unfold jJ
 refine od (fun hm=>?_) fun hm=>os ⟨rfl,os ?_⟩
 ·have hw:=w1 m0 hm (by omega)
  refine oi m0 (by omega) fun _ _=>dt (by omega) (by omega) (oi m0 (by omega) fun _ _=>dt (by omega) (by omega) ?_)
  refine ol (fun z:List Int×Int=>(0≤z.2∧z.2≤c.aE.length)∧(z.1.length:Int)=z.2) (fun z=>(c.aE.length - z.2).toNat) ⟨⟨by show (0:Int)≤0; omega,by show (0:Int)≤_; omega⟩,rfl⟩ ?_
  rintro ⟨row,p⟩ ⟨⟨p0,p1⟩,bd⟩
  dsimp only at p0 p1 bd
  show Ok (jH c row p) _
  unfold jH
  refine od (fun hp=>?_) fun hp=>os ⟨rfl,?_⟩
  ·have hw:=w1 p0 hp (by omega)
   refine dt (by omega) (by omega) (os ⟨⟨⟨?_,?_⟩,?_⟩,?_⟩) <;> dsimp only <;> rw [hw] <;> (try simp only [List.length_append,List.length_singleton]) <;> omega
  ·refine ol (fun z:List Int×Int=>(0≤z.2∧z.2≤d.aE.length)∧(z.1.length:Int)=c.aE.length+z.2) (fun z=>(d.aE.length - z.2).toNat) ⟨⟨by show (0:Int)≤0; omega,by show (0:Int)≤_; omega⟩,by show (row.length:Int)=_+0; omega⟩ ?_
   rintro ⟨row,q⟩ ⟨⟨q0,q1⟩,bd⟩
   dsimp only at q0 q1 bd
   show Ok (jI c d m row q) _
   unfold jI
   refine od (fun hq=>?_) fun hq=>os ⟨rfl,?_⟩
   ·have hw:=w1 q0 hq (by omega)
    refine oi m0 (by omega) fun e he=>?_
    have:=d6 e he
    refine oi q0 (by omega) fun e' _=>od (fun _=>dt (by omega) (by omega) (os ⟨⟨⟨?_,?_⟩,?_⟩,?_⟩)) fun _=>dt (by omega) (by omega) (os ⟨⟨⟨?_,?_⟩,?_⟩,?_⟩) <;> dsimp only <;> rw [hw] <;> (try simp only [List.length_append,List.length_singleton]) <;> omega
   ·refine dt (by omega) (by omega) (os ⟨⟨⟨?_,?_⟩,?_,?_,?_,ew o6 (by omega)⟩,?_⟩) <;> dsimp only <;> rw [hw] <;> (try simp only [List.length_append,List.length_singleton]) <;> omega
 ·have hw:aj (c.aA+d.aA)=c.aA+d.aA:=eH (by omega) (by omega)
  refine ⟨⟨?_,?_,?_,?_,?_,?_,fun y hy=>?_⟩,hw⟩ <;> dsimp only
  ·rw [hw]; omega
  ·rw [hw]; omega
  ·omega
  ·omega
  ·rw [hw]; omega
  ·omega
  ·have:=o6 y hy; omega
end Go.Proofs.YtilhlobfebngdaaGreat
namespace Go.Proofs.YtilhlobfebngdaaGreat
open Go Go.Li
theorem aaS {c d:aF} (C:j7 1 4 c) (D:j7 1 4 d):Ok (jS c d) (j7 2 12):=by
 unfold jS
 refine ie (ob (VT C D (by omega) (by omega)) fun e he=>?_)
 obtain ⟨⟨e0,e1,e2,e3,e4,e5,e6⟩,_⟩:=he
 obtain ⟨c0,c1,-⟩:=C
 obtain ⟨d0,d1,-⟩:=D
 refine ol (fun z:Int×List Int×List Int=>(0≤z.1∧z.1≤c.aA)∧z.2.2.length=z.2.1.length∧(e.aE.length≤z.2.1.length∧(z.2.1.length:Int)≤8+4 * z.1)) (fun z=>(c.aA - z.1).toNat) ⟨⟨by show (0:Int)≤0; omega,c0⟩,e3,Nat.le_refl _,by show (e.aE.length:Int)≤8+4 * 0; omega⟩ ?_
 rintro ⟨i,f,t⟩ ⟨⟨i0,i1⟩,ht,hm,hf⟩
 dsimp only at i0 i1 ht hm hf
 show Ok (iK c d i f t) _
 unfold iK
 refine od (fun hi=>?_) fun hi=>os ⟨rfl,?_⟩
 ·refine ol (fun z:Int×List Int×List Int=>(0≤z.1∧z.1≤d.aA)∧z.2.2.length=z.2.1.length∧(e.aE.length≤z.2.1.length∧(z.2.1.length:Int)≤8+4 * i+z.1)) (fun z=>(d.aA - z.1).toNat) ⟨⟨by show (0:Int)≤0; omega,d0⟩,ht,hm,by show (f.length:Int)≤8+4 * i+0; omega⟩ ?_
  rintro ⟨j,f,t⟩ ⟨⟨j0,j1⟩,ht,hm,hf⟩
  dsimp only at j0 j1 ht hm hf
  show Ok (iJ c d i j f t) _
  unfold iJ
  refine od (fun hj=>?_) fun hj=>os ⟨rfl,?_⟩
  ·have hw:=w1 j0 hj (by omega)
   refine dt (by omega) (by omega) (dt (by omega) (by omega) (os ⟨⟨⟨?_,?_⟩,?_,?_,?_⟩,?_⟩)) <;> dsimp only <;> (try rw [hw]) <;> (try simp only [List.length_append,List.length_singleton]) <;> omega
  ·have hw:=w1 i0 hi (by omega)
   refine os ⟨⟨⟨?_,?_⟩,ht,hm,?_⟩,?_⟩ <;> dsimp only <;> rw [hw] <;> omega
 ·refine ol (fun z:List (List Int)×Int=>(0≤z.2∧z.2≤f.length)∧(z.1.length:Int)=z.2∧∀ y∈z.1,y.length=f.length) (fun z=>(f.length - z.2).toNat) ⟨⟨by show (0:Int)≤0; omega,by show (0:Int)≤_; omega⟩,rfl,ei⟩ ?_
  rintro ⟨k,b⟩ ⟨⟨b0,b1⟩,hk,o6⟩
  dsimp only at b0 b1 hk o6
  show Ok (iM c d e f t k b) _
  unfold iM
  refine od (fun hb=>?_) fun hb=>os ⟨rfl,os ⟨e0,e1,?_,ht,e4,?_,o6⟩⟩
  ·refine ol (fun z:List Int×Int=>(0≤z.2∧z.2≤f.length)∧(z.1.length:Int)=z.2) (fun z=>(f.length - z.2).toNat) ⟨⟨by show (0:Int)≤0; omega,by show (0:Int)≤_; omega⟩,rfl⟩ ?_
   rintro ⟨row,g⟩ ⟨⟨g0,g1⟩,bd⟩
   dsimp only at g0 g1 bd
   show Ok (iL c d e f t b row g) _
   unfold iL
   refine od (fun hg=>?_) fun hg=>os ⟨rfl,?_⟩
   ·have hw:=w1 g0 hg (by omega)
    refine oi b0 (by omega) fun _ _=>oi g0 (by omega) fun _ _=>oc (fun _=>?_) fun _=>ob (P:=fun x=>x=true→b < e.aE.length∧g < e.aE.length) (od (fun h1=>os fun h=>⟨h1,of_decide_eq_true h⟩) fun _=>os fun h=>by cases h) fun x hx=>oc (fun Bi=>?_) fun _=>oi b0 (by omega) fun _ _=>oi g0 (by omega) fun _ _=>?_
    ·refine dt (by omega) (by omega) (os ⟨⟨⟨?_,?_⟩,?_⟩,?_⟩) <;> dsimp only <;> rw [hw] <;> (try simp only [List.length_append,List.length_singleton]) <;> omega
    ·obtain ⟨h1,h2⟩:=hx Bi
     refine oi b0 (by omega) fun y hy=>?_
     have:=e6 y hy
     refine oi g0 (by omega) fun _ _=>dt (by omega) (by omega) (os ⟨⟨⟨?_,?_⟩,?_⟩,?_⟩) <;> dsimp only <;> rw [hw] <;> (try simp only [List.length_append,List.length_singleton]) <;> omega
    ·refine dt (by omega) (by omega) (os ⟨⟨⟨?_,?_⟩,?_⟩,?_⟩) <;> dsimp only <;> rw [hw] <;> (try simp only [List.length_append,List.length_singleton]) <;> omega
   ·have hw:=w1 b0 hb (by omega)
    refine dt (by omega) (by omega) (os ⟨⟨⟨?_,?_⟩,?_,ew o6 (by omega)⟩,?_⟩) <;> dsimp only <;> rw [hw] <;> (try simp only [List.length_append,List.length_singleton]) <;> omega
  all_goals (try dsimp only)
  all_goals omega
theorem Rk {i n a b:Int} (i0:0≤i) (i1:i≤a) (n0:0≤n) (n1:n≤b):0≤i * n∧i * n≤a * b:=
 ⟨Int.mul_nonneg i0 n0,Int.mul_le_mul i1 n1 n0 (by omega)⟩
theorem FU (i n:Int):(i+1) * n=i * n+n:=by rw [Int.add_mul,Int.one_mul]
theorem HY {i n a:Int} (h1 : ¬ i < a) (h2:i≤a):i * n=a * n:=by rw [show i=a by omega]
theorem Rm {c d:aF} (C:j7 8 40 c) (D:j7 4 20 d):Ok (gO c d) (j7 32 800):=by
 obtain ⟨c0,c1,c2,c3,c4,c5,c6⟩:=C
 obtain ⟨d0,d1,d2,d3,d4,d5,d6⟩:=D
 have bO:∀ {i:Int},0≤i→i≤c.aA→0≤i * d.aA∧i * d.aA≤8 * 4:=fun h0 h1=>Rk h0 (by omega) d0 (by omega)
 have bM:∀ {i:Int},0≤i→i≤c.aE.length→0≤i * (d.aE.length:Int)∧i * (d.aE.length:Int)≤40 * 20:=fun h0 h1=>Rk h0 (by omega) (by omega) (by omega)
 unfold gO
 refine ie (ol (fun z:Int×List Int=>(0≤z.1∧z.1≤c.aA)∧(z.2.length:Int)=z.1 * d.aA) (fun z=>(c.aA - z.1).toNat) ⟨⟨by show (0:Int)≤0; omega,c0⟩,by show (0:Int)=0 * d.aA; rw [Int.zero_mul]⟩ ?_)
 rintro ⟨i,id⟩ ⟨⟨i0,i1⟩,vz⟩
 dsimp only at i0 i1 vz
 show Ok (gC c d i id) _
 unfold gC
 have hbi:=bO i0 i1
 refine od (fun hi=>?_) fun hi=>os ⟨rfl,?_⟩
 ·refine ol (fun z:Int×List Int=>(0≤z.1∧z.1≤d.aA)∧(z.2.length:Int)=i * d.aA+z.1) (fun z=>(d.aA - z.1).toNat) ⟨⟨by show (0:Int)≤0; omega,d0⟩,by show (id.length:Int)=i * d.aA+0; omega⟩ ?_
  rintro ⟨j,id⟩ ⟨⟨j0,j1⟩,vz⟩
  dsimp only at j0 j1 vz
  show Ok (gB c d i j id) _
  unfold gB
  refine od (fun hj=>?_) fun hj=>os ⟨rfl,?_⟩
  ·have hw:=w1 j0 hj (by omega)
   refine oi i0 (by omega) fun _ _=>oi j0 (by omega) fun _ _=>dt (by omega) (by omega) (os ⟨⟨⟨?_,?_⟩,?_⟩,?_⟩) <;> dsimp only <;> rw [hw] <;> (try simp only [List.length_append,List.length_singleton]) <;> omega
  ·have hw:=w1 i0 hi (by omega)
   have hn:=FU i d.aA
   refine os ⟨⟨⟨?_,?_⟩,?_⟩,?_⟩ <;> dsimp only <;> rw [hw] <;> omega
 have hO:=HY (n:=d.aA) hi i1
 refine ol (fun z:Int×List Int×List Int×List (List Int)=>(0≤z.1∧z.1≤c.aE.length)∧(z.2.1.length:Int)=z.1 * (d.aE.length:Int)∧z.2.2.1.length=z.2.1.length∧z.2.2.2.length=z.2.1.length∧∀ y∈z.2.2.2,(y.length:Int)=(c.aE.length:Int) * (d.aE.length:Int)) (fun z=>(c.aE.length - z.1).toNat)
  ⟨⟨by show (0:Int)≤0; omega,by show (0:Int)≤_; omega⟩,by show (0:Int)=0 * (d.aE.length:Int); rw [Int.zero_mul],rfl,rfl,ei⟩ ?_
 rintro ⟨a,f,t,k⟩ ⟨⟨a0,a1⟩,hf,ht,hk,o6⟩
 dsimp only at a0 a1 hf ht hk o6
 show Ok (gG c d a f t k) _
 unfold gG
 have hba:=bM a0 a1
 have hbc:=bM (i:=(c.aE.length:Int)) (by omega) (by omega)
 refine od (fun ha=>?_) fun ha=>os ⟨rfl,os ?_⟩
 ·refine ol (fun z:Int×List Int×List Int×List (List Int)=>(0≤z.1∧z.1≤d.aE.length)∧(z.2.1.length:Int)=a * (d.aE.length:Int)+z.1∧z.2.2.1.length=z.2.1.length∧z.2.2.2.length=z.2.1.length∧∀ y∈z.2.2.2,(y.length:Int)=(c.aE.length:Int) * (d.aE.length:Int)) (fun z=>(d.aE.length - z.1).toNat)
   ⟨⟨by show (0:Int)≤0; omega,by show (0:Int)≤_; omega⟩,by show (f.length:Int)=a * (d.aE.length:Int)+0; omega,ht,hk,o6⟩ ?_
  rintro ⟨b,f,t,k⟩ ⟨⟨b0,b1⟩,hf,ht,hk,o6⟩
  dsimp only at b0 b1 hf ht hk o6
  show Ok (gF c d a b f t k) _
  unfold gF
  refine od (fun hb=>?_) fun hb=>os ⟨rfl,?_⟩
  ·refine oi a0 (by omega) fun _ _=>oi b0 (by omega) fun _ _=>dt (by omega) (by omega) (oi a0 (by omega) fun _ _=>oi b0 (by omega) fun _ _=>dt (by omega) (by omega) ?_)
   refine ol (fun z:List Int×Int=>(0≤z.2∧z.2≤c.aE.length)∧(z.1.length:Int)=z.2 * (d.aE.length:Int)) (fun z=>(c.aE.length - z.2).toNat) ⟨⟨by show (0:Int)≤0; omega,by show (0:Int)≤_; omega⟩,by show (0:Int)=0 * (d.aE.length:Int); rw [Int.zero_mul]⟩ ?_
   rintro ⟨row,p⟩ ⟨⟨p0,p1⟩,bd⟩
   dsimp only at p0 p1 bd
   show Ok (gE c d a b row p) _
   unfold gE
   have hbp:=bM p0 p1
   refine od (fun hp=>?_) fun hp=>os ⟨rfl,?_⟩
   ·refine ol (fun z:List Int×Int=>(0≤z.2∧z.2≤d.aE.length)∧(z.1.length:Int)=p * (d.aE.length:Int)+z.2) (fun z=>(d.aE.length - z.2).toNat) ⟨⟨by show (0:Int)≤0; omega,by show (0:Int)≤_; omega⟩,by show (row.length:Int)=p * (d.aE.length:Int)+0; omega⟩ ?_
    rintro ⟨row,q⟩ ⟨⟨q0,q1⟩,bd⟩
    dsimp only at q0 q1 bd
    show Ok (gD c d a b p row q) _
    unfold gD
    refine od (fun hq=>?_) fun hq=>os ⟨rfl,?_⟩
    ·have hw:=w1 q0 hq (by omega)
     refine ob (P:=fun _=>True) (oi a0 (by omega) fun y hy=>?_) fun g _=>oc (fun _=>oi a0 (by omega) fun y hy=>?_) fun _=>?_
     ·have:=c6 y hy
      refine oi p0 (by omega) fun _ _=>od (fun _=>oi b0 (by omega) fun y' vn=>?_) fun _=>os trivial
      have:=d6 y' vn
      exact oi q0 (by omega) fun _ _=>os trivial
     ·have:=c6 y hy
      refine oi p0 (by omega) fun _ _=>oi b0 (by omega) fun y' vn=>?_
      have:=d6 y' vn
      refine oi q0 (by omega) fun _ _=>dt (by omega) (by omega) (os ⟨⟨⟨?_,?_⟩,?_⟩,?_⟩) <;> dsimp only <;> rw [hw] <;> (try simp only [List.length_append,List.length_singleton]) <;> omega
     ·refine dt (by omega) (by omega) (os ⟨⟨⟨?_,?_⟩,?_⟩,?_⟩) <;> dsimp only <;> rw [hw] <;> (try simp only [List.length_append,List.length_singleton]) <;> omega
    ·have hw:=w1 p0 hp (by omega)
     have hn:=FU p (d.aE.length:Int)
     refine os ⟨⟨⟨?_,?_⟩,?_⟩,?_⟩ <;> dsimp only <;> rw [hw] <;> omega
   ·have hw:=w1 b0 hb (by omega)
    have hP:=HY (n:=(d.aE.length:Int)) hp p1
    refine dt (by omega) (by omega) (os ⟨⟨⟨?_,?_⟩,?_,?_,?_,ew o6 (by omega)⟩,?_⟩) <;> dsimp only <;> (try rw [hw]) <;> (try simp only [List.length_append,List.length_singleton]) <;> omega
  ·have hw:=w1 a0 ha (by omega)
   have hn:=FU a (d.aE.length:Int)
   refine os ⟨⟨⟨?_,?_⟩,?_,ht,hk,o6⟩,?_⟩ <;> dsimp only <;> rw [hw] <;> omega
 ·have hA:=HY (n:=(d.aE.length:Int)) ha a1
  have hbo:=bO c0 (Int.le_refl _)
  have hw:aj (c.aA * d.aA)=c.aA * d.aA:=eH (by omega) (by omega)
  refine ⟨?_,?_,?_,ht,?_,hk,fun y hy=>?_⟩ <;> dsimp only
  ·rw [hw]; omega
  ·rw [hw]; omega
  ·omega
  ·rw [hw]; omega
  ·have:=o6 y hy; omega
end Go.Proofs.YtilhlobfebngdaaGreat
namespace Go.Proofs.YtilhlobfebngdaaGreat
open Go Go.Li
structure Dag (n:Int) (f t:List Int):Prop where
 len:t.length=f.length
 Vy:f.length≤3
 up:∀ (k:Nat) u v,f[k]? = some u→t[k]? = some v→0≤u∧u < v∧v < n
def wt (v:Int):Nat:=if v=0 then 13 else if v=1 then 4 else 1
def wA (l:List bZ):Nat:=(l.map fun p=>wt p.To).sum
def cap (v:Int) (e:Nat):Nat:=if v=0 then 4 * e else if v=1 then e else 0
theorem NG (l:List bZ) (p:bZ):wA (l++[p])=wA l+wt p.To:=by simp [wA]
theorem aaT (v:Int):1≤wt v:=by unfold wt; split <;> (try split) <;> omega
theorem NH (l:List bZ):l.length≤wA l:=by
 induction l with
 | nil=>exact Nat.le_refl _
 | cons p l ih=>
  have:=aaT p.To
  have e:wA (p :: l)=wt p.To+wA l:=by simp [wA]
  rw [e,List.length_cons]; omega
theorem Ut {l:List bZ} {k:Nat} {p:bZ} (h:l[k]? = some p):wA (l.drop k)=wt p.To+wA (l.drop (k+1)):=by
 have hk:=cc h
 rw [List.getElem?_eq_getElem hk] at h
 rw [List.drop_eq_getElem_cons hk,Option.some.inj h]
 simp [wA]
structure xe (n:Int) (m:Nat) (p:bZ):Prop where
 f0:0≤p.aE
 f1:p.aE < n
 t0:0≤p.To
 t1:p.To < n
 e:p.mh.length≤m
theorem Uu {p q:bZ} (h:p.mh.length≤1048576):Ok (kS p q) fun _=>True:=by
 unfold kS
 exact ie (oc (fun _=>os trivial) fun _=>oc (fun _=>os trivial) fun _=>oe (T4 _ _ (by omega)) (os trivial))
theorem aaU {a b:List Int} (h:a.length≤1048576):Ok (fQ a b) fun _=>True:=by
 unfold fQ
 refine ie (oc (fun _=>os trivial) fun hl=>?_)
 have hl:(a.length:Int)=b.length:=by simpa using hl
 refine ol (fun i:Int=>0≤i∧i≤a.length) (fun i=>(a.length - i).toNat) ⟨by omega,by omega⟩ fun i hi=>?_
 unfold nS
 refine od (fun h1=>oi hi.1 h1 fun _ _=>oi hi.1 (by omega) fun _ _=>oc (fun _=>os trivial) fun _=>os ⟨⟨?_,?_⟩,?_⟩) fun _=>os ⟨rfl,os trivial⟩
 all_goals (try dsimp only)
 all_goals rw [w1 hi.1 h1 (by omega)]
 all_goals omega
section
variable {n:Int} {f t:List Int} (D:Dag n f t) (n0:0≤n) (n3:n≤3)
include D n0 n3
theorem aaV {l0:List bZ} {k:Nat} {p0:bZ} (hp:l0[k]? = some p0) (hl:∀ (i:Nat) p,l0[i]? = some p→xe n i p) (hw:k+wA (l0.drop k)≤18) {Q:Out (List bZ×Int) (List bZ)→Prop} {g:List bZ×Int→Option (Out (List bZ×Int) (List bZ))}
  (hg:∀ l e,(∀ (i:Nat) p,l[i]? = some p→xe n i p)→k+1+wA (l.drop (k+1))≤18→Ok (g (l,e)) Q):Ok (af (ae 4 (ah (fun s=>kV f t k s.1 s.2) (l0,(0:Int)))) g) Q:=by
 have hP:=hl k p0 hp
 have hk:=cc hp
 have hd:=Ut hp
 have f3:=D.Vy
 refine ol (fun z:List bZ×Int=>((0≤z.2∧z.2≤f.length)∧z.1[k]? = some p0)∧(∀ (i:Nat) p,z.1[i]? = some p→xe n i p)∧k+wt p0.To+wA (z.1.drop (k+1))≤18+cap p0.To z.2.toNat) (fun z=>(f.length - z.2).toNat)
  ⟨⟨⟨by show (0:Int)≤0; omega,by show (0:Int)≤_; omega⟩,hp⟩,hl,by show k+wt p0.To+wA (l0.drop (k+1))≤_; omega⟩ ?_
 rintro ⟨l,e⟩ ⟨⟨⟨e0,e1⟩,BJ⟩,hl,hs⟩
 dsimp only at e0 e1 BJ hl hs
 have E2:=cc BJ
 have hlen:l.length≤1000:=by
  have h1:=NH (l.drop (k+1))
  rw [List.length_drop] at h1
  have:cap p0.To e.toNat≤12:=by unfold cap; split <;> (try split) <;> omega
  omega
 show Ok (kV f t k l e) _
 unfold kV
 refine od (fun he=>?_) fun he=>os ⟨rfl,hg l e hl ?_⟩
 ·have hw:=w1 e0 he (by omega)
  have hu:f[e.toNat]? = some (f[e.toNat]'(by omega)):=List.getElem?_eq_getElem _
  have hv:t[e.toNat]? = some (t[e.toNat]'(by have:=D.len; omega)):=List.getElem?_eq_getElem _
  have up:=D.up _ _ _ hu hv
  have eu:idx f e=some (f[e.toNat]'(by omega)):=by rw [Lj e0]; exact hu
  have ev:idx t e=some (t[e.toNat]'(by have:=D.len; omega)):=by rw [Lj e0]; exact hv
  have ek:idx l (k:Int)=some p0:=by rw [ch]; exact BJ
  generalize f[e.toNat]'(by omega)=u at *
  generalize t[e.toNat]'(by have:=D.len; omega)=v at *
  refine oe eu (oe ek (oc (fun h=>?_) fun h=>os ⟨⟨⟨⟨?_,?_⟩,BJ⟩,hl,?_⟩,?_⟩))
  ·have h:u=p0.To:=by simpa using h
   have hpe:=hP.e
   refine oe ek (oe ev (oe ek (oe (fv _ (by omega)) (dt (by omega) (by omega) (dt (by omega) (by omega) (os ⟨⟨⟨⟨?_,?_⟩,?_⟩,?_,?_⟩,?_⟩))))))
   ·dsimp only; rw [hw]; omega
   ·dsimp only; rw [hw]; omega
   ·dsimp only; rw [List.getElem?_append_left E2]; exact BJ
   ·intro i p hi
    dsimp only at hi
    by_cases vp:i < l.length
    ·rw [List.getElem?_append_left vp] at hi; exact hl i p hi
    ·rw [List.getElem?_append_right (by omega)] at hi
     have yf:i - l.length=0:=by
      have:=cc hi
      rw [List.length_singleton] at this; omega
     rw [yf] at hi
     have hi:=Option.some.inj hi
     rw [← hi]
     refine ⟨hP.f0,hP.f1,?_,?_,?_⟩ <;> dsimp only
     ·omega
     ·omega
     ·rw [List.length_append,List.length_singleton]; omega
   ·dsimp only
    rw [hw,List.drop_append_of_le_length (by omega),NG]
    have e2:(e+1).toNat=e.toNat+1:=by omega
    rw [e2]
    have h1:0≤p0.To:=hP.t0
    have hc:wt v+cap p0.To e.toNat≤cap p0.To (e.toNat+1):=by
     unfold cap wt
     by_cases z0:p0.To=0
     ·rw [if_pos z0,if_pos z0]
      rw [if_neg (by omega)]
      split <;> omega
     ·by_cases z1:p0.To=1
      ·rw [if_neg z0,if_neg z0,if_pos z1,if_pos z1,if_neg (by omega),if_neg (by omega)]; omega
      ·omega
    show k+wt p0.To+(wA (l.drop (k+1))+wt v)≤_
    omega
   ·dsimp only; rw [hw]; omega
  ·dsimp only; rw [hw]; omega
  ·dsimp only; rw [hw]; omega
  ·dsimp only; rw [hw]
   have e2:(e+1).toNat=e.toNat+1:=by omega
   rw [e2]
   have:cap p0.To e.toNat≤cap p0.To (e.toNat+1):=by unfold cap; split <;> (try split) <;> omega
   omega
  ·dsimp only; rw [hw]; omega
 ·have:cap p0.To e.toNat+1≤wt p0.To:=by
   have hm:e.toNat≤3:=by omega
   unfold cap wt
   split
   ·omega
   ·split <;> omega
  omega
theorem aaW:Ok (nN n f t) fun l=>l.length≤18∧∀ p∈l,xe n 18 p:=by
 unfold nN
 refine ie (ol (fun z:List bZ×Int=>(0≤z.2∧z.2≤n)∧(z.1.length:Int)=z.2∧(∀ (i:Nat) p,z.1[i]? = some p→xe n i p)∧wA z.1≤(if z.2=0 then 0 else if z.2=1 then 13 else if z.2=2 then 17 else 18)) (fun z=>(n - z.2).toNat)
  ⟨⟨by show (0:Int)≤0; omega,n0⟩,rfl,(fun i p h=>by simp at h),Nat.le_refl _⟩ ?_)
 rintro ⟨l,x⟩ ⟨⟨x0,x1⟩,hl,hp,hw⟩
 dsimp only at x0 x1 hl hp hw
 show Ok (mN n l x) _
 unfold mN
 refine od (fun hx=>?_) fun hx=>os ⟨rfl,?_⟩
 ·have DF:=w1 x0 hx (by omega)
  refine dt (by omega) (by omega) (os ⟨⟨⟨?_,?_⟩,?_,?_,?_⟩,?_⟩)
  ·dsimp only; rw [DF]; omega
  ·dsimp only; rw [DF]; omega
  ·dsimp only; rw [DF,List.length_append,List.length_singleton]; omega
  ·intro i p hi
   dsimp only at hi
   by_cases vp:i < l.length
   ·rw [List.getElem?_append_left vp] at hi; exact hp i p hi
   ·rw [List.getElem?_append_right (by omega)] at hi
    have yf:i - l.length=0:=by
     have:=cc hi
     rw [List.length_singleton] at this; omega
    rw [yf] at hi
    rw [← Option.some.inj hi]
    exact ⟨x0,hx,x0,hx,Nat.zero_le _⟩
  ·dsimp only
   rw [DF,NG]
   show wA l+wt x≤_
   unfold wt
   by_cases h0:x=0
   ·subst h0; simp at hw ⊢; omega
   ·by_cases h1:x=1
    ·subst h1; simp at hw ⊢; omega
    ·obtain rfl:x=2:=by omega
     simp at hw ⊢; omega
  ·dsimp only; rw [DF]; omega
 ·have hw0:wA l≤18:=by
   refine Nat.le_trans hw ?_
   split
   ·omega
   ·split
    ·omega
    ·split <;> omega
  refine ol (fun z:List bZ×Int=>0≤z.2∧(∀ (i:Nat) p,z.1[i]? = some p→xe n i p)∧z.2.toNat+wA (z.1.drop z.2.toNat)≤18) (fun z=>(19 - z.2).toNat) ⟨by show (0:Int)≤0; omega,hp,by show 0+wA (l.drop 0)≤18; rw [List.drop_zero]; omega⟩ ?_
  rintro ⟨l,k⟩ ⟨k0,hp,hw⟩
  dsimp only at k0 hp hw
  obtain ⟨k,rfl⟩ : ∃ m:Nat,k=m:=⟨k.toNat,by omega⟩
  rw [Int.toNat_natCast] at hw
  have Nz:l.length≤18:=by
   have:=NH (l.drop k)
   rw [List.length_drop] at this; omega
  show Ok (mO f t l k) _
  unfold mO
  refine ob (P:=fun b=>b=true→(k:Int) < l.length) (od (fun h=>os fun _=>h) fun _=>os fun h=>by cases h) fun b hb=>oc (fun cu=>?_) fun _=>os ⟨rfl,?_⟩
  ·have E2:=hb cu
   have hg:l[k]? = some (l[k]'(by omega)):=List.getElem?_eq_getElem _
   refine aaV D n0 n3 hg hp hw fun l' e AL DF=>os ⟨⟨?_,AL,?_⟩,?_⟩
   ·dsimp only; rw [bR (by omega)]; omega
   ·dsimp only; rw [bR (by omega),Int.toNat_natCast]; exact DF
   ·dsimp only; rw [bR (by omega)]; omega
  ·have fq:∀ p∈l,xe n 18 p:=fun p h=>by
    obtain ⟨i,hi⟩:=List.getElem?_of_mem h
    have:=hp i p hi
    have wj:=cc hi
    exact ⟨this.f0,this.f1,this.t0,this.t1,by have:=this.e; omega⟩
   refine ol (fun z:List bZ×Int=>1≤z.2∧z.1.length≤18∧∀ p∈z.1,xe n 18 p) (fun z=>(19 - z.2).toNat) ⟨by show (1:Int)≤1; omega,Nz,fq⟩ ?_
   rintro ⟨l,i⟩ ⟨i0,hl,hp⟩
   dsimp only at i0 hl hp
   show Ok (mQ l i) _
   unfold mQ
   refine od (fun hi=>?_) fun _=>os ⟨rfl,os ⟨hl,hp⟩⟩
   refine ol (fun z:List bZ×Int=>(0≤z.2∧z.2 < z.1.length)∧z.1.length≤18∧∀ p∈z.1,xe n 18 p) (fun z=>z.2.toNat) ⟨⟨by show 0≤i; omega,hi⟩,hl,hp⟩ ?_
   rintro ⟨l,j⟩ ⟨⟨j0,j1⟩,hl,hp⟩
   dsimp only at j0 j1 hl hp
   show Ok (mP l j) _
   unfold mP
   refine ob (P:=fun b=>b=true→0 < j) (od (fun h=>?_) fun _=>os fun h=>by cases h) fun b hb=>oc (fun cu=>?_) fun _=>os ⟨rfl,os ⟨⟨?_,hl,hp⟩,?_⟩⟩
   ·rw [eH (a:=j - 1) (by omega) (by omega)]
    refine oi j0 j1 fun p vk=>oi (by omega) (by omega) fun q _=>?_
    have:=(hp p vk).e
    exact ob (Uu (by omega)) fun _ _=>os fun _=>h
   ·have h:=hb cu
    rw [eH (a:=j - 1) (by omega) (by omega)]
    refine oi j0 j1 fun p vk=>oi (by omega) (by omega) fun q hq=>oi j0 j1 fun _ _=>oi (by omega) (by rw [List.length_set]; omega) fun _ _=>os ⟨⟨⟨?_,?_⟩,?_,zp (zp hp (hp q hq)) (hp p vk)⟩,?_⟩ <;> dsimp only <;> (try rw [List.length_set,List.length_set]) <;> omega
   ·dsimp only; rw [eH (by omega) (by omega)]; omega
   ·dsimp only; rw [eH (by omega) (by omega)]; omega
theorem HZ:Ok (gJ n f t) (j7 3 18):=by
 unfold gJ
 refine ie (ob (aaW D n0 n3) fun l hl=>?_)
 obtain ⟨hl,hp⟩:=hl
 refine VR n0 (by omega) (by omega) ?_
 refine ol (fun z:Int×List Int×List Int×List Int=>(0≤z.1∧z.1≤l.length)∧(z.2.1.length:Int)=z.1∧(z.2.2.1.length:Int)=z.1∧(z.2.2.2.length:Int)=n) (fun z=>(l.length - z.1).toNat) ⟨⟨by show (0:Int)≤0; omega,by show (0:Int)≤_; omega⟩,rfl,rfl,by show ((List.replicate _ _).length:Int)=n; rw [List.length_replicate]; omega⟩ ?_
 rintro ⟨i,a,b,id⟩ ⟨⟨i0,i1⟩,ha,hb,vz⟩
 dsimp only at i0 i1 ha hb vz
 show Ok (lA l i a b id) _
 unfold lA
 refine od (fun hi=>?_) fun hi=>os ⟨rfl,?_⟩
 ·have hw:=w1 i0 hi (by omega)
  refine oi i0 hi fun _ _=>dt (by omega) (by omega) (oi i0 hi fun _ _=>dt (by omega) (by omega) (oi i0 hi fun _ _=>oc (fun _=>oi i0 hi fun p vk=>?_) fun _=>os ⟨⟨⟨?_,?_⟩,?_,?_,vz⟩,?_⟩))
  ·have h:=hp p vk
   refine oi h.f0 (by have:=h.f1; omega) fun _ _=>os ⟨⟨⟨?_,?_⟩,?_,?_,?_⟩,?_⟩ <;> dsimp only <;> (try rw [hw]) <;> (try simp only [List.length_append,List.length_singleton,List.length_set]) <;> omega
  all_goals (try dsimp only)
  all_goals (try rw [hw])
  all_goals (try simp only [List.length_append,List.length_singleton])
  all_goals omega
 ·have fits:Ok (dT (aF.mk n a b id [])) fun y=>y=true:=by
   unfold dT
   refine ie (ob (P:=fun y=>y=true) (od (fun _=>os (decide_eq_true (by show (a.length:Int)≤40; omega))) fun h=>absurd (show n≤8 by omega) h) fun y hy=>os hy)
  refine ob fits fun y hy=>?_
  subst hy
  show Ok (af (ae 2 (ah (fun s=>jD l s.1 s.2) ((0:Int),([]:(List (List Int)))))) _) _
  refine ol (fun z:Int×List (List Int)=>(0≤z.1∧z.1≤l.length)∧(z.2.length:Int)=z.1∧∀ y∈z.2,y.length=a.length) (fun z=>(l.length - z.1).toNat) ⟨⟨by show (0:Int)≤0; omega,by show (0:Int)≤_; omega⟩,rfl,ei⟩ ?_
  rintro ⟨j,k⟩ ⟨⟨j0,j1⟩,hk,o6⟩
  dsimp only at j0 j1 hk o6
  show Ok (jD l j k) _
  unfold jD
  refine od (fun hj=>?_) fun hj=>os ⟨rfl,os ⟨n0,?_,?_,?_,vz,?_,o6⟩⟩
  ·refine ol (fun z:List Int×Int=>(0≤z.2∧z.2≤l.length)∧(z.1.length:Int)=z.2) (fun z=>(l.length - z.2).toNat) ⟨⟨by show (0:Int)≤0; omega,by show (0:Int)≤_; omega⟩,rfl⟩ ?_
   rintro ⟨row,g⟩ ⟨⟨g0,g1⟩,bd⟩
   dsimp only at g0 g1 bd
   show Ok (lC l j row g) _
   unfold lC
   refine od (fun hg=>?_) fun hg=>os ⟨rfl,?_⟩
   ·have hw:=w1 g0 hg (by omega)
    refine oi j0 hj fun _ _=>oi g0 hg fun _ _=>oc (fun _=>oi j0 hj fun p vk=>?_) fun _=>?_
    ·have h1:=(hp p vk).e
     refine oe (fv _ (by omega)) (oi g0 hg fun q hq=>?_)
     have h2:=(hp q hq).e
     refine dt (by omega) (by omega) ?_
     refine ol (fun z:Int×Int=>0≤z.2∧z.2≤l.length) (fun z=>(l.length - z.2).toNat) ⟨by show (0:Int)≤0; omega,by show (0:Int)≤_; omega⟩ ?_
     rintro ⟨c,h⟩ ⟨c0,c1⟩
     dsimp only at c0 c1
     show Ok (lB l j p.mh q c h) _
     unfold lB
     refine od (fun hh=>?_) fun hh=>os ⟨rfl,?_⟩
     ·have hw:=w1 c0 hh (by omega)
      refine ob (P:=fun _=>True) (oi c0 hh fun _ _=>oi j0 hj fun _ _=>oc (fun _=>oi c0 hh fun r hr=>?_) fun _=>os trivial) fun _ _=>oc (fun _=>os ⟨⟨?_,?_⟩,?_⟩) fun _=>os ⟨⟨?_,?_⟩,?_⟩
      ·have:=(hp r hr).e
       exact ob (aaU (by omega)) fun _ _=>os trivial
      all_goals (try dsimp only)
      all_goals rw [hw]
      all_goals omega
     ·refine dt (by omega) (by omega) (os ⟨⟨⟨?_,?_⟩,?_⟩,?_⟩) <;> dsimp only <;> rw [hw] <;> (try simp only [List.length_append,List.length_singleton]) <;> omega
    ·refine dt (by omega) (by omega) (os ⟨⟨⟨?_,?_⟩,?_⟩,?_⟩) <;> dsimp only <;> rw [hw] <;> (try simp only [List.length_append,List.length_singleton]) <;> omega
   ·have hw:=w1 j0 hj (by omega)
    refine dt (by omega) (by omega) (os ⟨⟨⟨?_,?_⟩,?_,ew o6 (by omega)⟩,?_⟩) <;> dsimp only <;> rw [hw] <;> (try simp only [List.length_append,List.length_singleton]) <;> omega
  all_goals (try dsimp only)
  all_goals omega
end
end Go.Proofs.YtilhlobfebngdaaGreat
namespace Go.Proofs.YtilhlobfebngdaaGreat
open Go Go.Li
theorem sq1:Sq 1 [[(1:Int)]]:=⟨rfl,by simp⟩
section
variable {x:List Int} (B:yT x)
include B
theorem aaX {s:aJ} (S:Src x s) {c:aF} (C:j7 8 800 c):Ok (rQ s c) fun y=>gh y.1∧Src x y.2:=by
 have hC:=C.small (by omega) (by omega)
 have hm:=C.m
 have hk:=C.k
 have ht:=C.t
 have hi:=C.i
 have o0:=C.o0
 have o8:=C.o
 unfold rQ
 refine ie (oe (Ar hC) (ob (dk B S _) fun y hy=>ob (dk B (S.on hy.2) _) fun z hz=>?_))
 have T:=S.on (h:=z.2.an) hz.2
 have same:gh c∧Src x (aJ.mk s.Code z.2.At z.2.an):=⟨hC,T⟩
 have cell:Ok (bif decide ((c.aE.length:Int) > (0:Int)) then ((idx c.aC (y.1))>>=fun e=>((bY (aJ.mk s.Code z.2.At z.2.an) ((c.aE.length:Int)))>>=fun u=>((bY (aJ.mk s.Code u.2.At u.2.an) (aj ((c.aE.length:Int)+(1:Int))))>>=fun v=>((idx e (u.1))>>=fun _=>(some (Out.ret (S:=Unit) ((aF.mk c.aA c.aE c.To c.aH (c.aC.set (y.1).toNat (e.set (u.1).toNat (aj (v.1 - (1:Int)))))),(aJ.mk s.Code v.2.At v.2.an)))))))) else (some (Out.ret (c,(aJ.mk s.Code z.2.At z.2.an))))) (Rt fun y=>gh y.1∧Src x y.2):=by
  refine od (fun h=>oi hy.1.1 (by have:=hy.1.2 (by omega); omega) fun e he=>ob (dk B T _) fun u hu=>ob (dk B (S.on hu.2) _) fun v hv=>?_) fun _=>os same
  have hr:=C.r e he
  refine oi hu.1.1 (by have:=hu.1.2 (by omega); omega) fun _ _=>os ⟨⟨hC.f,hC.t,hC.i,?_,zp hC.r ?_⟩,S.on hv.2⟩
  ·show (List.set _ _ _).length≤_; rw [List.length_set]; exact hC.k
  ·show (List.set _ _ _).length≤_; rw [List.length_set]; omega
 refine oc (fun _=>ob (Rj B T (l:=[aj (c.aA+(1:Int)),(-1:Int),(9:Int)]) (by simp)) fun p hp=>os ⟨⟨hC.f,hC.t,hC.i,hC.k,hC.r⟩,S.on hp.2⟩) fun _=>oc (fun _=>dt (by omega) (by omega) (os ⟨⟨?_,hC.t,hC.i,hC.k,hC.r⟩,T⟩)) fun _=>
  oc (fun _=>od (fun h=>ob (dk B T _) fun p hp=>oi (by omega) (by omega) fun _ _=>os ⟨⟨hC.f,hC.t,?_,hC.k,hC.r⟩,S.on hp.2⟩) fun _=>os same) fun _=>oc (fun _=>cell) fun _=>oc (fun _=>cell) fun _=>oc (fun _=>cell) fun _=>
  oc (fun _=>od (fun h=>ob (dk B T _) fun p hp=>oi hy.1.1 (by have:=hy.1.2 (by omega); omega) fun _ _=>os ⟨⟨hC.f,?_,hC.i,hC.k,hC.r⟩,S.on hp.2⟩) fun _=>os same) fun _=>od (fun h=>oi hy.1.1 (by have:=hy.1.2 (by omega); omega) fun e he=>?_) fun _=>os same
 ·show (c.aE++[(0:Int)]).length≤_; rw [List.length_append,List.length_singleton]; omega
 ·show (List.set _ _ _).length≤_; rw [List.length_set]; exact hC.i
 ·show (List.set _ _ _).length≤_; rw [List.length_set]; exact hC.t
 ·have hr:=C.r e he
  have etl:tl e (1:Int)=some (e.drop 1):=by
   unfold tl
   rw [au (by omega),cond_true]; rfl
  refine oe etl (oi hy.1.1 (by have:=hy.1.2 (by omega); omega) fun _ _=>os ⟨⟨hC.f,hC.t,hC.i,?_,zp hC.r ?_⟩,T⟩)
  ·show (List.set _ _ _).length≤_; rw [List.length_set]; exact hC.k
  ·rw [List.length_drop]; omega
end
end Go.Proofs.YtilhlobfebngdaaGreat
