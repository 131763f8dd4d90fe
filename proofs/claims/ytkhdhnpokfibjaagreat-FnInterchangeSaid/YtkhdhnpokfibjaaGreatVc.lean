/- That a model does not fail, and what it gives: rules. No condition beside those that each theorem names. -/
import Derived.Test.YtkhdhnpokfibjaaGreatPa
import Derived.Test.YtkhdhnpokfibjaaGreatPk
namespace Go.Li
open Go
def Ok {α:Type} (m:Option α) (Q:α→Prop):Prop:=∃ x,m=some x∧Q x
section
variable {α β S S1 R:Type}
theorem Ok.mono {m:Option α} {P Q:α→Prop} (h:Ok m P) (hq:∀ x,P x→Q x):Ok m Q:=by
 obtain ⟨x,e,hx⟩:=h
 exact ⟨x,e,hq x hx⟩
theorem os {x:α} {Q:α→Prop} (h:Q x):Ok (some x) Q:=⟨x,rfl,h⟩
theorem ob {m:Option α} {f:α→Option β} {Q:β→Prop} {P:α→Prop} (hm:Ok m P) (h:∀ x,P x→Ok (f x) Q):Ok (m>>=f) Q:=by
 obtain ⟨x,rfl,hx⟩:=hm
 exact h x hx
theorem oe {m:Option α} {f:α→Option β} {Q:β→Prop} {x:α} (e:m=some x) (h:Ok (f x) Q):Ok (m>>=f) Q:=by
 subst e; exact h
theorem oi {l:List α} {j:Int} {f:α→Option β} {Q:β→Prop} (h0:0≤j) (h1:j < l.length) (h:∀ x∈l,Ok (f x) Q):Ok (idx l j>>=f) Q:=by
 rw [idx_lt h0 h1]
 exact h _ (List.getElem_mem _)
theorem oft {b n:Nat} {f:Unit→Option β} {Q:β→Prop} (h1:n * b≤140737488355328) (h2:n≤9223372036854775807) (h:Ok (f ()) Q):Ok (fits b n>>=f) Q:=oe (fA h1 h2) h
theorem omk {b:Nat} {j:Int} {f:Nat→Option β} {Q:β→Prop} (h0:0≤j) (h1:b * j.toNat≤281474976710656) (h2:j≤9223372036854775807) (h:Ok (f j.toNat) Q):Ok (mk b j>>=f) Q:=by
 obtain ⟨n,rfl⟩ : ∃ n:Nat,j=n:=⟨j.toNat,by omega⟩
 exact oe (mk_ok (by simpa using h1) (by omega)) (by simpa using h)
theorem oc {b:Bool} {x y:Option α} {Q:α→Prop} (h1:b=true→Ok x Q) (h2:b=false→Ok y Q):Ok (bif b then x else y) Q:=by
 cases b with
 | true=>exact h1 rfl
 | false=>exact h2 rfl
theorem od {p:Prop} [Decidable p] {x y:Option α} {Q:α→Prop} (h1:p→Ok x Q) (h2 : ¬ p→Ok y Q):Ok (bif decide p then x else y) Q:=
 oc (fun h=>h1 (of_decide_eq_true h)) (fun h=>h2 (of_decide_eq_false h))
theorem og {m:Option Bool} {f:Bool→Option β} {Q:β→Prop} (hm:Ok m fun _=>True) (h:∀ b,Ok (f b) Q):Ok (m>>=f) Q:=ob hm fun b _=>h b
def Stp (k:Nat) (J:S1→Prop) (mu:S1→Nat) (n:Nat) (E:S1→Prop) (G:R→Prop):Out S1 R→Prop
 | .norm s=>J s∧mu s < n
 | .exit k' s=>k'=k∧E s
 | .ret r=>G r
def Rt (Q:R→Prop):Out S R→Prop
 | .ret r=>Q r
 | _=>False
theorem orr {m:Option (Out S R)} {Q:R→Prop} (h:Ok m (Rt Q)):Ok (retM m) Q:=by
 obtain ⟨o,rfl,ho⟩:=h
 cases o with
 | ret r=>exact ⟨r,rfl,ho⟩
 | _=>exact ho.elim
def Rn (Q:R→Prop):Out R R→Prop
 | .norm r=>Q r
 | .ret r=>Q r
 | _=>False
theorem off {m:Option (Out R R)} {Q:R→Prop} (h:Ok m (Rn Q)):Ok (finM m) Q:=by
 obtain ⟨o,rfl,ho⟩:=h
 cases o with
 | ret r=>exact ⟨r,rfl,ho⟩
 | norm r=>exact ⟨r,rfl,ho⟩
 | _=>exact ho.elim
theorem ol {body:S1→Option (Out S1 R)} {k:Nat} {f:S1→Option (Out S R)} {Q:Out S R→Prop} (J:S1→Prop) (mu:S1→Nat) {s0:S1} (h0:J s0)
  (step:∀ s,J s→Ok (body s) (Stp k J mu (mu s) (fun s=>Ok (f s) Q) (fun r=>Q (.ret r)))):Ok (lbind (blockM k (loopM body s0)) f) Q:=by
 have key:∀ n s,mu s=n→J s→Ok (lbind (blockM k (loopM body s)) f) Q:=by
  intro n
  induction n using Nat.strongRecOn with
  | ind n ih=>
   intro s hn hs
   obtain ⟨o,e,ho⟩:=step s hs
   rw [loopM_eq,e]
   cases o with
   | norm s'=>exact ih _ (hn ▸ ho.2) s' rfl ho.1
   | exit k' s'=>
    obtain ⟨rfl,he⟩:=ho
    have:lbind (S:=S) (blockM k' (some (Out.exit k' s':Out S1 R))) f=f s':=lb_exit rfl
    rw [this]; exact he
   | ret r=>
    have:lbind (S:=S) (blockM k (some (Out.ret r:Out S1 R))) f=some (.ret r):=lb_ret rfl
    rw [this]; exact ⟨_,rfl,ho⟩
 exact key _ s0 rfl h0
end
theorem w1 {i n:Int} (h0:0≤i) (h1:i < n) (hn:n≤1048576000):w64 (i+1)=i+1:=eX (by omega) (by omega)
theorem set_all {α:Type} {P:α→Prop} {l:List α} {i:Nat} {x:α} (hl:∀ y∈l,P y) (hx:P x):∀ y∈l.set i x,P y:=fun y hy=>by
 rcases List.mem_or_eq_of_mem_set hy with h | h
 ·exact hl y h
 ·rw [h]; exact hx
theorem app_all {α:Type} {P:α→Prop} {l:List α} {x:α} (hl:∀ y∈l,P y) (hx:P x):∀ y∈l++[x],P y:=fun y hy=>by
 rcases List.mem_append.1 hy with h | h
 ·exact hl y h
 ·rw [List.mem_singleton.1 h]; exact hx
theorem nil_all {α:Type} {P:α→Prop}:∀ y∈([]:List α),P y:=fun _ h=>nomatch h
end Go.Li
namespace Go.Proofs.YtkhdhnpokfibjaaGreat
open Go Go.Li
structure Byt (x:List Int):Prop where
 len:x.length≤4096
 b:∀ y∈x,0≤y∧y < 256
structure Src (x:List Int) (s:aL):Prop where
 c:s.Code=x
 a0:0≤s.At
 a1:s.At≤x.length
theorem Src.on {x:List Int} {s t:aL} {h:Int} (S:Src x s) (T:Src x t):Src x (aL.mk s.Code t.At h):=⟨S.c,T.a0,T.a1⟩
theorem Src.at_ {x:List Int} {s:aL} {a h:Int} (S:Src x s) (h0:0≤a) (h1:a≤x.length):Src x (aL.mk s.Code a h):=⟨S.c,h0,h1⟩
theorem and_small (z:Int):∃ n:Nat,n≤16777215∧aop .and .u64 z (16777215:Int)=some (n:Int):=by
 refine ⟨(BitVec.ofInt 64 z &&& BitVec.ofInt 64 16777215).toNat,?_,?_⟩
 ·rw [BitVec.toNat_and]
  exact Nat.le_trans Nat.and_le_right (by decide)
 ·have h:(BitVec.ofInt 64 z &&& BitVec.ofInt 64 16777215).toNat≤16777215:=by
   rw [BitVec.toNat_and]
   exact Nat.le_trans Nat.and_le_right (by decide)
  show some (IntKind.u64.wrap ((BitVec.ofInt 64 z &&& BitVec.ofInt 64 16777215).toNat:Int))=_
  congr 1
  generalize (BitVec.ofInt 64 z &&& BitVec.ofInt 64 16777215).toNat=n at h
  unfold IntKind.wrap
  simp [IntKind.bits,IntKind.signed]
  omega
theorem shr33 (z:Int):∃ y,aop .shr .u64 z (33:Int)=some y:=by
 simp only [aop]
 rw [if_neg (by decide)]
 exact ⟨_,rfl⟩
theorem nextOk {x:List Int} (B:Byt x) {s:aL} (S:Src x s) (n:Int):Ok (cH s n) fun y=>(0≤y.1∧(1≤n→y.1 < n))∧Src x y.2:=by
 obtain ⟨hc,h0,h1⟩:=S
 have hl:=B.len
 unfold cH
 refine orr (od (fun h=>os ⟨⟨Int.le_refl _,fun h'=>by omega⟩,hc,h0,h1⟩) fun h=>?_)
 obtain ⟨z15,e15⟩:=shr33 (IntKind.u64.wrap (IntKind.u64.wrap (s.Hash * 6364136223846793005)+1442695040888963407))
 refine oe rfl (oe rfl (oe e15 ?_))
 obtain ⟨m,hm,em⟩:=and_small z15
 refine oe em ?_
 have e1:IntKind.i64.wrap (m:Int)=m:=eX (by omega) (by omega)
 rw [e1]
 have mod:∀ z:Int,0≤z→aop .rem .i64 z n=some (z.tmod n)∧0≤z.tmod n∧z.tmod n < n:=fun z hz=>
  ⟨if_neg (by omega),Int.tmod_nonneg n hz,Int.tmod_lt_of_pos z (by omega)⟩
 refine od (fun h2=>?_) fun h2=>?_
 ·rw [hc] at h2 ⊢
  refine oi h0 h2 fun y hy=>?_
  have hb:=B.b y hy
  rw [show IntKind.i64.wrap y=y from eX (by omega) (by omega),eX (by omega) (by omega)]
  obtain ⟨e,g0,g1⟩:=mod ((m:Int)+y) (by omega)
  refine oe e (os ⟨⟨g0,fun _=>g1⟩,rfl,?_,?_⟩)
  ·show 0≤w64 (s.At+1); rw [w1 h0 h2 (by omega)]; omega
  ·show w64 (s.At+1)≤_; rw [w1 h0 h2 (by omega)]; omega
 ·obtain ⟨e,g0,g1⟩:=mod (m:Int) (by omega)
  exact oe e (os ⟨⟨g0,fun _=>g1⟩,hc,h0,h1⟩)
theorem fromOk {x:List Int} (B:Byt x):Ok (nU x) fun y=>∃ s,y=some s∧Src x s:=by
 have hl:=B.len
 unfold nU
 refine orr (oe rfl (ol (fun s:Int×Int=>0≤s.1∧s.1≤x.length) (fun s=>(x.length - s.1).toNat) ⟨Int.le_refl _,by show (0:Int)≤_; omega⟩ ?_))
 rintro ⟨i,h⟩ ⟨h0,h1⟩
 dsimp only at h0 h1
 show Ok (nT x i h) _
 unfold nT
 refine ob (P:=fun b=>b=true→i < x.length) (od (fun h=>os fun _=>h) fun _=>os fun h=>by cases h) fun b hb=>oc (fun hb'=>?_) fun _=>?_
 ·have hi:=hb hb'
  refine oe rfl (oi h0 hi fun y _=>oe rfl (oe rfl (os ⟨⟨?_,?_⟩,?_⟩)))
  ·show 0≤w64 (i+1); rw [w1 h0 hi (by omega)]; omega
  ·show w64 (i+1)≤_; rw [w1 h0 hi (by omega)]; omega
  ·show (x.length - w64 (i+1)).toNat < (x.length - i).toNat; rw [w1 h0 hi (by omega)]; omega
 ·exact os ⟨rfl,os ⟨_,rfl,rfl,Int.le_refl _,by show (0:Int)≤_; omega⟩⟩
theorem pickOk {x:List Int} (B:Byt x) {s:aL} (S:Src x s) {l:List Int} (hl:1≤l.length):Ok (lQ s l) fun y=>y.1∈l∧Src x y.2:=by
 unfold lQ
 refine orr (ob (nextOk B S _) fun y hy=>?_)
 have h:=hy.1.2 (by omega)
 rw [idx_lt hy.1.1 h]
 exact os ⟨List.getElem_mem _,S.on hy.2⟩
structure OkC (a b:Nat) (c:aI):Prop where
 o0:0≤c.aD
 o:c.aD≤a
 m:c.aG.length≤b
 t:c.To.length=c.aG.length
 i:(c.aJ.length:Int)=c.aD
 k:c.aF.length=c.aG.length
 r:∀ y∈c.aF,y.length=c.aG.length
theorem OkC.mono {a b a' b':Nat} {c:aI} (h:OkC a b c) (ha:a≤a') (hb:b≤b'):OkC a' b' c:=
 ⟨h.o0,by have:=h.o; omega,Nat.le_trans h.m hb,h.t,h.i,h.k,h.r⟩
theorem OkC.small {a b:Nat} {c:aI} (h:OkC a b c) (ha:a≤1048576) (hb:b≤1048576):CatSmall c:=
 ⟨Nat.le_trans h.m hb,by rw [h.t]; exact Nat.le_trans h.m hb,by have:=h.i; have:=h.o; omega,by rw [h.k]; exact Nat.le_trans h.m hb,fun y hy=>by rw [h.r y hy]; exact Nat.le_trans h.m hb⟩
structure Sq (n:Nat) (l:List (List Int)):Prop where
 len:l.length=n
 row:∀ y∈l,y.length=n
theorem sqSet {n:Nat} {l:List (List Int)} (h:Sq n l) {e:List Int} (he:e∈l) (i j:Nat) (v:Int):Sq n (l.set i (e.set j v)):=
 ⟨by rw [List.length_set]; exact h.len,set_all h.row (by rw [List.length_set]; exact h.row e he)⟩
end Go.Proofs.YtkhdhnpokfibjaaGreat
namespace Go.Proofs.YtkhdhnpokfibjaaGreat
open Go Go.Li
theorem sumOk {c d:aI} {a b a' b':Nat} (C:OkC a b c) (D:OkC a' b' d) (ha:a+a'≤100000) (hb:b+b'≤100000):Ok (iS c d) fun e=>OkC (a+a') (b+b') e∧e.aD=c.aD+d.aD:=by
 have hC:=C.small (by omega) (by omega)
 obtain ⟨c0,c1,c2,c3,c4,c5,c6⟩:=C
 obtain ⟨d0,d1,d2,d3,d4,d5,d6⟩:=D
 unfold iS
 refine orr (oe (specOwnC hC) ?_)
 refine ol (fun z:Int×List Int=>(0≤z.1∧z.1≤d.aD)∧(z.2.length:Int)=c.aD+z.1) (fun z=>(d.aD - z.1).toNat) ⟨⟨by show (0:Int)≤0; omega,d0⟩,by show (c.aJ.length:Int)=_+0; omega⟩ ?_
 rintro ⟨i,id⟩ ⟨⟨i0,i1⟩,hid⟩
 dsimp only at i0 i1 hid
 show Ok (gU c d i id) _
 unfold gU
 refine od (fun hi=>?_) fun hi=>os ⟨rfl,?_⟩
 ·have hw:=w1 i0 hi (by omega)
  refine oi i0 (by omega) fun _ _=>oft (by omega) (by omega) (os ⟨⟨⟨?_,?_⟩,?_⟩,?_⟩) <;> dsimp only <;> rw [hw] <;> (try simp only [List.length_append,List.length_singleton]) <;> omega
 have row:∀ (l:List (List Int)) (i:Int),(∀ (k:Nat) y,l[k]? = some y→y.length=if (k:Int) < i then c.aG.length+d.aG.length else c.aG.length)→∀ y∈l,y.length≤c.aG.length+d.aG.length:=fun l i h y hy=>by
  obtain ⟨k,hk⟩:=List.getElem?_of_mem hy
  have:=h k y hk
  split at this <;> omega
 refine ol (fun z:Int×List (List Int)=>(0≤z.1∧z.1≤c.aG.length)∧z.2.length=c.aG.length∧∀ (k:Nat) y,z.2[k]? = some y→y.length=if (k:Int) < z.1 then c.aG.length+d.aG.length else c.aG.length) (fun z=>(c.aG.length - z.1).toNat)
  ⟨⟨by show (0:Int)≤0; omega,by show (0:Int)≤_; omega⟩,c5,fun k y hk=>by rw [if_neg (by show ¬ (k:Int) < 0; omega)]; exact c6 y (List.mem_of_getElem? hk)⟩ ?_
 rintro ⟨j,l⟩ ⟨⟨j0,j1⟩,hl,hr⟩
 dsimp only at j0 j1 hl hr
 show Ok (gW d j l) _
 unfold gW
 refine od (fun hj=>?_) fun hj=>os ⟨rfl,?_⟩
 ·refine ol (fun z:Int×List (List Int)=>(0≤z.1∧z.1≤d.aG.length)∧z.2.length=c.aG.length∧∀ (k:Nat) y,z.2[k]? = some y→(y.length:Int)=if (k:Int) < j then (c.aG.length:Int)+d.aG.length else if (k:Int)=j then (c.aG.length:Int)+z.1 else (c.aG.length:Int)) (fun z=>(d.aG.length - z.1).toNat)
   ⟨⟨by show (0:Int)≤0; omega,by show (0:Int)≤_; omega⟩,hl,fun k y hk=>by
    have:=hr k y hk
    show _=if (k:Int) < j then _ else if (k:Int)=j then (c.aG.length:Int)+0 else _
    split at this <;> split <;> (try split) <;> omega⟩ ?_
  rintro ⟨m,l⟩ ⟨⟨m0,m1⟩,hl,hr⟩
  dsimp only at m0 m1 hl hr
  show Ok (gV d j m l) _
  unfold gV
  refine od (fun hm=>?_) fun hm=>os ⟨rfl,?_⟩
  ·have hw:=w1 m0 hm (by omega)
   have hg:l[j.toNat]? = some (l[j.toNat]'(by omega)):=List.getElem?_eq_getElem _
   have hlen:=hr _ _ hg
   rw [if_neg (by omega),if_pos (by omega)] at hlen
   rw [idx_lt j0 (by omega)]
   refine oft (by omega) (by omega) (os ⟨⟨⟨?_,?_⟩,?_,?_⟩,?_⟩)
   ·dsimp only; rw [hw]; omega
   ·dsimp only; rw [hw]; omega
   ·dsimp only; rw [List.length_set]; exact hl
   ·intro k y hk
    dsimp only at hk ⊢
    rw [hw]
    rw [List.getElem?_set] at hk
    by_cases e:j.toNat=k
    ·rw [if_pos e,if_pos (by omega)] at hk
     rw [← Option.some.inj hk,if_neg (by omega),if_pos (by omega),List.length_append,List.length_singleton]; omega
    ·rw [if_neg e] at hk
     have:=hr k y hk
     rw [if_neg (show ¬ (k:Int)=j by omega)] at this ⊢
     exact this
   ·dsimp only; rw [hw]; omega
  ·have hw:=w1 j0 hj (by omega)
   refine os ⟨⟨⟨?_,?_⟩,hl,?_⟩,?_⟩
   ·dsimp only; rw [hw]; omega
   ·dsimp only; rw [hw]; omega
   ·intro k y hk
    dsimp only at hk ⊢
    rw [hw]
    have:=hr k y hk
    split at this <;> split <;> (try split at this) <;> omega
   ·dsimp only; rw [hw]; omega
 have hr':∀ y∈l,y.length=c.aG.length+d.aG.length:=fun y hy=>by
  obtain ⟨k,hk⟩:=List.getElem?_of_mem hy
  have h1:=hr k y hk
  have h2:=getElem?_lt hk
  rw [if_pos (by omega)] at h1
  exact h1
 refine ol (fun z:Int×List Int×List Int×List (List Int)=>(0≤z.1∧z.1≤d.aG.length)∧(z.2.1.length:Int)=c.aG.length+z.1∧(z.2.2.1.length:Int)=c.aG.length+z.1∧(z.2.2.2.length:Int)=c.aG.length+z.1∧∀ y∈z.2.2.2,y.length=c.aG.length+d.aG.length) (fun z=>(d.aG.length - z.1).toNat)
  ⟨⟨by show (0:Int)≤0; omega,by show (0:Int)≤_; omega⟩,by show (c.aG.length:Int)=_+0; omega,by show (c.To.length:Int)=_+0; omega,by show (l.length:Int)=_+0; omega,hr'⟩ ?_
 rintro ⟨m,f,t,k⟩ ⟨⟨m0,m1⟩,hf,ht,hk,hkr⟩
 dsimp only at m0 m1 hf ht hk hkr
 show Ok (gZ c d m f t k) _
 unfold gZ
 refine od (fun hm=>?_) fun hm=>os ⟨rfl,os ?_⟩
 ·have hw:=w1 m0 hm (by omega)
  refine oi m0 (by omega) fun _ _=>oft (by omega) (by omega) (oi m0 (by omega) fun _ _=>oft (by omega) (by omega) ?_)
  refine ol (fun z:List Int×Int=>(0≤z.2∧z.2≤c.aG.length)∧(z.1.length:Int)=z.2) (fun z=>(c.aG.length - z.2).toNat) ⟨⟨by show (0:Int)≤0; omega,by show (0:Int)≤_; omega⟩,rfl⟩ ?_
  rintro ⟨row,p⟩ ⟨⟨p0,p1⟩,hrow⟩
  dsimp only at p0 p1 hrow
  show Ok (gX c row p) _
  unfold gX
  refine od (fun hp=>?_) fun hp=>os ⟨rfl,?_⟩
  ·have hw:=w1 p0 hp (by omega)
   refine oft (by omega) (by omega) (os ⟨⟨⟨?_,?_⟩,?_⟩,?_⟩) <;> dsimp only <;> rw [hw] <;> (try simp only [List.length_append,List.length_singleton]) <;> omega
  ·refine ol (fun z:List Int×Int=>(0≤z.2∧z.2≤d.aG.length)∧(z.1.length:Int)=c.aG.length+z.2) (fun z=>(d.aG.length - z.2).toNat) ⟨⟨by show (0:Int)≤0; omega,by show (0:Int)≤_; omega⟩,by show (row.length:Int)=_+0; omega⟩ ?_
   rintro ⟨row,q⟩ ⟨⟨q0,q1⟩,hrow⟩
   dsimp only at q0 q1 hrow
   show Ok (gY c d m row q) _
   unfold gY
   refine od (fun hq=>?_) fun hq=>os ⟨rfl,?_⟩
   ·have hw:=w1 q0 hq (by omega)
    refine oi m0 (by omega) fun e he=>?_
    have:=d6 e he
    refine oi q0 (by omega) fun e' _=>od (fun _=>oft (by omega) (by omega) (os ⟨⟨⟨?_,?_⟩,?_⟩,?_⟩)) fun _=>oft (by omega) (by omega) (os ⟨⟨⟨?_,?_⟩,?_⟩,?_⟩) <;> dsimp only <;> rw [hw] <;> (try simp only [List.length_append,List.length_singleton]) <;> omega
   ·refine oft (by omega) (by omega) (os ⟨⟨⟨?_,?_⟩,?_,?_,?_,app_all hkr (by omega)⟩,?_⟩) <;> dsimp only <;> rw [hw] <;> (try simp only [List.length_append,List.length_singleton]) <;> omega
 ·have hw:w64 (c.aD+d.aD)=c.aD+d.aD:=eX (by omega) (by omega)
  refine ⟨⟨?_,?_,?_,?_,?_,?_,fun y hy=>?_⟩,hw⟩ <;> dsimp only
  ·rw [hw]; omega
  ·rw [hw]; omega
  ·omega
  ·omega
  ·rw [hw]; omega
  ·omega
  ·have:=hkr y hy; omega
end Go.Proofs.YtkhdhnpokfibjaaGreat
namespace Go.Proofs.YtkhdhnpokfibjaaGreat
open Go Go.Li
theorem joinOk {c d:aI} (C:OkC 1 4 c) (D:OkC 1 4 d):Ok (iD c d) (OkC 2 12):=by
 unfold iD
 refine orr (ob (sumOk C D (by omega) (by omega)) fun e he=>?_)
 obtain ⟨⟨e0,e1,e2,e3,e4,e5,e6⟩,_⟩:=he
 obtain ⟨c0,c1,-⟩:=C
 obtain ⟨d0,d1,-⟩:=D
 refine ol (fun z:Int×List Int×List Int=>(0≤z.1∧z.1≤c.aD)∧z.2.2.length=z.2.1.length∧(e.aG.length≤z.2.1.length∧(z.2.1.length:Int)≤8+4 * z.1)) (fun z=>(c.aD - z.1).toNat) ⟨⟨by show (0:Int)≤0; omega,c0⟩,e3,Nat.le_refl _,by show (e.aG.length:Int)≤8+4 * 0; omega⟩ ?_
 rintro ⟨i,f,t⟩ ⟨⟨i0,i1⟩,ht,hm,hf⟩
 dsimp only at i0 i1 ht hm hf
 show Ok (gH c d i f t) _
 unfold gH
 refine od (fun hi=>?_) fun hi=>os ⟨rfl,?_⟩
 ·refine ol (fun z:Int×List Int×List Int=>(0≤z.1∧z.1≤d.aD)∧z.2.2.length=z.2.1.length∧(e.aG.length≤z.2.1.length∧(z.2.1.length:Int)≤8+4 * i+z.1)) (fun z=>(d.aD - z.1).toNat) ⟨⟨by show (0:Int)≤0; omega,d0⟩,ht,hm,by show (f.length:Int)≤8+4 * i+0; omega⟩ ?_
  rintro ⟨j,f,t⟩ ⟨⟨j0,j1⟩,ht,hm,hf⟩
  dsimp only at j0 j1 ht hm hf
  show Ok (gG c d i j f t) _
  unfold gG
  refine od (fun hj=>?_) fun hj=>os ⟨rfl,?_⟩
  ·have hw:=w1 j0 hj (by omega)
   refine oft (by omega) (by omega) (oft (by omega) (by omega) (os ⟨⟨⟨?_,?_⟩,?_,?_,?_⟩,?_⟩)) <;> dsimp only <;> (try rw [hw]) <;> (try simp only [List.length_append,List.length_singleton]) <;> omega
  ·have hw:=w1 i0 hi (by omega)
   refine os ⟨⟨⟨?_,?_⟩,ht,hm,?_⟩,?_⟩ <;> dsimp only <;> rw [hw] <;> omega
 ·refine ol (fun z:List (List Int)×Int=>(0≤z.2∧z.2≤f.length)∧(z.1.length:Int)=z.2∧∀ y∈z.1,y.length=f.length) (fun z=>(f.length - z.2).toNat) ⟨⟨by show (0:Int)≤0; omega,by show (0:Int)≤_; omega⟩,rfl,nil_all⟩ ?_
  rintro ⟨k,b⟩ ⟨⟨b0,b1⟩,hk,hkr⟩
  dsimp only at b0 b1 hk hkr
  show Ok (gJ c d e f t k b) _
  unfold gJ
  refine od (fun hb=>?_) fun hb=>os ⟨rfl,os ⟨e0,e1,?_,ht,e4,?_,hkr⟩⟩
  ·refine ol (fun z:List Int×Int=>(0≤z.2∧z.2≤f.length)∧(z.1.length:Int)=z.2) (fun z=>(f.length - z.2).toNat) ⟨⟨by show (0:Int)≤0; omega,by show (0:Int)≤_; omega⟩,rfl⟩ ?_
   rintro ⟨row,g⟩ ⟨⟨g0,g1⟩,hrow⟩
   dsimp only at g0 g1 hrow
   show Ok (gI c d e f t b row g) _
   unfold gI
   refine od (fun hg=>?_) fun hg=>os ⟨rfl,?_⟩
   ·have hw:=w1 g0 hg (by omega)
    refine oi b0 (by omega) fun _ _=>oi g0 (by omega) fun _ _=>oc (fun _=>?_) fun _=>ob (P:=fun x=>x=true→b < e.aG.length∧g < e.aG.length) (od (fun h1=>os fun h=>⟨h1,of_decide_eq_true h⟩) fun _=>os fun h=>by cases h) fun x hx=>oc (fun hx'=>?_) fun _=>oi b0 (by omega) fun _ _=>oi g0 (by omega) fun _ _=>?_
    ·refine oft (by omega) (by omega) (os ⟨⟨⟨?_,?_⟩,?_⟩,?_⟩) <;> dsimp only <;> rw [hw] <;> (try simp only [List.length_append,List.length_singleton]) <;> omega
    ·obtain ⟨h1,h2⟩:=hx hx'
     refine oi b0 (by omega) fun y hy=>?_
     have:=e6 y hy
     refine oi g0 (by omega) fun _ _=>oft (by omega) (by omega) (os ⟨⟨⟨?_,?_⟩,?_⟩,?_⟩) <;> dsimp only <;> rw [hw] <;> (try simp only [List.length_append,List.length_singleton]) <;> omega
    ·refine oft (by omega) (by omega) (os ⟨⟨⟨?_,?_⟩,?_⟩,?_⟩) <;> dsimp only <;> rw [hw] <;> (try simp only [List.length_append,List.length_singleton]) <;> omega
   ·have hw:=w1 b0 hb (by omega)
    refine oft (by omega) (by omega) (os ⟨⟨⟨?_,?_⟩,?_,app_all hkr (by omega)⟩,?_⟩) <;> dsimp only <;> rw [hw] <;> (try simp only [List.length_append,List.length_singleton]) <;> omega
  all_goals (try dsimp only)
  all_goals omega
theorem mul_lt {i n a b:Int} (i0:0≤i) (i1:i≤a) (n0:0≤n) (n1:n≤b):0≤i * n∧i * n≤a * b:=
 ⟨Int.mul_nonneg i0 n0,Int.mul_le_mul i1 n1 n0 (by omega)⟩
theorem mul_next (i n:Int):(i+1) * n=i * n+n:=by rw [Int.add_mul,Int.one_mul]
theorem mul_end {i n a:Int} (h1 : ¬ i < a) (h2:i≤a):i * n=a * n:=by rw [show i=a by omega]
theorem productOk {c d:aI} (C:OkC 8 40 c) (D:OkC 4 20 d):Ok (fZ c d) (OkC 32 800):=by
 obtain ⟨c0,c1,c2,c3,c4,c5,c6⟩:=C
 obtain ⟨d0,d1,d2,d3,d4,d5,d6⟩:=D
 have bO:∀ {i:Int},0≤i→i≤c.aD→0≤i * d.aD∧i * d.aD≤8 * 4:=fun h0 h1=>mul_lt h0 (by omega) d0 (by omega)
 have bM:∀ {i:Int},0≤i→i≤c.aG.length→0≤i * (d.aG.length:Int)∧i * (d.aG.length:Int)≤40 * 20:=fun h0 h1=>mul_lt h0 (by omega) (by omega) (by omega)
 unfold fZ
 refine orr (ol (fun z:Int×List Int=>(0≤z.1∧z.1≤c.aD)∧(z.2.length:Int)=z.1 * d.aD) (fun z=>(c.aD - z.1).toNat) ⟨⟨by show (0:Int)≤0; omega,c0⟩,by show (0:Int)=0 * d.aD; rw [Int.zero_mul]⟩ ?_)
 rintro ⟨i,id⟩ ⟨⟨i0,i1⟩,hid⟩
 dsimp only at i0 i1 hid
 show Ok (fO c d i id) _
 unfold fO
 have hbi:=bO i0 i1
 refine od (fun hi=>?_) fun hi=>os ⟨rfl,?_⟩
 ·refine ol (fun z:Int×List Int=>(0≤z.1∧z.1≤d.aD)∧(z.2.length:Int)=i * d.aD+z.1) (fun z=>(d.aD - z.1).toNat) ⟨⟨by show (0:Int)≤0; omega,d0⟩,by show (id.length:Int)=i * d.aD+0; omega⟩ ?_
  rintro ⟨j,id⟩ ⟨⟨j0,j1⟩,hid⟩
  dsimp only at j0 j1 hid
  show Ok (fN c d i j id) _
  unfold fN
  refine od (fun hj=>?_) fun hj=>os ⟨rfl,?_⟩
  ·have hw:=w1 j0 hj (by omega)
   refine oi i0 (by omega) fun _ _=>oi j0 (by omega) fun _ _=>oft (by omega) (by omega) (os ⟨⟨⟨?_,?_⟩,?_⟩,?_⟩) <;> dsimp only <;> rw [hw] <;> (try simp only [List.length_append,List.length_singleton]) <;> omega
  ·have hw:=w1 i0 hi (by omega)
   have hn:=mul_next i d.aD
   refine os ⟨⟨⟨?_,?_⟩,?_⟩,?_⟩ <;> dsimp only <;> rw [hw] <;> omega
 have hO:=mul_end (n:=d.aD) hi i1
 refine ol (fun z:Int×List Int×List Int×List (List Int)=>(0≤z.1∧z.1≤c.aG.length)∧(z.2.1.length:Int)=z.1 * (d.aG.length:Int)∧z.2.2.1.length=z.2.1.length∧z.2.2.2.length=z.2.1.length∧∀ y∈z.2.2.2,(y.length:Int)=(c.aG.length:Int) * (d.aG.length:Int)) (fun z=>(c.aG.length - z.1).toNat)
  ⟨⟨by show (0:Int)≤0; omega,by show (0:Int)≤_; omega⟩,by show (0:Int)=0 * (d.aG.length:Int); rw [Int.zero_mul],rfl,rfl,nil_all⟩ ?_
 rintro ⟨a,f,t,k⟩ ⟨⟨a0,a1⟩,hf,ht,hk,hkr⟩
 dsimp only at a0 a1 hf ht hk hkr
 show Ok (fS c d a f t k) _
 unfold fS
 have hba:=bM a0 a1
 have hbc:=bM (i:=(c.aG.length:Int)) (by omega) (by omega)
 refine od (fun ha=>?_) fun ha=>os ⟨rfl,os ?_⟩
 ·refine ol (fun z:Int×List Int×List Int×List (List Int)=>(0≤z.1∧z.1≤d.aG.length)∧(z.2.1.length:Int)=a * (d.aG.length:Int)+z.1∧z.2.2.1.length=z.2.1.length∧z.2.2.2.length=z.2.1.length∧∀ y∈z.2.2.2,(y.length:Int)=(c.aG.length:Int) * (d.aG.length:Int)) (fun z=>(d.aG.length - z.1).toNat)
   ⟨⟨by show (0:Int)≤0; omega,by show (0:Int)≤_; omega⟩,by show (f.length:Int)=a * (d.aG.length:Int)+0; omega,ht,hk,hkr⟩ ?_
  rintro ⟨b,f,t,k⟩ ⟨⟨b0,b1⟩,hf,ht,hk,hkr⟩
  dsimp only at b0 b1 hf ht hk hkr
  show Ok (fR c d a b f t k) _
  unfold fR
  refine od (fun hb=>?_) fun hb=>os ⟨rfl,?_⟩
  ·refine oi a0 (by omega) fun _ _=>oi b0 (by omega) fun _ _=>oft (by omega) (by omega) (oi a0 (by omega) fun _ _=>oi b0 (by omega) fun _ _=>oft (by omega) (by omega) ?_)
   refine ol (fun z:List Int×Int=>(0≤z.2∧z.2≤c.aG.length)∧(z.1.length:Int)=z.2 * (d.aG.length:Int)) (fun z=>(c.aG.length - z.2).toNat) ⟨⟨by show (0:Int)≤0; omega,by show (0:Int)≤_; omega⟩,by show (0:Int)=0 * (d.aG.length:Int); rw [Int.zero_mul]⟩ ?_
   rintro ⟨row,p⟩ ⟨⟨p0,p1⟩,hrow⟩
   dsimp only at p0 p1 hrow
   show Ok (fQ c d a b row p) _
   unfold fQ
   have hbp:=bM p0 p1
   refine od (fun hp=>?_) fun hp=>os ⟨rfl,?_⟩
   ·refine ol (fun z:List Int×Int=>(0≤z.2∧z.2≤d.aG.length)∧(z.1.length:Int)=p * (d.aG.length:Int)+z.2) (fun z=>(d.aG.length - z.2).toNat) ⟨⟨by show (0:Int)≤0; omega,by show (0:Int)≤_; omega⟩,by show (row.length:Int)=p * (d.aG.length:Int)+0; omega⟩ ?_
    rintro ⟨row,q⟩ ⟨⟨q0,q1⟩,hrow⟩
    dsimp only at q0 q1 hrow
    show Ok (fP c d a b p row q) _
    unfold fP
    refine od (fun hq=>?_) fun hq=>os ⟨rfl,?_⟩
    ·have hw:=w1 q0 hq (by omega)
     refine ob (P:=fun _=>True) (oi a0 (by omega) fun y hy=>?_) fun g _=>oc (fun _=>oi a0 (by omega) fun y hy=>?_) fun _=>?_
     ·have:=c6 y hy
      refine oi p0 (by omega) fun _ _=>od (fun _=>oi b0 (by omega) fun y' hy'=>?_) fun _=>os trivial
      have:=d6 y' hy'
      exact oi q0 (by omega) fun _ _=>os trivial
     ·have:=c6 y hy
      refine oi p0 (by omega) fun _ _=>oi b0 (by omega) fun y' hy'=>?_
      have:=d6 y' hy'
      refine oi q0 (by omega) fun _ _=>oft (by omega) (by omega) (os ⟨⟨⟨?_,?_⟩,?_⟩,?_⟩) <;> dsimp only <;> rw [hw] <;> (try simp only [List.length_append,List.length_singleton]) <;> omega
     ·refine oft (by omega) (by omega) (os ⟨⟨⟨?_,?_⟩,?_⟩,?_⟩) <;> dsimp only <;> rw [hw] <;> (try simp only [List.length_append,List.length_singleton]) <;> omega
    ·have hw:=w1 p0 hp (by omega)
     have hn:=mul_next p (d.aG.length:Int)
     refine os ⟨⟨⟨?_,?_⟩,?_⟩,?_⟩ <;> dsimp only <;> rw [hw] <;> omega
   ·have hw:=w1 b0 hb (by omega)
    have hP:=mul_end (n:=(d.aG.length:Int)) hp p1
    refine oft (by omega) (by omega) (os ⟨⟨⟨?_,?_⟩,?_,?_,?_,app_all hkr (by omega)⟩,?_⟩) <;> dsimp only <;> (try rw [hw]) <;> (try simp only [List.length_append,List.length_singleton]) <;> omega
  ·have hw:=w1 a0 ha (by omega)
   have hn:=mul_next a (d.aG.length:Int)
   refine os ⟨⟨⟨?_,?_⟩,?_,ht,hk,hkr⟩,?_⟩ <;> dsimp only <;> rw [hw] <;> omega
 ·have hA:=mul_end (n:=(d.aG.length:Int)) ha a1
  have hbo:=bO c0 (Int.le_refl _)
  have hw:w64 (c.aD * d.aD)=c.aD * d.aD:=eX (by omega) (by omega)
  refine ⟨?_,?_,?_,ht,?_,hk,fun y hy=>?_⟩ <;> dsimp only
  ·rw [hw]; omega
  ·rw [hw]; omega
  ·omega
  ·rw [hw]; omega
  ·have:=hkr y hy; omega
end Go.Proofs.YtkhdhnpokfibjaaGreat
