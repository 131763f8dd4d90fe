/- That a model does not fail, and what it gives: rules. No condition beside those that each theorem names. -/
import Derived.Test.YtcnehblmgfbfoaaGreatPa
import Derived.Test.YtcnehblmgfbfoaaGreatPj
set_option linter.unusedVariables false
set_option linter.unusedSectionVars false
set_option linter.unusedSimpArgs false
namespace Go.Li
open Go
def Ok {α:Type} (m:Option α) (Q:α→Prop):Prop:=∃ x,m=some x∧Q x
section
variable {α β S S1 R:Type}
theorem Ok.mono {m:Option α} {P Q:α→Prop} (h:Ok m P) (hq:∀ x,P x→Q x):Ok m Q:=by
 obtain ⟨x,e,hx⟩:=h
 exact ⟨x,e,hq x hx⟩
theorem os {x:α} {Q:α→Prop} (h:Q x):Ok (some x) Q:=⟨x,rfl,h⟩
theorem ob {m:Option α} {f:α→Option β} {Q:β→Prop} {P:α→Prop} (hm:Ok m P) (h:∀ x,P x→Ok (f x) Q):Ok (m>>=f) Q:=by
 obtain ⟨x,rfl,hx⟩:=hm
 exact h x hx
theorem oe {m:Option α} {f:α→Option β} {Q:β→Prop} {x:α} (e:m=some x) (h:Ok (f x) Q):Ok (m>>=f) Q:=by
 subst e; exact h
theorem oi {l:List α} {j:Int} {f:α→Option β} {Q:β→Prop} (h0:0≤j) (h1:j < l.length) (h:∀ x∈l,Ok (f x) Q):Ok (idx l j>>=f) Q:=by
 rw [zO h0 h1]
 exact h _ (List.getElem_mem _)
theorem fw {b n:Nat} {f:Unit→Option β} {Q:β→Prop} (h1:n * b≤140737488355328) (h2:n≤9223372036854775807) (h:Ok (f ()) Q):Ok (fits b n>>=f) Q:=oe (cB h1 h2) h
theorem Pa {b:Nat} {j:Int} {f:Nat→Option β} {Q:β→Prop} (h0:0≤j) (h1:b * j.toNat≤281474976710656) (h2:j≤9223372036854775807) (h:Ok (f j.toNat) Q):Ok (mk b j>>=f) Q:=by
 obtain ⟨n,rfl⟩ : ∃ n:Nat,j=n:=⟨j.toNat,by omega⟩
 exact oe (uK (by simpa using h1) (by omega)) (by simpa using h)
theorem oc {b:Bool} {x y:Option α} {Q:α→Prop} (h1:b=true→Ok x Q) (h2:b=false→Ok y Q):Ok (bif b then x else y) Q:=by
 cases b with
 | true=>exact h1 rfl
 | false=>exact h2 rfl
theorem od {p:Prop} [Decidable p] {x y:Option α} {Q:α→Prop} (h1:p→Ok x Q) (h2 : ¬ p→Ok y Q):Ok (bif decide p then x else y) Q:=
 oc (fun h=>h1 (of_decide_eq_true h)) (fun h=>h2 (of_decide_eq_false h))
theorem og {m:Option Bool} {f:Bool→Option β} {Q:β→Prop} (hm:Ok m fun _=>True) (h:∀ b,Ok (f b) Q):Ok (m>>=f) Q:=ob hm fun b _=>h b
def HY (k:Nat) (J:S1→Prop) (mu:S1→Nat) (n:Nat) (E:S1→Prop) (G:R→Prop):Out S1 R→Prop
 | .norm s=>J s∧mu s < n
 | .exit k' s=>k'=k∧E s
 | .ret r=>G r
def Rt (Q:R→Prop):Out S R→Prop
 | .ret r=>Q r
 | _=>False
theorem km {m:Option (Out S R)} {Q:R→Prop} (h:Ok m (Rt Q)):Ok (an m) Q:=by
 obtain ⟨o,rfl,ho⟩:=h
 cases o with
 | ret r=>exact ⟨r,rfl,ho⟩
 | _=>exact ho.elim
def Rn (Q:R→Prop):Out R R→Prop
 | .norm r=>Q r
 | .ret r=>Q r
 | _=>False
theorem off {m:Option (Out R R)} {Q:R→Prop} (h:Ok m (Rn Q)):Ok (ED m) Q:=by
 obtain ⟨o,rfl,ho⟩:=h
 cases o with
 | ret r=>exact ⟨r,rfl,ho⟩
 | norm r=>exact ⟨r,rfl,ho⟩
 | _=>exact ho.elim
theorem ol {body:S1→Option (Out S1 R)} {k:Nat} {f:S1→Option (Out S R)} {Q:Out S R→Prop} (J:S1→Prop) (mu:S1→Nat) {s0:S1} (h0:J s0)
  (step:∀ s,J s→Ok (body s) (HY k J mu (mu s) (fun s=>Ok (f s) Q) (fun r=>Q (.ret r)))):Ok (ah (ab k (aj body s0)) f) Q:=by
 have key:∀ n s,mu s=n→J s→Ok (ah (ab k (aj body s)) f) Q:=by
  intro n
  induction n using Nat.strongRecOn with
  | ind n ih=>
   intro s hn hs
   obtain ⟨o,e,ho⟩:=step s hs
   rw [rR,e]
   cases o with
   | norm s'=>exact ih _ (hn ▸ ho.2) s' rfl ho.1
   | exit k' s'=>
    obtain ⟨rfl,he⟩:=ho
    have:ah (S:=S) (ab k' (some (Out.exit k' s':Out S1 R))) f=f s':=xx rfl
    rw [this]; exact he
   | ret r=>
    have:ah (S:=S) (ab k (some (Out.ret r:Out S1 R))) f=some (.ret r):=CF rfl
    rw [this]; exact ⟨_,rfl,ho⟩
 exact key _ s0 rfl h0
end
theorem w1 {i n:Int} (h0:0≤i) (h1:i < n) (hn:n≤1048576000):ai (i+1)=i+1:=bX (by omega) (by omega)
theorem xC {α:Type} {P:α→Prop} {l:List α} {i:Nat} {x:α} (hl:∀ y∈l,P y) (hx:P x):∀ y∈l.set i x,P y:=fun y hy=>by
 rcases List.mem_or_eq_of_mem_set hy with h | h
 ·exact hl y h
 ·rw [h]; exact hx
theorem jw {α:Type} {P:α→Prop} {l:List α} {x:α} (hl:∀ y∈l,P y) (hx:P x):∀ y∈l++[x],P y:=fun y hy=>by
 rcases List.mem_append.1 hy with h | h
 ·exact hl y h
 ·rw [List.mem_singleton.1 h]; exact hx
theorem jv {α:Type} {P:α→Prop}:∀ y∈([]:List α),P y:=fun _ h=>nomatch h
end Go.Li
namespace Go.Proofs.YtcnehblmgfbfoaaGreat
open Go Go.Li
structure vx (x:List Int):Prop where
 len:x.length≤4096
 b:∀ y∈x,0≤y∧y < 256
structure Src (x:List Int) (s:aM):Prop where
 c:s.Code=x
 a0:0≤s.At
 a1:s.At≤x.length
theorem Src.on {x:List Int} {s t:aM} {h:Int} (S:Src x s) (T:Src x t):Src x (aM.mk s.Code t.At h):=⟨S.c,T.a0,T.a1⟩
theorem Src.at_ {x:List Int} {s:aM} {a h:Int} (S:Src x s) (h0:0≤a) (h1:a≤x.length):Src x (aM.mk s.Code a h):=⟨S.c,h0,h1⟩
theorem Lm (z:Int):∃ n:Nat,n≤16777215∧pO .and .u64 z (16777215:Int)=some (n:Int):=by
 refine ⟨(BitVec.ofInt 64 z &&& BitVec.ofInt 64 16777215).toNat,?_,?_⟩
 ·rw [BitVec.toNat_and]
  exact Nat.le_trans Nat.and_le_right (by decide)
 ·have h:(BitVec.ofInt 64 z &&& BitVec.ofInt 64 16777215).toNat≤16777215:=by
   rw [BitVec.toNat_and]
   exact Nat.le_trans Nat.and_le_right (by decide)
  show some (IntKind.u64.wrap ((BitVec.ofInt 64 z &&& BitVec.ofInt 64 16777215).toNat:Int))=_
  congr 1
  generalize (BitVec.ofInt 64 z &&& BitVec.ofInt 64 16777215).toNat=n at h
  unfold IntKind.wrap
  simp [IntKind.bits,IntKind.signed]
  omega
theorem Vq (z:Int):∃ y,pO .shr .u64 z (33:Int)=some y:=by
 simp only [pO]
 rw [if_neg (by decide)]
 exact ⟨_,rfl⟩
theorem dw {x:List Int} (B:vx x) {s:aM} (S:Src x s) (n:Int):Ok (bJ s n) fun y=>(0≤y.1∧(1≤n→y.1 < n))∧Src x y.2:=by
 obtain ⟨hc,h0,h1⟩:=S
 have hl:=B.len
 unfold bJ
 refine km (od (fun h=>os ⟨⟨Int.le_refl _,fun h'=>by omega⟩,hc,h0,h1⟩) fun h=>?_)
 obtain ⟨SD,Tg⟩:=Vq (IntKind.u64.wrap (IntKind.u64.wrap (s.av * 6364136223846793005)+1442695040888963407))
 refine oe rfl (oe rfl (oe Tg ?_))
 obtain ⟨m,hm,em⟩:=Lm SD
 refine oe em ?_
 have e1:IntKind.i64.wrap (m:Int)=m:=bX (by omega) (by omega)
 rw [e1]
 have mod:∀ z:Int,0≤z→pO .rem .i64 z n=some (z.tmod n)∧0≤z.tmod n∧z.tmod n < n:=fun z hz=>
  ⟨if_neg (by omega),Int.tmod_nonneg n hz,Int.tmod_lt_of_pos z (by omega)⟩
 refine od (fun h2=>?_) fun h2=>?_
 ·rw [hc] at h2 ⊢
  refine oi h0 h2 fun y hy=>?_
  have hb:=B.b y hy
  rw [show IntKind.i64.wrap y=y from bX (by omega) (by omega),bX (by omega) (by omega)]
  obtain ⟨e,g0,g1⟩:=mod ((m:Int)+y) (by omega)
  refine oe e (os ⟨⟨g0,fun _=>g1⟩,rfl,?_,?_⟩)
  ·show 0≤ai (s.At+1); rw [w1 h0 h2 (by omega)]; omega
  ·show ai (s.At+1)≤_; rw [w1 h0 h2 (by omega)]; omega
 ·obtain ⟨e,g0,g1⟩:=mod (m:Int) (by omega)
  exact oe e (os ⟨⟨g0,fun _=>g1⟩,hc,h0,h1⟩)
theorem KC {x:List Int} (B:vx x):Ok (jK x) fun y=>∃ s,y=some s∧Src x s:=by
 have hl:=B.len
 unfold jK
 refine km (oe rfl (ol (fun s:Int×Int=>0≤s.1∧s.1≤x.length) (fun s=>(x.length - s.1).toNat) ⟨Int.le_refl _,by show (0:Int)≤_; omega⟩ ?_))
 rintro ⟨i,h⟩ ⟨h0,h1⟩
 dsimp only at h0 h1
 show Ok (lN x i h) _
 unfold lN
 refine ob (P:=fun b=>b=true→i < x.length) (od (fun h=>os fun _=>h) fun _=>os fun h=>by cases h) fun b hb=>oc (fun bz=>?_) fun _=>?_
 ·have hi:=hb bz
  refine oe rfl (oi h0 hi fun y _=>oe rfl (oe rfl (os ⟨⟨?_,?_⟩,?_⟩)))
  ·show 0≤ai (i+1); rw [w1 h0 hi (by omega)]; omega
  ·show ai (i+1)≤_; rw [w1 h0 hi (by omega)]; omega
  ·show (x.length - ai (i+1)).toNat < (x.length - i).toNat; rw [w1 h0 hi (by omega)]; omega
 ·exact os ⟨rfl,os ⟨_,rfl,rfl,Int.le_refl _,by show (0:Int)≤_; omega⟩⟩
theorem TQ {x:List Int} (B:vx x) {s:aM} (S:Src x s) {l:List Int} (hl:1≤l.length):Ok (lT s l) fun y=>y.1∈l∧Src x y.2:=by
 unfold lT
 refine km (ob (dw B S _) fun y hy=>?_)
 have h:=hy.1.2 (by omega)
 rw [zO hy.1.1 h]
 exact os ⟨List.getElem_mem _,S.on hy.2⟩
structure jb (a b:Nat) (c:aD):Prop where
 o0:0≤c.aA
 o:c.aA≤a
 m:c.aB.length≤b
 t:c.To.length=c.aB.length
 i:(c.aF.length:Int)=c.aA
 k:c.aC.length=c.aB.length
 r:∀ y∈c.aC,y.length=c.aB.length
theorem jb.mono {a b a' b':Nat} {c:aD} (h:jb a b c) (ha:a≤a') (hb:b≤b'):jb a' b' c:=
 ⟨h.o0,by have:=h.o; omega,Nat.le_trans h.m hb,h.t,h.i,h.k,h.r⟩
theorem jb.small {a b:Nat} {c:aD} (h:jb a b c) (ha:a≤1048576) (hb:b≤1048576):dv c:=
 ⟨Nat.le_trans h.m hb,by rw [h.t]; exact Nat.le_trans h.m hb,by have:=h.i; have:=h.o; omega,by rw [h.k]; exact Nat.le_trans h.m hb,fun y hy=>by rw [h.r y hy]; exact Nat.le_trans h.m hb⟩
structure Sq (n:Nat) (l:List (List Int)):Prop where
 len:l.length=n
 row:∀ y∈l,y.length=n
theorem Pb {n:Nat} {l:List (List Int)} (h:Sq n l) {e:List Int} (he:e∈l) (i j:Nat) (v:Int):Sq n (l.set i (e.set j v)):=
 ⟨by rw [List.length_set]; exact h.len,xC h.row (by rw [List.length_set]; exact h.row e he)⟩
end Go.Proofs.YtcnehblmgfbfoaaGreat
namespace Go.Proofs.YtcnehblmgfbfoaaGreat
open Go Go.Li
theorem Pc {c d:aD} {a b a' b':Nat} (C:jb a b c) (D:jb a' b' d) (ha:a+a'≤100000) (hb:b+b'≤100000):Ok (fB c d) fun e=>jb (a+a') (b+b') e∧e.aA=c.aA+d.aA:=by
 have hC:=C.small (by omega) (by omega)
 obtain ⟨c0,c1,c2,c3,c4,c5,c6⟩:=C
 obtain ⟨d0,d1,d2,d3,d4,d5,d6⟩:=D
 unfold fB
 refine km (oe (vY hC) ?_)
 refine ol (fun z:Int×List Int=>(0≤z.1∧z.1≤d.aA)∧(z.2.length:Int)=c.aA+z.1) (fun z=>(d.aA - z.1).toNat) ⟨⟨by show (0:Int)≤0; omega,d0⟩,by show (c.aF.length:Int)=_+0; omega⟩ ?_
 rintro ⟨i,id⟩ ⟨⟨i0,i1⟩,uz⟩
 dsimp only at i0 i1 uz
 show Ok (eP c d i id) _
 unfold eP
 refine od (fun hi=>?_) fun hi=>os ⟨rfl,?_⟩
 ·have hw:=w1 i0 hi (by omega)
  refine oi i0 (by omega) fun _ _=>fw (by omega) (by omega) (os ⟨⟨⟨?_,?_⟩,?_⟩,?_⟩) <;> dsimp only <;> rw [hw] <;> (try simp only [List.length_append,List.length_singleton]) <;> omega
 have row:∀ (l:List (List Int)) (i:Int),(∀ (k:Nat) y,l[k]? = some y→y.length=if (k:Int) < i then c.aB.length+d.aB.length else c.aB.length)→∀ y∈l,y.length≤c.aB.length+d.aB.length:=fun l i h y hy=>by
  obtain ⟨k,hk⟩:=List.getElem?_of_mem hy
  have:=h k y hk
  split at this <;> omega
 refine ol (fun z:Int×List (List Int)=>(0≤z.1∧z.1≤c.aB.length)∧z.2.length=c.aB.length∧∀ (k:Nat) y,z.2[k]? = some y→y.length=if (k:Int) < z.1 then c.aB.length+d.aB.length else c.aB.length) (fun z=>(c.aB.length - z.1).toNat)
  ⟨⟨by show (0:Int)≤0; omega,by show (0:Int)≤_; omega⟩,c5,fun k y hk=>by rw [if_neg (by show ¬ (k:Int) < 0; omega)]; exact c6 y (List.mem_of_getElem? hk)⟩ ?_
 rintro ⟨j,l⟩ ⟨⟨j0,j1⟩,hl,hr⟩
 dsimp only at j0 j1 hl hr
 show Ok (eR d j l) _
 unfold eR
 refine od (fun hj=>?_) fun hj=>os ⟨rfl,?_⟩
 ·refine ol (fun z:Int×List (List Int)=>(0≤z.1∧z.1≤d.aB.length)∧z.2.length=c.aB.length∧∀ (k:Nat) y,z.2[k]? = some y→(y.length:Int)=if (k:Int) < j then (c.aB.length:Int)+d.aB.length else if (k:Int)=j then (c.aB.length:Int)+z.1 else (c.aB.length:Int)) (fun z=>(d.aB.length - z.1).toNat)
   ⟨⟨by show (0:Int)≤0; omega,by show (0:Int)≤_; omega⟩,hl,fun k y hk=>by
    have:=hr k y hk
    show _=if (k:Int) < j then _ else if (k:Int)=j then (c.aB.length:Int)+0 else _
    split at this <;> split <;> (try split) <;> omega⟩ ?_
  rintro ⟨m,l⟩ ⟨⟨m0,m1⟩,hl,hr⟩
  dsimp only at m0 m1 hl hr
  show Ok (eQ d j m l) _
  unfold eQ
  refine od (fun hm=>?_) fun hm=>os ⟨rfl,?_⟩
  ·have hw:=w1 m0 hm (by omega)
   have hg:l[j.toNat]? = some (l[j.toNat]'(by omega)):=List.getElem?_eq_getElem _
   have hlen:=hr _ _ hg
   rw [if_neg (by omega),if_pos (by omega)] at hlen
   rw [zO j0 (by omega)]
   refine fw (by omega) (by omega) (os ⟨⟨⟨?_,?_⟩,?_,?_⟩,?_⟩)
   ·dsimp only; rw [hw]; omega
   ·dsimp only; rw [hw]; omega
   ·dsimp only; rw [List.length_set]; exact hl
   ·intro k y hk
    dsimp only at hk ⊢
    rw [hw]
    rw [List.getElem?_set] at hk
    by_cases e:j.toNat=k
    ·rw [if_pos e,if_pos (by omega)] at hk
     rw [← Option.some.inj hk,if_neg (by omega),if_pos (by omega),List.length_append,List.length_singleton]; omega
    ·rw [if_neg e] at hk
     have:=hr k y hk
     rw [if_neg (show ¬ (k:Int)=j by omega)] at this ⊢
     exact this
   ·dsimp only; rw [hw]; omega
  ·have hw:=w1 j0 hj (by omega)
   refine os ⟨⟨⟨?_,?_⟩,hl,?_⟩,?_⟩
   ·dsimp only; rw [hw]; omega
   ·dsimp only; rw [hw]; omega
   ·intro k y hk
    dsimp only at hk ⊢
    rw [hw]
    have:=hr k y hk
    split at this <;> split <;> (try split at this) <;> omega
   ·dsimp only; rw [hw]; omega
 have fi:∀ y∈l,y.length=c.aB.length+d.aB.length:=fun y hy=>by
  obtain ⟨k,hk⟩:=List.getElem?_of_mem hy
  have h1:=hr k y hk
  have h2:=bg hk
  rw [if_pos (by omega)] at h1
  exact h1
 refine ol (fun z:Int×List Int×List Int×List (List Int)=>(0≤z.1∧z.1≤d.aB.length)∧(z.2.1.length:Int)=c.aB.length+z.1∧(z.2.2.1.length:Int)=c.aB.length+z.1∧(z.2.2.2.length:Int)=c.aB.length+z.1∧∀ y∈z.2.2.2,y.length=c.aB.length+d.aB.length) (fun z=>(d.aB.length - z.1).toNat)
  ⟨⟨by show (0:Int)≤0; omega,by show (0:Int)≤_; omega⟩,by show (c.aB.length:Int)=_+0; omega,by show (c.To.length:Int)=_+0; omega,by show (l.length:Int)=_+0; omega,fi⟩ ?_
 rintro ⟨m,f,t,k⟩ ⟨⟨m0,m1⟩,hf,ht,hk,nb⟩
 dsimp only at m0 m1 hf ht hk nb
 show Ok (eV c d m f t k) _
 unfold eV
 refine od (fun hm=>?_) fun hm=>os ⟨rfl,os ?_⟩
 ·have hw:=w1 m0 hm (by omega)
  refine oi m0 (by omega) fun _ _=>fw (by omega) (by omega) (oi m0 (by omega) fun _ _=>fw (by omega) (by omega) ?_)
  refine ol (fun z:List Int×Int=>(0≤z.2∧z.2≤c.aB.length)∧(z.1.length:Int)=z.2) (fun z=>(c.aB.length - z.2).toNat) ⟨⟨by show (0:Int)≤0; omega,by show (0:Int)≤_; omega⟩,rfl⟩ ?_
  rintro ⟨row,p⟩ ⟨⟨p0,p1⟩,bb⟩
  dsimp only at p0 p1 bb
  show Ok (eS c row p) _
  unfold eS
  refine od (fun hp=>?_) fun hp=>os ⟨rfl,?_⟩
  ·have hw:=w1 p0 hp (by omega)
   refine fw (by omega) (by omega) (os ⟨⟨⟨?_,?_⟩,?_⟩,?_⟩) <;> dsimp only <;> rw [hw] <;> (try simp only [List.length_append,List.length_singleton]) <;> omega
  ·refine ol (fun z:List Int×Int=>(0≤z.2∧z.2≤d.aB.length)∧(z.1.length:Int)=c.aB.length+z.2) (fun z=>(d.aB.length - z.2).toNat) ⟨⟨by show (0:Int)≤0; omega,by show (0:Int)≤_; omega⟩,by show (row.length:Int)=_+0; omega⟩ ?_
   rintro ⟨row,q⟩ ⟨⟨q0,q1⟩,bb⟩
   dsimp only at q0 q1 bb
   show Ok (eU c d m row q) _
   unfold eU
   refine od (fun hq=>?_) fun hq=>os ⟨rfl,?_⟩
   ·have hw:=w1 q0 hq (by omega)
    refine oi m0 (by omega) fun e he=>?_
    have:=d6 e he
    refine oi q0 (by omega) fun e' _=>od (fun _=>fw (by omega) (by omega) (os ⟨⟨⟨?_,?_⟩,?_⟩,?_⟩)) fun _=>fw (by omega) (by omega) (os ⟨⟨⟨?_,?_⟩,?_⟩,?_⟩) <;> dsimp only <;> rw [hw] <;> (try simp only [List.length_append,List.length_singleton]) <;> omega
   ·refine fw (by omega) (by omega) (os ⟨⟨⟨?_,?_⟩,?_,?_,?_,jw nb (by omega)⟩,?_⟩) <;> dsimp only <;> rw [hw] <;> (try simp only [List.length_append,List.length_singleton]) <;> omega
 ·have hw:ai (c.aA+d.aA)=c.aA+d.aA:=bX (by omega) (by omega)
  refine ⟨⟨?_,?_,?_,?_,?_,?_,fun y hy=>?_⟩,hw⟩ <;> dsimp only
  ·rw [hw]; omega
  ·rw [hw]; omega
  ·omega
  ·omega
  ·rw [hw]; omega
  ·omega
  ·have:=nb y hy; omega
end Go.Proofs.YtcnehblmgfbfoaaGreat
namespace Go.Proofs.YtcnehblmgfbfoaaGreat
open Go Go.Li
theorem TR {c d:aD} (C:jb 1 4 c) (D:jb 1 4 d):Ok (fF c d) (jb 2 12):=by
 unfold fF
 refine km (ob (Pc C D (by omega) (by omega)) fun e he=>?_)
 obtain ⟨⟨e0,e1,e2,e3,e4,e5,e6⟩,_⟩:=he
 obtain ⟨c0,c1,-⟩:=C
 obtain ⟨d0,d1,-⟩:=D
 refine ol (fun z:Int×List Int×List Int=>(0≤z.1∧z.1≤c.aA)∧z.2.2.length=z.2.1.length∧(e.aB.length≤z.2.1.length∧(z.2.1.length:Int)≤8+4 * z.1)) (fun z=>(c.aA - z.1).toNat) ⟨⟨by show (0:Int)≤0; omega,c0⟩,e3,Nat.le_refl _,by show (e.aB.length:Int)≤8+4 * 0; omega⟩ ?_
 rintro ⟨i,f,t⟩ ⟨⟨i0,i1⟩,ht,hm,hf⟩
 dsimp only at i0 i1 ht hm hf
 show Ok (dX c d i f t) _
 unfold dX
 refine od (fun hi=>?_) fun hi=>os ⟨rfl,?_⟩
 ·refine ol (fun z:Int×List Int×List Int=>(0≤z.1∧z.1≤d.aA)∧z.2.2.length=z.2.1.length∧(e.aB.length≤z.2.1.length∧(z.2.1.length:Int)≤8+4 * i+z.1)) (fun z=>(d.aA - z.1).toNat) ⟨⟨by show (0:Int)≤0; omega,d0⟩,ht,hm,by show (f.length:Int)≤8+4 * i+0; omega⟩ ?_
  rintro ⟨j,f,t⟩ ⟨⟨j0,j1⟩,ht,hm,hf⟩
  dsimp only at j0 j1 ht hm hf
  show Ok (dW c d i j f t) _
  unfold dW
  refine od (fun hj=>?_) fun hj=>os ⟨rfl,?_⟩
  ·have hw:=w1 j0 hj (by omega)
   refine fw (by omega) (by omega) (fw (by omega) (by omega) (os ⟨⟨⟨?_,?_⟩,?_,?_,?_⟩,?_⟩)) <;> dsimp only <;> (try rw [hw]) <;> (try simp only [List.length_append,List.length_singleton]) <;> omega
  ·have hw:=w1 i0 hi (by omega)
   refine os ⟨⟨⟨?_,?_⟩,ht,hm,?_⟩,?_⟩ <;> dsimp only <;> rw [hw] <;> omega
 ·refine ol (fun z:List (List Int)×Int=>(0≤z.2∧z.2≤f.length)∧(z.1.length:Int)=z.2∧∀ y∈z.1,y.length=f.length) (fun z=>(f.length - z.2).toNat) ⟨⟨by show (0:Int)≤0; omega,by show (0:Int)≤_; omega⟩,rfl,jv⟩ ?_
  rintro ⟨k,b⟩ ⟨⟨b0,b1⟩,hk,nb⟩
  dsimp only at b0 b1 hk nb
  show Ok (dZ c d e f t k b) _
  unfold dZ
  refine od (fun hb=>?_) fun hb=>os ⟨rfl,os ⟨e0,e1,?_,ht,e4,?_,nb⟩⟩
  ·refine ol (fun z:List Int×Int=>(0≤z.2∧z.2≤f.length)∧(z.1.length:Int)=z.2) (fun z=>(f.length - z.2).toNat) ⟨⟨by show (0:Int)≤0; omega,by show (0:Int)≤_; omega⟩,rfl⟩ ?_
   rintro ⟨row,g⟩ ⟨⟨g0,g1⟩,bb⟩
   dsimp only at g0 g1 bb
   show Ok (dY c d e f t b row g) _
   unfold dY
   refine od (fun hg=>?_) fun hg=>os ⟨rfl,?_⟩
   ·have hw:=w1 g0 hg (by omega)
    refine oi b0 (by omega) fun _ _=>oi g0 (by omega) fun _ _=>oc (fun _=>?_) fun _=>ob (P:=fun x=>x=true→b < e.aB.length∧g < e.aB.length) (od (fun h1=>os fun h=>⟨h1,of_decide_eq_true h⟩) fun _=>os fun h=>by cases h) fun x hx=>oc (fun wK=>?_) fun _=>oi b0 (by omega) fun _ _=>oi g0 (by omega) fun _ _=>?_
    ·refine fw (by omega) (by omega) (os ⟨⟨⟨?_,?_⟩,?_⟩,?_⟩) <;> dsimp only <;> rw [hw] <;> (try simp only [List.length_append,List.length_singleton]) <;> omega
    ·obtain ⟨h1,h2⟩:=hx wK
     refine oi b0 (by omega) fun y hy=>?_
     have:=e6 y hy
     refine oi g0 (by omega) fun _ _=>fw (by omega) (by omega) (os ⟨⟨⟨?_,?_⟩,?_⟩,?_⟩) <;> dsimp only <;> rw [hw] <;> (try simp only [List.length_append,List.length_singleton]) <;> omega
    ·refine fw (by omega) (by omega) (os ⟨⟨⟨?_,?_⟩,?_⟩,?_⟩) <;> dsimp only <;> rw [hw] <;> (try simp only [List.length_append,List.length_singleton]) <;> omega
   ·have hw:=w1 b0 hb (by omega)
    refine fw (by omega) (by omega) (os ⟨⟨⟨?_,?_⟩,?_,jw nb (by omega)⟩,?_⟩) <;> dsimp only <;> rw [hw] <;> (try simp only [List.length_append,List.length_singleton]) <;> omega
  all_goals (try dsimp only)
  all_goals omega
theorem Lo {i n a b:Int} (i0:0≤i) (i1:i≤a) (n0:0≤n) (n1:n≤b):0≤i * n∧i * n≤a * b:=
 ⟨Int.mul_nonneg i0 n0,Int.mul_le_mul i1 n1 n0 (by omega)⟩
theorem BA (i n:Int):(i+1) * n=i * n+n:=by rw [Int.add_mul,Int.one_mul]
theorem Db {i n a:Int} (h1 : ¬ i < a) (h2:i≤a):i * n=a * n:=by rw [show i=a by omega]
theorem Lp {c d:aD} (C:jb 8 40 c) (D:jb 4 20 d):Ok (cS c d) (jb 32 800):=by
 obtain ⟨c0,c1,c2,c3,c4,c5,c6⟩:=C
 obtain ⟨d0,d1,d2,d3,d4,d5,d6⟩:=D
 have bO:∀ {i:Int},0≤i→i≤c.aA→0≤i * d.aA∧i * d.aA≤8 * 4:=fun h0 h1=>Lo h0 (by omega) d0 (by omega)
 have bM:∀ {i:Int},0≤i→i≤c.aB.length→0≤i * (d.aB.length:Int)∧i * (d.aB.length:Int)≤40 * 20:=fun h0 h1=>Lo h0 (by omega) (by omega) (by omega)
 unfold cS
 refine km (ol (fun z:Int×List Int=>(0≤z.1∧z.1≤c.aA)∧(z.2.length:Int)=z.1 * d.aA) (fun z=>(c.aA - z.1).toNat) ⟨⟨by show (0:Int)≤0; omega,c0⟩,by show (0:Int)=0 * d.aA; rw [Int.zero_mul]⟩ ?_)
 rintro ⟨i,id⟩ ⟨⟨i0,i1⟩,uz⟩
 dsimp only at i0 i1 uz
 show Ok (cV c d i id) _
 unfold cV
 have hbi:=bO i0 i1
 refine od (fun hi=>?_) fun hi=>os ⟨rfl,?_⟩
 ·refine ol (fun z:Int×List Int=>(0≤z.1∧z.1≤d.aA)∧(z.2.length:Int)=i * d.aA+z.1) (fun z=>(d.aA - z.1).toNat) ⟨⟨by show (0:Int)≤0; omega,d0⟩,by show (id.length:Int)=i * d.aA+0; omega⟩ ?_
  rintro ⟨j,id⟩ ⟨⟨j0,j1⟩,uz⟩
  dsimp only at j0 j1 uz
  show Ok (cU c d i j id) _
  unfold cU
  refine od (fun hj=>?_) fun hj=>os ⟨rfl,?_⟩
  ·have hw:=w1 j0 hj (by omega)
   refine oi i0 (by omega) fun _ _=>oi j0 (by omega) fun _ _=>fw (by omega) (by omega) (os ⟨⟨⟨?_,?_⟩,?_⟩,?_⟩) <;> dsimp only <;> rw [hw] <;> (try simp only [List.length_append,List.length_singleton]) <;> omega
  ·have hw:=w1 i0 hi (by omega)
   have hn:=BA i d.aA
   refine os ⟨⟨⟨?_,?_⟩,?_⟩,?_⟩ <;> dsimp only <;> rw [hw] <;> omega
 have hO:=Db (n:=d.aA) hi i1
 refine ol (fun z:Int×List Int×List Int×List (List Int)=>(0≤z.1∧z.1≤c.aB.length)∧(z.2.1.length:Int)=z.1 * (d.aB.length:Int)∧z.2.2.1.length=z.2.1.length∧z.2.2.2.length=z.2.1.length∧∀ y∈z.2.2.2,(y.length:Int)=(c.aB.length:Int) * (d.aB.length:Int)) (fun z=>(c.aB.length - z.1).toNat)
  ⟨⟨by show (0:Int)≤0; omega,by show (0:Int)≤_; omega⟩,by show (0:Int)=0 * (d.aB.length:Int); rw [Int.zero_mul],rfl,rfl,jv⟩ ?_
 rintro ⟨a,f,t,k⟩ ⟨⟨a0,a1⟩,hf,ht,hk,nb⟩
 dsimp only at a0 a1 hf ht hk nb
 show Ok (cZ c d a f t k) _
 unfold cZ
 have hba:=bM a0 a1
 have hbc:=bM (i:=(c.aB.length:Int)) (by omega) (by omega)
 refine od (fun ha=>?_) fun ha=>os ⟨rfl,os ?_⟩
 ·refine ol (fun z:Int×List Int×List Int×List (List Int)=>(0≤z.1∧z.1≤d.aB.length)∧(z.2.1.length:Int)=a * (d.aB.length:Int)+z.1∧z.2.2.1.length=z.2.1.length∧z.2.2.2.length=z.2.1.length∧∀ y∈z.2.2.2,(y.length:Int)=(c.aB.length:Int) * (d.aB.length:Int)) (fun z=>(d.aB.length - z.1).toNat)
   ⟨⟨by show (0:Int)≤0; omega,by show (0:Int)≤_; omega⟩,by show (f.length:Int)=a * (d.aB.length:Int)+0; omega,ht,hk,nb⟩ ?_
  rintro ⟨b,f,t,k⟩ ⟨⟨b0,b1⟩,hf,ht,hk,nb⟩
  dsimp only at b0 b1 hf ht hk nb
  show Ok (cY c d a b f t k) _
  unfold cY
  refine od (fun hb=>?_) fun hb=>os ⟨rfl,?_⟩
  ·refine oi a0 (by omega) fun _ _=>oi b0 (by omega) fun _ _=>fw (by omega) (by omega) (oi a0 (by omega) fun _ _=>oi b0 (by omega) fun _ _=>fw (by omega) (by omega) ?_)
   refine ol (fun z:List Int×Int=>(0≤z.2∧z.2≤c.aB.length)∧(z.1.length:Int)=z.2 * (d.aB.length:Int)) (fun z=>(c.aB.length - z.2).toNat) ⟨⟨by show (0:Int)≤0; omega,by show (0:Int)≤_; omega⟩,by show (0:Int)=0 * (d.aB.length:Int); rw [Int.zero_mul]⟩ ?_
   rintro ⟨row,p⟩ ⟨⟨p0,p1⟩,bb⟩
   dsimp only at p0 p1 bb
   show Ok (cX c d a b row p) _
   unfold cX
   have hbp:=bM p0 p1
   refine od (fun hp=>?_) fun hp=>os ⟨rfl,?_⟩
   ·refine ol (fun z:List Int×Int=>(0≤z.2∧z.2≤d.aB.length)∧(z.1.length:Int)=p * (d.aB.length:Int)+z.2) (fun z=>(d.aB.length - z.2).toNat) ⟨⟨by show (0:Int)≤0; omega,by show (0:Int)≤_; omega⟩,by show (row.length:Int)=p * (d.aB.length:Int)+0; omega⟩ ?_
    rintro ⟨row,q⟩ ⟨⟨q0,q1⟩,bb⟩
    dsimp only at q0 q1 bb
    show Ok (cW c d a b p row q) _
    unfold cW
    refine od (fun hq=>?_) fun hq=>os ⟨rfl,?_⟩
    ·have hw:=w1 q0 hq (by omega)
     refine ob (P:=fun _=>True) (oi a0 (by omega) fun y hy=>?_) fun g _=>oc (fun _=>oi a0 (by omega) fun y hy=>?_) fun _=>?_
     ·have:=c6 y hy
      refine oi p0 (by omega) fun _ _=>od (fun _=>oi b0 (by omega) fun y' ru=>?_) fun _=>os trivial
      have:=d6 y' ru
      exact oi q0 (by omega) fun _ _=>os trivial
     ·have:=c6 y hy
      refine oi p0 (by omega) fun _ _=>oi b0 (by omega) fun y' ru=>?_
      have:=d6 y' ru
      refine oi q0 (by omega) fun _ _=>fw (by omega) (by omega) (os ⟨⟨⟨?_,?_⟩,?_⟩,?_⟩) <;> dsimp only <;> rw [hw] <;> (try simp only [List.length_append,List.length_singleton]) <;> omega
     ·refine fw (by omega) (by omega) (os ⟨⟨⟨?_,?_⟩,?_⟩,?_⟩) <;> dsimp only <;> rw [hw] <;> (try simp only [List.length_append,List.length_singleton]) <;> omega
    ·have hw:=w1 p0 hp (by omega)
     have hn:=BA p (d.aB.length:Int)
     refine os ⟨⟨⟨?_,?_⟩,?_⟩,?_⟩ <;> dsimp only <;> rw [hw] <;> omega
   ·have hw:=w1 b0 hb (by omega)
    have hP:=Db (n:=(d.aB.length:Int)) hp p1
    refine fw (by omega) (by omega) (os ⟨⟨⟨?_,?_⟩,?_,?_,?_,jw nb (by omega)⟩,?_⟩) <;> dsimp only <;> (try rw [hw]) <;> (try simp only [List.length_append,List.length_singleton]) <;> omega
  ·have hw:=w1 a0 ha (by omega)
   have hn:=BA a (d.aB.length:Int)
   refine os ⟨⟨⟨?_,?_⟩,?_,ht,hk,nb⟩,?_⟩ <;> dsimp only <;> rw [hw] <;> omega
 ·have hA:=Db (n:=(d.aB.length:Int)) ha a1
  have hbo:=bO c0 (Int.le_refl _)
  have hw:ai (c.aA * d.aA)=c.aA * d.aA:=bX (by omega) (by omega)
  refine ⟨?_,?_,?_,ht,?_,hk,fun y hy=>?_⟩ <;> dsimp only
  ·rw [hw]; omega
  ·rw [hw]; omega
  ·omega
  ·rw [hw]; omega
  ·have:=nb y hy; omega
end Go.Proofs.YtcnehblmgfbfoaaGreat
namespace Go.Proofs.YtcnehblmgfbfoaaGreat
open Go Go.Li
structure Dag (n:Int) (f t:List Int):Prop where
 len:t.length=f.length
 O5:f.length≤3
 up:∀ (k:Nat) u v,f[k]? = some u→t[k]? = some v→0≤u∧u < v∧v < n
def wt (v:Int):Nat:=if v=0 then 13 else if v=1 then 4 else 1
def sq (l:List bA):Nat:=(l.map fun p=>wt p.To).sum
def cap (v:Int) (e:Nat):Nat:=if v=0 then 4 * e else if v=1 then e else 0
theorem HZ (l:List bA) (p:bA):sq (l++[p])=sq l+wt p.To:=by simp [sq]
theorem TS (v:Int):1≤wt v:=by unfold wt; split <;> (try split) <;> omega
theorem H0 (l:List bA):l.length≤sq l:=by
 induction l with
 | nil=>exact Nat.le_refl _
 | cons p l ih=>
  have:=TS p.To
  have e:sq (p :: l)=wt p.To+sq l:=by simp [sq]
  rw [e,List.length_cons]; omega
theorem NN {l:List bA} {k:Nat} {p:bA} (h:l[k]? = some p):sq (l.drop k)=wt p.To+sq (l.drop (k+1)):=by
 have hk:=bg h
 rw [List.getElem?_eq_getElem hk] at h
 rw [List.drop_eq_getElem_cons hk,Option.some.inj h]
 simp [sq]
structure sX (n:Int) (m:Nat) (p:bA):Prop where
 f0:0≤p.aB
 f1:p.aB < n
 t0:0≤p.To
 t1:p.To < n
 e:p.ko.length≤m
theorem NO {p q:bA} (h:p.ko.length≤1048576):Ok (fV p q) fun _=>True:=by
 unfold fV
 exact km (oc (fun _=>os trivial) fun _=>oc (fun _=>os trivial) fun _=>oe (NH _ _ (by omega)) (os trivial))
theorem TU {a b:List Int} (h:a.length≤1048576):Ok (cT a b) fun _=>True:=by
 unfold cT
 refine km (oc (fun _=>os trivial) fun hl=>?_)
 have hl:(a.length:Int)=b.length:=by simpa using hl
 refine ol (fun i:Int=>0≤i∧i≤a.length) (fun i=>(a.length - i).toNat) ⟨by omega,by omega⟩ fun i hi=>?_
 unfold jD
 refine od (fun h1=>oi hi.1 h1 fun _ _=>oi hi.1 (by omega) fun _ _=>oc (fun _=>os trivial) fun _=>os ⟨⟨?_,?_⟩,?_⟩) fun _=>os ⟨rfl,os trivial⟩
 all_goals (try dsimp only)
 all_goals rw [w1 hi.1 h1 (by omega)]
 all_goals omega
section
variable {n:Int} {f t:List Int} (D:Dag n f t) (n0:0≤n) (n3:n≤3)
include D n0 n3
theorem TV {l0:List bA} {k:Nat} {p0:bA} (hp:l0[k]? = some p0) (hl:∀ (i:Nat) p,l0[i]? = some p→sX n i p) (hw:k+sq (l0.drop k)≤18) {Q:Out (List bA×Int) (List bA)→Prop} {g:List bA×Int→Option (Out (List bA×Int) (List bA))}
  (hg:∀ l e,(∀ (i:Nat) p,l[i]? = some p→sX n i p)→k+1+sq (l.drop (k+1))≤18→Ok (g (l,e)) Q):Ok (ah (ab 4 (aj (fun s=>fW f t k s.1 s.2) (l0,(0:Int)))) g) Q:=by
 have hP:=hl k p0 hp
 have hk:=bg hp
 have hd:=NN hp
 have f3:=D.O5
 refine ol (fun z:List bA×Int=>((0≤z.2∧z.2≤f.length)∧z.1[k]? = some p0)∧(∀ (i:Nat) p,z.1[i]? = some p→sX n i p)∧k+wt p0.To+sq (z.1.drop (k+1))≤18+cap p0.To z.2.toNat) (fun z=>(f.length - z.2).toNat)
  ⟨⟨⟨by show (0:Int)≤0; omega,by show (0:Int)≤_; omega⟩,hp⟩,hl,by show k+wt p0.To+sq (l0.drop (k+1))≤_; omega⟩ ?_
 rintro ⟨l,e⟩ ⟨⟨⟨e0,e1⟩,Lq⟩,hl,hs⟩
 dsimp only at e0 e1 Lq hl hs
 have BQ:=bg Lq
 have hlen:l.length≤1000:=by
  have h1:=H0 (l.drop (k+1))
  rw [List.length_drop] at h1
  have:cap p0.To e.toNat≤12:=by unfold cap; split <;> (try split) <;> omega
  omega
 show Ok (fW f t k l e) _
 unfold fW
 refine od (fun he=>?_) fun he=>os ⟨rfl,hg l e hl ?_⟩
 ·have hw:=w1 e0 he (by omega)
  have hu:f[e.toNat]? = some (f[e.toNat]'(by omega)):=List.getElem?_eq_getElem _
  have hv:t[e.toNat]? = some (t[e.toNat]'(by have:=D.len; omega)):=List.getElem?_eq_getElem _
  have up:=D.up _ _ _ hu hv
  have eu:idx f e=some (f[e.toNat]'(by omega)):=by rw [Gh e0]; exact hu
  have ev:idx t e=some (t[e.toNat]'(by have:=D.len; omega)):=by rw [Gh e0]; exact hv
  have ek:idx l (k:Int)=some p0:=by rw [bw]; exact Lq
  generalize f[e.toNat]'(by omega)=u at *
  generalize t[e.toNat]'(by have:=D.len; omega)=v at *
  refine oe eu (oe ek (oc (fun h=>?_) fun h=>os ⟨⟨⟨⟨?_,?_⟩,Lq⟩,hl,?_⟩,?_⟩))
  ·have h:u=p0.To:=by simpa using h
   have hpe:=hP.e
   refine oe ek (oe ev (oe ek (oe (jc _ (by omega)) (fw (by omega) (by omega) (fw (by omega) (by omega) (os ⟨⟨⟨⟨?_,?_⟩,?_⟩,?_,?_⟩,?_⟩))))))
   ·dsimp only; rw [hw]; omega
   ·dsimp only; rw [hw]; omega
   ·dsimp only; rw [List.getElem?_append_left BQ]; exact Lq
   ·intro i p hi
    dsimp only at hi
    by_cases qL:i < l.length
    ·rw [List.getElem?_append_left qL] at hi; exact hl i p hi
    ·rw [List.getElem?_append_right (by omega)] at hi
     have tM:i - l.length=0:=by
      have:=bg hi
      rw [List.length_singleton] at this; omega
     rw [tM] at hi
     have hi:=Option.some.inj hi
     rw [← hi]
     refine ⟨hP.f0,hP.f1,?_,?_,?_⟩ <;> dsimp only
     ·omega
     ·omega
     ·rw [List.length_append,List.length_singleton]; omega
   ·dsimp only
    rw [hw,List.drop_append_of_le_length (by omega),HZ]
    have e2:(e+1).toNat=e.toNat+1:=by omega
    rw [e2]
    have h1:0≤p0.To:=hP.t0
    have hc:wt v+cap p0.To e.toNat≤cap p0.To (e.toNat+1):=by
     unfold cap wt
     by_cases z0:p0.To=0
     ·rw [if_pos z0,if_pos z0]
      rw [if_neg (by omega)]
      split <;> omega
     ·by_cases z1:p0.To=1
      ·rw [if_neg z0,if_neg z0,if_pos z1,if_pos z1,if_neg (by omega),if_neg (by omega)]; omega
      ·omega
    show k+wt p0.To+(sq (l.drop (k+1))+wt v)≤_
    omega
   ·dsimp only; rw [hw]; omega
  ·dsimp only; rw [hw]; omega
  ·dsimp only; rw [hw]; omega
  ·dsimp only; rw [hw]
   have e2:(e+1).toNat=e.toNat+1:=by omega
   rw [e2]
   have:cap p0.To e.toNat≤cap p0.To (e.toNat+1):=by unfold cap; split <;> (try split) <;> omega
   omega
  ·dsimp only; rw [hw]; omega
 ·have:cap p0.To e.toNat+1≤wt p0.To:=by
   have hm:e.toNat≤3:=by omega
   unfold cap wt
   split
   ·omega
   ·split <;> omega
  omega
theorem TW:Ok (iY n f t) fun l=>l.length≤18∧∀ p∈l,sX n 18 p:=by
 unfold iY
 refine km (ol (fun z:List bA×Int=>(0≤z.2∧z.2≤n)∧(z.1.length:Int)=z.2∧(∀ (i:Nat) p,z.1[i]? = some p→sX n i p)∧sq z.1≤(if z.2=0 then 0 else if z.2=1 then 13 else if z.2=2 then 17 else 18)) (fun z=>(n - z.2).toNat)
  ⟨⟨by show (0:Int)≤0; omega,n0⟩,rfl,(fun i p h=>by simp at h),Nat.le_refl _⟩ ?_)
 rintro ⟨l,x⟩ ⟨⟨x0,x1⟩,hl,hp,hw⟩
 dsimp only at x0 x1 hl hp hw
 show Ok (iF n l x) _
 unfold iF
 refine od (fun hx=>?_) fun hx=>os ⟨rfl,?_⟩
 ·have zk:=w1 x0 hx (by omega)
  refine fw (by omega) (by omega) (os ⟨⟨⟨?_,?_⟩,?_,?_,?_⟩,?_⟩)
  ·dsimp only; rw [zk]; omega
  ·dsimp only; rw [zk]; omega
  ·dsimp only; rw [zk,List.length_append,List.length_singleton]; omega
  ·intro i p hi
   dsimp only at hi
   by_cases qL:i < l.length
   ·rw [List.getElem?_append_left qL] at hi; exact hp i p hi
   ·rw [List.getElem?_append_right (by omega)] at hi
    have tM:i - l.length=0:=by
     have:=bg hi
     rw [List.length_singleton] at this; omega
    rw [tM] at hi
    rw [← Option.some.inj hi]
    exact ⟨x0,hx,x0,hx,Nat.zero_le _⟩
  ·dsimp only
   rw [zk,HZ]
   show sq l+wt x≤_
   unfold wt
   by_cases h0:x=0
   ·subst h0; simp at hw ⊢; omega
   ·by_cases h1:x=1
    ·subst h1; simp at hw ⊢; omega
    ·obtain rfl:x=2:=by omega
     simp at hw ⊢; omega
  ·dsimp only; rw [zk]; omega
 ·have hw0:sq l≤18:=by
   refine Nat.le_trans hw ?_
   split
   ·omega
   ·split
    ·omega
    ·split <;> omega
  refine ol (fun z:List bA×Int=>0≤z.2∧(∀ (i:Nat) p,z.1[i]? = some p→sX n i p)∧z.2.toNat+sq (z.1.drop z.2.toNat)≤18) (fun z=>(19 - z.2).toNat) ⟨by show (0:Int)≤0; omega,hp,by show 0+sq (l.drop 0)≤18; rw [List.drop_zero]; omega⟩ ?_
  rintro ⟨l,k⟩ ⟨k0,hp,hw⟩
  dsimp only at k0 hp hw
  obtain ⟨k,rfl⟩ : ∃ m:Nat,k=m:=⟨k.toNat,by omega⟩
  rw [Int.toNat_natCast] at hw
  have hll:l.length≤18:=by
   have:=H0 (l.drop k)
   rw [List.length_drop] at this; omega
  show Ok (iG f t l k) _
  unfold iG
  refine ob (P:=fun b=>b=true→(k:Int) < l.length) (od (fun h=>os fun _=>h) fun _=>os fun h=>by cases h) fun b hb=>oc (fun bz=>?_) fun _=>os ⟨rfl,?_⟩
  ·have BQ:=hb bz
   have hg:l[k]? = some (l[k]'(by omega)):=List.getElem?_eq_getElem _
   refine TV D n0 n3 hg hp hw fun l' e wi zk=>os ⟨⟨?_,wi,?_⟩,?_⟩
   ·dsimp only; rw [bD (by omega)]; omega
   ·dsimp only; rw [bD (by omega),Int.toNat_natCast]; exact zk
   ·dsimp only; rw [bD (by omega)]; omega
  ·have dp:∀ p∈l,sX n 18 p:=fun p h=>by
    obtain ⟨i,hi⟩:=List.getElem?_of_mem h
    have:=hp i p hi
    have r3:=bg hi
    exact ⟨this.f0,this.f1,this.t0,this.t1,by have:=this.e; omega⟩
   refine ol (fun z:List bA×Int=>1≤z.2∧z.1.length≤18∧∀ p∈z.1,sX n 18 p) (fun z=>(19 - z.2).toNat) ⟨by show (1:Int)≤1; omega,hll,dp⟩ ?_
   rintro ⟨l,i⟩ ⟨i0,hl,hp⟩
   dsimp only at i0 hl hp
   show Ok (iJ l i) _
   unfold iJ
   refine od (fun hi=>?_) fun _=>os ⟨rfl,os ⟨hl,hp⟩⟩
   refine ol (fun z:List bA×Int=>(0≤z.2∧z.2 < z.1.length)∧z.1.length≤18∧∀ p∈z.1,sX n 18 p) (fun z=>z.2.toNat) ⟨⟨by show 0≤i; omega,hi⟩,hl,hp⟩ ?_
   rintro ⟨l,j⟩ ⟨⟨j0,j1⟩,hl,hp⟩
   dsimp only at j0 j1 hl hp
   show Ok (iI l j) _
   unfold iI
   refine ob (P:=fun b=>b=true→0 < j) (od (fun h=>?_) fun _=>os fun h=>by cases h) fun b hb=>oc (fun bz=>?_) fun _=>os ⟨rfl,os ⟨⟨?_,hl,hp⟩,?_⟩⟩
   ·rw [bX (a:=j - 1) (by omega) (by omega)]
    refine oi j0 j1 fun p qz=>oi (by omega) (by omega) fun q _=>?_
    have:=(hp p qz).e
    exact ob (NO (by omega)) fun _ _=>os fun _=>h
   ·have h:=hb bz
    rw [bX (a:=j - 1) (by omega) (by omega)]
    refine oi j0 j1 fun p qz=>oi (by omega) (by omega) fun q hq=>oi j0 j1 fun _ _=>oi (by omega) (by rw [List.length_set]; omega) fun _ _=>os ⟨⟨⟨?_,?_⟩,?_,xC (xC hp (hp q hq)) (hp p qz)⟩,?_⟩ <;> dsimp only <;> (try rw [List.length_set,List.length_set]) <;> omega
   ·dsimp only; rw [bX (by omega) (by omega)]; omega
   ·dsimp only; rw [bX (by omega) (by omega)]; omega
theorem Dc:Ok (dD n f t) (jb 3 18):=by
 unfold dD
 refine km (ob (TW D n0 n3) fun l hl=>?_)
 obtain ⟨hl,hp⟩:=hl
 refine Pa n0 (by omega) (by omega) ?_
 refine ol (fun z:Int×List Int×List Int×List Int=>(0≤z.1∧z.1≤l.length)∧(z.2.1.length:Int)=z.1∧(z.2.2.1.length:Int)=z.1∧(z.2.2.2.length:Int)=n) (fun z=>(l.length - z.1).toNat) ⟨⟨by show (0:Int)≤0; omega,by show (0:Int)≤_; omega⟩,rfl,rfl,by show ((List.replicate _ _).length:Int)=n; rw [List.length_replicate]; omega⟩ ?_
 rintro ⟨i,a,b,id⟩ ⟨⟨i0,i1⟩,ha,hb,uz⟩
 dsimp only at i0 i1 ha hb uz
 show Ok (gA l i a b id) _
 unfold gA
 refine od (fun hi=>?_) fun hi=>os ⟨rfl,?_⟩
 ·have hw:=w1 i0 hi (by omega)
  refine oi i0 hi fun _ _=>fw (by omega) (by omega) (oi i0 hi fun _ _=>fw (by omega) (by omega) (oi i0 hi fun _ _=>oc (fun _=>oi i0 hi fun p qz=>?_) fun _=>os ⟨⟨⟨?_,?_⟩,?_,?_,uz⟩,?_⟩))
  ·have h:=hp p qz
   refine oi h.f0 (by have:=h.f1; omega) fun _ _=>os ⟨⟨⟨?_,?_⟩,?_,?_,?_⟩,?_⟩ <;> dsimp only <;> (try rw [hw]) <;> (try simp only [List.length_append,List.length_singleton,List.length_set]) <;> omega
  all_goals (try dsimp only)
  all_goals (try rw [hw])
  all_goals (try simp only [List.length_append,List.length_singleton])
  all_goals omega
 ·have fits:Ok (cI (aD.mk n a b id [])) fun y=>y=true:=by
   unfold cI
   refine km (ob (P:=fun y=>y=true) (od (fun _=>os (decide_eq_true (by show (a.length:Int)≤40; omega))) fun h=>absurd (show n≤8 by omega) h) fun y hy=>os hy)
  refine ob fits fun y hy=>?_
  subst hy
  show Ok (ah (ab 2 (aj (fun s=>eN l s.1 s.2) ((0:Int),([]:(List (List Int)))))) _) _
  refine ol (fun z:Int×List (List Int)=>(0≤z.1∧z.1≤l.length)∧(z.2.length:Int)=z.1∧∀ y∈z.2,y.length=a.length) (fun z=>(l.length - z.1).toNat) ⟨⟨by show (0:Int)≤0; omega,by show (0:Int)≤_; omega⟩,rfl,jv⟩ ?_
  rintro ⟨j,k⟩ ⟨⟨j0,j1⟩,hk,nb⟩
  dsimp only at j0 j1 hk nb
  show Ok (eN l j k) _
  unfold eN
  refine od (fun hj=>?_) fun hj=>os ⟨rfl,os ⟨n0,?_,?_,?_,uz,?_,nb⟩⟩
  ·refine ol (fun z:List Int×Int=>(0≤z.2∧z.2≤l.length)∧(z.1.length:Int)=z.2) (fun z=>(l.length - z.2).toNat) ⟨⟨by show (0:Int)≤0; omega,by show (0:Int)≤_; omega⟩,rfl⟩ ?_
   rintro ⟨row,g⟩ ⟨⟨g0,g1⟩,bb⟩
   dsimp only at g0 g1 bb
   show Ok (gC l j row g) _
   unfold gC
   refine od (fun hg=>?_) fun hg=>os ⟨rfl,?_⟩
   ·have hw:=w1 g0 hg (by omega)
    refine oi j0 hj fun _ _=>oi g0 hg fun _ _=>oc (fun _=>oi j0 hj fun p qz=>?_) fun _=>?_
    ·have h1:=(hp p qz).e
     refine oe (jc _ (by omega)) (oi g0 hg fun q hq=>?_)
     have h2:=(hp q hq).e
     refine fw (by omega) (by omega) ?_
     refine ol (fun z:Int×Int=>0≤z.2∧z.2≤l.length) (fun z=>(l.length - z.2).toNat) ⟨by show (0:Int)≤0; omega,by show (0:Int)≤_; omega⟩ ?_
     rintro ⟨c,h⟩ ⟨c0,c1⟩
     dsimp only at c0 c1
     show Ok (gB l j p.ko q c h) _
     unfold gB
     refine od (fun hh=>?_) fun hh=>os ⟨rfl,?_⟩
     ·have hw:=w1 c0 hh (by omega)
      refine ob (P:=fun _=>True) (oi c0 hh fun _ _=>oi j0 hj fun _ _=>oc (fun _=>oi c0 hh fun r hr=>?_) fun _=>os trivial) fun _ _=>oc (fun _=>os ⟨⟨?_,?_⟩,?_⟩) fun _=>os ⟨⟨?_,?_⟩,?_⟩
      ·have:=(hp r hr).e
       exact ob (TU (by omega)) fun _ _=>os trivial
      all_goals (try dsimp only)
      all_goals rw [hw]
      all_goals omega
     ·refine fw (by omega) (by omega) (os ⟨⟨⟨?_,?_⟩,?_⟩,?_⟩) <;> dsimp only <;> rw [hw] <;> (try simp only [List.length_append,List.length_singleton]) <;> omega
    ·refine fw (by omega) (by omega) (os ⟨⟨⟨?_,?_⟩,?_⟩,?_⟩) <;> dsimp only <;> rw [hw] <;> (try simp only [List.length_append,List.length_singleton]) <;> omega
   ·have hw:=w1 j0 hj (by omega)
    refine fw (by omega) (by omega) (os ⟨⟨⟨?_,?_⟩,?_,jw nb (by omega)⟩,?_⟩) <;> dsimp only <;> rw [hw] <;> (try simp only [List.length_append,List.length_singleton]) <;> omega
  all_goals (try dsimp only)
  all_goals omega
end
end Go.Proofs.YtcnehblmgfbfoaaGreat
namespace Go.Proofs.YtcnehblmgfbfoaaGreat
open Go Go.Li
theorem sq1:Sq 1 [[(1:Int)]]:=⟨rfl,by simp⟩
section
variable {x:List Int} (B:vx x)
include B
theorem TX {s:aM} (S:Src x s) {c:aD} (C:jb 8 800 c):Ok (lU s c) fun y=>dv y.1∧Src x y.2:=by
 have hC:=C.small (by omega) (by omega)
 have hm:=C.m
 have hk:=C.k
 have ht:=C.t
 have hi:=C.i
 have o0:=C.o0
 have o8:=C.o
 unfold lU
 refine km (oe (vY hC) (ob (dw B S _) fun y hy=>ob (dw B (S.on hy.2) _) fun z hz=>?_))
 have T:=S.on (h:=z.2.av) hz.2
 have same:dv c∧Src x (aM.mk s.Code z.2.At z.2.av):=⟨hC,T⟩
 have cell:Ok (bif decide ((c.aB.length:Int) > (0:Int)) then ((idx c.aC (y.1))>>=fun e=>((bJ (aM.mk s.Code z.2.At z.2.av) ((c.aB.length:Int)))>>=fun u=>((bJ (aM.mk s.Code u.2.At u.2.av) (ai ((c.aB.length:Int)+(1:Int))))>>=fun v=>((idx e (u.1))>>=fun _=>(some (Out.ret (S:=Unit) ((aD.mk c.aA c.aB c.To c.aF (c.aC.set (y.1).toNat (e.set (u.1).toNat (ai (v.1 - (1:Int)))))),(aM.mk s.Code v.2.At v.2.av)))))))) else (some (Out.ret (c,(aM.mk s.Code z.2.At z.2.av))))) (Rt fun y=>dv y.1∧Src x y.2):=by
  refine od (fun h=>oi hy.1.1 (by have:=hy.1.2 (by omega); omega) fun e he=>ob (dw B T _) fun u hu=>ob (dw B (S.on hu.2) _) fun v hv=>?_) fun _=>os same
  have hr:=C.r e he
  refine oi hu.1.1 (by have:=hu.1.2 (by omega); omega) fun _ _=>os ⟨⟨hC.f,hC.t,hC.i,?_,xC hC.r ?_⟩,S.on hv.2⟩
  ·show (List.set _ _ _).length≤_; rw [List.length_set]; exact hC.k
  ·show (List.set _ _ _).length≤_; rw [List.length_set]; omega
 refine oc (fun _=>ob (TQ B T (l:=[ai (c.aA+(1:Int)),(-1:Int),(9:Int)]) (by simp)) fun p hp=>os ⟨⟨hC.f,hC.t,hC.i,hC.k,hC.r⟩,S.on hp.2⟩) fun _=>oc (fun _=>fw (by omega) (by omega) (os ⟨⟨?_,hC.t,hC.i,hC.k,hC.r⟩,T⟩)) fun _=>
  oc (fun _=>od (fun h=>ob (dw B T _) fun p hp=>oi (by omega) (by omega) fun _ _=>os ⟨⟨hC.f,hC.t,?_,hC.k,hC.r⟩,S.on hp.2⟩) fun _=>os same) fun _=>oc (fun _=>cell) fun _=>oc (fun _=>cell) fun _=>oc (fun _=>cell) fun _=>
  oc (fun _=>od (fun h=>ob (dw B T _) fun p hp=>oi hy.1.1 (by have:=hy.1.2 (by omega); omega) fun _ _=>os ⟨⟨hC.f,?_,hC.i,hC.k,hC.r⟩,S.on hp.2⟩) fun _=>os same) fun _=>od (fun h=>oi hy.1.1 (by have:=hy.1.2 (by omega); omega) fun e he=>?_) fun _=>os same
 ·show (c.aB++[(0:Int)]).length≤_; rw [List.length_append,List.length_singleton]; omega
 ·show (List.set _ _ _).length≤_; rw [List.length_set]; exact hC.i
 ·show (List.set _ _ _).length≤_; rw [List.length_set]; exact hC.t
 ·have hr:=C.r e he
  have etl:tl e (1:Int)=some (e.drop 1):=by
   unfold tl
   rw [au (by omega),cond_true]; rfl
  refine oe etl (oi hy.1.1 (by have:=hy.1.2 (by omega); omega) fun _ _=>os ⟨⟨hC.f,hC.t,hC.i,?_,xC hC.r ?_⟩,T⟩)
  ·show (List.set _ _ _).length≤_; rw [List.length_set]; exact hC.k
  ·rw [List.length_drop]; omega
end
end Go.Proofs.YtcnehblmgfbfoaaGreat
