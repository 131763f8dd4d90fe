/- That a model does not fail, and what it gives: rules. No condition beside those that each theorem names. -/
import Derived.Test.YtcnehblmgfbfoaaGreatPa
import Derived.Test.YtcnehblmgfbfoaaGreatPj
set_option linter.unusedVariables false
set_option linter.unusedSectionVars false
set_option linter.unusedSimpArgs false
namespace Go.Li
open Go
def Ok {α:Type} (m:Option α) (Q:α→Prop):Prop:=∃ x,m=some x∧Q x
section
variable {α β S S1 R:Type}
theorem Ok.mono {m:Option α} {P Q:α→Prop} (h:Ok m P) (hq:∀ x,P x→Q x):Ok m Q:=by
 obtain ⟨x,e,hx⟩:=h
 exact ⟨x,e,hq x hx⟩
theorem os {x:α} {Q:α→Prop} (h:Q x):Ok (some x) Q:=⟨x,rfl,h⟩
theorem ob {m:Option α} {f:α→Option β} {Q:β→Prop} {P:α→Prop} (hm:Ok m P) (h:∀ x,P x→Ok (f x) Q):Ok (m>>=f) Q:=by
 obtain ⟨x,rfl,hx⟩:=hm
 exact h x hx
theorem oe {m:Option α} {f:α→Option β} {Q:β→Prop} {x:α} (e:m=some x) (h:Ok (f x) Q):Ok (m>>=f) Q:=by
 subst e; exact h
theorem oi {l:List α} {j:Int} {f:α→Option β} {Q:β→Prop} (h0:0≤j) (h1:j < l.length) (h:∀ x∈l,Ok (f x) Q):Ok (idx l j>>=f) Q:=by
 rw [sU h0 h1]
 exact h _ (List.getElem_mem _)
theorem fj {b n:Nat} {f:Unit→Option β} {Q:β→Prop} (h1:n * b≤140737488355328) (h2:n≤9223372036854775807) (h:Ok (f ()) Q):Ok (fits b n>>=f) Q:=oe (dR h1 h2) h
theorem JS {b:Nat} {j:Int} {f:Nat→Option β} {Q:β→Prop} (h0:0≤j) (h1:b * j.toNat≤281474976710656) (h2:j≤9223372036854775807) (h:Ok (f j.toNat) Q):Ok (mk b j>>=f) Q:=by
 obtain ⟨n,rfl⟩ : ∃ n:Nat,j=n:=⟨j.toNat,by omega⟩
 exact oe (C5 (by simpa using h1) (by omega)) (by simpa using h)
theorem oc {b:Bool} {x y:Option α} {Q:α→Prop} (h1:b=true→Ok x Q) (h2:b=false→Ok y Q):Ok (bif b then x else y) Q:=by
 cases b with
 | true=>exact h1 rfl
 | false=>exact h2 rfl
theorem od {p:Prop} [Decidable p] {x y:Option α} {Q:α→Prop} (h1:p→Ok x Q) (h2 : ¬ p→Ok y Q):Ok (bif decide p then x else y) Q:=
 oc (fun h=>h1 (of_decide_eq_true h)) (fun h=>h2 (of_decide_eq_false h))
theorem og {m:Option Bool} {f:Bool→Option β} {Q:β→Prop} (hm:Ok m fun _=>True) (h:∀ b,Ok (f b) Q):Ok (m>>=f) Q:=ob hm fun b _=>h b
def Stp (k:Nat) (J:S1→Prop) (mu:S1→Nat) (n:Nat) (E:S1→Prop) (G:R→Prop):Out S1 R→Prop
 | .norm s=>J s∧mu s < n
 | .exit k' s=>k'=k∧E s
 | .ret r=>G r
def Rt (Q:R→Prop):Out S R→Prop
 | .ret r=>Q r
 | _=>False
theorem ly {m:Option (Out S R)} {Q:R→Prop} (h:Ok m (Rt Q)):Ok (ao m) Q:=by
 obtain ⟨o,rfl,ho⟩:=h
 cases o with
 | ret r=>exact ⟨r,rfl,ho⟩
 | _=>exact ho.elim
def Rn (Q:R→Prop):Out R R→Prop
 | .norm r=>Q r
 | .ret r=>Q r
 | _=>False
theorem off {m:Option (Out R R)} {Q:R→Prop} (h:Ok m (Rn Q)):Ok (Gh m) Q:=by
 obtain ⟨o,rfl,ho⟩:=h
 cases o with
 | ret r=>exact ⟨r,rfl,ho⟩
 | norm r=>exact ⟨r,rfl,ho⟩
 | _=>exact ho.elim
theorem ol {body:S1→Option (Out S1 R)} {k:Nat} {f:S1→Option (Out S R)} {Q:Out S R→Prop} (J:S1→Prop) (mu:S1→Nat) {s0:S1} (h0:J s0)
  (step:∀ s,J s→Ok (body s) (Stp k J mu (mu s) (fun s=>Ok (f s) Q) (fun r=>Q (.ret r)))):Ok (ag (ae k (af body s0)) f) Q:=by
 have key:∀ n s,mu s=n→J s→Ok (ag (ae k (af body s)) f) Q:=by
  intro n
  induction n using Nat.strongRecOn with
  | ind n ih=>
   intro s hn hs
   obtain ⟨o,e,ho⟩:=step s hs
   rw [uo,e]
   cases o with
   | norm s'=>exact ih _ (hn ▸ ho.2) s' rfl ho.1
   | exit k' s'=>
    obtain ⟨rfl,he⟩:=ho
    have:ag (S:=S) (ae k' (some (Out.exit k' s':Out S1 R))) f=f s':=Af rfl
    rw [this]; exact he
   | ret r=>
    have:ag (S:=S) (ae k (some (Out.ret r:Out S1 R))) f=some (.ret r):=FU rfl
    rw [this]; exact ⟨_,rfl,ho⟩
 exact key _ s0 rfl h0
end
theorem w1 {i n:Int} (h0:0≤i) (h1:i < n) (hn:n≤1048576000):ai (i+1)=i+1:=dT (by omega) (by omega)
theorem tF {α:Type} {P:α→Prop} {l:List α} {i:Nat} {x:α} (hl:∀ y∈l,P y) (hx:P x):∀ y∈l.set i x,P y:=fun y hy=>by
 rcases List.mem_or_eq_of_mem_set hy with h | h
 ·exact hl y h
 ·rw [h]; exact hx
theorem kp {α:Type} {P:α→Prop} {l:List α} {x:α} (hl:∀ y∈l,P y) (hx:P x):∀ y∈l++[x],P y:=fun y hy=>by
 rcases List.mem_append.1 hy with h | h
 ·exact hl y h
 ·rw [List.mem_singleton.1 h]; exact hx
theorem jo {α:Type} {P:α→Prop}:∀ y∈([]:List α),P y:=fun _ h=>nomatch h
end Go.Li
namespace Go.Proofs.YtcnehblmgfbfoaaGreat
open Go Go.Li
structure Fe (x:List Int):Prop where
 len:x.length≤4096
 b:∀ y∈x,0≤y∧y < 256
structure Src (x:List Int) (s:aL):Prop where
 c:s.Code=x
 a0:0≤s.At
 a1:s.At≤x.length
theorem Src.on {x:List Int} {s t:aL} {h:Int} (S:Src x s) (T:Src x t):Src x (aL.mk s.Code t.At h):=⟨S.c,T.a0,T.a1⟩
theorem Src.at_ {x:List Int} {s:aL} {a h:Int} (S:Src x s) (h0:0≤a) (h1:a≤x.length):Src x (aL.mk s.Code a h):=⟨S.c,h0,h1⟩
theorem Py (z:Int):∃ n:Nat,n≤16777215∧qz .and .u64 z (16777215:Int)=some (n:Int):=by
 refine ⟨(BitVec.ofInt 64 z &&& BitVec.ofInt 64 16777215).toNat,?_,?_⟩
 ·rw [BitVec.toNat_and]
  exact Nat.le_trans Nat.and_le_right (by decide)
 ·have h:(BitVec.ofInt 64 z &&& BitVec.ofInt 64 16777215).toNat≤16777215:=by
   rw [BitVec.toNat_and]
   exact Nat.le_trans Nat.and_le_right (by decide)
  show some (IntKind.u64.wrap ((BitVec.ofInt 64 z &&& BitVec.ofInt 64 16777215).toNat:Int))=_
  congr 1
  generalize (BitVec.ofInt 64 z &&& BitVec.ofInt 64 16777215).toNat=n at h
  unfold IntKind.wrap
  simp [IntKind.bits,IntKind.signed]
  omega
theorem aaC (z:Int):∃ y,qz .shr .u64 z (33:Int)=some y:=by
 simp only [qz]
 rw [if_neg (by decide)]
 exact ⟨_,rfl⟩
theorem db {x:List Int} (B:Fe x) {s:aL} (S:Src x s) (n:Int):Ok (aZ s n) fun y=>(0≤y.1∧(1≤n→y.1 < n))∧Src x y.2:=by
 obtain ⟨hc,h0,h1⟩:=S
 have hl:=B.len
 unfold aZ
 refine ly (od (fun h=>os ⟨⟨Int.le_refl _,fun h'=>by omega⟩,hc,h0,h1⟩) fun h=>?_)
 obtain ⟨Xq,DH⟩:=aaC (IntKind.u64.wrap (IntKind.u64.wrap (s.aj * 6364136223846793005)+1442695040888963407))
 refine oe rfl (oe rfl (oe DH ?_))
 obtain ⟨m,hm,em⟩:=Py Xq
 refine oe em ?_
 have e1:IntKind.i64.wrap (m:Int)=m:=dT (by omega) (by omega)
 rw [e1]
 have mod:∀ z:Int,0≤z→qz .rem .i64 z n=some (z.tmod n)∧0≤z.tmod n∧z.tmod n < n:=fun z hz=>
  ⟨if_neg (by omega),Int.tmod_nonneg n hz,Int.tmod_lt_of_pos z (by omega)⟩
 refine od (fun h2=>?_) fun h2=>?_
 ·rw [hc] at h2 ⊢
  refine oi h0 h2 fun y hy=>?_
  have hb:=B.b y hy
  rw [show IntKind.i64.wrap y=y from dT (by omega) (by omega),dT (by omega) (by omega)]
  obtain ⟨e,g0,g1⟩:=mod ((m:Int)+y) (by omega)
  refine oe e (os ⟨⟨g0,fun _=>g1⟩,rfl,?_,?_⟩)
  ·show 0≤ai (s.At+1); rw [w1 h0 h2 (by omega)]; omega
  ·show ai (s.At+1)≤_; rw [w1 h0 h2 (by omega)]; omega
 ·obtain ⟨e,g0,g1⟩:=mod (m:Int) (by omega)
  exact oe e (os ⟨⟨g0,fun _=>g1⟩,hc,h0,h1⟩)
theorem W3 {x:List Int} (B:Fe x):Ok (nU x) fun y=>∃ s,y=some s∧Src x s:=by
 have hl:=B.len
 unfold nU
 refine ly (oe rfl (ol (fun s:Int×Int=>0≤s.1∧s.1≤x.length) (fun s=>(x.length - s.1).toNat) ⟨Int.le_refl _,by show (0:Int)≤_; omega⟩ ?_))
 rintro ⟨i,h⟩ ⟨h0,h1⟩
 dsimp only at h0 h1
 show Ok (nT x i h) _
 unfold nT
 refine ob (P:=fun b=>b=true→i < x.length) (od (fun h=>os fun _=>h) fun _=>os fun h=>by cases h) fun b hb=>oc (fun cg=>?_) fun _=>?_
 ·have hi:=hb cg
  refine oe rfl (oi h0 hi fun y _=>oe rfl (oe rfl (os ⟨⟨?_,?_⟩,?_⟩)))
  ·show 0≤ai (i+1); rw [w1 h0 hi (by omega)]; omega
  ·show ai (i+1)≤_; rw [w1 h0 hi (by omega)]; omega
  ·show (x.length - ai (i+1)).toNat < (x.length - i).toNat; rw [w1 h0 hi (by omega)]; omega
 ·exact os ⟨rfl,os ⟨_,rfl,rfl,Int.le_refl _,by show (0:Int)≤_; omega⟩⟩
theorem Pz {x:List Int} (B:Fe x) {s:aL} (S:Src x s) {l:List Int} (hl:1≤l.length):Ok (mC s l) fun y=>y.1∈l∧Src x y.2:=by
 unfold mC
 refine ly (ob (db B S _) fun y hy=>?_)
 have h:=hy.1.2 (by omega)
 rw [sU hy.1.1 h]
 exact os ⟨List.getElem_mem _,S.on hy.2⟩
structure pq (a b:Nat) (c:aH):Prop where
 o0:0≤c.aD
 o:c.aD≤a
 m:c.aG.length≤b
 t:c.To.length=c.aG.length
 i:(c.aI.length:Int)=c.aD
 k:c.aB.length=c.aG.length
 r:∀ y∈c.aB,y.length=c.aG.length
theorem pq.mono {a b a' b':Nat} {c:aH} (h:pq a b c) (ha:a≤a') (hb:b≤b'):pq a' b' c:=
 ⟨h.o0,by have:=h.o; omega,Nat.le_trans h.m hb,h.t,h.i,h.k,h.r⟩
theorem pq.small {a b:Nat} {c:aH} (h:pq a b c) (ha:a≤1048576) (hb:b≤1048576):dk c:=
 ⟨Nat.le_trans h.m hb,by rw [h.t]; exact Nat.le_trans h.m hb,by have:=h.i; have:=h.o; omega,by rw [h.k]; exact Nat.le_trans h.m hb,fun y hy=>by rw [h.r y hy]; exact Nat.le_trans h.m hb⟩
structure Sq (n:Nat) (l:List (List Int)):Prop where
 len:l.length=n
 row:∀ y∈l,y.length=n
theorem Ek {x:List Int} (B:Fe x) {s:aL} (S:Src x s):Ok (iO s) fun y=>(∃ n,1≤n∧n≤4∧Sq n y.1)∧Src x y.2:=by
 unfold iO
 refine ly (ob (db B S _) fun y hy=>?_)
 have T:Src x (aL.mk s.Code y.2.At y.2.aj):=S.on hy.2
 refine oc (fun _=>os ⟨⟨1,by decide,by decide,rfl,by simp⟩,T⟩) fun _=>oc (fun _=>os ⟨⟨2,by decide,by decide,rfl,by simp⟩,T⟩) fun _=>oc (fun _=>os ⟨⟨2,by decide,by decide,rfl,by simp⟩,T⟩) fun _=>
  oc (fun _=>os ⟨⟨3,by decide,by decide,rfl,by simp⟩,T⟩) fun _=>oc (fun _=>os ⟨⟨3,by decide,by decide,rfl,by simp⟩,T⟩) fun _=>oc (fun _=>os ⟨⟨3,by decide,by decide,rfl,by simp⟩,T⟩) fun _=>
  oc (fun _=>os ⟨⟨4,by decide,by decide,rfl,by simp⟩,T⟩) fun _=>os ⟨⟨3,by decide,by decide,rfl,by simp⟩,T⟩
theorem BA {l:List (List Int)} {n:Nat} (h1:n≤4) (h:Sq n l):Ok (iP l) fun c=>pq 1 4 c∧c.aD=1:=by
 have hl:=h.len
 unfold iP
 refine ly (JS (by omega) (by omega) (by omega) (JS (by omega) (by omega) (by omega) (oe (vW l (by omega) fun y hy=>by have:=h.row y hy; omega) (os ?_))))
 refine ⟨⟨by show (0:Int)≤1; omega,by show (1:Int)≤_; omega,?_,?_,rfl,?_,fun y hy=>?_⟩,rfl⟩
 ·show (List.replicate _ _).length≤4; rw [List.length_replicate]; omega
 ·show (List.replicate _ _).length=(List.replicate _ _).length; rw [List.length_replicate]
 ·show l.length=(List.replicate _ _).length; rw [List.length_replicate]; omega
 ·show _=(List.replicate _ _).length; rw [List.length_replicate,h.row y hy]; omega
theorem TG {n:Nat} {l:List (List Int)} (h:Sq n l) {e:List Int} (he:e∈l) (i j:Nat) (v:Int):Sq n (l.set i (e.set j v)):=
 ⟨by rw [List.length_set]; exact h.len,tF h.row (by rw [List.length_set]; exact h.row e he)⟩
theorem CG {R S:Type} {n:Nat} (hn:n≤4) {k:Nat} {f:Int×List (List Int)→Option (Out S R)} {Q:Out S R→Prop} {L2:Int→List (List Int)→Option (Out (Int×List (List Int)) R)} {L3:Int→Int→List (List Int)→Option (Out (Int×List (List Int)) R)} {L4:Int→Int→Int→List (List Int)→Option (Out (Int×List (List Int)) R)} {k3 k4:Nat}
  (e2:∀ a t,L2 a t=bif decide (a < (n:Int)) then (ag (ae k3 (af (fun s:Int×List (List Int)=>L3 a s.1 s.2) ((0:Int),t))) fun s=>some (.norm (ai (a+1),s.2))) else some (.exit k (a,t)))
  (e3:∀ a b t,L3 a b t=bif decide (b < (n:Int)) then (ag (ae k4 (af (fun s:Int×List (List Int)=>L4 a b s.1 s.2) ((0:Int),t))) fun s=>some (.norm (ai (b+1),s.2))) else some (.exit k3 (b,t)))
  (e4:∀ a b d t,L4 a b d t=bif decide (d < (n:Int)) then ((idx t b>>=fun e=>(idx e a>>=fun e'=>(bif e' == (1:Int) then (idx t a>>=fun e2=>(idx e2 d>>=fun PA=>some (PA == (1:Int)))) else some false)))>>=fun g=>(bif g then (idx t b>>=fun e=>(idx e d>>=fun _=>some (.norm (ai (d+1),t.set b.toNat (e.set d.toNat 1))))) else some (.norm (ai (d+1),t)))) else some (.exit k4 (d,t)))
  {t:List (List Int)} (ht:Sq n t) (hf:∀ s:Int×List (List Int),Sq n s.2→Ok (f s) Q):Ok (ag (ae k (af (fun s=>L2 s.1 s.2) ((0:Int),t))) f) Q:=by
 refine ol (fun s:Int×List (List Int)=>(0≤s.1∧s.1≤n)∧Sq n s.2) (fun s=>(n - s.1).toNat) ⟨⟨by show (0:Int)≤0; omega,by show (0:Int)≤_; omega⟩,ht⟩ ?_
 rintro ⟨a,t⟩ ⟨⟨a0,a1⟩,ht⟩
 dsimp only at a0 a1 ht
 show Ok (L2 a t) _
 rw [e2]
 refine od (fun ha=>?_) fun ha=>os ⟨rfl,hf _ ht⟩
 refine ol (fun s:Int×List (List Int)=>(0≤s.1∧s.1≤n)∧Sq n s.2) (fun s=>(n - s.1).toNat) ⟨⟨by show (0:Int)≤0; omega,by show (0:Int)≤_; omega⟩,ht⟩ ?_
 rintro ⟨b,t⟩ ⟨⟨b0,b1⟩,ht⟩
 dsimp only at b0 b1 ht
 show Ok (L3 a b t) _
 rw [e3]
 refine od (fun hb=>?_) fun hb=>os ⟨rfl,os ⟨⟨⟨?_,?_⟩,ht⟩,?_⟩⟩
 ·refine ol (fun s:Int×List (List Int)=>(0≤s.1∧s.1≤n)∧Sq n s.2) (fun s=>(n - s.1).toNat) ⟨⟨by show (0:Int)≤0; omega,by show (0:Int)≤_; omega⟩,ht⟩ ?_
  rintro ⟨d,t⟩ ⟨⟨d0,d1⟩,ht⟩
  dsimp only at d0 d1 ht
  have hl:=ht.len
  show Ok (L4 a b d t) _
  rw [e4]
  refine od (fun hd=>?_) fun hd=>os ⟨rfl,os ⟨⟨⟨?_,?_⟩,ht⟩,?_⟩⟩
  ·have hw:=w1 d0 hd (by omega)
   refine ob (P:=fun _=>True) (oi b0 (by omega) fun e he=>?_) fun g _=>oc (fun _=>?_) fun _=>?_
   ·have:=ht.row e he
    refine oi a0 (by omega) fun e' _=>oc (fun _=>oi a0 (by omega) fun e2 he2=>?_) fun _=>os trivial
    have:=ht.row e2 he2
    exact oi d0 (by omega) fun _ _=>os trivial
   ·refine oi b0 (by omega) fun e he=>?_
    have:=ht.row e he
    refine oi d0 (by omega) fun _ _=>os ⟨⟨⟨?_,?_⟩,TG ht he _ _ _⟩,?_⟩ <;> dsimp only <;> rw [hw] <;> omega
   ·refine os ⟨⟨⟨?_,?_⟩,ht⟩,?_⟩ <;> dsimp only <;> rw [hw] <;> omega
  all_goals dsimp only; rw [w1 b0 hb (by omega)]; omega
 all_goals dsimp only; rw [w1 a0 ha (by omega)]; omega
theorem F6 {x:List Int} (B:Fe x) {s:aL} (S:Src x s) {n:Nat} (hn:n≤4):Ok (iR s n) fun y=>Sq n y.1∧Src x y.2:=by
 unfold iR
 refine ly (ol (fun z:List (List Int)×Int×Int×Int=>(0≤z.2.1∧z.2.1≤n)∧(z.1.length:Int)=z.2.1∧(∀ y∈z.1,y.length=n)∧0≤z.2.2.1∧z.2.2.1≤x.length) (fun z=>(n - z.2.1).toNat)
  ⟨⟨by show (0:Int)≤0; omega,by show (0:Int)≤_; omega⟩,rfl,jo,S.a0,S.a1⟩ ?_)
 rintro ⟨l,i,a,h⟩ ⟨⟨i0,i1⟩,hl,hr,a0,a1⟩
 dsimp only at i0 i1 hl hr a0 a1
 show Ok (lN s n l i a h) _
 unfold lN
 refine od (fun hi=>?_) fun hi=>os ⟨rfl,?_⟩
 ·refine JS (by omega) (by omega) (by omega) (oi i0 (by rw [List.length_replicate]; omega) fun _ _=>?_)
  refine ol (fun z:Int×Int×Int×List Int=>(0≤z.1∧z.1≤n)∧(0≤z.2.1∧z.2.1≤x.length)∧z.2.2.2.length=n) (fun z=>(n - z.1).toNat) ⟨⟨?_,?_⟩,⟨a0,a1⟩,?_⟩ ?_
  ·show 0≤ai (i+1); rw [w1 i0 hi (by omega)]; omega
  ·show ai (i+1)≤_; rw [w1 i0 hi (by omega)]; omega
  ·show (List.set _ _ _).length=n; rw [List.length_set,List.length_replicate]; omega
  rintro ⟨j,a,h,o⟩ ⟨⟨j0,j1⟩,⟨a0,a1⟩,ho⟩
  dsimp only at j0 j1 a0 a1 ho
  show Ok (lM s n j a h o) _
  unfold lM
  refine od (fun hj=>?_) fun hj=>os ⟨rfl,?_⟩
  ·refine ob (db B (S.at_ a0 a1) _) fun y hy=>oi j0 (by omega) fun _ _=>os ⟨⟨⟨?_,?_⟩,⟨hy.2.a0,hy.2.a1⟩,?_⟩,?_⟩
   ·show 0≤ai (j+1); rw [w1 j0 hj (by omega)]; omega
   ·show ai (j+1)≤_; rw [w1 j0 hj (by omega)]; omega
   ·show (List.set _ _ _).length=n; rw [List.length_set]; exact ho
   ·show (n - ai (j+1)).toNat < (n - j).toNat; rw [w1 j0 hj (by omega)]; omega
  ·refine fj (by omega) (by omega) (os ⟨⟨⟨?_,?_⟩,?_,kp hr ho,a0,a1⟩,?_⟩)
   ·show 0≤ai (i+1); rw [w1 i0 hi (by omega)]; omega
   ·show ai (i+1)≤_; rw [w1 i0 hi (by omega)]; omega
   ·show ((l++[o]).length:Int)=ai (i+1); rw [w1 i0 hi (by omega),List.length_append,List.length_singleton]; omega
   ·show (n - ai (i+1)).toNat < (n - i).toNat; rw [w1 i0 hi (by omega)]; omega
 ·have hq:Sq n l:=⟨by omega,hr⟩
  refine od (fun h1=>?_) fun h1=>?_
  ·refine ob (db B (S.at_ a0 a1) _) fun y hy=>oc (fun _=>?_) fun _=>?_
   ·rw [dT (a:=(n:Int) - 1) (by omega) (by omega)]
    refine oi (by omega) (by omega) fun e he=>?_
    have uM:=hr e he
    refine ob (db B (S.on hy.2) _) fun z hz=>oi hz.1.1 (by have:=hz.1.2 (by omega); omega) fun _ _=>?_
    exact CG hn (L2:=fun a t=>pQ n a t) (L3:=fun a b t=>pP n a b t) (L4:=fun a b d t=>pO n a b d t) (fun _ _=>rfl) (fun _ _ _=>rfl) (fun _ _ _ _=>rfl) (TG hq he _ _ _) fun t ht=>os ⟨ht,S.on hz.2⟩
   ·exact CG hn (L2:=fun a t=>pT n a t) (L3:=fun a b t=>pS n a b t) (L4:=fun a b d t=>pR n a b d t) (fun _ _=>rfl) (fun _ _ _=>rfl) (fun _ _ _ _=>rfl) hq fun t ht=>os ⟨ht,S.on hy.2⟩
  ·exact CG hn (L2:=fun a t=>pV n a t) (L3:=fun a b t=>pU n a b t) (L4:=fun a b d t=>nV n a b d t) (fun _ _=>rfl) (fun _ _ _=>rfl) (fun _ _ _ _=>rfl) hq fun t ht=>os ⟨ht,S.at_ a0 a1⟩
end Go.Proofs.YtcnehblmgfbfoaaGreat
namespace Go.Proofs.YtcnehblmgfbfoaaGreat
open Go Go.Li
theorem Lq {x:List (List Int)} {n:Nat} (hn:n≤4) (h:Sq n x):Ok (eB x) (pq n (4 * n)):=by
 have hx:=h.len
 unfold eB
 refine ly (ol (fun z:List (List Int)×Int×List Int×List Int=>(0≤z.2.1∧z.2.1≤n)∧((z.1.length:Int)=z.2.1∧∀ y∈z.1,y.length=n)∧(z.2.2.2.length=z.2.2.1.length∧(z.2.2.1.length:Int)≤4 * z.2.1)∧(∀ y∈z.2.2.1,0≤y∧y < n)∧∀ y∈z.2.2.2,0≤y∧y < n) (fun z=>(n - z.2.1).toNat)
  ⟨⟨by show (0:Int)≤0; omega,by show (0:Int)≤_; omega⟩,⟨rfl,jo⟩,⟨rfl,by show (0:Int)≤4 * 0; omega⟩,jo,jo⟩ ?_)
 rintro ⟨num,i,f,t⟩ ⟨⟨i0,i1⟩,⟨hl,hr⟩,⟨ht,hf⟩,hF,hT⟩
 dsimp only at i0 i1 hl hr ht hf hF hT
 show Ok (nH x num i f t) _
 unfold nH
 rw [hx]
 refine od (fun hi=>?_) fun hi=>os ⟨rfl,?_⟩
 ·refine ol (fun z:List Int×Int×List Int×List Int=>(0≤z.2.1∧z.2.1≤n)∧(z.1.length:Int)=z.2.1∧(z.2.2.2.length=z.2.2.1.length∧(z.2.2.1.length:Int)≤4 * i+z.2.1)∧(∀ y∈z.2.2.1,0≤y∧y < n)∧∀ y∈z.2.2.2,0≤y∧y < n) (fun z=>(n - z.2.1).toNat)
   ⟨⟨by show (0:Int)≤0; omega,by show (0:Int)≤_; omega⟩,rfl,⟨ht,by show (f.length:Int)≤4 * i+0; omega⟩,hF,hT⟩ ?_
  rintro ⟨row,j,f,t⟩ ⟨⟨j0,j1⟩,w6,⟨ht,hf⟩,hF,hT⟩
  dsimp only at j0 j1 w6 ht hf hF hT
  show Ok (nG x i row j f t) _
  unfold nG
  rw [hx]
  refine od (fun hj=>?_) fun hj=>os ⟨rfl,?_⟩
  ·have hw:=w1 j0 hj (by omega)
   refine fj (by omega) (by omega) (oi i0 (by omega) fun e he=>?_)
   have:=h.row e he
   refine oi j0 (by omega) fun e' _=>oc (fun _=>fj (by omega) (by omega) (fj (by omega) (by omega) (os ?_))) fun _=>os ?_
   ·refine ⟨⟨⟨?_,?_⟩,?_,⟨?_,?_⟩,kp hF ⟨i0,hi⟩,kp hT ⟨j0,hj⟩⟩,?_⟩ <;> dsimp only <;> (try rw [hw]) <;> (try simp only [List.length_append,List.length_singleton]) <;> omega
   ·refine ⟨⟨⟨?_,?_⟩,?_,⟨ht,?_⟩,hF,hT⟩,?_⟩ <;> dsimp only <;> rw [hw] <;> (try simp only [List.length_append,List.length_singleton]) <;> omega
  ·have hw:=w1 i0 hi (by omega)
   refine fj (by omega) (by omega) (os ⟨⟨⟨?_,?_⟩,⟨?_,kp hr (by omega)⟩,⟨ht,?_⟩,hF,hT⟩,?_⟩) <;> dsimp only <;> rw [hw] <;> (try simp only [List.length_append,List.length_singleton]) <;> omega
 ·refine ol (fun z:Int×List Int=>(0≤z.1∧z.1≤n)∧(z.2.length:Int)=z.1) (fun z=>(n - z.1).toNat) ⟨⟨by show (0:Int)≤0; omega,by show (0:Int)≤_; omega⟩,rfl⟩ ?_
  rintro ⟨a,id⟩ ⟨⟨a0,a1⟩,sF⟩
  dsimp only at a0 a1 sF
  show Ok (nI x num a id) _
  unfold nI
  rw [hx]
  refine od (fun ha=>?_) fun ha=>os ⟨rfl,?_⟩
  ·have hw:=w1 a0 ha (by omega)
   refine oi a0 (by omega) fun e he=>?_
   have:=hr e he
   refine oi a0 (by omega) fun _ _=>fj (by omega) (by omega) (os ⟨⟨⟨?_,?_⟩,?_⟩,?_⟩) <;> dsimp only <;> rw [hw] <;> (try simp only [List.length_append,List.length_singleton]) <;> omega
  ·refine ol (fun z:Int×List (List Int)=>(0≤z.1∧z.1≤f.length)∧(z.2.length:Int)=z.1∧∀ y∈z.2,y.length=f.length) (fun z=>(f.length - z.1).toNat) ⟨⟨by show (0:Int)≤0; omega,by show (0:Int)≤_; omega⟩,rfl,jo⟩ ?_
   rintro ⟨b,k⟩ ⟨⟨b0,b1⟩,hk,na⟩
   dsimp only at b0 b1 hk na
   show Ok (nK num f t b k) _
   unfold nK
   refine od (fun hb=>?_) fun hb=>os ⟨rfl,os ⟨?_,?_,?_,ht,?_,?_,na⟩⟩
   ·refine ol (fun z:List Int×Int=>(0≤z.2∧z.2≤f.length)∧(z.1.length:Int)=z.2) (fun z=>(f.length - z.2).toNat) ⟨⟨by show (0:Int)≤0; omega,by show (0:Int)≤_; omega⟩,rfl⟩ ?_
    rintro ⟨row,d⟩ ⟨⟨d0,d1⟩,av⟩
    dsimp only at d0 d1 av
    show Ok (nJ num f t b row d) _
    unfold nJ
    refine od (fun hd=>?_) fun hd=>os ⟨rfl,?_⟩
    ·have hw:=w1 d0 hd (by omega)
     refine oi b0 (by omega) fun e1 he1=>oi d0 (by omega) fun e2 he2=>oc (fun _=>oi b0 (by omega) fun e3 he3=>?_) fun _=>?_
     ·have h3:=hF e3 he3
      refine oi h3.1 (by omega) fun e4 he4=>oi d0 (by omega) fun e5 he5=>?_
      have h4:=hr e4 he4
      have h5:=hT e5 he5
      refine oi h5.1 (by omega) fun _ _=>fj (by omega) (by omega) (os ⟨⟨⟨?_,?_⟩,?_⟩,?_⟩) <;> dsimp only <;> rw [hw] <;> (try simp only [List.length_append,List.length_singleton]) <;> omega
     ·refine fj (by omega) (by omega) (os ⟨⟨⟨?_,?_⟩,?_⟩,?_⟩) <;> dsimp only <;> rw [hw] <;> (try simp only [List.length_append,List.length_singleton]) <;> omega
    ·have hw:=w1 b0 hb (by omega)
     refine fj (by omega) (by omega) (os ⟨⟨⟨?_,?_⟩,?_,kp na (by omega)⟩,?_⟩) <;> dsimp only <;> rw [hw] <;> (try simp only [List.length_append,List.length_singleton]) <;> omega
   all_goals (try dsimp only)
   all_goals omega
theorem TH {c d:aH} {a b a' b':Nat} (C:pq a b c) (D:pq a' b' d) (ha:a+a'≤100000) (hb:b+b'≤100000):Ok (mZ c d) fun e=>pq (a+a') (b+b') e∧e.aD=c.aD+d.aD:=by
 have hC:=C.small (by omega) (by omega)
 obtain ⟨c0,c1,c2,c3,c4,c5,c6⟩:=C
 obtain ⟨d0,d1,d2,d3,d4,d5,d6⟩:=D
 unfold mZ
 refine ly (oe (tn hC) ?_)
 refine ol (fun z:Int×List Int=>(0≤z.1∧z.1≤d.aD)∧(z.2.length:Int)=c.aD+z.1) (fun z=>(d.aD - z.1).toNat) ⟨⟨by show (0:Int)≤0; omega,d0⟩,by show (c.aI.length:Int)=_+0; omega⟩ ?_
 rintro ⟨i,id⟩ ⟨⟨i0,i1⟩,sF⟩
 dsimp only at i0 i1 sF
 show Ok (qA c d i id) _
 unfold qA
 refine od (fun hi=>?_) fun hi=>os ⟨rfl,?_⟩
 ·have hw:=w1 i0 hi (by omega)
  refine oi i0 (by omega) fun _ _=>fj (by omega) (by omega) (os ⟨⟨⟨?_,?_⟩,?_⟩,?_⟩) <;> dsimp only <;> rw [hw] <;> (try simp only [List.length_append,List.length_singleton]) <;> omega
 have row:∀ (l:List (List Int)) (i:Int),(∀ (k:Nat) y,l[k]? = some y→y.length=if (k:Int) < i then c.aG.length+d.aG.length else c.aG.length)→∀ y∈l,y.length≤c.aG.length+d.aG.length:=fun l i h y hy=>by
  obtain ⟨k,hk⟩:=List.getElem?_of_mem hy
  have:=h k y hk
  split at this <;> omega
 refine ol (fun z:Int×List (List Int)=>(0≤z.1∧z.1≤c.aG.length)∧z.2.length=c.aG.length∧∀ (k:Nat) y,z.2[k]? = some y→y.length=if (k:Int) < z.1 then c.aG.length+d.aG.length else c.aG.length) (fun z=>(c.aG.length - z.1).toNat)
  ⟨⟨by show (0:Int)≤0; omega,by show (0:Int)≤_; omega⟩,c5,fun k y hk=>by rw [if_neg (by show ¬ (k:Int) < 0; omega)]; exact c6 y (List.mem_of_getElem? hk)⟩ ?_
 rintro ⟨j,l⟩ ⟨⟨j0,j1⟩,hl,hr⟩
 dsimp only at j0 j1 hl hr
 show Ok (qC d j l) _
 unfold qC
 refine od (fun hj=>?_) fun hj=>os ⟨rfl,?_⟩
 ·refine ol (fun z:Int×List (List Int)=>(0≤z.1∧z.1≤d.aG.length)∧z.2.length=c.aG.length∧∀ (k:Nat) y,z.2[k]? = some y→(y.length:Int)=if (k:Int) < j then (c.aG.length:Int)+d.aG.length else if (k:Int)=j then (c.aG.length:Int)+z.1 else (c.aG.length:Int)) (fun z=>(d.aG.length - z.1).toNat)
   ⟨⟨by show (0:Int)≤0; omega,by show (0:Int)≤_; omega⟩,hl,fun k y hk=>by
    have:=hr k y hk
    show _=if (k:Int) < j then _ else if (k:Int)=j then (c.aG.length:Int)+0 else _
    split at this <;> split <;> (try split) <;> omega⟩ ?_
  rintro ⟨m,l⟩ ⟨⟨m0,m1⟩,hl,hr⟩
  dsimp only at m0 m1 hl hr
  show Ok (qB d j m l) _
  unfold qB
  refine od (fun hm=>?_) fun hm=>os ⟨rfl,?_⟩
  ·have hw:=w1 m0 hm (by omega)
   have hg:l[j.toNat]? = some (l[j.toNat]'(by omega)):=List.getElem?_eq_getElem _
   have hlen:=hr _ _ hg
   rw [if_neg (by omega),if_pos (by omega)] at hlen
   rw [sU j0 (by omega)]
   refine fj (by omega) (by omega) (os ⟨⟨⟨?_,?_⟩,?_,?_⟩,?_⟩)
   ·dsimp only; rw [hw]; omega
   ·dsimp only; rw [hw]; omega
   ·dsimp only; rw [List.length_set]; exact hl
   ·intro k y hk
    dsimp only at hk ⊢
    rw [hw]
    rw [List.getElem?_set] at hk
    by_cases e:j.toNat=k
    ·rw [if_pos e,if_pos (by omega)] at hk
     rw [← Option.some.inj hk,if_neg (by omega),if_pos (by omega),List.length_append,List.length_singleton]; omega
    ·rw [if_neg e] at hk
     have:=hr k y hk
     rw [if_neg (show ¬ (k:Int)=j by omega)] at this ⊢
     exact this
   ·dsimp only; rw [hw]; omega
  ·have hw:=w1 j0 hj (by omega)
   refine os ⟨⟨⟨?_,?_⟩,hl,?_⟩,?_⟩
   ·dsimp only; rw [hw]; omega
   ·dsimp only; rw [hw]; omega
   ·intro k y hk
    dsimp only at hk ⊢
    rw [hw]
    have:=hr k y hk
    split at this <;> split <;> (try split at this) <;> omega
   ·dsimp only; rw [hw]; omega
 have eh:∀ y∈l,y.length=c.aG.length+d.aG.length:=fun y hy=>by
  obtain ⟨k,hk⟩:=List.getElem?_of_mem hy
  have h1:=hr k y hk
  have h2:=bf hk
  rw [if_pos (by omega)] at h1
  exact h1
 refine ol (fun z:Int×List Int×List Int×List (List Int)=>(0≤z.1∧z.1≤d.aG.length)∧(z.2.1.length:Int)=c.aG.length+z.1∧(z.2.2.1.length:Int)=c.aG.length+z.1∧(z.2.2.2.length:Int)=c.aG.length+z.1∧∀ y∈z.2.2.2,y.length=c.aG.length+d.aG.length) (fun z=>(d.aG.length - z.1).toNat)
  ⟨⟨by show (0:Int)≤0; omega,by show (0:Int)≤_; omega⟩,by show (c.aG.length:Int)=_+0; omega,by show (c.To.length:Int)=_+0; omega,by show (l.length:Int)=_+0; omega,eh⟩ ?_
 rintro ⟨m,f,t,k⟩ ⟨⟨m0,m1⟩,hf,ht,hk,na⟩
 dsimp only at m0 m1 hf ht hk na
 show Ok (qF c d m f t k) _
 unfold qF
 refine od (fun hm=>?_) fun hm=>os ⟨rfl,os ?_⟩
 ·have hw:=w1 m0 hm (by omega)
  refine oi m0 (by omega) fun _ _=>fj (by omega) (by omega) (oi m0 (by omega) fun _ _=>fj (by omega) (by omega) ?_)
  refine ol (fun z:List Int×Int=>(0≤z.2∧z.2≤c.aG.length)∧(z.1.length:Int)=z.2) (fun z=>(c.aG.length - z.2).toNat) ⟨⟨by show (0:Int)≤0; omega,by show (0:Int)≤_; omega⟩,rfl⟩ ?_
  rintro ⟨row,p⟩ ⟨⟨p0,p1⟩,av⟩
  dsimp only at p0 p1 av
  show Ok (qD c row p) _
  unfold qD
  refine od (fun hp=>?_) fun hp=>os ⟨rfl,?_⟩
  ·have hw:=w1 p0 hp (by omega)
   refine fj (by omega) (by omega) (os ⟨⟨⟨?_,?_⟩,?_⟩,?_⟩) <;> dsimp only <;> rw [hw] <;> (try simp only [List.length_append,List.length_singleton]) <;> omega
  ·refine ol (fun z:List Int×Int=>(0≤z.2∧z.2≤d.aG.length)∧(z.1.length:Int)=c.aG.length+z.2) (fun z=>(d.aG.length - z.2).toNat) ⟨⟨by show (0:Int)≤0; omega,by show (0:Int)≤_; omega⟩,by show (row.length:Int)=_+0; omega⟩ ?_
   rintro ⟨row,q⟩ ⟨⟨q0,q1⟩,av⟩
   dsimp only at q0 q1 av
   show Ok (qE c d m row q) _
   unfold qE
   refine od (fun hq=>?_) fun hq=>os ⟨rfl,?_⟩
   ·have hw:=w1 q0 hq (by omega)
    refine oi m0 (by omega) fun e he=>?_
    have:=d6 e he
    refine oi q0 (by omega) fun e' _=>od (fun _=>fj (by omega) (by omega) (os ⟨⟨⟨?_,?_⟩,?_⟩,?_⟩)) fun _=>fj (by omega) (by omega) (os ⟨⟨⟨?_,?_⟩,?_⟩,?_⟩) <;> dsimp only <;> rw [hw] <;> (try simp only [List.length_append,List.length_singleton]) <;> omega
   ·refine fj (by omega) (by omega) (os ⟨⟨⟨?_,?_⟩,?_,?_,?_,kp na (by omega)⟩,?_⟩) <;> dsimp only <;> rw [hw] <;> (try simp only [List.length_append,List.length_singleton]) <;> omega
 ·have hw:ai (c.aD+d.aD)=c.aD+d.aD:=dT (by omega) (by omega)
  refine ⟨⟨?_,?_,?_,?_,?_,?_,fun y hy=>?_⟩,hw⟩ <;> dsimp only
  ·rw [hw]; omega
  ·rw [hw]; omega
  ·omega
  ·omega
  ·rw [hw]; omega
  ·omega
  ·have:=na y hy; omega
end Go.Proofs.YtcnehblmgfbfoaaGreat
namespace Go.Proofs.YtcnehblmgfbfoaaGreat
open Go Go.Li
theorem US:Ok nB (pq 2 5):=by
 unfold nB
 exact ly (os ⟨by decide,by decide,by decide,rfl,rfl,rfl,by decide⟩)
theorem afx {c:aH} {a b:Nat} (C:pq a b c) (ha:a≤100000) (hb:b≤100000):Ok (qU c) (pq a b):=by
 obtain ⟨c0,c1,c2,c3,c4,c5,c6⟩:=C
 unfold qU
 refine ly (oe (mx _ (by omega)) (oe (mx _ (by omega)) (oe (mx _ (by omega)) ?_)))
 refine ol (fun z:Int×List (List Int)=>(0≤z.1∧z.1≤c.aG.length)∧(z.2.length:Int)=z.1∧∀ y∈z.2,y.length=c.aG.length) (fun z=>(c.aG.length - z.1).toNat) ⟨⟨by show (0:Int)≤0; omega,by show (0:Int)≤_; omega⟩,rfl,jo⟩ ?_
 rintro ⟨i,k⟩ ⟨⟨i0,i1⟩,hk,na⟩
 dsimp only at i0 i1 hk na
 show Ok (qO c i k) _
 unfold qO
 refine od (fun hi=>?_) fun hi=>os ⟨rfl,os ⟨c0,c1,?_,?_,c4,?_,fun y hy=>?_⟩⟩
 ·refine ol (fun z:List Int×Int=>(0≤z.2∧z.2≤c.aG.length)∧(z.1.length:Int)=z.2) (fun z=>(c.aG.length - z.2).toNat) ⟨⟨by show (0:Int)≤0; omega,by show (0:Int)≤_; omega⟩,rfl⟩ ?_
  rintro ⟨row,j⟩ ⟨⟨j0,j1⟩,av⟩
  dsimp only at j0 j1 av
  show Ok (qN c i row j) _
  unfold qN
  refine od (fun hj=>?_) fun hj=>os ⟨rfl,?_⟩
  ·have hw:=w1 j0 hj (by omega)
   refine oi j0 (by omega) fun e he=>?_
   have:=c6 e he
   refine oi i0 (by omega) fun _ _=>fj (by omega) (by omega) (os ⟨⟨⟨?_,?_⟩,?_⟩,?_⟩) <;> dsimp only <;> rw [hw] <;> (try simp only [List.length_append,List.length_singleton]) <;> omega
  ·have hw:=w1 i0 hi (by omega)
   refine fj (by omega) (by omega) (os ⟨⟨⟨?_,?_⟩,?_,kp na (by omega)⟩,?_⟩) <;> dsimp only <;> rw [hw] <;> (try simp only [List.length_append,List.length_singleton]) <;> omega
 ·dsimp only; omega
 ·dsimp only; omega
 ·dsimp only; omega
 ·have:=na y hy; dsimp only; omega
theorem PB {c d:aH} (C:pq 1 4 c) (D:pq 1 4 d):Ok (lV c d) (pq 2 12):=by
 unfold lV
 refine ly (ob (TH C D (by omega) (by omega)) fun e he=>?_)
 obtain ⟨⟨e0,e1,e2,e3,e4,e5,e6⟩,_⟩:=he
 obtain ⟨c0,c1,-⟩:=C
 obtain ⟨d0,d1,-⟩:=D
 refine ol (fun z:Int×List Int×List Int=>(0≤z.1∧z.1≤c.aD)∧z.2.2.length=z.2.1.length∧(e.aG.length≤z.2.1.length∧(z.2.1.length:Int)≤8+4 * z.1)) (fun z=>(c.aD - z.1).toNat) ⟨⟨by show (0:Int)≤0; omega,c0⟩,e3,Nat.le_refl _,by show (e.aG.length:Int)≤8+4 * 0; omega⟩ ?_
 rintro ⟨i,f,t⟩ ⟨⟨i0,i1⟩,ht,hm,hf⟩
 dsimp only at i0 i1 ht hm hf
 show Ok (nX c d i f t) _
 unfold nX
 refine od (fun hi=>?_) fun hi=>os ⟨rfl,?_⟩
 ·refine ol (fun z:Int×List Int×List Int=>(0≤z.1∧z.1≤d.aD)∧z.2.2.length=z.2.1.length∧(e.aG.length≤z.2.1.length∧(z.2.1.length:Int)≤8+4 * i+z.1)) (fun z=>(d.aD - z.1).toNat) ⟨⟨by show (0:Int)≤0; omega,d0⟩,ht,hm,by show (f.length:Int)≤8+4 * i+0; omega⟩ ?_
  rintro ⟨j,f,t⟩ ⟨⟨j0,j1⟩,ht,hm,hf⟩
  dsimp only at j0 j1 ht hm hf
  show Ok (nW c d i j f t) _
  unfold nW
  refine od (fun hj=>?_) fun hj=>os ⟨rfl,?_⟩
  ·have hw:=w1 j0 hj (by omega)
   refine fj (by omega) (by omega) (fj (by omega) (by omega) (os ⟨⟨⟨?_,?_⟩,?_,?_,?_⟩,?_⟩)) <;> dsimp only <;> (try rw [hw]) <;> (try simp only [List.length_append,List.length_singleton]) <;> omega
  ·have hw:=w1 i0 hi (by omega)
   refine os ⟨⟨⟨?_,?_⟩,ht,hm,?_⟩,?_⟩ <;> dsimp only <;> rw [hw] <;> omega
 ·refine ol (fun z:List (List Int)×Int=>(0≤z.2∧z.2≤f.length)∧(z.1.length:Int)=z.2∧∀ y∈z.1,y.length=f.length) (fun z=>(f.length - z.2).toNat) ⟨⟨by show (0:Int)≤0; omega,by show (0:Int)≤_; omega⟩,rfl,jo⟩ ?_
  rintro ⟨k,b⟩ ⟨⟨b0,b1⟩,hk,na⟩
  dsimp only at b0 b1 hk na
  show Ok (nZ c d e f t k b) _
  unfold nZ
  refine od (fun hb=>?_) fun hb=>os ⟨rfl,os ⟨e0,e1,?_,ht,e4,?_,na⟩⟩
  ·refine ol (fun z:List Int×Int=>(0≤z.2∧z.2≤f.length)∧(z.1.length:Int)=z.2) (fun z=>(f.length - z.2).toNat) ⟨⟨by show (0:Int)≤0; omega,by show (0:Int)≤_; omega⟩,rfl⟩ ?_
   rintro ⟨row,g⟩ ⟨⟨g0,g1⟩,av⟩
   dsimp only at g0 g1 av
   show Ok (nY c d e f t b row g) _
   unfold nY
   refine od (fun hg=>?_) fun hg=>os ⟨rfl,?_⟩
   ·have hw:=w1 g0 hg (by omega)
    refine oi b0 (by omega) fun _ _=>oi g0 (by omega) fun _ _=>oc (fun _=>?_) fun _=>ob (P:=fun x=>x=true→b < e.aG.length∧g < e.aG.length) (od (fun h1=>os fun h=>⟨h1,of_decide_eq_true h⟩) fun _=>os fun h=>by cases h) fun x hx=>oc (fun hx'=>?_) fun _=>oi b0 (by omega) fun _ _=>oi g0 (by omega) fun _ _=>?_
    ·refine fj (by omega) (by omega) (os ⟨⟨⟨?_,?_⟩,?_⟩,?_⟩) <;> dsimp only <;> rw [hw] <;> (try simp only [List.length_append,List.length_singleton]) <;> omega
    ·obtain ⟨h1,h2⟩:=hx hx'
     refine oi b0 (by omega) fun y hy=>?_
     have:=e6 y hy
     refine oi g0 (by omega) fun _ _=>fj (by omega) (by omega) (os ⟨⟨⟨?_,?_⟩,?_⟩,?_⟩) <;> dsimp only <;> rw [hw] <;> (try simp only [List.length_append,List.length_singleton]) <;> omega
    ·refine fj (by omega) (by omega) (os ⟨⟨⟨?_,?_⟩,?_⟩,?_⟩) <;> dsimp only <;> rw [hw] <;> (try simp only [List.length_append,List.length_singleton]) <;> omega
   ·have hw:=w1 b0 hb (by omega)
    refine fj (by omega) (by omega) (os ⟨⟨⟨?_,?_⟩,?_,kp na (by omega)⟩,?_⟩) <;> dsimp only <;> rw [hw] <;> (try simp only [List.length_append,List.length_singleton]) <;> omega
  all_goals (try dsimp only)
  all_goals omega
theorem PC {i n a b:Int} (i0:0≤i) (i1:i≤a) (n0:0≤n) (n1:n≤b):0≤i * n∧i * n≤a * b:=
 ⟨Int.mul_nonneg i0 n0,Int.mul_le_mul i1 n1 n0 (by omega)⟩
theorem El (i n:Int):(i+1) * n=i * n+n:=by rw [Int.add_mul,Int.one_mul]
theorem GF {i n a:Int} (h1 : ¬ i < a) (h2:i≤a):i * n=a * n:=by rw [show i=a by omega]
theorem Hl {c d:aH} (C:pq 8 40 c) (D:pq 4 20 d):Ok (jO c d) (pq 32 800):=by
 obtain ⟨c0,c1,c2,c3,c4,c5,c6⟩:=C
 obtain ⟨d0,d1,d2,d3,d4,d5,d6⟩:=D
 have bO:∀ {i:Int},0≤i→i≤c.aD→0≤i * d.aD∧i * d.aD≤8 * 4:=fun h0 h1=>PC h0 (by omega) d0 (by omega)
 have bM:∀ {i:Int},0≤i→i≤c.aG.length→0≤i * (d.aG.length:Int)∧i * (d.aG.length:Int)≤40 * 20:=fun h0 h1=>PC h0 (by omega) (by omega) (by omega)
 unfold jO
 refine ly (ol (fun z:Int×List Int=>(0≤z.1∧z.1≤c.aD)∧(z.2.length:Int)=z.1 * d.aD) (fun z=>(c.aD - z.1).toNat) ⟨⟨by show (0:Int)≤0; omega,c0⟩,by show (0:Int)=0 * d.aD; rw [Int.zero_mul]⟩ ?_)
 rintro ⟨i,id⟩ ⟨⟨i0,i1⟩,sF⟩
 dsimp only at i0 i1 sF
 show Ok (lX c d i id) _
 unfold lX
 have hbi:=bO i0 i1
 refine od (fun hi=>?_) fun hi=>os ⟨rfl,?_⟩
 ·refine ol (fun z:Int×List Int=>(0≤z.1∧z.1≤d.aD)∧(z.2.length:Int)=i * d.aD+z.1) (fun z=>(d.aD - z.1).toNat) ⟨⟨by show (0:Int)≤0; omega,d0⟩,by show (id.length:Int)=i * d.aD+0; omega⟩ ?_
  rintro ⟨j,id⟩ ⟨⟨j0,j1⟩,sF⟩
  dsimp only at j0 j1 sF
  show Ok (lW c d i j id) _
  unfold lW
  refine od (fun hj=>?_) fun hj=>os ⟨rfl,?_⟩
  ·have hw:=w1 j0 hj (by omega)
   refine oi i0 (by omega) fun _ _=>oi j0 (by omega) fun _ _=>fj (by omega) (by omega) (os ⟨⟨⟨?_,?_⟩,?_⟩,?_⟩) <;> dsimp only <;> rw [hw] <;> (try simp only [List.length_append,List.length_singleton]) <;> omega
  ·have hw:=w1 i0 hi (by omega)
   have hn:=El i d.aD
   refine os ⟨⟨⟨?_,?_⟩,?_⟩,?_⟩ <;> dsimp only <;> rw [hw] <;> omega
 have hO:=GF (n:=d.aD) hi i1
 refine ol (fun z:Int×List Int×List Int×List (List Int)=>(0≤z.1∧z.1≤c.aG.length)∧(z.2.1.length:Int)=z.1 * (d.aG.length:Int)∧z.2.2.1.length=z.2.1.length∧z.2.2.2.length=z.2.1.length∧∀ y∈z.2.2.2,(y.length:Int)=(c.aG.length:Int) * (d.aG.length:Int)) (fun z=>(c.aG.length - z.1).toNat)
  ⟨⟨by show (0:Int)≤0; omega,by show (0:Int)≤_; omega⟩,by show (0:Int)=0 * (d.aG.length:Int); rw [Int.zero_mul],rfl,rfl,jo⟩ ?_
 rintro ⟨a,f,t,k⟩ ⟨⟨a0,a1⟩,hf,ht,hk,na⟩
 dsimp only at a0 a1 hf ht hk na
 show Ok (mB c d a f t k) _
 unfold mB
 have hba:=bM a0 a1
 have hbc:=bM (i:=(c.aG.length:Int)) (by omega) (by omega)
 refine od (fun ha=>?_) fun ha=>os ⟨rfl,os ?_⟩
 ·refine ol (fun z:Int×List Int×List Int×List (List Int)=>(0≤z.1∧z.1≤d.aG.length)∧(z.2.1.length:Int)=a * (d.aG.length:Int)+z.1∧z.2.2.1.length=z.2.1.length∧z.2.2.2.length=z.2.1.length∧∀ y∈z.2.2.2,(y.length:Int)=(c.aG.length:Int) * (d.aG.length:Int)) (fun z=>(d.aG.length - z.1).toNat)
   ⟨⟨by show (0:Int)≤0; omega,by show (0:Int)≤_; omega⟩,by show (f.length:Int)=a * (d.aG.length:Int)+0; omega,ht,hk,na⟩ ?_
  rintro ⟨b,f,t,k⟩ ⟨⟨b0,b1⟩,hf,ht,hk,na⟩
  dsimp only at b0 b1 hf ht hk na
  show Ok (mA c d a b f t k) _
  unfold mA
  refine od (fun hb=>?_) fun hb=>os ⟨rfl,?_⟩
  ·refine oi a0 (by omega) fun _ _=>oi b0 (by omega) fun _ _=>fj (by omega) (by omega) (oi a0 (by omega) fun _ _=>oi b0 (by omega) fun _ _=>fj (by omega) (by omega) ?_)
   refine ol (fun z:List Int×Int=>(0≤z.2∧z.2≤c.aG.length)∧(z.1.length:Int)=z.2 * (d.aG.length:Int)) (fun z=>(c.aG.length - z.2).toNat) ⟨⟨by show (0:Int)≤0; omega,by show (0:Int)≤_; omega⟩,by show (0:Int)=0 * (d.aG.length:Int); rw [Int.zero_mul]⟩ ?_
   rintro ⟨row,p⟩ ⟨⟨p0,p1⟩,av⟩
   dsimp only at p0 p1 av
   show Ok (lZ c d a b row p) _
   unfold lZ
   have hbp:=bM p0 p1
   refine od (fun hp=>?_) fun hp=>os ⟨rfl,?_⟩
   ·refine ol (fun z:List Int×Int=>(0≤z.2∧z.2≤d.aG.length)∧(z.1.length:Int)=p * (d.aG.length:Int)+z.2) (fun z=>(d.aG.length - z.2).toNat) ⟨⟨by show (0:Int)≤0; omega,by show (0:Int)≤_; omega⟩,by show (row.length:Int)=p * (d.aG.length:Int)+0; omega⟩ ?_
    rintro ⟨row,q⟩ ⟨⟨q0,q1⟩,av⟩
    dsimp only at q0 q1 av
    show Ok (lY c d a b p row q) _
    unfold lY
    refine od (fun hq=>?_) fun hq=>os ⟨rfl,?_⟩
    ·have hw:=w1 q0 hq (by omega)
     refine ob (P:=fun _=>True) (oi a0 (by omega) fun y hy=>?_) fun g _=>oc (fun _=>oi a0 (by omega) fun y hy=>?_) fun _=>?_
     ·have:=c6 y hy
      refine oi p0 (by omega) fun _ _=>od (fun _=>oi b0 (by omega) fun y' NY=>?_) fun _=>os trivial
      have:=d6 y' NY
      exact oi q0 (by omega) fun _ _=>os trivial
     ·have:=c6 y hy
      refine oi p0 (by omega) fun _ _=>oi b0 (by omega) fun y' NY=>?_
      have:=d6 y' NY
      refine oi q0 (by omega) fun _ _=>fj (by omega) (by omega) (os ⟨⟨⟨?_,?_⟩,?_⟩,?_⟩) <;> dsimp only <;> rw [hw] <;> (try simp only [List.length_append,List.length_singleton]) <;> omega
     ·refine fj (by omega) (by omega) (os ⟨⟨⟨?_,?_⟩,?_⟩,?_⟩) <;> dsimp only <;> rw [hw] <;> (try simp only [List.length_append,List.length_singleton]) <;> omega
    ·have hw:=w1 p0 hp (by omega)
     have hn:=El p (d.aG.length:Int)
     refine os ⟨⟨⟨?_,?_⟩,?_⟩,?_⟩ <;> dsimp only <;> rw [hw] <;> omega
   ·have hw:=w1 b0 hb (by omega)
    have hP:=GF (n:=(d.aG.length:Int)) hp p1
    refine fj (by omega) (by omega) (os ⟨⟨⟨?_,?_⟩,?_,?_,?_,kp na (by omega)⟩,?_⟩) <;> dsimp only <;> (try rw [hw]) <;> (try simp only [List.length_append,List.length_singleton]) <;> omega
  ·have hw:=w1 a0 ha (by omega)
   have hn:=El a (d.aG.length:Int)
   refine os ⟨⟨⟨?_,?_⟩,?_,ht,hk,na⟩,?_⟩ <;> dsimp only <;> rw [hw] <;> omega
 ·have hA:=GF (n:=(d.aG.length:Int)) ha a1
  have hbo:=bO c0 (Int.le_refl _)
  have hw:ai (c.aD * d.aD)=c.aD * d.aD:=dT (by omega) (by omega)
  refine ⟨?_,?_,?_,ht,?_,hk,fun y hy=>?_⟩ <;> dsimp only
  ·rw [hw]; omega
  ·rw [hw]; omega
  ·omega
  ·rw [hw]; omega
  ·have:=na y hy; omega
end Go.Proofs.YtcnehblmgfbfoaaGreat
namespace Go.Proofs.YtcnehblmgfbfoaaGreat
open Go Go.Li
structure Dag (n:Int) (f t:List Int):Prop where
 len:t.length=f.length
 TD:f.length≤3
 up:∀ (k:Nat) u v,f[k]? = some u→t[k]? = some v→0≤u∧u < v∧v < n
def wt (v:Int):Nat:=if v=0 then 13 else if v=1 then 4 else 1
def uV (l:List cG):Nat:=(l.map fun p=>wt p.To).sum
def cap (v:Int) (e:Nat):Nat:=if v=0 then 4 * e else if v=1 then e else 0
theorem Lr (l:List cG) (p:cG):uV (l++[p])=uV l+wt p.To:=by simp [uV]
theorem YA (v:Int):1≤wt v:=by unfold wt; split <;> (try split) <;> omega
theorem Ls (l:List cG):l.length≤uV l:=by
 induction l with
 | nil=>exact Nat.le_refl _
 | cons p l ih=>
  have:=YA p.To
  have e:uV (p :: l)=wt p.To+uV l:=by simp [uV]
  rw [e,List.length_cons]; omega
theorem Sk {l:List cG} {k:Nat} {p:cG} (h:l[k]? = some p):uV (l.drop k)=wt p.To+uV (l.drop (k+1)):=by
 have hk:=bf h
 rw [List.getElem?_eq_getElem hk] at h
 rw [List.drop_eq_getElem_cons hk,Option.some.inj h]
 simp [uV]
structure vv (n:Int) (m:Nat) (p:cG):Prop where
 f0:0≤p.aG
 f1:p.aG < n
 t0:0≤p.To
 t1:p.To < n
 e:p.rv.length≤m
theorem Sl {p q:cG} (h:p.rv.length≤1048576):Ok (mN p q) fun _=>True:=by
 unfold mN
 exact ly (oc (fun _=>os trivial) fun _=>oc (fun _=>os trivial) fun _=>oe (R8 _ _ (by omega)) (os trivial))
theorem YB {a b:List Int} (h:a.length≤1048576):Ok (fI a b) fun _=>True:=by
 unfold fI
 refine ly (oc (fun _=>os trivial) fun hl=>?_)
 have hl:(a.length:Int)=b.length:=by simpa using hl
 refine ol (fun i:Int=>0≤i∧i≤a.length) (fun i=>(a.length - i).toNat) ⟨by omega,by omega⟩ fun i hi=>?_
 unfold qY
 refine od (fun h1=>oi hi.1 h1 fun _ _=>oi hi.1 (by omega) fun _ _=>oc (fun _=>os trivial) fun _=>os ⟨⟨?_,?_⟩,?_⟩) fun _=>os ⟨rfl,os trivial⟩
 all_goals (try dsimp only)
 all_goals rw [w1 hi.1 h1 (by omega)]
 all_goals omega
section
variable {n:Int} {f t:List Int} (D:Dag n f t) (n0:0≤n) (n3:n≤3)
include D n0 n3
theorem YC {l0:List cG} {k:Nat} {p0:cG} (hp:l0[k]? = some p0) (hl:∀ (i:Nat) p,l0[i]? = some p→vv n i p) (hw:k+uV (l0.drop k)≤18) {Q:Out (List cG×Int) (List cG)→Prop} {g:List cG×Int→Option (Out (List cG×Int) (List cG))}
  (hg:∀ l e,(∀ (i:Nat) p,l[i]? = some p→vv n i p)→k+1+uV (l.drop (k+1))≤18→Ok (g (l,e)) Q):Ok (ag (ae 4 (af (fun s=>mO f t k s.1 s.2) (l0,(0:Int)))) g) Q:=by
 have hP:=hl k p0 hp
 have hk:=bf hp
 have hd:=Sk hp
 have f3:=D.TD
 refine ol (fun z:List cG×Int=>((0≤z.2∧z.2≤f.length)∧z.1[k]? = some p0)∧(∀ (i:Nat) p,z.1[i]? = some p→vv n i p)∧k+wt p0.To+uV (z.1.drop (k+1))≤18+cap p0.To z.2.toNat) (fun z=>(f.length - z.2).toNat)
  ⟨⟨⟨by show (0:Int)≤0; omega,by show (0:Int)≤_; omega⟩,hp⟩,hl,by show k+wt p0.To+uV (l0.drop (k+1))≤_; omega⟩ ?_
 rintro ⟨l,e⟩ ⟨⟨⟨e0,e1⟩,xK⟩,hl,hs⟩
 dsimp only at e0 e1 xK hl hs
 have Dr:=bf xK
 have hlen:l.length≤1000:=by
  have h1:=Ls (l.drop (k+1))
  rw [List.length_drop] at h1
  have:cap p0.To e.toNat≤12:=by unfold cap; split <;> (try split) <;> omega
  omega
 show Ok (mO f t k l e) _
 unfold mO
 refine od (fun he=>?_) fun he=>os ⟨rfl,hg l e hl ?_⟩
 ·have hw:=w1 e0 he (by omega)
  have hu:f[e.toNat]? = some (f[e.toNat]'(by omega)):=List.getElem?_eq_getElem _
  have hv:t[e.toNat]? = some (t[e.toNat]'(by have:=D.len; omega)):=List.getElem?_eq_getElem _
  have up:=D.up _ _ _ hu hv
  have eu:idx f e=some (f[e.toNat]'(by omega)):=by rw [wD e0]; exact hu
  have ev:idx t e=some (t[e.toNat]'(by have:=D.len; omega)):=by rw [wD e0]; exact hv
  have ek:idx l (k:Int)=some p0:=by rw [bn]; exact xK
  generalize f[e.toNat]'(by omega)=u at *
  generalize t[e.toNat]'(by have:=D.len; omega)=v at *
  refine oe eu (oe ek (oc (fun h=>?_) fun h=>os ⟨⟨⟨⟨?_,?_⟩,xK⟩,hl,?_⟩,?_⟩))
  ·have h:u=p0.To:=by simpa using h
   have hpe:=hP.e
   refine oe ek (oe ev (oe ek (oe (mx _ (by omega)) (fj (by omega) (by omega) (fj (by omega) (by omega) (os ⟨⟨⟨⟨?_,?_⟩,?_⟩,?_,?_⟩,?_⟩))))))
   ·dsimp only; rw [hw]; omega
   ·dsimp only; rw [hw]; omega
   ·dsimp only; rw [List.getElem?_append_left Dr]; exact xK
   ·intro i p hi
    dsimp only at hi
    by_cases sW:i < l.length
    ·rw [List.getElem?_append_left sW] at hi; exact hl i p hi
    ·rw [List.getElem?_append_right (by omega)] at hi
     have wu:i - l.length=0:=by
      have:=bf hi
      rw [List.length_singleton] at this; omega
     rw [wu] at hi
     have hi:=Option.some.inj hi
     rw [← hi]
     refine ⟨hP.f0,hP.f1,?_,?_,?_⟩ <;> dsimp only
     ·omega
     ·omega
     ·rw [List.length_append,List.length_singleton]; omega
   ·dsimp only
    rw [hw,List.drop_append_of_le_length (by omega),Lr]
    have e2:(e+1).toNat=e.toNat+1:=by omega
    rw [e2]
    have h1:0≤p0.To:=hP.t0
    have hc:wt v+cap p0.To e.toNat≤cap p0.To (e.toNat+1):=by
     unfold cap wt
     by_cases z0:p0.To=0
     ·rw [if_pos z0,if_pos z0]
      rw [if_neg (by omega)]
      split <;> omega
     ·by_cases z1:p0.To=1
      ·rw [if_neg z0,if_neg z0,if_pos z1,if_pos z1,if_neg (by omega),if_neg (by omega)]; omega
      ·omega
    show k+wt p0.To+(uV (l.drop (k+1))+wt v)≤_
    omega
   ·dsimp only; rw [hw]; omega
  ·dsimp only; rw [hw]; omega
  ·dsimp only; rw [hw]; omega
  ·dsimp only; rw [hw]
   have e2:(e+1).toNat=e.toNat+1:=by omega
   rw [e2]
   have:cap p0.To e.toNat≤cap p0.To (e.toNat+1):=by unfold cap; split <;> (try split) <;> omega
   omega
  ·dsimp only; rw [hw]; omega
 ·have:cap p0.To e.toNat+1≤wt p0.To:=by
   have hm:e.toNat≤3:=by omega
   unfold cap wt
   split
   ·omega
   ·split <;> omega
  omega
theorem YD:Ok (qI n f t) fun l=>l.length≤18∧∀ p∈l,vv n 18 p:=by
 unfold qI
 refine ly (ol (fun z:List cG×Int=>(0≤z.2∧z.2≤n)∧(z.1.length:Int)=z.2∧(∀ (i:Nat) p,z.1[i]? = some p→vv n i p)∧uV z.1≤(if z.2=0 then 0 else if z.2=1 then 13 else if z.2=2 then 17 else 18)) (fun z=>(n - z.2).toNat)
  ⟨⟨by show (0:Int)≤0; omega,n0⟩,rfl,(fun i p h=>by simp at h),Nat.le_refl _⟩ ?_)
 rintro ⟨l,x⟩ ⟨⟨x0,x1⟩,hl,hp,hw⟩
 dsimp only at x0 x1 hl hp hw
 show Ok (pW n l x) _
 unfold pW
 refine od (fun hx=>?_) fun hx=>os ⟨rfl,?_⟩
 ·have w9:=w1 x0 hx (by omega)
  refine fj (by omega) (by omega) (os ⟨⟨⟨?_,?_⟩,?_,?_,?_⟩,?_⟩)
  ·dsimp only; rw [w9]; omega
  ·dsimp only; rw [w9]; omega
  ·dsimp only; rw [w9,List.length_append,List.length_singleton]; omega
  ·intro i p hi
   dsimp only at hi
   by_cases sW:i < l.length
   ·rw [List.getElem?_append_left sW] at hi; exact hp i p hi
   ·rw [List.getElem?_append_right (by omega)] at hi
    have wu:i - l.length=0:=by
     have:=bf hi
     rw [List.length_singleton] at this; omega
    rw [wu] at hi
    rw [← Option.some.inj hi]
    exact ⟨x0,hx,x0,hx,Nat.zero_le _⟩
  ·dsimp only
   rw [w9,Lr]
   show uV l+wt x≤_
   unfold wt
   by_cases h0:x=0
   ·subst h0; simp at hw ⊢; omega
   ·by_cases h1:x=1
    ·subst h1; simp at hw ⊢; omega
    ·obtain rfl:x=2:=by omega
     simp at hw ⊢; omega
  ·dsimp only; rw [w9]; omega
 ·have hw0:uV l≤18:=by
   refine Nat.le_trans hw ?_
   split
   ·omega
   ·split
    ·omega
    ·split <;> omega
  refine ol (fun z:List cG×Int=>0≤z.2∧(∀ (i:Nat) p,z.1[i]? = some p→vv n i p)∧z.2.toNat+uV (z.1.drop z.2.toNat)≤18) (fun z=>(19 - z.2).toNat) ⟨by show (0:Int)≤0; omega,hp,by show 0+uV (l.drop 0)≤18; rw [List.drop_zero]; omega⟩ ?_
  rintro ⟨l,k⟩ ⟨k0,hp,hw⟩
  dsimp only at k0 hp hw
  obtain ⟨k,rfl⟩ : ∃ m:Nat,k=m:=⟨k.toNat,by omega⟩
  rw [Int.toNat_natCast] at hw
  have Lt:l.length≤18:=by
   have:=Ls (l.drop k)
   rw [List.length_drop] at this; omega
  show Ok (pX f t l k) _
  unfold pX
  refine ob (P:=fun b=>b=true→(k:Int) < l.length) (od (fun h=>os fun _=>h) fun _=>os fun h=>by cases h) fun b hb=>oc (fun cg=>?_) fun _=>os ⟨rfl,?_⟩
  ·have Dr:=hb cg
   have hg:l[k]? = some (l[k]'(by omega)):=List.getElem?_eq_getElem _
   refine YC D n0 n3 hg hp hw fun l' e BU w9=>os ⟨⟨?_,BU,?_⟩,?_⟩
   ·dsimp only; rw [bB (by omega)]; omega
   ·dsimp only; rw [bB (by omega),Int.toNat_natCast]; exact w9
   ·dsimp only; rw [bB (by omega)]; omega
  ·have fk:∀ p∈l,vv n 18 p:=fun p h=>by
    obtain ⟨i,hi⟩:=List.getElem?_of_mem h
    have:=hp i p hi
    have uB:=bf hi
    exact ⟨this.f0,this.f1,this.t0,this.t1,by have:=this.e; omega⟩
   refine ol (fun z:List cG×Int=>1≤z.2∧z.1.length≤18∧∀ p∈z.1,vv n 18 p) (fun z=>(19 - z.2).toNat) ⟨by show (1:Int)≤1; omega,Lt,fk⟩ ?_
   rintro ⟨l,i⟩ ⟨i0,hl,hp⟩
   dsimp only at i0 hl hp
   show Ok (pZ l i) _
   unfold pZ
   refine od (fun hi=>?_) fun _=>os ⟨rfl,os ⟨hl,hp⟩⟩
   refine ol (fun z:List cG×Int=>(0≤z.2∧z.2 < z.1.length)∧z.1.length≤18∧∀ p∈z.1,vv n 18 p) (fun z=>z.2.toNat) ⟨⟨by show 0≤i; omega,hi⟩,hl,hp⟩ ?_
   rintro ⟨l,j⟩ ⟨⟨j0,j1⟩,hl,hp⟩
   dsimp only at j0 j1 hl hp
   show Ok (pY l j) _
   unfold pY
   refine ob (P:=fun b=>b=true→0 < j) (od (fun h=>?_) fun _=>os fun h=>by cases h) fun b hb=>oc (fun cg=>?_) fun _=>os ⟨rfl,os ⟨⟨?_,hl,hp⟩,?_⟩⟩
   ·rw [dT (a:=j - 1) (by omega) (by omega)]
    refine oi j0 j1 fun p n9=>oi (by omega) (by omega) fun q _=>?_
    have:=(hp p n9).e
    exact ob (Sl (by omega)) fun _ _=>os fun _=>h
   ·have h:=hb cg
    rw [dT (a:=j - 1) (by omega) (by omega)]
    refine oi j0 j1 fun p n9=>oi (by omega) (by omega) fun q hq=>oi j0 j1 fun _ _=>oi (by omega) (by rw [List.length_set]; omega) fun _ _=>os ⟨⟨⟨?_,?_⟩,?_,tF (tF hp (hp q hq)) (hp p n9)⟩,?_⟩ <;> dsimp only <;> (try rw [List.length_set,List.length_set]) <;> omega
   ·dsimp only; rw [dT (by omega) (by omega)]; omega
   ·dsimp only; rw [dT (by omega) (by omega)]; omega
theorem GG:Ok (jK n f t) (pq 3 18):=by
 unfold jK
 refine ly (ob (YD D n0 n3) fun l hl=>?_)
 obtain ⟨hl,hp⟩:=hl
 refine JS n0 (by omega) (by omega) ?_
 refine ol (fun z:Int×List Int×List Int×List Int=>(0≤z.1∧z.1≤l.length)∧(z.2.1.length:Int)=z.1∧(z.2.2.1.length:Int)=z.1∧(z.2.2.2.length:Int)=n) (fun z=>(l.length - z.1).toNat) ⟨⟨by show (0:Int)≤0; omega,by show (0:Int)≤_; omega⟩,rfl,rfl,by show ((List.replicate _ _).length:Int)=n; rw [List.length_replicate]; omega⟩ ?_
 rintro ⟨i,a,b,id⟩ ⟨⟨i0,i1⟩,ha,hb,sF⟩
 dsimp only at i0 i1 ha hb sF
 show Ok (nL l i a b id) _
 unfold nL
 refine od (fun hi=>?_) fun hi=>os ⟨rfl,?_⟩
 ·have hw:=w1 i0 hi (by omega)
  refine oi i0 hi fun _ _=>fj (by omega) (by omega) (oi i0 hi fun _ _=>fj (by omega) (by omega) (oi i0 hi fun _ _=>oc (fun _=>oi i0 hi fun p n9=>?_) fun _=>os ⟨⟨⟨?_,?_⟩,?_,?_,sF⟩,?_⟩))
  ·have h:=hp p n9
   refine oi h.f0 (by have:=h.f1; omega) fun _ _=>os ⟨⟨⟨?_,?_⟩,?_,?_,?_⟩,?_⟩ <;> dsimp only <;> (try rw [hw]) <;> (try simp only [List.length_append,List.length_singleton,List.length_set]) <;> omega
  all_goals (try dsimp only)
  all_goals (try rw [hw])
  all_goals (try simp only [List.length_append,List.length_singleton])
  all_goals omega
 ·have fits:Ok (eT (aH.mk n a b id [])) fun y=>y=true:=by
   unfold eT
   refine ly (ob (P:=fun y=>y=true) (od (fun _=>os (decide_eq_true (by show (a.length:Int)≤40; omega))) fun h=>absurd (show n≤8 by omega) h) fun y hy=>os hy)
  refine ob fits fun y hy=>?_
  subst hy
  show Ok (ag (ae 2 (af (fun s=>kL l s.1 s.2) ((0:Int),([]:(List (List Int)))))) _) _
  refine ol (fun z:Int×List (List Int)=>(0≤z.1∧z.1≤l.length)∧(z.2.length:Int)=z.1∧∀ y∈z.2,y.length=a.length) (fun z=>(l.length - z.1).toNat) ⟨⟨by show (0:Int)≤0; omega,by show (0:Int)≤_; omega⟩,rfl,jo⟩ ?_
  rintro ⟨j,k⟩ ⟨⟨j0,j1⟩,hk,na⟩
  dsimp only at j0 j1 hk na
  show Ok (kL l j k) _
  unfold kL
  refine od (fun hj=>?_) fun hj=>os ⟨rfl,os ⟨n0,?_,?_,?_,sF,?_,na⟩⟩
  ·refine ol (fun z:List Int×Int=>(0≤z.2∧z.2≤l.length)∧(z.1.length:Int)=z.2) (fun z=>(l.length - z.2).toNat) ⟨⟨by show (0:Int)≤0; omega,by show (0:Int)≤_; omega⟩,rfl⟩ ?_
   rintro ⟨row,g⟩ ⟨⟨g0,g1⟩,av⟩
   dsimp only at g0 g1 av
   show Ok (nN l j row g) _
   unfold nN
   refine od (fun hg=>?_) fun hg=>os ⟨rfl,?_⟩
   ·have hw:=w1 g0 hg (by omega)
    refine oi j0 hj fun _ _=>oi g0 hg fun _ _=>oc (fun _=>oi j0 hj fun p n9=>?_) fun _=>?_
    ·have h1:=(hp p n9).e
     refine oe (mx _ (by omega)) (oi g0 hg fun q hq=>?_)
     have h2:=(hp q hq).e
     refine fj (by omega) (by omega) ?_
     refine ol (fun z:Int×Int=>0≤z.2∧z.2≤l.length) (fun z=>(l.length - z.2).toNat) ⟨by show (0:Int)≤0; omega,by show (0:Int)≤_; omega⟩ ?_
     rintro ⟨c,h⟩ ⟨c0,c1⟩
     dsimp only at c0 c1
     show Ok (nM l j p.rv q c h) _
     unfold nM
     refine od (fun hh=>?_) fun hh=>os ⟨rfl,?_⟩
     ·have hw:=w1 c0 hh (by omega)
      refine ob (P:=fun _=>True) (oi c0 hh fun _ _=>oi j0 hj fun _ _=>oc (fun _=>oi c0 hh fun r hr=>?_) fun _=>os trivial) fun _ _=>oc (fun _=>os ⟨⟨?_,?_⟩,?_⟩) fun _=>os ⟨⟨?_,?_⟩,?_⟩
      ·have:=(hp r hr).e
       exact ob (YB (by omega)) fun _ _=>os trivial
      all_goals (try dsimp only)
      all_goals rw [hw]
      all_goals omega
     ·refine fj (by omega) (by omega) (os ⟨⟨⟨?_,?_⟩,?_⟩,?_⟩) <;> dsimp only <;> rw [hw] <;> (try simp only [List.length_append,List.length_singleton]) <;> omega
    ·refine fj (by omega) (by omega) (os ⟨⟨⟨?_,?_⟩,?_⟩,?_⟩) <;> dsimp only <;> rw [hw] <;> (try simp only [List.length_append,List.length_singleton]) <;> omega
   ·have hw:=w1 j0 hj (by omega)
    refine fj (by omega) (by omega) (os ⟨⟨⟨?_,?_⟩,?_,kp na (by omega)⟩,?_⟩) <;> dsimp only <;> rw [hw] <;> (try simp only [List.length_append,List.length_singleton]) <;> omega
  all_goals (try dsimp only)
  all_goals omega
end
end Go.Proofs.YtcnehblmgfbfoaaGreat
namespace Go.Proofs.YtcnehblmgfbfoaaGreat
open Go Go.Li
theorem sq1:Sq 1 [[(1:Int)]]:=⟨rfl,by simp⟩
theorem JT:Ok (eB [[(1:Int)]]) (pq 1 4):=Lq (by omega) sq1
section
variable {x:List Int} (B:Fe x)
include B
theorem CH {s:aL} (S:Src x s) {n:Nat} (hn:n≤4) {l:List (List Int)} (h:Sq n l) {f:aH→Option (Out Unit (aH×aL))} (hf:∀ c,pq 4 20 c→Ok (f c) (Rt fun y=>pq 4 20 y.1∧Src x y.2)):Ok (eB l>>=f) (Rt fun y=>pq 4 20 y.1∧Src x y.2):=by
 have _:=B
 have _:=S
 exact ob (Lq hn h) fun c hc=>hf c (hc.mono hn (by omega))
theorem BB {s:aL} (S:Src x s):Ok (gR s) fun y=>pq 4 20 y.1∧Src x y.2:=by
 unfold gR
 refine ly (ob (db B S _) fun y hy=>?_)
 have T:=S.on (h:=y.2.aj) hy.2
 refine oc (fun _=>?_) fun _=>oc (fun _=>?_) fun _=>oc (fun _=>?_) fun _=>oc (fun _=>?_) fun _=>oc (fun _=>?_) fun _=>oc (fun _=>?_) fun _=>oc (fun _=>?_) fun _=>oc (fun _=>?_) fun _=>oc (fun _=>?_) fun _=>oc (fun _=>?_) fun _=>oc (fun _=>?_) fun _=>?_
 ·refine ob (db B T _) fun z hz=>?_
  have h:=hz.1.2 (by omega)
  obtain ⟨n,hn⟩ : ∃ n:Nat,z.1=n:=⟨z.1.toNat,by have:=hz.1.1; omega⟩
  rw [hn]
  refine ob (F6 B (S.on hz.2) (n:=n) (by omega)) fun r hr=>CH B S (by omega) hr.1 fun c hc=>os ⟨hc,S.on hr.2⟩
 ·exact CH B S (n:=2) (by omega) ⟨rfl,by simp⟩ fun c hc=>os ⟨hc,T⟩
 ·exact CH B S (n:=3) (by omega) ⟨rfl,by simp⟩ fun c hc=>os ⟨hc,T⟩
 ·refine ob (GG (n:=2) (f:=[0,0]) (t:=[1,1]) ⟨rfl,by decide,fun k u v hu hv=>?_⟩ (by omega) (by omega)) fun c hc=>os ⟨hc.mono (by omega) (by omega),T⟩
  rcases k with _ | _ | k <;> simp at hu hv <;> omega
 ·refine ob (Ek B T) fun m hm=>?_
  obtain ⟨⟨n,_,hn,hq⟩,hs⟩:=hm
  exact ob (BA hn hq) fun c hc=>os ⟨hc.1.mono (by omega) (by omega),S.on hs⟩
 ·refine ob (db B T _) fun z hz=>?_
  have h:=hz.1.2 (by omega)
  have h0:=hz.1.1
  obtain ⟨n,hn,TJ⟩ : ∃ n:Nat,ai ((1:Int)+z.1)=n∧n≤4:=⟨(1+z.1).toNat,by rw [dT (by omega) (by omega)]; omega,by omega⟩
  refine ol (fun w:List (List Int)×Int=>(0≤w.2∧w.2≤n)∧(w.1.length:Int)=w.2∧∀ y∈w.1,y.length=n) (fun w=>(n - w.2).toNat) ⟨⟨by show (0:Int)≤0; omega,by show (0:Int)≤_; omega⟩,rfl,jo⟩ ?_
  rintro ⟨l,i⟩ ⟨⟨i0,i1⟩,hl,hr⟩
  dsimp only at i0 i1 hl hr
  show Ok (mT z l i) _
  unfold mT
  rw [hn]
  refine od (fun hi=>?_) fun hi=>os ⟨rfl,?_⟩
  ·refine ol (fun w:List Int×Int=>(0≤w.2∧w.2≤n)∧(w.1.length:Int)=w.2) (fun w=>(n - w.2).toNat) ⟨⟨by show (0:Int)≤0; omega,by show (0:Int)≤_; omega⟩,rfl⟩ ?_
   rintro ⟨row,j⟩ ⟨⟨j0,j1⟩,av⟩
   dsimp only at j0 j1 av
   show Ok (mS z row j) _
   unfold mS
   rw [hn]
   refine od (fun hj=>?_) fun hj=>os ⟨rfl,?_⟩
   ·have hw:=w1 j0 hj (by omega)
    refine fj (by omega) (by omega) (os ⟨⟨⟨?_,?_⟩,?_⟩,?_⟩) <;> dsimp only <;> rw [hw] <;> (try simp only [List.length_append,List.length_singleton]) <;> omega
   ·have hw:=w1 i0 hi (by omega)
    refine fj (by omega) (by omega) (os ⟨⟨⟨?_,?_⟩,?_,kp hr (by omega)⟩,?_⟩) <;> dsimp only <;> rw [hw] <;> (try simp only [List.length_append,List.length_singleton]) <;> omega
  ·exact CH B S TJ ⟨by omega,hr⟩ fun c hc=>os ⟨hc,S.on hz.2⟩
 ·refine ob (GG (n:=3) (f:=[0,1,0]) (t:=[1,2,2]) ⟨rfl,by decide,fun k u v hu hv=>?_⟩ (by omega) (by omega)) fun c hc=>os ⟨hc.mono (by omega) (by omega),T⟩
  rcases k with _ | _ | _ | k <;> simp at hu hv <;> omega
 ·exact ob US fun c hc=>os ⟨hc.mono (by omega) (by omega),T⟩
 ·refine ob (Ek B T) fun m hm=>?_
  obtain ⟨⟨n,_,hn,hq⟩,hs⟩:=hm
  refine ob (BA hn hq) fun c hc=>ob JT fun d hd=>ob (PB hc.1 hd) fun e he=>ob (afx he (by omega) (by omega)) fun o ho=>os ⟨ho.mono (by omega) (by omega),S.on hs⟩
 ·refine ob (Ek B T) fun m hm=>?_
  obtain ⟨⟨n,_,hn,hq⟩,hs⟩:=hm
  refine ob (BA hn hq) fun c hc=>ob JT fun d hd=>ob (PB hc.1 hd) fun e he=>os ⟨he.mono (by omega) (by omega),S.on hs⟩
 ·refine ob (db B T _) fun z hz=>?_
  have h:=hz.1.2 (by omega)
  have h0:=hz.1.1
  obtain ⟨n,hn,TJ⟩ : ∃ n:Nat,ai ((2:Int)+z.1)=n∧n≤4:=⟨(2+z.1).toNat,by rw [dT (by omega) (by omega)]; omega,by omega⟩
  rw [hn]
  exact ob (F6 B (S.on hz.2) TJ) fun r hr=>CH B S TJ hr.1 fun c hc=>os ⟨hc,S.on hr.2⟩
 ·refine ob (db B T _) fun z hz=>?_
  have h:=hz.1.2 (by omega)
  have h0:=hz.1.1
  have hn:ai ((2:Int)+z.1)=2+z.1:=dT (by omega) (by omega)
  refine ob (db B (S.on hz.2) _) fun k hk=>?_
  have hk1:=hk.1.2 (by omega)
  have N8:=hk.1.1
  refine ol (fun w:List Int×List Int×Int×Int×Int=>(0≤w.2.2.1∧w.2.2.1≤3)∧((w.1.length:Int)=k.1 - w.2.2.1∧w.2.1.length=w.1.length)∧(0≤w.2.2.2.1∧w.2.2.2.1≤x.length)∧∀ (i:Nat) u v,w.1[i]? = some u→w.2.1[i]? = some v→0≤u∧u < v∧v < 2+z.1) (fun w=>w.2.2.1.toNat)
   ⟨⟨N8,by show k.1≤3; omega⟩,⟨by show (0:Int)=k.1 - k.1; omega,rfl⟩,⟨hk.2.a0,hk.2.a1⟩,fun i u v hu=>by simp at hu⟩ ?_
  rintro ⟨f,t,i,a,g⟩ ⟨⟨i0,i1⟩,⟨hf,ht⟩,⟨a0,a1⟩,hd⟩
  dsimp only at i0 i1 hf ht a0 a1 hd
  show Ok (mU s z f t i a g) _
  unfold mU
  rw [hn,dT (a:=2+z.1 - 1) (by omega) (by omega)]
  refine od (fun hi=>?_) fun hi=>os ⟨rfl,?_⟩
  ·refine ob (db B (S.at_ a0 a1) _) fun u hu=>?_
   have u1:=hu.1.2 (by omega)
   have u0:=hu.1.1
   rw [dT (a:=2+z.1 - 1 - u.1) (by omega) (by omega)]
   refine fj (by omega) (by omega) (ob (db B (S.on hu.2) _) fun v hv=>fj (by omega) (by omega) ?_)
   have v1:=hv.1.2 (by omega)
   have v0:=hv.1.1
   rw [dT (a:=u.1+1) (by omega) (by omega),dT (a:=u.1+1+v.1) (by omega) (by omega),dT (a:=i - 1) (by omega) (by omega)]
   refine os ⟨⟨⟨?_,?_⟩,⟨?_,?_⟩,⟨hv.2.a0,hv.2.a1⟩,?_⟩,?_⟩
   ·dsimp only; omega
   ·dsimp only; omega
   ·dsimp only; rw [List.length_append,List.length_singleton]; omega
   ·dsimp only; rw [List.length_append,List.length_append,ht]; rfl
   ·intro j p q hp hq
    dsimp only at hp hq
    by_cases hj:j < f.length
    ·rw [List.getElem?_append_left hj] at hp
     rw [List.getElem?_append_left (by omega)] at hq
     exact hd j p q hp hq
    ·have BU:=bf hp
     rw [List.length_append,List.length_singleton] at BU
     have ej:j=f.length:=by omega
     rw [List.getElem?_append_right (by omega),ej,Nat.sub_self] at hp
     rw [List.getElem?_append_right (by omega),ej,ht,Nat.sub_self] at hq
     have hp:=Option.some.inj hp
     have hq:=Option.some.inj hq
     omega
   ·dsimp only; omega
  ·refine ob (GG (n:=2+z.1) (f:=f) (t:=t) ⟨ht,by omega,hd⟩ (by omega) (by omega)) fun c hc=>os ⟨hc.mono (by omega) (by omega),S.at_ a0 a1⟩
theorem YE {s:aL} (S:Src x s) (o m:Int):Ok (oB s o m) fun y=>pq 8 800 y.1∧Src x y.2:=by
 unfold oB
 refine ly (ol (fun z:Int×Int×Int=>(0≤z.1∧z.1≤12)∧0≤z.2.1∧z.2.1≤x.length) (fun z=>(12 - z.1).toNat) ⟨⟨by show (0:Int)≤0; omega,by show (0:Int)≤12; omega⟩,S.a0,S.a1⟩ ?_)
 rintro ⟨i,a,h⟩ ⟨⟨i0,i1⟩,a0,a1⟩
 dsimp only at i0 i1 a0 a1
 show Ok (oA s o m i a h) _
 unfold oA
 have last:∀ (c:aH) (t:aL) (a b:Nat),b≤800→pq a b c→Src x t→∀ {E:Int×Int×Int→Prop} {G:aH×aL→Prop},(∀ c t,pq 8 800 c→Src x t→G (c,t))→i < 12→
   Ok (((bif decide (c.aD≤o) then (bif decide ((c.aG.length:Int)≤m) then ((eT c)>>=fun y=>some y) else some false) else some false)>>=fun g=>(bif g then (some (Out.ret (c,aL.mk s.Code t.At t.aj))) else (some (Out.norm (ai (i+1),t.At,t.aj))))))
    (Stp (S1:=Int×Int×Int) 0 (fun z:Int×Int×Int=>(0≤z.1∧z.1≤12)∧0≤z.2.1∧z.2.1≤x.length) (fun z=>(12 - z.1).toNat) (12 - i).toNat E G):=by
  intro c t a b hb hc ht E G hG hi
  have fits:Ok (eT c) fun y=>y=true→c.aD≤8:=by
   unfold eT
   exact ly (ob (P:=fun y=>y=true→c.aD≤8) (od (fun h=>os fun _=>h) fun _=>os fun h=>by cases h) fun y hy=>os hy)
  refine ob (P:=fun y=>y=true→c.aD≤8) (od (fun _=>od (fun _=>ob fits fun y hy=>os hy) fun _=>os fun h=>by cases h) fun _=>os fun h=>by cases h) fun g hg=>oc (fun fw=>os ?_) fun _=>os ⟨⟨⟨?_,?_⟩,ht.a0,ht.a1⟩,?_⟩
  ·exact hG c _ ⟨hc.o0,hg fw,Nat.le_trans hc.m hb,hc.t,hc.i,hc.k,hc.r⟩ (S.on ht)
  all_goals (try dsimp only)
  all_goals rw [w1 i0 hi (by omega)]
  all_goals omega
 refine od (fun hi=>?_) fun hi=>os ⟨rfl,ob JT fun c hc=>os ⟨hc.mono (by omega) (by omega),S.at_ a0 a1⟩⟩
 refine ob (BB B (S.at_ a0 a1)) fun y hy=>ob (db B (S.on hy.2) _) fun z hz=>oc (fun _=>?_) fun _=>?_
 ·refine ob (BB B (S.on hz.2)) fun u hu=>ob (TH hy.1 hu.1 (by omega) (by omega)) fun v hv=>ob (db B (S.on hu.2) _) fun w hw=>oc (fun _=>?_) fun _=>?_
  ·exact ob (BB B (S.on hw.2)) fun p hp=>ob (Hl hv.1 hp.1) fun q hq=>last q p.2 32 800 (by omega) hq hp.2 (fun c t hc ht=>⟨hc,ht⟩) hi
  ·exact last v w.2 8 40 (by omega) hv.1 hw.2 (fun c t hc ht=>⟨hc,ht⟩) hi
 ·refine ob (db B (S.on hz.2) _) fun w hw=>oc (fun _=>?_) fun _=>?_
  ·exact ob (BB B (S.on hw.2)) fun p hp=>ob (Hl (hy.1.mono (by omega) (by omega)) hp.1) fun q hq=>last q p.2 32 800 (by omega) hq hp.2 (fun c t hc ht=>⟨hc,ht⟩) hi
  ·exact last y.1 w.2 4 20 (by omega) hy.1 hw.2 (fun c t hc ht=>⟨hc,ht⟩) hi
theorem PD {s:aL} (S:Src x s) {c:aH} (C:pq 8 800 c):Ok (mD s c) fun y=>dk y.1∧Src x y.2:=by
 have hC:=C.small (by omega) (by omega)
 have hm:=C.m
 have hk:=C.k
 have ht:=C.t
 have hi:=C.i
 have o0:=C.o0
 have o8:=C.o
 unfold mD
 refine ly (oe (tn hC) (ob (db B S _) fun y hy=>ob (db B (S.on hy.2) _) fun z hz=>?_))
 have T:=S.on (h:=z.2.aj) hz.2
 have same:dk c∧Src x (aL.mk s.Code z.2.At z.2.aj):=⟨hC,T⟩
 have cell:Ok (bif decide ((c.aG.length:Int) > (0:Int)) then ((idx c.aB (y.1))>>=fun e=>((aZ (aL.mk s.Code z.2.At z.2.aj) ((c.aG.length:Int)))>>=fun u=>((aZ (aL.mk s.Code u.2.At u.2.aj) (ai ((c.aG.length:Int)+(1:Int))))>>=fun v=>((idx e (u.1))>>=fun _=>(some (Out.ret (S:=Unit) ((aH.mk c.aD c.aG c.To c.aI (c.aB.set (y.1).toNat (e.set (u.1).toNat (ai (v.1 - (1:Int)))))),(aL.mk s.Code v.2.At v.2.aj)))))))) else (some (Out.ret (c,(aL.mk s.Code z.2.At z.2.aj))))) (Rt fun y=>dk y.1∧Src x y.2):=by
  refine od (fun h=>oi hy.1.1 (by have:=hy.1.2 (by omega); omega) fun e he=>ob (db B T _) fun u hu=>ob (db B (S.on hu.2) _) fun v hv=>?_) fun _=>os same
  have hr:=C.r e he
  refine oi hu.1.1 (by have:=hu.1.2 (by omega); omega) fun _ _=>os ⟨⟨hC.f,hC.t,hC.i,?_,tF hC.r ?_⟩,S.on hv.2⟩
  ·show (List.set _ _ _).length≤_; rw [List.length_set]; exact hC.k
  ·show (List.set _ _ _).length≤_; rw [List.length_set]; omega
 refine oc (fun _=>ob (Pz B T (l:=[ai (c.aD+(1:Int)),(-1:Int),(9:Int)]) (by simp)) fun p hp=>os ⟨⟨hC.f,hC.t,hC.i,hC.k,hC.r⟩,S.on hp.2⟩) fun _=>oc (fun _=>fj (by omega) (by omega) (os ⟨⟨?_,hC.t,hC.i,hC.k,hC.r⟩,T⟩)) fun _=>
  oc (fun _=>od (fun h=>ob (db B T _) fun p hp=>oi (by omega) (by omega) fun _ _=>os ⟨⟨hC.f,hC.t,?_,hC.k,hC.r⟩,S.on hp.2⟩) fun _=>os same) fun _=>oc (fun _=>cell) fun _=>oc (fun _=>cell) fun _=>oc (fun _=>cell) fun _=>
  oc (fun _=>od (fun h=>ob (db B T _) fun p hp=>oi hy.1.1 (by have:=hy.1.2 (by omega); omega) fun _ _=>os ⟨⟨hC.f,?_,hC.i,hC.k,hC.r⟩,S.on hp.2⟩) fun _=>os same) fun _=>od (fun h=>oi hy.1.1 (by have:=hy.1.2 (by omega); omega) fun e he=>?_) fun _=>os same
 ·show (c.aG++[(0:Int)]).length≤_; rw [List.length_append,List.length_singleton]; omega
 ·show (List.set _ _ _).length≤_; rw [List.length_set]; exact hC.i
 ·show (List.set _ _ _).length≤_; rw [List.length_set]; exact hC.t
 ·have hr:=C.r e he
  have etl:tl e (1:Int)=some (e.drop 1):=by
   unfold tl
   rw [aw (by omega),cond_true]; rfl
  refine oe etl (oi hy.1.1 (by have:=hy.1.2 (by omega); omega) fun _ _=>os ⟨⟨hC.f,hC.t,hC.i,?_,tF hC.r ?_⟩,T⟩)
  ·show (List.set _ _ _).length≤_; rw [List.length_set]; exact hC.k
  ·rw [List.length_drop]; omega
theorem PE {s:aL} (S:Src x s) (o m:Int):Ok (mE s o m) fun y=>dk y.1∧Src x y.2:=by
 unfold mE
 exact ly (ob (YE B S o m) fun y hy=>ob (db B (S.on hy.2) _) fun z hz=>oc (fun _=>ob (PD B (S.on hz.2) hy.1) fun u hu=>os ⟨hu.1,S.on hu.2⟩) fun _=>os ⟨hy.1.small (by omega) (by omega),S.on hz.2⟩)
end
end Go.Proofs.YtcnehblmgfbfoaaGreat
