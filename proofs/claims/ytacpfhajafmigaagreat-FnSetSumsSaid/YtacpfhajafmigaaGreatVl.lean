/- Partitions, as the reference reckons them. No condition beside those that each theorem names. -/
import Derived.Test.YtacpfhajafmigaaGreatVc
import Derived.Test.YtacpfhajafmigaaGreatPk
namespace Go.Proofs.YtacpfhajafmigaaGreat
open Go Go.Li
def Fst (l:List Int) (n y:Int):Prop:=(y = -1∧∀ k:Nat,l[k]?≠some n)∨∃ k:Nat,y=k∧l[k]? = some n∧∀ j:Nat,j < k→l[j]?≠some n
theorem Fst.det {l:List Int} {n y z:Int} (h:Fst l n y) (k:Fst l n z):y=z:=by
 rcases h with ⟨rfl,h⟩ | ⟨a,rfl,h1,h2⟩
 ·rcases k with ⟨rfl,_⟩ | ⟨b,rfl,k1,_⟩
  ·rfl
  ·exact absurd k1 (h b)
 ·rcases k with ⟨rfl,k⟩ | ⟨b,rfl,k1,k2⟩
  ·exact absurd h1 (k a)
  ·rcases Nat.lt_trichotomy a b with hab | rfl | hab
   ·exact absurd h1 (k2 a hab)
   ·rfl
   ·exact absurd k1 (h2 b hab)
theorem Fst.pos {l:List Int} {n y:Int} (h:Fst l n y) (hy:0≤y):y < l.length∧l[y.toNat]? = some n:=by
 rcases h with ⟨rfl,_⟩ | ⟨k,rfl,h1,_⟩
 ·omega
 ·exact ⟨by have:=(List.getElem?_eq_some_iff.1 h1).1; omega,h1⟩
theorem Fst.of_mem {l:List Int} {n y:Int} (h:Fst l n y) (hm:n∈l):0≤y:=by
 rcases h with ⟨_,h⟩ | ⟨k,rfl,_⟩
 ·obtain ⟨k,hk⟩:=List.getElem?_of_mem hm
  exact absurd hk (h k)
 ·omega
theorem Fst.app {l:List Int} {n y m:Int} (h:Fst l n y) (hy:0≤y):Fst (l++[m]) n y:=by
 rcases h with ⟨rfl,_⟩ | ⟨k,rfl,h1,h2⟩
 ·omega
 ·have hk:=(List.getElem?_eq_some_iff.1 h1).1
  exact .inr ⟨k,rfl,by rw [List.getElem?_append_left hk]; exact h1,fun j hj=>by rw [List.getElem?_append_left (by omega)]; exact h2 j hj⟩
theorem Fst.new {l:List Int} {n y:Int} (h:Fst l n y) (hy:y < 0):Fst (l++[n]) n (l.length:Int):=by
 rcases h with ⟨_,h⟩ | ⟨k,rfl,_⟩
 ·refine .inr ⟨l.length,rfl,by simp,fun j hj=>?_⟩
  rw [List.getElem?_append_left hj]
  exact h j
 ·omega
theorem index_ok {l:List Int} {n:Int} (hl:l.length≤1048576):Ok (jP l n) (Fst l n):=by
 unfold jP
 refine orr (ol (fun s:Int=>(0≤s∧s≤l.length)∧∀ k:Nat,(k:Int) < s→l[k]?≠some n) (fun s=>(l.length - s).toNat) ⟨⟨Int.le_refl _,by omega⟩,fun k hk=>by omega⟩ ?_)
 rintro s ⟨⟨s0,s1⟩,hs⟩
 unfold pN
 refine od (fun h=>?_) fun h=>os ⟨rfl,os (.inl ⟨rfl,fun k hk=>?_⟩)⟩
 ·obtain ⟨i,rfl⟩ : ∃ i:Nat,s=i:=⟨s.toNat,by omega⟩
  refine oe (bS s0 h) ?_
  have hg:l[i]? = some (gi l i):=by
   have:=bS s0 h
   rwa [idx_nat] at this
  refine oc (fun e=>os ?_) fun e=>os ⟨⟨⟨?_,?_⟩,fun k hk=>?_⟩,?_⟩
  ·exact .inr ⟨i,rfl,by rw [hg,of_decide_eq_true e],fun j hj=>hs j (by omega)⟩
  ·rw [w1 s0 h (by omega)]; omega
  ·rw [w1 s0 h (by omega)]; omega
  ·rw [w1 s0 h (by omega)] at hk
   rcases (by omega:k < i∨k=i) with h3 | rfl
   ·exact hs k (by omega)
   ·rw [hg]
    intro h4
    have:gi l k=n:=Option.some.inj h4
    rw [this] at e
    simp at e
  ·dsimp only; rw [w1 s0 h (by omega)]; omega
 ·have:=(List.getElem?_eq_some_iff.1 hk).1
  exact hs k (by omega) hk
def Rg (q:List Int):Prop:=∀ y∈q,∀ z:Int,0≤z→z≤y→z∈q
theorem classes_ok {l:List Int} (hl:l.length≤1048576):Ok (kG l) fun q=>q.length=l.length∧(∀ y∈q,0≤y∧y < l.length)∧(∀ i j:Nat,i < l.length→l[i]? = l[j]?→q[i]? = q[j]?)∧Rg q:=by
 unfold kG
 refine orr (ol (fun z:List Int×List Int×Int=>(0≤z.2.2∧z.2.2≤l.length)∧(z.1.length:Int)=z.2.2∧(z.2.1.length:Int)≤z.2.2∧(∀ k:Nat,(k:Int) < z.2.2→∃ a:Int,0≤a∧z.1[k]? = some a∧∃ n,l[k]? = some n∧Fst z.2.1 n a)∧∀ k:Nat,k < z.2.1.length→(k:Int)∈z.1) (fun z=>(l.length - z.2.2).toNat) ⟨⟨by show (0:Int)≤0; omega,by show (0:Int)≤_; omega⟩,rfl,by show (0:Int)≤0; omega,fun k hk=>by have:(k:Int) < 0:=hk; omega,fun k hk=>absurd hk (Nat.not_lt_zero _)⟩ ?_)
 rintro ⟨out,seen,s⟩ ⟨⟨s0,s1⟩,ho,hn,hk,hz⟩
 dsimp only at s0 s1 ho hn hk hz
 show Ok (kT l out seen s) _
 unfold kT
 refine od (fun h=>?_) fun h=>os ⟨rfl,os ⟨by omega,fun y hy=>?_,fun i j hi hij=>?_,fun y hy z z0 z1=>?_⟩⟩
 ·obtain ⟨i,rfl⟩ : ∃ i:Nat,s=i:=⟨s.toNat,by omega⟩
  have hg:l[i]? = some (gi l i):=by
   have:=bS s0 h
   rwa [idx_nat] at this
  refine oe (bS s0 h) (ob (index_ok (by omega)) fun y hy=>?_)
  have hw:=w1 s0 h (by omega)
  refine od (fun hneg=>oe (bS s0 h) (oft (by omega) (by omega) (oft (by omega) (by omega) (os ⟨⟨⟨?_,?_⟩,?_,?_,fun k hk'=>?_,fun k hkz=>?_⟩,?_⟩)))) fun hpos=>oft (by omega) (by omega) (os ⟨⟨⟨?_,?_⟩,?_,?_,fun k hk'=>?_,fun k hkz=>?_⟩,?_⟩)
  all_goals first | (dsimp only at hk'; rw [hw] at hk') | skip
  all_goals dsimp only
  all_goals first | (rw [hw]; simp only [List.length_append,List.length_singleton]; omega) | (rw [hw]; omega) | skip
  ·rcases (by omega:k < i∨k=i) with h3 | rfl
   ·obtain ⟨a,a0,e,n,e2,hf⟩:=hk k (by omega)
    exact ⟨a,a0,by rw [List.getElem?_append_left (by omega)]; exact e,n,e2,hf.app a0⟩
   ·refine ⟨seen.length,by omega,?_,gi l k,hg,hy.new hneg⟩
    rw [List.getElem?_append_right (by omega),show k - out.length=0 by omega]; rfl
  ·simp only [List.length_append,List.length_singleton] at hkz
   rcases (by omega:k < seen.length∨k=seen.length) with h3 | rfl
   ·exact List.mem_append_left _ (hz k h3)
   ·exact List.mem_append_right _ (List.mem_singleton.2 rfl)
  ·rcases (by omega:k < i∨k=i) with h3 | rfl
   ·obtain ⟨a,a0,e,n,e2,hf⟩:=hk k (by omega)
    exact ⟨a,a0,by rw [List.getElem?_append_left (by omega)]; exact e,n,e2,hf⟩
   ·refine ⟨y,by omega,?_,gi l k,hg,hy⟩
    rw [List.getElem?_append_right (by omega),show k - out.length=0 by omega]; rfl
  ·exact List.mem_append_left _ (hz k hkz)
 ·obtain ⟨k,hk2⟩:=List.getElem?_of_mem hy
  have hlt:=(List.getElem?_eq_some_iff.1 hk2).1
  obtain ⟨a,a0,e,n,e2,hf⟩:=hk k (by omega)
  rw [e] at hk2
  obtain rfl:=Option.some.inj hk2
  have:=(hf.pos a0).1
  omega
 ·have hj:j < l.length:=by
   rw [List.getElem?_eq_getElem hi] at hij
   exact (List.getElem?_eq_some_iff.1 hij.symm).1
  obtain ⟨a,a0,e,n,e2,hf⟩:=hk i (by omega)
  obtain ⟨b,b0,e',n',e2',hf'⟩:=hk j (by omega)
  rw [e2,e2'] at hij
  obtain rfl:=Option.some.inj hij
  rw [e,e',hf.det hf']
 ·obtain ⟨k,hk2⟩:=List.getElem?_of_mem hy
  have hlt:=(List.getElem?_eq_some_iff.1 hk2).1
  obtain ⟨a,a0,e,n,e2,hf⟩:=hk k (by omega)
  rw [e] at hk2
  obtain rfl:=Option.some.inj hk2
  have:=(hf.pos a0).1
  have:=hz z.toNat (by omega)
  rwa [show ((z.toNat:Nat):Int)=z by omega] at this
def relab (a b x:Int):Int:=if x=b then a else x
theorem relab_self (a x:Int):relab a a x=x:=by unfold relab; split <;> simp_all
theorem relab_loop {S R:Type} {k:Nat} {f:Int×List Int→Option (Out S R)} {Q:Out S R→Prop} {lab:List Int} {a b:Int} (hl:lab.length≤1048576) {body:Int×List Int→Option (Out (Int×List Int) R)}
  (hb:∀ i o,body (i,o)=(((bif decide (i < (o.length:Int)) then (some (a != b)) else (some false)))>>=fun g72=>(bif g72 then ((idx o i)>>=fun e78=>(bif e78 == b then ((idx o i)>>=fun _=>(some (Out.norm (w64 (i+(1:Int)),o.set i.toNat a)))) else (some (Out.norm (w64 (i+(1:Int)),o))))) else (some (Out.exit k (i,o))))))
  (h:∀ i,Ok (f (i,lab.map (relab a b))) Q):Ok (lbind (blockM k (loopM body ((0:Int),lab))) f) Q:=by
 refine ol (fun z:Int×List Int=>(0≤z.1∧z.1≤lab.length)∧z.2.length=lab.length∧∀ m:Nat,z.2[m]? = if (m:Int) < z.1 then (lab[m]?).map (relab a b) else lab[m]?) (fun z=>(lab.length - z.1).toNat) ⟨⟨by show (0:Int)≤0; omega,by show (0:Int)≤_; omega⟩,rfl,fun m=>by rw [if_neg (by show ¬ (m:Int) < 0; omega)]⟩ ?_
 rintro ⟨i,o⟩ ⟨⟨i0,i1⟩,ho,hm⟩
 dsimp only at i0 i1 ho hm
 rw [hb]
 have fin:(¬ (i < (o.length:Int)∧a≠b))→o=lab.map (relab a b):=by
  intro hn
  refine List.ext_getElem? fun m=>?_
  rw [hm m,List.getElem?_map]
  by_cases hab:a=b
  ·subst hab
   have e:(relab a a)=id:=funext fun x=>relab_self a x
   rw [e]
   cases lab[m]? <;> simp
  ·have : ¬ i < (o.length:Int):=fun h=>hn ⟨h,hab⟩
   by_cases hmi:(m:Int) < i
   ·rw [if_pos hmi]
   ·rw [if_neg hmi,List.getElem?_eq_none (by omega)]; rfl
 refine ob (P:=fun g=>g=true↔(i < (o.length:Int)∧a≠b)) (od (fun h1=>os ?_) fun h1=>os ?_) fun g hg=>oc (fun e=>?_) fun e=>os ⟨rfl,?_⟩
 ·by_cases hab:a=b <;> simp [hab,h1]
 ·simp [h1]
 ·obtain ⟨h1,hab⟩:=hg.1 e
  obtain ⟨n,rfl⟩ : ∃ n:Nat,i=n:=⟨i.toNat,by omega⟩
  have hgo:o[n]? = some (gi o n):=by
   have:=bS i0 h1
   rwa [idx_nat] at this
  have hgl:lab[n]? = some (gi o n):=by rw [← hgo,hm n,if_neg (by omega)]
  have hw:=w1 i0 h1 (by omega)
  refine oe (bS i0 h1) (oc (fun eb=>oe (bS i0 h1) (os ⟨⟨⟨?_,?_⟩,?_,fun m=>?_⟩,?_⟩)) fun eb=>os ⟨⟨⟨?_,?_⟩,?_,fun m=>?_⟩,?_⟩)
  all_goals dsimp only
  all_goals first | (rw [hw]; omega) | (rw [List.length_set]; exact ho) | exact ho | skip
  ·rw [hw,show ((n:Int)).toNat=n from rfl,List.getElem?_set]
   by_cases hmn:n=m
   ·subst hmn
    rw [if_pos rfl,if_pos (by omega),if_pos (by omega),hgl]
    have:gi o n=b:=of_decide_eq_true eb
    simp [relab,this]
   ·rw [if_neg hmn,hm m]
    by_cases hmi:(m:Int) < n
    ·rw [if_pos hmi,if_pos (by omega)]
    ·rw [if_neg hmi,if_neg (by omega)]
  ·rw [hw,hm m]
   by_cases hmn:m=n
   ·subst hmn
    rw [if_neg (by omega),if_pos (by omega),hgl]
    have : ¬ gi o m=b:=fun h=>by rw [h] at eb; simp at eb
    simp [relab,this]
   ·by_cases hmi:(m:Int) < n
    ·rw [if_pos hmi,if_pos (by omega)]
    ·rw [if_neg hmi,if_neg (by omega)]
 ·rw [fin fun h=>by rw [hg.2 h] at e; cases e]
  exact h i
def Prs (n:Int) (ps:List (List Int)):Prop:=∀ r∈ps,∃ a b t,r=a :: b :: t∧(0≤a∧a < n)∧(0≤b∧b < n)
theorem join_ok {n:Int} {ps:List (List Int)} (n0:0≤n) (n1:n≤1048576) (hp:ps.length≤1048576) (h:Prs n ps) :
  Ok (gM n ps) fun q=>(q.length:Int)=n∧(∀ y∈q,0≤y∧y < n)∧(∀ r∈ps,∀ a b t,r=a :: b :: t→q[a.toNat]? = q[b.toNat]?)∧Rg q:=by
 unfold gM
 refine orr (ol (fun z:List Int×Int=>(0≤z.2∧z.2≤n)∧(z.1.length:Int)=z.2) (fun z=>(n - z.2).toNat) ⟨⟨by show (0:Int)≤0; omega,n0⟩,rfl⟩ ?_)
 rintro ⟨l,i⟩ ⟨⟨i0,i1⟩,hl⟩
 dsimp only at i0 i1 hl
 show Ok (nG n l i) _
 unfold nG
 refine od (fun hi=>?_) fun hi=>os ⟨rfl,?_⟩
 ·have hw:=w1 i0 hi (by omega)
  refine oft (by omega) (by omega) (os ⟨⟨⟨?_,?_⟩,?_⟩,?_⟩) <;> dsimp only <;> rw [hw] <;> (try simp only [List.length_append,List.length_singleton]) <;> omega
 ·dsimp only
  refine ol (fun z:Int×List Int=>(0≤z.1∧z.1≤ps.length)∧(z.2.length:Int)=n∧∀ k:Nat,(k:Int) < z.1→∀ a b t,ps[k]? = some (a :: b :: t)→z.2[a.toNat]? = z.2[b.toNat]?) (fun z=>(ps.length - z.1).toNat) ⟨⟨by show (0:Int)≤0; omega,by show (0:Int)≤_; omega⟩,by dsimp only; omega,fun k hk=>by have:(k:Int) < 0:=hk; omega⟩ ?_
  rintro ⟨s,lab⟩ ⟨⟨s0,s1⟩,hlab,hk⟩
  dsimp only at s0 s1 hlab hk
  show Ok (nH ps s lab) _
  unfold nH
  refine od (fun hs=>?_) fun hs=>os ⟨rfl,?_⟩
  ·obtain ⟨m,rfl⟩ : ∃ m:Nat,s=m:=⟨s.toNat,by omega⟩
   have hgo:ps[m]? = some (gr ps m):=by
    have:=idx_gr s0 hs
    rwa [idx_nat] at this
   obtain ⟨a,b,t,er,ha,hb⟩:=h _ (gr_mem s0 hs)
   refine oe (idx_gr s0 hs) ?_
   rw [er]
   refine oe (x:=a) rfl (oe (bS ha.1 (by omega)) (oe (idx_gr s0 hs) ?_))
   rw [er]
   refine oe (x:=b) rfl (oe (bS hb.1 (by omega)) ?_)
   refine relab_loop (by omega) (fun i o=>rfl) fun i=>os ⟨⟨⟨?_,?_⟩,?_,fun k hk' a' b' t' e'=>?_⟩,?_⟩
   all_goals have hw:=w1 s0 hs (by omega)
   all_goals first | (dsimp only at hk'; rw [hw] at hk') | skip
   all_goals dsimp only
   all_goals first | (rw [hw]; omega) | (rw [List.length_map]; exact hlab) | skip
   rw [List.getElem?_map,List.getElem?_map]
   rcases (by omega:k < m∨k=m) with h3 | rfl
   ·rw [hk k (by omega) a' b' t' e']
   ·rw [hgo,er] at e'
    obtain ⟨rfl,rfl,rfl⟩ : a=a'∧b=b'∧t=t':=by simpa using e'
    have e1:lab[a.toNat]? = some (gi lab a):=by rw [← idx_of ha.1]; exact bS ha.1 (by omega)
    have e2:lab[b.toNat]? = some (gi lab b):=by rw [← idx_of hb.1]; exact bS hb.1 (by omega)
    rw [e1,e2]
    simp [relab]
  ·dsimp only
   refine ob (classes_ok (by omega)) fun q hq=>os ⟨by omega,fun y hy=>by have:=hq.2.1 y hy; omega,fun r hr a b t e=>?_,hq.2.2.2⟩
   obtain ⟨k,hkr⟩:=List.getElem?_of_mem hr
   have hlt:=(List.getElem?_eq_some_iff.1 hkr).1
   obtain ⟨a',b',t',e',ha,hb⟩:=h r hr
   rw [e] at e'
   obtain ⟨rfl,rfl,rfl⟩ : a=a'∧b=b'∧t=t':=by simpa using e'
   exact hq.2.2.1 _ _ (by omega) (hk k (by omega) a b t (by rw [hkr,e]))
theorem pairs_ok {p:List Int} (hl:p.length≤1048575):Ok (jQ p) fun ps=>ps.length=p.length∧Prs p.length ps∧∀ i j:Nat,i < p.length→p[i]? = p[j]?→∃ y:Int,∃ a b t,(a :: b :: t)∈ps∧(∃ a' b' t',(a' :: b' :: t')∈ps∧a=y∧a'=y∧b=i∧b'=j):=by
 unfold jQ
 refine orr (ol (fun z:List (List Int)×Int=>(0≤z.2∧z.2≤p.length)∧(z.1.length:Int)=z.2∧∀ k:Nat,(k:Int) < z.2→∃ y n:Int,z.1[k]? = some [y,(k:Int)]∧0≤y∧p[k]? = some n∧Fst p n y) (fun z=>(p.length - z.2).toNat) ⟨⟨by show (0:Int)≤0; omega,by show (0:Int)≤_; omega⟩,rfl,fun k hk=>by have:(k:Int) < 0:=hk; omega⟩ ?_)
 rintro ⟨l,s⟩ ⟨⟨s0,s1⟩,hl2,hk⟩
 dsimp only at s0 s1 hl2 hk
 show Ok (mI p l s) _
 unfold mI
 refine od (fun hs=>?_) fun hs=>os ⟨rfl,os ⟨by omega,fun r hr=>?_,fun i j hi hij=>?_⟩⟩
 ·obtain ⟨m,rfl⟩ : ∃ m:Nat,s=m:=⟨s.toNat,by omega⟩
  have hgo:p[m]? = some (gi p m):=by
   have:=bS s0 hs
   rwa [idx_nat] at this
  have hw:=w1 s0 hs (by omega)
  refine oe (bS s0 hs) (ob (index_ok (by omega)) fun y hy=>oft (by omega) (by omega) (os ⟨⟨⟨?_,?_⟩,?_,fun k hk'=>?_⟩,?_⟩))
  all_goals first | (dsimp only at hk'; rw [hw] at hk') | skip
  all_goals dsimp only
  all_goals first | (rw [hw]; simp only [List.length_append,List.length_singleton]; omega) | (rw [hw]; omega) | skip
  rcases (by omega:k < m∨k=m) with h3 | rfl
  ·obtain ⟨y',n,e,y0,e2,hf⟩:=hk k (by omega)
   exact ⟨y',n,by rw [List.getElem?_append_left (by omega)]; exact e,y0,e2,hf⟩
  ·refine ⟨y,gi p k,?_,hy.of_mem (gi_mem s0 hs),hgo,hy⟩
   rw [List.getElem?_append_right (by omega),show k - l.length=0 by omega]; rfl
 ·obtain ⟨k,hkr⟩:=List.getElem?_of_mem hr
  have hlt:=(List.getElem?_eq_some_iff.1 hkr).1
  obtain ⟨y,n,e,y0,e2,hf⟩:=hk k (by omega)
  rw [hkr] at e
  obtain rfl:=Option.some.inj e
  have:=(hf.pos y0).1
  exact ⟨y,k,[],rfl,⟨y0,this⟩,by omega,by omega⟩
 ·have hj:j < p.length:=by
   rw [List.getElem?_eq_getElem hi] at hij
   exact (List.getElem?_eq_some_iff.1 hij.symm).1
  obtain ⟨y,n,e,y0,e2,hf⟩:=hk i (by omega)
  obtain ⟨y',n',e',y0',e2',hf'⟩:=hk j (by omega)
  rw [e2,e2'] at hij
  obtain rfl:=Option.some.inj hij
  obtain rfl:=hf.det hf'
  exact ⟨y,y,i,[],List.mem_of_getElem? e,y,j,[],List.mem_of_getElem? e',rfl,rfl,rfl,rfl⟩
theorem glue_ok {p:List Int} (hl:p.length≤100000) {u v:Int} (hu:0≤u∧u < p.length) (hv:0≤v∧v < p.length) {n:Int} (hn:n=p.length) {S:Type} {f:List Int→Option S} {Q:S→Prop}
  (h:∀ q:List Int,q.length=p.length→(∀ y∈q,0≤y∧y < n)→(∀ i j:Nat,i < p.length→p[i]? = p[j]?→q[i]? = q[j]?)→q[u.toNat]? = q[v.toNat]?→Rg q→Ok (f q) Q) :
  Ok (jQ p>>=fun y209=>(fits 24 (y209.length+1))>>=fun _=>(gM n (y209++[([u,v]:List Int)]))>>=f) Q:=by
 refine ob (pairs_ok (by omega)) fun ps hps=>oft (by rw [hps.1]; omega) (by rw [hps.1]; omega) ?_
 have hP:Prs n (ps++[[u,v]]):=by
  intro r hr
  rcases List.mem_append.1 hr with hr | hr
  ·obtain ⟨a,b,t,e,ha,hb⟩:=hps.2.1 r hr
   exact ⟨a,b,t,e,by omega,by omega⟩
  ·rw [List.mem_singleton.1 hr]
   exact ⟨u,v,[],rfl,by omega,by omega⟩
 refine ob (join_ok (by omega) (by omega) (by rw [List.length_append,hps.1,List.length_singleton]; omega) hP) fun q hq=>h q (by omega) hq.2.1 (fun i j hi hij=>?_) (hq.2.2.1 [u,v] (List.mem_append_right _ (by simp)) u v [] rfl) hq.2.2.2
 obtain ⟨y,a,b,t,hm,a',b',t',hm',rfl,e1,rfl,rfl⟩:=hps.2.2 i j hi hij
 have h1:=hq.2.2.1 _ (List.mem_append_left _ hm) a i t rfl
 have h2:=hq.2.2.1 _ (List.mem_append_left _ hm') a' j t' rfl
 rw [e1] at h2
 rw [show ((i:Int)).toNat=i from rfl] at h1
 rw [show ((j:Int)).toNat=j from rfl] at h2
 rw [← h1,← h2]
end Go.Proofs.YtacpfhajafmigaaGreat
