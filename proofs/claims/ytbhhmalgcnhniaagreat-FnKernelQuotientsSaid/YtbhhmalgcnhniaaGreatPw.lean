/- Partitions in normal form: classes are numbered in the order of their first places. No condition beside those that each theorem names. -/
import Derived.Test.YtbhhmalgcnhniaaGreatYa
import Derived.Test.YtbhhmalgcnhniaaGreatVj
import Derived.Test.YtbhhmalgcnhniaaGreatPe
set_option linter.unusedVariables false
set_option linter.unusedSectionVars false
set_option linter.unusedSimpArgs false
namespace Go.Proofs.YtbhhmalgcnhniaaGreat
open Go Go.Li
set_option linter.unusedVariables false
set_option linter.unusedSectionVars false
set_option linter.unusedSimpArgs false
def Gw (o:Int→Int) (i:Int):Prop:=(∃ j:Int,0≤j∧j < i∧o j=o i)∨(∀ j:Int,0≤j→j < i→o j < o i)∧∀ v:Int,0≤v→v < o i→∃ j:Int,0≤j∧j < i∧o j=v
structure Nz (K:Int→Int→Prop) (n:Nat) (q:List Int):Prop where
 len:q.length=n
 k:∀ i j:Int,0≤i→i < n→0≤j→j < n→(gi q i=gi q j↔K i j)
 p:∀ i:Int,0≤i→i < n→0≤gi q i
 g:∀ i:Int,0≤i→i < n→Gw (gi q) i
theorem Nz.mono {K K':Int→Int→Prop} {n:Nat} {q:List Int} (h:Nz K n q) (e:∀ i j:Int,0≤i→i < n→0≤j→j < n→(K i j↔K' i j)):Nz K' n q:=
 ⟨h.len,fun i j i0 i1 j0 j1=>(h.k i j i0 i1 j0 j1).trans (e i j i0 i1 j0 j1),h.p,h.g⟩
theorem Nz.uniq {K:Int→Int→Prop} {n:Nat} {q q':List Int} (h:Nz K n q) (h':Nz K n q'):q=q':=by
 have key:∀ (m:Nat) (i:Int),i.toNat=m→0≤i→i < n→gi q i=gi q' i:=by
  intro m
  induction m using Nat.strongRecOn with
  | ind m ih=>
   intro i hm i0 i1
   have low:∀ j:Int,0≤j→j < i→gi q j=gi q' j:=fun j j0 j1=>ih j.toNat (by omega) j rfl j0 (by omega)
   rcases h.g i i0 i1 with ⟨j,j0,j1,e⟩ | ⟨hl,hz⟩
   ·have e2:gi q' j=gi q' i:=(h'.k j i j0 (by omega) i0 i1).2 ((h.k j i j0 (by omega) i0 i1).1 e)
    rw [← e,← e2]
    exact low j j0 j1
   ·rcases h'.g i i0 i1 with ⟨j,j0,j1,e⟩ | ⟨xB,Gq⟩
    ·have e2:gi q j=gi q i:=(h.k j i j0 (by omega) i0 i1).2 ((h'.k j i j0 (by omega) i0 i1).1 e)
     have:=hl j j0 j1
     omega
    ·have p:=h.p i i0 i1
     have p':=h'.p i i0 i1
     rcases Int.lt_trichotomy (gi q i) (gi q' i) with av | he | av
     ·obtain ⟨j,j0,j1,e⟩:=Gq (gi q i) p av
      have:=hl j j0 j1
      have:=low j j0 j1
      omega
     ·exact he
     ·obtain ⟨j,j0,j1,e⟩:=hz (gi q' i) p' av
      have:=xB j j0 j1
      have:=low j j0 j1
      omega
 have l1:=h.len
 have l2:=h'.len
 exact sc (by omega) fun j j0 j1=>key _ j rfl j0 (by omega)
structure Nw (l:List Int) (i:Int) (L:Int→Int→Prop) (c:Int) (o:Int→Int):Prop where
 a:∀ j:Int,0≤j→j < i→L (gi l j) (o j)
 b:∀ y z v,L y v→L z v→y=z
 dt:∀ y v w,L y v→L y w→v=w
 r:∀ y v,L y v→0≤v∧v < c
 s:∀ v:Int,0≤v→v < c→∃ j:Int,0≤j∧j < i∧o j=v
 g:∀ j:Int,0≤j→j < i→Gw o j
theorem Gw.same {o o':Int→Int} {i:Int} (i0:0≤i) (h:Gw o i) (e:∀ j:Int,0≤j→j≤i→o' j=o j):Gw o' i:=by
 rcases h with ⟨j,j0,j1,h⟩ | ⟨h1,h2⟩
 ·exact .inl ⟨j,j0,j1,by rw [e j j0 (by omega),e i i0 (by omega)]; exact h⟩
 ·refine .inr ⟨fun j j0 j1=>?_,fun v v0 v1=>?_⟩
  ·rw [e j j0 (by omega),e i i0 (by omega)]; exact h1 j j0 j1
  ·rw [e i i0 (by omega)] at v1
   obtain ⟨j,j0,j1,h⟩:=h2 v v0 v1
   exact ⟨j,j0,j1,by rw [e j j0 (by omega)]; exact h⟩
theorem Nw.nil {l:List Int} {L:Int→Int→Prop} {o:Int→Int} (h:∀ y v,¬ L y v):Nw l 0 L 0 o:=
 ⟨fun j j0 j1=>by omega,fun y z v hy=>absurd hy (h y v),fun y v w hy=>absurd hy (h y v),fun y v hy=>absurd hy (h y v),fun v v0 v1=>by omega,fun j j0 j1=>by omega⟩
theorem Nw.YB {l:List Int} {i c:Int} {L L':Int→Int→Prop} {o o':Int→Int} (h:Nw l i L c o) (i0:0≤i) (c0:0≤c) (eo:∀ j:Int,0≤j→j < i→o' j=o j) (ei:o' i=c)
  (hL:∀ y v,L y v→L' y v) (hn:L' (gi l i) c) (b:∀ y z v,L' y v→L' z v→y=z) (d:∀ y v w,L' y v→L' y w→v=w) (r:∀ y v,L' y v→0≤v∧v < c+1):Nw l (i+1) L' (c+1) o':=by
 refine ⟨fun j j0 j1=>?_,b,d,r,fun v v0 v1=>?_,fun j j0 j1=>?_⟩
 ·rcases (by omega:j < i∨j=i) with h1 | rfl
  ·rw [eo j j0 h1]; exact hL _ _ (h.a j j0 h1)
  ·rw [ei]; exact hn
 ·rcases (by omega:v < c∨v=c) with h1 | rfl
  ·obtain ⟨j,j0,j1,e⟩:=h.s v v0 h1
   exact ⟨j,j0,by omega,by rw [eo j j0 j1]; exact e⟩
  ·exact ⟨i,i0,by omega,ei⟩
 ·rcases (by omega:j < i∨j=i) with h1 | rfl
  ·exact (h.g j j0 h1).same j0 fun k k0 k1=>eo k k0 (by omega)
  ·refine .inr ⟨fun k k0 k1=>?_,fun v v0 v1=>?_⟩
   ·rw [ei,eo k k0 k1]; exact (h.r _ _ (h.a k k0 k1)).2
   ·rw [ei] at v1
    obtain ⟨k,k0,k1,e⟩:=h.s v v0 v1
    exact ⟨k,k0,k1,by rw [eo k k0 k1]; exact e⟩
theorem Nw.YC {l:List Int} {i c:Int} {L:Int→Int→Prop} {o o':Int→Int} (h:Nw l i L c o) (i0:0≤i) {v:Int} (hv:L (gi l i) v) (eo:∀ j:Int,0≤j→j < i→o' j=o j) (ei:o' i=v):Nw l (i+1) L c o':=by
 refine ⟨fun j j0 j1=>?_,h.b,h.dt,h.r,fun v v0 v1=>?_,fun j j0 j1=>?_⟩
 ·rcases (by omega:j < i∨j=i) with h1 | rfl
  ·rw [eo j j0 h1]; exact h.a j j0 h1
  ·rw [ei]; exact hv
 ·obtain ⟨j,j0,j1,e⟩:=h.s v v0 v1
  exact ⟨j,j0,by omega,by rw [eo j j0 j1]; exact e⟩
 ·rcases (by omega:j < i∨j=i) with h1 | rfl
  ·exact (h.g j j0 h1).same j0 fun k k0 k1=>eo k k0 (by omega)
  ·obtain ⟨k,k0,k1,e⟩:=h.s v (h.r _ _ hv).1 (h.r _ _ hv).2
   exact .inl ⟨k,k0,k1,by rw [ei,eo k k0 k1]; exact e⟩
theorem Nw.Vy {l q:List Int} {c:Int} {L:Int→Int→Prop} {o:Int→Int} (h:Nw l l.length L c o) (hl:q.length=l.length) (e:∀ j:Int,0≤j→j < l.length→gi q j=o j):Nz (fun i j=>gi l i=gi l j) l.length q:=by
 refine ⟨hl,fun i j i0 i1 j0 j1=>?_,fun i i0 i1=>?_,fun i i0 i1=>(h.g i i0 i1).same i0 fun k k0 k1=>e k k0 (by omega)⟩
 ·rw [e i i0 i1,e j j0 j1]
  have h1:=h.a i i0 i1
  have h2:=h.a j j0 j1
  exact ⟨fun h3=>h.b _ _ _ (h3 ▸ h1) h2,fun h3=>h.dt _ _ _ (h3 ▸ h1) h2⟩
 ·rw [e i i0 i1]; exact (h.r _ _ (h.a i i0 i1)).1
theorem EB {l:List Int} (hl:l.length≤1048576):Ok (lU l) (Nz (fun i j=>gi l i=gi l j) l.length):=by
 unfold lU
 rw [ur (by omega) (by omega),aE]
 refine ew (ol (fun s:Int×List (Int×Int)×List Int=>(0≤s.1∧s.1≤l.length)∧s.2.2.length=l.length∧Nw l s.1 (fun y v=>ie s.2.1 y=some v) s.2.1.length (gi s.2.2)) (fun s=>(l.length - s.1).toNat) ⟨⟨by show (0:Int)≤0; omega,by show (0:Int)≤_; omega⟩,by simp,Nw.nil fun y v h=>(nomatch h)⟩ ?_)
 rintro ⟨s,m,o⟩ ⟨⟨s0,s1⟩,ho,hN⟩
 dsimp only at s0 s1 ho hN
 show Ok (nJ l s m o) _
 unfold nJ
 refine od (fun h=>?_) fun h=>os ⟨rfl,os ?_⟩
 ·have hw:=w1 s0 h (by omega)
  have low:∀ (v j:Int),0≤j→j < s→gi (o.set s.toNat v) j=gi o j:=fun v j j0 j1=>by rw [jo s0 (by omega) j0,if_neg (by omega)]
  have top:∀ v:Int,gi (o.set s.toNat v) s=v:=fun v=>by rw [jo s0 (by omega) s0,if_pos rfl]
  refine oe (aZ s0 h) (oc (fun hb=>?_) fun hb=>?_)
  ·have Kn:ie m (gi l s)=none:=by
    cases hg:ie m (gi l s) with
    | none=>rfl
    | some j=>rw [hg] at hb; simp at hb
   refine oe (aZ s0 (by omega)) (os ⟨⟨⟨by dsimp only; rw [hw]; omega,by dsimp only; rw [hw]; omega⟩,by dsimp only; rw [List.length_set]; exact ho,?_⟩,by dsimp only; rw [hw]; omega⟩)
   dsimp only
   rw [hw,Pr Kn]
   refine hN.YB s0 (by omega) (low _) (top _) (fun y v hy=>?_) ?_ (fun y z v hy hz=>?_) (fun y v w hy hz=>?_) fun y v hy=>?_
   ·rw [sy,if_neg (fun e=>by rw [e,Kn] at hy; cases hy)]; exact hy
   ·rw [sy,if_pos rfl]
   ·rw [sy] at hy hz
    split at hy <;> split at hz
    ·rename_i e1 e2; rw [e1,e2]
    ·have:=(hN.r _ _ hz).2; cases hy; omega
    ·have:=(hN.r _ _ hy).2; cases hz; omega
    ·exact hN.b _ _ _ hy hz
   ·rw [hy] at hz; cases hz; rfl
   ·rw [sy] at hy
    split at hy
    ·cases hy; omega
    ·have:=hN.r _ _ hy; omega
  ·obtain ⟨c,hc⟩ : ∃ c,ie m (gi l s)=some c:=by
    cases hg:ie m (gi l s) with
    | none=>rw [hg] at hb; simp at hb
    | some j=>exact ⟨j,rfl⟩
   refine oe (aZ s0 (by omega)) (os ⟨⟨⟨by dsimp only; rw [hw]; omega,by dsimp only; rw [hw]; omega⟩,by dsimp only; rw [List.length_set]; exact ho,?_⟩,by dsimp only; rw [hw]; omega⟩)
   dsimp only
   rw [hw,hc]
   exact hN.YC s0 hc (low _) (top _)
 ·obtain rfl:s=l.length:=by omega
  exact hN.Vy ho fun j _ _=>rfl
theorem sR {l:List Int} {x j:Int} (j0:0≤j) (j1:j < l.length):gi (l++[x]) j=gi l j:=by
 unfold gi
 rw [List.getD_eq_getElem?_getD,List.getD_eq_getElem?_getD,List.getElem?_append_left (by omega)]
theorem sS {l:List Int} {x j:Int} (e:j=l.length):gi (l++[x]) j=x:=by
 unfold gi
 rw [List.getD_eq_getElem?_getD,List.getElem?_append_right (by omega),show j.toNat - l.length=0 by omega]; rfl
theorem Dh {l:List Int} (hl:l.length≤1048576):Ok (fN l) (Nz (fun i j=>gi l i=gi l j) l.length):=by
 unfold fN
 have hb:∀ (seen:List Int) y z v,(tN seen y v∧0≤v)→(tN seen z v∧0≤v)→y=z:=fun seen y z v h1 h2=>by
  have e1:=(h1.1.pos h1.2).2
  have e2:=(h2.1.pos h2.2).2
  rw [e1] at e2
  exact Option.some.inj e2
 refine ew (ol (fun z:List Int×List Int×Int=>(0≤z.2.2∧z.2.2≤l.length)∧(z.1.length:Int)=z.2.2∧(z.2.1.length:Int)≤z.2.2∧Nw l z.2.2 (fun y v=>tN z.2.1 y v∧0≤v) z.2.1.length (gi z.1)) (fun z=>(l.length - z.2.2).toNat) ⟨⟨by show (0:Int)≤0; omega,by show (0:Int)≤_; omega⟩,rfl,by show (0:Int)≤0; omega,Nw.nil fun y v h=>by have:=(h.1.pos h.2).1; have:v < 0:=this; omega⟩ ?_)
 rintro ⟨out,seen,s⟩ ⟨⟨s0,s1⟩,ho,hn,hN⟩
 dsimp only at s0 s1 ho hn hN
 show Ok (kR l out seen s) _
 unfold kR
 refine od (fun h=>?_) fun h=>os ⟨rfl,os ?_⟩
 ·have hw:=w1 s0 h (by omega)
  refine oe (aZ s0 h) (ob (Cf (by omega)) fun y hy=>?_)
  refine od (fun zg=>oe (aZ s0 h) (de (by omega) (by omega) (de (by omega) (by omega) (os ⟨⟨⟨by dsimp only; rw [hw]; omega,by dsimp only; rw [hw]; omega⟩,by dsimp only; rw [hw]; simp only [List.length_append,List.length_singleton]; omega,by dsimp only; rw [hw]; simp only [List.length_append,List.length_singleton]; omega,?_⟩,by dsimp only; rw [hw]; omega⟩)))) fun Zm=>de (by omega) (by omega) (os ⟨⟨⟨by dsimp only; rw [hw]; omega,by dsimp only; rw [hw]; omega⟩,by dsimp only; rw [hw]; simp only [List.length_append,List.length_singleton]; omega,by dsimp only; rw [hw]; omega,?_⟩,by dsimp only; rw [hw]; omega⟩)
  ·dsimp only
   rw [hw,List.length_append,List.length_singleton]
   refine hN.YB s0 (by omega) (fun j j0 j1=>sR j0 (by omega)) (sS (by omega)) (fun y v hv=>⟨hv.1.app hv.2,hv.2⟩) ⟨hy.new zg,by omega⟩ (hb _) (fun y v w h1 h2=>h1.1.tJ h2.1) fun y v hv=>?_
   have:=(hv.1.pos hv.2).1
   rw [List.length_append,List.length_singleton] at this
   exact ⟨hv.2,by omega⟩
  ·dsimp only
   rw [hw]
   exact hN.YC s0 ⟨hy,by omega⟩ (fun j j0 j1=>sR j0 (by omega)) (sS (by omega))
 ·obtain rfl:s=l.length:=by omega
  exact hN.Vy (by omega) fun j _ _=>rfl
theorem Nz.self {K:Int→Int→Prop} {n:Nat} {q:List Int} (h:Nz K n q):Nz (fun i j=>gi q i=gi q j) q.length q:=by
 have hl:=h.len
 subst hl
 exact h.mono fun i j i0 i1 j0 j1=>(h.k i j i0 i1 j0 j1).symm
theorem Ha {K:Int→Int→Prop} {n:Nat} {q:List Int} (h:Nz K n q) (hn:n≤1048576):fN q=some q:=by
 have hl:=h.len
 obtain ⟨y,e,hy⟩:=Dh (l:=q) (by omega)
 rw [e,hy.uniq h.self]
theorem Nz.top {K:Int→Int→Prop} {n:Nat} {q:List Int} (h:Nz K n q):∀ m:Nat,m≤n→∃ c:Nat,c≤m∧(∀ j:Int,0≤j→j < m→gi q j < c)∧∀ v:Int,0≤v→v < c→∃ j:Int,0≤j∧j < m∧gi q j=v:=by
 intro m
 induction m with
 | zero=>exact fun _=>⟨0,Nat.le_refl _,fun j j0 j1=>by omega,fun v v0 v1=>by omega⟩
 | succ m ih=>
  intro hm
  obtain ⟨c,hc,h1,h2⟩:=ih (by omega)
  rcases h.g m (by omega) (by omega) with ⟨j,j0,j1,e⟩ | ⟨hl,hz⟩
  ·refine ⟨c,by omega,fun k k0 k1=>?_,fun v v0 v1=>?_⟩
   ·rcases (by omega:k < m∨k=m) with hk | rfl
    ·exact h1 k k0 hk
    ·rw [← e]; exact h1 j j0 j1
   ·obtain ⟨k,k0,k1,e'⟩:=h2 v v0 v1
    exact ⟨k,k0,by omega,e'⟩
  ·have hp:=h.p m (by omega) (by omega)
   have e:gi q m=c:=by
    rcases Int.lt_trichotomy (gi q m) c with av | he | av
    ·obtain ⟨j,j0,j1,e⟩:=h2 _ hp av
     have:=hl j j0 j1
     omega
    ·exact he
    ·obtain ⟨j,j0,j1,e⟩:=hz c (by omega) av
     have:=h1 j j0 j1
     omega
   refine ⟨c+1,by omega,fun k k0 k1=>?_,fun v v0 v1=>?_⟩
   ·rcases (by omega:k < m∨k=m) with hk | rfl
    ·have:=h1 k k0 hk; omega
    ·omega
   ·rcases (by omega:v < c∨v=c) with hv | rfl
    ·obtain ⟨k,k0,k1,e'⟩:=h2 v v0 hv
     exact ⟨k,k0,by omega,e'⟩
    ·exact ⟨m,by omega,by omega,e⟩
theorem HQ {K:Int→Int→Prop} {n:Nat} {q:List Int} (h:Nz K n q) (hn:n≤1048576):cO q=some true:=by
 have hq:=h.len
 obtain ⟨y,e,hy⟩ : Ok (cO q) fun y=>y=true:=by
  unfold cO
  refine ew (ol (fun s:Int×Int=>(0≤s.2∧s.2≤n)∧(0≤s.1∧s.1≤s.2)∧(∀ j:Int,0≤j→j < s.2→gi q j < s.1)∧∀ v:Int,0≤v→v < s.1→∃ j:Int,0≤j∧j < s.2∧gi q j=v) (fun s=>(n - s.2).toNat) ⟨⟨by show (0:Int)≤0; omega,by show (0:Int)≤_; omega⟩,⟨by show (0:Int)≤0; omega,by show (0:Int)≤0; omega⟩,fun j j0 j1=>by have:j < 0:=j1; omega,fun v v0 v1=>by have:v < 0:=v1; omega⟩ ?_)
  rintro ⟨c,s⟩ ⟨⟨s0,s1⟩,⟨c0,c1⟩,h1,h2⟩
  dsimp only at s0 s1 c0 c1 h1 h2
  show Ok (fS q c s) _
  unfold fS
  refine od (fun av=>?_) fun tz=>os ⟨rfl,os rfl⟩
  have hw:=w1 s0 av (by omega)
  have hp:=h.p s s0 (by omega)
  have pq:∀ x:Int,0≤x→x≤c→dV x 0 c=some true:=fun x x0 x1=>by
   unfold dV
   rw [bm (show x ≥ 0 from x0),cond_true,bm (show x≤c from x1)]; rfl
  rcases h.g s s0 (by omega) with ⟨j,j0,j1,e⟩ | ⟨hl,hz⟩
  ·have:=h1 j j0 j1
   refine oe (aZ s0 av) (oe (pq _ hp (by omega)) ?_)
   rw [Bool.not_true,cond_false]
   refine oc (fun he=>?_) fun he=>os ⟨⟨⟨by dsimp only; rw [hw]; omega,by dsimp only; rw [hw]; omega⟩,⟨c0,by dsimp only; rw [hw]; omega⟩,fun k k0 k1=>?_,fun v v0 v1=>?_⟩,by dsimp only; rw [hw]; omega⟩
   ·have:gi q s=c:=by simpa using he
    omega
   ·dsimp only at k1
    rw [hw] at k1
    rcases (by omega:k < s∨k=s) with hk | rfl
    ·exact h1 k k0 hk
    ·dsimp only; omega
   ·dsimp only at v1 ⊢
    rw [hw]
    obtain ⟨k,k0,k1,e'⟩:=h2 v v0 v1
    exact ⟨k,k0,by omega,e'⟩
  ·have e:gi q s=c:=by
    rcases Int.lt_trichotomy (gi q s) c with av | he | av
    ·obtain ⟨j,j0,j1,e⟩:=h2 _ hp av
     have:=hl j j0 j1
     omega
    ·exact he
    ·obtain ⟨j,j0,j1,e⟩:=hz c (by omega) av
     have:=h1 j j0 j1
     omega
   refine oe (aZ s0 av) (oe (pq _ hp (by omega)) ?_)
   rw [Bool.not_true,cond_false]
   have QH:ak (c+1)=c+1:=bT (by omega) (by omega)
   refine oc (fun he=>os ⟨⟨⟨by dsimp only; rw [hw]; omega,by dsimp only; rw [hw]; omega⟩,⟨by dsimp only; rw [QH]; omega,by dsimp only; rw [hw,QH]; omega⟩,fun k k0 k1=>?_,fun v v0 v1=>?_⟩,by dsimp only; rw [hw]; omega⟩) fun he=>?_
   ·dsimp only at k1 ⊢
    rw [hw] at k1
    rw [QH]
    rcases (by omega:k < s∨k=s) with hk | rfl
    ·have:=h1 k k0 hk; omega
    ·omega
   ·dsimp only at v1 ⊢
    rw [QH] at v1
    rw [hw]
    rcases (by omega:v < c∨v=c) with hv | rfl
    ·obtain ⟨k,k0,k1,e'⟩:=h2 v v0 hv
     exact ⟨k,k0,by omega,e'⟩
    ·exact ⟨s,s0,by omega,e⟩
   ·rw [e] at he; simp at he
 rw [e,hy]
theorem Ko {K:Int→Int→Prop} {n c:Nat} {q:List Int} (h:Nz K n q) (hn:n≤1048576) (hc:c≤n) (h1:∀ j:Int,0≤j→j < n→gi q j < c) (h2:∀ v:Int,0≤v→v < c→∃ j:Int,0≤j∧j < n∧gi q j=v):dG q=some (c:Int):=by
 have hq:=h.len
 obtain ⟨y,e,hy⟩ : Ok (dG q) fun y=>y=(c:Int):=by
  unfold dG
  refine ew (ol (fun s:Int×Int=>(0≤s.2∧s.2≤q.length)∧(0≤s.1∧s.1≤c)∧∀ j:Int,0≤j→j < s.2→gi q j+1≤s.1) (fun s=>(q.length - s.2).toNat) ⟨⟨by show (0:Int)≤0; omega,by show (0:Int)≤_; omega⟩,⟨by show (0:Int)≤0; omega,by show (0:Int)≤_; omega⟩,fun j j0 j1=>by have:j < 0:=j1; omega⟩ ?_)
  rintro ⟨d,s⟩ ⟨⟨s0,s1⟩,⟨c0,c1⟩,hc⟩
  dsimp only at s0 s1 c0 c1 hc
  show Ok (gA q d s) _
  unfold gA
  refine od (fun av=>?_) fun tz=>?_
  ·have u9:=h1 s s0 (by omega)
   have hp:=h.p s s0 (by omega)
   refine oe (aZ s0 av) (os ⟨?_,by dsimp only; rw [w1 s0 av (by omega)]; omega⟩)
   dsimp only
   rw [w1 s0 av (by omega),bT (by omega) (by omega)]
   refine ⟨⟨by omega,by omega⟩,by split <;> omega,fun j j0 j1=>?_⟩
   by_cases hj:j=s
   ·rw [hj]; split <;> omega
   ·have:=hc j j0 (by omega)
    split <;> omega
  ·refine os ⟨rfl,os ?_⟩
   show d=(c:Int)
   by_cases hz:c=0
   ·omega
   ·obtain ⟨j,j0,j1,e⟩:=h2 (c - 1:Nat) (by omega) (by omega)
    have:=hc j j0 (by omega)
    omega
 rw [e,hy]
end Go.Proofs.YtbhhmalgcnhniaaGreat
namespace Go.Proofs.YtbhhmalgcnhniaaGreat
open Go Go.Li
set_option linter.unusedVariables false
set_option linter.unusedSectionVars false
set_option linter.unusedSimpArgs false
def YD (c:Int→Int) (ps:List (List Int)):Prop:=∀ r∈ps,∀ a b t,r=a :: b :: t→c a=c b
def Gn (ps:List (List Int)) (i j:Int):Prop:=∀ c:Int→Int,YD c ps→c i=c j
theorem IS {n:Int} {ps:List (List Int)} (n0:0≤n) (n1:n≤1048576) (hp:ps.length≤1048576) (h:Prs n ps) :
  Ok (kS n ps) (Nz (Gn ps) n.toNat):=by
 unfold kS
 refine ew (ol (fun z:List Int×Int=>(0≤z.2∧z.2≤n)∧(z.1.length:Int)=z.2∧∀ k:Nat,(k:Int) < z.2→z.1[k]? = some (k:Int)) (fun z=>(n - z.2).toNat) ⟨⟨by show (0:Int)≤0; omega,n0⟩,rfl,fun k hk=>by have rU:(k:Int) < 0:=hk; omega⟩ ?_)
 rintro ⟨l,i⟩ ⟨⟨i0,i1⟩,hl,Vz⟩
 dsimp only at i0 i1 hl Vz
 show Ok (nA n l i) _
 unfold nA
 refine od (fun hi=>?_) fun hi=>os ⟨rfl,?_⟩
 ·have hw:=w1 i0 hi (by omega)
  refine de (by omega) (by omega) (os ⟨⟨⟨?_,?_⟩,?_,fun k hk=>?_⟩,?_⟩)
  all_goals first | (dsimp only at hk; rw [hw] at hk) | skip
  all_goals dsimp only
  all_goals first | (rw [hw]; (try simp only [List.length_append,List.length_singleton]); omega) | skip
  rcases (by omega:(k:Int) < i∨(k:Int)=i) with h3 | h3
  ·rw [List.getElem?_append_left (by omega)]; exact Vz k h3
  ·rw [List.getElem?_append_right (by omega),show k - l.length=0 by omega,← h3]; rfl
 ·dsimp only
  obtain rfl:i=n:=by omega
  refine ol (fun z:Int×List Int=>(0≤z.1∧z.1≤ps.length)∧(z.2.length:Int)=i∧(∀ k:Nat,(k:Int) < z.1→∀ a b t,ps[k]? = some (a :: b :: t)→z.2[a.toNat]? = z.2[b.toNat]?)∧∀ c,YD c ps→∀ k:Nat,(k:Int) < i→∃ y,z.2[k]? = some y∧c y=c k) (fun z=>(ps.length - z.1).toNat) ⟨⟨by show (0:Int)≤0; omega,by show (0:Int)≤_; omega⟩,hl,fun k hk=>by have rU:(k:Int) < 0:=hk; omega,fun c _ k hk=>⟨k,Vz k hk,rfl⟩⟩ ?_
  rintro ⟨s,nb⟩ ⟨⟨s0,s1⟩,VA,hk,hinv⟩
  dsimp only at s0 s1 VA hk hinv
  show Ok (nB ps s nb) _
  unfold nB
  refine od (fun hs=>?_) fun hs=>os ⟨rfl,?_⟩
  ·obtain ⟨m,rfl⟩ : ∃ m:Nat,s=m:=⟨s.toNat,by omega⟩
   have VB:ps[m]? = some (gr ps m):=by
    have:=jf s0 hs
    rwa [fj] at this
   obtain ⟨a,b,t,er,ha,hb⟩:=h _ (ic s0 hs)
   have e1:nb[a.toNat]? = some (gi nb a):=by rw [← uS ha.1]; exact aZ ha.1 (by omega)
   have e2:nb[b.toNat]? = some (gi nb b):=by rw [← uS hb.1]; exact aZ hb.1 (by omega)
   refine oe (jf s0 hs) ?_
   rw [er]
   refine oe (x:=a) rfl (oe (aZ ha.1 (by omega)) (oe (jf s0 hs) ?_))
   rw [er]
   refine oe (x:=b) rfl (oe (aZ hb.1 (by omega)) ?_)
   refine Kr (by omega) (fun i o=>rfl) fun i'=>os ⟨⟨⟨?_,?_⟩,?_,fun k rU a' b' t' e'=>?_,fun c hc k rU=>?_⟩,?_⟩
   all_goals have hw:=w1 s0 hs (by omega)
   all_goals first | (dsimp only at rU; rw [hw] at rU) | skip
   all_goals dsimp only
   all_goals first | (rw [hw]; omega) | (rw [List.length_map]; exact VA) | skip
   ·rw [List.getElem?_map,List.getElem?_map]
    rcases (by omega:k < m∨k=m) with h3 | rfl
    ·rw [hk k (by omega) a' b' t' e']
    ·rw [VB,er] at e'
     obtain ⟨rfl,rfl,rfl⟩ : a=a'∧b=b'∧t=t':=by simpa using e'
     rw [e1,e2]
     simp [tG]
   ·obtain ⟨y,hy,YE⟩:=hinv c hc k (by omega)
    obtain ⟨ya,YF,YG⟩:=hinv c hc a.toNat (by omega)
    obtain ⟨yb,IT,YH⟩:=hinv c hc b.toNat (by omega)
    rw [e1] at YF
    rw [e2] at IT
    obtain rfl:=Option.some.inj YF
    obtain rfl:=Option.some.inj IT
    have mi:c a=c b:=hc _ (ic s0 hs) a b t er
    rw [show ((a.toNat:Nat):Int)=a by omega] at YG
    rw [show ((b.toNat:Nat):Int)=b by omega] at YH
    refine ⟨tG (gi nb a) (gi nb b) y,by rw [List.getElem?_map,hy]; rfl,?_⟩
    unfold tG
    by_cases IT:y=gi nb b
    ·rw [if_pos IT,YG,mi,← YH,← IT,YE]
    ·rw [if_neg IT,YE]
  ·dsimp only
   refine ob (Dh (l:=nb) (by omega)) fun q hq=>os ?_
   have ab8:nb.length=i.toNat:=by omega
   rw [ab8] at hq
   refine hq.mono fun x y x0 x1 y0 y1=>⟨fun e c hc=>?_,fun hg=>hg (gi nb) fun r hr a b t e=>?_⟩
   ·obtain ⟨u,hu,HY⟩:=hinv c hc x.toNat (by omega)
    obtain ⟨v,hv,YI⟩:=hinv c hc y.toNat (by omega)
    rw [show ((x.toNat:Nat):Int)=x by omega] at HY
    rw [show ((y.toNat:Nat):Int)=y by omega] at YI
    have e1:gi nb x=u:=by unfold gi; rw [List.getD_eq_getElem?_getD,hu]; rfl
    have e2:gi nb y=v:=by unfold gi; rw [List.getD_eq_getElem?_getD,hv]; rfl
    rw [← HY,← YI,← e1,← e2,e]
   ·obtain ⟨k,lh⟩:=List.getElem?_of_mem hr
    have av:=(List.getElem?_eq_some_iff.1 lh).1
    obtain ⟨a',b',t',e',ha,hb⟩:=h r hr
    rw [e] at e'
    obtain ⟨rfl,rfl,rfl⟩ : a=a'∧b=b'∧t=t':=by simpa using e'
    have h1:=hk k (by omega) a b t (by rw [lh,e])
    have e1:nb[a.toNat]? = some (gi nb a):=by rw [← uS ha.1]; exact aZ ha.1 (by omega)
    have e2:nb[b.toNat]? = some (gi nb b):=by rw [← uS hb.1]; exact aZ hb.1 (by omega)
    rw [e1,e2] at h1
    exact Option.some.inj h1
theorem RS {J:List Int} (hl:J.length≤1048576) (hJ:Jw J):Ok (fM J) fun y=>Nz (fun i j=>rt J i=rt J j) J.length y.1:=by
 unfold fM
 rw [ur (by omega) (by omega),aE]
 refine ew (ol (fun s:Int×List Int×List Int=>(0≤s.1∧s.1≤J.length)∧(s.2.1.length=J.length∧Jw s.2.1∧∀ z:Int,0≤z→z < J.length→rt s.2.1 z=rt J z)∧s.2.2.length=J.length∧∀ j:Int,0≤j→j < s.1→gi s.2.2 j=rt J j) (fun s=>(J.length - s.1).toNat) ⟨⟨by show (0:Int)≤0; omega,by show (0:Int)≤_; omega⟩,⟨rfl,hJ,fun _ _ _=>rfl⟩,by simp,fun j j0 j1=>by have:j < 0:=j1; omega⟩ ?_)
 rintro ⟨s,K,o⟩ ⟨⟨s0,s1⟩,⟨kl,kj,kr⟩,VC,ho⟩
 dsimp only at s0 s1 kl kj kr VC ho
 show Ok (gU J s K o) _
 unfold gU
 refine od (fun av=>?_) fun tz=>?_
 ·refine ob (Bb (by omega) kj s0 (by omega)) fun y hy=>?_
  obtain ⟨y1,yl,yj,yr⟩:=hy
  refine oe (aZ s0 (by omega)) (os ⟨⟨⟨by dsimp only; rw [w1 s0 av (by omega)]; omega,by dsimp only; rw [w1 s0 av (by omega)]; omega⟩,⟨by dsimp only; omega,yj,fun z z0 z1=>by rw [yr z z0 (by omega)]; exact kr z z0 z1⟩,by dsimp only; rw [List.length_set]; exact VC,fun j j0 j1=>?_⟩,by dsimp only; rw [w1 s0 av (by omega)]; omega⟩)
  dsimp only at j1 ⊢
  rw [w1 s0 av (by omega)] at j1
  rw [jo s0 (by omega) j0]
  split
  ·rename_i e; rw [e,y1,kr s s0 av]
  ·exact ho j j0 (by omega)
 ·refine os ⟨rfl,?_⟩
  dsimp only
  refine ob (EB (l:=o) (by omega)) fun q hq=>os ?_
  rw [VC] at hq
  exact hq.mono fun i j i0 i1 j0 j1=>by rw [ho i i0 (by omega),ho j j0 (by omega)]
noncomputable def sA (J:List Int):Nat:=((ns J.length).filter fun z=>decide (rt J z=z)).length
theorem VD {l:List Int} {p q:Int→Bool} (h:∀ x∈l,p x=true→q x=true):(l.filter p).length≤(l.filter q).length:=by
 induction l with
 | nil=>exact Nat.le_refl _
 | cons a l ih=>
  have:=ih fun x hx=>h x (List.mem_cons_of_mem _ hx)
  have ha:=h a (List.mem_cons_self ..)
  rw [List.filter_cons,List.filter_cons]
  cases hp:p a with
  | false=>cases hq:q a <;> simp <;> omega
  | true=>rw [ha hp]; simp; omega
theorem VE {l:List Int} {p q:Int→Bool} (h:∀ x∈l,p x=true→q x=true) {b:Int} (hb:b∈l) (hp:p b=false) (hq:q b=true):(l.filter p).length < (l.filter q).length:=by
 induction l with
 | nil=>cases hb
 | cons a l ih=>
  have ha:=h a (List.mem_cons_self ..)
  have hle:=VD (l:=l) fun x hx=>h x (List.mem_cons_of_mem _ hx)
  rw [List.filter_cons,List.filter_cons]
  rcases List.mem_cons.1 hb with rfl | hb
  ·rw [hp,hq]; simp; omega
  ·have:=ih (fun x hx=>h x (List.mem_cons_of_mem _ hx)) hb
   cases tK:p a with
   | false=>cases ML:q a <;> simp <;> omega
   | true=>rw [ha tK]; simp; omega
theorem Ch {J K:List Int} (hl:K.length=J.length) (h:∀ z:Int,0≤z→z < J.length→rt K z=rt J z):sA K=sA J:=by
 unfold sA
 rw [hl]
 congr 1
 exact List.filter_congr fun z hz=>by
  obtain ⟨z0,z1⟩:=dy.1 hz
  rw [h z z0 z1]
theorem Hb {J:List Int} (hn:J.length≤1048576) (hJ:Jw J) {u v:Int} (u0:0≤u) (u1:u < J.length) (v0:0≤v) (v1:v < J.length) :
  Ok (cK J u v) fun y=>y.2.length=J.length∧Jw y.2∧rt y.2 u=rt y.2 v∧(∀ i j:Int,0≤i→i < J.length→0≤j→j < J.length→rt J i=rt J j→rt y.2 i=rt y.2 j)∧
   (y.1=false→∀ z:Int,0≤z→z < J.length→rt y.2 z=rt J z)∧(y.1=true→sA y.2 < sA J)∧∀ c:Int→Int,c u=c v→(∀ z:Int,0≤z→z < J.length→c (rt J z)=c z)→∀ z:Int,0≤z→z < J.length→c (rt y.2 z)=c z:=by
 unfold cK
 refine ew (ob (Bb (by omega) hJ u0 (by omega)) fun y hy=>ob (Bb (by omega) hy.2.2.1 v0 (by omega)) fun z hz=>?_)
 obtain ⟨y1,yl,yj,yr⟩:=hy
 obtain ⟨z1,zl,zj,zr⟩:=hz
 have ru:=Bc hJ u0 (by omega)
 have rv:=Bc hJ v0 (by omega)
 have ez:z.1=rt J v:=by rw [z1,yr v v0 (by omega)]
 have fu:=Hc zj (x:=u) u0 (by omega)
 have fv:=Hc zj (x:=v) v0 (by omega)
 have er:∀ w:Int,0≤w→w < J.length→rt z.2 w=rt J w:=fun w w0 w1=>by rw [zr w w0 (by omega),yr w w0 (by omega)]
 rw [er u u0 u1] at fu
 rw [er v v0 v1] at fv
 have YJ:z.2.length=J.length:=by omega
 rw [y1,ez]
 have main:∀ (a b:Int) (J':List Int),(rt J u=a∧rt J v=b∨rt J u=b∧rt J v=a)→a≤b→(0≤a∧b < J.length)→J'.length=J.length→(∀ w:Int,0≤w→w < J.length→rt J' w=if rt J w=b then a else rt J w)→
   rt J' u=rt J' v∧(∀ i j:Int,0≤i→i < J.length→0≤j→j < J.length→rt J i=rt J j→rt J' i=rt J' j)∧
   ((rt J u != rt J v)=false→∀ z:Int,0≤z→z < J.length→rt J' z=rt J z)∧((rt J u != rt J v)=true→sA J' < sA J)∧∀ c:Int→Int,c u=c v→(∀ z:Int,0≤z→z < J.length→c (rt J z)=c z)→∀ z:Int,0≤z→z < J.length→c (rt J' z)=c z:=by
  intro a b J' mi le hb hl hr
  refine ⟨?_,fun i j i0 i1 j0 j1 e=>by rw [hr i i0 i1,hr j j0 j1,e],fun e z z0 z1=>?_,fun e=>?_,fun c hc hz z z0 z1=>?_⟩
  ·rw [hr u u0 u1,hr v v0 v1]
   rcases mi with ⟨e1,e2⟩ | ⟨e1,e2⟩
   ·rw [e1,e2,if_pos rfl]; split <;> rfl
   ·rw [e1,e2,if_pos rfl]; split <;> rfl
  ·have:rt J u=rt J v:=by simpa using e
   rw [hr z z0 z1]
   split
   ·rename_i e2
    omega
   ·rfl
  ·have iv:rt J u≠rt J v:=by simpa using e
   have VF:a≠b:=by omega
   have fa:rt J a=a:=by
    rcases mi with ⟨e1,e2⟩ | ⟨e1,e2⟩
    ·rw [← e1]; exact Bd hJ u0 u1
    ·rw [← e2]; exact Bd hJ v0 v1
   have fb:rt J b=b:=by
    rcases mi with ⟨e1,e2⟩ | ⟨e1,e2⟩
    ·rw [← e2]; exact Bd hJ v0 v1
    ·rw [← e1]; exact Bd hJ u0 u1
   unfold sA
   rw [hl]
   refine VE (b:=b) (fun x hx=>?_) (dy.2 ⟨by omega,hb.2⟩) ?_ (by rw [fb]; simp)
   ·obtain ⟨x0,x1⟩:=dy.1 hx
    rw [hr x x0 x1]
    split
    ·rename_i e2
     intro h
     have h:a=x:=by simpa using h
     rw [← h,fa] at e2
     exact absurd e2 VF
    ·exact id
   ·rw [hr b (by omega) hb.2,if_pos fb]
    simpa using VF
  ·rw [hr z z0 z1]
   split
   ·rename_i e
    have hu:=hz u u0 u1
    have hv:=hz v v0 v1
    have FZ:=hz z z0 z1
    rw [e] at FZ
    rcases mi with ⟨e1,e2⟩ | ⟨e1,e2⟩
    ·rw [e1] at hu; rw [e2] at hv; rw [← FZ,hu,hc,← hv]
    ·rw [e1] at hu; rw [e2] at hv; rw [← FZ,hv,← hc,← hu]
   ·exact hz z z0 z1
 by_cases av:rt J v > rt J u
 ·rw [if_pos av,if_neg (by omega)]
  have hj:=MN zj ru.1 (show rt J u≤rt J v by omega) (by omega) fu fv
  have He:(z.2.set (rt J v).toNat (rt J u)).length=J.length:=by rw [List.length_set]; exact YJ
  refine oe (aZ rv.1 (by omega)) (os ⟨He,hj.1,main _ _ _ (.inl ⟨rfl,rfl⟩) (by omega) ⟨ru.1,by omega⟩ He fun w w0 w1=>by rw [← er w w0 w1]; exact hj.2 w w0 (by omega)⟩)
 ·rw [if_neg av]
  have hj:=MN zj rv.1 (show rt J v≤rt J u by omega) (by omega) fv fu
  have He:(z.2.set (rt J u).toNat (rt J v)).length=J.length:=by rw [List.length_set]; exact YJ
  have IU:(if rt J v < rt J u then rt J v else rt J u)=rt J v:=by split <;> omega
  rw [IU]
  refine oe (aZ ru.1 (by omega)) (os ⟨He,hj.1,main _ _ _ (.inr ⟨rfl,rfl⟩) (by omega) ⟨rv.1,by omega⟩ He fun w w0 w1=>by rw [← er w w0 w1]; exact hj.2 w w0 (by omega)⟩)
end Go.Proofs.YtbhhmalgcnhniaaGreat
namespace Go.Proofs.YtbhhmalgcnhniaaGreat
open Go Go.Li
set_option linter.unusedVariables false
set_option linter.unusedSectionVars false
set_option linter.unusedSimpArgs false
def Cj (c:aC) (ps:List (List Int)) (φ:Int→Int):Prop:=∀ a b:Int,[a,b]∈ps→∀ f g:Int,0≤f→f < c.aA.length→0≤g→g < c.aA.length→gi c.To f=gi c.aA a→gi c.To a=gi c.aA g→
 φ (gk c.aB (gk c.aB f a) g)=φ (gk c.aB (gk c.aB f b) g)
def Cg (c:aC) (ps:List (List Int)) (i j:Int):Prop:=∀ φ,Cj c ps φ→φ i=φ j
def Az (c:aC) (ps:List (List Int)):Prop:=∀ r∈ps,∃ a b:Int,r=[a,b]∧(0≤a∧a < c.aA.length)∧(0≤b∧b < c.aA.length)∧gi c.aA a=gi c.aA b∧gi c.To a=gi c.To b
section
variable {c:aC} (C:l3 c) {ps:List (List Int)} (P:Az c ps)
include C P
theorem ux {a b:Int} (h:[a,b]∈ps):(0≤a∧a < c.aA.length)∧(0≤b∧b < c.aA.length)∧gi c.aA a=gi c.aA b∧gi c.To a=gi c.To b:=by
 obtain ⟨a',b',e,h1⟩:=P _ h
 cases e
 exact h1
theorem r4 {f a g:Int} (f0:0≤f) (f1:f < c.aA.length) (a0:0≤a) (a1:a < c.aA.length) (g0:0≤g) (g1:g < c.aA.length) (e1:gi c.To f=gi c.aA a) (e2:gi c.To a=gi c.aA g) :
  (0≤gk c.aB f a∧gk c.aB f a < c.aA.length∧gi c.aA (gk c.aB f a)=gi c.aA f∧gi c.To (gk c.aB f a)=gi c.To a)∧
  0≤gk c.aB (gk c.aB f a) g∧gk c.aB (gk c.aB f a) g < c.aA.length∧gi c.aA (gk c.aB (gk c.aB f a) g)=gi c.aA f∧gi c.To (gk c.aB (gk c.aB f a) g)=gi c.To g:=by
 have c1:=C.cell f a f0 f1 a0 a1 e1
 have c2:=C.cell _ g c1.1 c1.2.1 g0 g1 (by rw [c1.2.2.2,e2])
 exact ⟨c1,c2.1,c2.2.1,by rw [c2.2.2.1,c1.2.2.1],c2.2.2.2⟩
theorem rS {i j:Int} (h:Cg c ps i j):gi c.aA i=gi c.aA j∧gi c.To i=gi c.To j:=by
 refine ⟨h (gi c.aA) fun a b hm f g f0 f1 g0 g1 e1 e2=>?_,h (gi c.To) fun a b hm f g f0 f1 g0 g1 e1 e2=>?_⟩
 ·obtain ⟨ha,hb,ef,et⟩:=ux C P hm
  rw [(r4 C P f0 f1 ha.1 ha.2 g0 g1 e1 e2).2.2.2.1,(r4 C P f0 f1 hb.1 hb.2 g0 g1 (by rw [e1,ef]) (by rw [← et,e2])).2.2.2.1]
 ·obtain ⟨ha,hb,ef,et⟩:=ux C P hm
  rw [(r4 C P f0 f1 ha.1 ha.2 g0 g1 e1 e2).2.2.2.2,(r4 C P f0 f1 hb.1 hb.2 g0 g1 (by rw [e1,ef]) (by rw [← et,e2])).2.2.2.2]
theorem Hf {i j g:Int} (h:Cg c ps i j) (g0:0≤g) (g1:g < c.aA.length) (e:gi c.To i=gi c.aA g):Cg c ps (gk c.aB i g) (gk c.aB j g):=by
 intro φ hφ
 have hp:=rS C P h
 have H:=h (fun x=>if gi c.To x=gi c.aA g then φ (gk c.aB x g) else 0) fun a b hm f k f0 f1 k0 k1 e1 e2=>?_
 ·try dsimp only at H
  rw [if_pos e,if_pos (by rw [← hp.2,e])] at H
  exact H
 ·obtain ⟨ha,hb,ef,et⟩:=ux C P hm
  have ta:=r4 C P f0 f1 ha.1 ha.2 k0 k1 e1 e2
  have tb:=r4 C P f0 f1 hb.1 hb.2 k0 k1 (by rw [e1,ef]) (by rw [← et,e2])
  dsimp only
  rw [ta.2.2.2.2,tb.2.2.2.2]
  split
  ·rename_i e3
   rw [C.assoc _ k g ta.1.1 ta.1.2.1 k0 k1 g0 g1 (by rw [ta.1.2.2.2,e2]) e3,C.assoc _ k g tb.1.1 tb.1.2.1 k0 k1 g0 g1 (by rw [tb.1.2.2.2,← et,e2]) e3]
   have ck:=C.cell k g k0 k1 g0 g1 e3
   exact hφ a b hm f _ f0 f1 ck.1 ck.2.1 e1 (by rw [ck.2.2.1,e2])
  ·rfl
theorem IV {i j f:Int} (h:Cg c ps i j) (f0:0≤f) (f1:f < c.aA.length) (e:gi c.To f=gi c.aA i):Cg c ps (gk c.aB f i) (gk c.aB f j):=by
 intro φ hφ
 have hp:=rS C P h
 have H:=h (fun x=>if gi c.To f=gi c.aA x then φ (gk c.aB f x) else 0) fun a b hm k g k0 k1 g0 g1 e1 e2=>?_
 ·try dsimp only at H
  rw [if_pos e,if_pos (by rw [← hp.1,e])] at H
  exact H
 ·obtain ⟨ha,hb,ef,et⟩:=ux C P hm
  have ta:=r4 C P k0 k1 ha.1 ha.2 g0 g1 e1 e2
  have tb:=r4 C P k0 k1 hb.1 hb.2 g0 g1 (by rw [e1,ef]) (by rw [← et,e2])
  dsimp only
  rw [ta.2.2.2.1,tb.2.2.2.1]
  split
  ·rename_i e3
   rw [← C.assoc f _ g f0 f1 ta.1.1 ta.1.2.1 g0 g1 (by rw [ta.1.2.2.1,e3]) (by rw [ta.1.2.2.2,e2]),← C.assoc f _ g f0 f1 tb.1.1 tb.1.2.1 g0 g1 (by rw [tb.1.2.2.1,e3]) (by rw [tb.1.2.2.2,← et,e2]),
    ← C.assoc f k a f0 f1 k0 k1 ha.1 ha.2 e3 e1,← C.assoc f k b f0 f1 k0 k1 hb.1 hb.2 e3 (by rw [e1,ef])]
   have ck:=C.cell f k f0 f1 k0 k1 e3
   exact hφ a b hm _ g ck.1 ck.2.1 g0 g1 (by rw [ck.2.2.2,e1]) e2
  ·rfl
theorem x6 {a b:Int} (h:[a,b]∈ps):Cg c ps a b:=by
 intro φ hφ
 obtain ⟨ha,hb,ef,et⟩:=ux C P h
 have fa:=C.fr ha.1 ha.2
 have ta:=C.to ha.1 ha.2
 have i1:=C.id fa.1 fa.2
 have i2:=C.id ta.1 ta.2
 have H:=hφ a b h _ _ i1.1 i1.2 i2.1 i2.2 (C.rH _ fa.1 fa.2) (C.tM _ ta.1 ta.2).symm
 rw [C.A9 a ha.1 ha.2,C.yZ a ha.1 ha.2] at H
 rw [ef,et,C.A9 b hb.1 hb.2,C.yZ b hb.1 hb.2] at H
 exact H
def QI (c:aC) (a b f g:Int):List Int:=[gk c.aB (gk c.aB f a) g,gk c.aB (gk c.aB f b) g]
theorem Di (hp:ps.length≤600):Ok (jB c ps) (Nz (Cg c ps) c.aA.length):=by
 have hm:=C.m
 unfold jB
 rw [ze ps (by omega) (fun y hy=>by obtain ⟨a,b,e,_⟩:=P y hy; rw [e]; show 2≤1048576; omega),aE]
 let Tw:List Int→Prop:=fun r=>∃ a b f g:Int,[a,b]∈ps∧((0≤f∧f < c.aA.length)∧0≤g∧g < c.aA.length)∧gi c.To f=gi c.aA a∧gi c.To a=gi c.aA g∧r=QI c a b f g
 refine ew (ol (fun z:List (List Int)×Int=>(0≤z.2∧z.2≤ps.length)∧(z.1.length:Int)≤ps.length+1600 * z.2∧(∀ r∈z.1,r∈ps∨Tw r)∧(∀ r∈ps,r∈z.1)∧∀ k:Int,0≤k→k < z.2→∀ a b:Int,gr ps k=[a,b]→∀ f g:Int,0≤f→f < c.aA.length→0≤g→g < c.aA.length→gi c.To f=gi c.aA a→gi c.To a=gi c.aA g→QI c a b f g∈z.1) (fun z=>(ps.length - z.2).toNat) ⟨⟨by show (0:Int)≤0; omega,by show (0:Int)≤_; omega⟩,by show (ps.length:Int)≤ps.length+1600 * 0; omega,fun r hr=>.inl hr,fun r hr=>hr,fun k k0 k1=>by have:k < 0:=k1; omega⟩ ?_)
 rintro ⟨l,s⟩ ⟨⟨s0,s1⟩,hl,pq,cq,Ks⟩
 dsimp only at s0 s1 hl pq cq Ks
 show Ok (lK c ps l s) _
 unfold lK
 refine od (fun hs=>?_) fun hs=>os ⟨rfl,?_⟩
 ·obtain ⟨a,b,er,ha,hb,ef,et⟩:=P _ (ic s0 hs)
  have j9:[a,b]∈ps:=by rw [← er]; exact ic s0 hs
  refine oe (jf s0 hs) ?_
  rw [er]
  refine oe (x:=a) rfl (oe (jf s0 hs) ?_)
  rw [er]
  refine oe (x:=b) rfl ?_
  refine ol (fun z:List (List Int)×Int=>(0≤z.2∧z.2≤c.aA.length)∧(z.1.length:Int)≤l.length+40 * z.2∧(∀ r∈z.1,r∈ps∨Tw r)∧(∀ r∈l,r∈z.1)∧∀ f:Int,0≤f→f < z.2→∀ g:Int,0≤g→g < c.aA.length→gi c.To f=gi c.aA a→gi c.To a=gi c.aA g→QI c a b f g∈z.1) (fun z=>(c.aA.length - z.2).toNat) ⟨⟨by show (0:Int)≤0; omega,by show (0:Int)≤_; omega⟩,by show (l.length:Int)≤l.length+40 * 0; omega,pq,fun r hr=>hr,fun k k0 k1=>by have:k < 0:=k1; omega⟩ ?_
  rintro ⟨l1,f⟩ ⟨⟨f0,f1⟩,VG,AA,vw,Hg⟩
  dsimp only at f0 f1 VG AA vw Hg
  show Ok (lJ c a b l1 f) _
  unfold lJ
  have hw:=w1 s0 hs (by omega)
  refine od (fun hf=>?_) fun hf=>os ⟨rfl,os ⟨⟨⟨by dsimp only; rw [hw]; omega,by dsimp only; rw [hw]; omega⟩,by dsimp only; rw [hw]; omega,AA,fun r hr=>vw r (cq r hr),fun k k0 k1 a' b' e f' g x7 qd g0 g1 e1 e2=>?_⟩,by dsimp only; rw [hw]; omega⟩⟩
  ·have AB:=w1 f0 hf (by omega)
   refine ol (fun z:List (List Int)×Int=>(0≤z.2∧z.2≤c.aA.length)∧(z.1.length:Int)≤l1.length+z.2∧(∀ r∈z.1,r∈ps∨Tw r)∧(∀ r∈l1,r∈z.1)∧∀ g:Int,0≤g→g < z.2→gi c.To f=gi c.aA a→gi c.To a=gi c.aA g→QI c a b f g∈z.1) (fun z=>(c.aA.length - z.2).toNat) ⟨⟨by show (0:Int)≤0; omega,by show (0:Int)≤_; omega⟩,by show (l1.length:Int)≤l1.length+0; omega,AA,fun r hr=>hr,fun k k0 k1=>by have:k < 0:=k1; omega⟩ ?_
   rintro ⟨l2,g⟩ ⟨⟨g0,g1⟩,qT,Kt,Dj,Dl⟩
   dsimp only at g0 g1 qT Kt Dj Dl
   show Ok (lH c a b f l2 g) _
   unfold lH
   refine od (fun hg=>?_) fun hg=>os ⟨rfl,os ⟨⟨⟨by dsimp only; rw [AB]; omega,by dsimp only; rw [AB]; omega⟩,by dsimp only; rw [AB]; omega,Kt,fun r hr=>Dj r (vw r hr),fun f' x7 qd g' BN AE e1 e2=>?_⟩,by dsimp only; rw [AB]; omega⟩⟩
   ·have xg:=w1 g0 hg (by omega)
    have w5:(idx c.To f>>=fun U6=>idx c.aA a>>=fun U7=>bif U6 == U7 then (idx c.To a>>=fun Mr=>idx c.aA g>>=fun GV=>some (Mr == GV)) else some false)=some (decide (gi c.To f=gi c.aA a∧gi c.To a=gi c.aA g)):=by
     rw [C.jd f0 hf,aE,C.iH ha.1 ha.2,aE,C.jd ha.1 ha.2,C.iH g0 hg]
     by_cases h1:gi c.To f=gi c.aA a
     ·rw [show (gi c.To f == gi c.aA a)=true by simpa using h1,cond_true,aE,aE]
      by_cases h2:gi c.To a=gi c.aA g
      ·rw [show (gi c.To a == gi c.aA g)=true by simpa using h2,decide_eq_true ⟨h1,h2⟩]
      ·rw [show (gi c.To a == gi c.aA g)=false by simpa using h2,decide_eq_false (fun h=>h2 h.2)]
     ·rw [show (gi c.To f == gi c.aA a)=false by simpa using h1,cond_false,decide_eq_false (fun h=>h1 h.1)]
    refine oe w5 (od (fun he=>?_) fun he=>os ⟨⟨⟨by dsimp only; rw [xg]; omega,by dsimp only; rw [xg]; omega⟩,by dsimp only; rw [xg]; omega,Kt,Dj,fun g' BN AE e1 e2=>?_⟩,by dsimp only; rw [xg]; omega⟩)
    ·have ta:=r4 C P f0 hf ha.1 ha.2 g0 hg he.1 he.2
     have tb:=r4 C P f0 hf hb.1 hb.2 g0 hg (by rw [he.1,ef]) (by rw [← et,he.2])
     refine oe (C.thenS f0 hf ha.1 ha.2) (oe (C.thenS ta.1.1 ta.1.2.1 g0 hg) (oe (C.thenS f0 hf hb.1 hb.2) (oe (C.thenS tb.1.1 tb.1.2.1 g0 hg) (de (by omega) (by omega) (os ⟨⟨⟨by dsimp only; rw [xg]; omega,by dsimp only; rw [xg]; omega⟩,by dsimp only; rw [xg,List.length_append,List.length_singleton]; omega,fun r hr=>?_,fun r hr=>List.mem_append_left _ (Dj r hr),fun g' BN AE e1 e2=>?_⟩,by dsimp only; rw [xg]; omega⟩)))))
     ·rcases List.mem_append.1 hr with hr | hr
      ·exact Kt r hr
      ·rw [List.mem_singleton.1 hr]
       exact .inr ⟨a,b,f,g,j9,⟨⟨f0,hf⟩,g0,hg⟩,he.1,he.2,rfl⟩
     ·dsimp only at AE ⊢
      rw [xg] at AE
      rcases (by omega:g' < g∨g'=g) with h1 | rfl
      ·exact List.mem_append_left _ (Dl g' BN h1 e1 e2)
      ·exact List.mem_append_right _ (List.mem_singleton.2 rfl)
    ·dsimp only at AE ⊢
     rw [xg] at AE
     rcases (by omega:g' < g∨g'=g) with h1 | rfl
     ·exact Dl g' BN h1 e1 e2
     ·exact absurd ⟨e1,e2⟩ he
   ·dsimp only at qd ⊢
    rw [AB] at qd
    rcases (by omega:f' < f∨f'=f) with h1 | rfl
    ·exact Dj _ (Hg f' x7 h1 g' BN AE e1 e2)
    ·exact Dl g' BN (by omega) e1 e2
  ·dsimp only at k1 ⊢
   rw [hw] at k1
   rcases (by omega:k < s∨k=s) with h1 | rfl
   ·exact vw _ (Ks k k0 h1 a' b' e f' g x7 qd g0 g1 e1 e2)
   ·rw [er] at e
    cases e
    exact Hg f' x7 (by omega) g g0 g1 e1 e2
 ·dsimp only
  have bc:∀ r∈l,∃ x y:Int,r=[x,y]∧(0≤x∧x < c.aA.length)∧(0≤y∧y < c.aA.length):=by
   intro r hr
   rcases pq r hr with h | ⟨a,b,f,g,j9,⟨hf,hg⟩,e1,e2,e⟩
   ·obtain ⟨a,b,e,ha,hb,_⟩:=P r h
    exact ⟨a,b,e,ha,hb⟩
   ·obtain ⟨ha,hb,ef,et⟩:=ux C P j9
    have ta:=r4 C P hf.1 hf.2 ha.1 ha.2 hg.1 hg.2 e1 e2
    have tb:=r4 C P hf.1 hf.2 hb.1 hb.2 hg.1 hg.2 (by rw [e1,ef]) (by rw [← et,e2])
    exact ⟨_,_,e,⟨ta.2.1,ta.2.2.1⟩,tb.2.1,tb.2.2.1⟩
  refine ob (IS (n:=(c.aA.length:Int)) (by omega) (by omega) (by omega) fun r hr=>?_) fun q hq=>os (hq.mono fun i j i0 i1 j0 j1=>⟨fun h φ hφ=>h φ fun r hr a b t e=>?_,fun h φ hφ=>h φ fun a b j9 f g f0 f1 g0 g1 e1 e2=>?_⟩)
  ·obtain ⟨x,y,e,hx,hy⟩:=bc r hr
   exact ⟨x,y,[],e,hx,hy⟩
  ·rcases pq r hr with h' | ⟨a',b',f,g,j9,⟨hf,hg⟩,e1,e2,e'⟩
   ·obtain ⟨a',b',e',_⟩:=P r h'
    rw [e'] at e
    cases e
    rw [e'] at h'
    exact x6 C P h' φ hφ
   ·rw [e'] at e
    cases e
    exact hφ a' b' j9 f g hf.1 hf.2 hg.1 hg.2 e1 e2
  ·obtain ⟨k,k0,k1,e⟩ : ∃ k:Int,0≤k∧k < ps.length∧gr ps k=[a,b]:=by
    obtain ⟨n,hn⟩:=List.getElem?_of_mem j9
    have av:=(List.getElem?_eq_some_iff.1 hn).1
    refine ⟨n,by omega,by omega,?_⟩
    unfold gr
    rw [List.getD_eq_getElem?_getD,show ((n:Int)).toNat=n from rfl,hn]; rfl
   exact hφ _ (Ks k k0 (by omega) a b e f g f0 f1 g0 g1 e1 e2) _ _ [] rfl
end
end Go.Proofs.YtbhhmalgcnhniaaGreat
namespace Go.Proofs.YtbhhmalgcnhniaaGreat
open Go Go.Li
set_option linter.unusedVariables false
set_option linter.unusedSectionVars false
set_option linter.unusedSimpArgs false
structure vi (n:Nat) (Φ:(Int→Int)→Prop) (J0:List Int) (ag:Bool) (K:List Int):Prop where
 ln:K.length=n
 jw:Jw K
 sd:∀ φ,Φ φ→∀ z:Int,0≤z→z < n→φ (rt K z)=φ z
 mn:∀ i j:Int,0≤i→i < n→0≤j→j < n→rt J0 i=rt J0 j→rt K i=rt K j
 ct:sA K≤sA J0
 cl:ag=true→sA K < sA J0
 eq:ag=false→∀ z:Int,0≤z→z < n→rt K z=rt J0 z
section
variable {n:Nat} (hn:n≤1048576) {Φ:(Int→Int)→Prop} {J0:List Int}
include hn
theorem vi.root {ag:Bool} {K:List Int} (h:vi n Φ J0 ag K) {x:Int} (x0:0≤x) (x1:x < n):Ok (cX K x) fun y=>y.1=rt K x∧vi n Φ J0 ag y.2:=by
 have hl:=h.ln
 obtain ⟨y,e,y1,yl,yj,yr⟩:=Bb (J:=K) (by omega) h.jw x0 (by omega)
 have QJ:∀ z:Int,0≤z→z < n→rt y.2 z=rt K z:=fun z z0 z1=>yr z z0 (by omega)
 have hc:sA y.2=sA K:=Ch yl yr
 refine ⟨y,e,y1,by omega,yj,fun φ hφ z z0 z1=>by rw [QJ z z0 z1]; exact h.sd φ hφ z z0 z1,fun i j i0 i1 j0 j1 e=>by rw [QJ i i0 i1,QJ j j0 j1]; exact h.mn i j i0 i1 j0 j1 e,by rw [hc]; exact h.ct,fun e=>by rw [hc]; exact h.cl e,fun e z z0 z1=>by rw [QJ z z0 z1]; exact h.eq e z z0 z1⟩
theorem vi.join {ag:Bool} {K:List Int} (h:vi n Φ J0 ag K) {u v:Int} (u0:0≤u) (u1:u < n) (v0:0≤v) (v1:v < n) (hv:∀ φ,Φ φ→φ u=φ v) :
  Ok (cK K u v) fun y=>vi n Φ J0 (ag || y.1) y.2∧((ag || y.1)=false→rt J0 u=rt J0 v):=by
 have hl:=h.ln
 obtain ⟨y,e,yl,yj,yu,ym,yf,yt,ys⟩:=Hb (J:=K) (by omega) h.jw u0 (by omega) v0 (by omega)
 refine ⟨y,e,⟨by omega,yj,fun φ hφ z z0 z1=>ys φ (hv φ hφ) (fun z z0 z1=>h.sd φ hφ z z0 (by omega)) z z0 (by omega),fun i j i0 i1 j0 j1 e=>ym i j i0 (by omega) j0 (by omega) (h.mn i j i0 i1 j0 j1 e),?_,fun e=>?_,fun e z z0 z1=>?_⟩,fun e=>?_⟩
 ·cases hy:y.1 with
  | true=>have:=yt hy; have:=h.ct; omega
  | false=>rw [Ch yl (yf hy)]; exact h.ct
 ·cases hy:y.1 with
  | true=>have:=yt hy; have:=h.ct; omega
  | false=>
   rw [Ch yl (yf hy)]
   rw [hy,Bool.or_false] at e
   exact h.cl e
 ·rw [Bool.or_eq_false_iff] at e
  rw [yf e.2 z z0 (by omega)]
  exact h.eq e.1 z z0 z1
 ·rw [Bool.or_eq_false_iff] at e
  rw [yf e.2 u u0 (by omega),yf e.2 v v0 (by omega),h.eq e.1 u u0 u1,h.eq e.1 v v0 v1] at yu
  exact yu
end
section
variable {c:aC} (C:l3 c) {ps:List (List Int)} (P:Az c ps)
include C P
def MO (c:aC) (J0:List Int) (f r g:Int):Prop:=(gi c.To f=gi c.aA g→rt J0 (gk c.aB f g)=rt J0 (gk c.aB r g))∧(gi c.To g=gi c.aA f→rt J0 (gk c.aB g f)=rt J0 (gk c.aB g r))
theorem Ku {J0 K:List Int} {b:Bool} (h:vi c.aA.length (Cj c ps) J0 b K) {f g r:Int} (f0:0≤f) (f1:f < c.aA.length) (g0:0≤g) (g1:g < c.aA.length) (r0:0≤r) (r1:r < c.aA.length) (hr:Cg c ps f r)
  {Q:Out (Bool×Int×List Int) (List Int)→Prop} (k:∀ b' K',vi c.aA.length (Cj c ps) J0 b' K'→(b'=false→b=false∧(gi c.To g=gi c.aA f→rt J0 (gk c.aB g f)=rt J0 (gk c.aB g r)))→Q (Out.norm (b',ak (g+1),K'))) :
  Ok ((bN c g f)>>=fun GU=>bif decide (GU ≥ (0:Int)) then ((bN c g r)>>=fun O9=>((cK K GU O9)>>=fun Cb=>(bif Cb.1 then (some (Out.norm (true,ak (g+(1:Int)),Cb.2))) else (some (Out.norm (b,ak (g+(1:Int)),Cb.2)))))) else (some (Out.norm (b,ak (g+(1:Int)),K)))) Q:=by
 have hm:=C.m
 have hp:=rS C P hr
 refine oe (C.n4 g0 g1 f0 f1) (od (fun tz=>?_) fun av=>os (k b K h fun e=>⟨e,fun e2=>?_⟩))
 ·have he:gi c.To g=gi c.aA f:=Classical.byContradiction fun iv=>by
   rw [C.none g f g0 g1 f0 f1 iv] at tz
   omega
  have c1:=C.cell g f g0 g1 f0 f1 he
  have c2:=C.cell g r g0 g1 r0 r1 (by rw [he,hp.1])
  refine oe (C.n4 g0 g1 r0 r1) (ob (h.join (by omega) c1.1 c1.2.1 c2.1 c2.2.1 fun φ hφ=>IV C P hr g0 g1 he φ hφ) fun y hy=>oc (fun e=>os ?_) fun e=>os ?_)
  ·rw [e,Bool.or_true] at hy
   exact k true y.2 hy.1 fun e=>nomatch e
  ·rw [e,Bool.or_false] at hy
   exact k b y.2 hy.1 fun e2=>⟨e2,fun _=>hy.2 e2⟩
 ·exact absurd (C.cell g f g0 g1 f0 f1 e2).1 av
theorem Xq {J0 K:List Int} {ag:Bool} (h:vi c.aA.length (Cj c ps) J0 ag K) {f:Int} (f0:0≤f) (f1:f < c.aA.length) {Y:Int×List Int} (hY:vi c.aA.length (Cj c ps) J0 ag Y.2) (hr:Y.1=rt K f) {k:Bool×Int×List Int→Option (Out (Bool×Int×List Int) (List Int))} {Q:Out (Bool×Int×List Int) (List Int)→Prop}
  (hk:∀ b g K',vi c.aA.length (Cj c ps) J0 b K'→(b=false→ag=false∧∀ g:Int,0≤g→g < c.aA.length→MO c J0 f (rt J0 f) g)→Ok (k (b,g,K')) Q) :
  Ok (ae (ab 6 (aj (fun s:Bool×Int×List Int=>dD c (c.aA.length:Int) f Y s.1 s.2.1 s.2.2) (ag,(0:Int),Y.2))) k) Q:=by
 have hm:=C.m
 have hl:=h.ln
 have rr:=Bc h.jw f0 (by omega)
 have hg:Cg c ps f Y.1:=fun φ hφ=>by rw [hr]; exact (h.sd φ hφ f f0 f1).symm
 have r0:0≤Y.1:=by rw [hr]; exact rr.1
 have r1:Y.1 < c.aA.length:=by rw [hr]; omega
 refine ol (fun s:Bool×Int×List Int=>(0≤s.2.1∧s.2.1≤c.aA.length)∧vi c.aA.length (Cj c ps) J0 s.1 s.2.2∧(s.1=false→ag=false∧∀ g:Int,0≤g→g < s.2.1→MO c J0 f Y.1 g)) (fun s=>(c.aA.length - s.2.1).toNat) ⟨⟨by show (0:Int)≤0; omega,by show (0:Int)≤_; omega⟩,hY,fun e=>⟨e,fun g g0 g1=>by have:g < 0:=g1; omega⟩⟩ ?_
 rintro ⟨b,g,K1⟩ ⟨⟨g0,g1⟩,hP,hc⟩
 dsimp only at g0 g1 hP hc
 show Ok (dD c (c.aA.length:Int) f Y b g K1) _
 unfold dD
 have w5:(bif decide (g < (c.aA.length:Int)) then (some (Y.1 != f)) else (some false))=some (decide (g < (c.aA.length:Int)∧Y.1≠f)):=by
  by_cases h1:g < (c.aA.length:Int)
  ·rw [bm h1,cond_true]
   by_cases h2:Y.1=f
   ·rw [h2]; simp
   ·rw [decide_eq_true (show g < (c.aA.length:Int)∧Y.1≠f from ⟨h1,h2⟩)]; simp [h2]
  ·rw [br h1,cond_false,decide_eq_false (fun h=>h1 h.1)]
 refine oe w5 (od (fun hh=>?_) fun hh=>os ⟨rfl,hk b g K1 hP fun e=>?_⟩)
 ·obtain ⟨av,iv⟩:=hh
  have hw:=w1 g0 av (by omega)
  have Ps:∀ (b1:Bool) (K2:List Int),(b1=false→b=false∧(gi c.To f=gi c.aA g→rt J0 (gk c.aB f g)=rt J0 (gk c.aB Y.1 g)))→∀ b' K',vi c.aA.length (Cj c ps) J0 b' K'→(b'=false→b1=false∧(gi c.To g=gi c.aA f→rt J0 (gk c.aB g f)=rt J0 (gk c.aB g Y.1)))→
    EC 6 (fun s:Bool×Int×List Int=>(0≤s.2.1∧s.2.1≤c.aA.length)∧vi c.aA.length (Cj c ps) J0 s.1 s.2.2∧(s.1=false→ag=false∧∀ g:Int,0≤g→g < s.2.1→MO c J0 f Y.1 g)) (fun s=>(c.aA.length - s.2.1).toNat) ((c.aA.length - g:Int).toNat) (fun s=>Ok (k s) Q) (fun r=>Q (.ret r)) (Out.norm (b',ak (g+1),K')):=by
   intro b1 K2 Gm b' K' VH bz
   refine ⟨⟨⟨by dsimp only; rw [hw]; omega,by dsimp only; rw [hw]; omega⟩,VH,fun e=>?_⟩,by dsimp only; rw [hw]; omega⟩
   obtain ⟨e1,e2⟩:=bz e
   obtain ⟨e3,e4⟩:=Gm e1
   obtain ⟨e5,e6⟩:=hc e3
   refine ⟨e5,fun g' BN AE=>?_⟩
   dsimp only at AE
   rw [hw] at AE
   rcases (by omega:g' < g∨g'=g) with h1 | rfl
   ·exact e6 g' BN h1
   ·exact ⟨e4,e2⟩
  refine oe (C.n4 f0 f1 g0 av) (od (fun tz=>?_) fun ab9=>Ku C P hP f0 f1 g0 av r0 r1 hg (Ps b K1 fun e=>⟨e,fun e2=>absurd (C.cell f g f0 f1 g0 av e2).1 ab9⟩))
  have he:gi c.To f=gi c.aA g:=Classical.byContradiction fun iv=>by
   rw [C.none f g f0 f1 g0 av iv] at tz
   omega
  have hp:=rS C P hg
  have c1:=C.cell f g f0 f1 g0 av he
  have c2:=C.cell Y.1 g r0 r1 g0 av (by rw [← hp.2,he])
  refine oe (C.n4 r0 r1 g0 av) (ob (hP.join (by omega) c1.1 c1.2.1 c2.1 c2.2.1 fun φ hφ=>Hf C P hg g0 av he φ hφ) fun y hy=>oc (fun e=>?_) fun e=>?_)
  ·rw [e,Bool.or_true] at hy
   exact Ku C P hy.1 f0 f1 g0 av r0 r1 hg (Ps true y.2 fun e=>nomatch e)
  ·rw [e,Bool.or_false] at hy
   exact Ku C P hy.1 f0 f1 g0 av r0 r1 hg (Ps b y.2 fun e2=>⟨e2,fun _=>hy.2 e2⟩)
 ·obtain ⟨e1,e2⟩:=hc e
  have er:Y.1=rt J0 f:=by rw [hr]; exact h.eq e1 f f0 f1
  refine ⟨e1,fun g' BN AE=>?_⟩
  rw [← er]
  by_cases av:g < (c.aA.length:Int)
  ·have:Y.1=f:=Classical.byContradiction fun iv=>hh ⟨av,iv⟩
   rw [this]
   exact ⟨fun _=>rfl,fun _=>rfl⟩
  ·exact e2 g' BN (by omega)
structure YK (c:aC) (ps:List (List Int)) (ag:Bool) (J:List Int):Prop where
 ln:J.length=c.aA.length
 jw:Jw J
 sd:∀ φ,Cj c ps φ→∀ z:Int,0≤z→z < c.aA.length→φ (rt J z)=φ z
 pr:∀ a b:Int,[a,b]∈ps→rt J a=rt J b
 cl:ag=false→∀ f g:Int,0≤f→f < c.aA.length→0≤g→g < c.aA.length→MO c J f (rt J f) g
theorem RU {J:List Int} (h:YK c ps false J) (i j:Int) (i0:0≤i) (i1:i < c.aA.length) (j0:0≤j) (j1:j < c.aA.length):rt J i=rt J j↔Cg c ps i j:=by
 have hl:=h.ln
 have vQ:=h.cl rfl
 constructor
 ·intro e φ hφ
  rw [← h.sd φ hφ i i0 i1,← h.sd φ hφ j j0 j1,e]
 ·intro hg
  refine hg (rt J) fun a b hm f g f0 f1 g0 g1 e1 e2=>?_
  obtain ⟨ha,hb,ef,et⟩:=ux C P hm
  have e:=h.pr a b hm
  have ra:=Bc h.jw ha.1 (by omega)
  have hga:Cg c ps a (rt J a):=fun φ hφ=>(h.sd φ hφ a ha.1 ha.2).symm
  have pa:=rS C P hga
  have f2:=(vQ a f ha.1 ha.2 f0 f1).2 e1
  have f3:=(vQ b f hb.1 hb.2 f0 f1).2 (by rw [e1,ef])
  rw [← e,← f2] at f3
  have ta:=r4 C P f0 f1 ha.1 ha.2 g0 g1 e1 e2
  have tb:=r4 C P f0 f1 hb.1 hb.2 g0 g1 (by rw [e1,ef]) (by rw [← et,e2])
  have f4:=(vQ _ g ta.1.1 ta.1.2.1 g0 g1).1 (by rw [ta.1.2.2.2,e2])
  have f5:=(vQ _ g tb.1.1 tb.1.2.1 g0 g1).1 (by rw [tb.1.2.2.2,← et,e2])
  rw [f4,f5,f3]
theorem Pt (hp:ps.length≤600):Ok (dY c ps) (Nz (Cg c ps) c.aA.length):=by
 have hm:=C.m
 unfold dY
 refine ew (oe (x:=(c.aA.length:Int)) rfl ?_)
 have hj:mB (c.aA.length:Int)=some (ns c.aA.length):=by
  unfold mB
  rw [BO (by omega) (by omega),aE]
  rfl
 refine oe hj ?_
 have YL:∀ j:Int,0≤j→j < (ns c.aA.length).length→gi (ns c.aA.length) j=j:=fun j j0 j1=>qf j0 (by rw [bR] at j1; exact j1)
 have YM:Jw (ns c.aA.length):=fun x x0 x1=>by rw [YL x x0 x1]; omega
 refine ol (fun s:Int×List Int=>(0≤s.1∧s.1≤ps.length)∧(s.2.length=c.aA.length∧Jw s.2)∧(∀ φ,Cj c ps φ→∀ z:Int,0≤z→z < c.aA.length→φ (rt s.2 z)=φ z)∧∀ k:Int,0≤k→k < s.1→∀ a b:Int,gr ps k=[a,b]→rt s.2 a=rt s.2 b) (fun s=>(ps.length - s.1).toNat) ⟨⟨by show (0:Int)≤0; omega,by show (0:Int)≤_; omega⟩,⟨bR _,YM⟩,fun φ hφ z z0 z1=>by
   have YN:z < (ns c.aA.length).length:=by rw [bR]; exact z1
   show φ (rt (ns c.aA.length) z)=φ z
   rw [qn YM z0 YN (YL z z0 YN)],fun k k0 k1=>by have:k < 0:=k1; omega⟩ ?_
 rintro ⟨s,J⟩ ⟨⟨s0,s1⟩,⟨jl,jw⟩,sd,pr⟩
 dsimp only at s0 s1 jl jw sd pr
 show Ok (fF ps s J) _
 unfold fF
 refine od (fun hs=>?_) fun hs=>os ⟨rfl,?_⟩
 ·obtain ⟨a,b,er,ha,hb,ef,et⟩:=P _ (ic s0 hs)
  have j9:[a,b]∈ps:=by rw [← er]; exact ic s0 hs
  have hw:=w1 s0 hs (by omega)
  refine oe (jf s0 hs) ?_
  rw [er]
  refine oe (x:=a) rfl (oe (x:=b) rfl (ob (Hb (J:=J) (by omega) jw ha.1 (by omega) hb.1 (by omega)) fun y hy=>os ?_))
  obtain ⟨yl,yj,yu,ym,yf,yt,ys⟩:=hy
  refine ⟨⟨⟨by dsimp only; rw [hw]; omega,by dsimp only; rw [hw]; omega⟩,⟨by dsimp only; omega,yj⟩,fun φ hφ z z0 z1=>ys φ (x6 C P j9 φ hφ) (fun z z0 z1=>sd φ hφ z z0 (by omega)) z z0 (by omega),fun k k0 k1 a' b' e=>?_⟩,by dsimp only; rw [hw]; omega⟩
  dsimp only at k1 ⊢
  rw [hw] at k1
  rcases (by omega:k < s∨k=s) with h1 | rfl
  ·have qb:[a',b']∈ps:=by rw [← e]; exact ic k0 (by omega)
   obtain ⟨VI,bz,_,_⟩:=ux C P qb
   exact ym a' b' VI.1 (by omega) bz.1 (by omega) (pr k k0 h1 a' b' e)
  ·rw [er] at e
   cases e
   exact yu
 ·dsimp only
  have pr':∀ a b:Int,[a,b]∈ps→rt J a=rt J b:=fun a b j9=>by
   obtain ⟨n,hn⟩:=List.getElem?_of_mem j9
   have av:=(List.getElem?_eq_some_iff.1 hn).1
   refine pr n (by omega) (by omega) a b ?_
   unfold gr
   rw [List.getD_eq_getElem?_getD,show ((n:Int)).toNat=n from rfl,hn]; rfl
  refine ol (fun s:Bool×List Int=>YK c ps s.1 s.2) (fun s=>if s.1=true then sA s.2+1 else 0) ⟨jl,jw,sd,pr',fun e=>nomatch e⟩ ?_
  rintro ⟨ag,J1⟩ hA
  dsimp only at hA
  show Ok (fH c (c.aA.length:Int) ag J1) _
  unfold fH
  refine oc (fun sa=>?_) fun sa=>os ⟨rfl,?_⟩
  ·have h0:vi c.aA.length (Cj c ps) J1 false J1:=⟨hA.ln,hA.jw,hA.sd,fun i j _ _ _ _ e=>e,Nat.le_refl _,(fun e=>nomatch e),fun _ _ _ _=>rfl⟩
   refine ol (fun s:Bool×Int×List Int=>(0≤s.2.1∧s.2.1≤c.aA.length)∧vi c.aA.length (Cj c ps) J1 s.1 s.2.2∧(s.1=false→∀ f:Int,0≤f→f < s.2.1→∀ g:Int,0≤g→g < c.aA.length→MO c J1 f (rt J1 f) g)) (fun s=>(c.aA.length - s.2.1).toNat) ⟨⟨by show (0:Int)≤0; omega,by show (0:Int)≤_; omega⟩,h0,fun _ f f0 f1=>by have:f < 0:=f1; omega⟩ ?_
   rintro ⟨b,f,K⟩ ⟨⟨f0,f1⟩,hP,hc⟩
   dsimp only at f0 f1 hP hc
   show Ok (fG c (c.aA.length:Int) b f K) _
   unfold fG
   refine od (fun hf=>?_) fun hf=>os ⟨rfl,os ⟨⟨hP.ln,hP.jw,hP.sd,fun a b j9=>?_,fun e f' g x7 qd g0 g1=>?_⟩,?_⟩⟩
   ·have hw:=w1 f0 hf (by omega)
    refine ob (hP.root (by omega) f0 hf) fun y hy=>?_
    refine Xq C P hP f0 hf hy.2 hy.1 fun b' g K' VH bz=>os ⟨⟨⟨by dsimp only; rw [hw]; omega,by dsimp only; rw [hw]; omega⟩,VH,fun e f' x7 qd g g0 g1=>?_⟩,by dsimp only; rw [hw]; omega⟩
    obtain ⟨e1,e2⟩:=bz e
    dsimp only at qd
    rw [hw] at qd
    rcases (by omega:f' < f∨f'=f) with h1 | rfl
    ·exact hc e1 f' x7 h1 g g0 g1
    ·exact e2 g g0 g1
   ·obtain ⟨ha,hb,_,_⟩:=ux C P j9
    exact hP.mn a b ha.1 ha.2 hb.1 hb.2 (hA.pr a b j9)
   ·have hh:=hc e f' x7 (by omega) g g0 g1
    have rf:=Bc hA.jw x7 (by have:=hA.ln; omega)
    have hgf:Cg c ps f' (rt J1 f'):=fun φ hφ=>(hA.sd φ hφ f' x7 qd).symm
    have pf:=rS C P hgf
    have hE:=hP.eq e
    dsimp only
    rw [hE f' x7 qd]
    refine ⟨fun e1=>?_,fun e1=>?_⟩
    ·have c1:=C.cell f' g x7 qd g0 g1 e1
     have c2:=C.cell (rt J1 f') g rf.1 (by omega) g0 g1 (by rw [← pf.2,e1])
     rw [hE _ c1.1 c1.2.1,hE _ c2.1 c2.2.1]
     exact hh.1 e1
    ·have c1:=C.cell g f' g0 g1 x7 qd e1
     have c2:=C.cell g (rt J1 f') g0 g1 rf.1 (by omega) (by rw [e1,pf.1])
     rw [hE _ c1.1 c1.2.1,hE _ c2.1 c2.2.1]
     exact hh.2 e1
   ·dsimp only
    rw [if_pos sa]
    cases b with
    | true=>rw [if_pos rfl]; have:=hP.cl rfl; omega
    | false=>rw [if_neg (by decide)]; omega
  ·dsimp only
   rw [sa] at hA
   have jl1:=hA.ln
   refine ob (RS (J:=J1) (by omega) hA.jw) fun y hy=>os ?_
   rw [jl1] at hy
   exact hy.mono fun i j i0 i1 j0 j1=>RU C P hA i j i0 i1 j0 j1
end
end Go.Proofs.YtbhhmalgcnhniaaGreat
