/- Draws do not fail: categories of paths. No condition beside those that each theorem names. -/
import Derived.Test.YtkhdhnpokfibjaaGreatVc
namespace Go.Proofs.YtkhdhnpokfibjaaGreat
open Go Go.Li
structure Dag (n:Int) (f t:List Int):Prop where
 len:t.length=f.length
 few:f.length≤3
 up:∀ (k:Nat) u v,f[k]? = some u→t[k]? = some v→0≤u∧u < v∧v < n
def wt (v:Int):Nat:=if v=0 then 13 else if v=1 then 4 else 1
def wts (l:List cG):Nat:=(l.map fun p=>wt p.To).sum
def cap (v:Int) (e:Nat):Nat:=if v=0 then 4 * e else if v=1 then e else 0
theorem wts_app (l:List cG) (p:cG):wts (l++[p])=wts l+wt p.To:=by simp [wts]
theorem wt_pos (v:Int):1≤wt v:=by unfold wt; split <;> (try split) <;> omega
theorem wts_len (l:List cG):l.length≤wts l:=by
 induction l with
 | nil=>exact Nat.le_refl _
 | cons p l ih=>
  have:=wt_pos p.To
  have e:wts (p :: l)=wt p.To+wts l:=by simp [wts]
  rw [e,List.length_cons]; omega
theorem wts_drop {l:List cG} {k:Nat} {p:cG} (h:l[k]? = some p):wts (l.drop k)=wt p.To+wts (l.drop (k+1)):=by
 have hk:=getElem?_lt h
 rw [List.getElem?_eq_getElem hk] at h
 rw [List.drop_eq_getElem_cons hk,Option.some.inj h]
 simp [wts]
structure PathOk (n:Int) (m:Nat) (p:cG):Prop where
 f0:0≤p.aG
 f1:p.aG < n
 t0:0≤p.To
 t1:p.To < n
 e:p.Edges.length≤m
theorem beforeOk {p q:cG} (h:p.Edges.length≤1048576):Ok (iW p q) fun _=>True:=by
 unfold iW
 exact orr (oc (fun _=>os trivial) fun _=>oc (fun _=>os trivial) fun _=>oe (specLess _ _ (by omega)) (os trivial))
theorem sameOk {a b:List Int} (h:a.length≤1048576):Ok (fM a b) fun _=>True:=by
 unfold fM
 refine orr (oc (fun _=>os trivial) fun hl=>?_)
 have hl:(a.length:Int)=b.length:=by simpa using hl
 refine ol (fun i:Int=>0≤i∧i≤a.length) (fun i=>(a.length - i).toNat) ⟨by omega,by omega⟩ fun i hi=>?_
 unfold lG
 refine od (fun h1=>oi hi.1 h1 fun _ _=>oi hi.1 (by omega) fun _ _=>oc (fun _=>os trivial) fun _=>os ⟨⟨?_,?_⟩,?_⟩) fun _=>os ⟨rfl,os trivial⟩
 all_goals (try dsimp only)
 all_goals rw [w1 hi.1 h1 (by omega)]
 all_goals omega
section
variable {n:Int} {f t:List Int} (D:Dag n f t) (n0:0≤n) (n3:n≤3)
include D n0 n3
theorem growOk {l0:List cG} {k:Nat} {p0:cG} (hp:l0[k]? = some p0) (hl:∀ (i:Nat) p,l0[i]? = some p→PathOk n i p) (hw:k+wts (l0.drop k)≤18) {Q:Out (List cG×Int) (List cG)→Prop} {g:List cG×Int→Option (Out (List cG×Int) (List cG))}
  (hg:∀ l e,(∀ (i:Nat) p,l[i]? = some p→PathOk n i p)→k+1+wts (l.drop (k+1))≤18→Ok (g (l,e)) Q):Ok (lbind (blockM 4 (loopM (fun s=>iX f t k s.1 s.2) (l0,(0:Int)))) g) Q:=by
 have hP:=hl k p0 hp
 have hk:=getElem?_lt hp
 have hd:=wts_drop hp
 have f3:=D.few
 refine ol (fun z:List cG×Int=>((0≤z.2∧z.2≤f.length)∧z.1[k]? = some p0)∧(∀ (i:Nat) p,z.1[i]? = some p→PathOk n i p)∧k+wt p0.To+wts (z.1.drop (k+1))≤18+cap p0.To z.2.toNat) (fun z=>(f.length - z.2).toNat)
  ⟨⟨⟨by show (0:Int)≤0; omega,by show (0:Int)≤_; omega⟩,hp⟩,hl,by show k+wt p0.To+wts (l0.drop (k+1))≤_; omega⟩ ?_
 rintro ⟨l,e⟩ ⟨⟨⟨e0,e1⟩,hlk⟩,hl,hs⟩
 dsimp only at e0 e1 hlk hl hs
 have hkl:=getElem?_lt hlk
 have hlen:l.length≤1000:=by
  have h1:=wts_len (l.drop (k+1))
  rw [List.length_drop] at h1
  have:cap p0.To e.toNat≤12:=by unfold cap; split <;> (try split) <;> omega
  omega
 show Ok (iX f t k l e) _
 unfold iX
 refine od (fun he=>?_) fun he=>os ⟨rfl,hg l e hl ?_⟩
 ·have hw:=w1 e0 he (by omega)
  have hu:f[e.toNat]? = some (f[e.toNat]'(by omega)):=List.getElem?_eq_getElem _
  have hv:t[e.toNat]? = some (t[e.toNat]'(by have:=D.len; omega)):=List.getElem?_eq_getElem _
  have up:=D.up _ _ _ hu hv
  have eu:idx f e=some (f[e.toNat]'(by omega)):=by rw [idx_of e0]; exact hu
  have ev:idx t e=some (t[e.toNat]'(by have:=D.len; omega)):=by rw [idx_of e0]; exact hv
  have ek:idx l (k:Int)=some p0:=by rw [idx_nat]; exact hlk
  generalize f[e.toNat]'(by omega)=u at *
  generalize t[e.toNat]'(by have:=D.len; omega)=v at *
  refine oe eu (oe ek (oc (fun h=>?_) fun h=>os ⟨⟨⟨⟨?_,?_⟩,hlk⟩,hl,?_⟩,?_⟩))
  ·have h:u=p0.To:=by simpa using h
   have hpe:=hP.e
   refine oe ek (oe ev (oe ek (oe (specOwn0 _ (by omega)) (oft (by omega) (by omega) (oft (by omega) (by omega) (os ⟨⟨⟨⟨?_,?_⟩,?_⟩,?_,?_⟩,?_⟩))))))
   ·dsimp only; rw [hw]; omega
   ·dsimp only; rw [hw]; omega
   ·dsimp only; rw [List.getElem?_append_left hkl]; exact hlk
   ·intro i p hi
    dsimp only at hi
    by_cases hil:i < l.length
    ·rw [List.getElem?_append_left hil] at hi; exact hl i p hi
    ·rw [List.getElem?_append_right (by omega)] at hi
     have hi0:i - l.length=0:=by
      have:=getElem?_lt hi
      rw [List.length_singleton] at this; omega
     rw [hi0] at hi
     have hi:=Option.some.inj hi
     rw [← hi]
     refine ⟨hP.f0,hP.f1,?_,?_,?_⟩ <;> dsimp only
     ·omega
     ·omega
     ·rw [List.length_append,List.length_singleton]; omega
   ·dsimp only
    rw [hw,List.drop_append_of_le_length (by omega),wts_app]
    have e2:(e+1).toNat=e.toNat+1:=by omega
    rw [e2]
    have h1:0≤p0.To:=hP.t0
    have hc:wt v+cap p0.To e.toNat≤cap p0.To (e.toNat+1):=by
     unfold cap wt
     by_cases z0:p0.To=0
     ·rw [if_pos z0,if_pos z0]
      rw [if_neg (by omega)]
      split <;> omega
     ·by_cases z1:p0.To=1
      ·rw [if_neg z0,if_neg z0,if_pos z1,if_pos z1,if_neg (by omega),if_neg (by omega)]; omega
      ·omega
    show k+wt p0.To+(wts (l.drop (k+1))+wt v)≤_
    omega
   ·dsimp only; rw [hw]; omega
  ·dsimp only; rw [hw]; omega
  ·dsimp only; rw [hw]; omega
  ·dsimp only; rw [hw]
   have e2:(e+1).toNat=e.toNat+1:=by omega
   rw [e2]
   have:cap p0.To e.toNat≤cap p0.To (e.toNat+1):=by unfold cap; split <;> (try split) <;> omega
   omega
  ·dsimp only; rw [hw]; omega
 ·have:cap p0.To e.toNat+1≤wt p0.To:=by
   have hm:e.toNat≤3:=by omega
   unfold cap wt
   split
   ·omega
   ·split <;> omega
  omega
theorem allOk':Ok (kZ n f t) fun l=>l.length≤18∧∀ p∈l,PathOk n 18 p:=by
 unfold kZ
 refine orr (ol (fun z:List cG×Int=>(0≤z.2∧z.2≤n)∧(z.1.length:Int)=z.2∧(∀ (i:Nat) p,z.1[i]? = some p→PathOk n i p)∧wts z.1≤(if z.2=0 then 0 else if z.2=1 then 13 else if z.2=2 then 17 else 18)) (fun z=>(n - z.2).toNat)
  ⟨⟨by show (0:Int)≤0; omega,n0⟩,rfl,(fun i p h=>by simp at h),Nat.le_refl _⟩ ?_)
 rintro ⟨l,x⟩ ⟨⟨x0,x1⟩,hl,hp,hw⟩
 dsimp only at x0 x1 hl hp hw
 show Ok (kD n l x) _
 unfold kD
 refine od (fun hx=>?_) fun hx=>os ⟨rfl,?_⟩
 ·have hw':=w1 x0 hx (by omega)
  refine oft (by omega) (by omega) (os ⟨⟨⟨?_,?_⟩,?_,?_,?_⟩,?_⟩)
  ·dsimp only; rw [hw']; omega
  ·dsimp only; rw [hw']; omega
  ·dsimp only; rw [hw',List.length_append,List.length_singleton]; omega
  ·intro i p hi
   dsimp only at hi
   by_cases hil:i < l.length
   ·rw [List.getElem?_append_left hil] at hi; exact hp i p hi
   ·rw [List.getElem?_append_right (by omega)] at hi
    have hi0:i - l.length=0:=by
     have:=getElem?_lt hi
     rw [List.length_singleton] at this; omega
    rw [hi0] at hi
    rw [← Option.some.inj hi]
    exact ⟨x0,hx,x0,hx,Nat.zero_le _⟩
  ·dsimp only
   rw [hw',wts_app]
   show wts l+wt x≤_
   unfold wt
   by_cases h0:x=0
   ·subst h0; simp at hw ⊢; omega
   ·by_cases h1:x=1
    ·subst h1; simp at hw ⊢; omega
    ·obtain rfl:x=2:=by omega
     simp at hw ⊢; omega
  ·dsimp only; rw [hw']; omega
 ·have hw0:wts l≤18:=by
   refine Nat.le_trans hw ?_
   split
   ·omega
   ·split
    ·omega
    ·split <;> omega
  refine ol (fun z:List cG×Int=>0≤z.2∧(∀ (i:Nat) p,z.1[i]? = some p→PathOk n i p)∧z.2.toNat+wts (z.1.drop z.2.toNat)≤18) (fun z=>(19 - z.2).toNat) ⟨by show (0:Int)≤0; omega,hp,by show 0+wts (l.drop 0)≤18; rw [List.drop_zero]; omega⟩ ?_
  rintro ⟨l,k⟩ ⟨k0,hp,hw⟩
  dsimp only at k0 hp hw
  obtain ⟨k,rfl⟩ : ∃ m:Nat,k=m:=⟨k.toNat,by omega⟩
  rw [Int.toNat_natCast] at hw
  have hll:l.length≤18:=by
   have:=wts_len (l.drop k)
   rw [List.length_drop] at this; omega
  show Ok (kE f t l k) _
  unfold kE
  refine ob (P:=fun b=>b=true→(k:Int) < l.length) (od (fun h=>os fun _=>h) fun _=>os fun h=>by cases h) fun b hb=>oc (fun hb'=>?_) fun _=>os ⟨rfl,?_⟩
  ·have hkl:=hb hb'
   have hg:l[k]? = some (l[k]'(by omega)):=List.getElem?_eq_getElem _
   refine growOk D n0 n3 hg hp hw fun l' e hp' hw'=>os ⟨⟨?_,hp',?_⟩,?_⟩
   ·dsimp only; rw [cP (by omega)]; omega
   ·dsimp only; rw [cP (by omega),Int.toNat_natCast]; exact hw'
   ·dsimp only; rw [cP (by omega)]; omega
  ·have hall:∀ p∈l,PathOk n 18 p:=fun p h=>by
    obtain ⟨i,hi⟩:=List.getElem?_of_mem h
    have:=hp i p hi
    have hi':=getElem?_lt hi
    exact ⟨this.f0,this.f1,this.t0,this.t1,by have:=this.e; omega⟩
   refine ol (fun z:List cG×Int=>1≤z.2∧z.1.length≤18∧∀ p∈z.1,PathOk n 18 p) (fun z=>(19 - z.2).toNat) ⟨by show (1:Int)≤1; omega,hll,hall⟩ ?_
   rintro ⟨l,i⟩ ⟨i0,hl,hp⟩
   dsimp only at i0 hl hp
   show Ok (kG l i) _
   unfold kG
   refine od (fun hi=>?_) fun _=>os ⟨rfl,os ⟨hl,hp⟩⟩
   refine ol (fun z:List cG×Int=>(0≤z.2∧z.2 < z.1.length)∧z.1.length≤18∧∀ p∈z.1,PathOk n 18 p) (fun z=>z.2.toNat) ⟨⟨by show 0≤i; omega,hi⟩,hl,hp⟩ ?_
   rintro ⟨l,j⟩ ⟨⟨j0,j1⟩,hl,hp⟩
   dsimp only at j0 j1 hl hp
   show Ok (kF l j) _
   unfold kF
   refine ob (P:=fun b=>b=true→0 < j) (od (fun h=>?_) fun _=>os fun h=>by cases h) fun b hb=>oc (fun hb'=>?_) fun _=>os ⟨rfl,os ⟨⟨?_,hl,hp⟩,?_⟩⟩
   ·rw [eX (a:=j - 1) (by omega) (by omega)]
    refine oi j0 j1 fun p hp1=>oi (by omega) (by omega) fun q _=>?_
    have:=(hp p hp1).e
    exact ob (beforeOk (by omega)) fun _ _=>os fun _=>h
   ·have h:=hb hb'
    rw [eX (a:=j - 1) (by omega) (by omega)]
    refine oi j0 j1 fun p hp1=>oi (by omega) (by omega) fun q hq=>oi j0 j1 fun _ _=>oi (by omega) (by rw [List.length_set]; omega) fun _ _=>os ⟨⟨⟨?_,?_⟩,?_,set_all (set_all hp (hp q hq)) (hp p hp1)⟩,?_⟩ <;> dsimp only <;> (try rw [List.length_set,List.length_set]) <;> omega
   ·dsimp only; rw [eX (by omega) (by omega)]; omega
   ·dsimp only; rw [eX (by omega) (by omega)]; omega
theorem pathsOk:Ok (fW n f t) (OkC 3 18):=by
 unfold fW
 refine orr (ob (allOk' D n0 n3) fun l hl=>?_)
 obtain ⟨hl,hp⟩:=hl
 refine omk n0 (by omega) (by omega) ?_
 refine ol (fun z:Int×List Int×List Int×List Int=>(0≤z.1∧z.1≤l.length)∧(z.2.1.length:Int)=z.1∧(z.2.2.1.length:Int)=z.1∧(z.2.2.2.length:Int)=n) (fun z=>(l.length - z.1).toNat) ⟨⟨by show (0:Int)≤0; omega,by show (0:Int)≤_; omega⟩,rfl,rfl,by show ((List.replicate _ _).length:Int)=n; rw [List.length_replicate]; omega⟩ ?_
 rintro ⟨i,a,b,id⟩ ⟨⟨i0,i1⟩,ha,hb,hid⟩
 dsimp only at i0 i1 ha hb hid
 show Ok (jB l i a b id) _
 unfold jB
 refine od (fun hi=>?_) fun hi=>os ⟨rfl,?_⟩
 ·have hw:=w1 i0 hi (by omega)
  refine oi i0 hi fun _ _=>oft (by omega) (by omega) (oi i0 hi fun _ _=>oft (by omega) (by omega) (oi i0 hi fun _ _=>oc (fun _=>oi i0 hi fun p hp1=>?_) fun _=>os ⟨⟨⟨?_,?_⟩,?_,?_,hid⟩,?_⟩))
  ·have h:=hp p hp1
   refine oi h.f0 (by have:=h.f1; omega) fun _ _=>os ⟨⟨⟨?_,?_⟩,?_,?_,?_⟩,?_⟩ <;> dsimp only <;> (try rw [hw]) <;> (try simp only [List.length_append,List.length_singleton,List.length_set]) <;> omega
  all_goals (try dsimp only)
  all_goals (try rw [hw])
  all_goals (try simp only [List.length_append,List.length_singleton])
  all_goals omega
 ·have fits:Ok (fH (aI.mk n a b id [])) fun y=>y=true:=by
   unfold fH
   refine orr (ob (P:=fun y=>y=true) (od (fun _=>os (decide_eq_true (by show (a.length:Int)≤40; omega))) fun h=>absurd (show n≤8 by omega) h) fun y hy=>os hy)
  refine ob fits fun y hy=>?_
  subst hy
  show Ok (lbind (blockM 2 (loopM (fun s=>gT l s.1 s.2) ((0:Int),([]:(List (List Int)))))) _) _
  refine ol (fun z:Int×List (List Int)=>(0≤z.1∧z.1≤l.length)∧(z.2.length:Int)=z.1∧∀ y∈z.2,y.length=a.length) (fun z=>(l.length - z.1).toNat) ⟨⟨by show (0:Int)≤0; omega,by show (0:Int)≤_; omega⟩,rfl,nil_all⟩ ?_
  rintro ⟨j,k⟩ ⟨⟨j0,j1⟩,hk,hkr⟩
  dsimp only at j0 j1 hk hkr
  show Ok (gT l j k) _
  unfold gT
  refine od (fun hj=>?_) fun hj=>os ⟨rfl,os ⟨n0,?_,?_,?_,hid,?_,hkr⟩⟩
  ·refine ol (fun z:List Int×Int=>(0≤z.2∧z.2≤l.length)∧(z.1.length:Int)=z.2) (fun z=>(l.length - z.2).toNat) ⟨⟨by show (0:Int)≤0; omega,by show (0:Int)≤_; omega⟩,rfl⟩ ?_
   rintro ⟨row,g⟩ ⟨⟨g0,g1⟩,hrow⟩
   dsimp only at g0 g1 hrow
   show Ok (jD l j row g) _
   unfold jD
   refine od (fun hg=>?_) fun hg=>os ⟨rfl,?_⟩
   ·have hw:=w1 g0 hg (by omega)
    refine oi j0 hj fun _ _=>oi g0 hg fun _ _=>oc (fun _=>oi j0 hj fun p hp1=>?_) fun _=>?_
    ·have h1:=(hp p hp1).e
     refine oe (specOwn0 _ (by omega)) (oi g0 hg fun q hq=>?_)
     have h2:=(hp q hq).e
     refine oft (by omega) (by omega) ?_
     refine ol (fun z:Int×Int=>0≤z.2∧z.2≤l.length) (fun z=>(l.length - z.2).toNat) ⟨by show (0:Int)≤0; omega,by show (0:Int)≤_; omega⟩ ?_
     rintro ⟨c,h⟩ ⟨c0,c1⟩
     dsimp only at c0 c1
     show Ok (jC l j p.Edges q c h) _
     unfold jC
     refine od (fun hh=>?_) fun hh=>os ⟨rfl,?_⟩
     ·have hw:=w1 c0 hh (by omega)
      refine ob (P:=fun _=>True) (oi c0 hh fun _ _=>oi j0 hj fun _ _=>oc (fun _=>oi c0 hh fun r hr=>?_) fun _=>os trivial) fun _ _=>oc (fun _=>os ⟨⟨?_,?_⟩,?_⟩) fun _=>os ⟨⟨?_,?_⟩,?_⟩
      ·have:=(hp r hr).e
       exact ob (sameOk (by omega)) fun _ _=>os trivial
      all_goals (try dsimp only)
      all_goals rw [hw]
      all_goals omega
     ·refine oft (by omega) (by omega) (os ⟨⟨⟨?_,?_⟩,?_⟩,?_⟩) <;> dsimp only <;> rw [hw] <;> (try simp only [List.length_append,List.length_singleton]) <;> omega
    ·refine oft (by omega) (by omega) (os ⟨⟨⟨?_,?_⟩,?_⟩,?_⟩) <;> dsimp only <;> rw [hw] <;> (try simp only [List.length_append,List.length_singleton]) <;> omega
   ·have hw:=w1 j0 hj (by omega)
    refine oft (by omega) (by omega) (os ⟨⟨⟨?_,?_⟩,?_,app_all hkr (by omega)⟩,?_⟩) <;> dsimp only <;> rw [hw] <;> (try simp only [List.length_append,List.length_singleton]) <;> omega
  all_goals (try dsimp only)
  all_goals omega
end
end Go.Proofs.YtkhdhnpokfibjaaGreat
namespace Go.Proofs.YtkhdhnpokfibjaaGreat
open Go Go.Li
theorem sq1:Sq 1 [[(1:Int)]]:=⟨rfl,by simp⟩
section
variable {x:List Int} (B:Byt x)
include B
theorem bendOk {s:aL} (S:Src x s) {c:aI} (C:OkC 8 800 c):Ok (oA s c) fun y=>CatSmall y.1∧Src x y.2:=by
 have hC:=C.small (by omega) (by omega)
 have hm:=C.m
 have hk:=C.k
 have ht:=C.t
 have hi:=C.i
 have o0:=C.o0
 have o8:=C.o
 unfold oA
 refine orr (oe (specOwnC hC) (ob (nextOk B S _) fun y hy=>ob (nextOk B (S.on hy.2) _) fun z hz=>?_))
 have T:=S.on (h:=z.2.Hash) hz.2
 have same:CatSmall c∧Src x (aL.mk s.Code z.2.At z.2.Hash):=⟨hC,T⟩
 have cell:Ok (bif decide ((c.aG.length:Int) > (0:Int)) then ((idx c.aF (y.1))>>=fun e=>((cH (aL.mk s.Code z.2.At z.2.Hash) ((c.aG.length:Int)))>>=fun u=>((cH (aL.mk s.Code u.2.At u.2.Hash) (w64 ((c.aG.length:Int)+(1:Int))))>>=fun v=>((idx e (u.1))>>=fun _=>(some (Out.ret (S:=Unit) ((aI.mk c.aD c.aG c.To c.aJ (c.aF.set (y.1).toNat (e.set (u.1).toNat (w64 (v.1 - (1:Int)))))),(aL.mk s.Code v.2.At v.2.Hash)))))))) else (some (Out.ret (c,(aL.mk s.Code z.2.At z.2.Hash))))) (Rt fun y=>CatSmall y.1∧Src x y.2):=by
  refine od (fun h=>oi hy.1.1 (by have:=hy.1.2 (by omega); omega) fun e he=>ob (nextOk B T _) fun u hu=>ob (nextOk B (S.on hu.2) _) fun v hv=>?_) fun _=>os same
  have hr:=C.r e he
  refine oi hu.1.1 (by have:=hu.1.2 (by omega); omega) fun _ _=>os ⟨⟨hC.f,hC.t,hC.i,?_,set_all hC.r ?_⟩,S.on hv.2⟩
  ·show (List.set _ _ _).length≤_; rw [List.length_set]; exact hC.k
  ·show (List.set _ _ _).length≤_; rw [List.length_set]; omega
 refine oc (fun _=>ob (pickOk B T (l:=[w64 (c.aD+(1:Int)),(-1:Int),(9:Int)]) (by simp)) fun p hp=>os ⟨⟨hC.f,hC.t,hC.i,hC.k,hC.r⟩,S.on hp.2⟩) fun _=>oc (fun _=>oft (by omega) (by omega) (os ⟨⟨?_,hC.t,hC.i,hC.k,hC.r⟩,T⟩)) fun _=>
  oc (fun _=>od (fun h=>ob (nextOk B T _) fun p hp=>oi (by omega) (by omega) fun _ _=>os ⟨⟨hC.f,hC.t,?_,hC.k,hC.r⟩,S.on hp.2⟩) fun _=>os same) fun _=>oc (fun _=>cell) fun _=>oc (fun _=>cell) fun _=>oc (fun _=>cell) fun _=>
  oc (fun _=>od (fun h=>ob (nextOk B T _) fun p hp=>oi hy.1.1 (by have:=hy.1.2 (by omega); omega) fun _ _=>os ⟨⟨hC.f,?_,hC.i,hC.k,hC.r⟩,S.on hp.2⟩) fun _=>os same) fun _=>od (fun h=>oi hy.1.1 (by have:=hy.1.2 (by omega); omega) fun e he=>?_) fun _=>os same
 ·show (c.aG++[(0:Int)]).length≤_; rw [List.length_append,List.length_singleton]; omega
 ·show (List.set _ _ _).length≤_; rw [List.length_set]; exact hC.i
 ·show (List.set _ _ _).length≤_; rw [List.length_set]; exact hC.t
 ·have hr:=C.r e he
  have etl:tl e (1:Int)=some (e.drop 1):=by
   unfold tl
   rw [decT (by omega),cond_true]; rfl
  refine oe etl (oi hy.1.1 (by have:=hy.1.2 (by omega); omega) fun _ _=>os ⟨⟨hC.f,hC.t,hC.i,?_,set_all hC.r ?_⟩,T⟩)
  ·show (List.set _ _ _).length≤_; rw [List.length_set]; exact hC.k
  ·rw [List.length_drop]; omega
end
end Go.Proofs.YtkhdhnpokfibjaaGreat
