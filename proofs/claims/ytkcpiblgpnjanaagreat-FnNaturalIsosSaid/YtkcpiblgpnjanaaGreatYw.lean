/- Relations that are drawn are reflexive and transitive. No condition beside those that each theorem names. -/
import Derived.Test.YtkcpiblgpnjanaaGreatYt
set_option linter.unusedVariables false
set_option linter.unusedSimpArgs false
namespace Go.Proofs.YtkcpiblgpnjanaaGreat
open Go Go.Li
def Rl (l:List (List Int)) (i j:Int):Prop:=gi (gr l i) j=1
theorem N2 {n:Nat} {l:List (List Int)} (h:Sq n l) {i j:Int} (i0:0≤i) (i1:i < n) (j0:0≤j) (j1:j < n) {i' j':Int} (a0:0≤i') (b0:0≤j'):Rl (l.set i.toNat ((gr l i).set j.toNat 1)) i' j'↔(i'=i∧j'=j)∨Rl l i' j':=by
 have hl:=h.len
 have hr:=h.row _ (qx (l:=l) i0 (by omega))
 have key:gr (l.set i.toNat ((gr l i).set j.toNat 1)) i'=if i'=i then (gr l i).set j.toNat 1 else gr l i':=by
  have:=Wv (cl:=l) (y:=i.toNat) (q:=(gr l i).set j.toNat 1) i'.toNat
  rw [show ((i'.toNat:Nat):Int)=i' by omega] at this
  rw [this]
  by_cases e:i'=i
  ·rw [if_pos (by omega),if_pos e]
  ·rw [if_neg (by omega),if_neg e]
 unfold Rl
 rw [key]
 by_cases e:i'=i
 ·rw [if_pos e,pw j0 (by omega) b0,e]
  by_cases e2:j'=j
  ·rw [if_pos e2]; exact ⟨fun _=>.inl ⟨rfl,e2⟩,fun _=>rfl⟩
  ·rw [if_neg e2]; exact ⟨fun h=>.inr h,fun h=>h.resolve_left fun h=>e2 h.2⟩
 ·rw [if_neg e]; exact ⟨fun h=>.inr h,fun h=>h.resolve_left fun h=>e h.1⟩
def Ad (l:List (List Int)) (k i j:Int):Prop:=Rl l i j∨Rl l i k∧Rl l k j
theorem EM {R S:Type} {n:Nat} (hn:n≤4) {k k3 k4:Nat} {f:Int×List (List Int)→Option (Out S R)} {Q:Out S R→Prop} {L2:Int→List (List Int)→Option (Out (Int×List (List Int)) R)} {L3:Int→Int→List (List Int)→Option (Out (Int×List (List Int)) R)} {L4:Int→Int→Int→List (List Int)→Option (Out (Int×List (List Int)) R)}
  (e2:∀ a t,L2 a t=bif decide (a < (n:Int)) then (ah (ae k3 (ai (fun s:Int×List (List Int)=>L3 a s.1 s.2) ((0:Int),t))) fun s=>some (.norm (aj (a+1),s.2))) else some (.exit k (a,t)))
  (e3:∀ a b t,L3 a b t=bif decide (b < (n:Int)) then (ah (ae k4 (ai (fun s:Int×List (List Int)=>L4 a b s.1 s.2) ((0:Int),t))) fun s=>some (.norm (aj (b+1),s.2))) else some (.exit k3 (b,t)))
  (e4:∀ a b d t,L4 a b d t=bif decide (d < (n:Int)) then ((idx t b>>=fun e=>(idx e a>>=fun e'=>(bif e' == (1:Int) then (idx t a>>=fun e2=>(idx e2 d>>=fun Wu=>some (Wu == (1:Int)))) else some false)))>>=fun g=>(bif g then (idx t b>>=fun e=>(idx e d>>=fun _=>some (.norm (aj (d+1),t.set b.toNat (e.set d.toNat 1))))) else some (.norm (aj (d+1),t)))) else some (.exit k4 (d,t)))
  {t:List (List Int)} (ht:Sq n t) (re:∀ i:Int,0≤i→i < n→Rl t i i)
  (hf:∀ s:Int×List (List Int),Sq n s.2→(∀ i:Int,0≤i→i < n→Rl s.2 i i)→(∀ i j k:Int,0≤i→i < n→0≤j→j < n→0≤k→k < n→Rl s.2 i j→Rl s.2 j k→Rl s.2 i k)→Ok (f s) Q):Ok (ah (ae k (ai (fun s=>L2 s.1 s.2) ((0:Int),t))) f) Q:=by
 refine ol (fun s:Int×List (List Int)=>(0≤s.1∧s.1≤n)∧Sq n s.2∧(∀ i:Int,0≤i→i < n→Rl s.2 i i)∧∀ m i j:Int,0≤m→m < s.1→0≤i→i < n→0≤j→j < n→Rl s.2 i m→Rl s.2 m j→Rl s.2 i j) (fun s=>(n - s.1).toNat) ⟨⟨by show (0:Int)≤0; omega,by show (0:Int)≤_; omega⟩,ht,re,fun m i j m0 m1=>by dsimp only at m1; omega⟩ ?_
 rintro ⟨a,t⟩ ⟨⟨a0,a1⟩,ht,re,tr⟩
 dsimp only at a0 a1 ht re tr
 show Ok (L2 a t) _
 rw [e2]
 refine od (fun ha=>?_) fun ha=>os ⟨rfl,hf _ ht re fun i j m i0 i1 j0 j1 m0 m1 h1 h2=>tr j i m j0 (by omega) i0 i1 m0 m1 h1 h2⟩
 refine ol (fun s:Int×List (List Int)=>(0≤s.1∧s.1≤n)∧Sq n s.2∧∀ i j:Int,0≤i→i < n→0≤j→j < n→(Rl s.2 i j↔if i < s.1 then Ad t a i j else Rl t i j)) (fun s=>(n - s.1).toNat) ⟨⟨by show (0:Int)≤0; omega,by show (0:Int)≤_; omega⟩,ht,fun i j i0 _ _ _=>by rw [if_neg (by dsimp only; omega)]⟩ ?_
 rintro ⟨b,o⟩ ⟨⟨b0,b1⟩,ho,hR⟩
 dsimp only at b0 b1 ho hR
 show Ok (L3 a b o) _
 rw [e3]
 refine od (fun hb=>?_) fun hb=>os ⟨rfl,os ⟨⟨⟨?_,?_⟩,ho,fun i i0 i1=>?_,fun m i j m0 m1 i0 i1 j0 j1 h1 h2=>?_⟩,?_⟩⟩
 ·refine ol (fun s:Int×List (List Int)=>(0≤s.1∧s.1≤n)∧Sq n s.2∧∀ i j:Int,0≤i→i < n→0≤j→j < n→(Rl s.2 i j↔if i < b∨i=b∧j < s.1 then Ad t a i j else Rl t i j)) (fun s=>(n - s.1).toNat) ⟨⟨by show (0:Int)≤0; omega,by show (0:Int)≤_; omega⟩,ho,fun i j i0 i1 j0 j1=>by
   rw [hR i j i0 i1 j0 j1]
   by_cases e:i < b
   ·rw [if_pos e,if_pos (.inl e)]
   ·rw [if_neg e,if_neg (by dsimp only; omega)]⟩ ?_
  rintro ⟨d,o⟩ ⟨⟨d0,d1⟩,ho,hR⟩
  dsimp only at d0 d1 ho hR
  have hl:=ho.len
  have Xf:∀ i:Int,0≤i→i < n→(gr o i).length=n:=fun i i0 i1=>ho.row _ (qx i0 (by omega))
  show Ok (L4 a b d o) _
  rw [e4]
  have ZB:Rl o b a↔Rl t b a:=by
   rw [hR b a b0 hb a0 ha]
   split
   ·exact ⟨fun h=>h.elim id fun h=>h.1,fun h=>.inl h⟩
   ·exact Iff.rfl
  have row:d < n→(Rl o a d↔Rl t a d):=fun hd=>by
   rw [hR a d a0 ha d0 hd]
   split
   ·exact ⟨fun h=>h.elim id fun h=>h.2,fun h=>.inl h⟩
   ·exact Iff.rfl
  refine od (fun hd=>?_) fun hd=>os ⟨rfl,os ⟨⟨⟨?_,?_⟩,ho,fun i j i0 i1 j0 j1=>?_⟩,?_⟩⟩
  ·have hw:=w1 d0 hd (by omega)
   have bh:=row hd
   have lb:=Xf b b0 hb
   have la:=Xf a a0 ha
   refine ob (P:=fun g=>g=true↔(Rl t b a∧Rl t a d)) (oe (rT b0 (by omega)) (oe (cT a0 (by omega)) (oc (fun e1=>oe (rT a0 (by omega)) (oe (cT d0 (by omega)) (os ?_))) fun e1=>os ?_))) fun g hg=>oc (fun e=>oe (rT b0 (by omega)) (oe (cT d0 (by omega)) (os ⟨⟨⟨?_,?_⟩,RC ho (qx b0 (by omega)) _ _ _,fun i j i0 i1 j0 j1=>?_⟩,?_⟩))) fun e=>os ⟨⟨⟨?_,?_⟩,ho,fun i j i0 i1 j0 j1=>?_⟩,?_⟩
   ·have h1:Rl o b a:=by unfold Rl; simpa using e1
    rw [← ZB,← bh]
    exact ⟨fun h=>⟨h1,by unfold Rl; simpa using h⟩,fun h=>by have:=h.2; unfold Rl at this; simp [this]⟩
   ·have h1 : ¬ Rl o b a:=fun h=>by unfold Rl at h; rw [h] at e1; simp at e1
    rw [← ZB]
    exact ⟨fun h=>(by cases h),fun h=>absurd h.1 h1⟩
   ·dsimp only; rw [hw]; omega
   ·dsimp only; rw [hw]; omega
   ·dsimp only
    rw [hw,N2 ho b0 hb d0 hd i0 j0,hR i j i0 i1 j0 j1]
    by_cases h:i=b∧j=d
    ·obtain ⟨h5,h6⟩:=h
     have hc:b < b∨b=b∧d < d+1:=.inr ⟨rfl,by omega⟩
     rw [h5,h6,if_pos hc]
     exact ⟨fun _=>.inr (hg.1 e),fun _=>.inl ⟨rfl,rfl⟩⟩
    ·by_cases h2:i < b∨i=b∧j < d
     ·rw [if_pos h2,if_pos (by omega)]
      exact ⟨fun h3=>h3.resolve_left h,fun h3=>.inr h3⟩
     ·rw [if_neg h2,if_neg (by omega)]
      exact ⟨fun h3=>h3.resolve_left h,fun h3=>.inr h3⟩
   ·dsimp only; rw [hw]; omega
   ·dsimp only; rw [hw]; omega
   ·dsimp only; rw [hw]; omega
   ·dsimp only
    rw [hw,hR i j i0 i1 j0 j1]
    by_cases h:i=b∧j=d
    ·obtain ⟨h5,h6⟩:=h
     have hc:b < b∨b=b∧d < d+1:=.inr ⟨rfl,by omega⟩
     rw [h5,h6,if_neg (by omega),if_pos hc]
     exact ⟨fun h3=>.inl h3,fun h3=>h3.resolve_right fun h4=>by have:=hg.2 h4; rw [e] at this; cases this⟩
    ·by_cases h2:i < b∨i=b∧j < d
     ·rw [if_pos h2,if_pos (by omega)]
     ·rw [if_neg h2,if_neg (by omega)]
   ·dsimp only; rw [hw]; omega
  ·dsimp only; rw [w1 b0 hb (by omega)]; omega
  ·dsimp only; rw [w1 b0 hb (by omega)]; omega
  ·dsimp only
   rw [w1 b0 hb (by omega),hR i j i0 i1 j0 j1]
   by_cases h:i < b+1
   ·rw [if_pos (by omega),if_pos h]
   ·rw [if_neg (by omega),if_neg h]
  ·dsimp only; rw [w1 b0 hb (by omega)]; omega
 ·dsimp only; rw [w1 a0 ha (by omega)]; omega
 ·dsimp only; rw [w1 a0 ha (by omega)]; omega
 ·dsimp only
  rw [hR i i i0 i1 i0 i1,if_pos (by omega)]
  exact .inl (re i i0 i1)
 ·dsimp only at m1 h1 h2 ⊢
  rw [w1 a0 ha (by omega)] at m1
  rw [hR i m i0 i1 m0 (by omega),if_pos (by omega)] at h1
  rw [hR m j m0 (by omega) j0 j1,if_pos (by omega)] at h2
  rw [hR i j i0 i1 j0 j1,if_pos (by omega)]
  by_cases hm:m < a
  ·rcases h1 with h1 | ⟨h1,h1'⟩
   ·rcases h2 with h2 | ⟨h2,Dn⟩
    ·exact .inl (tr m i j m0 hm i0 i1 j0 j1 h1 h2)
    ·exact .inr ⟨tr m i a m0 hm i0 i1 a0 ha h1 h2,Dn⟩
   ·rcases h2 with h2 | ⟨h2,Dn⟩
    ·exact .inr ⟨h1,tr m a j m0 hm a0 ha j0 j1 h1' h2⟩
    ·exact .inr ⟨h1,Dn⟩
  ·have e:m=a:=by omega
   rw [e] at h1 h2
   have g1:Rl t i a:=h1.elim id fun h=>h.1
   have g2:Rl t a j:=h2.elim id fun h=>h.2
   exact .inr ⟨g1,g2⟩
 ·dsimp only; rw [w1 a0 ha (by omega)]; omega
theorem Ee {x:List Int} (B:BJ x) {s:aN} (S:Src x s) {n:Nat} (hn:n≤4):Ok (jT s n) fun y=>(Sq n y.1∧(∀ i:Int,0≤i→i < n→Rl y.1 i i)∧∀ i j k:Int,0≤i→i < n→0≤j→j < n→0≤k→k < n→Rl y.1 i j→Rl y.1 j k→Rl y.1 i k)∧Src x y.2:=by
 unfold jT
 refine lr (ol (fun z:List (List Int)×Int×Int×Int=>(0≤z.2.1∧z.2.1≤n)∧((z.1.length:Int)=z.2.1∧(∀ y∈z.1,y.length=n)∧∀ i:Int,0≤i→i < z.2.1→Rl z.1 i i)∧0≤z.2.2.1∧z.2.2.1≤x.length) (fun z=>(n - z.2.1).toNat)
  ⟨⟨by show (0:Int)≤0; omega,by show (0:Int)≤_; omega⟩,⟨rfl,ke,fun i h0 h1=>by dsimp only at h1; omega⟩,S.a0,S.a1⟩ ?_)
 rintro ⟨l,i,a,h⟩ ⟨⟨i0,i1⟩,⟨hl,hr,Xg⟩,a0,a1⟩
 dsimp only at i0 i1 hl hr Xg a0 a1
 show Ok (lS s n l i a h) _
 unfold lS
 refine od (fun hi=>?_) fun hi=>os ⟨rfl,?_⟩
 ·have hw:=w1 i0 hi (by omega)
  refine RB (by omega) (by omega) (by omega) (oi i0 (by rw [List.length_replicate]; omega) fun _ _=>?_)
  refine ol (fun z:Int×Int×Int×List Int=>(i < z.1∧z.1≤n)∧(0≤z.2.1∧z.2.1≤x.length)∧z.2.2.2.length=n∧gi z.2.2.2 i=1) (fun z=>(n - z.1).toNat) ⟨⟨?_,?_⟩,⟨a0,a1⟩,?_,?_⟩ ?_
  ·dsimp only; rw [hw]; omega
  ·dsimp only; rw [hw]; omega
  ·show (List.set _ _ _).length=n; rw [List.length_set,List.length_replicate]; omega
  ·dsimp only; rw [pw i0 (by rw [List.length_replicate]; omega) i0,if_pos rfl]
  rintro ⟨j,a,h,o⟩ ⟨⟨j0,j1⟩,⟨a0,a1⟩,ho,nn⟩
  dsimp only at j0 j1 a0 a1 ho nn
  show Ok (lR s n j a h o) _
  unfold lR
  refine od (fun hj=>?_) fun hj=>os ⟨rfl,?_⟩
  ·have Xh:=w1 (i:=j) (by omega) hj (by omega)
   refine ob (fj B (S.at_ a0 a1) _) fun y hy=>oi (by omega) (by omega) fun _ _=>os ⟨⟨⟨?_,?_⟩,⟨hy.2.a0,hy.2.a1⟩,?_,?_⟩,?_⟩
   ·dsimp only; rw [Xh]; omega
   ·dsimp only; rw [Xh]; omega
   ·dsimp only; rw [List.length_set]; exact ho
   ·dsimp only; rw [pw (by omega) (by omega) i0,if_neg (by omega)]; exact nn
   ·dsimp only; rw [Xh]; omega
  ·refine fv (by omega) (by omega) (os ⟨⟨⟨?_,?_⟩,⟨?_,je hr ho,fun i' h0 h1=>?_⟩,a0,a1⟩,?_⟩)
   ·dsimp only; rw [hw]; omega
   ·dsimp only; rw [hw]; omega
   ·dsimp only; rw [hw,List.length_append,List.length_singleton]; omega
   ·dsimp only at h1 ⊢
    rw [hw] at h1
    unfold Rl
    rw [Eb h0]
    by_cases e:i' < i
    ·rw [if_pos (by omega)]; exact Xg i' h0 e
    ·rw [if_neg (by omega),if_pos (by omega),show i'=i by omega]; exact nn
   ·dsimp only; rw [hw]; omega
 ·have hq:Sq n l:=⟨by omega,hr⟩
  have yO:∀ i:Int,0≤i→i < n→Rl l i i:=fun i h0 h1=>Xg i h0 (by omega)
  refine od (fun h1=>?_) fun h1=>?_
  ·refine ob (fj B (S.at_ a0 a1) _) fun y hy=>oc (fun _=>?_) fun _=>?_
   ·rw [eA (a:=(n:Int) - 1) (by omega) (by omega)]
    refine oe (rT (by omega) (by omega)) ?_
    have ub:=hr _ (qx (l:=l) (j:=(n:Int) - 1) (by omega) (by omega))
    refine ob (fj B (S.on hy.2) _) fun z hz=>?_
    have DF:=hz.1.2 (by omega)
    refine oe (cT hz.1.1 (by omega)) ?_
    exact EM hn (L2:=fun a t=>pF n a t) (L3:=fun a b t=>pE n a b t) (L4:=fun a b d t=>pD n a b d t) (fun _ _=>rfl) (fun _ _ _=>rfl) (fun _ _ _ _=>rfl) (RC hq (qx (l:=l) (j:=(n:Int) - 1) (by omega) (by omega)) _ _ _) (fun i h0 h1=>(N2 hq (by omega) (by omega) hz.1.1 DF h0 h0).2 (.inr (yO i h0 h1))) fun t ht r1 r2=>os ⟨⟨ht,r1,r2⟩,S.on hz.2⟩
   ·exact EM hn (L2:=fun a t=>pI n a t) (L3:=fun a b t=>pH n a b t) (L4:=fun a b d t=>pG n a b d t) (fun _ _=>rfl) (fun _ _ _=>rfl) (fun _ _ _ _=>rfl) hq yO fun t ht r1 r2=>os ⟨⟨ht,r1,r2⟩,S.on hy.2⟩
  ·exact EM hn (L2:=fun a t=>pK n a t) (L3:=fun a b t=>pJ n a b t) (L4:=fun a b d t=>oG n a b d t) (fun _ _=>rfl) (fun _ _ _=>rfl) (fun _ _ _ _=>rfl) hq yO fun t ht r1 r2=>os ⟨⟨ht,r1,r2⟩,S.at_ a0 a1⟩
end Go.Proofs.YtkcpiblgpnjanaaGreat
set_option linter.unusedVariables false
set_option linter.unusedSimpArgs false
namespace Go.Proofs.YtkcpiblgpnjanaaGreat
open Go Go.Li
def dp (c d:aI):List Int:=(dg c d).aG++mj c.aC.toNat d.aC.toNat fun x _=>x
def jk (c d:aI):List Int:=(dg c d).To++mj c.aC.toNat d.aC.toNat fun _ y=>c.aC+y
def s6 (c d:aI) (f g:Int):Int:=
 if gi (jk c d) f≠gi (dp c d) g then -1 else if f < (dg c d).aG.length∧g < (dg c d).aG.length then gk (dg c d).aF f g
 else (dg c d).aG.length+gi (dp c d) f * d.aC+gi (jk c d) g - c.aC
def Cm (c d:aI):aI:=
 ⟨c.aC+d.aC,dp c d,jk c d,(dg c d).aJ,ew (dp c d).length fun f=>ew (dp c d).length fun g=>s6 c d f g⟩
section
variable {c d:aI} (T:Ty c) (U:Ty d)
include T U
theorem v8:(dp c d).length=(dg c d).aG.length+c.aC.toNat * d.aC.toNat:=by
 have _:=T
 have _:=U
 unfold dp; rw [List.length_append,gu]
theorem FM:(jk c d).length=(dp c d).length:=by
 unfold jk; rw [List.length_append,gu,v8 T U,(Ci T U).tl]
theorem ui {f:Int} (f0:0≤f) (f1:f < (dg c d).aG.length):gi (dp c d) f=gi (dg c d).aG f:=by
 have _:=T
 have _:=U
 unfold dp; rw [qa f0,if_pos f1]
theorem uj {f:Int} (f0:0≤f) (f1:f < (dg c d).aG.length):gi (jk c d) f=gi (dg c d).To f:=by
 unfold jk; rw [qa f0,if_pos (by rw [(Ci T U).tl]; exact f1)]
theorem wT {x y:Int} (x0:0≤x) (x1:x < c.aC) (y0:0≤y) (y1:y < d.aC):gi (dp c d) ((dg c d).aG.length+(x * d.aC+y))=x:=by
 have _:=T
 have ht:((d.aC.toNat:Nat):Int)=d.aC:=Int.toNat_of_nonneg U.o0
 have hp:=te x0 x1 y0 y1
 unfold dp
 rw [qa (by omega),if_neg (by omega),show ((dg c d).aG.length:Int)+(x * d.aC+y) - (dg c d).aG.length=x * d.aC+y by omega]
 have:=wR (n:=c.aC.toNat) (m:=d.aC.toNat) (g:=fun x _=>x) x0 (by omega) y0 (by omega)
 rwa [ht] at this
theorem wU {x y:Int} (x0:0≤x) (x1:x < c.aC) (y0:0≤y) (y1:y < d.aC):gi (jk c d) ((dg c d).aG.length+(x * d.aC+y))=c.aC+y:=by
 have ht:((d.aC.toNat:Nat):Int)=d.aC:=Int.toNat_of_nonneg U.o0
 have hp:=te x0 x1 y0 y1
 have hl:=(Ci T U).tl
 unfold jk
 rw [qa (by omega),if_neg (by omega),show ((dg c d).aG.length:Int)+(x * d.aC+y) - (dg c d).To.length=x * d.aC+y by omega]
 have:=wR (n:=c.aC.toNat) (m:=d.aC.toNat) (g:=fun _ y=>c.aC+y) x0 (by omega) y0 (by omega)
 rwa [ht] at this
theorem zo {f:Int} (f0:0≤f) (f1:f < (dp c d).length):f < (dg c d).aG.length∨∃ x y:Int,f=(dg c d).aG.length+(x * d.aC+y)∧(0≤x∧x < c.aC)∧0≤y∧y < d.aC:=by
 have hl:=v8 T U
 have c0:=T.o0
 have ht:((d.aC.toNat:Nat):Int)=d.aC:=Int.toNat_of_nonneg U.o0
 by_cases h:f < (dg c d).aG.length
 ·exact .inl h
 ·obtain ⟨x,y,hx,hy,e⟩:=uh (n:=c.aC.toNat) (m:=d.aC.toNat) (k:=f - (dg c d).aG.length) (by omega) (by omega)
  rw [ht] at hy e
  exact .inr ⟨x,y,by omega,⟨hx.1,by omega⟩,hy⟩
theorem JW {x y:Int} (x0:0≤x) (x1:x < c.aC) (y0:0≤y) (y1:y < d.aC):0≤(dg c d).aG.length+(x * d.aC+y)∧(dg c d).aG.length+(x * d.aC+y) < (dp c d).length:=by
 have hp:=te x0 x1 y0 y1
 have hl:=v8 T U
 have e:((c.aC.toNat * d.aC.toNat:Nat):Int)=c.aC * d.aC:=by
  rw [Int.natCast_mul,Int.toNat_of_nonneg T.o0,Int.toNat_of_nonneg U.o0]
 omega
theorem NW:Ty (Cm c d):=by
 have S:=Ci T U
 have c0:=T.o0
 have d0:=U.o0
 have hl:=v8 T U
 have tl:=FM T U
 have so:(dg c d).aC=c.aC+d.aC:=rfl
 have QD:∀ {p q:Int},0≤p→p < (dp c d).length→0≤q→q < (dp c d).length→gk (Cm c d).aF p q=s6 c d p q:=fun p0 p1 q0 q1=>by
  show gi (gr (ew _ _) _) _=_
  rw [zk p0 p1,sm q0 q1]
 have fr:∀ {p:Int},0≤p→p < (dp c d).length→0≤gi (dp c d) p∧gi (dp c d) p < c.aC+d.aC:=fun p0 p1=>by
  rcases zo T U p0 p1 with h | ⟨x,y,rfl,hx,hy⟩
  ·rw [ui T U p0 h]; exact S.fr p0 h
  ·rw [wT T U hx.1 hx.2 hy.1 hy.2]; omega
 have to:∀ {p:Int},0≤p→p < (dp c d).length→0≤gi (jk c d) p∧gi (jk c d) p < c.aC+d.aC:=fun p0 p1=>by
  rcases zo T U p0 p1 with h | ⟨x,y,rfl,hx,hy⟩
  ·rw [uj T U p0 h]; exact S.to p0 h
  ·rw [wU T U hx.1 hx.2 hy.1 hy.2]; omega
 refine ⟨by show 0≤c.aC+d.aC; omega,fun y hy=>?_,tl,fun y hy=>?_,dA _ _,fun r hr=>?_,S.il,fun y hy=>?_,fun y y0 y1=>?_,fun y y0 y1=>?_,fun p q p0 p1 q0 q1 e=>?_,fun p q p0 p1 q0 q1 e=>?_,fun y y0 y1=>?_⟩
 ·obtain ⟨i,i0,i1,rfl⟩:=BL hy
  exact fr i0 i1
 ·obtain ⟨i,i0,i1,rfl⟩:=BL hy
  exact to i0 (by have i1:i < (jk c d).length:=i1; omega)
 ·obtain ⟨i,hi,rfl⟩:=rz.1 hr
  exact dA _ _
 ·have:=S.i y hy
  show 0≤y∧y < (dp c d).length
  omega
 ·have:=S.id y0 y1
  show gi (dp c d) _=y
  rw [show (Cm c d).aJ=(dg c d).aJ from rfl,ui T U this.1 this.2]; exact S.xA y y0 y1
 ·have:=S.id y0 y1
  show gi (jk c d) _=y
  rw [show (Cm c d).aJ=(dg c d).aJ from rfl,uj T U this.1 this.2]; exact S.zb y y0 y1
 ·have p1:p < (dp c d).length:=p1
  have q1:q < (dp c d).length:=q1
  have e:gi (jk c d) p=gi (dp c d) q:=e
  rw [QD p0 p1 q0 q1]
  unfold s6
  rw [if_neg (fun h=>h e)]
  show (_∧_ < ((dp c d).length:Int))∧gi (dp c d) _=gi (dp c d) p∧gi (jk c d) _=gi (jk c d) q
  rcases zo T U p0 p1 with hp | ⟨x,y,rfl,hx,hy⟩
  ·rcases zo T U q0 q1 with hq | ⟨x',y',rfl,BK,sM⟩
   ·rw [if_pos ⟨hp,hq⟩]
    rw [uj T U p0 hp,ui T U q0 hq] at e
    have:=S.cell p q p0 hp q0 hq e
    rw [ui T U this.1.1 this.1.2,uj T U this.1.1 this.1.2,ui T U p0 hp,uj T U q0 hq]
    exact ⟨⟨this.1.1,by omega⟩,this.2.1,this.2.2⟩
   ·rw [uj T U p0 hp,wT T U BK.1 BK.2 sM.1 sM.2] at e
    have mx:=te BK.1 BK.2 sM.1 sM.2
    rw [if_neg (by omega),ui T U p0 hp,wU T U BK.1 BK.2 sM.1 sM.2]
    rcases v7 T U p0 hp with uY | ⟨r,rfl,r0,r1⟩
    ·have h1:=T.fr p0 uY
     rw [vY T U p0 uY]
     have hi:=JW T U h1.1 h1.2 sM.1 sM.2
     rw [show ((dg c d).aG.length:Int)+gi c.aG p * d.aC+(c.aC+y') - c.aC=(dg c d).aG.length+(gi c.aG p * d.aC+y') by omega,wT T U h1.1 h1.2 sM.1 sM.2,wU T U h1.1 h1.2 sM.1 sM.2]
     exact ⟨hi,rfl,rfl⟩
    ·rw [vZ T U r0 r1] at e
     have:=U.to r0 r1
     omega
  ·rcases zo T U q0 q1 with hq | ⟨x',y',rfl,BK,sM⟩
   ·rw [wU T U hx.1 hx.2 hy.1 hy.2,ui T U q0 hq] at e
    have hp:=te hx.1 hx.2 hy.1 hy.2
    rw [if_neg (by omega),wT T U hx.1 hx.2 hy.1 hy.2,uj T U q0 hq]
    rcases v7 T U q0 hq with ZC | ⟨r,rfl,r0,r1⟩
    ·rw [vY T U q0 ZC] at e
     have:=T.fr q0 ZC
     omega
    ·have h1:=U.to r0 r1
     rw [vZ T U r0 r1]
     have hi:=JW T U hx.1 hx.2 h1.1 h1.2
     rw [show ((dg c d).aG.length:Int)+x * d.aC+(gi d.To r+c.aC) - c.aC=(dg c d).aG.length+(x * d.aC+gi d.To r) by omega,wT T U hx.1 hx.2 h1.1 h1.2,wU T U hx.1 hx.2 h1.1 h1.2]
     exact ⟨hi,rfl,by omega⟩
   ·rw [wU T U hx.1 hx.2 hy.1 hy.2,wT T U BK.1 BK.2 sM.1 sM.2] at e
    omega
 ·rw [QD p0 p1 q0 q1]
  unfold s6
  rw [if_pos (show gi (jk c d) p≠gi (dp c d) q from e)]
 ·have k:=S.id (x:=y) y0 y1
  show gk (Cm c d).aF (gi (dg c d).aJ y) (gi (dg c d).aJ y)=gi (dg c d).aJ y
  have bc:gi (dg c d).aJ y < (dp c d).length:=by rw [hl]; omega
  rw [QD k.1 bc k.1 bc]
  unfold s6
  rw [if_neg (by rw [uj T U k.1 k.2,ui T U k.1 k.2,S.zb y y0 y1,S.xA y y0 y1]; simp),if_pos ⟨k.2,k.2⟩]
  exact S.uu y y0 y1
theorem Qt {a b a' b':Nat} (C:jz a b c) (D:jz a' b' d) (ha:a+a'≤100) (hb:b+b'≤100):iX c d=some (Cm c d):=by
 have S:=Ci T U
 have c0:=T.o0
 have d0:=U.o0
 have co:=C.o
 have dO:=D.o
 have cm:=C.m
 have dm:=D.m
 have sl:=EJ T U
 have Yf:=S.tl
 obtain ⟨nc,xJ⟩ : ∃ n:Nat,c.aC=n:=⟨c.aC.toNat,by omega⟩
 obtain ⟨nd,cn⟩ : ∃ n:Nat,d.aC=n:=⟨d.aC.toNat,by omega⟩
 have hmul:nc * nd≤100 * 100:=Nat.mul_le_mul (by omega) (by omega)
 have jl:=v8 T U
 have jt:=FM T U
 rw [xJ,cn,Int.toNat_natCast,Int.toNat_natCast] at jl
 unfold iX
 rw [JP C D T U (by omega) (by omega),aH]
 refine (congrArg ao (yg (β:=Int×Int) nc nd (fun x y=>(x,c.aC+y)) [] (fun acc i=>((i:Int),(dg c d).aG++acc.map (·.1),(dg c d).To++acc.map (·.2))) ?_ ?_ ?_)).trans ?_
 ·show ((0:Int),_++[],_++[])=_; rw [List.append_nil,List.append_nil]
 ·intro i acc hi hl
  simp only [List.length_nil,Nat.zero_add] at hl
  have hm:i * nd≤100 * 100:=Nat.mul_le_mul (by omega) (by omega)
  show gQ c d (i:Int) _ _=_
  unfold gQ
  rw [aX (by omega:(i:Int) < c.aC),cond_true]
  refine (tO (β:=Int×Int) nd (fun y=>((i:Int),c.aC+y)) acc (fun acc j=>((j:Int),(dg c d).aG++acc.map (·.1),(dg c d).To++acc.map (·.2))) rfl ?_ ?_).trans ?_
  ·intro j tP hj yH
   show gP c d (i:Int) (j:Int) _ _=_
   unfold gP
   rw [aX (by omega:(j:Int) < d.aC),cond_true,dZ (by rw [List.length_append,List.length_map]; omega) (by rw [List.length_append,List.length_map]; omega),aH,dZ (by rw [List.length_append,List.length_map]; omega) (by rw [List.length_append,List.length_map]; omega),aH,cA (by omega),eA (by omega) (by omega)]
   simp only [List.map_append,List.map_cons,List.map_nil,List.append_assoc]
  ·intro tP _
   show gP c d (i:Int) _ _ _=_
   unfold gP
   rw [bn (by omega),cond_false]
  ·dsimp only
   rw [cA (by omega)]
 ·intro acc _
  show gQ c d _ _ _=_
  unfold gQ
  rw [bn (by omega),cond_false]
 dsimp only
 rw [List.nil_append,xF,xF]
 have eF:(dg c d).aG++mj nc nd (fun a b=>((a:Int),c.aC+b).1)=dp c d:=by unfold dp; rw [xJ,cn]; rfl
 have eT:(dg c d).To++mj nc nd (fun a b=>((a:Int),c.aC+b).2)=jk c d:=by unfold jk; rw [xJ,cn]; rfl
 rw [eF,eT]
 refine (congrArg ao (xD (dp c d).length (fun f=>ew (dp c d).length fun g=>s6 c d f g) (fun acc i=>(acc,(i:Int))) rfl ?_ ?_)).trans ?_
 ·intro i acc hi hl
  show gS c d (dg c d) (dp c d) (jk c d) acc (i:Int)=_
  unfold gS
  rw [aX (by omega:(i:Int) < ((dp c d).length:Int)),cond_true]
  refine (xD (dp c d).length (fun g=>s6 c d i g) (fun acc j=>(acc,(j:Int))) rfl ?_ ?_).trans ?_
  ·intro j r hj hr
   have i0:(0:Int)≤i:=by omega
   have i1:(i:Int) < (dp c d).length:=by omega
   have j0:(0:Int)≤j:=by omega
   have j1:(j:Int) < (dp c d).length:=by omega
   have J:=NW T U
   have bf:0≤gi (dp c d) i∧gi (dp c d) i < c.aC+d.aC:=J.fr i0 i1
   have bt:0≤gi (jk c d) j∧gi (jk c d) j < c.aC+d.aC:=J.to j0 j1
   have hm:0≤gi (dp c d) i * d.aC∧gi (dp c d) i * d.aC≤100 * 100:=HX bf.1 (by omega) d0 (by omega)
   show gR c d (dg c d) (dp c d) (jk c d) (i:Int) r (j:Int)=_
   unfold gR s6
   rw [aX j1,cond_true,cT i0 (by omega),aH,cT j0 j1,aH]
   by_cases e:gi (jk c d) i=gi (dp c d) j
   ·rw [tn e,cond_false,if_neg (fun h=>h e)]
    have tail:∀ v:Int,v=(dg c d).aG.length+gi (dp c d) i * d.aC+gi (jk c d) j - c.aC→(idx (dp c d) (i:Int)>>=fun Px=>(idx (jk c d) (j:Int))>>=fun Py=>(fits 8 (r.length+1))>>=fun _=>some (Out.norm (r++[aj (aj (aj (((dg c d).aG.length:Int)+aj (Px * d.aC))+Py) - c.aC)],aj ((j:Int)+1)):Out (List Int×Int) aI))=some (.norm (r++[v],((j+1:Nat):Int))):=by
     intro v hv
     rw [cT i0 i1,aH,cT j0 (by omega),aH,dZ (by omega) (by omega),aH,cA (by omega),eA (a:=gi (dp c d) i * d.aC) (by omega) (by omega),eA (a:=((dg c d).aG.length:Int)+gi (dp c d) i * d.aC) (by omega) (by omega),eA (a:=((dg c d).aG.length:Int)+gi (dp c d) i * d.aC+gi (jk c d) j) (by omega) (by omega),eA (by omega) (by omega),hv]
    by_cases h1:(i:Int) < (dg c d).aG.length
    ·rw [aX h1,cond_true,aH]
     by_cases h2:(j:Int) < (dg c d).aG.length
     ·rw [aX h2,cond_true,S.nj i0 h1,aH,S.l9 i0 h1 j0 h2,aH,dZ (by omega) (by omega),aH,cA (by omega),if_pos ⟨h1,h2⟩]
     ·rw [bn h2,cond_false,if_neg (fun h=>h2 h.2)]
      exact tail _ rfl
    ·rw [bn h1,cond_false,aH,cond_false,if_neg (fun h=>h1 h.1)]
     exact tail _ rfl
   ·rw [rS e,cond_true,dZ (by omega) (by omega),aH,cA (by omega),if_pos e]
  ·intro r _
   show gR c d (dg c d) (dp c d) (jk c d) (i:Int) r _=_
   unfold gR
   rw [bn (by omega),cond_false]
  ·dsimp only
   rw [dZ (by omega) (by omega),aH,cA (by omega)]
 ·intro acc _
  show gS c d (dg c d) (dp c d) (jk c d) acc _=_
  unfold gS
  rw [bn (by omega),cond_false]
 ·rfl
end
end Go.Proofs.YtkcpiblgpnjanaaGreat
