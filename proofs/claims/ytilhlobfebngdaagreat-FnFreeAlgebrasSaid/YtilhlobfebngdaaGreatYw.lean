/- Relations that are drawn are reflexive and transitive. No condition beside those that each theorem names. -/
import Derived.Test.YtilhlobfebngdaaGreatYt
set_option linter.unusedVariables false
set_option linter.unusedSimpArgs false
namespace Go.Proofs.YtilhlobfebngdaaGreat
open Go Go.Li
def Rl (l:List (List Int)) (i j:Int):Prop:=gi (gr l i) j=1
theorem PD {n:Nat} {l:List (List Int)} (h:Sq n l) {i j:Int} (i0:0≤i) (i1:i < n) (j0:0≤j) (j1:j < n) {i' j':Int} (a0:0≤i') (b0:0≤j'):Rl (l.set i.toNat ((gr l i).set j.toNat 1)) i' j'↔(i'=i∧j'=j)∨Rl l i' j':=by
 have hl:=h.len
 have hr:=h.row _ (kq (l:=l) i0 (by omega))
 have key:gr (l.set i.toNat ((gr l i).set j.toNat 1)) i'=if i'=i then (gr l i).set j.toNat 1 else gr l i':=by
  have:=Yv (cl:=l) (y:=i.toNat) (q:=(gr l i).set j.toNat 1) i'.toNat
  rw [show ((i'.toNat:Nat):Int)=i' by omega] at this
  rw [this]
  by_cases e:i'=i
  ·rw [if_pos (by omega),if_pos e]
  ·rw [if_neg (by omega),if_neg e]
 unfold Rl
 rw [key]
 by_cases e:i'=i
 ·rw [if_pos e,qz j0 (by omega) b0,e]
  by_cases e2:j'=j
  ·rw [if_pos e2]; exact ⟨fun _=>.inl ⟨rfl,e2⟩,fun _=>rfl⟩
  ·rw [if_neg e2]; exact ⟨fun h=>.inr h,fun h=>h.resolve_left fun h=>e2 h.2⟩
 ·rw [if_neg e]; exact ⟨fun h=>.inr h,fun h=>h.resolve_left fun h=>e h.1⟩
def Ad (l:List (List Int)) (k i j:Int):Prop:=Rl l i j∨Rl l i k∧Rl l k j
theorem GF {R S:Type} {n:Nat} (hn:n≤4) {k k3 k4:Nat} {f:Int×List (List Int)→Option (Out S R)} {Q:Out S R→Prop} {L2:Int→List (List Int)→Option (Out (Int×List (List Int)) R)} {L3:Int→Int→List (List Int)→Option (Out (Int×List (List Int)) R)} {L4:Int→Int→Int→List (List Int)→Option (Out (Int×List (List Int)) R)}
  (e2:∀ a t,L2 a t=bif decide (a < (n:Int)) then (ah (ae k3 (aj (fun s:Int×List (List Int)=>L3 a s.1 s.2) ((0:Int),t))) fun s=>some (.norm (ao (a+1),s.2))) else some (.exit k (a,t)))
  (e3:∀ a b t,L3 a b t=bif decide (b < (n:Int)) then (ah (ae k4 (aj (fun s:Int×List (List Int)=>L4 a b s.1 s.2) ((0:Int),t))) fun s=>some (.norm (ao (b+1),s.2))) else some (.exit k3 (b,t)))
  (e4:∀ a b d t,L4 a b d t=bif decide (d < (n:Int)) then ((idx t b>>=fun e=>(idx e a>>=fun e'=>(bif e' == (1:Int) then (idx t a>>=fun e2=>(idx e2 d>>=fun Yu=>some (Yu == (1:Int)))) else some false)))>>=fun g=>(bif g then (idx t b>>=fun e=>(idx e d>>=fun _=>some (.norm (ao (d+1),t.set b.toNat (e.set d.toNat 1))))) else some (.norm (ao (d+1),t)))) else some (.exit k4 (d,t)))
  {t:List (List Int)} (ht:Sq n t) (re:∀ i:Int,0≤i→i < n→Rl t i i)
  (hf:∀ s:Int×List (List Int),Sq n s.2→(∀ i:Int,0≤i→i < n→Rl s.2 i i)→(∀ i j k:Int,0≤i→i < n→0≤j→j < n→0≤k→k < n→Rl s.2 i j→Rl s.2 j k→Rl s.2 i k)→Ok (f s) Q):Ok (ah (ae k (aj (fun s=>L2 s.1 s.2) ((0:Int),t))) f) Q:=by
 refine ol (fun s:Int×List (List Int)=>(0≤s.1∧s.1≤n)∧Sq n s.2∧(∀ i:Int,0≤i→i < n→Rl s.2 i i)∧∀ m i j:Int,0≤m→m < s.1→0≤i→i < n→0≤j→j < n→Rl s.2 i m→Rl s.2 m j→Rl s.2 i j) (fun s=>(n - s.1).toNat) ⟨⟨by show (0:Int)≤0; omega,by show (0:Int)≤_; omega⟩,ht,re,fun m i j m0 m1=>by dsimp only at m1; omega⟩ ?_
 rintro ⟨a,t⟩ ⟨⟨a0,a1⟩,ht,re,tr⟩
 dsimp only at a0 a1 ht re tr
 show Ok (L2 a t) _
 rw [e2]
 refine od (fun ha=>?_) fun ha=>os ⟨rfl,hf _ ht re fun i j m i0 i1 j0 j1 m0 m1 h1 h2=>tr j i m j0 (by omega) i0 i1 m0 m1 h1 h2⟩
 refine ol (fun s:Int×List (List Int)=>(0≤s.1∧s.1≤n)∧Sq n s.2∧∀ i j:Int,0≤i→i < n→0≤j→j < n→(Rl s.2 i j↔if i < s.1 then Ad t a i j else Rl t i j)) (fun s=>(n - s.1).toNat) ⟨⟨by show (0:Int)≤0; omega,by show (0:Int)≤_; omega⟩,ht,fun i j i0 _ _ _=>by rw [if_neg (by dsimp only; omega)]⟩ ?_
 rintro ⟨b,o⟩ ⟨⟨b0,b1⟩,ho,hR⟩
 dsimp only at b0 b1 ho hR
 show Ok (L3 a b o) _
 rw [e3]
 refine od (fun hb=>?_) fun hb=>os ⟨rfl,os ⟨⟨⟨?_,?_⟩,ho,fun i i0 i1=>?_,fun m i j m0 m1 i0 i1 j0 j1 h1 h2=>?_⟩,?_⟩⟩
 ·refine ol (fun s:Int×List (List Int)=>(0≤s.1∧s.1≤n)∧Sq n s.2∧∀ i j:Int,0≤i→i < n→0≤j→j < n→(Rl s.2 i j↔if i < b∨i=b∧j < s.1 then Ad t a i j else Rl t i j)) (fun s=>(n - s.1).toNat) ⟨⟨by show (0:Int)≤0; omega,by show (0:Int)≤_; omega⟩,ho,fun i j i0 i1 j0 j1=>by
   rw [hR i j i0 i1 j0 j1]
   by_cases e:i < b
   ·rw [if_pos e,if_pos (.inl e)]
   ·rw [if_neg e,if_neg (by dsimp only; omega)]⟩ ?_
  rintro ⟨d,o⟩ ⟨⟨d0,d1⟩,ho,hR⟩
  dsimp only at d0 d1 ho hR
  have hl:=ho.len
  have Y3:∀ i:Int,0≤i→i < n→(gr o i).length=n:=fun i i0 i1=>ho.row _ (kq i0 (by omega))
  show Ok (L4 a b d o) _
  rw [e4]
  have col:Rl o b a↔Rl t b a:=by
   rw [hR b a b0 hb a0 ha]
   split
   ·exact ⟨fun h=>h.elim id fun h=>h.1,fun h=>.inl h⟩
   ·exact Iff.rfl
  have row:d < n→(Rl o a d↔Rl t a d):=fun hd=>by
   rw [hR a d a0 ha d0 hd]
   split
   ·exact ⟨fun h=>h.elim id fun h=>h.2,fun h=>.inl h⟩
   ·exact Iff.rfl
  refine od (fun hd=>?_) fun hd=>os ⟨rfl,os ⟨⟨⟨?_,?_⟩,ho,fun i j i0 i1 j0 j1=>?_⟩,?_⟩⟩
  ·have hw:=w1 d0 hd (by omega)
   have bj:=row hd
   have lb:=Y3 b b0 hb
   have la:=Y3 a a0 ha
   refine ob (P:=fun g=>g=true↔(Rl t b a∧Rl t a d)) (oe (jz b0 (by omega)) (oe (bS a0 (by omega)) (oc (fun e1=>oe (jz a0 (by omega)) (oe (bS d0 (by omega)) (os ?_))) fun e1=>os ?_))) fun g hg=>oc (fun e=>oe (jz b0 (by omega)) (oe (bS d0 (by omega)) (os ⟨⟨⟨?_,?_⟩,TF ho (kq b0 (by omega)) _ _ _,fun i j i0 i1 j0 j1=>?_⟩,?_⟩))) fun e=>os ⟨⟨⟨?_,?_⟩,ho,fun i j i0 i1 j0 j1=>?_⟩,?_⟩
   ·have h1:Rl o b a:=by unfold Rl; simpa using e1
    rw [← col,← bj]
    exact ⟨fun h=>⟨h1,by unfold Rl; simpa using h⟩,fun h=>by have:=h.2; unfold Rl at this; simp [this]⟩
   ·have h1 : ¬ Rl o b a:=fun h=>by unfold Rl at h; rw [h] at e1; simp at e1
    rw [← col]
    exact ⟨fun h=>(by cases h),fun h=>absurd h.1 h1⟩
   ·dsimp only; rw [hw]; omega
   ·dsimp only; rw [hw]; omega
   ·dsimp only
    rw [hw,PD ho b0 hb d0 hd i0 j0,hR i j i0 i1 j0 j1]
    by_cases h:i=b∧j=d
    ·obtain ⟨h5,h6⟩:=h
     have hc:b < b∨b=b∧d < d+1:=.inr ⟨rfl,by omega⟩
     rw [h5,h6,if_pos hc]
     exact ⟨fun _=>.inr (hg.1 e),fun _=>.inl ⟨rfl,rfl⟩⟩
    ·by_cases h2:i < b∨i=b∧j < d
     ·rw [if_pos h2,if_pos (by omega)]
      exact ⟨fun h3=>h3.resolve_left h,fun h3=>.inr h3⟩
     ·rw [if_neg h2,if_neg (by omega)]
      exact ⟨fun h3=>h3.resolve_left h,fun h3=>.inr h3⟩
   ·dsimp only; rw [hw]; omega
   ·dsimp only; rw [hw]; omega
   ·dsimp only; rw [hw]; omega
   ·dsimp only
    rw [hw,hR i j i0 i1 j0 j1]
    by_cases h:i=b∧j=d
    ·obtain ⟨h5,h6⟩:=h
     have hc:b < b∨b=b∧d < d+1:=.inr ⟨rfl,by omega⟩
     rw [h5,h6,if_neg (by omega),if_pos hc]
     exact ⟨fun h3=>.inl h3,fun h3=>h3.resolve_right fun h4=>by have:=hg.2 h4; rw [e] at this; cases this⟩
    ·by_cases h2:i < b∨i=b∧j < d
     ·rw [if_pos h2,if_pos (by omega)]
     ·rw [if_neg h2,if_neg (by omega)]
   ·dsimp only; rw [hw]; omega
  ·dsimp only; rw [w1 b0 hb (by omega)]; omega
  ·dsimp only; rw [w1 b0 hb (by omega)]; omega
  ·dsimp only
   rw [w1 b0 hb (by omega),hR i j i0 i1 j0 j1]
   by_cases h:i < b+1
   ·rw [if_pos (by omega),if_pos h]
   ·rw [if_neg (by omega),if_neg h]
  ·dsimp only; rw [w1 b0 hb (by omega)]; omega
 ·dsimp only; rw [w1 a0 ha (by omega)]; omega
 ·dsimp only; rw [w1 a0 ha (by omega)]; omega
 ·dsimp only
  rw [hR i i i0 i1 i0 i1,if_pos (by omega)]
  exact .inl (re i i0 i1)
 ·dsimp only at m1 h1 h2 ⊢
  rw [w1 a0 ha (by omega)] at m1
  rw [hR i m i0 i1 m0 (by omega),if_pos (by omega)] at h1
  rw [hR m j m0 (by omega) j0 j1,if_pos (by omega)] at h2
  rw [hR i j i0 i1 j0 j1,if_pos (by omega)]
  by_cases hm:m < a
  ·rcases h1 with h1 | ⟨h1,WG⟩
   ·rcases h2 with h2 | ⟨h2,Ci⟩
    ·exact .inl (tr m i j m0 hm i0 i1 j0 j1 h1 h2)
    ·exact .inr ⟨tr m i a m0 hm i0 i1 a0 ha h1 h2,Ci⟩
   ·rcases h2 with h2 | ⟨h2,Ci⟩
    ·exact .inr ⟨h1,tr m a j m0 hm a0 ha j0 j1 WG h2⟩
    ·exact .inr ⟨h1,Ci⟩
  ·have e:m=a:=by omega
   rw [e] at h1 h2
   have g1:Rl t i a:=h1.elim id fun h=>h.1
   have g2:Rl t a j:=h2.elim id fun h=>h.2
   exact .inr ⟨g1,g2⟩
 ·dsimp only; rw [w1 a0 ha (by omega)]; omega
theorem FP {x:List Int} (B:xU x) {s:aK} (S:Src x s) {n:Nat} (hn:n≤4):Ok (kI s n) fun y=>(Sq n y.1∧(∀ i:Int,0≤i→i < n→Rl y.1 i i)∧∀ i j k:Int,0≤i→i < n→0≤j→j < n→0≤k→k < n→Rl y.1 i j→Rl y.1 j k→Rl y.1 i k)∧Src x y.2:=by
 unfold kI
 refine gj (ol (fun z:List (List Int)×Int×Int×Int=>(0≤z.2.1∧z.2.1≤n)∧((z.1.length:Int)=z.2.1∧(∀ y∈z.1,y.length=n)∧∀ i:Int,0≤i→i < z.2.1→Rl z.1 i i)∧0≤z.2.2.1∧z.2.2.1≤x.length) (fun z=>(n - z.2.1).toNat)
  ⟨⟨by show (0:Int)≤0; omega,by show (0:Int)≤_; omega⟩,⟨rfl,du,fun i h0 h1=>by dsimp only at h1; omega⟩,S.a0,S.a1⟩ ?_)
 rintro ⟨l,i,a,h⟩ ⟨⟨i0,i1⟩,⟨hl,hr,Y4⟩,a0,a1⟩
 dsimp only at i0 i1 hl hr Y4 a0 a1
 show Ok (mY s n l i a h) _
 unfold mY
 refine od (fun hi=>?_) fun hi=>os ⟨rfl,?_⟩
 ·have hw:=w1 i0 hi (by omega)
  refine TE (by omega) (by omega) (by omega) (oi i0 (by rw [List.length_replicate]; omega) fun _ _=>?_)
  refine ol (fun z:Int×Int×Int×List Int=>(i < z.1∧z.1≤n)∧(0≤z.2.1∧z.2.1≤x.length)∧z.2.2.2.length=n∧gi z.2.2.2 i=1) (fun z=>(n - z.1).toNat) ⟨⟨?_,?_⟩,⟨a0,a1⟩,?_,?_⟩ ?_
  ·dsimp only; rw [hw]; omega
  ·dsimp only; rw [hw]; omega
  ·show (List.set _ _ _).length=n; rw [List.length_set,List.length_replicate]; omega
  ·dsimp only; rw [qz i0 (by rw [List.length_replicate]; omega) i0,if_pos rfl]
  rintro ⟨j,a,h,o⟩ ⟨⟨j0,j1⟩,⟨a0,a1⟩,ho,nj⟩
  dsimp only at j0 j1 a0 a1 ho nj
  show Ok (mX s n j a h o) _
  unfold mX
  refine od (fun hj=>?_) fun hj=>os ⟨rfl,?_⟩
  ·have Y5:=w1 (i:=j) (by omega) hj (by omega)
   refine ob (dn B (S.at_ a0 a1) _) fun y hy=>oi (by omega) (by omega) fun _ _=>os ⟨⟨⟨?_,?_⟩,⟨hy.2.a0,hy.2.a1⟩,?_,?_⟩,?_⟩
   ·dsimp only; rw [Y5]; omega
   ·dsimp only; rw [Y5]; omega
   ·dsimp only; rw [List.length_set]; exact ho
   ·dsimp only; rw [qz (by omega) (by omega) i0,if_neg (by omega)]; exact nj
   ·dsimp only; rw [Y5]; omega
  ·refine dp (by omega) (by omega) (os ⟨⟨⟨?_,?_⟩,⟨?_,dw hr ho,fun i' h0 h1=>?_⟩,a0,a1⟩,?_⟩)
   ·dsimp only; rw [hw]; omega
   ·dsimp only; rw [hw]; omega
   ·dsimp only; rw [hw,List.length_append,List.length_singleton]; omega
   ·dsimp only at h1 ⊢
    rw [hw] at h1
    unfold Rl
    rw [FN h0]
    by_cases e:i' < i
    ·rw [if_pos (by omega)]; exact Y4 i' h0 e
    ·rw [if_neg (by omega),if_pos (by omega),show i'=i by omega]; exact nj
   ·dsimp only; rw [hw]; omega
 ·have hq:Sq n l:=⟨by omega,hr⟩
  have Lf:∀ i:Int,0≤i→i < n→Rl l i i:=fun i h0 h1=>Y4 i h0 (by omega)
  refine od (fun h1=>?_) fun h1=>?_
  ·refine ob (dn B (S.at_ a0 a1) _) fun y hy=>oc (fun _=>?_) fun _=>?_
   ·rw [eI (a:=(n:Int) - 1) (by omega) (by omega)]
    refine oe (jz (by omega) (by omega)) ?_
    have vo:=hr _ (kq (l:=l) (j:=(n:Int) - 1) (by omega) (by omega))
    refine ob (dn B (S.on hy.2) _) fun z hz=>?_
    have EZ:=hz.1.2 (by omega)
    refine oe (bS hz.1.1 (by omega)) ?_
    exact GF hn (L2:=fun a t=>rE n a t) (L3:=fun a b t=>rD n a b t) (L4:=fun a b d t=>rC n a b d t) (fun _ _=>rfl) (fun _ _ _=>rfl) (fun _ _ _ _=>rfl) (TF hq (kq (l:=l) (j:=(n:Int) - 1) (by omega) (by omega)) _ _ _) (fun i h0 h1=>(PD hq (by omega) (by omega) hz.1.1 EZ h0 h0).2 (.inr (Lf i h0 h1))) fun t ht r1 r2=>os ⟨⟨ht,r1,r2⟩,S.on hz.2⟩
   ·exact GF hn (L2:=fun a t=>rH n a t) (L3:=fun a b t=>rG n a b t) (L4:=fun a b d t=>rF n a b d t) (fun _ _=>rfl) (fun _ _ _=>rfl) (fun _ _ _ _=>rfl) hq Lf fun t ht r1 r2=>os ⟨⟨ht,r1,r2⟩,S.on hy.2⟩
  ·exact GF hn (L2:=fun a t=>rL n a t) (L3:=fun a b t=>rK n a b t) (L4:=fun a b d t=>qE n a b d t) (fun _ _=>rfl) (fun _ _ _=>rfl) (fun _ _ _ _=>rfl) hq Lf fun t ht r1 r2=>os ⟨⟨ht,r1,r2⟩,S.at_ a0 a1⟩
end Go.Proofs.YtilhlobfebngdaaGreat
set_option linter.unusedVariables false
set_option linter.unusedSimpArgs false
namespace Go.Proofs.YtilhlobfebngdaaGreat
open Go Go.Li
def dk (c d:aI):List Int:=(dc c d).aG++mw c.aA.toNat d.aA.toNat fun x _=>x
def jk (c d:aI):List Int:=(dc c d).To++mw c.aA.toNat d.aA.toNat fun _ y=>c.aA+y
def tv (c d:aI) (f g:Int):Int:=
 if gi (jk c d) f≠gi (dk c d) g then -1 else if f < (dc c d).aG.length∧g < (dc c d).aG.length then gk (dc c d).aE f g
 else (dc c d).aG.length+gi (dk c d) f * d.aA+gi (jk c d) g - c.aA
def DI (c d:aI):aI:=
 ⟨c.aA+d.aA,dk c d,jk c d,(dc c d).aJ,ec (dk c d).length fun f=>ec (dk c d).length fun g=>tv c d f g⟩
section
variable {c d:aI} (T:Ty c) (U:Ty d)
include T U
theorem xE:(dk c d).length=(dc c d).aG.length+c.aA.toNat * d.aA.toNat:=by
 have _:=T
 have _:=U
 unfold dk; rw [List.length_append,gy]
theorem Hz:(jk c d).length=(dk c d).length:=by
 unfold jk; rw [List.length_append,gy,xE T U,(DG T U).tl]
theorem vy {f:Int} (f0:0≤f) (f1:f < (dc c d).aG.length):gi (dk c d) f=gi (dc c d).aG f:=by
 have _:=T
 have _:=U
 unfold dk; rw [pd f0,if_pos f1]
theorem vz {f:Int} (f0:0≤f) (f1:f < (dc c d).aG.length):gi (jk c d) f=gi (dc c d).To f:=by
 unfold jk; rw [pd f0,if_pos (by rw [(DG T U).tl]; exact f1)]
theorem yu {x y:Int} (x0:0≤x) (x1:x < c.aA) (y0:0≤y) (y1:y < d.aA):gi (dk c d) ((dc c d).aG.length+(x * d.aA+y))=x:=by
 have _:=T
 have ht:((d.aA.toNat:Nat):Int)=d.aA:=Int.toNat_of_nonneg U.o0
 have hp:=uf x0 x1 y0 y1
 unfold dk
 rw [pd (by omega),if_neg (by omega),show ((dc c d).aG.length:Int)+(x * d.aA+y) - (dc c d).aG.length=x * d.aA+y by omega]
 have:=yr (n:=c.aA.toNat) (m:=d.aA.toNat) (g:=fun x _=>x) x0 (by omega) y0 (by omega)
 rwa [ht] at this
theorem yw {x y:Int} (x0:0≤x) (x1:x < c.aA) (y0:0≤y) (y1:y < d.aA):gi (jk c d) ((dc c d).aG.length+(x * d.aA+y))=c.aA+y:=by
 have ht:((d.aA.toNat:Nat):Int)=d.aA:=Int.toNat_of_nonneg U.o0
 have hp:=uf x0 x1 y0 y1
 have hl:=(DG T U).tl
 unfold jk
 rw [pd (by omega),if_neg (by omega),show ((dc c d).aG.length:Int)+(x * d.aA+y) - (dc c d).To.length=x * d.aA+y by omega]
 have:=yr (n:=c.aA.toNat) (m:=d.aA.toNat) (g:=fun _ y=>c.aA+y) x0 (by omega) y0 (by omega)
 rwa [ht] at this
theorem A3 {f:Int} (f0:0≤f) (f1:f < (dk c d).length):f < (dc c d).aG.length∨∃ x y:Int,f=(dc c d).aG.length+(x * d.aA+y)∧(0≤x∧x < c.aA)∧0≤y∧y < d.aA:=by
 have hl:=xE T U
 have c0:=T.o0
 have ht:((d.aA.toNat:Nat):Int)=d.aA:=Int.toNat_of_nonneg U.o0
 by_cases h:f < (dc c d).aG.length
 ·exact .inl h
 ·obtain ⟨x,y,hx,hy,e⟩:=vx (n:=c.aA.toNat) (m:=d.aA.toNat) (k:=f - (dc c d).aG.length) (by omega) (by omega)
  rw [ht] at hy e
  exact .inr ⟨x,y,by omega,⟨hx.1,by omega⟩,hy⟩
theorem L5 {x y:Int} (x0:0≤x) (x1:x < c.aA) (y0:0≤y) (y1:y < d.aA):0≤(dc c d).aG.length+(x * d.aA+y)∧(dc c d).aG.length+(x * d.aA+y) < (dk c d).length:=by
 have hp:=uf x0 x1 y0 y1
 have hl:=xE T U
 have e:((c.aA.toNat * d.aA.toNat:Nat):Int)=c.aA * d.aA:=by
  rw [Int.natCast_mul,Int.toNat_of_nonneg T.o0,Int.toNat_of_nonneg U.o0]
 omega
theorem Pv:Ty (DI c d):=by
 have S:=DG T U
 have c0:=T.o0
 have d0:=U.o0
 have hl:=xE T U
 have tl:=Hz T U
 have so:(dc c d).aA=c.aA+d.aA:=rfl
 have Ss:∀ {p q:Int},0≤p→p < (dk c d).length→0≤q→q < (dk c d).length→gk (DI c d).aE p q=tv c d p q:=fun p0 p1 q0 q1=>by
  show gi (gr (ec _ _) _) _=_
  rw [AW p0 p1,ue q0 q1]
 have fr:∀ {p:Int},0≤p→p < (dk c d).length→0≤gi (dk c d) p∧gi (dk c d) p < c.aA+d.aA:=fun p0 p1=>by
  rcases A3 T U p0 p1 with h | ⟨x,y,rfl,hx,hy⟩
  ·rw [vy T U p0 h]; exact S.fr p0 h
  ·rw [yu T U hx.1 hx.2 hy.1 hy.2]; omega
 have to:∀ {p:Int},0≤p→p < (dk c d).length→0≤gi (jk c d) p∧gi (jk c d) p < c.aA+d.aA:=fun p0 p1=>by
  rcases A3 T U p0 p1 with h | ⟨x,y,rfl,hx,hy⟩
  ·rw [vz T U p0 h]; exact S.to p0 h
  ·rw [yw T U hx.1 hx.2 hy.1 hy.2]; omega
 refine ⟨by show 0≤c.aA+d.aA; omega,fun y hy=>?_,tl,fun y hy=>?_,cS _ _,fun r hr=>?_,S.il,fun y hy=>?_,fun y y0 y1=>?_,fun y y0 y1=>?_,fun p q p0 p1 q0 q1 e=>?_,fun p q p0 p1 q0 q1 e=>?_,fun y y0 y1=>?_⟩
 ·obtain ⟨i,i0,i1,rfl⟩:=mb hy
  exact fr i0 i1
 ·obtain ⟨i,i0,i1,rfl⟩:=mb hy
  exact to i0 (by have i1:i < (jk c d).length:=i1; omega)
 ·obtain ⟨i,hi,rfl⟩:=o9.1 hr
  exact cS _ _
 ·have:=S.i y hy
  show 0≤y∧y < (dk c d).length
  omega
 ·have:=S.id y0 y1
  show gi (dk c d) _=y
  rw [show (DI c d).aJ=(dc c d).aJ from rfl,vy T U this.1 this.2]; exact S.xu y y0 y1
 ·have:=S.id y0 y1
  show gi (jk c d) _=y
  rw [show (DI c d).aJ=(dc c d).aJ from rfl,vz T U this.1 this.2]; exact S.xS y y0 y1
 ·have p1:p < (dk c d).length:=p1
  have q1:q < (dk c d).length:=q1
  have e:gi (jk c d) p=gi (dk c d) q:=e
  rw [Ss p0 p1 q0 q1]
  unfold tv
  rw [if_neg (fun h=>h e)]
  show (_∧_ < ((dk c d).length:Int))∧gi (dk c d) _=gi (dk c d) p∧gi (jk c d) _=gi (jk c d) q
  rcases A3 T U p0 p1 with hp | ⟨x,y,rfl,hx,hy⟩
  ·rcases A3 T U q0 q1 with hq | ⟨x',y',rfl,zZ,uV⟩
   ·rw [if_pos ⟨hp,hq⟩]
    rw [vz T U p0 hp,vy T U q0 hq] at e
    have:=S.cell p q p0 hp q0 hq e
    rw [vy T U this.1.1 this.1.2,vz T U this.1.1 this.1.2,vy T U p0 hp,vz T U q0 hq]
    exact ⟨⟨this.1.1,by omega⟩,this.2.1,this.2.2⟩
   ·rw [vz T U p0 hp,yu T U zZ.1 zZ.2 uV.1 uV.2] at e
    have n5:=uf zZ.1 zZ.2 uV.1 uV.2
    rw [if_neg (by omega),vy T U p0 hp,yw T U zZ.1 zZ.2 uV.1 uV.2]
    rcases xD T U p0 hp with zF | ⟨r,rfl,r0,r1⟩
    ·have h1:=T.fr p0 zF
     rw [xB T U p0 zF]
     have hi:=L5 T U h1.1 h1.2 uV.1 uV.2
     rw [show ((dc c d).aG.length:Int)+gi c.aG p * d.aA+(c.aA+y') - c.aA=(dc c d).aG.length+(gi c.aG p * d.aA+y') by omega,yu T U h1.1 h1.2 uV.1 uV.2,yw T U h1.1 h1.2 uV.1 uV.2]
     exact ⟨hi,rfl,rfl⟩
    ·rw [xC T U r0 r1] at e
     have:=U.to r0 r1
     omega
  ·rcases A3 T U q0 q1 with hq | ⟨x',y',rfl,zZ,uV⟩
   ·rw [yw T U hx.1 hx.2 hy.1 hy.2,vy T U q0 hq] at e
    have hp:=uf hx.1 hx.2 hy.1 hy.2
    rw [if_neg (by omega),yu T U hx.1 hx.2 hy.1 hy.2,vz T U q0 hq]
    rcases xD T U q0 hq with hq' | ⟨r,rfl,r0,r1⟩
    ·rw [xB T U q0 hq'] at e
     have:=T.fr q0 hq'
     omega
    ·have h1:=U.to r0 r1
     rw [xC T U r0 r1]
     have hi:=L5 T U hx.1 hx.2 h1.1 h1.2
     rw [show ((dc c d).aG.length:Int)+x * d.aA+(gi d.To r+c.aA) - c.aA=(dc c d).aG.length+(x * d.aA+gi d.To r) by omega,yu T U hx.1 hx.2 h1.1 h1.2,yw T U hx.1 hx.2 h1.1 h1.2]
     exact ⟨hi,rfl,by omega⟩
   ·rw [yw T U hx.1 hx.2 hy.1 hy.2,yu T U zZ.1 zZ.2 uV.1 uV.2] at e
    omega
 ·rw [Ss p0 p1 q0 q1]
  unfold tv
  rw [if_pos (show gi (jk c d) p≠gi (dk c d) q from e)]
 ·have k:=S.id (x:=y) y0 y1
  show gk (DI c d).aE (gi (dc c d).aJ y) (gi (dc c d).aJ y)=gi (dc c d).aJ y
  have bp:gi (dc c d).aJ y < (dk c d).length:=by rw [hl]; omega
  rw [Ss k.1 bp k.1 bp]
  unfold tv
  rw [if_neg (by rw [vz T U k.1 k.2,vy T U k.1 k.2,S.xS y y0 y1,S.xu y y0 y1]; simp),if_pos ⟨k.2,k.2⟩]
  exact S.uu y y0 y1
theorem Sh {a b a' b':Nat} (C:j3 a b c) (D:j3 a' b' d) (ha:a+a'≤100) (hb:b+b'≤100):jF c d=some (DI c d):=by
 have S:=DG T U
 have c0:=T.o0
 have d0:=U.o0
 have co:=C.o
 have dO:=D.o
 have cm:=C.m
 have dm:=D.m
 have sl:=GB T U
 have Z9:=S.tl
 obtain ⟨nc,DJ⟩ : ∃ n:Nat,c.aA=n:=⟨c.aA.toNat,by omega⟩
 obtain ⟨nd,dx⟩ : ∃ n:Nat,d.aA=n:=⟨d.aA.toNat,by omega⟩
 have hmul:nc * nd≤100 * 100:=Nat.mul_le_mul (by omega) (by omega)
 have jl:=xE T U
 have jt:=Hz T U
 rw [DJ,dx,Int.toNat_natCast,Int.toNat_natCast] at jl
 unfold jF
 rw [LW C D T U (by omega) (by omega),aF]
 refine (congrArg aq (z6 (β:=Int×Int) nc nd (fun x y=>(x,c.aA+y)) [] (fun acc i=>((i:Int),(dc c d).aG++acc.map (·.1),(dc c d).To++acc.map (·.2))) ?_ ?_ ?_)).trans ?_
 ·show ((0:Int),_++[],_++[])=_; rw [List.append_nil,List.append_nil]
 ·intro i acc hi hl
  simp only [List.length_nil,Nat.zero_add] at hl
  have hm:i * nd≤100 * 100:=Nat.mul_le_mul (by omega) (by omega)
  show gZ c d (i:Int) _ _=_
  unfold gZ
  rw [bb (by omega:(i:Int) < c.aA),cond_true]
  refine (ve (β:=Int×Int) nd (fun y=>((i:Int),c.aA+y)) acc (fun acc j=>((j:Int),(dc c d).aG++acc.map (·.1),(dc c d).To++acc.map (·.2))) rfl ?_ ?_).trans ?_
  ·intro j vf hj EL
   show gY c d (i:Int) (j:Int) _ _=_
   unfold gY
   rw [bb (by omega:(j:Int) < d.aA),cond_true,eB (by rw [List.length_append,List.length_map]; omega) (by rw [List.length_append,List.length_map]; omega),aF,eB (by rw [List.length_append,List.length_map]; omega) (by rw [List.length_append,List.length_map]; omega),aF,cA (by omega),eI (by omega) (by omega)]
   simp only [List.map_append,List.map_cons,List.map_nil,List.append_assoc]
  ·intro vf _
   show gY c d (i:Int) _ _ _=_
   unfold gY
   rw [br (by omega),cond_false]
  ·dsimp only
   rw [cA (by omega)]
 ·intro acc _
  show gZ c d _ _ _=_
  unfold gZ
  rw [br (by omega),cond_false]
 dsimp only
 rw [List.nil_append,zt,zt]
 have eF:(dc c d).aG++mw nc nd (fun a b=>((a:Int),c.aA+b).1)=dk c d:=by unfold dk; rw [DJ,dx]; rfl
 have eT:(dc c d).To++mw nc nd (fun a b=>((a:Int),c.aA+b).2)=jk c d:=by unfold jk; rw [DJ,dx]; rfl
 rw [eF,eT]
 refine (congrArg aq (wS (dk c d).length (fun f=>ec (dk c d).length fun g=>tv c d f g) (fun acc i=>(acc,(i:Int))) rfl ?_ ?_)).trans ?_
 ·intro i acc hi hl
  show iA c d (dc c d) (dk c d) (jk c d) acc (i:Int)=_
  unfold iA
  rw [bb (by omega:(i:Int) < ((dk c d).length:Int)),cond_true]
  refine (wS (dk c d).length (fun g=>tv c d i g) (fun acc j=>(acc,(j:Int))) rfl ?_ ?_).trans ?_
  ·intro j r hj hr
   have i0:(0:Int)≤i:=by omega
   have i1:(i:Int) < (dk c d).length:=by omega
   have j0:(0:Int)≤j:=by omega
   have j1:(j:Int) < (dk c d).length:=by omega
   have J:=Pv T U
   have bf:0≤gi (dk c d) i∧gi (dk c d) i < c.aA+d.aA:=J.fr i0 i1
   have bt:0≤gi (jk c d) j∧gi (jk c d) j < c.aA+d.aA:=J.to j0 j1
   have hm:0≤gi (dk c d) i * d.aA∧gi (dk c d) i * d.aA≤100 * 100:=Ke bf.1 (by omega) d0 (by omega)
   show hY c d (dc c d) (dk c d) (jk c d) (i:Int) r (j:Int)=_
   unfold hY tv
   rw [bb j1,cond_true,bS i0 (by omega),aF,bS j0 j1,aF]
   by_cases e:gi (jk c d) i=gi (dk c d) j
   ·rw [mq e,cond_false,if_neg (fun h=>h e)]
    have tail:∀ v:Int,v=(dc c d).aG.length+gi (dk c d) i * d.aA+gi (jk c d) j - c.aA→(idx (dk c d) (i:Int)>>=fun Q2=>(idx (jk c d) (j:Int))>>=fun Gk=>(fits 8 (r.length+1))>>=fun _=>some (Out.norm (r++[ao (ao (ao (((dc c d).aG.length:Int)+ao (Q2 * d.aA))+Gk) - c.aA)],ao ((j:Int)+1)):Out (List Int×Int) aI))=some (.norm (r++[v],((j+1:Nat):Int))):=by
     intro v hv
     rw [bS i0 i1,aF,bS j0 (by omega),aF,eB (by omega) (by omega),aF,cA (by omega),eI (a:=gi (dk c d) i * d.aA) (by omega) (by omega),eI (a:=((dc c d).aG.length:Int)+gi (dk c d) i * d.aA) (by omega) (by omega),eI (a:=((dc c d).aG.length:Int)+gi (dk c d) i * d.aA+gi (jk c d) j) (by omega) (by omega),eI (by omega) (by omega),hv]
    by_cases h1:(i:Int) < (dc c d).aG.length
    ·rw [bb h1,cond_true,aF]
     by_cases h2:(j:Int) < (dc c d).aG.length
     ·rw [bb h2,cond_true,S.me i0 h1,aF,S.lv i0 h1 j0 h2,aF,eB (by omega) (by omega),aF,cA (by omega),if_pos ⟨h1,h2⟩]
     ·rw [br h2,cond_false,if_neg (fun h=>h2 h.2)]
      exact tail _ rfl
    ·rw [br h1,cond_false,aF,cond_false,if_neg (fun h=>h1 h.1)]
     exact tail _ rfl
   ·rw [o6 e,cond_true,eB (by omega) (by omega),aF,cA (by omega),if_pos e]
  ·intro r _
   show hY c d (dc c d) (dk c d) (jk c d) (i:Int) r _=_
   unfold hY
   rw [br (by omega),cond_false]
  ·dsimp only
   rw [eB (by omega) (by omega),aF,cA (by omega)]
 ·intro acc _
  show iA c d (dc c d) (dk c d) (jk c d) acc _=_
  unfold iA
  rw [br (by omega),cond_false]
 ·rfl
end
end Go.Proofs.YtilhlobfebngdaaGreat
