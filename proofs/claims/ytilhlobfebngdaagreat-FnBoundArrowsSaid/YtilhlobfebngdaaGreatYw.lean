/- Relations that are drawn are reflexive and transitive. No condition beside those that each theorem names. -/
import Derived.Test.YtilhlobfebngdaaGreatYt
set_option linter.unusedVariables false
set_option linter.unusedSimpArgs false
namespace Go.Proofs.YtilhlobfebngdaaGreat
open Go Go.Li
def Rl (l:List (List Int)) (i j:Int):Prop:=gi (gr l i) j=1
theorem RL {n:Nat} {l:List (List Int)} (h:Sq n l) {i j:Int} (i0:0≤i) (i1:i < n) (j0:0≤j) (j1:j < n) {i' j':Int} (a0:0≤i') (b0:0≤j'):Rl (l.set i.toNat ((gr l i).set j.toNat 1)) i' j'↔(i'=i∧j'=j)∨Rl l i' j':=by
 have hl:=h.len
 have hr:=h.row _ (fy (l:=l) i0 (by omega))
 have key:gr (l.set i.toNat ((gr l i).set j.toNat 1)) i'=if i'=i then (gr l i).set j.toNat 1 else gr l i':=by
  have:=aa0 (cl:=l) (y:=i.toNat) (q:=(gr l i).set j.toNat 1) i'.toNat
  rw [show ((i'.toNat:Nat):Int)=i' by omega] at this
  rw [this]
  by_cases e:i'=i
  ·rw [if_pos (by omega),if_pos e]
  ·rw [if_neg (by omega),if_neg e]
 unfold Rl
 rw [key]
 by_cases e:i'=i
 ·rw [if_pos e,sd j0 (by omega) b0,e]
  by_cases e2:j'=j
  ·rw [if_pos e2]; exact ⟨fun _=>.inl ⟨rfl,e2⟩,fun _=>rfl⟩
  ·rw [if_neg e2]; exact ⟨fun h=>.inr h,fun h=>h.resolve_left fun h=>e2 h.2⟩
 ·rw [if_neg e]; exact ⟨fun h=>.inr h,fun h=>h.resolve_left fun h=>e h.1⟩
def Ad (l:List (List Int)) (k i j:Int):Prop:=Rl l i j∨Rl l i k∧Rl l k j
theorem H8 {R S:Type} {n:Nat} (hn:n≤4) {k k3 k4:Nat} {f:Int×List (List Int)→Option (Out S R)} {Q:Out S R→Prop} {L2:Int→List (List Int)→Option (Out (Int×List (List Int)) R)} {L3:Int→Int→List (List Int)→Option (Out (Int×List (List Int)) R)} {L4:Int→Int→Int→List (List Int)→Option (Out (Int×List (List Int)) R)}
  (e2:∀ a t,L2 a t=bif decide (a < (n:Int)) then (af (ae k3 (ah (fun s:Int×List (List Int)=>L3 a s.1 s.2) ((0:Int),t))) fun s=>some (.norm (aj (a+1),s.2))) else some (.exit k (a,t)))
  (e3:∀ a b t,L3 a b t=bif decide (b < (n:Int)) then (af (ae k4 (ah (fun s:Int×List (List Int)=>L4 a b s.1 s.2) ((0:Int),t))) fun s=>some (.norm (aj (b+1),s.2))) else some (.exit k3 (b,t)))
  (e4:∀ a b d t,L4 a b d t=bif decide (d < (n:Int)) then ((idx t b>>=fun e=>(idx e a>>=fun e'=>(bif e' == (1:Int) then (idx t a>>=fun e2=>(idx e2 d>>=fun e2'=>some (e2' == (1:Int)))) else some false)))>>=fun g=>(bif g then (idx t b>>=fun e=>(idx e d>>=fun _=>some (.norm (aj (d+1),t.set b.toNat (e.set d.toNat 1))))) else some (.norm (aj (d+1),t)))) else some (.exit k4 (d,t)))
  {t:List (List Int)} (ht:Sq n t) (re:∀ i:Int,0≤i→i < n→Rl t i i)
  (hf:∀ s:Int×List (List Int),Sq n s.2→(∀ i:Int,0≤i→i < n→Rl s.2 i i)→(∀ i j k:Int,0≤i→i < n→0≤j→j < n→0≤k→k < n→Rl s.2 i j→Rl s.2 j k→Rl s.2 i k)→Ok (f s) Q):Ok (af (ae k (ah (fun s=>L2 s.1 s.2) ((0:Int),t))) f) Q:=by
 refine ol (fun s:Int×List (List Int)=>(0≤s.1∧s.1≤n)∧Sq n s.2∧(∀ i:Int,0≤i→i < n→Rl s.2 i i)∧∀ m i j:Int,0≤m→m < s.1→0≤i→i < n→0≤j→j < n→Rl s.2 i m→Rl s.2 m j→Rl s.2 i j) (fun s=>(n - s.1).toNat) ⟨⟨by show (0:Int)≤0; omega,by show (0:Int)≤_; omega⟩,ht,re,fun m i j m0 m1=>by dsimp only at m1; omega⟩ ?_
 rintro ⟨a,t⟩ ⟨⟨a0,a1⟩,ht,re,tr⟩
 dsimp only at a0 a1 ht re tr
 show Ok (L2 a t) _
 rw [e2]
 refine od (fun ha=>?_) fun ha=>os ⟨rfl,hf _ ht re fun i j m i0 i1 j0 j1 m0 m1 h1 h2=>tr j i m j0 (by omega) i0 i1 m0 m1 h1 h2⟩
 refine ol (fun s:Int×List (List Int)=>(0≤s.1∧s.1≤n)∧Sq n s.2∧∀ i j:Int,0≤i→i < n→0≤j→j < n→(Rl s.2 i j↔if i < s.1 then Ad t a i j else Rl t i j)) (fun s=>(n - s.1).toNat) ⟨⟨by show (0:Int)≤0; omega,by show (0:Int)≤_; omega⟩,ht,fun i j i0 _ _ _=>by rw [if_neg (by dsimp only; omega)]⟩ ?_
 rintro ⟨b,o⟩ ⟨⟨b0,b1⟩,ho,hR⟩
 dsimp only at b0 b1 ho hR
 show Ok (L3 a b o) _
 rw [e3]
 refine od (fun hb=>?_) fun hb=>os ⟨rfl,os ⟨⟨⟨?_,?_⟩,ho,fun i i0 i1=>?_,fun m i j m0 m1 i0 i1 j0 j1 h1 h2=>?_⟩,?_⟩⟩
 ·refine ol (fun s:Int×List (List Int)=>(0≤s.1∧s.1≤n)∧Sq n s.2∧∀ i j:Int,0≤i→i < n→0≤j→j < n→(Rl s.2 i j↔if i < b∨i=b∧j < s.1 then Ad t a i j else Rl t i j)) (fun s=>(n - s.1).toNat) ⟨⟨by show (0:Int)≤0; omega,by show (0:Int)≤_; omega⟩,ho,fun i j i0 i1 j0 j1=>by
   rw [hR i j i0 i1 j0 j1]
   by_cases e:i < b
   ·rw [if_pos e,if_pos (.inl e)]
   ·rw [if_neg e,if_neg (by dsimp only; omega)]⟩ ?_
  rintro ⟨d,o⟩ ⟨⟨d0,d1⟩,ho,hR⟩
  dsimp only at d0 d1 ho hR
  have hl:=ho.len
  have abL:∀ i:Int,0≤i→i < n→(gr o i).length=n:=fun i i0 i1=>ho.row _ (fy i0 (by omega))
  show Ok (L4 a b d o) _
  rw [e4]
  have col:Rl o b a↔Rl t b a:=by
   rw [hR b a b0 hb a0 ha]
   split
   ·exact ⟨fun h=>h.elim id fun h=>h.1,fun h=>.inl h⟩
   ·exact Iff.rfl
  have row:d < n→(Rl o a d↔Rl t a d):=fun hd=>by
   rw [hR a d a0 ha d0 hd]
   split
   ·exact ⟨fun h=>h.elim id fun h=>h.2,fun h=>.inl h⟩
   ·exact Iff.rfl
  refine od (fun hd=>?_) fun hd=>os ⟨rfl,os ⟨⟨⟨?_,?_⟩,ho,fun i j i0 i1 j0 j1=>?_⟩,?_⟩⟩
  ·have hw:=w1 d0 hd (by omega)
   have bd:=row hd
   have lb:=abL b b0 hb
   have la:=abL a a0 ha
   refine ob (P:=fun g=>g=true↔(Rl t b a∧Rl t a d)) (oe (fx b0 (by omega)) (oe (bQ a0 (by omega)) (oc (fun e1=>oe (fx a0 (by omega)) (oe (bQ d0 (by omega)) (os ?_))) fun e1=>os ?_))) fun g hg=>oc (fun e=>oe (fx b0 (by omega)) (oe (bQ d0 (by omega)) (os ⟨⟨⟨?_,?_⟩,VS ho (fy b0 (by omega)) _ _ _,fun i j i0 i1 j0 j1=>?_⟩,?_⟩))) fun e=>os ⟨⟨⟨?_,?_⟩,ho,fun i j i0 i1 j0 j1=>?_⟩,?_⟩
   ·have h1:Rl o b a:=by unfold Rl; simpa using e1
    rw [← col,← bd]
    exact ⟨fun h=>⟨h1,by unfold Rl; simpa using h⟩,fun h=>by have:=h.2; unfold Rl at this; simp [this]⟩
   ·have h1 : ¬ Rl o b a:=fun h=>by unfold Rl at h; rw [h] at e1; simp at e1
    rw [← col]
    exact ⟨fun h=>(by cases h),fun h=>absurd h.1 h1⟩
   ·dsimp only; rw [hw]; omega
   ·dsimp only; rw [hw]; omega
   ·dsimp only
    rw [hw,RL ho b0 hb d0 hd i0 j0,hR i j i0 i1 j0 j1]
    by_cases h:i=b∧j=d
    ·obtain ⟨h5,h6⟩:=h
     have hc:b < b∨b=b∧d < d+1:=.inr ⟨rfl,by omega⟩
     rw [h5,h6,if_pos hc]
     exact ⟨fun _=>.inr (hg.1 e),fun _=>.inl ⟨rfl,rfl⟩⟩
    ·by_cases h2:i < b∨i=b∧j < d
     ·rw [if_pos h2,if_pos (by omega)]
      exact ⟨fun h3=>h3.resolve_left h,fun h3=>.inr h3⟩
     ·rw [if_neg h2,if_neg (by omega)]
      exact ⟨fun h3=>h3.resolve_left h,fun h3=>.inr h3⟩
   ·dsimp only; rw [hw]; omega
   ·dsimp only; rw [hw]; omega
   ·dsimp only; rw [hw]; omega
   ·dsimp only
    rw [hw,hR i j i0 i1 j0 j1]
    by_cases h:i=b∧j=d
    ·obtain ⟨h5,h6⟩:=h
     have hc:b < b∨b=b∧d < d+1:=.inr ⟨rfl,by omega⟩
     rw [h5,h6,if_neg (by omega),if_pos hc]
     exact ⟨fun h3=>.inl h3,fun h3=>h3.resolve_right fun h4=>by have:=hg.2 h4; rw [e] at this; cases this⟩
    ·by_cases h2:i < b∨i=b∧j < d
     ·rw [if_pos h2,if_pos (by omega)]
     ·rw [if_neg h2,if_neg (by omega)]
   ·dsimp only; rw [hw]; omega
  ·dsimp only; rw [w1 b0 hb (by omega)]; omega
  ·dsimp only; rw [w1 b0 hb (by omega)]; omega
  ·dsimp only
   rw [w1 b0 hb (by omega),hR i j i0 i1 j0 j1]
   by_cases h:i < b+1
   ·rw [if_pos (by omega),if_pos h]
   ·rw [if_neg (by omega),if_neg h]
  ·dsimp only; rw [w1 b0 hb (by omega)]; omega
 ·dsimp only; rw [w1 a0 ha (by omega)]; omega
 ·dsimp only; rw [w1 a0 ha (by omega)]; omega
 ·dsimp only
  rw [hR i i i0 i1 i0 i1,if_pos (by omega)]
  exact .inl (re i i0 i1)
 ·dsimp only at m1 h1 h2 ⊢
  rw [w1 a0 ha (by omega)] at m1
  rw [hR i m i0 i1 m0 (by omega),if_pos (by omega)] at h1
  rw [hR m j m0 (by omega) j0 j1,if_pos (by omega)] at h2
  rw [hR i j i0 i1 j0 j1,if_pos (by omega)]
  by_cases hm:m < a
  ·rcases h1 with h1 | ⟨h1,YY⟩
   ·rcases h2 with h2 | ⟨h2,Ds⟩
    ·exact .inl (tr m i j m0 hm i0 i1 j0 j1 h1 h2)
    ·exact .inr ⟨tr m i a m0 hm i0 i1 a0 ha h1 h2,Ds⟩
   ·rcases h2 with h2 | ⟨h2,Ds⟩
    ·exact .inr ⟨h1,tr m a j m0 hm a0 ha j0 j1 YY h2⟩
    ·exact .inr ⟨h1,Ds⟩
  ·have e:m=a:=by omega
   rw [e] at h1 h2
   have g1:Rl t i a:=h1.elim id fun h=>h.1
   have g2:Rl t a j:=h2.elim id fun h=>h.2
   exact .inr ⟨g1,g2⟩
 ·dsimp only; rw [w1 a0 ha (by omega)]; omega
theorem Hk {x:List Int} (B:yT x) {s:aJ} (S:Src x s) {n:Nat} (hn:n≤4):Ok (kZ s n) fun y=>(Sq n y.1∧(∀ i:Int,0≤i→i < n→Rl y.1 i i)∧∀ i j k:Int,0≤i→i < n→0≤j→j < n→0≤k→k < n→Rl y.1 i j→Rl y.1 j k→Rl y.1 i k)∧Src x y.2:=by
 unfold kZ
 refine ie (ol (fun z:List (List Int)×Int×Int×Int=>(0≤z.2.1∧z.2.1≤n)∧((z.1.length:Int)=z.2.1∧(∀ y∈z.1,y.length=n)∧∀ i:Int,0≤i→i < z.2.1→Rl z.1 i i)∧0≤z.2.2.1∧z.2.2.1≤x.length) (fun z=>(n - z.2.1).toNat)
  ⟨⟨by show (0:Int)≤0; omega,by show (0:Int)≤_; omega⟩,⟨rfl,ei,fun i h0 h1=>by dsimp only at h1; omega⟩,S.a0,S.a1⟩ ?_)
 rintro ⟨l,i,a,h⟩ ⟨⟨i0,i1⟩,⟨hl,hr,hre⟩,a0,a1⟩
 dsimp only at i0 i1 hl hr hre a0 a1
 show Ok (nP s n l i a h) _
 unfold nP
 refine od (fun hi=>?_) fun hi=>os ⟨rfl,?_⟩
 ·have hw:=w1 i0 hi (by omega)
  refine VR (by omega) (by omega) (by omega) (oi i0 (by rw [List.length_replicate]; omega) fun _ _=>?_)
  refine ol (fun z:Int×Int×Int×List Int=>(i < z.1∧z.1≤n)∧(0≤z.2.1∧z.2.1≤x.length)∧z.2.2.2.length=n∧gi z.2.2.2 i=1) (fun z=>(n - z.1).toNat) ⟨⟨?_,?_⟩,⟨a0,a1⟩,?_,?_⟩ ?_
  ·dsimp only; rw [hw]; omega
  ·dsimp only; rw [hw]; omega
  ·show (List.set _ _ _).length=n; rw [List.length_set,List.length_replicate]; omega
  ·dsimp only; rw [sd i0 (by rw [List.length_replicate]; omega) i0,if_pos rfl]
  rintro ⟨j,a,h,o⟩ ⟨⟨j0,j1⟩,⟨a0,a1⟩,ho,n9⟩
  dsimp only at j0 j1 a0 a1 ho n9
  show Ok (nO s n j a h o) _
  unfold nO
  refine od (fun hj=>?_) fun hj=>os ⟨rfl,?_⟩
  ·have hwj:=w1 (i:=j) (by omega) hj (by omega)
   refine ob (dk B (S.at_ a0 a1) _) fun y hy=>oi (by omega) (by omega) fun _ _=>os ⟨⟨⟨?_,?_⟩,⟨hy.2.a0,hy.2.a1⟩,?_,?_⟩,?_⟩
   ·dsimp only; rw [hwj]; omega
   ·dsimp only; rw [hwj]; omega
   ·dsimp only; rw [List.length_set]; exact ho
   ·dsimp only; rw [sd (by omega) (by omega) i0,if_neg (by omega)]; exact n9
   ·dsimp only; rw [hwj]; omega
  ·refine dt (by omega) (by omega) (os ⟨⟨⟨?_,?_⟩,⟨?_,ew hr ho,fun i' h0 h1=>?_⟩,a0,a1⟩,?_⟩)
   ·dsimp only; rw [hw]; omega
   ·dsimp only; rw [hw]; omega
   ·dsimp only; rw [hw,List.length_append,List.length_singleton]; omega
   ·dsimp only at h1 ⊢
    rw [hw] at h1
    unfold Rl
    rw [Hi h0]
    by_cases e:i' < i
    ·rw [if_pos (by omega)]; exact hre i' h0 e
    ·rw [if_neg (by omega),if_pos (by omega),show i'=i by omega]; exact n9
   ·dsimp only; rw [hw]; omega
 ·have hq:Sq n l:=⟨by omega,hr⟩
  have MU:∀ i:Int,0≤i→i < n→Rl l i i:=fun i h0 h1=>hre i h0 (by omega)
  refine od (fun h1=>?_) fun h1=>?_
  ·refine ob (dk B (S.at_ a0 a1) _) fun y hy=>oc (fun _=>?_) fun _=>?_
   ·rw [eH (a:=(n:Int) - 1) (by omega) (by omega)]
    refine oe (fx (by omega) (by omega)) ?_
    have wo:=hr _ (fy (l:=l) (j:=(n:Int) - 1) (by omega) (by omega))
    refine ob (dk B (S.on hy.2) _) fun z hz=>?_
    have Gm:=hz.1.2 (by omega)
    refine oe (bQ hz.1.1 (by omega)) ?_
    exact H8 hn (L2:=fun a t=>rZ n a t) (L3:=fun a b t=>rY n a b t) (L4:=fun a b d t=>rX n a b d t) (fun _ _=>rfl) (fun _ _ _=>rfl) (fun _ _ _ _=>rfl) (VS hq (fy (l:=l) (j:=(n:Int) - 1) (by omega) (by omega)) _ _ _) (fun i h0 h1=>(RL hq (by omega) (by omega) hz.1.1 Gm h0 h0).2 (.inr (MU i h0 h1))) fun t ht r1 r2=>os ⟨⟨ht,r1,r2⟩,S.on hz.2⟩
   ·exact H8 hn (L2:=fun a t=>sC n a t) (L3:=fun a b t=>sB n a b t) (L4:=fun a b d t=>sA n a b d t) (fun _ _=>rfl) (fun _ _ _=>rfl) (fun _ _ _ _=>rfl) hq MU fun t ht r1 r2=>os ⟨⟨ht,r1,r2⟩,S.on hy.2⟩
  ·exact H8 hn (L2:=fun a t=>sE n a t) (L3:=fun a b t=>sD n a b t) (L4:=fun a b d t=>qY n a b d t) (fun _ _=>rfl) (fun _ _ _=>rfl) (fun _ _ _ _=>rfl) hq MU fun t ht r1 r2=>os ⟨⟨ht,r1,r2⟩,S.at_ a0 a1⟩
end Go.Proofs.YtilhlobfebngdaaGreat
set_option linter.unusedVariables false
set_option linter.unusedSimpArgs false
namespace Go.Proofs.YtilhlobfebngdaaGreat
open Go Go.Li
def dj (c d:aF):List Int:=(de c d).aE++nm c.aA.toNat d.aA.toNat fun x _=>x
def jw (c d:aF):List Int:=(de c d).To++nm c.aA.toNat d.aA.toNat fun _ y=>c.aA+y
def u4 (c d:aF) (f g:Int):Int:=
 if gi (jw c d) f≠gi (dj c d) g then -1 else if f < (de c d).aE.length∧g < (de c d).aE.length then gk (de c d).aC f g
 else (de c d).aE.length+gi (dj c d) f * d.aA+gi (jw c d) g - c.aA
def EY (c d:aF):aF:=
 ⟨c.aA+d.aA,dj c d,jw c d,(de c d).aH,cg (dj c d).length fun f=>cg (dj c d).length fun g=>u4 c d f g⟩
section
variable {c d:aF} (T:Ty c) (U:Ty d)
include T U
theorem yB:(dj c d).length=(de c d).aE.length+c.aA.toNat * d.aA.toNat:=by
 have _:=T
 have _:=U
 unfold dj; rw [List.length_append,ir]
theorem I3:(jw c d).length=(dj c d).length:=by
 unfold jw; rw [List.length_append,ir,yB T U,(EW T U).tl]
theorem wC {f:Int} (f0:0≤f) (f1:f < (de c d).aE.length):gi (dj c d) f=gi (de c d).aE f:=by
 have _:=T
 have _:=U
 unfold dj; rw [p4 f0,if_pos f1]
theorem wD {f:Int} (f0:0≤f) (f1:f < (de c d).aE.length):gi (jw c d) f=gi (de c d).To f:=by
 unfold jw; rw [p4 f0,if_pos (by rw [(EW T U).tl]; exact f1)]
theorem zt {x y:Int} (x0:0≤x) (x1:x < c.aA) (y0:0≤y) (y1:y < d.aA):gi (dj c d) ((de c d).aE.length+(x * d.aA+y))=x:=by
 have _:=T
 have ht:((d.aA.toNat:Nat):Int)=d.aA:=Int.toNat_of_nonneg U.o0
 have hp:=vf x0 x1 y0 y1
 unfold dj
 rw [p4 (by omega),if_neg (by omega),show ((de c d).aE.length:Int)+(x * d.aA+y) - (de c d).aE.length=x * d.aA+y by omega]
 have:=zq (n:=c.aA.toNat) (m:=d.aA.toNat) (g:=fun x _=>x) x0 (by omega) y0 (by omega)
 rwa [ht] at this
theorem zu {x y:Int} (x0:0≤x) (x1:x < c.aA) (y0:0≤y) (y1:y < d.aA):gi (jw c d) ((de c d).aE.length+(x * d.aA+y))=c.aA+y:=by
 have ht:((d.aA.toNat:Nat):Int)=d.aA:=Int.toNat_of_nonneg U.o0
 have hp:=vf x0 x1 y0 y1
 have hl:=(EW T U).tl
 unfold jw
 rw [p4 (by omega),if_neg (by omega),show ((de c d).aE.length:Int)+(x * d.aA+y) - (de c d).To.length=x * d.aA+y by omega]
 have:=zq (n:=c.aA.toNat) (m:=d.aA.toNat) (g:=fun _ y=>c.aA+y) x0 (by omega) y0 (by omega)
 rwa [ht] at this
theorem Ca {f:Int} (f0:0≤f) (f1:f < (dj c d).length):f < (de c d).aE.length∨∃ x y:Int,f=(de c d).aE.length+(x * d.aA+y)∧(0≤x∧x < c.aA)∧0≤y∧y < d.aA:=by
 have hl:=yB T U
 have c0:=T.o0
 have ht:((d.aA.toNat:Nat):Int)=d.aA:=Int.toNat_of_nonneg U.o0
 by_cases h:f < (de c d).aE.length
 ·exact .inl h
 ·obtain ⟨x,y,hx,hy,e⟩:=wB (n:=c.aA.toNat) (m:=d.aA.toNat) (k:=f - (de c d).aE.length) (by omega) (by omega)
  rw [ht] at hy e
  exact .inr ⟨x,y,by omega,⟨hx.1,by omega⟩,hy⟩
theorem NN {x y:Int} (x0:0≤x) (x1:x < c.aA) (y0:0≤y) (y1:y < d.aA):0≤(de c d).aE.length+(x * d.aA+y)∧(de c d).aE.length+(x * d.aA+y) < (dj c d).length:=by
 have hp:=vf x0 x1 y0 y1
 have hl:=yB T U
 have e:((c.aA.toNat * d.aA.toNat:Nat):Int)=c.aA * d.aA:=by
  rw [Int.natCast_mul,Int.toNat_of_nonneg T.o0,Int.toNat_of_nonneg U.o0]
 omega
theorem RD:Ty (EY c d):=by
 have S:=EW T U
 have c0:=T.o0
 have d0:=U.o0
 have hl:=yB T U
 have tl:=I3 T U
 have so:(de c d).aA=c.aA+d.aA:=rfl
 have CN:∀ {p q:Int},0≤p→p < (dj c d).length→0≤q→q < (dj c d).length→gk (EY c d).aC p q=u4 c d p q:=fun p0 p1 q0 q1=>by
  show gi (gr (cg _ _) _) _=_
  rw [zk p0 p1,sc q0 q1]
 have fr:∀ {p:Int},0≤p→p < (dj c d).length→0≤gi (dj c d) p∧gi (dj c d) p < c.aA+d.aA:=fun p0 p1=>by
  rcases Ca T U p0 p1 with h | ⟨x,y,rfl,hx,hy⟩
  ·rw [wC T U p0 h]; exact S.fr p0 h
  ·rw [zt T U hx.1 hx.2 hy.1 hy.2]; omega
 have to:∀ {p:Int},0≤p→p < (dj c d).length→0≤gi (jw c d) p∧gi (jw c d) p < c.aA+d.aA:=fun p0 p1=>by
  rcases Ca T U p0 p1 with h | ⟨x,y,rfl,hx,hy⟩
  ·rw [wD T U p0 h]; exact S.to p0 h
  ·rw [zu T U hx.1 hx.2 hy.1 hy.2]; omega
 refine ⟨by show 0≤c.aA+d.aA; omega,fun y hy=>?_,tl,fun y hy=>?_,cE _ _,fun r hr=>?_,S.il,fun y hy=>?_,fun y y0 y1=>?_,fun y y0 y1=>?_,fun p q p0 p1 q0 q1 e=>?_,fun p q p0 p1 q0 q1 e=>?_,fun y y0 y1=>?_⟩
 ·obtain ⟨i,i0,i1,rfl⟩:=my hy
  exact fr i0 i1
 ·obtain ⟨i,i0,i1,rfl⟩:=my hy
  exact to i0 (by have i1:i < (jw c d).length:=i1; omega)
 ·obtain ⟨i,hi,rfl⟩:=nj.1 hr
  exact cE _ _
 ·have:=S.i y hy
  show 0≤y∧y < (dj c d).length
  omega
 ·have:=S.id y0 y1
  show gi (dj c d) _=y
  rw [show (EY c d).aH=(de c d).aH from rfl,wC T U this.1 this.2]; exact S.yu y y0 y1
 ·have:=S.id y0 y1
  show gi (jw c d) _=y
  rw [show (EY c d).aH=(de c d).aH from rfl,wD T U this.1 this.2]; exact S.yS y y0 y1
 ·have p1:p < (dj c d).length:=p1
  have q1:q < (dj c d).length:=q1
  have e:gi (jw c d) p=gi (dj c d) q:=e
  rw [CN p0 p1 q0 q1]
  unfold u4
  rw [if_neg (fun h=>h e)]
  show (_∧_ < ((dj c d).length:Int))∧gi (dj c d) _=gi (dj c d) p∧gi (jw c d) _=gi (jw c d) q
  rcases Ca T U p0 p1 with hp | ⟨x,y,rfl,hx,hy⟩
  ·rcases Ca T U q0 q1 with hq | ⟨x',y',rfl,Bi,vn⟩
   ·rw [if_pos ⟨hp,hq⟩]
    rw [wD T U p0 hp,wC T U q0 hq] at e
    have:=S.cell p q p0 hp q0 hq e
    rw [wC T U this.1.1 this.1.2,wD T U this.1.1 this.1.2,wC T U p0 hp,wD T U q0 hq]
    exact ⟨⟨this.1.1,by omega⟩,this.2.1,this.2.2⟩
   ·rw [wD T U p0 hp,zt T U Bi.1 Bi.2 vn.1 vn.2] at e
    have n7:=vf Bi.1 Bi.2 vn.1 vn.2
    rw [if_neg (by omega),wC T U p0 hp,zu T U Bi.1 Bi.2 vn.1 vn.2]
    rcases yA T U p0 hp with AL | ⟨r,rfl,r0,r1⟩
    ·have h1:=T.fr p0 AL
     rw [yy T U p0 AL]
     have hi:=NN T U h1.1 h1.2 vn.1 vn.2
     rw [show ((de c d).aE.length:Int)+gi c.aE p * d.aA+(c.aA+y') - c.aA=(de c d).aE.length+(gi c.aE p * d.aA+y') by omega,zt T U h1.1 h1.2 vn.1 vn.2,zu T U h1.1 h1.2 vn.1 vn.2]
     exact ⟨hi,rfl,rfl⟩
    ·rw [yz T U r0 r1] at e
     have:=U.to r0 r1
     omega
  ·rcases Ca T U q0 q1 with hq | ⟨x',y',rfl,Bi,vn⟩
   ·rw [zu T U hx.1 hx.2 hy.1 hy.2,wC T U q0 hq] at e
    have hp:=vf hx.1 hx.2 hy.1 hy.2
    rw [if_neg (by omega),zt T U hx.1 hx.2 hy.1 hy.2,wD T U q0 hq]
    rcases yA T U q0 hq with hq' | ⟨r,rfl,r0,r1⟩
    ·rw [yy T U q0 hq'] at e
     have:=T.fr q0 hq'
     omega
    ·have h1:=U.to r0 r1
     rw [yz T U r0 r1]
     have hi:=NN T U hx.1 hx.2 h1.1 h1.2
     rw [show ((de c d).aE.length:Int)+x * d.aA+(gi d.To r+c.aA) - c.aA=(de c d).aE.length+(x * d.aA+gi d.To r) by omega,zt T U hx.1 hx.2 h1.1 h1.2,zu T U hx.1 hx.2 h1.1 h1.2]
     exact ⟨hi,rfl,by omega⟩
   ·rw [zu T U hx.1 hx.2 hy.1 hy.2,zt T U Bi.1 Bi.2 vn.1 vn.2] at e
    omega
 ·rw [CN p0 p1 q0 q1]
  unfold u4
  rw [if_pos (show gi (jw c d) p≠gi (dj c d) q from e)]
 ·have k:=S.id (x:=y) y0 y1
  show gk (EY c d).aC (gi (de c d).aH y) (gi (de c d).aH y)=gi (de c d).aH y
  have bn:gi (de c d).aH y < (dj c d).length:=by rw [hl]; omega
  rw [CN k.1 bn k.1 bn]
  unfold u4
  rw [if_neg (by rw [wD T U k.1 k.2,wC T U k.1 k.2,S.yS y y0 y1,S.yu y y0 y1]; simp),if_pos ⟨k.2,k.2⟩]
  exact S.uu y y0 y1
theorem UA {a b a' b':Nat} (C:j7 a b c) (D:j7 a' b' d) (ha:a+a'≤100) (hb:b+b'≤100):jS c d=some (EY c d):=by
 have S:=EW T U
 have c0:=T.o0
 have d0:=U.o0
 have co:=C.o
 have dO:=D.o
 have cm:=C.m
 have dm:=D.m
 have sl:=H5 T U
 have stl:=S.tl
 obtain ⟨nc,CZ⟩ : ∃ n:Nat,c.aA=n:=⟨c.aA.toNat,by omega⟩
 obtain ⟨nd,dp⟩ : ∃ n:Nat,d.aA=n:=⟨d.aA.toNat,by omega⟩
 have hmul:nc * nd≤100 * 100:=Nat.mul_le_mul (by omega) (by omega)
 have jl:=yB T U
 have jt:=I3 T U
 rw [CZ,dp,Int.toNat_natCast,Int.toNat_natCast] at jl
 unfold jS
 rw [NJ C D T U (by omega) (by omega),aD]
 refine (congrArg ak (Bj (β:=Int×Int) nc nd (fun x y=>(x,c.aA+y)) [] (fun acc i=>((i:Int),(de c d).aE++acc.map (·.1),(de c d).To++acc.map (·.2))) ?_ ?_ ?_)).trans ?_
 ·show ((0:Int),_++[],_++[])=_; rw [List.append_nil,List.append_nil]
 ·intro i acc hi hl
  simp only [List.length_nil,Nat.zero_add] at hl
  have hm:i * nd≤100 * 100:=Nat.mul_le_mul (by omega) (by omega)
  show iK c d (i:Int) _ _=_
  unfold iK
  rw [au (by omega:(i:Int) < c.aA),cond_true]
  refine (wb (β:=Int×Int) nd (fun y=>((i:Int),c.aA+y)) acc (fun acc j=>((j:Int),(de c d).aE++acc.map (·.1),(de c d).To++acc.map (·.2))) rfl ?_ ?_).trans ?_
  ·intro j wc hj F8
   show iJ c d (i:Int) (j:Int) _ _=_
   unfold iJ
   rw [au (by omega:(j:Int) < d.aA),cond_true,dL (by rw [List.length_append,List.length_map]; omega) (by rw [List.length_append,List.length_map]; omega),aD,dL (by rw [List.length_append,List.length_map]; omega) (by rw [List.length_append,List.length_map]; omega),aD,bR (by omega),eH (by omega) (by omega)]
   simp only [List.map_append,List.map_cons,List.map_nil,List.append_assoc]
  ·intro wc _
   show iJ c d (i:Int) _ _ _=_
   unfold iJ
   rw [ay (by omega),cond_false]
  ·dsimp only
   rw [bR (by omega)]
 ·intro acc _
  show iK c d _ _ _=_
  unfold iK
  rw [ay (by omega),cond_false]
 dsimp only
 rw [List.nil_append,Ay,Ay]
 have eF:(de c d).aE++nm nc nd (fun a b=>((a:Int),c.aA+b).1)=dj c d:=by unfold dj; rw [CZ,dp]; rfl
 have eT:(de c d).To++nm nc nd (fun a b=>((a:Int),c.aA+b).2)=jw c d:=by unfold jw; rw [CZ,dp]; rfl
 rw [eF,eT]
 refine (congrArg ak (u3 (dj c d).length (fun f=>cg (dj c d).length fun g=>u4 c d f g) (fun acc i=>(acc,(i:Int))) rfl ?_ ?_)).trans ?_
 ·intro i acc hi hl
  show iM c d (de c d) (dj c d) (jw c d) acc (i:Int)=_
  unfold iM
  rw [au (by omega:(i:Int) < ((dj c d).length:Int)),cond_true]
  refine (u3 (dj c d).length (fun g=>u4 c d i g) (fun acc j=>(acc,(j:Int))) rfl ?_ ?_).trans ?_
  ·intro j r hj hr
   have i0:(0:Int)≤i:=by omega
   have i1:(i:Int) < (dj c d).length:=by omega
   have j0:(0:Int)≤j:=by omega
   have j1:(j:Int) < (dj c d).length:=by omega
   have J:=RD T U
   have bf:0≤gi (dj c d) i∧gi (dj c d) i < c.aA+d.aA:=J.fr i0 i1
   have bt:0≤gi (jw c d) j∧gi (jw c d) j < c.aA+d.aA:=J.to j0 j1
   have hm:0≤gi (dj c d) i * d.aA∧gi (dj c d) i * d.aA≤100 * 100:=LP bf.1 (by omega) d0 (by omega)
   show iL c d (de c d) (dj c d) (jw c d) (i:Int) r (j:Int)=_
   unfold iL u4
   rw [au j1,cond_true,bQ i0 (by omega),aD,bQ j0 j1,aD]
   by_cases e:gi (jw c d) i=gi (dj c d) j
   ·rw [mq e,cond_false,if_neg (fun h=>h e)]
    have tail:∀ v:Int,v=(de c d).aE.length+gi (dj c d) i * d.aA+gi (jw c d) j - c.aA→(idx (dj c d) (i:Int)>>=fun Tt=>(idx (jw c d) (j:Int))>>=fun Tu=>(fits 8 (r.length+1))>>=fun _=>some (Out.norm (r++[aj (aj (aj (((de c d).aE.length:Int)+aj (Tt * d.aA))+Tu) - c.aA)],aj ((j:Int)+1)):Out (List Int×Int) aF))=some (.norm (r++[v],((j+1:Nat):Int))):=by
     intro v hv
     rw [bQ i0 i1,aD,bQ j0 (by omega),aD,dL (by omega) (by omega),aD,bR (by omega),eH (a:=gi (dj c d) i * d.aA) (by omega) (by omega),eH (a:=((de c d).aE.length:Int)+gi (dj c d) i * d.aA) (by omega) (by omega),eH (a:=((de c d).aE.length:Int)+gi (dj c d) i * d.aA+gi (jw c d) j) (by omega) (by omega),eH (by omega) (by omega),hv]
    by_cases h1:(i:Int) < (de c d).aE.length
    ·rw [au h1,cond_true,aD]
     by_cases h2:(j:Int) < (de c d).aE.length
     ·rw [au h2,cond_true,S.ni i0 h1,aD,S.mi i0 h1 j0 h2,aD,dL (by omega) (by omega),aD,bR (by omega),if_pos ⟨h1,h2⟩]
     ·rw [ay h2,cond_false,if_neg (fun h=>h2 h.2)]
      exact tail _ rfl
    ·rw [ay h1,cond_false,aD,cond_false,if_neg (fun h=>h1 h.1)]
     exact tail _ rfl
   ·rw [qd e,cond_true,dL (by omega) (by omega),aD,bR (by omega),if_pos e]
  ·intro r _
   show iL c d (de c d) (dj c d) (jw c d) (i:Int) r _=_
   unfold iL
   rw [ay (by omega),cond_false]
  ·dsimp only
   rw [dL (by omega) (by omega),aD,bR (by omega)]
 ·intro acc _
  show iM c d (de c d) (dj c d) (jw c d) acc _=_
  unfold iM
  rw [ay (by omega),cond_false]
 ·rfl
end
end Go.Proofs.YtilhlobfebngdaaGreat
