/- Relations that are drawn are reflexive and transitive. No condition beside those that each theorem names. -/
import Derived.Test.YtkcpiblgpnjanaaGreatYt
set_option linter.unusedVariables false
set_option linter.unusedSimpArgs false
namespace Go.Proofs.YtkcpiblgpnjanaaGreat
open Go Go.Li
def Rl (l:List (List Int)) (i j:Int):Prop:=gi (gr l i) j=1
theorem Oz {n:Nat} {l:List (List Int)} (h:Sq n l) {i j:Int} (i0:0≤i) (i1:i < n) (j0:0≤j) (j1:j < n) {i' j':Int} (a0:0≤i') (b0:0≤j'):Rl (l.set i.toNat ((gr l i).set j.toNat 1)) i' j'↔(i'=i∧j'=j)∨Rl l i' j':=by
 have hl:=h.len
 have hr:=h.row _ (qj (l:=l) i0 (by omega))
 have key:gr (l.set i.toNat ((gr l i).set j.toNat 1)) i'=if i'=i then (gr l i).set j.toNat 1 else gr l i':=by
  have:=Wx (cl:=l) (y:=i.toNat) (q:=(gr l i).set j.toNat 1) i'.toNat
  rw [show ((i'.toNat:Nat):Int)=i' by omega] at this
  rw [this]
  by_cases e:i'=i
  ·rw [if_pos (by omega),if_pos e]
  ·rw [if_neg (by omega),if_neg e]
 unfold Rl
 rw [key]
 by_cases e:i'=i
 ·rw [if_pos e,rm j0 (by omega) b0,e]
  by_cases e2:j'=j
  ·rw [if_pos e2]; exact ⟨fun _=>.inl ⟨rfl,e2⟩,fun _=>rfl⟩
  ·rw [if_neg e2]; exact ⟨fun h=>.inr h,fun h=>h.resolve_left fun h=>e2 h.2⟩
 ·rw [if_neg e]; exact ⟨fun h=>.inr h,fun h=>h.resolve_left fun h=>e h.1⟩
def Ad (l:List (List Int)) (k i j:Int):Prop:=Rl l i j∨Rl l i k∧Rl l k j
theorem EX {R S:Type} {n:Nat} (hn:n≤4) {k k3 k4:Nat} {f:Int×List (List Int)→Option (Out S R)} {Q:Out S R→Prop} {L2:Int→List (List Int)→Option (Out (Int×List (List Int)) R)} {L3:Int→Int→List (List Int)→Option (Out (Int×List (List Int)) R)} {L4:Int→Int→Int→List (List Int)→Option (Out (Int×List (List Int)) R)}
  (e2:∀ a t,L2 a t=bif decide (a < (n:Int)) then (ai (af k3 (aj (fun s:Int×List (List Int)=>L3 a s.1 s.2) ((0:Int),t))) fun s=>some (.norm (ak (a+1),s.2))) else some (.exit k (a,t)))
  (e3:∀ a b t,L3 a b t=bif decide (b < (n:Int)) then (ai (af k4 (aj (fun s:Int×List (List Int)=>L4 a b s.1 s.2) ((0:Int),t))) fun s=>some (.norm (ak (b+1),s.2))) else some (.exit k3 (b,t)))
  (e4:∀ a b d t,L4 a b d t=bif decide (d < (n:Int)) then ((idx t b>>=fun e=>(idx e a>>=fun e'=>(bif e' == (1:Int) then (idx t a>>=fun e2=>(idx e2 d>>=fun Ww=>some (Ww == (1:Int)))) else some false)))>>=fun g=>(bif g then (idx t b>>=fun e=>(idx e d>>=fun _=>some (.norm (ak (d+1),t.set b.toNat (e.set d.toNat 1))))) else some (.norm (ak (d+1),t)))) else some (.exit k4 (d,t)))
  {t:List (List Int)} (ht:Sq n t) (re:∀ i:Int,0≤i→i < n→Rl t i i)
  (hf:∀ s:Int×List (List Int),Sq n s.2→(∀ i:Int,0≤i→i < n→Rl s.2 i i)→(∀ i j k:Int,0≤i→i < n→0≤j→j < n→0≤k→k < n→Rl s.2 i j→Rl s.2 j k→Rl s.2 i k)→Ok (f s) Q):Ok (ai (af k (aj (fun s=>L2 s.1 s.2) ((0:Int),t))) f) Q:=by
 refine ol (fun s:Int×List (List Int)=>(0≤s.1∧s.1≤n)∧Sq n s.2∧(∀ i:Int,0≤i→i < n→Rl s.2 i i)∧∀ m i j:Int,0≤m→m < s.1→0≤i→i < n→0≤j→j < n→Rl s.2 i m→Rl s.2 m j→Rl s.2 i j) (fun s=>(n - s.1).toNat) ⟨⟨by show (0:Int)≤0; omega,by show (0:Int)≤_; omega⟩,ht,re,fun m i j m0 m1=>by dsimp only at m1; omega⟩ ?_
 rintro ⟨a,t⟩ ⟨⟨a0,a1⟩,ht,re,tr⟩
 dsimp only at a0 a1 ht re tr
 show Ok (L2 a t) _
 rw [e2]
 refine od (fun ha=>?_) fun ha=>os ⟨rfl,hf _ ht re fun i j m i0 i1 j0 j1 m0 m1 h1 h2=>tr j i m j0 (by omega) i0 i1 m0 m1 h1 h2⟩
 refine ol (fun s:Int×List (List Int)=>(0≤s.1∧s.1≤n)∧Sq n s.2∧∀ i j:Int,0≤i→i < n→0≤j→j < n→(Rl s.2 i j↔if i < s.1 then Ad t a i j else Rl t i j)) (fun s=>(n - s.1).toNat) ⟨⟨by show (0:Int)≤0; omega,by show (0:Int)≤_; omega⟩,ht,fun i j i0 _ _ _=>by rw [if_neg (by dsimp only; omega)]⟩ ?_
 rintro ⟨b,o⟩ ⟨⟨b0,b1⟩,ho,hR⟩
 dsimp only at b0 b1 ho hR
 show Ok (L3 a b o) _
 rw [e3]
 refine od (fun hb=>?_) fun hb=>os ⟨rfl,os ⟨⟨⟨?_,?_⟩,ho,fun i i0 i1=>?_,fun m i j m0 m1 i0 i1 j0 j1 h1 h2=>?_⟩,?_⟩⟩
 ·refine ol (fun s:Int×List (List Int)=>(0≤s.1∧s.1≤n)∧Sq n s.2∧∀ i j:Int,0≤i→i < n→0≤j→j < n→(Rl s.2 i j↔if i < b∨i=b∧j < s.1 then Ad t a i j else Rl t i j)) (fun s=>(n - s.1).toNat) ⟨⟨by show (0:Int)≤0; omega,by show (0:Int)≤_; omega⟩,ho,fun i j i0 i1 j0 j1=>by
   rw [hR i j i0 i1 j0 j1]
   by_cases e:i < b
   ·rw [if_pos e,if_pos (.inl e)]
   ·rw [if_neg e,if_neg (by dsimp only; omega)]⟩ ?_
  rintro ⟨d,o⟩ ⟨⟨d0,d1⟩,ho,hR⟩
  dsimp only at d0 d1 ho hR
  have hl:=ho.len
  have Xd:∀ i:Int,0≤i→i < n→(gr o i).length=n:=fun i i0 i1=>ho.row _ (qj i0 (by omega))
  show Ok (L4 a b d o) _
  rw [e4]
  have ZC:Rl o b a↔Rl t b a:=by
   rw [hR b a b0 hb a0 ha]
   split
   ·exact ⟨fun h=>h.elim id fun h=>h.1,fun h=>.inl h⟩
   ·exact Iff.rfl
  have row:d < n→(Rl o a d↔Rl t a d):=fun hd=>by
   rw [hR a d a0 ha d0 hd]
   split
   ·exact ⟨fun h=>h.elim id fun h=>h.2,fun h=>.inl h⟩
   ·exact Iff.rfl
  refine od (fun hd=>?_) fun hd=>os ⟨rfl,os ⟨⟨⟨?_,?_⟩,ho,fun i j i0 i1 j0 j1=>?_⟩,?_⟩⟩
  ·have hw:=w1 d0 hd (by omega)
   have bd:=row hd
   have lb:=Xd b b0 hb
   have la:=Xd a a0 ha
   refine ob (P:=fun g=>g=true↔(Rl t b a∧Rl t a d)) (oe (rf b0 (by omega)) (oe (cM a0 (by omega)) (oc (fun e1=>oe (rf a0 (by omega)) (oe (cM d0 (by omega)) (os ?_))) fun e1=>os ?_))) fun g hg=>oc (fun e=>oe (rf b0 (by omega)) (oe (cM d0 (by omega)) (os ⟨⟨⟨?_,?_⟩,RY ho (qj b0 (by omega)) _ _ _,fun i j i0 i1 j0 j1=>?_⟩,?_⟩))) fun e=>os ⟨⟨⟨?_,?_⟩,ho,fun i j i0 i1 j0 j1=>?_⟩,?_⟩
   ·have h1:Rl o b a:=by unfold Rl; simpa using e1
    rw [← ZC,← bd]
    exact ⟨fun h=>⟨h1,by unfold Rl; simpa using h⟩,fun h=>by have:=h.2; unfold Rl at this; simp [this]⟩
   ·have h1 : ¬ Rl o b a:=fun h=>by unfold Rl at h; rw [h] at e1; simp at e1
    rw [← ZC]
    exact ⟨fun h=>(by cases h),fun h=>absurd h.1 h1⟩
   ·dsimp only; rw [hw]; omega
   ·dsimp only; rw [hw]; omega
   ·dsimp only
    rw [hw,Oz ho b0 hb d0 hd i0 j0,hR i j i0 i1 j0 j1]
    by_cases h:i=b∧j=d
    ·obtain ⟨h5,h6⟩:=h
     have hc:b < b∨b=b∧d < d+1:=.inr ⟨rfl,by omega⟩
     rw [h5,h6,if_pos hc]
     exact ⟨fun _=>.inr (hg.1 e),fun _=>.inl ⟨rfl,rfl⟩⟩
    ·by_cases h2:i < b∨i=b∧j < d
     ·rw [if_pos h2,if_pos (by omega)]
      exact ⟨fun h3=>h3.resolve_left h,fun h3=>.inr h3⟩
     ·rw [if_neg h2,if_neg (by omega)]
      exact ⟨fun h3=>h3.resolve_left h,fun h3=>.inr h3⟩
   ·dsimp only; rw [hw]; omega
   ·dsimp only; rw [hw]; omega
   ·dsimp only; rw [hw]; omega
   ·dsimp only
    rw [hw,hR i j i0 i1 j0 j1]
    by_cases h:i=b∧j=d
    ·obtain ⟨h5,h6⟩:=h
     have hc:b < b∨b=b∧d < d+1:=.inr ⟨rfl,by omega⟩
     rw [h5,h6,if_neg (by omega),if_pos hc]
     exact ⟨fun h3=>.inl h3,fun h3=>h3.resolve_right fun h4=>by have:=hg.2 h4; rw [e] at this; cases this⟩
    ·by_cases h2:i < b∨i=b∧j < d
     ·rw [if_pos h2,if_pos (by omega)]
     ·rw [if_neg h2,if_neg (by omega)]
   ·dsimp only; rw [hw]; omega
  ·dsimp only; rw [w1 b0 hb (by omega)]; omega
  ·dsimp only; rw [w1 b0 hb (by omega)]; omega
  ·dsimp only
   rw [w1 b0 hb (by omega),hR i j i0 i1 j0 j1]
   by_cases h:i < b+1
   ·rw [if_pos (by omega),if_pos h]
   ·rw [if_neg (by omega),if_neg h]
  ·dsimp only; rw [w1 b0 hb (by omega)]; omega
 ·dsimp only; rw [w1 a0 ha (by omega)]; omega
 ·dsimp only; rw [w1 a0 ha (by omega)]; omega
 ·dsimp only
  rw [hR i i i0 i1 i0 i1,if_pos (by omega)]
  exact .inl (re i i0 i1)
 ·dsimp only at m1 h1 h2 ⊢
  rw [w1 a0 ha (by omega)] at m1
  rw [hR i m i0 i1 m0 (by omega),if_pos (by omega)] at h1
  rw [hR m j m0 (by omega) j0 j1,if_pos (by omega)] at h2
  rw [hR i j i0 i1 j0 j1,if_pos (by omega)]
  by_cases hm:m < a
  ·rcases h1 with h1 | ⟨h1,h1'⟩
   ·rcases h2 with h2 | ⟨h2,Dn⟩
    ·exact .inl (tr m i j m0 hm i0 i1 j0 j1 h1 h2)
    ·exact .inr ⟨tr m i a m0 hm i0 i1 a0 ha h1 h2,Dn⟩
   ·rcases h2 with h2 | ⟨h2,Dn⟩
    ·exact .inr ⟨h1,tr m a j m0 hm a0 ha j0 j1 h1' h2⟩
    ·exact .inr ⟨h1,Dn⟩
  ·have e:m=a:=by omega
   rw [e] at h1 h2
   have g1:Rl t i a:=h1.elim id fun h=>h.1
   have g2:Rl t a j:=h2.elim id fun h=>h.2
   exact .inr ⟨g1,g2⟩
 ·dsimp only; rw [w1 a0 ha (by omega)]; omega
theorem Eh {x:List Int} (B:BK x) {s:aL} (S:Src x s) {n:Nat} (hn:n≤4):Ok (jE s n) fun y=>(Sq n y.1∧(∀ i:Int,0≤i→i < n→Rl y.1 i i)∧∀ i j k:Int,0≤i→i < n→0≤j→j < n→0≤k→k < n→Rl y.1 i j→Rl y.1 j k→Rl y.1 i k)∧Src x y.2:=by
 unfold jE
 refine j7 (ol (fun z:List (List Int)×Int×Int×Int=>(0≤z.2.1∧z.2.1≤n)∧((z.1.length:Int)=z.2.1∧(∀ y∈z.1,y.length=n)∧∀ i:Int,0≤i→i < z.2.1→Rl z.1 i i)∧0≤z.2.2.1∧z.2.2.1≤x.length) (fun z=>(n - z.2.1).toNat)
  ⟨⟨by show (0:Int)≤0; omega,by show (0:Int)≤_; omega⟩,⟨rfl,gn,fun i h0 h1=>by dsimp only at h1; omega⟩,S.a0,S.a1⟩ ?_)
 rintro ⟨l,i,a,h⟩ ⟨⟨i0,i1⟩,⟨hl,hr,Xe⟩,a0,a1⟩
 dsimp only at i0 i1 hl hr Xe a0 a1
 show Ok (lH s n l i a h) _
 unfold lH
 refine od (fun hi=>?_) fun hi=>os ⟨rfl,?_⟩
 ·have hw:=w1 i0 hi (by omega)
  refine RX (by omega) (by omega) (by omega) (oi i0 (by rw [List.length_replicate]; omega) fun _ _=>?_)
  refine ol (fun z:Int×Int×Int×List Int=>(i < z.1∧z.1≤n)∧(0≤z.2.1∧z.2.1≤x.length)∧z.2.2.2.length=n∧gi z.2.2.2 i=1) (fun z=>(n - z.1).toNat) ⟨⟨?_,?_⟩,⟨a0,a1⟩,?_,?_⟩ ?_
  ·dsimp only; rw [hw]; omega
  ·dsimp only; rw [hw]; omega
  ·show (List.set _ _ _).length=n; rw [List.length_set,List.length_replicate]; omega
  ·dsimp only; rw [rm i0 (by rw [List.length_replicate]; omega) i0,if_pos rfl]
  rintro ⟨j,a,h,o⟩ ⟨⟨j0,j1⟩,⟨a0,a1⟩,ho,ni⟩
  dsimp only at j0 j1 a0 a1 ho ni
  show Ok (lG s n j a h o) _
  unfold lG
  refine od (fun hj=>?_) fun hj=>os ⟨rfl,?_⟩
  ·have Xf:=w1 (i:=j) (by omega) hj (by omega)
   refine ob (dt B (S.at_ a0 a1) _) fun y hy=>oi (by omega) (by omega) fun _ _=>os ⟨⟨⟨?_,?_⟩,⟨hy.2.a0,hy.2.a1⟩,?_,?_⟩,?_⟩
   ·dsimp only; rw [Xf]; omega
   ·dsimp only; rw [Xf]; omega
   ·dsimp only; rw [List.length_set]; exact ho
   ·dsimp only; rw [rm (by omega) (by omega) i0,if_neg (by omega)]; exact ni
   ·dsimp only; rw [Xf]; omega
  ·refine fh (by omega) (by omega) (os ⟨⟨⟨?_,?_⟩,⟨?_,gy hr ho,fun i' h0 h1=>?_⟩,a0,a1⟩,?_⟩)
   ·dsimp only; rw [hw]; omega
   ·dsimp only; rw [hw]; omega
   ·dsimp only; rw [hw,List.length_append,List.length_singleton]; omega
   ·dsimp only at h1 ⊢
    rw [hw] at h1
    unfold Rl
    rw [Ed h0]
    by_cases e:i' < i
    ·rw [if_pos (by omega)]; exact Xe i' h0 e
    ·rw [if_neg (by omega),if_pos (by omega),show i'=i by omega]; exact ni
   ·dsimp only; rw [hw]; omega
 ·have hq:Sq n l:=⟨by omega,hr⟩
  have yU:∀ i:Int,0≤i→i < n→Rl l i i:=fun i h0 h1=>Xe i h0 (by omega)
  refine od (fun h1=>?_) fun h1=>?_
  ·refine ob (dt B (S.at_ a0 a1) _) fun y hy=>oc (fun _=>?_) fun _=>?_
   ·rw [eL (a:=(n:Int) - 1) (by omega) (by omega)]
    refine oe (rf (by omega) (by omega)) ?_
    have tO:=hr _ (qj (l:=l) (j:=(n:Int) - 1) (by omega) (by omega))
    refine ob (dt B (S.on hy.2) _) fun z hz=>?_
    have DF:=hz.1.2 (by omega)
    refine oe (cM hz.1.1 (by omega)) ?_
    exact EX hn (L2:=fun a t=>pC n a t) (L3:=fun a b t=>pB n a b t) (L4:=fun a b d t=>pA n a b d t) (fun _ _=>rfl) (fun _ _ _=>rfl) (fun _ _ _ _=>rfl) (RY hq (qj (l:=l) (j:=(n:Int) - 1) (by omega) (by omega)) _ _ _) (fun i h0 h1=>(Oz hq (by omega) (by omega) hz.1.1 DF h0 h0).2 (.inr (yU i h0 h1))) fun t ht r1 r2=>os ⟨⟨ht,r1,r2⟩,S.on hz.2⟩
   ·exact EX hn (L2:=fun a t=>pF n a t) (L3:=fun a b t=>pE n a b t) (L4:=fun a b d t=>pD n a b d t) (fun _ _=>rfl) (fun _ _ _=>rfl) (fun _ _ _ _=>rfl) hq yU fun t ht r1 r2=>os ⟨⟨ht,r1,r2⟩,S.on hy.2⟩
  ·exact EX hn (L2:=fun a t=>pH n a t) (L3:=fun a b t=>pG n a b t) (L4:=fun a b d t=>nZ n a b d t) (fun _ _=>rfl) (fun _ _ _=>rfl) (fun _ _ _ _=>rfl) hq yU fun t ht r1 r2=>os ⟨⟨ht,r1,r2⟩,S.at_ a0 a1⟩
end Go.Proofs.YtkcpiblgpnjanaaGreat
set_option linter.unusedVariables false
set_option linter.unusedSimpArgs false
namespace Go.Proofs.YtkcpiblgpnjanaaGreat
open Go Go.Li
def dj (c d:aI):List Int:=(dc c d).aG++mj c.aE.toNat d.aE.toNat fun x _=>x
def jh (c d:aI):List Int:=(dc c d).To++mj c.aE.toNat d.aE.toNat fun _ y=>c.aE+y
def sI (c d:aI) (f g:Int):Int:=
 if gi (jh c d) f≠gi (dj c d) g then -1 else if f < (dc c d).aG.length∧g < (dc c d).aG.length then gk (dc c d).aF f g
 else (dc c d).aG.length+gi (dj c d) f * d.aE+gi (jh c d) g - c.aE
def Cm (c d:aI):aI:=
 ⟨c.aE+d.aE,dj c d,jh c d,(dc c d).aJ,ep (dj c d).length fun f=>ep (dj c d).length fun g=>sI c d f g⟩
section
variable {c d:aI} (T:Ty c) (U:Ty d)
include T U
theorem vV:(dj c d).length=(dc c d).aG.length+c.aE.toNat * d.aE.toNat:=by
 have _:=T
 have _:=U
 unfold dj; rw [List.length_append,gw]
theorem FU:(jh c d).length=(dj c d).length:=by
 unfold jh; rw [List.length_append,gw,vV T U,(Ci T U).tl]
theorem tW {f:Int} (f0:0≤f) (f1:f < (dc c d).aG.length):gi (dj c d) f=gi (dc c d).aG f:=by
 have _:=T
 have _:=U
 unfold dj; rw [o6 f0,if_pos f1]
theorem tX {f:Int} (f0:0≤f) (f1:f < (dc c d).aG.length):gi (jh c d) f=gi (dc c d).To f:=by
 unfold jh; rw [o6 f0,if_pos (by rw [(Ci T U).tl]; exact f1)]
theorem wN {x y:Int} (x0:0≤x) (x1:x < c.aE) (y0:0≤y) (y1:y < d.aE):gi (dj c d) ((dc c d).aG.length+(x * d.aE+y))=x:=by
 have _:=T
 have ht:((d.aE.toNat:Nat):Int)=d.aE:=Int.toNat_of_nonneg U.o0
 have hp:=sR x0 x1 y0 y1
 unfold dj
 rw [o6 (by omega),if_neg (by omega),show ((dc c d).aG.length:Int)+(x * d.aE+y) - (dc c d).aG.length=x * d.aE+y by omega]
 have:=wK (n:=c.aE.toNat) (m:=d.aE.toNat) (g:=fun x _=>x) x0 (by omega) y0 (by omega)
 rwa [ht] at this
theorem wO {x y:Int} (x0:0≤x) (x1:x < c.aE) (y0:0≤y) (y1:y < d.aE):gi (jh c d) ((dc c d).aG.length+(x * d.aE+y))=c.aE+y:=by
 have ht:((d.aE.toNat:Nat):Int)=d.aE:=Int.toNat_of_nonneg U.o0
 have hp:=sR x0 x1 y0 y1
 have hl:=(Ci T U).tl
 unfold jh
 rw [o6 (by omega),if_neg (by omega),show ((dc c d).aG.length:Int)+(x * d.aE+y) - (dc c d).To.length=x * d.aE+y by omega]
 have:=wK (n:=c.aE.toNat) (m:=d.aE.toNat) (g:=fun _ y=>c.aE+y) x0 (by omega) y0 (by omega)
 rwa [ht] at this
theorem zt {f:Int} (f0:0≤f) (f1:f < (dj c d).length):f < (dc c d).aG.length∨∃ x y:Int,f=(dc c d).aG.length+(x * d.aE+y)∧(0≤x∧x < c.aE)∧0≤y∧y < d.aE:=by
 have hl:=vV T U
 have c0:=T.o0
 have ht:((d.aE.toNat:Nat):Int)=d.aE:=Int.toNat_of_nonneg U.o0
 by_cases h:f < (dc c d).aG.length
 ·exact .inl h
 ·obtain ⟨x,y,hx,hy,e⟩:=tV (n:=c.aE.toNat) (m:=d.aE.toNat) (k:=f - (dc c d).aG.length) (by omega) (by omega)
  rw [ht] at hy e
  exact .inr ⟨x,y,by omega,⟨hx.1,by omega⟩,hy⟩
theorem JZ {x y:Int} (x0:0≤x) (x1:x < c.aE) (y0:0≤y) (y1:y < d.aE):0≤(dc c d).aG.length+(x * d.aE+y)∧(dc c d).aG.length+(x * d.aE+y) < (dj c d).length:=by
 have hp:=sR x0 x1 y0 y1
 have hl:=vV T U
 have e:((c.aE.toNat * d.aE.toNat:Nat):Int)=c.aE * d.aE:=by
  rw [Int.natCast_mul,Int.toNat_of_nonneg T.o0,Int.toNat_of_nonneg U.o0]
 omega
theorem Oi:Ty (Cm c d):=by
 have S:=Ci T U
 have c0:=T.o0
 have d0:=U.o0
 have hl:=vV T U
 have tl:=FU T U
 have so:(dc c d).aE=c.aE+d.aE:=rfl
 have QV:∀ {p q:Int},0≤p→p < (dj c d).length→0≤q→q < (dj c d).length→gk (Cm c d).aF p q=sI c d p q:=fun p0 p1 q0 q1=>by
  show gi (gr (ep _ _) _) _=_
  rw [zo p0 p1,sP q0 q1]
 have fr:∀ {p:Int},0≤p→p < (dj c d).length→0≤gi (dj c d) p∧gi (dj c d) p < c.aE+d.aE:=fun p0 p1=>by
  rcases zt T U p0 p1 with h | ⟨x,y,rfl,hx,hy⟩
  ·rw [tW T U p0 h]; exact S.fr p0 h
  ·rw [wN T U hx.1 hx.2 hy.1 hy.2]; omega
 have to:∀ {p:Int},0≤p→p < (dj c d).length→0≤gi (jh c d) p∧gi (jh c d) p < c.aE+d.aE:=fun p0 p1=>by
  rcases zt T U p0 p1 with h | ⟨x,y,rfl,hx,hy⟩
  ·rw [tX T U p0 h]; exact S.to p0 h
  ·rw [wO T U hx.1 hx.2 hy.1 hy.2]; omega
 refine ⟨by show 0≤c.aE+d.aE; omega,fun y hy=>?_,tl,fun y hy=>?_,dC _ _,fun r hr=>?_,S.il,fun y hy=>?_,fun y y0 y1=>?_,fun y y0 y1=>?_,fun p q p0 p1 q0 q1 e=>?_,fun p q p0 p1 q0 q1 e=>?_,fun y y0 y1=>?_⟩
 ·obtain ⟨i,i0,i1,rfl⟩:=xA hy
  exact fr i0 i1
 ·obtain ⟨i,i0,i1,rfl⟩:=xA hy
  exact to i0 (by have i1:i < (jh c d).length:=i1; omega)
 ·obtain ⟨i,hi,rfl⟩:=o5.1 hr
  exact dC _ _
 ·have:=S.i y hy
  show 0≤y∧y < (dj c d).length
  omega
 ·have:=S.id y0 y1
  show gi (dj c d) _=y
  rw [show (Cm c d).aJ=(dc c d).aJ from rfl,tW T U this.1 this.2]; exact S.wk y y0 y1
 ·have:=S.id y0 y1
  show gi (jh c d) _=y
  rw [show (Cm c d).aJ=(dc c d).aJ from rfl,tX T U this.1 this.2]; exact S.yc y y0 y1
 ·have p1:p < (dj c d).length:=p1
  have q1:q < (dj c d).length:=q1
  have e:gi (jh c d) p=gi (dj c d) q:=e
  rw [QV p0 p1 q0 q1]
  unfold sI
  rw [if_neg (fun h=>h e)]
  show (_∧_ < ((dj c d).length:Int))∧gi (dj c d) _=gi (dj c d) p∧gi (jh c d) _=gi (jh c d) q
  rcases zt T U p0 p1 with hp | ⟨x,y,rfl,hx,hy⟩
  ·rcases zt T U q0 q1 with hq | ⟨x',y',rfl,BL,sy⟩
   ·rw [if_pos ⟨hp,hq⟩]
    rw [tX T U p0 hp,tW T U q0 hq] at e
    have:=S.cell p q p0 hp q0 hq e
    rw [tW T U this.1.1 this.1.2,tX T U this.1.1 this.1.2,tW T U p0 hp,tX T U q0 hq]
    exact ⟨⟨this.1.1,by omega⟩,this.2.1,this.2.2⟩
   ·rw [tX T U p0 hp,wN T U BL.1 BL.2 sy.1 sy.2] at e
    have l6:=sR BL.1 BL.2 sy.1 sy.2
    rw [if_neg (by omega),tW T U p0 hp,wO T U BL.1 BL.2 sy.1 sy.2]
    rcases vU T U p0 hp with uN | ⟨r,rfl,r0,r1⟩
    ·have h1:=T.fr p0 uN
     rw [vS T U p0 uN]
     have hi:=JZ T U h1.1 h1.2 sy.1 sy.2
     rw [show ((dc c d).aG.length:Int)+gi c.aG p * d.aE+(c.aE+y') - c.aE=(dc c d).aG.length+(gi c.aG p * d.aE+y') by omega,wN T U h1.1 h1.2 sy.1 sy.2,wO T U h1.1 h1.2 sy.1 sy.2]
     exact ⟨hi,rfl,rfl⟩
    ·rw [vT T U r0 r1] at e
     have:=U.to r0 r1
     omega
  ·rcases zt T U q0 q1 with hq | ⟨x',y',rfl,BL,sy⟩
   ·rw [wO T U hx.1 hx.2 hy.1 hy.2,tW T U q0 hq] at e
    have hp:=sR hx.1 hx.2 hy.1 hy.2
    rw [if_neg (by omega),wN T U hx.1 hx.2 hy.1 hy.2,tX T U q0 hq]
    rcases vU T U q0 hq with ZD | ⟨r,rfl,r0,r1⟩
    ·rw [vS T U q0 ZD] at e
     have:=T.fr q0 ZD
     omega
    ·have h1:=U.to r0 r1
     rw [vT T U r0 r1]
     have hi:=JZ T U hx.1 hx.2 h1.1 h1.2
     rw [show ((dc c d).aG.length:Int)+x * d.aE+(gi d.To r+c.aE) - c.aE=(dc c d).aG.length+(x * d.aE+gi d.To r) by omega,wN T U hx.1 hx.2 h1.1 h1.2,wO T U hx.1 hx.2 h1.1 h1.2]
     exact ⟨hi,rfl,by omega⟩
   ·rw [wO T U hx.1 hx.2 hy.1 hy.2,wN T U BL.1 BL.2 sy.1 sy.2] at e
    omega
 ·rw [QV p0 p1 q0 q1]
  unfold sI
  rw [if_pos (show gi (jh c d) p≠gi (dj c d) q from e)]
 ·have k:=S.id (x:=y) y0 y1
  show gk (Cm c d).aF (gi (dc c d).aJ y) (gi (dc c d).aJ y)=gi (dc c d).aJ y
  have bg:gi (dc c d).aJ y < (dj c d).length:=by rw [hl]; omega
  rw [QV k.1 bg k.1 bg]
  unfold sI
  rw [if_neg (by rw [tX T U k.1 k.2,tW T U k.1 k.2,S.yc y y0 y1,S.wk y y0 y1]; simp),if_pos ⟨k.2,k.2⟩]
  exact S.uu y y0 y1
theorem QK {a b a' b':Nat} (C:jw a b c) (D:jw a' b' d) (ha:a+a'≤100) (hb:b+b'≤100):iL c d=some (Cm c d):=by
 have S:=Ci T U
 have c0:=T.o0
 have d0:=U.o0
 have co:=C.o
 have dO:=D.o
 have cm:=C.m
 have dm:=D.m
 have sl:=EU T U
 have Yn:=S.tl
 obtain ⟨nc,xE⟩ : ∃ n:Nat,c.aE=n:=⟨c.aE.toNat,by omega⟩
 obtain ⟨nd,cg⟩ : ∃ n:Nat,d.aE=n:=⟨d.aE.toNat,by omega⟩
 have hmul:nc * nd≤100 * 100:=Nat.mul_le_mul (by omega) (by omega)
 have jl:=vV T U
 have jt:=FU T U
 rw [xE,cg,Int.toNat_natCast,Int.toNat_natCast] at jl
 unfold iL
 rw [JR C D T U (by omega) (by omega),aH]
 refine (congrArg ao (yd (β:=Int×Int) nc nd (fun x y=>(x,c.aE+y)) [] (fun acc i=>((i:Int),(dc c d).aG++acc.map (·.1),(dc c d).To++acc.map (·.2))) ?_ ?_ ?_)).trans ?_
 ·show ((0:Int),_++[],_++[])=_; rw [List.append_nil,List.append_nil]
 ·intro i acc hi hl
  simp only [List.length_nil,Nat.zero_add] at hl
  have hm:i * nd≤100 * 100:=Nat.mul_le_mul (by omega) (by omega)
  show gJ c d (i:Int) _ _=_
  unfold gJ
  rw [bn (by omega:(i:Int) < c.aE),cond_true]
  refine (tB (β:=Int×Int) nd (fun y=>((i:Int),c.aE+y)) acc (fun acc j=>((j:Int),(dc c d).aG++acc.map (·.1),(dc c d).To++acc.map (·.2))) rfl ?_ ?_).trans ?_
  ·intro j tC hj yO
   show gI c d (i:Int) (j:Int) _ _=_
   unfold gI
   rw [bn (by omega:(j:Int) < d.aE),cond_true,eN (by rw [List.length_append,List.length_map]; omega) (by rw [List.length_append,List.length_map]; omega),aH,eN (by rw [List.length_append,List.length_map]; omega) (by rw [List.length_append,List.length_map]; omega),aH,cK (by omega),eL (by omega) (by omega)]
   simp only [List.map_append,List.map_cons,List.map_nil,List.append_assoc]
  ·intro tC _
   show gI c d (i:Int) _ _ _=_
   unfold gI
   rw [bx (by omega),cond_false]
  ·dsimp only
   rw [cK (by omega)]
 ·intro acc _
  show gJ c d _ _ _=_
  unfold gJ
  rw [bx (by omega),cond_false]
 dsimp only
 rw [List.nil_append,xz,xz]
 have eF:(dc c d).aG++mj nc nd (fun a b=>((a:Int),c.aE+b).1)=dj c d:=by unfold dj; rw [xE,cg]; rfl
 have eT:(dc c d).To++mj nc nd (fun a b=>((a:Int),c.aE+b).2)=jh c d:=by unfold jh; rw [xE,cg]; rfl
 rw [eF,eT]
 refine (congrArg ao (tA (dj c d).length (fun f=>ep (dj c d).length fun g=>sI c d f g) (fun acc i=>(acc,(i:Int))) rfl ?_ ?_)).trans ?_
 ·intro i acc hi hl
  show gL c d (dc c d) (dj c d) (jh c d) acc (i:Int)=_
  unfold gL
  rw [bn (by omega:(i:Int) < ((dj c d).length:Int)),cond_true]
  refine (tA (dj c d).length (fun g=>sI c d i g) (fun acc j=>(acc,(j:Int))) rfl ?_ ?_).trans ?_
  ·intro j r hj hr
   have i0:(0:Int)≤i:=by omega
   have i1:(i:Int) < (dj c d).length:=by omega
   have j0:(0:Int)≤j:=by omega
   have j1:(j:Int) < (dj c d).length:=by omega
   have J:=Oi T U
   have bf:0≤gi (dj c d) i∧gi (dj c d) i < c.aE+d.aE:=J.fr i0 i1
   have bt:0≤gi (jh c d) j∧gi (jh c d) j < c.aE+d.aE:=J.to j0 j1
   have hm:0≤gi (dj c d) i * d.aE∧gi (dj c d) i * d.aE≤100 * 100:=Ij bf.1 (by omega) d0 (by omega)
   show gK c d (dc c d) (dj c d) (jh c d) (i:Int) r (j:Int)=_
   unfold gK sI
   rw [bn j1,cond_true,cM i0 (by omega),aH,cM j0 j1,aH]
   by_cases e:gi (jh c d) i=gi (dj c d) j
   ·rw [tu e,cond_false,if_neg (fun h=>h e)]
    have tail:∀ v:Int,v=(dc c d).aG.length+gi (dj c d) i * d.aE+gi (jh c d) j - c.aE→(idx (dj c d) (i:Int)>>=fun PZ=>(idx (jh c d) (j:Int))>>=fun BA=>(fits 8 (r.length+1))>>=fun _=>some (Out.norm (r++[ak (ak (ak (((dc c d).aG.length:Int)+ak (PZ * d.aE))+BA) - c.aE)],ak ((j:Int)+1)):Out (List Int×Int) aI))=some (.norm (r++[v],((j+1:Nat):Int))):=by
     intro v hv
     rw [cM i0 i1,aH,cM j0 (by omega),aH,eN (by omega) (by omega),aH,cK (by omega),eL (a:=gi (dj c d) i * d.aE) (by omega) (by omega),eL (a:=((dc c d).aG.length:Int)+gi (dj c d) i * d.aE) (by omega) (by omega),eL (a:=((dc c d).aG.length:Int)+gi (dj c d) i * d.aE+gi (jh c d) j) (by omega) (by omega),eL (by omega) (by omega),hv]
    by_cases h1:(i:Int) < (dc c d).aG.length
    ·rw [bn h1,cond_true,aH]
     by_cases h2:(j:Int) < (dc c d).aG.length
     ·rw [bn h2,cond_true,S.mi i0 h1,aH,S.lz i0 h1 j0 h2,aH,eN (by omega) (by omega),aH,cK (by omega),if_pos ⟨h1,h2⟩]
     ·rw [bx h2,cond_false,if_neg (fun h=>h2 h.2)]
      exact tail _ rfl
    ·rw [bx h1,cond_false,aH,cond_false,if_neg (fun h=>h1 h.1)]
     exact tail _ rfl
   ·rw [sY e,cond_true,eN (by omega) (by omega),aH,cK (by omega),if_pos e]
  ·intro r _
   show gK c d (dc c d) (dj c d) (jh c d) (i:Int) r _=_
   unfold gK
   rw [bx (by omega),cond_false]
  ·dsimp only
   rw [eN (by omega) (by omega),aH,cK (by omega)]
 ·intro acc _
  show gL c d (dc c d) (dj c d) (jh c d) acc _=_
  unfold gL
  rw [bx (by omega),cond_false]
 ·rfl
end
end Go.Proofs.YtkcpiblgpnjanaaGreat
