/- Relations that are drawn are reflexive and transitive. No condition beside those that each theorem names. -/
import Derived.Test.YtbhhmalgcnhniaaGreatYt
set_option linter.unusedVariables false
set_option linter.unusedSectionVars false
set_option linter.unusedSimpArgs false
namespace Go.Proofs.YtbhhmalgcnhniaaGreat
open Go Go.Li
set_option linter.unusedVariables false
set_option linter.unusedSectionVars false
set_option linter.unusedSimpArgs false
def Rl (l:List (List Int)) (i j:Int):Prop:=gi (gr l i) j=1
theorem Ny {n:Nat} {l:List (List Int)} (h:Sq n l) {i j:Int} (i0:0≤i) (i1:i < n) (j0:0≤j) (j1:j < n) {i' j':Int} (a0:0≤i') (b0:0≤j'):Rl (l.set i.toNat ((gr l i).set j.toNat 1)) i' j'↔(i'=i∧j'=j)∨Rl l i' j':=by
 have hl:=h.len
 have hr:=h.row _ (ic (l:=l) i0 (by omega))
 have key:gr (l.set i.toNat ((gr l i).set j.toNat 1)) i'=if i'=i then (gr l i).set j.toNat 1 else gr l i':=by
  have:=Wi (cl:=l) (y:=i.toNat) (q:=(gr l i).set j.toNat 1) i'.toNat
  rw [show ((i'.toNat:Nat):Int)=i' by omega] at this
  rw [this]
  by_cases e:i'=i
  ·rw [if_pos (by omega),if_pos e]
  ·rw [if_neg (by omega),if_neg e]
 unfold Rl
 rw [key]
 by_cases e:i'=i
 ·rw [if_pos e,jo j0 (by omega) b0,e]
  by_cases e2:j'=j
  ·rw [if_pos e2]; exact ⟨fun _=>.inl ⟨rfl,e2⟩,fun _=>rfl⟩
  ·rw [if_neg e2]; exact ⟨fun h=>.inr h,fun h=>h.resolve_left fun h=>e2 h.2⟩
 ·rw [if_neg e]; exact ⟨fun h=>.inr h,fun h=>h.resolve_left fun h=>e h.1⟩
def Ad (l:List (List Int)) (k i j:Int):Prop:=Rl l i j∨Rl l i k∧Rl l k j
theorem D5 {R S:Type} {n:Nat} (hn:n≤4) {k k3 k4:Nat} {f:Int×List (List Int)→Option (Out S R)} {Q:Out S R→Prop} {L2:Int→List (List Int)→Option (Out (Int×List (List Int)) R)} {L3:Int→Int→List (List Int)→Option (Out (Int×List (List Int)) R)} {L4:Int→Int→Int→List (List Int)→Option (Out (Int×List (List Int)) R)}
  (e2:∀ a t,L2 a t=bif decide (a < (n:Int)) then (ae (ab k3 (aj (fun s:Int×List (List Int)=>L3 a s.1 s.2) ((0:Int),t))) fun s=>some (.norm (ak (a+1),s.2))) else some (.exit k (a,t)))
  (e3:∀ a b t,L3 a b t=bif decide (b < (n:Int)) then (ae (ab k4 (aj (fun s:Int×List (List Int)=>L4 a b s.1 s.2) ((0:Int),t))) fun s=>some (.norm (ak (b+1),s.2))) else some (.exit k3 (b,t)))
  (e4:∀ a b d t,L4 a b d t=bif decide (d < (n:Int)) then ((idx t b>>=fun e=>(idx e a>>=fun e'=>(bif e' == (1:Int) then (idx t a>>=fun e2=>(idx e2 d>>=fun V6=>some (V6 == (1:Int)))) else some false)))>>=fun g=>(bif g then (idx t b>>=fun e=>(idx e d>>=fun _=>some (.norm (ak (d+1),t.set b.toNat (e.set d.toNat 1))))) else some (.norm (ak (d+1),t)))) else some (.exit k4 (d,t)))
  {t:List (List Int)} (ht:Sq n t) (re:∀ i:Int,0≤i→i < n→Rl t i i)
  (hf:∀ s:Int×List (List Int),Sq n s.2→(∀ i:Int,0≤i→i < n→Rl s.2 i i)→(∀ i j k:Int,0≤i→i < n→0≤j→j < n→0≤k→k < n→Rl s.2 i j→Rl s.2 j k→Rl s.2 i k)→Ok (f s) Q):Ok (ae (ab k (aj (fun s=>L2 s.1 s.2) ((0:Int),t))) f) Q:=by
 refine ol (fun s:Int×List (List Int)=>(0≤s.1∧s.1≤n)∧Sq n s.2∧(∀ i:Int,0≤i→i < n→Rl s.2 i i)∧∀ m i j:Int,0≤m→m < s.1→0≤i→i < n→0≤j→j < n→Rl s.2 i m→Rl s.2 m j→Rl s.2 i j) (fun s=>(n - s.1).toNat) ⟨⟨by show (0:Int)≤0; omega,by show (0:Int)≤_; omega⟩,ht,re,fun m i j m0 m1=>by dsimp only at m1; omega⟩ ?_
 rintro ⟨a,t⟩ ⟨⟨a0,a1⟩,ht,re,tr⟩
 dsimp only at a0 a1 ht re tr
 show Ok (L2 a t) _
 rw [e2]
 refine od (fun ha=>?_) fun ha=>os ⟨rfl,hf _ ht re fun i j m i0 i1 j0 j1 m0 m1 h1 h2=>tr j i m j0 (by omega) i0 i1 m0 m1 h1 h2⟩
 refine ol (fun s:Int×List (List Int)=>(0≤s.1∧s.1≤n)∧Sq n s.2∧∀ i j:Int,0≤i→i < n→0≤j→j < n→(Rl s.2 i j↔if i < s.1 then Ad t a i j else Rl t i j)) (fun s=>(n - s.1).toNat) ⟨⟨by show (0:Int)≤0; omega,by show (0:Int)≤_; omega⟩,ht,fun i j i0 _ _ _=>by rw [if_neg (by dsimp only; omega)]⟩ ?_
 rintro ⟨b,o⟩ ⟨⟨b0,b1⟩,ho,hR⟩
 dsimp only at b0 b1 ho hR
 show Ok (L3 a b o) _
 rw [e3]
 refine od (fun hb=>?_) fun hb=>os ⟨rfl,os ⟨⟨⟨?_,?_⟩,ho,fun i i0 i1=>?_,fun m i j m0 m1 i0 i1 j0 j1 h1 h2=>?_⟩,?_⟩⟩
 ·refine ol (fun s:Int×List (List Int)=>(0≤s.1∧s.1≤n)∧Sq n s.2∧∀ i j:Int,0≤i→i < n→0≤j→j < n→(Rl s.2 i j↔if i < b∨i=b∧j < s.1 then Ad t a i j else Rl t i j)) (fun s=>(n - s.1).toNat) ⟨⟨by show (0:Int)≤0; omega,by show (0:Int)≤_; omega⟩,ho,fun i j i0 i1 j0 j1=>by
   rw [hR i j i0 i1 j0 j1]
   by_cases e:i < b
   ·rw [if_pos e,if_pos (.inl e)]
   ·rw [if_neg e,if_neg (by dsimp only; omega)]⟩ ?_
  rintro ⟨d,o⟩ ⟨⟨d0,d1⟩,ho,hR⟩
  dsimp only at d0 d1 ho hR
  have hl:=ho.len
  have WO:∀ i:Int,0≤i→i < n→(gr o i).length=n:=fun i i0 i1=>ho.row _ (ic i0 (by omega))
  show Ok (L4 a b d o) _
  rw [e4]
  have Y6:Rl o b a↔Rl t b a:=by
   rw [hR b a b0 hb a0 ha]
   split
   ·exact ⟨fun h=>h.elim id fun h=>h.1,fun h=>.inl h⟩
   ·exact Iff.rfl
  have row:d < n→(Rl o a d↔Rl t a d):=fun hd=>by
   rw [hR a d a0 ha d0 hd]
   split
   ·exact ⟨fun h=>h.elim id fun h=>h.2,fun h=>.inl h⟩
   ·exact Iff.rfl
  refine od (fun hd=>?_) fun hd=>os ⟨rfl,os ⟨⟨⟨?_,?_⟩,ho,fun i j i0 i1 j0 j1=>?_⟩,?_⟩⟩
  ·have hw:=w1 d0 hd (by omega)
   have bc:=row hd
   have lb:=WO b b0 hb
   have la:=WO a a0 ha
   refine ob (P:=fun g=>g=true↔(Rl t b a∧Rl t a d)) (oe (jf b0 (by omega)) (oe (aZ a0 (by omega)) (oc (fun e1=>oe (jf a0 (by omega)) (oe (aZ d0 (by omega)) (os ?_))) fun e1=>os ?_))) fun g hg=>oc (fun e=>oe (jf b0 (by omega)) (oe (aZ d0 (by omega)) (os ⟨⟨⟨?_,?_⟩,E0 ho (ic b0 (by omega)) _ _ _,fun i j i0 i1 j0 j1=>?_⟩,?_⟩))) fun e=>os ⟨⟨⟨?_,?_⟩,ho,fun i j i0 i1 j0 j1=>?_⟩,?_⟩
   ·have h1:Rl o b a:=by unfold Rl; simpa using e1
    rw [← Y6,← bc]
    exact ⟨fun h=>⟨h1,by unfold Rl; simpa using h⟩,fun h=>by have:=h.2; unfold Rl at this; simp [this]⟩
   ·have h1 : ¬ Rl o b a:=fun h=>by unfold Rl at h; rw [h] at e1; simp at e1
    rw [← Y6]
    exact ⟨fun h=>(by cases h),fun h=>absurd h.1 h1⟩
   ·dsimp only; rw [hw]; omega
   ·dsimp only; rw [hw]; omega
   ·dsimp only
    rw [hw,Ny ho b0 hb d0 hd i0 j0,hR i j i0 i1 j0 j1]
    by_cases h:i=b∧j=d
    ·obtain ⟨h5,h6⟩:=h
     have hc:b < b∨b=b∧d < d+1:=.inr ⟨rfl,by omega⟩
     rw [h5,h6,if_pos hc]
     exact ⟨fun _=>.inr (hg.1 e),fun _=>.inl ⟨rfl,rfl⟩⟩
    ·by_cases h2:i < b∨i=b∧j < d
     ·rw [if_pos h2,if_pos (by omega)]
      exact ⟨fun h3=>h3.resolve_left h,fun h3=>.inr h3⟩
     ·rw [if_neg h2,if_neg (by omega)]
      exact ⟨fun h3=>h3.resolve_left h,fun h3=>.inr h3⟩
   ·dsimp only; rw [hw]; omega
   ·dsimp only; rw [hw]; omega
   ·dsimp only; rw [hw]; omega
   ·dsimp only
    rw [hw,hR i j i0 i1 j0 j1]
    by_cases h:i=b∧j=d
    ·obtain ⟨h5,h6⟩:=h
     have hc:b < b∨b=b∧d < d+1:=.inr ⟨rfl,by omega⟩
     rw [h5,h6,if_neg (by omega),if_pos hc]
     exact ⟨fun h3=>.inl h3,fun h3=>h3.resolve_right fun h4=>by have:=hg.2 h4; rw [e] at this; cases this⟩
    ·by_cases h2:i < b∨i=b∧j < d
     ·rw [if_pos h2,if_pos (by omega)]
     ·rw [if_neg h2,if_neg (by omega)]
   ·dsimp only; rw [hw]; omega
  ·dsimp only; rw [w1 b0 hb (by omega)]; omega
  ·dsimp only; rw [w1 b0 hb (by omega)]; omega
  ·dsimp only
   rw [w1 b0 hb (by omega),hR i j i0 i1 j0 j1]
   by_cases h:i < b+1
   ·rw [if_pos (by omega),if_pos h]
   ·rw [if_neg (by omega),if_neg h]
  ·dsimp only; rw [w1 b0 hb (by omega)]; omega
 ·dsimp only; rw [w1 a0 ha (by omega)]; omega
 ·dsimp only; rw [w1 a0 ha (by omega)]; omega
 ·dsimp only
  rw [hR i i i0 i1 i0 i1,if_pos (by omega)]
  exact .inl (re i i0 i1)
 ·dsimp only at m1 h1 h2 ⊢
  rw [w1 a0 ha (by omega)] at m1
  rw [hR i m i0 i1 m0 (by omega),if_pos (by omega)] at h1
  rw [hR m j m0 (by omega) j0 j1,if_pos (by omega)] at h2
  rw [hR i j i0 i1 j0 j1,if_pos (by omega)]
  by_cases hm:m < a
  ·rcases h1 with h1 | ⟨h1,h1'⟩
   ·rcases h2 with h2 | ⟨h2,CA⟩
    ·exact .inl (tr m i j m0 hm i0 i1 j0 j1 h1 h2)
    ·exact .inr ⟨tr m i a m0 hm i0 i1 a0 ha h1 h2,CA⟩
   ·rcases h2 with h2 | ⟨h2,CA⟩
    ·exact .inr ⟨h1,tr m a j m0 hm a0 ha j0 j1 h1' h2⟩
    ·exact .inr ⟨h1,CA⟩
  ·have e:m=a:=by omega
   rw [e] at h1 h2
   have g1:Rl t i a:=h1.elim id fun h=>h.1
   have g2:Rl t a j:=h2.elim id fun h=>h.2
   exact .inr ⟨g1,g2⟩
 ·dsimp only; rw [w1 a0 ha (by omega)]; omega
theorem Dv {x:List Int} (B:tO x) {s:aI} (S:Src x s) {n:Nat} (hn:n≤4):Ok (dM s n) fun y=>(Sq n y.1∧(∀ i:Int,0≤i→i < n→Rl y.1 i i)∧∀ i j k:Int,0≤i→i < n→0≤j→j < n→0≤k→k < n→Rl y.1 i j→Rl y.1 j k→Rl y.1 i k)∧Src x y.2:=by
 unfold dM
 refine ew (ol (fun z:List (List Int)×Int×Int×Int=>(0≤z.2.1∧z.2.1≤n)∧((z.1.length:Int)=z.2.1∧(∀ y∈z.1,y.length=n)∧∀ i:Int,0≤i→i < z.2.1→Rl z.1 i i)∧0≤z.2.2.1∧z.2.2.1≤x.length) (fun z=>(n - z.2.1).toNat)
  ⟨⟨by show (0:Int)≤0; omega,by show (0:Int)≤_; omega⟩,⟨rfl,iz,fun i h0 h1=>by dsimp only at h1; omega⟩,S.a0,S.a1⟩ ?_)
 rintro ⟨l,i,a,h⟩ ⟨⟨i0,i1⟩,⟨hl,hr,WQ⟩,a0,a1⟩
 dsimp only at i0 i1 hl hr WQ a0 a1
 show Ok (eL s n l i a h) _
 unfold eL
 refine od (fun hi=>?_) fun hi=>os ⟨rfl,?_⟩
 ·have hw:=w1 i0 hi (by omega)
  refine Hl (by omega) (by omega) (by omega) (oi i0 (by rw [List.length_replicate]; omega) fun _ _=>?_)
  refine ol (fun z:Int×Int×Int×List Int=>(i < z.1∧z.1≤n)∧(0≤z.2.1∧z.2.1≤x.length)∧z.2.2.2.length=n∧gi z.2.2.2 i=1) (fun z=>(n - z.1).toNat) ⟨⟨?_,?_⟩,⟨a0,a1⟩,?_,?_⟩ ?_
  ·dsimp only; rw [hw]; omega
  ·dsimp only; rw [hw]; omega
  ·show (List.set _ _ _).length=n; rw [List.length_set,List.length_replicate]; omega
  ·dsimp only; rw [jo i0 (by rw [List.length_replicate]; omega) i0,if_pos rfl]
  rintro ⟨j,a,h,o⟩ ⟨⟨j0,j1⟩,⟨a0,a1⟩,ho,na⟩
  dsimp only at j0 j1 a0 a1 ho na
  show Ok (eK s n j a h o) _
  unfold eK
  refine od (fun hj=>?_) fun hj=>os ⟨rfl,?_⟩
  ·have x9:=w1 (i:=j) (by omega) hj (by omega)
   refine ob (b9 B (S.at_ a0 a1) _) fun y hy=>oi (by omega) (by omega) fun _ _=>os ⟨⟨⟨?_,?_⟩,⟨hy.2.a0,hy.2.a1⟩,?_,?_⟩,?_⟩
   ·dsimp only; rw [x9]; omega
   ·dsimp only; rw [x9]; omega
   ·dsimp only; rw [List.length_set]; exact ho
   ·dsimp only; rw [jo (by omega) (by omega) i0,if_neg (by omega)]; exact na
   ·dsimp only; rw [x9]; omega
  ·refine de (by omega) (by omega) (os ⟨⟨⟨?_,?_⟩,⟨?_,ik hr ho,fun i' h0 h1=>?_⟩,a0,a1⟩,?_⟩)
   ·dsimp only; rw [hw]; omega
   ·dsimp only; rw [hw]; omega
   ·dsimp only; rw [hw,List.length_append,List.length_singleton]; omega
   ·dsimp only at h1 ⊢
    rw [hw] at h1
    unfold Rl
    rw [Ds h0]
    by_cases e:i' < i
    ·rw [if_pos (by omega)]; exact WQ i' h0 e
    ·rw [if_neg (by omega),if_pos (by omega),show i'=i by omega]; exact na
   ·dsimp only; rw [hw]; omega
 ·have hq:Sq n l:=⟨by omega,hr⟩
  have Ir:∀ i:Int,0≤i→i < n→Rl l i i:=fun i h0 h1=>WQ i h0 (by omega)
  refine od (fun h1=>?_) fun h1=>?_
  ·refine ob (b9 B (S.at_ a0 a1) _) fun y hy=>oc (fun _=>?_) fun _=>?_
   ·rw [bT (a:=(n:Int) - 1) (by omega) (by omega)]
    refine oe (jf (by omega) (by omega)) ?_
    have rC:=hr _ (ic (l:=l) (j:=(n:Int) - 1) (by omega) (by omega))
    refine ob (b9 B (S.on hy.2) _) fun z hz=>?_
    have zB:=hz.1.2 (by omega)
    refine oe (aZ hz.1.1 (by omega)) ?_
    exact D5 hn (L2:=fun a t=>jU n a t) (L3:=fun a b t=>jT n a b t) (L4:=fun a b d t=>jS n a b d t) (fun _ _=>rfl) (fun _ _ _=>rfl) (fun _ _ _ _=>rfl) (E0 hq (ic (l:=l) (j:=(n:Int) - 1) (by omega) (by omega)) _ _ _) (fun i h0 h1=>(Ny hq (by omega) (by omega) hz.1.1 zB h0 h0).2 (.inr (Ir i h0 h1))) fun t ht r1 r2=>os ⟨⟨ht,r1,r2⟩,S.on hz.2⟩
   ·exact D5 hn (L2:=fun a t=>jX n a t) (L3:=fun a b t=>jW n a b t) (L4:=fun a b d t=>jV n a b d t) (fun _ _=>rfl) (fun _ _ _=>rfl) (fun _ _ _ _=>rfl) hq Ir fun t ht r1 r2=>os ⟨⟨ht,r1,r2⟩,S.on hy.2⟩
  ·exact D5 hn (L2:=fun a t=>jZ n a t) (L3:=fun a b t=>jY n a b t) (L4:=fun a b d t=>jE n a b d t) (fun _ _=>rfl) (fun _ _ _=>rfl) (fun _ _ _ _=>rfl) hq Ir fun t ht r1 r2=>os ⟨⟨ht,r1,r2⟩,S.at_ a0 a1⟩
end Go.Proofs.YtbhhmalgcnhniaaGreat
namespace Go.Proofs.YtbhhmalgcnhniaaGreat
open Go Go.Li
set_option linter.unusedVariables false
set_option linter.unusedSectionVars false
set_option linter.unusedSimpArgs false
def dh (c d:aC):List Int:=(da c d).aA++mh c.aD.toNat d.aD.toNat fun x _=>x
def jv (c d:aC):List Int:=(da c d).To++mh c.aD.toNat d.aD.toNat fun _ y=>c.aD+y
def rO (c d:aC) (f g:Int):Int:=
 if gi (jv c d) f≠gi (dh c d) g then -1 else if f < (da c d).aA.length∧g < (da c d).aA.length then gk (da c d).aB f g
 else (da c d).aA.length+gi (dh c d) f * d.aD+gi (jv c d) g - c.aD
def Bq (c d:aC):aC:=
 ⟨c.aD+d.aD,dh c d,jv c d,(da c d).aF,dg (dh c d).length fun f=>dg (dh c d).length fun g=>rO c d f g⟩
section
variable {c d:aC} (T:Ty c) (U:Ty d)
include T U
theorem u4:(dh c d).length=(da c d).aA.length+c.aD.toNat * d.aD.toNat:=by
 have _:=T
 have _:=U
 unfold dh; rw [List.length_append,iy]
theorem EL:(jv c d).length=(dh c d).length:=by
 unfold jv; rw [List.length_append,iy,u4 T U,(Bo T U).tl]
theorem sX {f:Int} (f0:0≤f) (f1:f < (da c d).aA.length):gi (dh c d) f=gi (da c d).aA f:=by
 have _:=T
 have _:=U
 unfold dh; rw [oK f0,if_pos f1]
theorem sY {f:Int} (f0:0≤f) (f1:f < (da c d).aA.length):gi (jv c d) f=gi (da c d).To f:=by
 unfold jv; rw [oK f0,if_pos (by rw [(Bo T U).tl]; exact f1)]
theorem vD {x y:Int} (x0:0≤x) (x1:x < c.aD) (y0:0≤y) (y1:y < d.aD):gi (dh c d) ((da c d).aA.length+(x * d.aD+y))=x:=by
 have _:=T
 have ht:((d.aD.toNat:Nat):Int)=d.aD:=Int.toNat_of_nonneg U.o0
 have hp:=rT x0 x1 y0 y1
 unfold dh
 rw [oK (by omega),if_neg (by omega),show ((da c d).aA.length:Int)+(x * d.aD+y) - (da c d).aA.length=x * d.aD+y by omega]
 have:=vB (n:=c.aD.toNat) (m:=d.aD.toNat) (g:=fun x _=>x) x0 (by omega) y0 (by omega)
 rwa [ht] at this
theorem vE {x y:Int} (x0:0≤x) (x1:x < c.aD) (y0:0≤y) (y1:y < d.aD):gi (jv c d) ((da c d).aA.length+(x * d.aD+y))=c.aD+y:=by
 have ht:((d.aD.toNat:Nat):Int)=d.aD:=Int.toNat_of_nonneg U.o0
 have hp:=rT x0 x1 y0 y1
 have hl:=(Bo T U).tl
 unfold jv
 rw [oK (by omega),if_neg (by omega),show ((da c d).aA.length:Int)+(x * d.aD+y) - (da c d).To.length=x * d.aD+y by omega]
 have:=vB (n:=c.aD.toNat) (m:=d.aD.toNat) (g:=fun _ y=>c.aD+y) x0 (by omega) y0 (by omega)
 rwa [ht] at this
theorem yi {f:Int} (f0:0≤f) (f1:f < (dh c d).length):f < (da c d).aA.length∨∃ x y:Int,f=(da c d).aA.length+(x * d.aD+y)∧(0≤x∧x < c.aD)∧0≤y∧y < d.aD:=by
 have hl:=u4 T U
 have c0:=T.o0
 have ht:((d.aD.toNat:Nat):Int)=d.aD:=Int.toNat_of_nonneg U.o0
 by_cases h:f < (da c d).aA.length
 ·exact .inl h
 ·obtain ⟨x,y,hx,hy,e⟩:=sW (n:=c.aD.toNat) (m:=d.aD.toNat) (k:=f - (da c d).aA.length) (by omega) (by omega)
  rw [ht] at hy e
  exact .inr ⟨x,y,by omega,⟨hx.1,by omega⟩,hy⟩
theorem Jc {x y:Int} (x0:0≤x) (x1:x < c.aD) (y0:0≤y) (y1:y < d.aD):0≤(da c d).aA.length+(x * d.aD+y)∧(da c d).aA.length+(x * d.aD+y) < (dh c d).length:=by
 have hp:=rT x0 x1 y0 y1
 have hl:=u4 T U
 have e:((c.aD.toNat * d.aD.toNat:Nat):Int)=c.aD * d.aD:=by
  rw [Int.natCast_mul,Int.toNat_of_nonneg T.o0,Int.toNat_of_nonneg U.o0]
 omega
theorem No:Ty (Bq c d):=by
 have S:=Bo T U
 have c0:=T.o0
 have d0:=U.o0
 have hl:=u4 T U
 have tl:=EL T U
 have so:(da c d).aD=c.aD+d.aD:=rfl
 have PX:∀ {p q:Int},0≤p→p < (dh c d).length→0≤q→q < (dh c d).length→gk (Bq c d).aB p q=rO c d p q:=fun p0 p1 q0 q1=>by
  show gi (gr (dg _ _) _) _=_
  rw [vz p0 p1,gp q0 q1]
 have fr:∀ {p:Int},0≤p→p < (dh c d).length→0≤gi (dh c d) p∧gi (dh c d) p < c.aD+d.aD:=fun p0 p1=>by
  rcases yi T U p0 p1 with h | ⟨x,y,rfl,hx,hy⟩
  ·rw [sX T U p0 h]; exact S.fr p0 h
  ·rw [vD T U hx.1 hx.2 hy.1 hy.2]; omega
 have to:∀ {p:Int},0≤p→p < (dh c d).length→0≤gi (jv c d) p∧gi (jv c d) p < c.aD+d.aD:=fun p0 p1=>by
  rcases yi T U p0 p1 with h | ⟨x,y,rfl,hx,hy⟩
  ·rw [sY T U p0 h]; exact S.to p0 h
  ·rw [vE T U hx.1 hx.2 hy.1 hy.2]; omega
 refine ⟨by show 0≤c.aD+d.aD; omega,fun y hy=>?_,tl,fun y hy=>?_,bA _ _,fun r hr=>?_,S.il,fun y hy=>?_,fun y y0 y1=>?_,fun y y0 y1=>?_,fun p q p0 p1 q0 q1 e=>?_,fun p q p0 p1 q0 q1 e=>?_,fun y y0 y1=>?_⟩
 ·obtain ⟨i,i0,i1,rfl⟩:=rL hy
  exact fr i0 i1
 ·obtain ⟨i,i0,i1,rfl⟩:=rL hy
  exact to i0 (by have i1:i < (jv c d).length:=i1; omega)
 ·obtain ⟨i,hi,rfl⟩:=p5.1 hr
  exact bA _ _
 ·have:=S.i y hy
  show 0≤y∧y < (dh c d).length
  omega
 ·have:=S.id y0 y1
  show gi (dh c d) _=y
  rw [show (Bq c d).aF=(da c d).aF from rfl,sX T U this.1 this.2]; exact S.tM y y0 y1
 ·have:=S.id y0 y1
  show gi (jv c d) _=y
  rw [show (Bq c d).aF=(da c d).aF from rfl,sY T U this.1 this.2]; exact S.rH y y0 y1
 ·have p1:p < (dh c d).length:=p1
  have q1:q < (dh c d).length:=q1
  have e:gi (jv c d) p=gi (dh c d) q:=e
  rw [PX p0 p1 q0 q1]
  unfold rO
  rw [if_neg (fun h=>h e)]
  show (_∧_ < ((dh c d).length:Int))∧gi (dh c d) _=gi (dh c d) p∧gi (jv c d) _=gi (jv c d) q
  rcases yi T U p0 p1 with hp | ⟨x,y,rfl,hx,hy⟩
  ·rcases yi T U q0 q1 with hq | ⟨x',y',rfl,xh,sb⟩
   ·rw [if_pos ⟨hp,hq⟩]
    rw [sY T U p0 hp,sX T U q0 hq] at e
    have:=S.cell p q p0 hp q0 hq e
    rw [sX T U this.1.1 this.1.2,sY T U this.1.1 this.1.2,sX T U p0 hp,sY T U q0 hq]
    exact ⟨⟨this.1.1,by omega⟩,this.2.1,this.2.2⟩
   ·rw [sY T U p0 hp,vD T U xh.1 xh.2 sb.1 sb.2] at e
    have po:=rT xh.1 xh.2 sb.1 sb.2
    rw [if_neg (by omega),sX T U p0 hp,vE T U xh.1 xh.2 sb.1 sb.2]
    rcases u3 T U p0 hp with tK | ⟨r,rfl,r0,r1⟩
    ·have h1:=T.fr p0 tK
     rw [uZ T U p0 tK]
     have hi:=Jc T U h1.1 h1.2 sb.1 sb.2
     rw [show ((da c d).aA.length:Int)+gi c.aA p * d.aD+(c.aD+y') - c.aD=(da c d).aA.length+(gi c.aA p * d.aD+y') by omega,vD T U h1.1 h1.2 sb.1 sb.2,vE T U h1.1 h1.2 sb.1 sb.2]
     exact ⟨hi,rfl,rfl⟩
    ·rw [u2 T U r0 r1] at e
     have:=U.to r0 r1
     omega
  ·rcases yi T U q0 q1 with hq | ⟨x',y',rfl,xh,sb⟩
   ·rw [vE T U hx.1 hx.2 hy.1 hy.2,sX T U q0 hq] at e
    have hp:=rT hx.1 hx.2 hy.1 hy.2
    rw [if_neg (by omega),vD T U hx.1 hx.2 hy.1 hy.2,sY T U q0 hq]
    rcases u3 T U q0 hq with ML | ⟨r,rfl,r0,r1⟩
    ·rw [uZ T U q0 ML] at e
     have:=T.fr q0 ML
     omega
    ·have h1:=U.to r0 r1
     rw [u2 T U r0 r1]
     have hi:=Jc T U hx.1 hx.2 h1.1 h1.2
     rw [show ((da c d).aA.length:Int)+x * d.aD+(gi d.To r+c.aD) - c.aD=(da c d).aA.length+(x * d.aD+gi d.To r) by omega,vD T U hx.1 hx.2 h1.1 h1.2,vE T U hx.1 hx.2 h1.1 h1.2]
     exact ⟨hi,rfl,by omega⟩
   ·rw [vE T U hx.1 hx.2 hy.1 hy.2,vD T U xh.1 xh.2 sb.1 sb.2] at e
    omega
 ·rw [PX p0 p1 q0 q1]
  unfold rO
  rw [if_pos (show gi (jv c d) p≠gi (dh c d) q from e)]
 ·have k:=S.id (x:=y) y0 y1
  show gk (Bq c d).aB (gi (da c d).aF y) (gi (da c d).aF y)=gi (da c d).aF y
  have av:gi (da c d).aF y < (dh c d).length:=by rw [hl]; omega
  rw [PX k.1 av k.1 av]
  unfold rO
  rw [if_neg (by rw [sY T U k.1 k.2,sX T U k.1 k.2,S.rH y y0 y1,S.tM y y0 y1]; simp),if_pos ⟨k.2,k.2⟩]
  exact S.uu y y0 y1
theorem PO {a b a' b':Nat} (C:iu a b c) (D:iu a' b' d) (ha:a+a'≤100) (hb:b+b'≤100):fD c d=some (Bq c d):=by
 have S:=Bo T U
 have c0:=T.o0
 have d0:=U.o0
 have co:=C.o
 have dO:=D.o
 have cm:=C.m
 have dm:=D.m
 have sl:=D2 T U
 have XM:=S.tl
 obtain ⟨nc,zt⟩ : ∃ n:Nat,c.aD=n:=⟨c.aD.toNat,by omega⟩
 obtain ⟨nd,dw⟩ : ∃ n:Nat,d.aD=n:=⟨d.aD.toNat,by omega⟩
 have hmul:nc * nd≤100 * 100:=Nat.mul_le_mul (by omega) (by omega)
 have jl:=u4 T U
 have jt:=EL T U
 rw [zt,dw,Int.toNat_natCast,Int.toNat_natCast] at jl
 unfold fD
 rw [I9 C D T U (by omega) (by omega),aE]
 refine (congrArg aq (xi (β:=Int×Int) nc nd (fun x y=>(x,c.aD+y)) [] (fun acc i=>((i:Int),(da c d).aA++acc.map (·.1),(da c d).To++acc.map (·.2))) ?_ ?_ ?_)).trans ?_
 ·show ((0:Int),_++[],_++[])=_; rw [List.append_nil,List.append_nil]
 ·intro i acc hi hl
  simp only [List.length_nil,Nat.zero_add] at hl
  have hm:i * nd≤100 * 100:=Nat.mul_le_mul (by omega) (by omega)
  show dS c d (i:Int) _ _=_
  unfold dS
  rw [bm (by omega:(i:Int) < c.aD),cond_true]
  refine (sC (β:=Int×Int) nd (fun y=>((i:Int),c.aD+y)) acc (fun acc j=>((j:Int),(da c d).aA++acc.map (·.1),(da c d).To++acc.map (·.2))) rfl ?_ ?_).trans ?_
  ·intro j sD hj xB
   show dR c d (i:Int) (j:Int) _ _=_
   unfold dR
   rw [bm (by omega:(j:Int) < d.aD),cond_true,cD (by rw [List.length_append,List.length_map]; omega) (by rw [List.length_append,List.length_map]; omega),aE,cD (by rw [List.length_append,List.length_map]; omega) (by rw [List.length_append,List.length_map]; omega),aE,bI (by omega),bT (by omega) (by omega)]
   simp only [List.map_append,List.map_cons,List.map_nil,List.append_assoc]
  ·intro sD _
   show dR c d (i:Int) _ _ _=_
   unfold dR
   rw [br (by omega),cond_false]
  ·dsimp only
   rw [bI (by omega)]
 ·intro acc _
  show dS c d _ _ _=_
  unfold dS
  rw [br (by omega),cond_false]
 dsimp only
 rw [List.nil_append,wI,wI]
 have eF:(da c d).aA++mh nc nd (fun a b=>((a:Int),c.aD+b).1)=dh c d:=by unfold dh; rw [zt,dw]; rfl
 have eT:(da c d).To++mh nc nd (fun a b=>((a:Int),c.aD+b).2)=jv c d:=by unfold jv; rw [zt,dw]; rfl
 rw [eF,eT]
 refine (congrArg aq (wD (dh c d).length (fun f=>dg (dh c d).length fun g=>rO c d f g) (fun acc i=>(acc,(i:Int))) rfl ?_ ?_)).trans ?_
 ·intro i acc hi hl
  show dU c d (da c d) (dh c d) (jv c d) acc (i:Int)=_
  unfold dU
  rw [bm (by omega:(i:Int) < ((dh c d).length:Int)),cond_true]
  refine (wD (dh c d).length (fun g=>rO c d i g) (fun acc j=>(acc,(j:Int))) rfl ?_ ?_).trans ?_
  ·intro j r hj hr
   have i0:(0:Int)≤i:=by omega
   have i1:(i:Int) < (dh c d).length:=by omega
   have j0:(0:Int)≤j:=by omega
   have j1:(j:Int) < (dh c d).length:=by omega
   have J:=No T U
   have bf:0≤gi (dh c d) i∧gi (dh c d) i < c.aD+d.aD:=J.fr i0 i1
   have bt:0≤gi (jv c d) j∧gi (jv c d) j < c.aD+d.aD:=J.to j0 j1
   have hm:0≤gi (dh c d) i * d.aD∧gi (dh c d) i * d.aD≤100 * 100:=Hp bf.1 (by omega) d0 (by omega)
   show dT c d (da c d) (dh c d) (jv c d) (i:Int) r (j:Int)=_
   unfold dT rO
   rw [bm j1,cond_true,aZ i0 (by omega),aE,aZ j0 j1,aE]
   by_cases e:gi (jv c d) i=gi (dh c d) j
   ·rw [qR e,cond_false,if_neg (fun h=>h e)]
    have tail:∀ v:Int,v=(da c d).aA.length+gi (dh c d) i * d.aD+gi (jv c d) j - c.aD→(idx (dh c d) (i:Int)>>=fun OV=>(idx (jv c d) (j:Int))>>=fun OX=>(fits 8 (r.length+1))>>=fun _=>some (Out.norm (r++[ak (ak (ak (((da c d).aA.length:Int)+ak (OV * d.aD))+OX) - c.aD)],ak ((j:Int)+1)):Out (List Int×Int) aC))=some (.norm (r++[v],((j+1:Nat):Int))):=by
     intro v hv
     rw [aZ i0 i1,aE,aZ j0 (by omega),aE,cD (by omega) (by omega),aE,bI (by omega),bT (a:=gi (dh c d) i * d.aD) (by omega) (by omega),bT (a:=((da c d).aA.length:Int)+gi (dh c d) i * d.aD) (by omega) (by omega),bT (a:=((da c d).aA.length:Int)+gi (dh c d) i * d.aD+gi (jv c d) j) (by omega) (by omega),bT (by omega) (by omega),hv]
    by_cases h1:(i:Int) < (da c d).aA.length
    ·rw [bm h1,cond_true,aE]
     by_cases h2:(j:Int) < (da c d).aA.length
     ·rw [bm h2,cond_true,S.nm i0 h1,aE,S.mg i0 h1 j0 h2,aE,cD (by omega) (by omega),aE,bI (by omega),if_pos ⟨h1,h2⟩]
     ·rw [br h2,cond_false,if_neg (fun h=>h2 h.2)]
      exact tail _ rfl
    ·rw [br h1,cond_false,aE,cond_false,if_neg (fun h=>h1 h.1)]
     exact tail _ rfl
   ·rw [wz e,cond_true,cD (by omega) (by omega),aE,bI (by omega),if_pos e]
  ·intro r _
   show dT c d (da c d) (dh c d) (jv c d) (i:Int) r _=_
   unfold dT
   rw [br (by omega),cond_false]
  ·dsimp only
   rw [cD (by omega) (by omega),aE,bI (by omega)]
 ·intro acc _
  show dU c d (da c d) (dh c d) (jv c d) acc _=_
  unfold dU
  rw [br (by omega),cond_false]
 ·rfl
end
end Go.Proofs.YtbhhmalgcnhniaaGreat
