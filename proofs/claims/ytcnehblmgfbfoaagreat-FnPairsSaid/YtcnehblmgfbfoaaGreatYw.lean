/- Relations that are drawn are reflexive and transitive. No condition beside those that each theorem names. -/
import Derived.Test.YtcnehblmgfbfoaaGreatYt
set_option linter.unusedVariables false
set_option linter.unusedSectionVars false
set_option linter.unusedSimpArgs false
set_option linter.unusedVariables false
set_option linter.unusedSimpArgs false
namespace Go.Proofs.YtcnehblmgfbfoaaGreat
open Go Go.Li
def Rl (l:List (List Int)) (i j:Int):Prop:=gi (gr l i) j=1
theorem LB {n:Nat} {l:List (List Int)} (h:Sq n l) {i j:Int} (i0:0≤i) (i1:i < n) (j0:0≤j) (j1:j < n) {i' j':Int} (a0:0≤i') (b0:0≤j'):Rl (l.set i.toNat ((gr l i).set j.toNat 1)) i' j'↔(i'=i∧j'=j)∨Rl l i' j':=by
 have hl:=h.len
 have hr:=h.row _ (pq (l:=l) i0 (by omega))
 have key:gr (l.set i.toNat ((gr l i).set j.toNat 1)) i'=if i'=i then (gr l i).set j.toNat 1 else gr l i':=by
  have:=TZ (cl:=l) (y:=i.toNat) (q:=(gr l i).set j.toNat 1) i'.toNat
  rw [show ((i'.toNat:Nat):Int)=i' by omega] at this
  rw [this]
  by_cases e:i'=i
  ·rw [if_pos (by omega),if_pos e]
  ·rw [if_neg (by omega),if_neg e]
 unfold Rl
 rw [key]
 by_cases e:i'=i
 ·rw [if_pos e,qb j0 (by omega) b0,e]
  by_cases e2:j'=j
  ·rw [if_pos e2]; exact ⟨fun _=>.inl ⟨rfl,e2⟩,fun _=>rfl⟩
  ·rw [if_neg e2]; exact ⟨fun h=>.inr h,fun h=>h.resolve_left fun h=>e2 h.2⟩
 ·rw [if_neg e]; exact ⟨fun h=>.inr h,fun h=>h.resolve_left fun h=>e h.1⟩
def Ad (l:List (List Int)) (k i j:Int):Prop:=Rl l i j∨Rl l i k∧Rl l k j
theorem Dh {R S:Type} {n:Nat} (hn:n≤4) {k k3 k4:Nat} {f:Int×List (List Int)→Option (Out S R)} {Q:Out S R→Prop} {L2:Int→List (List Int)→Option (Out (Int×List (List Int)) R)} {L3:Int→Int→List (List Int)→Option (Out (Int×List (List Int)) R)} {L4:Int→Int→Int→List (List Int)→Option (Out (Int×List (List Int)) R)}
  (e2:∀ a t,L2 a t=bif decide (a < (n:Int)) then (ah (ab k3 (aj (fun s:Int×List (List Int)=>L3 a s.1 s.2) ((0:Int),t))) fun s=>some (.norm (ai (a+1),s.2))) else some (.exit k (a,t)))
  (e3:∀ a b t,L3 a b t=bif decide (b < (n:Int)) then (ah (ab k4 (aj (fun s:Int×List (List Int)=>L4 a b s.1 s.2) ((0:Int),t))) fun s=>some (.norm (ai (b+1),s.2))) else some (.exit k3 (b,t)))
  (e4:∀ a b d t,L4 a b d t=bif decide (d < (n:Int)) then ((idx t b>>=fun e=>(idx e a>>=fun e'=>(bif e' == (1:Int) then (idx t a>>=fun e2=>(idx e2 d>>=fun e2'=>some (e2' == (1:Int)))) else some false)))>>=fun g=>(bif g then (idx t b>>=fun e=>(idx e d>>=fun _=>some (.norm (ai (d+1),t.set b.toNat (e.set d.toNat 1))))) else some (.norm (ai (d+1),t)))) else some (.exit k4 (d,t)))
  {t:List (List Int)} (ht:Sq n t) (re:∀ i:Int,0≤i→i < n→Rl t i i)
  (hf:∀ s:Int×List (List Int),Sq n s.2→(∀ i:Int,0≤i→i < n→Rl s.2 i i)→(∀ i j k:Int,0≤i→i < n→0≤j→j < n→0≤k→k < n→Rl s.2 i j→Rl s.2 j k→Rl s.2 i k)→Ok (f s) Q):Ok (ah (ab k (aj (fun s=>L2 s.1 s.2) ((0:Int),t))) f) Q:=by
 refine ol (fun s:Int×List (List Int)=>(0≤s.1∧s.1≤n)∧Sq n s.2∧(∀ i:Int,0≤i→i < n→Rl s.2 i i)∧∀ m i j:Int,0≤m→m < s.1→0≤i→i < n→0≤j→j < n→Rl s.2 i m→Rl s.2 m j→Rl s.2 i j) (fun s=>(n - s.1).toNat) ⟨⟨by show (0:Int)≤0; omega,by show (0:Int)≤_; omega⟩,ht,re,fun m i j m0 m1=>by dsimp only at m1; omega⟩ ?_
 rintro ⟨a,t⟩ ⟨⟨a0,a1⟩,ht,re,tr⟩
 dsimp only at a0 a1 ht re tr
 show Ok (L2 a t) _
 rw [e2]
 refine od (fun ha=>?_) fun ha=>os ⟨rfl,hf _ ht re fun i j m i0 i1 j0 j1 m0 m1 h1 h2=>tr j i m j0 (by omega) i0 i1 m0 m1 h1 h2⟩
 refine ol (fun s:Int×List (List Int)=>(0≤s.1∧s.1≤n)∧Sq n s.2∧∀ i j:Int,0≤i→i < n→0≤j→j < n→(Rl s.2 i j↔if i < s.1 then Ad t a i j else Rl t i j)) (fun s=>(n - s.1).toNat) ⟨⟨by show (0:Int)≤0; omega,by show (0:Int)≤_; omega⟩,ht,fun i j i0 _ _ _=>by rw [if_neg (by dsimp only; omega)]⟩ ?_
 rintro ⟨b,o⟩ ⟨⟨b0,b1⟩,ho,hR⟩
 dsimp only at b0 b1 ho hR
 show Ok (L3 a b o) _
 rw [e3]
 refine od (fun hb=>?_) fun hb=>os ⟨rfl,os ⟨⟨⟨?_,?_⟩,ho,fun i i0 i1=>?_,fun m i j m0 m1 i0 i1 j0 j1 h1 h2=>?_⟩,?_⟩⟩
 ·refine ol (fun s:Int×List (List Int)=>(0≤s.1∧s.1≤n)∧Sq n s.2∧∀ i j:Int,0≤i→i < n→0≤j→j < n→(Rl s.2 i j↔if i < b∨i=b∧j < s.1 then Ad t a i j else Rl t i j)) (fun s=>(n - s.1).toNat) ⟨⟨by show (0:Int)≤0; omega,by show (0:Int)≤_; omega⟩,ho,fun i j i0 i1 j0 j1=>by
   rw [hR i j i0 i1 j0 j1]
   by_cases e:i < b
   ·rw [if_pos e,if_pos (.inl e)]
   ·rw [if_neg e,if_neg (by dsimp only; omega)]⟩ ?_
  rintro ⟨d,o⟩ ⟨⟨d0,d1⟩,ho,hR⟩
  dsimp only at d0 d1 ho hR
  have hl:=ho.len
  have Uw:∀ i:Int,0≤i→i < n→(gr o i).length=n:=fun i i0 i1=>ho.row _ (pq i0 (by omega))
  show Ok (L4 a b d o) _
  rw [e4]
  have WQ:Rl o b a↔Rl t b a:=by
   rw [hR b a b0 hb a0 ha]
   split
   ·exact ⟨fun h=>h.elim id fun h=>h.1,fun h=>.inl h⟩
   ·exact Iff.rfl
  have row:d < n→(Rl o a d↔Rl t a d):=fun hd=>by
   rw [hR a d a0 ha d0 hd]
   split
   ·exact ⟨fun h=>h.elim id fun h=>h.2,fun h=>.inl h⟩
   ·exact Iff.rfl
  refine od (fun hd=>?_) fun hd=>os ⟨rfl,os ⟨⟨⟨?_,?_⟩,ho,fun i j i0 i1 j0 j1=>?_⟩,?_⟩⟩
  ·have hw:=w1 d0 hd (by omega)
   have bb:=row hd
   have lb:=Uw b b0 hb
   have la:=Uw a a0 ha
   refine ob (P:=fun g=>g=true↔(Rl t b a∧Rl t a d)) (oe (qt b0 (by omega)) (oe (bV a0 (by omega)) (oc (fun e1=>oe (qt a0 (by omega)) (oe (bV d0 (by omega)) (os ?_))) fun e1=>os ?_))) fun g hg=>oc (fun e=>oe (qt b0 (by omega)) (oe (bV d0 (by omega)) (os ⟨⟨⟨?_,?_⟩,Pb ho (pq b0 (by omega)) _ _ _,fun i j i0 i1 j0 j1=>?_⟩,?_⟩))) fun e=>os ⟨⟨⟨?_,?_⟩,ho,fun i j i0 i1 j0 j1=>?_⟩,?_⟩
   ·have h1:Rl o b a:=by unfold Rl; simpa using e1
    rw [← WQ,← bb]
    exact ⟨fun h=>⟨h1,by unfold Rl; simpa using h⟩,fun h=>by have:=h.2; unfold Rl at this; simp [this]⟩
   ·have h1 : ¬ Rl o b a:=fun h=>by unfold Rl at h; rw [h] at e1; simp at e1
    rw [← WQ]
    exact ⟨fun h=>(by cases h),fun h=>absurd h.1 h1⟩
   ·dsimp only; rw [hw]; omega
   ·dsimp only; rw [hw]; omega
   ·dsimp only
    rw [hw,LB ho b0 hb d0 hd i0 j0,hR i j i0 i1 j0 j1]
    by_cases h:i=b∧j=d
    ·obtain ⟨h5,h6⟩:=h
     have hc:b < b∨b=b∧d < d+1:=.inr ⟨rfl,by omega⟩
     rw [h5,h6,if_pos hc]
     exact ⟨fun _=>.inr (hg.1 e),fun _=>.inl ⟨rfl,rfl⟩⟩
    ·by_cases h2:i < b∨i=b∧j < d
     ·rw [if_pos h2,if_pos (by omega)]
      exact ⟨fun h3=>h3.resolve_left h,fun h3=>.inr h3⟩
     ·rw [if_neg h2,if_neg (by omega)]
      exact ⟨fun h3=>h3.resolve_left h,fun h3=>.inr h3⟩
   ·dsimp only; rw [hw]; omega
   ·dsimp only; rw [hw]; omega
   ·dsimp only; rw [hw]; omega
   ·dsimp only
    rw [hw,hR i j i0 i1 j0 j1]
    by_cases h:i=b∧j=d
    ·obtain ⟨h5,h6⟩:=h
     have hc:b < b∨b=b∧d < d+1:=.inr ⟨rfl,by omega⟩
     rw [h5,h6,if_neg (by omega),if_pos hc]
     exact ⟨fun h3=>.inl h3,fun h3=>h3.resolve_right fun h4=>by have:=hg.2 h4; rw [e] at this; cases this⟩
    ·by_cases h2:i < b∨i=b∧j < d
     ·rw [if_pos h2,if_pos (by omega)]
     ·rw [if_neg h2,if_neg (by omega)]
   ·dsimp only; rw [hw]; omega
  ·dsimp only; rw [w1 b0 hb (by omega)]; omega
  ·dsimp only; rw [w1 b0 hb (by omega)]; omega
  ·dsimp only
   rw [w1 b0 hb (by omega),hR i j i0 i1 j0 j1]
   by_cases h:i < b+1
   ·rw [if_pos (by omega),if_pos h]
   ·rw [if_neg (by omega),if_neg h]
  ·dsimp only; rw [w1 b0 hb (by omega)]; omega
 ·dsimp only; rw [w1 a0 ha (by omega)]; omega
 ·dsimp only; rw [w1 a0 ha (by omega)]; omega
 ·dsimp only
  rw [hR i i i0 i1 i0 i1,if_pos (by omega)]
  exact .inl (re i i0 i1)
 ·dsimp only at m1 h1 h2 ⊢
  rw [w1 a0 ha (by omega)] at m1
  rw [hR i m i0 i1 m0 (by omega),if_pos (by omega)] at h1
  rw [hR m j m0 (by omega) j0 j1,if_pos (by omega)] at h2
  rw [hR i j i0 i1 j0 j1,if_pos (by omega)]
  by_cases hm:m < a
  ·rcases h1 with h1 | ⟨h1,h1'⟩
   ·rcases h2 with h2 | ⟨h2,BO⟩
    ·exact .inl (tr m i j m0 hm i0 i1 j0 j1 h1 h2)
    ·exact .inr ⟨tr m i a m0 hm i0 i1 a0 ha h1 h2,BO⟩
   ·rcases h2 with h2 | ⟨h2,BO⟩
    ·exact .inr ⟨h1,tr m a j m0 hm a0 ha j0 j1 h1' h2⟩
    ·exact .inr ⟨h1,BO⟩
  ·have e:m=a:=by omega
   rw [e] at h1 h2
   have g1:Rl t i a:=h1.elim id fun h=>h.1
   have g2:Rl t a j:=h2.elim id fun h=>h.2
   exact .inr ⟨g1,g2⟩
 ·dsimp only; rw [w1 a0 ha (by omega)]; omega
theorem CK {x:List Int} (B:vx x) {s:aM} (S:Src x s) {n:Nat} (hn:n≤4):Ok (fZ s n) fun y=>(Sq n y.1∧(∀ i:Int,0≤i→i < n→Rl y.1 i i)∧∀ i j k:Int,0≤i→i < n→0≤j→j < n→0≤k→k < n→Rl y.1 i j→Rl y.1 j k→Rl y.1 i k)∧Src x y.2:=by
 unfold fZ
 refine km (ol (fun z:List (List Int)×Int×Int×Int=>(0≤z.2.1∧z.2.1≤n)∧((z.1.length:Int)=z.2.1∧(∀ y∈z.1,y.length=n)∧∀ i:Int,0≤i→i < z.2.1→Rl z.1 i i)∧0≤z.2.2.1∧z.2.2.1≤x.length) (fun z=>(n - z.2.1).toNat)
  ⟨⟨by show (0:Int)≤0; omega,by show (0:Int)≤_; omega⟩,⟨rfl,jv,fun i h0 h1=>by dsimp only at h1; omega⟩,S.a0,S.a1⟩ ?_)
 rintro ⟨l,i,a,h⟩ ⟨⟨i0,i1⟩,⟨hl,hr,Ux⟩,a0,a1⟩
 dsimp only at i0 i1 hl hr Ux a0 a1
 show Ok (jA s n l i a h) _
 unfold jA
 refine od (fun hi=>?_) fun hi=>os ⟨rfl,?_⟩
 ·have hw:=w1 i0 hi (by omega)
  refine Pa (by omega) (by omega) (by omega) (oi i0 (by rw [List.length_replicate]; omega) fun _ _=>?_)
  refine ol (fun z:Int×Int×Int×List Int=>(i < z.1∧z.1≤n)∧(0≤z.2.1∧z.2.1≤x.length)∧z.2.2.2.length=n∧gi z.2.2.2 i=1) (fun z=>(n - z.1).toNat) ⟨⟨?_,?_⟩,⟨a0,a1⟩,?_,?_⟩ ?_
  ·dsimp only; rw [hw]; omega
  ·dsimp only; rw [hw]; omega
  ·show (List.set _ _ _).length=n; rw [List.length_set,List.length_replicate]; omega
  ·dsimp only; rw [qb i0 (by rw [List.length_replicate]; omega) i0,if_pos rfl]
  rintro ⟨j,a,h,o⟩ ⟨⟨j0,j1⟩,⟨a0,a1⟩,ho,mb⟩
  dsimp only at j0 j1 a0 a1 ho mb
  show Ok (iZ s n j a h o) _
  unfold iZ
  refine od (fun hj=>?_) fun hj=>os ⟨rfl,?_⟩
  ·have Uy:=w1 (i:=j) (by omega) hj (by omega)
   refine ob (dw B (S.at_ a0 a1) _) fun y hy=>oi (by omega) (by omega) fun _ _=>os ⟨⟨⟨?_,?_⟩,⟨hy.2.a0,hy.2.a1⟩,?_,?_⟩,?_⟩
   ·dsimp only; rw [Uy]; omega
   ·dsimp only; rw [Uy]; omega
   ·dsimp only; rw [List.length_set]; exact ho
   ·dsimp only; rw [qb (by omega) (by omega) i0,if_neg (by omega)]; exact mb
   ·dsimp only; rw [Uy]; omega
  ·refine fw (by omega) (by omega) (os ⟨⟨⟨?_,?_⟩,⟨?_,jw hr ho,fun i' h0 h1=>?_⟩,a0,a1⟩,?_⟩)
   ·dsimp only; rw [hw]; omega
   ·dsimp only; rw [hw]; omega
   ·dsimp only; rw [hw,List.length_append,List.length_singleton]; omega
   ·dsimp only at h1 ⊢
    rw [hw] at h1
    unfold Rl
    rw [CJ h0]
    by_cases e:i' < i
    ·rw [if_pos (by omega)]; exact Ux i' h0 e
    ·rw [if_neg (by omega),if_pos (by omega),show i'=i by omega]; exact mb
   ·dsimp only; rw [hw]; omega
 ·have hq:Sq n l:=⟨by omega,hr⟩
  have AJ:∀ i:Int,0≤i→i < n→Rl l i i:=fun i h0 h1=>Ux i h0 (by omega)
  refine od (fun h1=>?_) fun h1=>?_
  ·refine ob (dw B (S.at_ a0 a1) _) fun y hy=>oc (fun _=>?_) fun _=>?_
   ·rw [bX (a:=(n:Int) - 1) (by omega) (by omega)]
    refine oe (qt (by omega) (by omega)) ?_
    have sb:=hr _ (pq (l:=l) (j:=(n:Int) - 1) (by omega) (by omega))
    refine ob (dw B (S.on hy.2) _) fun z hz=>?_
    have B3:=hz.1.2 (by omega)
    refine oe (bV hz.1.1 (by omega)) ?_
    exact Dh hn (L2:=fun a t=>mA n a t) (L3:=fun a b t=>lZ n a b t) (L4:=fun a b d t=>lY n a b d t) (fun _ _=>rfl) (fun _ _ _=>rfl) (fun _ _ _ _=>rfl) (Pb hq (pq (l:=l) (j:=(n:Int) - 1) (by omega) (by omega)) _ _ _) (fun i h0 h1=>(LB hq (by omega) (by omega) hz.1.1 B3 h0 h0).2 (.inr (AJ i h0 h1))) fun t ht r1 r2=>os ⟨⟨ht,r1,r2⟩,S.on hz.2⟩
   ·exact Dh hn (L2:=fun a t=>mD n a t) (L3:=fun a b t=>mC n a b t) (L4:=fun a b d t=>mB n a b d t) (fun _ _=>rfl) (fun _ _ _=>rfl) (fun _ _ _ _=>rfl) hq AJ fun t ht r1 r2=>os ⟨⟨ht,r1,r2⟩,S.on hy.2⟩
  ·exact Dh hn (L2:=fun a t=>mG n a t) (L3:=fun a b t=>mE n a b t) (L4:=fun a b d t=>lO n a b d t) (fun _ _=>rfl) (fun _ _ _=>rfl) (fun _ _ _ _=>rfl) hq AJ fun t ht r1 r2=>os ⟨⟨ht,r1,r2⟩,S.at_ a0 a1⟩
end Go.Proofs.YtcnehblmgfbfoaaGreat
set_option linter.unusedVariables false
set_option linter.unusedSimpArgs false
namespace Go.Proofs.YtcnehblmgfbfoaaGreat
open Go Go.Li
def c9 (c d:aD):List Int:=(ay c d).aB++iy c.aA.toNat d.aA.toNat fun x _=>x
def iv (c d:aD):List Int:=(ay c d).To++iy c.aA.toNat d.aA.toNat fun _ y=>c.aA+y
def qR (c d:aD) (f g:Int):Int:=
 if gi (iv c d) f≠gi (c9 c d) g then -1 else if f < (ay c d).aB.length∧g < (ay c d).aB.length then gk (ay c d).aC f g
 else (ay c d).aB.length+gi (c9 c d) f * d.aA+gi (iv c d) g - c.aA
def AB (c d:aD):aD:=
 ⟨c.aA+d.aA,c9 c d,iv c d,(ay c d).aF,bj (c9 c d).length fun f=>bj (c9 c d).length fun g=>qR c d f g⟩
section
variable {c d:aD} (T:Ty c) (U:Ty d)
include T U
theorem uf:(c9 c d).length=(ay c d).aB.length+c.aA.toNat * d.aA.toNat:=by
 have _:=T
 have _:=U
 unfold c9; rw [List.length_append,dk]
theorem DY:(iv c d).length=(c9 c d).length:=by
 unfold iv; rw [List.length_append,dk,uf T U,(sM T U).tl]
theorem sr {f:Int} (f0:0≤f) (f1:f < (ay c d).aB.length):gi (c9 c d) f=gi (ay c d).aB f:=by
 have _:=T
 have _:=U
 unfold c9; rw [iT f0,if_pos f1]
theorem su {f:Int} (f0:0≤f) (f1:f < (ay c d).aB.length):gi (iv c d) f=gi (ay c d).To f:=by
 unfold iv; rw [iT f0,if_pos (by rw [(sM T U).tl]; exact f1)]
theorem u4 {x y:Int} (x0:0≤x) (x1:x < c.aA) (y0:0≤y) (y1:y < d.aA):gi (c9 c d) ((ay c d).aB.length+(x * d.aA+y))=x:=by
 have _:=T
 have ht:((d.aA.toNat:Nat):Int)=d.aA:=Int.toNat_of_nonneg U.o0
 have hp:=gx x0 x1 y0 y1
 unfold c9
 rw [iT (by omega),if_neg (by omega),show ((ay c d).aB.length:Int)+(x * d.aA+y) - (ay c d).aB.length=x * d.aA+y by omega]
 have:=oK (n:=c.aA.toNat) (m:=d.aA.toNat) (g:=fun x _=>x) x0 (by omega) y0 (by omega)
 rwa [ht] at this
theorem u5 {x y:Int} (x0:0≤x) (x1:x < c.aA) (y0:0≤y) (y1:y < d.aA):gi (iv c d) ((ay c d).aB.length+(x * d.aA+y))=c.aA+y:=by
 have ht:((d.aA.toNat:Nat):Int)=d.aA:=Int.toNat_of_nonneg U.o0
 have hp:=gx x0 x1 y0 y1
 have hl:=(sM T U).tl
 unfold iv
 rw [iT (by omega),if_neg (by omega),show ((ay c d).aB.length:Int)+(x * d.aA+y) - (ay c d).To.length=x * d.aA+y by omega]
 have:=oK (n:=c.aA.toNat) (m:=d.aA.toNat) (g:=fun _ y=>c.aA+y) x0 (by omega) y0 (by omega)
 rwa [ht] at this
theorem xG {f:Int} (f0:0≤f) (f1:f < (c9 c d).length):f < (ay c d).aB.length∨∃ x y:Int,f=(ay c d).aB.length+(x * d.aA+y)∧(0≤x∧x < c.aA)∧0≤y∧y < d.aA:=by
 have hl:=uf T U
 have c0:=T.o0
 have ht:((d.aA.toNat:Nat):Int)=d.aA:=Int.toNat_of_nonneg U.o0
 by_cases h:f < (ay c d).aB.length
 ·exact .inl h
 ·obtain ⟨x,y,hx,hy,e⟩:=o3 (n:=c.aA.toNat) (m:=d.aA.toNat) (k:=f - (ay c d).aB.length) (by omega) (by omega)
  rw [ht] at hy e
  exact .inr ⟨x,y,by omega,⟨hx.1,by omega⟩,hy⟩
theorem Ic {x y:Int} (x0:0≤x) (x1:x < c.aA) (y0:0≤y) (y1:y < d.aA):0≤(ay c d).aB.length+(x * d.aA+y)∧(ay c d).aB.length+(x * d.aA+y) < (c9 c d).length:=by
 have hp:=gx x0 x1 y0 y1
 have hl:=uf T U
 have e:((c.aA.toNat * d.aA.toNat:Nat):Int)=c.aA * d.aA:=by
  rw [Int.natCast_mul,Int.toNat_of_nonneg T.o0,Int.toNat_of_nonneg U.o0]
 omega
theorem Lw:Ty (AB c d):=by
 have S:=sM T U
 have c0:=T.o0
 have d0:=U.o0
 have hl:=uf T U
 have tl:=DY T U
 have so:(ay c d).aA=c.aA+d.aA:=rfl
 have N4:∀ {p q:Int},0≤p→p < (c9 c d).length→0≤q→q < (c9 c d).length→gk (AB c d).aC p q=qR c d p q:=fun p0 p1 q0 q1=>by
  show gi (gr (bj _ _) _) _=_
  rw [uV p0 p1,ei q0 q1]
 have fr:∀ {p:Int},0≤p→p < (c9 c d).length→0≤gi (c9 c d) p∧gi (c9 c d) p < c.aA+d.aA:=fun p0 p1=>by
  rcases xG T U p0 p1 with h | ⟨x,y,rfl,hx,hy⟩
  ·rw [sr T U p0 h]; exact S.fr p0 h
  ·rw [u4 T U hx.1 hx.2 hy.1 hy.2]; omega
 have to:∀ {p:Int},0≤p→p < (c9 c d).length→0≤gi (iv c d) p∧gi (iv c d) p < c.aA+d.aA:=fun p0 p1=>by
  rcases xG T U p0 p1 with h | ⟨x,y,rfl,hx,hy⟩
  ·rw [su T U p0 h]; exact S.to p0 h
  ·rw [u5 T U hx.1 hx.2 hy.1 hy.2]; omega
 refine ⟨by show 0≤c.aA+d.aA; omega,fun y hy=>?_,tl,fun y hy=>?_,aW _ _,fun r hr=>?_,S.il,fun y hy=>?_,fun y y0 y1=>?_,fun y y0 y1=>?_,fun p q p0 p1 q0 q1 e=>?_,fun p q p0 p1 q0 q1 e=>?_,fun y y0 y1=>?_⟩
 ·obtain ⟨i,i0,i1,rfl⟩:=xD hy
  exact fr i0 i1
 ·obtain ⟨i,i0,i1,rfl⟩:=xD hy
  exact to i0 (by have i1:i < (iv c d).length:=i1; omega)
 ·obtain ⟨i,hi,rfl⟩:=ij.1 hr
  exact aW _ _
 ·have:=S.i y hy
  show 0≤y∧y < (c9 c d).length
  omega
 ·have:=S.id y0 y1
  show gi (c9 c d) _=y
  rw [show (AB c d).aF=(ay c d).aF from rfl,sr T U this.1 this.2]; exact S.qK y y0 y1
 ·have:=S.id y0 y1
  show gi (iv c d) _=y
  rw [show (AB c d).aF=(ay c d).aF from rfl,su T U this.1 this.2]; exact S.rz y y0 y1
 ·have p1:p < (c9 c d).length:=p1
  have q1:q < (c9 c d).length:=q1
  have e:gi (iv c d) p=gi (c9 c d) q:=e
  rw [N4 p0 p1 q0 q1]
  unfold qR
  rw [if_neg (fun h=>h e)]
  show (_∧_ < ((c9 c d).length:Int))∧gi (c9 c d) _=gi (c9 c d) p∧gi (iv c d) _=gi (iv c d) q
  rcases xG T U p0 p1 with hp | ⟨x,y,rfl,hx,hy⟩
  ·rcases xG T U q0 q1 with hq | ⟨x',y',rfl,wK,ru⟩
   ·rw [if_pos ⟨hp,hq⟩]
    rw [su T U p0 hp,sr T U q0 hq] at e
    have:=S.cell p q p0 hp q0 hq e
    rw [sr T U this.1.1 this.1.2,su T U this.1.1 this.1.2,sr T U p0 hp,su T U q0 hq]
    exact ⟨⟨this.1.1,by omega⟩,this.2.1,this.2.2⟩
   ·rw [su T U p0 hp,u4 T U wK.1 wK.2 ru.1 ru.2] at e
    have o5:=gx wK.1 wK.2 ru.1 ru.2
    rw [if_neg (by omega),sr T U p0 hp,u5 T U wK.1 wK.2 ru.1 ru.2]
    rcases nq T U p0 hp with wi | ⟨r,rfl,r0,r1⟩
    ·have h1:=T.fr p0 wi
     rw [nr T U p0 wi]
     have hi:=Ic T U h1.1 h1.2 ru.1 ru.2
     rw [show ((ay c d).aB.length:Int)+gi c.aB p * d.aA+(c.aA+y') - c.aA=(ay c d).aB.length+(gi c.aB p * d.aA+y') by omega,u4 T U h1.1 h1.2 ru.1 ru.2,u5 T U h1.1 h1.2 ru.1 ru.2]
     exact ⟨hi,rfl,rfl⟩
    ·rw [qo T U r0 r1] at e
     have:=U.to r0 r1
     omega
  ·rcases xG T U q0 q1 with hq | ⟨x',y',rfl,wK,ru⟩
   ·rw [u5 T U hx.1 hx.2 hy.1 hy.2,sr T U q0 hq] at e
    have hp:=gx hx.1 hx.2 hy.1 hy.2
    rw [if_neg (by omega),u4 T U hx.1 hx.2 hy.1 hy.2,su T U q0 hq]
    rcases nq T U q0 hq with WR | ⟨r,rfl,r0,r1⟩
    ·rw [nr T U q0 WR] at e
     have:=T.fr q0 WR
     omega
    ·have h1:=U.to r0 r1
     rw [qo T U r0 r1]
     have hi:=Ic T U hx.1 hx.2 h1.1 h1.2
     rw [show ((ay c d).aB.length:Int)+x * d.aA+(gi d.To r+c.aA) - c.aA=(ay c d).aB.length+(x * d.aA+gi d.To r) by omega,u4 T U hx.1 hx.2 h1.1 h1.2,u5 T U hx.1 hx.2 h1.1 h1.2]
     exact ⟨hi,rfl,by omega⟩
   ·rw [u5 T U hx.1 hx.2 hy.1 hy.2,u4 T U wK.1 wK.2 ru.1 ru.2] at e
    omega
 ·rw [N4 p0 p1 q0 q1]
  unfold qR
  rw [if_pos (show gi (iv c d) p≠gi (c9 c d) q from e)]
 ·have k:=S.id (x:=y) y0 y1
  show gk (AB c d).aC (gi (ay c d).aF y) (gi (ay c d).aF y)=gi (ay c d).aF y
  have bc:gi (ay c d).aF y < (c9 c d).length:=by rw [hl]; omega
  rw [N4 k.1 bc k.1 bc]
  unfold qR
  rw [if_neg (by rw [su T U k.1 k.2,sr T U k.1 k.2,S.rz y y0 y1,S.qK y y0 y1]; simp),if_pos ⟨k.2,k.2⟩]
  exact S.uu y y0 y1
theorem NY {a b a' b':Nat} (C:jb a b c) (D:jb a' b' d) (ha:a+a'≤100) (hb:b+b'≤100):fF c d=some (AB c d):=by
 have S:=sM T U
 have c0:=T.o0
 have d0:=U.o0
 have co:=C.o
 have dO:=D.o
 have cm:=C.m
 have dm:=D.m
 have sl:=nj T U
 have VG:=S.tl
 obtain ⟨nc,yH⟩ : ∃ n:Nat,c.aA=n:=⟨c.aA.toNat,by omega⟩
 obtain ⟨nd,cq⟩ : ∃ n:Nat,d.aA=n:=⟨d.aA.toNat,by omega⟩
 have hmul:nc * nd≤100 * 100:=Nat.mul_le_mul (by omega) (by omega)
 have jl:=uf T U
 have jt:=DY T U
 rw [yH,cq,Int.toNat_natCast,Int.toNat_natCast] at jl
 unfold fF
 rw [C5 C D T U (by omega) (by omega),aE]
 refine (congrArg an (sf (β:=Int×Int) nc nd (fun x y=>(x,c.aA+y)) [] (fun acc i=>((i:Int),(ay c d).aB++acc.map (·.1),(ay c d).To++acc.map (·.2))) ?_ ?_ ?_)).trans ?_
 ·show ((0:Int),_++[],_++[])=_; rw [List.append_nil,List.append_nil]
 ·intro i acc hi hl
  simp only [List.length_nil,Nat.zero_add] at hl
  have hm:i * nd≤100 * 100:=Nat.mul_le_mul (by omega) (by omega)
  show dX c d (i:Int) _ _=_
  unfold dX
  rw [au (by omega:(i:Int) < c.aA),cond_true]
  refine (np (β:=Int×Int) nd (fun y=>((i:Int),c.aA+y)) acc (fun acc j=>((j:Int),(ay c d).aB++acc.map (·.1),(ay c d).To++acc.map (·.2))) rfl ?_ ?_).trans ?_
  ·intro j ll hj BL
   show dW c d (i:Int) (j:Int) _ _=_
   unfold dW
   rw [au (by omega:(j:Int) < d.aA),cond_true,cB (by rw [List.length_append,List.length_map]; omega) (by rw [List.length_append,List.length_map]; omega),aE,cB (by rw [List.length_append,List.length_map]; omega) (by rw [List.length_append,List.length_map]; omega),aE,bD (by omega),bX (by omega) (by omega)]
   simp only [List.map_append,List.map_cons,List.map_nil,List.append_assoc]
  ·intro ll _
   show dW c d (i:Int) _ _ _=_
   unfold dW
   rw [ba (by omega),cond_false]
  ·dsimp only
   rw [bD (by omega)]
 ·intro acc _
  show dX c d _ _ _=_
  unfold dX
  rw [ba (by omega),cond_false]
 dsimp only
 rw [List.nil_append,rN,rN]
 have eF:(ay c d).aB++iy nc nd (fun a b=>((a:Int),c.aA+b).1)=c9 c d:=by unfold c9; rw [yH,cq]; rfl
 have eT:(ay c d).To++iy nc nd (fun a b=>((a:Int),c.aA+b).2)=iv c d:=by unfold iv; rw [yH,cq]; rfl
 rw [eF,eT]
 refine (congrArg an (tn (c9 c d).length (fun f=>bj (c9 c d).length fun g=>qR c d f g) (fun acc i=>(acc,(i:Int))) rfl ?_ ?_)).trans ?_
 ·intro i acc hi hl
  show dZ c d (ay c d) (c9 c d) (iv c d) acc (i:Int)=_
  unfold dZ
  rw [au (by omega:(i:Int) < ((c9 c d).length:Int)),cond_true]
  refine (tn (c9 c d).length (fun g=>qR c d i g) (fun acc j=>(acc,(j:Int))) rfl ?_ ?_).trans ?_
  ·intro j r hj hr
   have i0:(0:Int)≤i:=by omega
   have i1:(i:Int) < (c9 c d).length:=by omega
   have j0:(0:Int)≤j:=by omega
   have j1:(j:Int) < (c9 c d).length:=by omega
   have J:=Lw T U
   have bf:0≤gi (c9 c d) i∧gi (c9 c d) i < c.aA+d.aA:=J.fr i0 i1
   have bt:0≤gi (iv c d) j∧gi (iv c d) j < c.aA+d.aA:=J.to j0 j1
   have hm:0≤gi (c9 c d) i * d.aA∧gi (c9 c d) i * d.aA≤100 * 100:=vp bf.1 (by omega) d0 (by omega)
   show dY c d (ay c d) (c9 c d) (iv c d) (i:Int) r (j:Int)=_
   unfold dY qR
   rw [au j1,cond_true,bV i0 (by omega),aE,bV j0 j1,aE]
   by_cases e:gi (iv c d) i=gi (c9 c d) j
   ·rw [qM e,cond_false,if_neg (fun h=>h e)]
    have tail:∀ v:Int,v=(ay c d).aB.length+gi (c9 c d) i * d.aA+gi (iv c d) j - c.aA→(idx (c9 c d) (i:Int)>>=fun Nd=>(idx (iv c d) (j:Int))>>=fun Nf=>(fits 8 (r.length+1))>>=fun _=>some (Out.norm (r++[ai (ai (ai (((ay c d).aB.length:Int)+ai (Nd * d.aA))+Nf) - c.aA)],ai ((j:Int)+1)):Out (List Int×Int) aD))=some (.norm (r++[v],((j+1:Nat):Int))):=by
     intro v hv
     rw [bV i0 i1,aE,bV j0 (by omega),aE,cB (by omega) (by omega),aE,bD (by omega),bX (a:=gi (c9 c d) i * d.aA) (by omega) (by omega),bX (a:=((ay c d).aB.length:Int)+gi (c9 c d) i * d.aA) (by omega) (by omega),bX (a:=((ay c d).aB.length:Int)+gi (c9 c d) i * d.aA+gi (iv c d) j) (by omega) (by omega),bX (by omega) (by omega),hv]
    by_cases h1:(i:Int) < (ay c d).aB.length
    ·rw [au h1,cond_true,aE]
     by_cases h2:(j:Int) < (ay c d).aB.length
     ·rw [au h2,cond_true,S.mx i0 h1,aE,S.l8 i0 h1 j0 h2,aE,cB (by omega) (by omega),aE,bD (by omega),if_pos ⟨h1,h2⟩]
     ·rw [ba h2,cond_false,if_neg (fun h=>h2 h.2)]
      exact tail _ rfl
    ·rw [ba h1,cond_false,aE,cond_false,if_neg (fun h=>h1 h.1)]
     exact tail _ rfl
   ·rw [rQ e,cond_true,cB (by omega) (by omega),aE,bD (by omega),if_pos e]
  ·intro r _
   show dY c d (ay c d) (c9 c d) (iv c d) (i:Int) r _=_
   unfold dY
   rw [ba (by omega),cond_false]
  ·dsimp only
   rw [cB (by omega) (by omega),aE,bD (by omega)]
 ·intro acc _
  show dZ c d (ay c d) (c9 c d) (iv c d) acc _=_
  unfold dZ
  rw [ba (by omega),cond_false]
 ·rfl
end
end Go.Proofs.YtcnehblmgfbfoaaGreat
