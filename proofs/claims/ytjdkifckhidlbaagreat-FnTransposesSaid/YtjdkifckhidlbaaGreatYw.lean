/- Relations that are drawn are reflexive and transitive. No condition beside those that each theorem names. -/
import Derived.Test.YtjdkifckhidlbaaGreatYt
set_option linter.unusedVariables false
set_option linter.unusedSimpArgs false
namespace Go.Proofs.YtjdkifckhidlbaaGreat
open Go Go.Li
def Rl (l:List (List Int)) (i j:Int):Prop:=gi (gr l i) j=1
theorem Lt {n:Nat} {l:List (List Int)} (h:Sq n l) {i j:Int} (i0:0≤i) (i1:i < n) (j0:0≤j) (j1:j < n) {i' j':Int} (a0:0≤i') (b0:0≤j'):Rl (l.set i.toNat ((gr l i).set j.toNat 1)) i' j'↔(i'=i∧j'=j)∨Rl l i' j':=by
 have hl:=h.len
 have hr:=h.row _ (l7 (l:=l) i0 (by omega))
 have key:gr (l.set i.toNat ((gr l i).set j.toNat 1)) i'=if i'=i then (gr l i).set j.toNat 1 else gr l i':=by
  have:=TY (cl:=l) (y:=i.toNat) (q:=(gr l i).set j.toNat 1) i'.toNat
  rw [show ((i'.toNat:Nat):Int)=i' by omega] at this
  rw [this]
  by_cases e:i'=i
  ·rw [if_pos (by omega),if_pos e]
  ·rw [if_neg (by omega),if_neg e]
 unfold Rl
 rw [key]
 by_cases e:i'=i
 ·rw [if_pos e,rE j0 (by omega) b0,e]
  by_cases e2:j'=j
  ·rw [if_pos e2]; exact ⟨fun _=>.inl ⟨rfl,e2⟩,fun _=>rfl⟩
  ·rw [if_neg e2]; exact ⟨fun h=>.inr h,fun h=>h.resolve_left fun h=>e2 h.2⟩
 ·rw [if_neg e]; exact ⟨fun h=>.inr h,fun h=>h.resolve_left fun h=>e h.1⟩
def Ad (l:List (List Int)) (k i j:Int):Prop:=Rl l i j∨Rl l i k∧Rl l k j
theorem C8 {R S:Type} {n:Nat} (hn:n≤4) {k k3 k4:Nat} {f:Int×List (List Int)→Option (Out S R)} {Q:Out S R→Prop} {L2:Int→List (List Int)→Option (Out (Int×List (List Int)) R)} {L3:Int→Int→List (List Int)→Option (Out (Int×List (List Int)) R)} {L4:Int→Int→Int→List (List Int)→Option (Out (Int×List (List Int)) R)}
  (e2:∀ a t,L2 a t=bif decide (a < (n:Int)) then (ah (af k3 (aj (fun s:Int×List (List Int)=>L3 a s.1 s.2) ((0:Int),t))) fun s=>some (.norm (an (a+1),s.2))) else some (.exit k (a,t)))
  (e3:∀ a b t,L3 a b t=bif decide (b < (n:Int)) then (ah (af k4 (aj (fun s:Int×List (List Int)=>L4 a b s.1 s.2) ((0:Int),t))) fun s=>some (.norm (an (b+1),s.2))) else some (.exit k3 (b,t)))
  (e4:∀ a b d t,L4 a b d t=bif decide (d < (n:Int)) then ((idx t b>>=fun e=>(idx e a>>=fun e'=>(bif e' == (1:Int) then (idx t a>>=fun e2=>(idx e2 d>>=fun e2'=>some (e2' == (1:Int)))) else some false)))>>=fun g=>(bif g then (idx t b>>=fun e=>(idx e d>>=fun _=>some (.norm (an (d+1),t.set b.toNat (e.set d.toNat 1))))) else some (.norm (an (d+1),t)))) else some (.exit k4 (d,t)))
  {t:List (List Int)} (ht:Sq n t) (re:∀ i:Int,0≤i→i < n→Rl t i i)
  (hf:∀ s:Int×List (List Int),Sq n s.2→(∀ i:Int,0≤i→i < n→Rl s.2 i i)→(∀ i j k:Int,0≤i→i < n→0≤j→j < n→0≤k→k < n→Rl s.2 i j→Rl s.2 j k→Rl s.2 i k)→Ok (f s) Q):Ok (ah (af k (aj (fun s=>L2 s.1 s.2) ((0:Int),t))) f) Q:=by
 refine ol (fun s:Int×List (List Int)=>(0≤s.1∧s.1≤n)∧Sq n s.2∧(∀ i:Int,0≤i→i < n→Rl s.2 i i)∧∀ m i j:Int,0≤m→m < s.1→0≤i→i < n→0≤j→j < n→Rl s.2 i m→Rl s.2 m j→Rl s.2 i j) (fun s=>(n - s.1).toNat) ⟨⟨by show (0:Int)≤0; omega,by show (0:Int)≤_; omega⟩,ht,re,fun m i j m0 m1=>by dsimp only at m1; omega⟩ ?_
 rintro ⟨a,t⟩ ⟨⟨a0,a1⟩,ht,re,tr⟩
 dsimp only at a0 a1 ht re tr
 show Ok (L2 a t) _
 rw [e2]
 refine od (fun ha=>?_) fun ha=>os ⟨rfl,hf _ ht re fun i j m i0 i1 j0 j1 m0 m1 h1 h2=>tr j i m j0 (by omega) i0 i1 m0 m1 h1 h2⟩
 refine ol (fun s:Int×List (List Int)=>(0≤s.1∧s.1≤n)∧Sq n s.2∧∀ i j:Int,0≤i→i < n→0≤j→j < n→(Rl s.2 i j↔if i < s.1 then Ad t a i j else Rl t i j)) (fun s=>(n - s.1).toNat) ⟨⟨by show (0:Int)≤0; omega,by show (0:Int)≤_; omega⟩,ht,fun i j i0 _ _ _=>by rw [if_neg (by dsimp only; omega)]⟩ ?_
 rintro ⟨b,o⟩ ⟨⟨b0,b1⟩,ho,hR⟩
 dsimp only at b0 b1 ho hR
 show Ok (L3 a b o) _
 rw [e3]
 refine od (fun hb=>?_) fun hb=>os ⟨rfl,os ⟨⟨⟨?_,?_⟩,ho,fun i i0 i1=>?_,fun m i j m0 m1 i0 i1 j0 j1 h1 h2=>?_⟩,?_⟩⟩
 ·refine ol (fun s:Int×List (List Int)=>(0≤s.1∧s.1≤n)∧Sq n s.2∧∀ i j:Int,0≤i→i < n→0≤j→j < n→(Rl s.2 i j↔if i < b∨i=b∧j < s.1 then Ad t a i j else Rl t i j)) (fun s=>(n - s.1).toNat) ⟨⟨by show (0:Int)≤0; omega,by show (0:Int)≤_; omega⟩,ho,fun i j i0 i1 j0 j1=>by
   rw [hR i j i0 i1 j0 j1]
   by_cases e:i < b
   ·rw [if_pos e,if_pos (.inl e)]
   ·rw [if_neg e,if_neg (by dsimp only; omega)]⟩ ?_
  rintro ⟨d,o⟩ ⟨⟨d0,d1⟩,ho,hR⟩
  dsimp only at d0 d1 ho hR
  have hl:=ho.len
  have Uv:∀ i:Int,0≤i→i < n→(gr o i).length=n:=fun i i0 i1=>ho.row _ (l7 i0 (by omega))
  show Ok (L4 a b d o) _
  rw [e4]
  have W8:Rl o b a↔Rl t b a:=by
   rw [hR b a b0 hb a0 ha]
   split
   ·exact ⟨fun h=>h.elim id fun h=>h.1,fun h=>.inl h⟩
   ·exact Iff.rfl
  have row:d < n→(Rl o a d↔Rl t a d):=fun hd=>by
   rw [hR a d a0 ha d0 hd]
   split
   ·exact ⟨fun h=>h.elim id fun h=>h.2,fun h=>.inl h⟩
   ·exact Iff.rfl
  refine od (fun hd=>?_) fun hd=>os ⟨rfl,os ⟨⟨⟨?_,?_⟩,ho,fun i j i0 i1 j0 j1=>?_⟩,?_⟩⟩
  ·have hw:=w1 d0 hd (by omega)
   have bg:=row hd
   have lb:=Uv b b0 hb
   have la:=Uv a a0 ha
   refine ob (P:=fun g=>g=true↔(Rl t b a∧Rl t a d)) (oe (lz b0 (by omega)) (oe (cF a0 (by omega)) (oc (fun e1=>oe (lz a0 (by omega)) (oe (cF d0 (by omega)) (os ?_))) fun e1=>os ?_))) fun g hg=>oc (fun e=>oe (lz b0 (by omega)) (oe (cF d0 (by omega)) (os ⟨⟨⟨?_,?_⟩,O2 ho (l7 b0 (by omega)) _ _ _,fun i j i0 i1 j0 j1=>?_⟩,?_⟩))) fun e=>os ⟨⟨⟨?_,?_⟩,ho,fun i j i0 i1 j0 j1=>?_⟩,?_⟩
   ·have h1:Rl o b a:=by unfold Rl; simpa using e1
    rw [← W8,← bg]
    exact ⟨fun h=>⟨h1,by unfold Rl; simpa using h⟩,fun h=>by have:=h.2; unfold Rl at this; simp [this]⟩
   ·have h1 : ¬ Rl o b a:=fun h=>by unfold Rl at h; rw [h] at e1; simp at e1
    rw [← W8]
    exact ⟨fun h=>(by cases h),fun h=>absurd h.1 h1⟩
   ·dsimp only; rw [hw]; omega
   ·dsimp only; rw [hw]; omega
   ·dsimp only
    rw [hw,Lt ho b0 hb d0 hd i0 j0,hR i j i0 i1 j0 j1]
    by_cases h:i=b∧j=d
    ·obtain ⟨h5,h6⟩:=h
     have hc:b < b∨b=b∧d < d+1:=.inr ⟨rfl,by omega⟩
     rw [h5,h6,if_pos hc]
     exact ⟨fun _=>.inr (hg.1 e),fun _=>.inl ⟨rfl,rfl⟩⟩
    ·by_cases h2:i < b∨i=b∧j < d
     ·rw [if_pos h2,if_pos (by omega)]
      exact ⟨fun h3=>h3.resolve_left h,fun h3=>.inr h3⟩
     ·rw [if_neg h2,if_neg (by omega)]
      exact ⟨fun h3=>h3.resolve_left h,fun h3=>.inr h3⟩
   ·dsimp only; rw [hw]; omega
   ·dsimp only; rw [hw]; omega
   ·dsimp only; rw [hw]; omega
   ·dsimp only
    rw [hw,hR i j i0 i1 j0 j1]
    by_cases h:i=b∧j=d
    ·obtain ⟨h5,h6⟩:=h
     have hc:b < b∨b=b∧d < d+1:=.inr ⟨rfl,by omega⟩
     rw [h5,h6,if_neg (by omega),if_pos hc]
     exact ⟨fun h3=>.inl h3,fun h3=>h3.resolve_right fun h4=>by have:=hg.2 h4; rw [e] at this; cases this⟩
    ·by_cases h2:i < b∨i=b∧j < d
     ·rw [if_pos h2,if_pos (by omega)]
     ·rw [if_neg h2,if_neg (by omega)]
   ·dsimp only; rw [hw]; omega
  ·dsimp only; rw [w1 b0 hb (by omega)]; omega
  ·dsimp only; rw [w1 b0 hb (by omega)]; omega
  ·dsimp only
   rw [w1 b0 hb (by omega),hR i j i0 i1 j0 j1]
   by_cases h:i < b+1
   ·rw [if_pos (by omega),if_pos h]
   ·rw [if_neg (by omega),if_neg h]
  ·dsimp only; rw [w1 b0 hb (by omega)]; omega
 ·dsimp only; rw [w1 a0 ha (by omega)]; omega
 ·dsimp only; rw [w1 a0 ha (by omega)]; omega
 ·dsimp only
  rw [hR i i i0 i1 i0 i1,if_pos (by omega)]
  exact .inl (re i i0 i1)
 ·dsimp only at m1 h1 h2 ⊢
  rw [w1 a0 ha (by omega)] at m1
  rw [hR i m i0 i1 m0 (by omega),if_pos (by omega)] at h1
  rw [hR m j m0 (by omega) j0 j1,if_pos (by omega)] at h2
  rw [hR i j i0 i1 j0 j1,if_pos (by omega)]
  by_cases hm:m < a
  ·rcases h1 with h1 | ⟨h1,RQ⟩
   ·rcases h2 with h2 | ⟨h2,zm⟩
    ·exact .inl (tr m i j m0 hm i0 i1 j0 j1 h1 h2)
    ·exact .inr ⟨tr m i a m0 hm i0 i1 a0 ha h1 h2,zm⟩
   ·rcases h2 with h2 | ⟨h2,zm⟩
    ·exact .inr ⟨h1,tr m a j m0 hm a0 ha j0 j1 RQ h2⟩
    ·exact .inr ⟨h1,zm⟩
  ·have e:m=a:=by omega
   rw [e] at h1 h2
   have g1:Rl t i a:=h1.elim id fun h=>h.1
   have g2:Rl t a j:=h2.elim id fun h=>h.2
   exact .inr ⟨g1,g2⟩
 ·dsimp only; rw [w1 a0 ha (by omega)]; omega
theorem Cs {x:List Int} (B:zf x) {s:aK} (S:Src x s) {n:Nat} (hn:n≤4):Ok (iS s n) fun y=>(Sq n y.1∧(∀ i:Int,0≤i→i < n→Rl y.1 i i)∧∀ i j k:Int,0≤i→i < n→0≤j→j < n→0≤k→k < n→Rl y.1 i j→Rl y.1 j k→Rl y.1 i k)∧Src x y.2:=by
 unfold iS
 refine jj (ol (fun z:List (List Int)×Int×Int×Int=>(0≤z.2.1∧z.2.1≤n)∧((z.1.length:Int)=z.2.1∧(∀ y∈z.1,y.length=n)∧∀ i:Int,0≤i→i < z.2.1→Rl z.1 i i)∧0≤z.2.2.1∧z.2.2.1≤x.length) (fun z=>(n - z.2.1).toNat)
  ⟨⟨by show (0:Int)≤0; omega,by show (0:Int)≤_; omega⟩,⟨rfl,ju,fun i h0 h1=>by dsimp only at h1; omega⟩,S.a0,S.a1⟩ ?_)
 rintro ⟨l,i,a,h⟩ ⟨⟨i0,i1⟩,⟨hl,hr,Uw⟩,a0,a1⟩
 dsimp only at i0 i1 hl hr Uw a0 a1
 show Ok (kS s n l i a h) _
 unfold kS
 refine od (fun hi=>?_) fun hi=>os ⟨rfl,?_⟩
 ·have hw:=w1 i0 hi (by omega)
  refine O1 (by omega) (by omega) (by omega) (oi i0 (by rw [List.length_replicate]; omega) fun _ _=>?_)
  refine ol (fun z:Int×Int×Int×List Int=>(i < z.1∧z.1≤n)∧(0≤z.2.1∧z.2.1≤x.length)∧z.2.2.2.length=n∧gi z.2.2.2 i=1) (fun z=>(n - z.1).toNat) ⟨⟨?_,?_⟩,⟨a0,a1⟩,?_,?_⟩ ?_
  ·dsimp only; rw [hw]; omega
  ·dsimp only; rw [hw]; omega
  ·show (List.set _ _ _).length=n; rw [List.length_set,List.length_replicate]; omega
  ·dsimp only; rw [rE i0 (by rw [List.length_replicate]; omega) i0,if_pos rfl]
  rintro ⟨j,a,h,o⟩ ⟨⟨j0,j1⟩,⟨a0,a1⟩,ho,mx⟩
  dsimp only at j0 j1 a0 a1 ho mx
  show Ok (kR s n j a h o) _
  unfold kR
  refine od (fun hj=>?_) fun hj=>os ⟨rfl,?_⟩
  ·have Ux:=w1 (i:=j) (by omega) hj (by omega)
   refine ob (dn B (S.at_ a0 a1) _) fun y hy=>oi (by omega) (by omega) fun _ _=>os ⟨⟨⟨?_,?_⟩,⟨hy.2.a0,hy.2.a1⟩,?_,?_⟩,?_⟩
   ·dsimp only; rw [Ux]; omega
   ·dsimp only; rw [Ux]; omega
   ·dsimp only; rw [List.length_set]; exact ho
   ·dsimp only; rw [rE (by omega) (by omega) i0,if_neg (by omega)]; exact mx
   ·dsimp only; rw [Ux]; omega
  ·refine dw (by omega) (by omega) (os ⟨⟨⟨?_,?_⟩,⟨?_,ij hr ho,fun i' h0 h1=>?_⟩,a0,a1⟩,?_⟩)
   ·dsimp only; rw [hw]; omega
   ·dsimp only; rw [hw]; omega
   ·dsimp only; rw [hw,List.length_append,List.length_singleton]; omega
   ·dsimp only at h1 ⊢
    rw [hw] at h1
    unfold Rl
    rw [Cr h0]
    by_cases e:i' < i
    ·rw [if_pos (by omega)]; exact Uw i' h0 e
    ·rw [if_neg (by omega),if_pos (by omega),show i'=i by omega]; exact mx
   ·dsimp only; rw [hw]; omega
 ·have hq:Sq n l:=⟨by omega,hr⟩
  have Hu:∀ i:Int,0≤i→i < n→Rl l i i:=fun i h0 h1=>Uw i h0 (by omega)
  refine od (fun h1=>?_) fun h1=>?_
  ·refine ob (dn B (S.at_ a0 a1) _) fun y hy=>oc (fun _=>?_) fun _=>?_
   ·rw [dM (a:=(n:Int) - 1) (by omega) (by omega)]
    refine oe (lz (by omega) (by omega)) ?_
    have sY:=hr _ (l7 (l:=l) (j:=(n:Int) - 1) (by omega) (by omega))
    refine ob (dn B (S.on hy.2) _) fun z hz=>?_
    have BX:=hz.1.2 (by omega)
    refine oe (cF hz.1.1 (by omega)) ?_
    exact C8 hn (L2:=fun a t=>oH n a t) (L3:=fun a b t=>oG n a b t) (L4:=fun a b d t=>oF n a b d t) (fun _ _=>rfl) (fun _ _ _=>rfl) (fun _ _ _ _=>rfl) (O2 hq (l7 (l:=l) (j:=(n:Int) - 1) (by omega) (by omega)) _ _ _) (fun i h0 h1=>(Lt hq (by omega) (by omega) hz.1.1 BX h0 h0).2 (.inr (Hu i h0 h1))) fun t ht r1 r2=>os ⟨⟨ht,r1,r2⟩,S.on hz.2⟩
   ·exact C8 hn (L2:=fun a t=>oL n a t) (L3:=fun a b t=>oJ n a b t) (L4:=fun a b d t=>oI n a b d t) (fun _ _=>rfl) (fun _ _ _=>rfl) (fun _ _ _ _=>rfl) hq Hu fun t ht r1 r2=>os ⟨⟨ht,r1,r2⟩,S.on hy.2⟩
  ·exact C8 hn (L2:=fun a t=>oN n a t) (L3:=fun a b t=>oM n a b t) (L4:=fun a b d t=>nP n a b d t) (fun _ _=>rfl) (fun _ _ _=>rfl) (fun _ _ _ _=>rfl) hq Hu fun t ht r1 r2=>os ⟨⟨ht,r1,r2⟩,S.at_ a0 a1⟩
end Go.Proofs.YtjdkifckhidlbaaGreat
set_option linter.unusedVariables false
set_option linter.unusedSimpArgs false
namespace Go.Proofs.YtjdkifckhidlbaaGreat
open Go Go.Li
def dc (c d:aI):List Int:=(cj c d).aG++mf c.aA.toNat d.aA.toNat fun x _=>x
def iT (c d:aI):List Int:=(cj c d).To++mf c.aA.toNat d.aA.toNat fun _ y=>c.aA+y
def r7 (c d:aI) (f g:Int):Int:=
 if gi (iT c d) f≠gi (dc c d) g then -1 else if f < (cj c d).aG.length∧g < (cj c d).aG.length then gk (cj c d).aB f g
 else (cj c d).aG.length+gi (dc c d) f * d.aA+gi (iT c d) g - c.aA
def AB (c d:aI):aI:=
 ⟨c.aA+d.aA,dc c d,iT c d,(cj c d).aJ,dk (dc c d).length fun f=>dk (dc c d).length fun g=>r7 c d f g⟩
section
variable {c d:aI} (T:Ty c) (U:Ty d)
include T U
theorem vb:(dc c d).length=(cj c d).aG.length+c.aA.toNat * d.aA.toNat:=by
 have _:=T
 have _:=U
 unfold dc; rw [List.length_append,gv]
theorem DY:(iT c d).length=(dc c d).length:=by
 unfold iT; rw [List.length_append,gv,vb T U,(Az T U).tl]
theorem tc {f:Int} (f0:0≤f) (f1:f < (cj c d).aG.length):gi (dc c d) f=gi (cj c d).aG f:=by
 have _:=T
 have _:=U
 unfold dc; rw [oy f0,if_pos f1]
theorem td {f:Int} (f0:0≤f) (f1:f < (cj c d).aG.length):gi (iT c d) f=gi (cj c d).To f:=by
 unfold iT; rw [oy f0,if_pos (by rw [(Az T U).tl]; exact f1)]
theorem vL {x y:Int} (x0:0≤x) (x1:x < c.aA) (y0:0≤y) (y1:y < d.aA):gi (dc c d) ((cj c d).aG.length+(x * d.aA+y))=x:=by
 have _:=T
 have ht:((d.aA.toNat:Nat):Int)=d.aA:=Int.toNat_of_nonneg U.o0
 have hp:=sc x0 x1 y0 y1
 unfold dc
 rw [oy (by omega),if_neg (by omega),show ((cj c d).aG.length:Int)+(x * d.aA+y) - (cj c d).aG.length=x * d.aA+y by omega]
 have:=vJ (n:=c.aA.toNat) (m:=d.aA.toNat) (g:=fun x _=>x) x0 (by omega) y0 (by omega)
 rwa [ht] at this
theorem vM {x y:Int} (x0:0≤x) (x1:x < c.aA) (y0:0≤y) (y1:y < d.aA):gi (iT c d) ((cj c d).aG.length+(x * d.aA+y))=c.aA+y:=by
 have ht:((d.aA.toNat:Nat):Int)=d.aA:=Int.toNat_of_nonneg U.o0
 have hp:=sc x0 x1 y0 y1
 have hl:=(Az T U).tl
 unfold iT
 rw [oy (by omega),if_neg (by omega),show ((cj c d).aG.length:Int)+(x * d.aA+y) - (cj c d).To.length=x * d.aA+y by omega]
 have:=vJ (n:=c.aA.toNat) (m:=d.aA.toNat) (g:=fun _ y=>c.aA+y) x0 (by omega) y0 (by omega)
 rwa [ht] at this
theorem yc {f:Int} (f0:0≤f) (f1:f < (dc c d).length):f < (cj c d).aG.length∨∃ x y:Int,f=(cj c d).aG.length+(x * d.aA+y)∧(0≤x∧x < c.aA)∧0≤y∧y < d.aA:=by
 have hl:=vb T U
 have c0:=T.o0
 have ht:((d.aA.toNat:Nat):Int)=d.aA:=Int.toNat_of_nonneg U.o0
 by_cases h:f < (cj c d).aG.length
 ·exact .inl h
 ·obtain ⟨x,y,hx,hy,e⟩:=tb (n:=c.aA.toNat) (m:=d.aA.toNat) (k:=f - (cj c d).aG.length) (by omega) (by omega)
  rw [ht] at hy e
  exact .inr ⟨x,y,by omega,⟨hx.1,by omega⟩,hy⟩
theorem H5 {x y:Int} (x0:0≤x) (x1:x < c.aA) (y0:0≤y) (y1:y < d.aA):0≤(cj c d).aG.length+(x * d.aA+y)∧(cj c d).aG.length+(x * d.aA+y) < (dc c d).length:=by
 have hp:=sc x0 x1 y0 y1
 have hl:=vb T U
 have e:((c.aA.toNat * d.aA.toNat:Nat):Int)=c.aA * d.aA:=by
  rw [Int.natCast_mul,Int.toNat_of_nonneg T.o0,Int.toNat_of_nonneg U.o0]
 omega
theorem Lm:Ty (AB c d):=by
 have S:=Az T U
 have c0:=T.o0
 have d0:=U.o0
 have hl:=vb T U
 have tl:=DY T U
 have so:(cj c d).aA=c.aA+d.aA:=rfl
 have N1:∀ {p q:Int},0≤p→p < (dc c d).length→0≤q→q < (dc c d).length→gk (AB c d).aB p q=r7 c d p q:=fun p0 p1 q0 q1=>by
  show gi (gr (dk _ _) _) _=_
  rw [x8 p0 p1,sb q0 q1]
 have fr:∀ {p:Int},0≤p→p < (dc c d).length→0≤gi (dc c d) p∧gi (dc c d) p < c.aA+d.aA:=fun p0 p1=>by
  rcases yc T U p0 p1 with h | ⟨x,y,rfl,hx,hy⟩
  ·rw [tc T U p0 h]; exact S.fr p0 h
  ·rw [vL T U hx.1 hx.2 hy.1 hy.2]; omega
 have to:∀ {p:Int},0≤p→p < (dc c d).length→0≤gi (iT c d) p∧gi (iT c d) p < c.aA+d.aA:=fun p0 p1=>by
  rcases yc T U p0 p1 with h | ⟨x,y,rfl,hx,hy⟩
  ·rw [td T U p0 h]; exact S.to p0 h
  ·rw [vM T U hx.1 hx.2 hy.1 hy.2]; omega
 refine ⟨by show 0≤c.aA+d.aA; omega,fun y hy=>?_,tl,fun y hy=>?_,cR _ _,fun r hr=>?_,S.il,fun y hy=>?_,fun y y0 y1=>?_,fun y y0 y1=>?_,fun p q p0 p1 q0 q1 e=>?_,fun p q p0 p1 q0 q1 e=>?_,fun y y0 y1=>?_⟩
 ·obtain ⟨i,i0,i1,rfl⟩:=sA hy
  exact fr i0 i1
 ·obtain ⟨i,i0,i1,rfl⟩:=sA hy
  exact to i0 (by have i1:i < (iT c d).length:=i1; omega)
 ·obtain ⟨i,hi,rfl⟩:=ox.1 hr
  exact cR _ _
 ·have:=S.i y hy
  show 0≤y∧y < (dc c d).length
  omega
 ·have:=S.id y0 y1
  show gi (dc c d) _=y
  rw [show (AB c d).aJ=(cj c d).aJ from rfl,tc T U this.1 this.2]; exact S.vo y y0 y1
 ·have:=S.id y0 y1
  show gi (iT c d) _=y
  rw [show (AB c d).aJ=(cj c d).aJ from rfl,td T U this.1 this.2]; exact S.wA y y0 y1
 ·have p1:p < (dc c d).length:=p1
  have q1:q < (dc c d).length:=q1
  have e:gi (iT c d) p=gi (dc c d) q:=e
  rw [N1 p0 p1 q0 q1]
  unfold r7
  rw [if_neg (fun h=>h e)]
  show (_∧_ < ((dc c d).length:Int))∧gi (dc c d) _=gi (dc c d) p∧gi (iT c d) _=gi (iT c d) q
  rcases yc T U p0 p1 with hp | ⟨x,y,rfl,hx,hy⟩
  ·rcases yc T U q0 q1 with hq | ⟨x',y',rfl,xa,sy⟩
   ·rw [if_pos ⟨hp,hq⟩]
    rw [td T U p0 hp,tc T U q0 hq] at e
    have:=S.cell p q p0 hp q0 hq e
    rw [tc T U this.1.1 this.1.2,td T U this.1.1 this.1.2,tc T U p0 hp,td T U q0 hq]
    exact ⟨⟨this.1.1,by omega⟩,this.2.1,this.2.2⟩
   ·rw [td T U p0 hp,vL T U xa.1 xa.2 sy.1 sy.2] at e
    have qg:=sc xa.1 xa.2 sy.1 sy.2
    rw [if_neg (by omega),tc T U p0 hp,vM T U xa.1 xa.2 sy.1 sy.2]
    rcases va T U p0 hp with wQ | ⟨r,rfl,r0,r1⟩
    ·have h1:=T.fr p0 wQ
     rw [u7 T U p0 wQ]
     have hi:=H5 T U h1.1 h1.2 sy.1 sy.2
     rw [show ((cj c d).aG.length:Int)+gi c.aG p * d.aA+(c.aA+y') - c.aA=(cj c d).aG.length+(gi c.aG p * d.aA+y') by omega,vL T U h1.1 h1.2 sy.1 sy.2,vM T U h1.1 h1.2 sy.1 sy.2]
     exact ⟨hi,rfl,rfl⟩
    ·rw [u9 T U r0 r1] at e
     have:=U.to r0 r1
     omega
  ·rcases yc T U q0 q1 with hq | ⟨x',y',rfl,xa,sy⟩
   ·rw [vM T U hx.1 hx.2 hy.1 hy.2,tc T U q0 hq] at e
    have hp:=sc hx.1 hx.2 hy.1 hy.2
    rw [if_neg (by omega),vL T U hx.1 hx.2 hy.1 hy.2,td T U q0 hq]
    rcases va T U q0 hq with W9 | ⟨r,rfl,r0,r1⟩
    ·rw [u7 T U q0 W9] at e
     have:=T.fr q0 W9
     omega
    ·have h1:=U.to r0 r1
     rw [u9 T U r0 r1]
     have hi:=H5 T U hx.1 hx.2 h1.1 h1.2
     rw [show ((cj c d).aG.length:Int)+x * d.aA+(gi d.To r+c.aA) - c.aA=(cj c d).aG.length+(x * d.aA+gi d.To r) by omega,vL T U hx.1 hx.2 h1.1 h1.2,vM T U hx.1 hx.2 h1.1 h1.2]
     exact ⟨hi,rfl,by omega⟩
   ·rw [vM T U hx.1 hx.2 hy.1 hy.2,vL T U xa.1 xa.2 sy.1 sy.2] at e
    omega
 ·rw [N1 p0 p1 q0 q1]
  unfold r7
  rw [if_pos (show gi (iT c d) p≠gi (dc c d) q from e)]
 ·have k:=S.id (x:=y) y0 y1
  show gk (AB c d).aB (gi (cj c d).aJ y) (gi (cj c d).aJ y)=gi (cj c d).aJ y
  have bh:gi (cj c d).aJ y < (dc c d).length:=by rw [hl]; omega
  rw [N1 k.1 bh k.1 bh]
  unfold r7
  rw [if_neg (by rw [td T U k.1 k.2,tc T U k.1 k.2,S.wA y y0 y1,S.vo y y0 y1]; simp),if_pos ⟨k.2,k.2⟩]
  exact S.uu y y0 y1
theorem NS {a b a' b':Nat} (C:jk a b c) (D:jk a' b' d) (ha:a+a'≤100) (hb:b+b'≤100):gX c d=some (AB c d):=by
 have S:=Az T U
 have c0:=T.o0
 have d0:=U.o0
 have co:=C.o
 have dO:=D.o
 have cm:=C.m
 have dm:=D.m
 have sl:=C5 T U
 have VW:=S.tl
 obtain ⟨nc,AE⟩ : ∃ n:Nat,c.aA=n:=⟨c.aA.toNat,by omega⟩
 obtain ⟨nd,dp⟩ : ∃ n:Nat,d.aA=n:=⟨d.aA.toNat,by omega⟩
 have hmul:nc * nd≤100 * 100:=Nat.mul_le_mul (by omega) (by omega)
 have jl:=vb T U
 have jt:=DY T U
 rw [AE,dp,Int.toNat_natCast,Int.toNat_natCast] at jl
 unfold gX
 rw [HZ C D T U (by omega) (by omega),aF]
 refine (congrArg ao (xc (β:=Int×Int) nc nd (fun x y=>(x,c.aA+y)) [] (fun acc i=>((i:Int),(cj c d).aG++acc.map (·.1),(cj c d).To++acc.map (·.2))) ?_ ?_ ?_)).trans ?_
 ·show ((0:Int),_++[],_++[])=_; rw [List.append_nil,List.append_nil]
 ·intro i acc hi hl
  simp only [List.length_nil,Nat.zero_add] at hl
  have hm:i * nd≤100 * 100:=Nat.mul_le_mul (by omega) (by omega)
  show fV c d (i:Int) _ _=_
  unfold fV
  rw [aX (by omega:(i:Int) < c.aA),cond_true]
  refine (sP (β:=Int×Int) nd (fun y=>((i:Int),c.aA+y)) acc (fun acc j=>((j:Int),(cj c d).aG++acc.map (·.1),(cj c d).To++acc.map (·.2))) rfl ?_ ?_).trans ?_
  ·intro j sQ hj BO
   show fU c d (i:Int) (j:Int) _ _=_
   unfold fU
   rw [aX (by omega:(j:Int) < d.aA),cond_true,dQ (by rw [List.length_append,List.length_map]; omega) (by rw [List.length_append,List.length_map]; omega),aF,dQ (by rw [List.length_append,List.length_map]; omega) (by rw [List.length_append,List.length_map]; omega),aF,cH (by omega),dM (by omega) (by omega)]
   simp only [List.map_append,List.map_cons,List.map_nil,List.append_assoc]
  ·intro sQ _
   show fU c d (i:Int) _ _ _=_
   unfold fU
   rw [bj (by omega),cond_false]
  ·dsimp only
   rw [cH (by omega)]
 ·intro acc _
  show fV c d _ _ _=_
  unfold fV
  rw [bj (by omega),cond_false]
 dsimp only
 rw [List.nil_append,wF,wF]
 have eF:(cj c d).aG++mf nc nd (fun a b=>((a:Int),c.aA+b).1)=dc c d:=by unfold dc; rw [AE,dp]; rfl
 have eT:(cj c d).To++mf nc nd (fun a b=>((a:Int),c.aA+b).2)=iT c d:=by unfold iT; rw [AE,dp]; rfl
 rw [eF,eT]
 refine (congrArg ao (ux (dc c d).length (fun f=>dk (dc c d).length fun g=>r7 c d f g) (fun acc i=>(acc,(i:Int))) rfl ?_ ?_)).trans ?_
 ·intro i acc hi hl
  show fX c d (cj c d) (dc c d) (iT c d) acc (i:Int)=_
  unfold fX
  rw [aX (by omega:(i:Int) < ((dc c d).length:Int)),cond_true]
  refine (ux (dc c d).length (fun g=>r7 c d i g) (fun acc j=>(acc,(j:Int))) rfl ?_ ?_).trans ?_
  ·intro j r hj hr
   have i0:(0:Int)≤i:=by omega
   have i1:(i:Int) < (dc c d).length:=by omega
   have j0:(0:Int)≤j:=by omega
   have j1:(j:Int) < (dc c d).length:=by omega
   have J:=Lm T U
   have bf:0≤gi (dc c d) i∧gi (dc c d) i < c.aA+d.aA:=J.fr i0 i1
   have bt:0≤gi (iT c d) j∧gi (iT c d) j < c.aA+d.aA:=J.to j0 j1
   have hm:0≤gi (dc c d) i * d.aA∧gi (dc c d) i * d.aA≤100 * 100:=Gx bf.1 (by omega) d0 (by omega)
   show fW c d (cj c d) (dc c d) (iT c d) (i:Int) r (j:Int)=_
   unfold fW r7
   rw [aX j1,cond_true,cF i0 (by omega),aF,cF j0 j1,aF]
   by_cases e:gi (iT c d) i=gi (dc c d) j
   ·rw [ou e,cond_false,if_neg (fun h=>h e)]
    have tail:∀ v:Int,v=(cj c d).aG.length+gi (dc c d) i * d.aA+gi (iT c d) j - c.aA→(idx (dc c d) (i:Int)>>=fun MW=>(idx (iT c d) (j:Int))>>=fun MX=>(fits 8 (r.length+1))>>=fun _=>some (Out.norm (r++[an (an (an (((cj c d).aG.length:Int)+an (MW * d.aA))+MX) - c.aA)],an ((j:Int)+1)):Out (List Int×Int) aI))=some (.norm (r++[v],((j+1:Nat):Int))):=by
     intro v hv
     rw [cF i0 i1,aF,cF j0 (by omega),aF,dQ (by omega) (by omega),aF,cH (by omega),dM (a:=gi (dc c d) i * d.aA) (by omega) (by omega),dM (a:=((cj c d).aG.length:Int)+gi (dc c d) i * d.aA) (by omega) (by omega),dM (a:=((cj c d).aG.length:Int)+gi (dc c d) i * d.aA+gi (iT c d) j) (by omega) (by omega),dM (by omega) (by omega),hv]
    by_cases h1:(i:Int) < (cj c d).aG.length
    ·rw [aX h1,cond_true,aF]
     by_cases h2:(j:Int) < (cj c d).aG.length
     ·rw [aX h2,cond_true,S.me i0 h1,aF,S.l3 i0 h1 j0 h2,aF,dQ (by omega) (by omega),aF,cH (by omega),if_pos ⟨h1,h2⟩]
     ·rw [bj h2,cond_false,if_neg (fun h=>h2 h.2)]
      exact tail _ rfl
    ·rw [bj h1,cond_false,aF,cond_false,if_neg (fun h=>h1 h.1)]
     exact tail _ rfl
   ·rw [p8 e,cond_true,dQ (by omega) (by omega),aF,cH (by omega),if_pos e]
  ·intro r _
   show fW c d (cj c d) (dc c d) (iT c d) (i:Int) r _=_
   unfold fW
   rw [bj (by omega),cond_false]
  ·dsimp only
   rw [dQ (by omega) (by omega),aF,cH (by omega)]
 ·intro acc _
  show fX c d (cj c d) (dc c d) (iT c d) acc _=_
  unfold fX
  rw [bj (by omega),cond_false]
 ·rfl
end
end Go.Proofs.YtjdkifckhidlbaaGreat
