/- Relations that are drawn are reflexive and transitive. No condition beside those that each theorem names. -/
import Derived.Test.YtgjbmjjihmfppaaGreatYt
set_option linter.unusedVariables false
set_option linter.unusedSimpArgs false
namespace Go.Proofs.YtgjbmjjihmfppaaGreat
open Go Go.Li
def Rl (l:List (List Int)) (i j:Int):Prop:=gi (gr l i) j=1
theorem Oa {n:Nat} {l:List (List Int)} (h:Sq n l) {i j:Int} (i0:0≤i) (i1:i < n) (j0:0≤j) (j1:j < n) {i' j':Int} (a0:0≤i') (b0:0≤j'):Rl (l.set i.toNat ((gr l i).set j.toNat 1)) i' j'↔(i'=i∧j'=j)∨Rl l i' j':=by
 have hl:=h.len
 have hr:=h.row _ (qh (l:=l) i0 (by omega))
 have key:gr (l.set i.toNat ((gr l i).set j.toNat 1)) i'=if i'=i then (gr l i).set j.toNat 1 else gr l i':=by
  have:=WI (cl:=l) (y:=i.toNat) (q:=(gr l i).set j.toNat 1) i'.toNat
  rw [show ((i'.toNat:Nat):Int)=i' by omega] at this
  rw [this]
  by_cases e:i'=i
  ·rw [if_pos (by omega),if_pos e]
  ·rw [if_neg (by omega),if_neg e]
 unfold Rl
 rw [key]
 by_cases e:i'=i
 ·rw [if_pos e,n8 j0 (by omega) b0,e]
  by_cases e2:j'=j
  ·rw [if_pos e2]; exact ⟨fun _=>.inl ⟨rfl,e2⟩,fun _=>rfl⟩
  ·rw [if_neg e2]; exact ⟨fun h=>.inr h,fun h=>h.resolve_left fun h=>e2 h.2⟩
 ·rw [if_neg e]; exact ⟨fun h=>.inr h,fun h=>h.resolve_left fun h=>e h.1⟩
def Ad (l:List (List Int)) (k i j:Int):Prop:=Rl l i j∨Rl l i k∧Rl l k j
theorem EY {R S:Type} {n:Nat} (hn:n≤4) {k k3 k4:Nat} {f:Int×List (List Int)→Option (Out S R)} {Q:Out S R→Prop} {L2:Int→List (List Int)→Option (Out (Int×List (List Int)) R)} {L3:Int→Int→List (List Int)→Option (Out (Int×List (List Int)) R)} {L4:Int→Int→Int→List (List Int)→Option (Out (Int×List (List Int)) R)}
  (e2:∀ a t,L2 a t=bif decide (a < (n:Int)) then (ag (ae k3 (ai (fun s:Int×List (List Int)=>L3 a s.1 s.2) ((0:Int),t))) fun s=>some (.norm (aj (a+1),s.2))) else some (.exit k (a,t)))
  (e3:∀ a b t,L3 a b t=bif decide (b < (n:Int)) then (ag (ae k4 (ai (fun s:Int×List (List Int)=>L4 a b s.1 s.2) ((0:Int),t))) fun s=>some (.norm (aj (b+1),s.2))) else some (.exit k3 (b,t)))
  (e4:∀ a b d t,L4 a b d t=bif decide (d < (n:Int)) then ((idx t b>>=fun e=>(idx e a>>=fun e'=>(bif e' == (1:Int) then (idx t a>>=fun e2=>(idx e2 d>>=fun WH=>some (WH == (1:Int)))) else some false)))>>=fun g=>(bif g then (idx t b>>=fun e=>(idx e d>>=fun _=>some (.norm (aj (d+1),t.set b.toNat (e.set d.toNat 1))))) else some (.norm (aj (d+1),t)))) else some (.exit k4 (d,t)))
  {t:List (List Int)} (ht:Sq n t) (re:∀ i:Int,0≤i→i < n→Rl t i i)
  (hf:∀ s:Int×List (List Int),Sq n s.2→(∀ i:Int,0≤i→i < n→Rl s.2 i i)→(∀ i j k:Int,0≤i→i < n→0≤j→j < n→0≤k→k < n→Rl s.2 i j→Rl s.2 j k→Rl s.2 i k)→Ok (f s) Q):Ok (ag (ae k (ai (fun s=>L2 s.1 s.2) ((0:Int),t))) f) Q:=by
 refine ol (fun s:Int×List (List Int)=>(0≤s.1∧s.1≤n)∧Sq n s.2∧(∀ i:Int,0≤i→i < n→Rl s.2 i i)∧∀ m i j:Int,0≤m→m < s.1→0≤i→i < n→0≤j→j < n→Rl s.2 i m→Rl s.2 m j→Rl s.2 i j) (fun s=>(n - s.1).toNat) ⟨⟨by show (0:Int)≤0; omega,by show (0:Int)≤_; omega⟩,ht,re,fun m i j m0 m1=>by dsimp only at m1; omega⟩ ?_
 rintro ⟨a,t⟩ ⟨⟨a0,a1⟩,ht,re,tr⟩
 dsimp only at a0 a1 ht re tr
 show Ok (L2 a t) _
 rw [e2]
 refine od (fun ha=>?_) fun ha=>os ⟨rfl,hf _ ht re fun i j m i0 i1 j0 j1 m0 m1 h1 h2=>tr j i m j0 (by omega) i0 i1 m0 m1 h1 h2⟩
 refine ol (fun s:Int×List (List Int)=>(0≤s.1∧s.1≤n)∧Sq n s.2∧∀ i j:Int,0≤i→i < n→0≤j→j < n→(Rl s.2 i j↔if i < s.1 then Ad t a i j else Rl t i j)) (fun s=>(n - s.1).toNat) ⟨⟨by show (0:Int)≤0; omega,by show (0:Int)≤_; omega⟩,ht,fun i j i0 _ _ _=>by rw [if_neg (by dsimp only; omega)]⟩ ?_
 rintro ⟨b,o⟩ ⟨⟨b0,b1⟩,ho,hR⟩
 dsimp only at b0 b1 ho hR
 show Ok (L3 a b o) _
 rw [e3]
 refine od (fun hb=>?_) fun hb=>os ⟨rfl,os ⟨⟨⟨?_,?_⟩,ho,fun i i0 i1=>?_,fun m i j m0 m1 i0 i1 j0 j1 h1 h2=>?_⟩,?_⟩⟩
 ·refine ol (fun s:Int×List (List Int)=>(0≤s.1∧s.1≤n)∧Sq n s.2∧∀ i j:Int,0≤i→i < n→0≤j→j < n→(Rl s.2 i j↔if i < b∨i=b∧j < s.1 then Ad t a i j else Rl t i j)) (fun s=>(n - s.1).toNat) ⟨⟨by show (0:Int)≤0; omega,by show (0:Int)≤_; omega⟩,ho,fun i j i0 i1 j0 j1=>by
   rw [hR i j i0 i1 j0 j1]
   by_cases e:i < b
   ·rw [if_pos e,if_pos (.inl e)]
   ·rw [if_neg e,if_neg (by dsimp only; omega)]⟩ ?_
  rintro ⟨d,o⟩ ⟨⟨d0,d1⟩,ho,hR⟩
  dsimp only at d0 d1 ho hR
  have hl:=ho.len
  have Xp:∀ i:Int,0≤i→i < n→(gr o i).length=n:=fun i i0 i1=>ho.row _ (qh i0 (by omega))
  show Ok (L4 a b d o) _
  rw [e4]
  have ZM:Rl o b a↔Rl t b a:=by
   rw [hR b a b0 hb a0 ha]
   split
   ·exact ⟨fun h=>h.elim id fun h=>h.1,fun h=>.inl h⟩
   ·exact Iff.rfl
  have row:d < n→(Rl o a d↔Rl t a d):=fun hd=>by
   rw [hR a d a0 ha d0 hd]
   split
   ·exact ⟨fun h=>h.elim id fun h=>h.2,fun h=>.inl h⟩
   ·exact Iff.rfl
  refine od (fun hd=>?_) fun hd=>os ⟨rfl,os ⟨⟨⟨?_,?_⟩,ho,fun i j i0 i1 j0 j1=>?_⟩,?_⟩⟩
  ·have hw:=w1 d0 hd (by omega)
   have bh:=row hd
   have lb:=Xp b b0 hb
   have la:=Xp a a0 ha
   refine ob (P:=fun g=>g=true↔(Rl t b a∧Rl t a d)) (oe (rq b0 (by omega)) (oe (cB a0 (by omega)) (oc (fun e1=>oe (rq a0 (by omega)) (oe (cB d0 (by omega)) (os ?_))) fun e1=>os ?_))) fun g hg=>oc (fun e=>oe (rq b0 (by omega)) (oe (cB d0 (by omega)) (os ⟨⟨⟨?_,?_⟩,RI ho (qh b0 (by omega)) _ _ _,fun i j i0 i1 j0 j1=>?_⟩,?_⟩))) fun e=>os ⟨⟨⟨?_,?_⟩,ho,fun i j i0 i1 j0 j1=>?_⟩,?_⟩
   ·have h1:Rl o b a:=by unfold Rl; simpa using e1
    rw [← ZM,← bh]
    exact ⟨fun h=>⟨h1,by unfold Rl; simpa using h⟩,fun h=>by have:=h.2; unfold Rl at this; simp [this]⟩
   ·have h1 : ¬ Rl o b a:=fun h=>by unfold Rl at h; rw [h] at e1; simp at e1
    rw [← ZM]
    exact ⟨fun h=>(by cases h),fun h=>absurd h.1 h1⟩
   ·dsimp only; rw [hw]; omega
   ·dsimp only; rw [hw]; omega
   ·dsimp only
    rw [hw,Oa ho b0 hb d0 hd i0 j0,hR i j i0 i1 j0 j1]
    by_cases h:i=b∧j=d
    ·obtain ⟨h5,h6⟩:=h
     have hc:b < b∨b=b∧d < d+1:=.inr ⟨rfl,by omega⟩
     rw [h5,h6,if_pos hc]
     exact ⟨fun _=>.inr (hg.1 e),fun _=>.inl ⟨rfl,rfl⟩⟩
    ·by_cases h2:i < b∨i=b∧j < d
     ·rw [if_pos h2,if_pos (by omega)]
      exact ⟨fun h3=>h3.resolve_left h,fun h3=>.inr h3⟩
     ·rw [if_neg h2,if_neg (by omega)]
      exact ⟨fun h3=>h3.resolve_left h,fun h3=>.inr h3⟩
   ·dsimp only; rw [hw]; omega
   ·dsimp only; rw [hw]; omega
   ·dsimp only; rw [hw]; omega
   ·dsimp only
    rw [hw,hR i j i0 i1 j0 j1]
    by_cases h:i=b∧j=d
    ·obtain ⟨h5,h6⟩:=h
     have hc:b < b∨b=b∧d < d+1:=.inr ⟨rfl,by omega⟩
     rw [h5,h6,if_neg (by omega),if_pos hc]
     exact ⟨fun h3=>.inl h3,fun h3=>h3.resolve_right fun h4=>by have:=hg.2 h4; rw [e] at this; cases this⟩
    ·by_cases h2:i < b∨i=b∧j < d
     ·rw [if_pos h2,if_pos (by omega)]
     ·rw [if_neg h2,if_neg (by omega)]
   ·dsimp only; rw [hw]; omega
  ·dsimp only; rw [w1 b0 hb (by omega)]; omega
  ·dsimp only; rw [w1 b0 hb (by omega)]; omega
  ·dsimp only
   rw [w1 b0 hb (by omega),hR i j i0 i1 j0 j1]
   by_cases h:i < b+1
   ·rw [if_pos (by omega),if_pos h]
   ·rw [if_neg (by omega),if_neg h]
  ·dsimp only; rw [w1 b0 hb (by omega)]; omega
 ·dsimp only; rw [w1 a0 ha (by omega)]; omega
 ·dsimp only; rw [w1 a0 ha (by omega)]; omega
 ·dsimp only
  rw [hR i i i0 i1 i0 i1,if_pos (by omega)]
  exact .inl (re i i0 i1)
 ·dsimp only at m1 h1 h2 ⊢
  rw [w1 a0 ha (by omega)] at m1
  rw [hR i m i0 i1 m0 (by omega),if_pos (by omega)] at h1
  rw [hR m j m0 (by omega) j0 j1,if_pos (by omega)] at h2
  rw [hR i j i0 i1 j0 j1,if_pos (by omega)]
  by_cases hm:m < a
  ·rcases h1 with h1 | ⟨h1,h1'⟩
   ·rcases h2 with h2 | ⟨h2,Du⟩
    ·exact .inl (tr m i j m0 hm i0 i1 j0 j1 h1 h2)
    ·exact .inr ⟨tr m i a m0 hm i0 i1 a0 ha h1 h2,Du⟩
   ·rcases h2 with h2 | ⟨h2,Du⟩
    ·exact .inr ⟨h1,tr m a j m0 hm a0 ha j0 j1 h1' h2⟩
    ·exact .inr ⟨h1,Du⟩
  ·have e:m=a:=by omega
   rw [e] at h1 h2
   have g1:Rl t i a:=h1.elim id fun h=>h.1
   have g2:Rl t a j:=h2.elim id fun h=>h.2
   exact .inr ⟨g1,g2⟩
 ·dsimp only; rw [w1 a0 ha (by omega)]; omega
theorem Ed {x:List Int} (B:zw x) {s:aK} (S:Src x s) {n:Nat} (hn:n≤4):Ok (iM s n) fun y=>(Sq n y.1∧(∀ i:Int,0≤i→i < n→Rl y.1 i i)∧∀ i j k:Int,0≤i→i < n→0≤j→j < n→0≤k→k < n→Rl y.1 i j→Rl y.1 j k→Rl y.1 i k)∧Src x y.2:=by
 unfold iM
 refine jk (ol (fun z:List (List Int)×Int×Int×Int=>(0≤z.2.1∧z.2.1≤n)∧((z.1.length:Int)=z.2.1∧(∀ y∈z.1,y.length=n)∧∀ i:Int,0≤i→i < z.2.1→Rl z.1 i i)∧0≤z.2.2.1∧z.2.2.1≤x.length) (fun z=>(n - z.2.1).toNat)
  ⟨⟨by show (0:Int)≤0; omega,by show (0:Int)≤_; omega⟩,⟨rfl,j6,fun i h0 h1=>by dsimp only at h1; omega⟩,S.a0,S.a1⟩ ?_)
 rintro ⟨l,i,a,h⟩ ⟨⟨i0,i1⟩,⟨hl,hr,Xq⟩,a0,a1⟩
 dsimp only at i0 i1 hl hr Xq a0 a1
 show Ok (lE s n l i a h) _
 unfold lE
 refine od (fun hi=>?_) fun hi=>os ⟨rfl,?_⟩
 ·have hw:=w1 i0 hi (by omega)
  refine RH (by omega) (by omega) (by omega) (oi i0 (by rw [List.length_replicate]; omega) fun _ _=>?_)
  refine ol (fun z:Int×Int×Int×List Int=>(i < z.1∧z.1≤n)∧(0≤z.2.1∧z.2.1≤x.length)∧z.2.2.2.length=n∧gi z.2.2.2 i=1) (fun z=>(n - z.1).toNat) ⟨⟨?_,?_⟩,⟨a0,a1⟩,?_,?_⟩ ?_
  ·dsimp only; rw [hw]; omega
  ·dsimp only; rw [hw]; omega
  ·show (List.set _ _ _).length=n; rw [List.length_set,List.length_replicate]; omega
  ·dsimp only; rw [n8 i0 (by rw [List.length_replicate]; omega) i0,if_pos rfl]
  rintro ⟨j,a,h,o⟩ ⟨⟨j0,j1⟩,⟨a0,a1⟩,ho,nb⟩
  dsimp only at j0 j1 a0 a1 ho nb
  show Ok (lD s n j a h o) _
  unfold lD
  refine od (fun hj=>?_) fun hj=>os ⟨rfl,?_⟩
  ·have Xr:=w1 (i:=j) (by omega) hj (by omega)
   refine ob (ed B (S.at_ a0 a1) _) fun y hy=>oi (by omega) (by omega) fun _ _=>os ⟨⟨⟨?_,?_⟩,⟨hy.2.a0,hy.2.a1⟩,?_,?_⟩,?_⟩
   ·dsimp only; rw [Xr]; omega
   ·dsimp only; rw [Xr]; omega
   ·dsimp only; rw [List.length_set]; exact ho
   ·dsimp only; rw [n8 (by omega) (by omega) i0,if_neg (by omega)]; exact nb
   ·dsimp only; rw [Xr]; omega
  ·refine fg (by omega) (by omega) (os ⟨⟨⟨?_,?_⟩,⟨?_,jb hr ho,fun i' h0 h1=>?_⟩,a0,a1⟩,?_⟩)
   ·dsimp only; rw [hw]; omega
   ·dsimp only; rw [hw]; omega
   ·dsimp only; rw [hw,List.length_append,List.length_singleton]; omega
   ·dsimp only at h1 ⊢
    rw [hw] at h1
    unfold Rl
    rw [Ec h0]
    by_cases e:i' < i
    ·rw [if_pos (by omega)]; exact Xq i' h0 e
    ·rw [if_neg (by omega),if_pos (by omega),show i'=i by omega]; exact nb
   ·dsimp only; rw [hw]; omega
 ·have hq:Sq n l:=⟨by omega,hr⟩
  have Cz:∀ i:Int,0≤i→i < n→Rl l i i:=fun i h0 h1=>Xq i h0 (by omega)
  refine od (fun h1=>?_) fun h1=>?_
  ·refine ob (ed B (S.at_ a0 a1) _) fun y hy=>oc (fun _=>?_) fun _=>?_
   ·rw [dK (a:=(n:Int) - 1) (by omega) (by omega)]
    refine oe (rq (by omega) (by omega)) ?_
    have ud:=hr _ (qh (l:=l) (j:=(n:Int) - 1) (by omega) (by omega))
    refine ob (ed B (S.on hy.2) _) fun z hz=>?_
    have DH:=hz.1.2 (by omega)
    refine oe (cB hz.1.1 (by omega)) ?_
    exact EY hn (L2:=fun a t=>pP n a t) (L3:=fun a b t=>pO n a b t) (L4:=fun a b d t=>pN n a b d t) (fun _ _=>rfl) (fun _ _ _=>rfl) (fun _ _ _ _=>rfl) (RI hq (qh (l:=l) (j:=(n:Int) - 1) (by omega) (by omega)) _ _ _) (fun i h0 h1=>(Oa hq (by omega) (by omega) hz.1.1 DH h0 h0).2 (.inr (Cz i h0 h1))) fun t ht r1 r2=>os ⟨⟨ht,r1,r2⟩,S.on hz.2⟩
   ·exact EY hn (L2:=fun a t=>pS n a t) (L3:=fun a b t=>pR n a b t) (L4:=fun a b d t=>pQ n a b d t) (fun _ _=>rfl) (fun _ _ _=>rfl) (fun _ _ _ _=>rfl) hq Cz fun t ht r1 r2=>os ⟨⟨ht,r1,r2⟩,S.on hy.2⟩
  ·exact EY hn (L2:=fun a t=>pU n a t) (L3:=fun a b t=>pT n a b t) (L4:=fun a b d t=>oN n a b d t) (fun _ _=>rfl) (fun _ _ _=>rfl) (fun _ _ _ _=>rfl) hq Cz fun t ht r1 r2=>os ⟨⟨ht,r1,r2⟩,S.at_ a0 a1⟩
end Go.Proofs.YtgjbmjjihmfppaaGreat
set_option linter.unusedVariables false
set_option linter.unusedSimpArgs false
namespace Go.Proofs.YtgjbmjjihmfppaaGreat
open Go Go.Li
def di (c d:aI):List Int:=(dg c d).aF++ml c.aA.toNat d.aA.toNat fun x _=>x
def jo (c d:aI):List Int:=(dg c d).To++ml c.aA.toNat d.aA.toNat fun _ y=>c.aA+y
def tb (c d:aI) (f g:Int):Int:=
 if gi (jo c d) f≠gi (di c d) g then -1 else if f < (dg c d).aF.length∧g < (dg c d).aF.length then gk (dg c d).aD f g
 else (dg c d).aF.length+gi (di c d) f * d.aA+gi (jo c d) g - c.aA
def Cs (c d:aI):aI:=
 ⟨c.aA+d.aA,di c d,jo c d,(dg c d).aJ,er (di c d).length fun f=>er (di c d).length fun g=>tb c d f g⟩
section
variable {c d:aI} (T:Ty c) (U:Ty d)
include T U
theorem wi:(di c d).length=(dg c d).aF.length+c.aA.toNat * d.aA.toNat:=by
 have _:=T
 have _:=U
 unfold di; rw [List.length_append,gv]
theorem F7:(jo c d).length=(di c d).length:=by
 unfold jo; rw [List.length_append,gv,wi T U,(Cq T U).tl]
theorem ur {f:Int} (f0:0≤f) (f1:f < (dg c d).aF.length):gi (di c d) f=gi (dg c d).aF f:=by
 have _:=T
 have _:=U
 unfold di; rw [o5 f0,if_pos f1]
theorem uw {f:Int} (f0:0≤f) (f1:f < (dg c d).aF.length):gi (jo c d) f=gi (dg c d).To f:=by
 unfold jo; rw [o5 f0,if_pos (by rw [(Cq T U).tl]; exact f1)]
theorem w7 {x y:Int} (x0:0≤x) (x1:x < c.aA) (y0:0≤y) (y1:y < d.aA):gi (di c d) ((dg c d).aF.length+(x * d.aA+y))=x:=by
 have _:=T
 have ht:((d.aA.toNat:Nat):Int)=d.aA:=Int.toNat_of_nonneg U.o0
 have hp:=tk x0 x1 y0 y1
 unfold di
 rw [o5 (by omega),if_neg (by omega),show ((dg c d).aF.length:Int)+(x * d.aA+y) - (dg c d).aF.length=x * d.aA+y by omega]
 have:=w6 (n:=c.aA.toNat) (m:=d.aA.toNat) (g:=fun x _=>x) x0 (by omega) y0 (by omega)
 rwa [ht] at this
theorem w8 {x y:Int} (x0:0≤x) (x1:x < c.aA) (y0:0≤y) (y1:y < d.aA):gi (jo c d) ((dg c d).aF.length+(x * d.aA+y))=c.aA+y:=by
 have ht:((d.aA.toNat:Nat):Int)=d.aA:=Int.toNat_of_nonneg U.o0
 have hp:=tk x0 x1 y0 y1
 have hl:=(Cq T U).tl
 unfold jo
 rw [o5 (by omega),if_neg (by omega),show ((dg c d).aF.length:Int)+(x * d.aA+y) - (dg c d).To.length=x * d.aA+y by omega]
 have:=w6 (n:=c.aA.toNat) (m:=d.aA.toNat) (g:=fun _ y=>c.aA+y) x0 (by omega) y0 (by omega)
 rwa [ht] at this
theorem zH {f:Int} (f0:0≤f) (f1:f < (di c d).length):f < (dg c d).aF.length∨∃ x y:Int,f=(dg c d).aF.length+(x * d.aA+y)∧(0≤x∧x < c.aA)∧0≤y∧y < d.aA:=by
 have hl:=wi T U
 have c0:=T.o0
 have ht:((d.aA.toNat:Nat):Int)=d.aA:=Int.toNat_of_nonneg U.o0
 by_cases h:f < (dg c d).aF.length
 ·exact .inl h
 ·obtain ⟨x,y,hx,hy,e⟩:=uq (n:=c.aA.toNat) (m:=d.aA.toNat) (k:=f - (dg c d).aF.length) (by omega) (by omega)
  rw [ht] at hy e
  exact .inr ⟨x,y,by omega,⟨hx.1,by omega⟩,hy⟩
theorem Km {x y:Int} (x0:0≤x) (x1:x < c.aA) (y0:0≤y) (y1:y < d.aA):0≤(dg c d).aF.length+(x * d.aA+y)∧(dg c d).aF.length+(x * d.aA+y) < (di c d).length:=by
 have hp:=tk x0 x1 y0 y1
 have hl:=wi T U
 have e:((c.aA.toNat * d.aA.toNat:Nat):Int)=c.aA * d.aA:=by
  rw [Int.natCast_mul,Int.toNat_of_nonneg T.o0,Int.toNat_of_nonneg U.o0]
 omega
theorem N4:Ty (Cs c d):=by
 have S:=Cq T U
 have c0:=T.o0
 have d0:=U.o0
 have hl:=wi T U
 have tl:=F7 T U
 have so:(dg c d).aA=c.aA+d.aA:=rfl
 have QD:∀ {p q:Int},0≤p→p < (di c d).length→0≤q→q < (di c d).length→gk (Cs c d).aD p q=tb c d p q:=fun p0 p1 q0 q1=>by
  show gi (gr (er _ _) _) _=_
  rw [zD p0 p1,um q0 q1]
 have fr:∀ {p:Int},0≤p→p < (di c d).length→0≤gi (di c d) p∧gi (di c d) p < c.aA+d.aA:=fun p0 p1=>by
  rcases zH T U p0 p1 with h | ⟨x,y,rfl,hx,hy⟩
  ·rw [ur T U p0 h]; exact S.fr p0 h
  ·rw [w7 T U hx.1 hx.2 hy.1 hy.2]; omega
 have to:∀ {p:Int},0≤p→p < (di c d).length→0≤gi (jo c d) p∧gi (jo c d) p < c.aA+d.aA:=fun p0 p1=>by
  rcases zH T U p0 p1 with h | ⟨x,y,rfl,hx,hy⟩
  ·rw [uw T U p0 h]; exact S.to p0 h
  ·rw [w8 T U hx.1 hx.2 hy.1 hy.2]; omega
 refine ⟨by show 0≤c.aA+d.aA; omega,fun y hy=>?_,tl,fun y hy=>?_,cO _ _,fun r hr=>?_,S.il,fun y hy=>?_,fun y y0 y1=>?_,fun y y0 y1=>?_,fun p q p0 p1 q0 q1 e=>?_,fun p q p0 p1 q0 q1 e=>?_,fun y y0 y1=>?_⟩
 ·obtain ⟨i,i0,i1,rfl⟩:=BV hy
  exact fr i0 i1
 ·obtain ⟨i,i0,i1,rfl⟩:=BV hy
  exact to i0 (by have i1:i < (jo c d).length:=i1; omega)
 ·obtain ⟨i,hi,rfl⟩:=o4.1 hr
  exact cO _ _
 ·have:=S.i y hy
  show 0≤y∧y < (di c d).length
  omega
 ·have:=S.id y0 y1
  show gi (di c d) _=y
  rw [show (Cs c d).aJ=(dg c d).aJ from rfl,ur T U this.1 this.2]; exact S.v7 y y0 y1
 ·have:=S.id y0 y1
  show gi (jo c d) _=y
  rw [show (Cs c d).aJ=(dg c d).aJ from rfl,uw T U this.1 this.2]; exact S.xR y y0 y1
 ·have p1:p < (di c d).length:=p1
  have q1:q < (di c d).length:=q1
  have e:gi (jo c d) p=gi (di c d) q:=e
  rw [QD p0 p1 q0 q1]
  unfold tb
  rw [if_neg (fun h=>h e)]
  show (_∧_ < ((di c d).length:Int))∧gi (di c d) _=gi (di c d) p∧gi (jo c d) _=gi (jo c d) q
  rcases zH T U p0 p1 with hp | ⟨x,y,rfl,hx,hy⟩
  ·rcases zH T U q0 q1 with hq | ⟨x',y',rfl,BU,sW⟩
   ·rw [if_pos ⟨hp,hq⟩]
    rw [uw T U p0 hp,ur T U q0 hq] at e
    have:=S.cell p q p0 hp q0 hq e
    rw [ur T U this.1.1 this.1.2,uw T U this.1.1 this.1.2,ur T U p0 hp,uw T U q0 hq]
    exact ⟨⟨this.1.1,by omega⟩,this.2.1,this.2.2⟩
   ·rw [uw T U p0 hp,w7 T U BU.1 BU.2 sW.1 sW.2] at e
    have nr:=tk BU.1 BU.2 sW.1 sW.2
    rw [if_neg (by omega),ur T U p0 hp,w8 T U BU.1 BU.2 sW.1 sW.2]
    rcases wh T U p0 hp with wE | ⟨r,rfl,r0,r1⟩
    ·have h1:=T.fr p0 wE
     rw [we T U p0 wE]
     have hi:=Km T U h1.1 h1.2 sW.1 sW.2
     rw [show ((dg c d).aF.length:Int)+gi c.aF p * d.aA+(c.aA+y') - c.aA=(dg c d).aF.length+(gi c.aF p * d.aA+y') by omega,w7 T U h1.1 h1.2 sW.1 sW.2,w8 T U h1.1 h1.2 sW.1 sW.2]
     exact ⟨hi,rfl,rfl⟩
    ·rw [wg T U r0 r1] at e
     have:=U.to r0 r1
     omega
  ·rcases zH T U q0 q1 with hq | ⟨x',y',rfl,BU,sW⟩
   ·rw [w8 T U hx.1 hx.2 hy.1 hy.2,ur T U q0 hq] at e
    have hp:=tk hx.1 hx.2 hy.1 hy.2
    rw [if_neg (by omega),w7 T U hx.1 hx.2 hy.1 hy.2,uw T U q0 hq]
    rcases wh T U q0 hq with ZN | ⟨r,rfl,r0,r1⟩
    ·rw [we T U q0 ZN] at e
     have:=T.fr q0 ZN
     omega
    ·have h1:=U.to r0 r1
     rw [wg T U r0 r1]
     have hi:=Km T U hx.1 hx.2 h1.1 h1.2
     rw [show ((dg c d).aF.length:Int)+x * d.aA+(gi d.To r+c.aA) - c.aA=(dg c d).aF.length+(x * d.aA+gi d.To r) by omega,w7 T U hx.1 hx.2 h1.1 h1.2,w8 T U hx.1 hx.2 h1.1 h1.2]
     exact ⟨hi,rfl,by omega⟩
   ·rw [w8 T U hx.1 hx.2 hy.1 hy.2,w7 T U BU.1 BU.2 sW.1 sW.2] at e
    omega
 ·rw [QD p0 p1 q0 q1]
  unfold tb
  rw [if_pos (show gi (jo c d) p≠gi (di c d) q from e)]
 ·have k:=S.id (x:=y) y0 y1
  show gk (Cs c d).aD (gi (dg c d).aJ y) (gi (dg c d).aJ y)=gi (dg c d).aJ y
  have bj:gi (dg c d).aJ y < (di c d).length:=by rw [hl]; omega
  rw [QD k.1 bj k.1 bj]
  unfold tb
  rw [if_neg (by rw [uw T U k.1 k.2,ur T U k.1 k.2,S.xR y y0 y1,S.v7 y y0 y1]; simp),if_pos ⟨k.2,k.2⟩]
  exact S.uu y y0 y1
theorem Qr {a b a' b':Nat} (C:jj a b c) (D:jj a' b' d) (ha:a+a'≤100) (hb:b+b'≤100):gT c d=some (Cs c d):=by
 have S:=Cq T U
 have c0:=T.o0
 have d0:=U.o0
 have co:=C.o
 have dO:=D.o
 have cm:=C.m
 have dm:=D.m
 have sl:=EV T U
 have Yq:=S.tl
 obtain ⟨nc,Az⟩ : ∃ n:Nat,c.aA=n:=⟨c.aA.toNat,by omega⟩
 obtain ⟨nd,df⟩ : ∃ n:Nat,d.aA=n:=⟨d.aA.toNat,by omega⟩
 have hmul:nc * nd≤100 * 100:=Nat.mul_le_mul (by omega) (by omega)
 have jl:=wi T U
 have jt:=F7 T U
 rw [Az,df,Int.toNat_natCast,Int.toNat_natCast] at jl
 unfold gT
 rw [Kk C D T U (by omega) (by omega),aG]
 refine (congrArg ak (yH (β:=Int×Int) nc nd (fun x y=>(x,c.aA+y)) [] (fun acc i=>((i:Int),(dg c d).aF++acc.map (·.1),(dg c d).To++acc.map (·.2))) ?_ ?_ ?_)).trans ?_
 ·show ((0:Int),_++[],_++[])=_; rw [List.append_nil,List.append_nil]
 ·intro i acc hi hl
  simp only [List.length_nil,Nat.zero_add] at hl
  have hm:i * nd≤100 * 100:=Nat.mul_le_mul (by omega) (by omega)
  show fM c d (i:Int) _ _=_
  unfold fM
  rw [av (by omega:(i:Int) < c.aA),cond_true]
  refine (tR (β:=Int×Int) nd (fun y=>((i:Int),c.aA+y)) acc (fun acc j=>((j:Int),(dg c d).aF++acc.map (·.1),(dg c d).To++acc.map (·.2))) rfl ?_ ?_).trans ?_
  ·intro j tS hj Dr
   show fL c d (i:Int) (j:Int) _ _=_
   unfold fL
   rw [av (by omega:(j:Int) < d.aA),cond_true,dF (by rw [List.length_append,List.length_map]; omega) (by rw [List.length_append,List.length_map]; omega),aG,dF (by rw [List.length_append,List.length_map]; omega) (by rw [List.length_append,List.length_map]; omega),aG,bN (by omega),dK (by omega) (by omega)]
   simp only [List.map_append,List.map_cons,List.map_nil,List.append_assoc]
  ·intro tS _
   show fL c d (i:Int) _ _ _=_
   unfold fL
   rw [bd (by omega),cond_false]
  ·dsimp only
   rw [bN (by omega)]
 ·intro acc _
  show fM c d _ _ _=_
  unfold fM
  rw [bd (by omega),cond_false]
 dsimp only
 rw [List.nil_append,x8,x8]
 have eF:(dg c d).aF++ml nc nd (fun a b=>((a:Int),c.aA+b).1)=di c d:=by unfold di; rw [Az,df]; rfl
 have eT:(dg c d).To++ml nc nd (fun a b=>((a:Int),c.aA+b).2)=jo c d:=by unfold jo; rw [Az,df]; rfl
 rw [eF,eT]
 refine (congrArg ak (vw (di c d).length (fun f=>er (di c d).length fun g=>tb c d f g) (fun acc i=>(acc,(i:Int))) rfl ?_ ?_)).trans ?_
 ·intro i acc hi hl
  show fO c d (dg c d) (di c d) (jo c d) acc (i:Int)=_
  unfold fO
  rw [av (by omega:(i:Int) < ((di c d).length:Int)),cond_true]
  refine (vw (di c d).length (fun g=>tb c d i g) (fun acc j=>(acc,(j:Int))) rfl ?_ ?_).trans ?_
  ·intro j r hj hr
   have i0:(0:Int)≤i:=by omega
   have i1:(i:Int) < (di c d).length:=by omega
   have j0:(0:Int)≤j:=by omega
   have j1:(j:Int) < (di c d).length:=by omega
   have J:=N4 T U
   have bf:0≤gi (di c d) i∧gi (di c d) i < c.aA+d.aA:=J.fr i0 i1
   have bt:0≤gi (jo c d) j∧gi (jo c d) j < c.aA+d.aA:=J.to j0 j1
   have hm:0≤gi (di c d) i * d.aA∧gi (di c d) i * d.aA≤100 * 100:=IJ bf.1 (by omega) d0 (by omega)
   show fN c d (dg c d) (di c d) (jo c d) (i:Int) r (j:Int)=_
   unfold fN tb
   rw [av j1,cond_true,cB i0 (by omega),aG,cB j0 j1,aG]
   by_cases e:gi (jo c d) i=gi (di c d) j
   ·rw [yS e,cond_false,if_neg (fun h=>h e)]
    have tail:∀ v:Int,v=(dg c d).aF.length+gi (di c d) i * d.aA+gi (jo c d) j - c.aA→(idx (di c d) (i:Int)>>=fun Pt=>(idx (jo c d) (j:Int))>>=fun Pu=>(fits 8 (r.length+1))>>=fun _=>some (Out.norm (r++[aj (aj (aj (((dg c d).aF.length:Int)+aj (Pt * d.aA))+Pu) - c.aA)],aj ((j:Int)+1)):Out (List Int×Int) aI))=some (.norm (r++[v],((j+1:Nat):Int))):=by
     intro v hv
     rw [cB i0 i1,aG,cB j0 (by omega),aG,dF (by omega) (by omega),aG,bN (by omega),dK (a:=gi (di c d) i * d.aA) (by omega) (by omega),dK (a:=((dg c d).aF.length:Int)+gi (di c d) i * d.aA) (by omega) (by omega),dK (a:=((dg c d).aF.length:Int)+gi (di c d) i * d.aA+gi (jo c d) j) (by omega) (by omega),dK (by omega) (by omega),hv]
    by_cases h1:(i:Int) < (dg c d).aF.length
    ·rw [av h1,cond_true,aG]
     by_cases h2:(j:Int) < (dg c d).aF.length
     ·rw [av h2,cond_true,S.mb i0 h1,aG,S.lg i0 h1 j0 h2,aG,dF (by omega) (by omega),aG,bN (by omega),if_pos ⟨h1,h2⟩]
     ·rw [bd h2,cond_false,if_neg (fun h=>h2 h.2)]
      exact tail _ rfl
    ·rw [bd h1,cond_false,aG,cond_false,if_neg (fun h=>h1 h.1)]
     exact tail _ rfl
   ·rw [uT e,cond_true,dF (by omega) (by omega),aG,bN (by omega),if_pos e]
  ·intro r _
   show fN c d (dg c d) (di c d) (jo c d) (i:Int) r _=_
   unfold fN
   rw [bd (by omega),cond_false]
  ·dsimp only
   rw [dF (by omega) (by omega),aG,bN (by omega)]
 ·intro acc _
  show fO c d (dg c d) (di c d) (jo c d) acc _=_
  unfold fO
  rw [bd (by omega),cond_false]
 ·rfl
end
end Go.Proofs.YtgjbmjjihmfppaaGreat
