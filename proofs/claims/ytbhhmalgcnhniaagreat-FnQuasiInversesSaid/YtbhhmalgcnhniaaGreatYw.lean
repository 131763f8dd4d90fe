/- Relations that are drawn are reflexive and transitive. No condition beside those that each theorem names. -/
import Derived.Test.YtbhhmalgcnhniaaGreatYt
set_option linter.unusedVariables false
set_option linter.unusedSimpArgs false
namespace Go.Proofs.YtbhhmalgcnhniaaGreat
open Go Go.Li
def Rl (l:List (List Int)) (i j:Int):Prop:=gi (gr l i) j=1
theorem Nu {n:Nat} {l:List (List Int)} (h:Sq n l) {i j:Int} (i0:0≤i) (i1:i < n) (j0:0≤j) (j1:j < n) {i' j':Int} (a0:0≤i') (b0:0≤j'):Rl (l.set i.toNat ((gr l i).set j.toNat 1)) i' j'↔(i'=i∧j'=j)∨Rl l i' j':=by
 have hl:=h.len
 have hr:=h.row _ (kv (l:=l) i0 (by omega))
 have key:gr (l.set i.toNat ((gr l i).set j.toNat 1)) i'=if i'=i then (gr l i).set j.toNat 1 else gr l i':=by
  have:=V2 (cl:=l) (y:=i.toNat) (q:=(gr l i).set j.toNat 1) i'.toNat
  rw [show ((i'.toNat:Nat):Int)=i' by omega] at this
  rw [this]
  by_cases e:i'=i
  ·rw [if_pos (by omega),if_pos e]
  ·rw [if_neg (by omega),if_neg e]
 unfold Rl
 rw [key]
 by_cases e:i'=i
 ·rw [if_pos e,qv j0 (by omega) b0,e]
  by_cases e2:j'=j
  ·rw [if_pos e2]; exact ⟨fun _=>.inl ⟨rfl,e2⟩,fun _=>rfl⟩
  ·rw [if_neg e2]; exact ⟨fun h=>.inr h,fun h=>h.resolve_left fun h=>e2 h.2⟩
 ·rw [if_neg e]; exact ⟨fun h=>.inr h,fun h=>h.resolve_left fun h=>e h.1⟩
def Ad (l:List (List Int)) (k i j:Int):Prop:=Rl l i j∨Rl l i k∧Rl l k j
theorem EB {R S:Type} {n:Nat} (hn:n≤4) {k k3 k4:Nat} {f:Int×List (List Int)→Option (Out S R)} {Q:Out S R→Prop} {L2:Int→List (List Int)→Option (Out (Int×List (List Int)) R)} {L3:Int→Int→List (List Int)→Option (Out (Int×List (List Int)) R)} {L4:Int→Int→Int→List (List Int)→Option (Out (Int×List (List Int)) R)}
  (e2:∀ a t,L2 a t=bif decide (a < (n:Int)) then (af (ae k3 (ag (fun s:Int×List (List Int)=>L3 a s.1 s.2) ((0:Int),t))) fun s=>some (.norm (aj (a+1),s.2))) else some (.exit k (a,t)))
  (e3:∀ a b t,L3 a b t=bif decide (b < (n:Int)) then (af (ae k4 (ag (fun s:Int×List (List Int)=>L4 a b s.1 s.2) ((0:Int),t))) fun s=>some (.norm (aj (b+1),s.2))) else some (.exit k3 (b,t)))
  (e4:∀ a b d t,L4 a b d t=bif decide (d < (n:Int)) then ((idx t b>>=fun e=>(idx e a>>=fun e'=>(bif e' == (1:Int) then (idx t a>>=fun e2=>(idx e2 d>>=fun e2'=>some (e2' == (1:Int)))) else some false)))>>=fun g=>(bif g then (idx t b>>=fun e=>(idx e d>>=fun _=>some (.norm (aj (d+1),t.set b.toNat (e.set d.toNat 1))))) else some (.norm (aj (d+1),t)))) else some (.exit k4 (d,t)))
  {t:List (List Int)} (ht:Sq n t) (re:∀ i:Int,0≤i→i < n→Rl t i i)
  (hf:∀ s:Int×List (List Int),Sq n s.2→(∀ i:Int,0≤i→i < n→Rl s.2 i i)→(∀ i j k:Int,0≤i→i < n→0≤j→j < n→0≤k→k < n→Rl s.2 i j→Rl s.2 j k→Rl s.2 i k)→Ok (f s) Q):Ok (af (ae k (ag (fun s=>L2 s.1 s.2) ((0:Int),t))) f) Q:=by
 refine ol (fun s:Int×List (List Int)=>(0≤s.1∧s.1≤n)∧Sq n s.2∧(∀ i:Int,0≤i→i < n→Rl s.2 i i)∧∀ m i j:Int,0≤m→m < s.1→0≤i→i < n→0≤j→j < n→Rl s.2 i m→Rl s.2 m j→Rl s.2 i j) (fun s=>(n - s.1).toNat) ⟨⟨by show (0:Int)≤0; omega,by show (0:Int)≤_; omega⟩,ht,re,fun m i j m0 m1=>by dsimp only at m1; omega⟩ ?_
 rintro ⟨a,t⟩ ⟨⟨a0,a1⟩,ht,re,tr⟩
 dsimp only at a0 a1 ht re tr
 show Ok (L2 a t) _
 rw [e2]
 refine od (fun ha=>?_) fun ha=>os ⟨rfl,hf _ ht re fun i j m i0 i1 j0 j1 m0 m1 h1 h2=>tr j i m j0 (by omega) i0 i1 m0 m1 h1 h2⟩
 refine ol (fun s:Int×List (List Int)=>(0≤s.1∧s.1≤n)∧Sq n s.2∧∀ i j:Int,0≤i→i < n→0≤j→j < n→(Rl s.2 i j↔if i < s.1 then Ad t a i j else Rl t i j)) (fun s=>(n - s.1).toNat) ⟨⟨by show (0:Int)≤0; omega,by show (0:Int)≤_; omega⟩,ht,fun i j i0 _ _ _=>by rw [if_neg (by dsimp only; omega)]⟩ ?_
 rintro ⟨b,o⟩ ⟨⟨b0,b1⟩,ho,hR⟩
 dsimp only at b0 b1 ho hR
 show Ok (L3 a b o) _
 rw [e3]
 refine od (fun hb=>?_) fun hb=>os ⟨rfl,os ⟨⟨⟨?_,?_⟩,ho,fun i i0 i1=>?_,fun m i j m0 m1 i0 i1 j0 j1 h1 h2=>?_⟩,?_⟩⟩
 ·refine ol (fun s:Int×List (List Int)=>(0≤s.1∧s.1≤n)∧Sq n s.2∧∀ i j:Int,0≤i→i < n→0≤j→j < n→(Rl s.2 i j↔if i < b∨i=b∧j < s.1 then Ad t a i j else Rl t i j)) (fun s=>(n - s.1).toNat) ⟨⟨by show (0:Int)≤0; omega,by show (0:Int)≤_; omega⟩,ho,fun i j i0 i1 j0 j1=>by
   rw [hR i j i0 i1 j0 j1]
   by_cases e:i < b
   ·rw [if_pos e,if_pos (.inl e)]
   ·rw [if_neg e,if_neg (by dsimp only; omega)]⟩ ?_
  rintro ⟨d,o⟩ ⟨⟨d0,d1⟩,ho,hR⟩
  dsimp only at d0 d1 ho hR
  have hl:=ho.len
  have WE:∀ i:Int,0≤i→i < n→(gr o i).length=n:=fun i i0 i1=>ho.row _ (kv i0 (by omega))
  show Ok (L4 a b d o) _
  rw [e4]
  have YY:Rl o b a↔Rl t b a:=by
   rw [hR b a b0 hb a0 ha]
   split
   ·exact ⟨fun h=>h.elim id fun h=>h.1,fun h=>.inl h⟩
   ·exact Iff.rfl
  have row:d < n→(Rl o a d↔Rl t a d):=fun hd=>by
   rw [hR a d a0 ha d0 hd]
   split
   ·exact ⟨fun h=>h.elim id fun h=>h.2,fun h=>.inl h⟩
   ·exact Iff.rfl
  refine od (fun hd=>?_) fun hd=>os ⟨rfl,os ⟨⟨⟨?_,?_⟩,ho,fun i j i0 i1 j0 j1=>?_⟩,?_⟩⟩
  ·have hw:=w1 d0 hd (by omega)
   have bj:=row hd
   have lb:=WE b b0 hb
   have la:=WE a a0 ha
   refine ob (P:=fun g=>g=true↔(Rl t b a∧Rl t a d)) (oe (j6 b0 (by omega)) (oe (bL a0 (by omega)) (oc (fun e1=>oe (j6 a0 (by omega)) (oe (bL d0 (by omega)) (os ?_))) fun e1=>os ?_))) fun g hg=>oc (fun e=>oe (j6 b0 (by omega)) (oe (bL d0 (by omega)) (os ⟨⟨⟨?_,?_⟩,Q1 ho (kv b0 (by omega)) _ _ _,fun i j i0 i1 j0 j1=>?_⟩,?_⟩))) fun e=>os ⟨⟨⟨?_,?_⟩,ho,fun i j i0 i1 j0 j1=>?_⟩,?_⟩
   ·have h1:Rl o b a:=by unfold Rl; simpa using e1
    rw [← YY,← bj]
    exact ⟨fun h=>⟨h1,by unfold Rl; simpa using h⟩,fun h=>by have:=h.2; unfold Rl at this; simp [this]⟩
   ·have h1 : ¬ Rl o b a:=fun h=>by unfold Rl at h; rw [h] at e1; simp at e1
    rw [← YY]
    exact ⟨fun h=>(by cases h),fun h=>absurd h.1 h1⟩
   ·dsimp only; rw [hw]; omega
   ·dsimp only; rw [hw]; omega
   ·dsimp only
    rw [hw,Nu ho b0 hb d0 hd i0 j0,hR i j i0 i1 j0 j1]
    by_cases h:i=b∧j=d
    ·obtain ⟨h5,h6⟩:=h
     have hc:b < b∨b=b∧d < d+1:=.inr ⟨rfl,by omega⟩
     rw [h5,h6,if_pos hc]
     exact ⟨fun _=>.inr (hg.1 e),fun _=>.inl ⟨rfl,rfl⟩⟩
    ·by_cases h2:i < b∨i=b∧j < d
     ·rw [if_pos h2,if_pos (by omega)]
      exact ⟨fun h3=>h3.resolve_left h,fun h3=>.inr h3⟩
     ·rw [if_neg h2,if_neg (by omega)]
      exact ⟨fun h3=>h3.resolve_left h,fun h3=>.inr h3⟩
   ·dsimp only; rw [hw]; omega
   ·dsimp only; rw [hw]; omega
   ·dsimp only; rw [hw]; omega
   ·dsimp only
    rw [hw,hR i j i0 i1 j0 j1]
    by_cases h:i=b∧j=d
    ·obtain ⟨h5,h6⟩:=h
     have hc:b < b∨b=b∧d < d+1:=.inr ⟨rfl,by omega⟩
     rw [h5,h6,if_neg (by omega),if_pos hc]
     exact ⟨fun h3=>.inl h3,fun h3=>h3.resolve_right fun h4=>by have:=hg.2 h4; rw [e] at this; cases this⟩
    ·by_cases h2:i < b∨i=b∧j < d
     ·rw [if_pos h2,if_pos (by omega)]
     ·rw [if_neg h2,if_neg (by omega)]
   ·dsimp only; rw [hw]; omega
  ·dsimp only; rw [w1 b0 hb (by omega)]; omega
  ·dsimp only; rw [w1 b0 hb (by omega)]; omega
  ·dsimp only
   rw [w1 b0 hb (by omega),hR i j i0 i1 j0 j1]
   by_cases h:i < b+1
   ·rw [if_pos (by omega),if_pos h]
   ·rw [if_neg (by omega),if_neg h]
  ·dsimp only; rw [w1 b0 hb (by omega)]; omega
 ·dsimp only; rw [w1 a0 ha (by omega)]; omega
 ·dsimp only; rw [w1 a0 ha (by omega)]; omega
 ·dsimp only
  rw [hR i i i0 i1 i0 i1,if_pos (by omega)]
  exact .inl (re i i0 i1)
 ·dsimp only at m1 h1 h2 ⊢
  rw [w1 a0 ha (by omega)] at m1
  rw [hR i m i0 i1 m0 (by omega),if_pos (by omega)] at h1
  rw [hR m j m0 (by omega) j0 j1,if_pos (by omega)] at h2
  rw [hR i j i0 i1 j0 j1,if_pos (by omega)]
  by_cases hm:m < a
  ·rcases h1 with h1 | ⟨h1,h1'⟩
   ·rcases h2 with h2 | ⟨h2,CY⟩
    ·exact .inl (tr m i j m0 hm i0 i1 j0 j1 h1 h2)
    ·exact .inr ⟨tr m i a m0 hm i0 i1 a0 ha h1 h2,CY⟩
   ·rcases h2 with h2 | ⟨h2,CY⟩
    ·exact .inr ⟨h1,tr m a j m0 hm a0 ha j0 j1 h1' h2⟩
    ·exact .inr ⟨h1,CY⟩
  ·have e:m=a:=by omega
   rw [e] at h1 h2
   have g1:Rl t i a:=h1.elim id fun h=>h.1
   have g2:Rl t a j:=h2.elim id fun h=>h.2
   exact .inr ⟨g1,g2⟩
 ·dsimp only; rw [w1 a0 ha (by omega)]; omega
theorem DX {x:List Int} (B:xB x) {s:aM} (S:Src x s) {n:Nat} (hn:n≤4):Ok (jS s n) fun y=>(Sq n y.1∧(∀ i:Int,0≤i→i < n→Rl y.1 i i)∧∀ i j k:Int,0≤i→i < n→0≤j→j < n→0≤k→k < n→Rl y.1 i j→Rl y.1 j k→Rl y.1 i k)∧Src x y.2:=by
 unfold jS
 refine lj (ol (fun z:List (List Int)×Int×Int×Int=>(0≤z.2.1∧z.2.1≤n)∧((z.1.length:Int)=z.2.1∧(∀ y∈z.1,y.length=n)∧∀ i:Int,0≤i→i < z.2.1→Rl z.1 i i)∧0≤z.2.2.1∧z.2.2.1≤x.length) (fun z=>(n - z.2.1).toNat)
  ⟨⟨by show (0:Int)≤0; omega,by show (0:Int)≤_; omega⟩,⟨rfl,jw,fun i h0 h1=>by dsimp only at h1; omega⟩,S.a0,S.a1⟩ ?_)
 rintro ⟨l,i,a,h⟩ ⟨⟨i0,i1⟩,⟨hl,hr,WG⟩,a0,a1⟩
 dsimp only at i0 i1 hl hr WG a0 a1
 show Ok (mJ s n l i a h) _
 unfold mJ
 refine od (fun hi=>?_) fun hi=>os ⟨rfl,?_⟩
 ·have hw:=w1 i0 hi (by omega)
  refine Q0 (by omega) (by omega) (by omega) (oi i0 (by rw [List.length_replicate]; omega) fun _ _=>?_)
  refine ol (fun z:Int×Int×Int×List Int=>(i < z.1∧z.1≤n)∧(0≤z.2.1∧z.2.1≤x.length)∧z.2.2.2.length=n∧gi z.2.2.2 i=1) (fun z=>(n - z.1).toNat) ⟨⟨?_,?_⟩,⟨a0,a1⟩,?_,?_⟩ ?_
  ·dsimp only; rw [hw]; omega
  ·dsimp only; rw [hw]; omega
  ·show (List.set _ _ _).length=n; rw [List.length_set,List.length_replicate]; omega
  ·dsimp only; rw [qv i0 (by rw [List.length_replicate]; omega) i0,if_pos rfl]
  rintro ⟨j,a,h,o⟩ ⟨⟨j0,j1⟩,⟨a0,a1⟩,ho,mh⟩
  dsimp only at j0 j1 a0 a1 ho mh
  show Ok (mI s n j a h o) _
  unfold mI
  refine od (fun hj=>?_) fun hj=>os ⟨rfl,?_⟩
  ·have WH:=w1 (i:=j) (by omega) hj (by omega)
   refine ob (ei B (S.at_ a0 a1) _) fun y hy=>oi (by omega) (by omega) fun _ _=>os ⟨⟨⟨?_,?_⟩,⟨hy.2.a0,hy.2.a1⟩,?_,?_⟩,?_⟩
   ·dsimp only; rw [WH]; omega
   ·dsimp only; rw [WH]; omega
   ·dsimp only; rw [List.length_set]; exact ho
   ·dsimp only; rw [qv (by omega) (by omega) i0,if_neg (by omega)]; exact mh
   ·dsimp only; rw [WH]; omega
  ·refine fj (by omega) (by omega) (os ⟨⟨⟨?_,?_⟩,⟨?_,ib hr ho,fun i' h0 h1=>?_⟩,a0,a1⟩,?_⟩)
   ·dsimp only; rw [hw]; omega
   ·dsimp only; rw [hw]; omega
   ·dsimp only; rw [hw,List.length_append,List.length_singleton]; omega
   ·dsimp only at h1 ⊢
    rw [hw] at h1
    unfold Rl
    rw [DW h0]
    by_cases e:i' < i
    ·rw [if_pos (by omega)]; exact WG i' h0 e
    ·rw [if_neg (by omega),if_pos (by omega),show i'=i by omega]; exact mh
   ·dsimp only; rw [hw]; omega
 ·have hq:Sq n l:=⟨by omega,hr⟩
  have IX:∀ i:Int,0≤i→i < n→Rl l i i:=fun i h0 h1=>WG i h0 (by omega)
  refine od (fun h1=>?_) fun h1=>?_
  ·refine ob (ei B (S.at_ a0 a1) _) fun y hy=>oc (fun _=>?_) fun _=>?_
   ·rw [dM (a:=(n:Int) - 1) (by omega) (by omega)]
    refine oe (j6 (by omega) (by omega)) ?_
    have tY:=hr _ (kv (l:=l) (j:=(n:Int) - 1) (by omega) (by omega))
    refine ob (ei B (S.on hy.2) _) fun z hz=>?_
    have C9:=hz.1.2 (by omega)
    refine oe (bL hz.1.1 (by omega)) ?_
    exact EB hn (L2:=fun a t=>pW n a t) (L3:=fun a b t=>pV n a b t) (L4:=fun a b d t=>pU n a b d t) (fun _ _=>rfl) (fun _ _ _=>rfl) (fun _ _ _ _=>rfl) (Q1 hq (kv (l:=l) (j:=(n:Int) - 1) (by omega) (by omega)) _ _ _) (fun i h0 h1=>(Nu hq (by omega) (by omega) hz.1.1 C9 h0 h0).2 (.inr (IX i h0 h1))) fun t ht r1 r2=>os ⟨⟨ht,r1,r2⟩,S.on hz.2⟩
   ·exact EB hn (L2:=fun a t=>qB n a t) (L3:=fun a b t=>pZ n a b t) (L4:=fun a b d t=>pY n a b d t) (fun _ _=>rfl) (fun _ _ _=>rfl) (fun _ _ _ _=>rfl) hq IX fun t ht r1 r2=>os ⟨⟨ht,r1,r2⟩,S.on hy.2⟩
  ·exact EB hn (L2:=fun a t=>qD n a t) (L3:=fun a b t=>qC n a b t) (L4:=fun a b d t=>pD n a b d t) (fun _ _=>rfl) (fun _ _ _=>rfl) (fun _ _ _ _=>rfl) hq IX fun t ht r1 r2=>os ⟨⟨ht,r1,r2⟩,S.at_ a0 a1⟩
end Go.Proofs.YtbhhmalgcnhniaaGreat
set_option linter.unusedVariables false
set_option linter.unusedSimpArgs false
namespace Go.Proofs.YtbhhmalgcnhniaaGreat
open Go Go.Li
def db (c d:aG):List Int:=(cq c d).aF++l6 c.aA.toNat d.aA.toNat fun x _=>x
def iw (c d:aG):List Int:=(cq c d).To++l6 c.aA.toNat d.aA.toNat fun _ y=>c.aA+y
def s7 (c d:aG) (f g:Int):Int:=
 if gi (iw c d) f≠gi (db c d) g then -1 else if f < (cq c d).aF.length∧g < (cq c d).aF.length then gk (cq c d).aC f g
 else (cq c d).aF.length+gi (db c d) f * d.aA+gi (iw c d) g - c.aA
def BX (c d:aG):aG:=
 ⟨c.aA+d.aA,db c d,iw c d,(cq c d).aH,bz (db c d).length fun f=>bz (db c d).length fun g=>s7 c d f g⟩
section
variable {c d:aG} (T:Ty c) (U:Ty d)
include T U
theorem v8:(db c d).length=(cq c d).aF.length+c.aA.toNat * d.aA.toNat:=by
 have _:=T
 have _:=U
 unfold db; rw [List.length_append,gn]
theorem Fk:(iw c d).length=(db c d).length:=by
 unfold iw; rw [List.length_append,gn,v8 T U,(BV T U).tl]
theorem ug {f:Int} (f0:0≤f) (f1:f < (cq c d).aF.length):gi (db c d) f=gi (cq c d).aF f:=by
 have _:=T
 have _:=U
 unfold db; rw [ox f0,if_pos f1]
theorem uh {f:Int} (f0:0≤f) (f1:f < (cq c d).aF.length):gi (iw c d) f=gi (cq c d).To f:=by
 unfold iw; rw [ox f0,if_pos (by rw [(BV T U).tl]; exact f1)]
theorem wQ {x y:Int} (x0:0≤x) (x1:x < c.aA) (y0:0≤y) (y1:y < d.aA):gi (db c d) ((cq c d).aF.length+(x * d.aA+y))=x:=by
 have _:=T
 have ht:((d.aA.toNat:Nat):Int)=d.aA:=Int.toNat_of_nonneg U.o0
 have hp:=ta x0 x1 y0 y1
 unfold db
 rw [ox (by omega),if_neg (by omega),show ((cq c d).aF.length:Int)+(x * d.aA+y) - (cq c d).aF.length=x * d.aA+y by omega]
 have:=wO (n:=c.aA.toNat) (m:=d.aA.toNat) (g:=fun x _=>x) x0 (by omega) y0 (by omega)
 rwa [ht] at this
theorem wR {x y:Int} (x0:0≤x) (x1:x < c.aA) (y0:0≤y) (y1:y < d.aA):gi (iw c d) ((cq c d).aF.length+(x * d.aA+y))=c.aA+y:=by
 have ht:((d.aA.toNat:Nat):Int)=d.aA:=Int.toNat_of_nonneg U.o0
 have hp:=ta x0 x1 y0 y1
 have hl:=(BV T U).tl
 unfold iw
 rw [ox (by omega),if_neg (by omega),show ((cq c d).aF.length:Int)+(x * d.aA+y) - (cq c d).To.length=x * d.aA+y by omega]
 have:=wO (n:=c.aA.toNat) (m:=d.aA.toNat) (g:=fun _ y=>c.aA+y) x0 (by omega) y0 (by omega)
 rwa [ht] at this
theorem ze {f:Int} (f0:0≤f) (f1:f < (db c d).length):f < (cq c d).aF.length∨∃ x y:Int,f=(cq c d).aF.length+(x * d.aA+y)∧(0≤x∧x < c.aA)∧0≤y∧y < d.aA:=by
 have hl:=v8 T U
 have c0:=T.o0
 have ht:((d.aA.toNat:Nat):Int)=d.aA:=Int.toNat_of_nonneg U.o0
 by_cases h:f < (cq c d).aF.length
 ·exact .inl h
 ·obtain ⟨x,y,hx,hy,e⟩:=uf (n:=c.aA.toNat) (m:=d.aA.toNat) (k:=f - (cq c d).aF.length) (by omega) (by omega)
  rw [ht] at hy e
  exact .inr ⟨x,y,by omega,⟨hx.1,by omega⟩,hy⟩
theorem Jr {x y:Int} (x0:0≤x) (x1:x < c.aA) (y0:0≤y) (y1:y < d.aA):0≤(cq c d).aF.length+(x * d.aA+y)∧(cq c d).aF.length+(x * d.aA+y) < (db c d).length:=by
 have hp:=ta x0 x1 y0 y1
 have hl:=v8 T U
 have e:((c.aA.toNat * d.aA.toNat:Nat):Int)=c.aA * d.aA:=by
  rw [Int.natCast_mul,Int.toNat_of_nonneg T.o0,Int.toNat_of_nonneg U.o0]
 omega
theorem Nn:Ty (BX c d):=by
 have S:=BV T U
 have c0:=T.o0
 have d0:=U.o0
 have hl:=v8 T U
 have tl:=Fk T U
 have so:(cq c d).aA=c.aA+d.aA:=rfl
 have P6:∀ {p q:Int},0≤p→p < (db c d).length→0≤q→q < (db c d).length→gk (BX c d).aC p q=s7 c d p q:=fun p0 p1 q0 q1=>by
  show gi (gr (bz _ _) _) _=_
  rw [yZ p0 p1,lq q0 q1]
 have fr:∀ {p:Int},0≤p→p < (db c d).length→0≤gi (db c d) p∧gi (db c d) p < c.aA+d.aA:=fun p0 p1=>by
  rcases ze T U p0 p1 with h | ⟨x,y,rfl,hx,hy⟩
  ·rw [ug T U p0 h]; exact S.fr p0 h
  ·rw [wQ T U hx.1 hx.2 hy.1 hy.2]; omega
 have to:∀ {p:Int},0≤p→p < (db c d).length→0≤gi (iw c d) p∧gi (iw c d) p < c.aA+d.aA:=fun p0 p1=>by
  rcases ze T U p0 p1 with h | ⟨x,y,rfl,hx,hy⟩
  ·rw [uh T U p0 h]; exact S.to p0 h
  ·rw [wR T U hx.1 hx.2 hy.1 hy.2]; omega
 refine ⟨by show 0≤c.aA+d.aA; omega,fun y hy=>?_,tl,fun y hy=>?_,bJ _ _,fun r hr=>?_,S.il,fun y hy=>?_,fun y y0 y1=>?_,fun y y0 y1=>?_,fun p q p0 p1 q0 q1 e=>?_,fun p q p0 p1 q0 q1 e=>?_,fun y y0 y1=>?_⟩
 ·obtain ⟨i,i0,i1,rfl⟩:=j7 hy
  exact fr i0 i1
 ·obtain ⟨i,i0,i1,rfl⟩:=j7 hy
  exact to i0 (by have i1:i < (iw c d).length:=i1; omega)
 ·obtain ⟨i,hi,rfl⟩:=ov.1 hr
  exact bJ _ _
 ·have:=S.i y hy
  show 0≤y∧y < (db c d).length
  omega
 ·have:=S.id y0 y1
  show gi (db c d) _=y
  rw [show (BX c d).aH=(cq c d).aH from rfl,ug T U this.1 this.2]; exact S.u4 y y0 y1
 ·have:=S.id y0 y1
  show gi (iw c d) _=y
  rw [show (BX c d).aH=(cq c d).aH from rfl,uh T U this.1 this.2]; exact S.wu y y0 y1
 ·have p1:p < (db c d).length:=p1
  have q1:q < (db c d).length:=q1
  have e:gi (iw c d) p=gi (db c d) q:=e
  rw [P6 p0 p1 q0 q1]
  unfold s7
  rw [if_neg (fun h=>h e)]
  show (_∧_ < ((db c d).length:Int))∧gi (db c d) _=gi (db c d) p∧gi (iw c d) _=gi (iw c d) q
  rcases ze T U p0 p1 with hp | ⟨x,y,rfl,hx,hy⟩
  ·rcases ze T U q0 q1 with hq | ⟨x',y',rfl,yc,tB⟩
   ·rw [if_pos ⟨hp,hq⟩]
    rw [uh T U p0 hp,ug T U q0 hq] at e
    have:=S.cell p q p0 hp q0 hq e
    rw [ug T U this.1.1 this.1.2,uh T U this.1.1 this.1.2,ug T U p0 hp,uh T U q0 hq]
    exact ⟨⟨this.1.1,by omega⟩,this.2.1,this.2.2⟩
   ·rw [uh T U p0 hp,wQ T U yc.1 yc.2 tB.1 tB.2] at e
    have qh:=ta yc.1 yc.2 tB.1 tB.2
    rw [if_neg (by omega),ug T U p0 hp,wR T U yc.1 yc.2 tB.1 tB.2]
    rcases v7 T U p0 hp with xP | ⟨r,rfl,r0,r1⟩
    ·have h1:=T.fr p0 xP
     rw [vY T U p0 xP]
     have hi:=Jr T U h1.1 h1.2 tB.1 tB.2
     rw [show ((cq c d).aF.length:Int)+gi c.aF p * d.aA+(c.aA+y') - c.aA=(cq c d).aF.length+(gi c.aF p * d.aA+y') by omega,wQ T U h1.1 h1.2 tB.1 tB.2,wR T U h1.1 h1.2 tB.1 tB.2]
     exact ⟨hi,rfl,rfl⟩
    ·rw [vZ T U r0 r1] at e
     have:=U.to r0 r1
     omega
  ·rcases ze T U q0 q1 with hq | ⟨x',y',rfl,yc,tB⟩
   ·rw [wR T U hx.1 hx.2 hy.1 hy.2,ug T U q0 hq] at e
    have hp:=ta hx.1 hx.2 hy.1 hy.2
    rw [if_neg (by omega),wQ T U hx.1 hx.2 hy.1 hy.2,uh T U q0 hq]
    rcases v7 T U q0 hq with YZ | ⟨r,rfl,r0,r1⟩
    ·rw [vY T U q0 YZ] at e
     have:=T.fr q0 YZ
     omega
    ·have h1:=U.to r0 r1
     rw [vZ T U r0 r1]
     have hi:=Jr T U hx.1 hx.2 h1.1 h1.2
     rw [show ((cq c d).aF.length:Int)+x * d.aA+(gi d.To r+c.aA) - c.aA=(cq c d).aF.length+(x * d.aA+gi d.To r) by omega,wQ T U hx.1 hx.2 h1.1 h1.2,wR T U hx.1 hx.2 h1.1 h1.2]
     exact ⟨hi,rfl,by omega⟩
   ·rw [wR T U hx.1 hx.2 hy.1 hy.2,wQ T U yc.1 yc.2 tB.1 tB.2] at e
    omega
 ·rw [P6 p0 p1 q0 q1]
  unfold s7
  rw [if_pos (show gi (iw c d) p≠gi (db c d) q from e)]
 ·have k:=S.id (x:=y) y0 y1
  show gk (BX c d).aC (gi (cq c d).aH y) (gi (cq c d).aH y)=gi (cq c d).aH y
  have bh:gi (cq c d).aH y < (db c d).length:=by rw [hl]; omega
  rw [P6 k.1 bh k.1 bh]
  unfold s7
  rw [if_neg (by rw [uh T U k.1 k.2,ug T U k.1 k.2,S.wu y y0 y1,S.u4 y y0 y1]; simp),if_pos ⟨k.2,k.2⟩]
  exact S.uu y y0 y1
theorem PW {a b a' b':Nat} (C:jg a b c) (D:jg a' b' d) (ha:a+a'≤100) (hb:b+b'≤100):iP c d=some (BX c d):=by
 have S:=BV T U
 have c0:=T.o0
 have d0:=U.o0
 have co:=C.o
 have dO:=D.o
 have cm:=C.m
 have dm:=D.m
 have sl:=Ey T U
 have XX:=S.tl
 obtain ⟨nc,BZ⟩ : ∃ n:Nat,c.aA=n:=⟨c.aA.toNat,by omega⟩
 obtain ⟨nd,dt⟩ : ∃ n:Nat,d.aA=n:=⟨d.aA.toNat,by omega⟩
 have hmul:nc * nd≤100 * 100:=Nat.mul_le_mul (by omega) (by omega)
 have jl:=v8 T U
 have jt:=Fk T U
 rw [BZ,dt,Int.toNat_natCast,Int.toNat_natCast] at jl
 unfold iP
 rw [Jp C D T U (by omega) (by omega),aE]
 refine (congrArg ak (yd (β:=Int×Int) nc nd (fun x y=>(x,c.aA+y)) [] (fun acc i=>((i:Int),(cq c d).aF++acc.map (·.1),(cq c d).To++acc.map (·.2))) ?_ ?_ ?_)).trans ?_
 ·show ((0:Int),_++[],_++[])=_; rw [List.append_nil,List.append_nil]
 ·intro i acc hi hl
  simp only [List.length_nil,Nat.zero_add] at hl
  have hm:i * nd≤100 * 100:=Nat.mul_le_mul (by omega) (by omega)
  show gK c d (i:Int) _ _=_
  unfold gK
  rw [ao (by omega:(i:Int) < c.aA),cond_true]
  refine (tP (β:=Int×Int) nd (fun y=>((i:Int),c.aA+y)) acc (fun acc j=>((j:Int),(cq c d).aF++acc.map (·.1),(cq c d).To++acc.map (·.2))) rfl ?_ ?_).trans ?_
  ·intro j tQ hj CV
   show gJ c d (i:Int) (j:Int) _ _=_
   unfold gJ
   rw [ao (by omega:(j:Int) < d.aA),cond_true,cY (by rw [List.length_append,List.length_map]; omega) (by rw [List.length_append,List.length_map]; omega),aE,cY (by rw [List.length_append,List.length_map]; omega) (by rw [List.length_append,List.length_map]; omega),aE,bF (by omega),dM (by omega) (by omega)]
   simp only [List.map_append,List.map_cons,List.map_nil,List.append_assoc]
  ·intro tQ _
   show gJ c d (i:Int) _ _ _=_
   unfold gJ
   rw [ay (by omega),cond_false]
  ·dsimp only
   rw [bF (by omega)]
 ·intro acc _
  show gK c d _ _ _=_
  unfold gK
  rw [ay (by omega),cond_false]
 dsimp only
 rw [List.nil_append,xF,xF]
 have eF:(cq c d).aF++l6 nc nd (fun a b=>((a:Int),c.aA+b).1)=db c d:=by unfold db; rw [BZ,dt]; rfl
 have eT:(cq c d).To++l6 nc nd (fun a b=>((a:Int),c.aA+b).2)=iw c d:=by unfold iw; rw [BZ,dt]; rfl
 rw [eF,eT]
 refine (congrArg ak (vp (db c d).length (fun f=>bz (db c d).length fun g=>s7 c d f g) (fun acc i=>(acc,(i:Int))) rfl ?_ ?_)).trans ?_
 ·intro i acc hi hl
  show gM c d (cq c d) (db c d) (iw c d) acc (i:Int)=_
  unfold gM
  rw [ao (by omega:(i:Int) < ((db c d).length:Int)),cond_true]
  refine (vp (db c d).length (fun g=>s7 c d i g) (fun acc j=>(acc,(j:Int))) rfl ?_ ?_).trans ?_
  ·intro j r hj hr
   have i0:(0:Int)≤i:=by omega
   have i1:(i:Int) < (db c d).length:=by omega
   have j0:(0:Int)≤j:=by omega
   have j1:(j:Int) < (db c d).length:=by omega
   have J:=Nn T U
   have bf:0≤gi (db c d) i∧gi (db c d) i < c.aA+d.aA:=J.fr i0 i1
   have bt:0≤gi (iw c d) j∧gi (iw c d) j < c.aA+d.aA:=J.to j0 j1
   have hm:0≤gi (db c d) i * d.aA∧gi (db c d) i * d.aA≤100 * 100:=HY bf.1 (by omega) d0 (by omega)
   show gL c d (cq c d) (db c d) (iw c d) (i:Int) r (j:Int)=_
   unfold gL s7
   rw [ao j1,cond_true,bL i0 (by omega),aE,bL j0 j1,aE]
   by_cases e:gi (iw c d) i=gi (db c d) j
   ·rw [tk e,cond_false,if_neg (fun h=>h e)]
    have tail:∀ v:Int,v=(cq c d).aF.length+gi (db c d) i * d.aA+gi (iw c d) j - c.aA→(idx (db c d) (i:Int)>>=fun OQ=>(idx (iw c d) (j:Int))>>=fun OR=>(fits 8 (r.length+1))>>=fun _=>some (Out.norm (r++[aj (aj (aj (((cq c d).aF.length:Int)+aj (OQ * d.aA))+OR) - c.aA)],aj ((j:Int)+1)):Out (List Int×Int) aG))=some (.norm (r++[v],((j+1:Nat):Int))):=by
     intro v hv
     rw [bL i0 i1,aE,bL j0 (by omega),aE,cY (by omega) (by omega),aE,bF (by omega),dM (a:=gi (db c d) i * d.aA) (by omega) (by omega),dM (a:=((cq c d).aF.length:Int)+gi (db c d) i * d.aA) (by omega) (by omega),dM (a:=((cq c d).aF.length:Int)+gi (db c d) i * d.aA+gi (iw c d) j) (by omega) (by omega),dM (by omega) (by omega),hv]
    by_cases h1:(i:Int) < (cq c d).aF.length
    ·rw [ao h1,cond_true,aE]
     by_cases h2:(j:Int) < (cq c d).aF.length
     ·rw [ao h2,cond_true,S.nq i0 h1,aE,S.me i0 h1 j0 h2,aE,cY (by omega) (by omega),aE,bF (by omega),if_pos ⟨h1,h2⟩]
     ·rw [ay h2,cond_false,if_neg (fun h=>h2 h.2)]
      exact tail _ rfl
    ·rw [ay h1,cond_false,aE,cond_false,if_neg (fun h=>h1 h.1)]
     exact tail _ rfl
   ·rw [sa e,cond_true,cY (by omega) (by omega),aE,bF (by omega),if_pos e]
  ·intro r _
   show gL c d (cq c d) (db c d) (iw c d) (i:Int) r _=_
   unfold gL
   rw [ay (by omega),cond_false]
  ·dsimp only
   rw [cY (by omega) (by omega),aE,bF (by omega)]
 ·intro acc _
  show gM c d (cq c d) (db c d) (iw c d) acc _=_
  unfold gM
  rw [ay (by omega),cond_false]
 ·rfl
end
end Go.Proofs.YtbhhmalgcnhniaaGreat
