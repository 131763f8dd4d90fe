/- Relations that are drawn are reflexive and transitive. No condition beside those that each theorem names. -/
import Derived.Test.YtkhdhnpokfibjaaGreatYt
set_option linter.unusedVariables false
set_option linter.unusedSimpArgs false
namespace Go.Proofs.YtkhdhnpokfibjaaGreat
open Go Go.Li
def Rl (l:List (List Int)) (i j:Int):Prop:=gi (gr l i) j=1
theorem Rl_set {n:Nat} {l:List (List Int)} (h:Sq n l) {i j:Int} (i0:0≤i) (i1:i < n) (j0:0≤j) (j1:j < n) {i' j':Int} (a0:0≤i') (b0:0≤j'):Rl (l.set i.toNat ((gr l i).set j.toNat 1)) i' j'↔(i'=i∧j'=j)∨Rl l i' j':=by
 have hl:=h.len
 have hr:=h.row _ (gr_mem (l:=l) i0 (by omega))
 have key:gr (l.set i.toNat ((gr l i).set j.toNat 1)) i'=if i'=i then (gr l i).set j.toNat 1 else gr l i':=by
  have:=gr_set (cl:=l) (y:=i.toNat) (q:=(gr l i).set j.toNat 1) i'.toNat
  rw [show ((i'.toNat:Nat):Int)=i' by omega] at this
  rw [this]
  by_cases e:i'=i
  ·rw [if_pos (by omega),if_pos e]
  ·rw [if_neg (by omega),if_neg e]
 unfold Rl
 rw [key]
 by_cases e:i'=i
 ·rw [if_pos e,gi_setI j0 (by omega) b0,e]
  by_cases e2:j'=j
  ·rw [if_pos e2]; exact ⟨fun _=>.inl ⟨rfl,e2⟩,fun _=>rfl⟩
  ·rw [if_neg e2]; exact ⟨fun h=>.inr h,fun h=>h.resolve_left fun h=>e2 h.2⟩
 ·rw [if_neg e]; exact ⟨fun h=>.inr h,fun h=>h.resolve_left fun h=>e h.1⟩
def Ad (l:List (List Int)) (k i j:Int):Prop:=Rl l i j∨Rl l i k∧Rl l k j
theorem closeTy {R S:Type} {n:Nat} (hn:n≤4) {k k3 k4:Nat} {f:Int×List (List Int)→Option (Out S R)} {Q:Out S R→Prop} {L2:Int→List (List Int)→Option (Out (Int×List (List Int)) R)} {L3:Int→Int→List (List Int)→Option (Out (Int×List (List Int)) R)} {L4:Int→Int→Int→List (List Int)→Option (Out (Int×List (List Int)) R)}
  (e2:∀ a t,L2 a t=bif decide (a < (n:Int)) then (lbind (blockM k3 (loopM (fun s:Int×List (List Int)=>L3 a s.1 s.2) ((0:Int),t))) fun s=>some (.norm (w64 (a+1),s.2))) else some (.exit k (a,t)))
  (e3:∀ a b t,L3 a b t=bif decide (b < (n:Int)) then (lbind (blockM k4 (loopM (fun s:Int×List (List Int)=>L4 a b s.1 s.2) ((0:Int),t))) fun s=>some (.norm (w64 (b+1),s.2))) else some (.exit k3 (b,t)))
  (e4:∀ a b d t,L4 a b d t=bif decide (d < (n:Int)) then ((idx t b>>=fun e=>(idx e a>>=fun e'=>(bif e' == (1:Int) then (idx t a>>=fun e2=>(idx e2 d>>=fun e2'=>some (e2' == (1:Int)))) else some false)))>>=fun g=>(bif g then (idx t b>>=fun e=>(idx e d>>=fun _=>some (.norm (w64 (d+1),t.set b.toNat (e.set d.toNat 1))))) else some (.norm (w64 (d+1),t)))) else some (.exit k4 (d,t)))
  {t:List (List Int)} (ht:Sq n t) (re:∀ i:Int,0≤i→i < n→Rl t i i)
  (hf:∀ s:Int×List (List Int),Sq n s.2→(∀ i:Int,0≤i→i < n→Rl s.2 i i)→(∀ i j k:Int,0≤i→i < n→0≤j→j < n→0≤k→k < n→Rl s.2 i j→Rl s.2 j k→Rl s.2 i k)→Ok (f s) Q):Ok (lbind (blockM k (loopM (fun s=>L2 s.1 s.2) ((0:Int),t))) f) Q:=by
 refine ol (fun s:Int×List (List Int)=>(0≤s.1∧s.1≤n)∧Sq n s.2∧(∀ i:Int,0≤i→i < n→Rl s.2 i i)∧∀ m i j:Int,0≤m→m < s.1→0≤i→i < n→0≤j→j < n→Rl s.2 i m→Rl s.2 m j→Rl s.2 i j) (fun s=>(n - s.1).toNat) ⟨⟨by show (0:Int)≤0; omega,by show (0:Int)≤_; omega⟩,ht,re,fun m i j m0 m1=>by dsimp only at m1; omega⟩ ?_
 rintro ⟨a,t⟩ ⟨⟨a0,a1⟩,ht,re,tr⟩
 dsimp only at a0 a1 ht re tr
 show Ok (L2 a t) _
 rw [e2]
 refine od (fun ha=>?_) fun ha=>os ⟨rfl,hf _ ht re fun i j m i0 i1 j0 j1 m0 m1 h1 h2=>tr j i m j0 (by omega) i0 i1 m0 m1 h1 h2⟩
 refine ol (fun s:Int×List (List Int)=>(0≤s.1∧s.1≤n)∧Sq n s.2∧∀ i j:Int,0≤i→i < n→0≤j→j < n→(Rl s.2 i j↔if i < s.1 then Ad t a i j else Rl t i j)) (fun s=>(n - s.1).toNat) ⟨⟨by show (0:Int)≤0; omega,by show (0:Int)≤_; omega⟩,ht,fun i j i0 _ _ _=>by rw [if_neg (by dsimp only; omega)]⟩ ?_
 rintro ⟨b,o⟩ ⟨⟨b0,b1⟩,ho,hR⟩
 dsimp only at b0 b1 ho hR
 show Ok (L3 a b o) _
 rw [e3]
 refine od (fun hb=>?_) fun hb=>os ⟨rfl,os ⟨⟨⟨?_,?_⟩,ho,fun i i0 i1=>?_,fun m i j m0 m1 i0 i1 j0 j1 h1 h2=>?_⟩,?_⟩⟩
 ·refine ol (fun s:Int×List (List Int)=>(0≤s.1∧s.1≤n)∧Sq n s.2∧∀ i j:Int,0≤i→i < n→0≤j→j < n→(Rl s.2 i j↔if i < b∨i=b∧j < s.1 then Ad t a i j else Rl t i j)) (fun s=>(n - s.1).toNat) ⟨⟨by show (0:Int)≤0; omega,by show (0:Int)≤_; omega⟩,ho,fun i j i0 i1 j0 j1=>by
   rw [hR i j i0 i1 j0 j1]
   by_cases e:i < b
   ·rw [if_pos e,if_pos (.inl e)]
   ·rw [if_neg e,if_neg (by dsimp only; omega)]⟩ ?_
  rintro ⟨d,o⟩ ⟨⟨d0,d1⟩,ho,hR⟩
  dsimp only at d0 d1 ho hR
  have hl:=ho.len
  have rowl:∀ i:Int,0≤i→i < n→(gr o i).length=n:=fun i i0 i1=>ho.row _ (gr_mem i0 (by omega))
  show Ok (L4 a b d o) _
  rw [e4]
  have col:Rl o b a↔Rl t b a:=by
   rw [hR b a b0 hb a0 ha]
   split
   ·exact ⟨fun h=>h.elim id fun h=>h.1,fun h=>.inl h⟩
   ·exact Iff.rfl
  have row:d < n→(Rl o a d↔Rl t a d):=fun hd=>by
   rw [hR a d a0 ha d0 hd]
   split
   ·exact ⟨fun h=>h.elim id fun h=>h.2,fun h=>.inl h⟩
   ·exact Iff.rfl
  refine od (fun hd=>?_) fun hd=>os ⟨rfl,os ⟨⟨⟨?_,?_⟩,ho,fun i j i0 i1 j0 j1=>?_⟩,?_⟩⟩
  ·have hw:=w1 d0 hd (by omega)
   have hrow:=row hd
   have lb:=rowl b b0 hb
   have la:=rowl a a0 ha
   refine ob (P:=fun g=>g=true↔(Rl t b a∧Rl t a d)) (oe (idx_gr b0 (by omega)) (oe (cU a0 (by omega)) (oc (fun e1=>oe (idx_gr a0 (by omega)) (oe (cU d0 (by omega)) (os ?_))) fun e1=>os ?_))) fun g hg=>oc (fun e=>oe (idx_gr b0 (by omega)) (oe (cU d0 (by omega)) (os ⟨⟨⟨?_,?_⟩,sqSet ho (gr_mem b0 (by omega)) _ _ _,fun i j i0 i1 j0 j1=>?_⟩,?_⟩))) fun e=>os ⟨⟨⟨?_,?_⟩,ho,fun i j i0 i1 j0 j1=>?_⟩,?_⟩
   ·have h1:Rl o b a:=by unfold Rl; simpa using e1
    rw [← col,← hrow]
    exact ⟨fun h=>⟨h1,by unfold Rl; simpa using h⟩,fun h=>by have:=h.2; unfold Rl at this; simp [this]⟩
   ·have h1 : ¬ Rl o b a:=fun h=>by unfold Rl at h; rw [h] at e1; simp at e1
    rw [← col]
    exact ⟨fun h=>(by cases h),fun h=>absurd h.1 h1⟩
   ·dsimp only; rw [hw]; omega
   ·dsimp only; rw [hw]; omega
   ·dsimp only
    rw [hw,Rl_set ho b0 hb d0 hd i0 j0,hR i j i0 i1 j0 j1]
    by_cases h:i=b∧j=d
    ·obtain ⟨h5,h6⟩:=h
     have hc:b < b∨b=b∧d < d+1:=.inr ⟨rfl,by omega⟩
     rw [h5,h6,if_pos hc]
     exact ⟨fun _=>.inr (hg.1 e),fun _=>.inl ⟨rfl,rfl⟩⟩
    ·by_cases h2:i < b∨i=b∧j < d
     ·rw [if_pos h2,if_pos (by omega)]
      exact ⟨fun h3=>h3.resolve_left h,fun h3=>.inr h3⟩
     ·rw [if_neg h2,if_neg (by omega)]
      exact ⟨fun h3=>h3.resolve_left h,fun h3=>.inr h3⟩
   ·dsimp only; rw [hw]; omega
   ·dsimp only; rw [hw]; omega
   ·dsimp only; rw [hw]; omega
   ·dsimp only
    rw [hw,hR i j i0 i1 j0 j1]
    by_cases h:i=b∧j=d
    ·obtain ⟨h5,h6⟩:=h
     have hc:b < b∨b=b∧d < d+1:=.inr ⟨rfl,by omega⟩
     rw [h5,h6,if_neg (by omega),if_pos hc]
     exact ⟨fun h3=>.inl h3,fun h3=>h3.resolve_right fun h4=>by have:=hg.2 h4; rw [e] at this; cases this⟩
    ·by_cases h2:i < b∨i=b∧j < d
     ·rw [if_pos h2,if_pos (by omega)]
     ·rw [if_neg h2,if_neg (by omega)]
   ·dsimp only; rw [hw]; omega
  ·dsimp only; rw [w1 b0 hb (by omega)]; omega
  ·dsimp only; rw [w1 b0 hb (by omega)]; omega
  ·dsimp only
   rw [w1 b0 hb (by omega),hR i j i0 i1 j0 j1]
   by_cases h:i < b+1
   ·rw [if_pos (by omega),if_pos h]
   ·rw [if_neg (by omega),if_neg h]
  ·dsimp only; rw [w1 b0 hb (by omega)]; omega
 ·dsimp only; rw [w1 a0 ha (by omega)]; omega
 ·dsimp only; rw [w1 a0 ha (by omega)]; omega
 ·dsimp only
  rw [hR i i i0 i1 i0 i1,if_pos (by omega)]
  exact .inl (re i i0 i1)
 ·dsimp only at m1 h1 h2 ⊢
  rw [w1 a0 ha (by omega)] at m1
  rw [hR i m i0 i1 m0 (by omega),if_pos (by omega)] at h1
  rw [hR m j m0 (by omega) j0 j1,if_pos (by omega)] at h2
  rw [hR i j i0 i1 j0 j1,if_pos (by omega)]
  by_cases hm:m < a
  ·rcases h1 with h1 | ⟨h1,h1'⟩
   ·rcases h2 with h2 | ⟨h2,h2'⟩
    ·exact .inl (tr m i j m0 hm i0 i1 j0 j1 h1 h2)
    ·exact .inr ⟨tr m i a m0 hm i0 i1 a0 ha h1 h2,h2'⟩
   ·rcases h2 with h2 | ⟨h2,h2'⟩
    ·exact .inr ⟨h1,tr m a j m0 hm a0 ha j0 j1 h1' h2⟩
    ·exact .inr ⟨h1,h2'⟩
  ·have e:m=a:=by omega
   rw [e] at h1 h2
   have g1:Rl t i a:=h1.elim id fun h=>h.1
   have g2:Rl t a j:=h2.elim id fun h=>h.2
   exact .inr ⟨g1,g2⟩
 ·dsimp only; rw [w1 a0 ha (by omega)]; omega
theorem relationTy {x:List Int} (B:Byt x) {s:aL} (S:Src x s) {n:Nat} (hn:n≤4):Ok (jA s n) fun y=>(Sq n y.1∧(∀ i:Int,0≤i→i < n→Rl y.1 i i)∧∀ i j k:Int,0≤i→i < n→0≤j→j < n→0≤k→k < n→Rl y.1 i j→Rl y.1 j k→Rl y.1 i k)∧Src x y.2:=by
 unfold jA
 refine orr (ol (fun z:List (List Int)×Int×Int×Int=>(0≤z.2.1∧z.2.1≤n)∧((z.1.length:Int)=z.2.1∧(∀ y∈z.1,y.length=n)∧∀ i:Int,0≤i→i < z.2.1→Rl z.1 i i)∧0≤z.2.2.1∧z.2.2.1≤x.length) (fun z=>(n - z.2.1).toNat)
  ⟨⟨by show (0:Int)≤0; omega,by show (0:Int)≤_; omega⟩,⟨rfl,nil_all,fun i h0 h1=>by dsimp only at h1; omega⟩,S.a0,S.a1⟩ ?_)
 rintro ⟨l,i,a,h⟩ ⟨⟨i0,i1⟩,⟨hl,hr,hre⟩,a0,a1⟩
 dsimp only at i0 i1 hl hr hre a0 a1
 show Ok (lD s n l i a h) _
 unfold lD
 refine od (fun hi=>?_) fun hi=>os ⟨rfl,?_⟩
 ·have hw:=w1 i0 hi (by omega)
  refine omk (by omega) (by omega) (by omega) (oi i0 (by rw [List.length_replicate]; omega) fun _ _=>?_)
  refine ol (fun z:Int×Int×Int×List Int=>(i < z.1∧z.1≤n)∧(0≤z.2.1∧z.2.1≤x.length)∧z.2.2.2.length=n∧gi z.2.2.2 i=1) (fun z=>(n - z.1).toNat) ⟨⟨?_,?_⟩,⟨a0,a1⟩,?_,?_⟩ ?_
  ·dsimp only; rw [hw]; omega
  ·dsimp only; rw [hw]; omega
  ·show (List.set _ _ _).length=n; rw [List.length_set,List.length_replicate]; omega
  ·dsimp only; rw [gi_setI i0 (by rw [List.length_replicate]; omega) i0,if_pos rfl]
  rintro ⟨j,a,h,o⟩ ⟨⟨j0,j1⟩,⟨a0,a1⟩,ho,hoi⟩
  dsimp only at j0 j1 a0 a1 ho hoi
  show Ok (lC s n j a h o) _
  unfold lC
  refine od (fun hj=>?_) fun hj=>os ⟨rfl,?_⟩
  ·have hwj:=w1 (i:=j) (by omega) hj (by omega)
   refine ob (nextOk B (S.at_ a0 a1) _) fun y hy=>oi (by omega) (by omega) fun _ _=>os ⟨⟨⟨?_,?_⟩,⟨hy.2.a0,hy.2.a1⟩,?_,?_⟩,?_⟩
   ·dsimp only; rw [hwj]; omega
   ·dsimp only; rw [hwj]; omega
   ·dsimp only; rw [List.length_set]; exact ho
   ·dsimp only; rw [gi_setI (by omega) (by omega) i0,if_neg (by omega)]; exact hoi
   ·dsimp only; rw [hwj]; omega
  ·refine oft (by omega) (by omega) (os ⟨⟨⟨?_,?_⟩,⟨?_,app_all hr ho,fun i' h0 h1=>?_⟩,a0,a1⟩,?_⟩)
   ·dsimp only; rw [hw]; omega
   ·dsimp only; rw [hw]; omega
   ·dsimp only; rw [hw,List.length_append,List.length_singleton]; omega
   ·dsimp only at h1 ⊢
    rw [hw] at h1
    unfold Rl
    rw [gr_app h0]
    by_cases e:i' < i
    ·rw [if_pos (by omega)]; exact hre i' h0 e
    ·rw [if_neg (by omega),if_pos (by omega),show i'=i by omega]; exact hoi
   ·dsimp only; rw [hw]; omega
 ·have hq:Sq n l:=⟨by omega,hr⟩
  have hq2:∀ i:Int,0≤i→i < n→Rl l i i:=fun i h0 h1=>hre i h0 (by omega)
  refine od (fun h1=>?_) fun h1=>?_
  ·refine ob (nextOk B (S.at_ a0 a1) _) fun y hy=>oc (fun _=>?_) fun _=>?_
   ·rw [eX (a:=(n:Int) - 1) (by omega) (by omega)]
    refine oe (idx_gr (by omega) (by omega)) ?_
    have he':=hr _ (gr_mem (l:=l) (j:=(n:Int) - 1) (by omega) (by omega))
    refine ob (nextOk B (S.on hy.2) _) fun z hz=>?_
    have hz1:=hz.1.2 (by omega)
    refine oe (cU hz.1.1 (by omega)) ?_
    exact closeTy hn (L2:=fun a t=>oU n a t) (L3:=fun a b t=>oT n a b t) (L4:=fun a b d t=>oS n a b d t) (fun _ _=>rfl) (fun _ _ _=>rfl) (fun _ _ _ _=>rfl) (sqSet hq (gr_mem (l:=l) (j:=(n:Int) - 1) (by omega) (by omega)) _ _ _) (fun i h0 h1=>(Rl_set hq (by omega) (by omega) hz.1.1 hz1 h0 h0).2 (.inr (hq2 i h0 h1))) fun t ht r1 r2=>os ⟨⟨ht,r1,r2⟩,S.on hz.2⟩
   ·exact closeTy hn (L2:=fun a t=>oX n a t) (L3:=fun a b t=>oW n a b t) (L4:=fun a b d t=>oV n a b d t) (fun _ _=>rfl) (fun _ _ _=>rfl) (fun _ _ _ _=>rfl) hq hq2 fun t ht r1 r2=>os ⟨⟨ht,r1,r2⟩,S.on hy.2⟩
  ·exact closeTy hn (L2:=fun a t=>oZ n a t) (L3:=fun a b t=>oY n a b t) (L4:=fun a b d t=>nV n a b d t) (fun _ _=>rfl) (fun _ _ _=>rfl) (fun _ _ _ _=>rfl) hq hq2 fun t ht r1 r2=>os ⟨⟨ht,r1,r2⟩,S.at_ a0 a1⟩
end Go.Proofs.YtkhdhnpokfibjaaGreat
namespace Go.Proofs.YtkhdhnpokfibjaaGreat
open Go Go.Li
def joinF (c d:aI):List Int:=(sumC c d).aG++tab2 c.aD.toNat d.aD.toNat fun x _=>x
def joinT (c d:aI):List Int:=(sumC c d).To++tab2 c.aD.toNat d.aD.toNat fun _ y=>c.aD+y
def joinCell (c d:aI) (f g:Int):Int:=
 if gi (joinT c d) f≠gi (joinF c d) g then -1 else if f < (sumC c d).aG.length∧g < (sumC c d).aG.length then gk (sumC c d).aF f g
 else (sumC c d).aG.length+gi (joinF c d) f * d.aD+gi (joinT c d) g - c.aD
def joinC (c d:aI):aI:=
 ⟨c.aD+d.aD,joinF c d,joinT c d,(sumC c d).aJ,mapI (joinF c d).length fun f=>mapI (joinF c d).length fun g=>joinCell c d f g⟩
section
variable {c d:aI} (T:Ty c) (U:Ty d)
include T U
theorem joinF_len:(joinF c d).length=(sumC c d).aG.length+c.aD.toNat * d.aD.toNat:=by
 have _:=T
 have _:=U
 unfold joinF; rw [List.length_append,tab2_length]
theorem joinT_len:(joinT c d).length=(joinF c d).length:=by
 unfold joinT; rw [List.length_append,tab2_length,joinF_len T U,(sumTy T U).tl]
theorem join_F1 {f:Int} (f0:0≤f) (f1:f < (sumC c d).aG.length):gi (joinF c d) f=gi (sumC c d).aG f:=by
 have _:=T
 have _:=U
 unfold joinF; rw [gi_cat f0,if_pos f1]
theorem join_T1 {f:Int} (f0:0≤f) (f1:f < (sumC c d).aG.length):gi (joinT c d) f=gi (sumC c d).To f:=by
 unfold joinT; rw [gi_cat f0,if_pos (by rw [(sumTy T U).tl]; exact f1)]
theorem join_F2 {x y:Int} (x0:0≤x) (x1:x < c.aD) (y0:0≤y) (y1:y < d.aD):gi (joinF c d) ((sumC c d).aG.length+(x * d.aD+y))=x:=by
 have _:=T
 have ht:((d.aD.toNat:Nat):Int)=d.aD:=Int.toNat_of_nonneg U.o0
 have hp:=pair_lt x0 x1 y0 y1
 unfold joinF
 rw [gi_cat (by omega),if_neg (by omega),show ((sumC c d).aG.length:Int)+(x * d.aD+y) - (sumC c d).aG.length=x * d.aD+y by omega]
 have:=gi_tab2 (n:=c.aD.toNat) (m:=d.aD.toNat) (g:=fun x _=>x) x0 (by omega) y0 (by omega)
 rwa [ht] at this
theorem join_T2 {x y:Int} (x0:0≤x) (x1:x < c.aD) (y0:0≤y) (y1:y < d.aD):gi (joinT c d) ((sumC c d).aG.length+(x * d.aD+y))=c.aD+y:=by
 have ht:((d.aD.toNat:Nat):Int)=d.aD:=Int.toNat_of_nonneg U.o0
 have hp:=pair_lt x0 x1 y0 y1
 have hl:=(sumTy T U).tl
 unfold joinT
 rw [gi_cat (by omega),if_neg (by omega),show ((sumC c d).aG.length:Int)+(x * d.aD+y) - (sumC c d).To.length=x * d.aD+y by omega]
 have:=gi_tab2 (n:=c.aD.toNat) (m:=d.aD.toNat) (g:=fun _ y=>c.aD+y) x0 (by omega) y0 (by omega)
 rwa [ht] at this
theorem join_or {f:Int} (f0:0≤f) (f1:f < (joinF c d).length):f < (sumC c d).aG.length∨∃ x y:Int,f=(sumC c d).aG.length+(x * d.aD+y)∧(0≤x∧x < c.aD)∧0≤y∧y < d.aD:=by
 have hl:=joinF_len T U
 have c0:=T.o0
 have ht:((d.aD.toNat:Nat):Int)=d.aD:=Int.toNat_of_nonneg U.o0
 by_cases h:f < (sumC c d).aG.length
 ·exact .inl h
 ·obtain ⟨x,y,hx,hy,e⟩:=split2I (n:=c.aD.toNat) (m:=d.aD.toNat) (k:=f - (sumC c d).aG.length) (by omega) (by omega)
  rw [ht] at hy e
  exact .inr ⟨x,y,by omega,⟨hx.1,by omega⟩,hy⟩
theorem join_in {x y:Int} (x0:0≤x) (x1:x < c.aD) (y0:0≤y) (y1:y < d.aD):0≤(sumC c d).aG.length+(x * d.aD+y)∧(sumC c d).aG.length+(x * d.aD+y) < (joinF c d).length:=by
 have hp:=pair_lt x0 x1 y0 y1
 have hl:=joinF_len T U
 have e:((c.aD.toNat * d.aD.toNat:Nat):Int)=c.aD * d.aD:=by
  rw [Int.natCast_mul,Int.toNat_of_nonneg T.o0,Int.toNat_of_nonneg U.o0]
 omega
theorem joinTy:Ty (joinC c d):=by
 have S:=sumTy T U
 have c0:=T.o0
 have d0:=U.o0
 have hl:=joinF_len T U
 have tl:=joinT_len T U
 have so:(sumC c d).aD=c.aD+d.aD:=rfl
 have rowK:∀ {p q:Int},0≤p→p < (joinF c d).length→0≤q→q < (joinF c d).length→gk (joinC c d).aF p q=joinCell c d p q:=fun p0 p1 q0 q1=>by
  show gi (gr (mapI _ _) _) _=_
  rw [gr_mapI p0 p1,gi_mapI q0 q1]
 have fr:∀ {p:Int},0≤p→p < (joinF c d).length→0≤gi (joinF c d) p∧gi (joinF c d) p < c.aD+d.aD:=fun p0 p1=>by
  rcases join_or T U p0 p1 with h | ⟨x,y,rfl,hx,hy⟩
  ·rw [join_F1 T U p0 h]; exact S.fr p0 h
  ·rw [join_F2 T U hx.1 hx.2 hy.1 hy.2]; omega
 have to:∀ {p:Int},0≤p→p < (joinF c d).length→0≤gi (joinT c d) p∧gi (joinT c d) p < c.aD+d.aD:=fun p0 p1=>by
  rcases join_or T U p0 p1 with h | ⟨x,y,rfl,hx,hy⟩
  ·rw [join_T1 T U p0 h]; exact S.to p0 h
  ·rw [join_T2 T U hx.1 hx.2 hy.1 hy.2]; omega
 refine ⟨by show 0≤c.aD+d.aD; omega,fun y hy=>?_,tl,fun y hy=>?_,dP _ _,fun r hr=>?_,S.il,fun y hy=>?_,fun y y0 y1=>?_,fun y y0 y1=>?_,fun p q p0 p1 q0 q1 e=>?_,fun p q p0 p1 q0 q1 e=>?_,fun y y0 y1=>?_⟩
 ·obtain ⟨i,i0,i1,rfl⟩:=mem_gi hy
  exact fr i0 i1
 ·obtain ⟨i,i0,i1,rfl⟩:=mem_gi hy
  exact to i0 (by have i1:i < (joinT c d).length:=i1; omega)
 ·obtain ⟨i,hi,rfl⟩:=mapI_mem.1 hr
  exact dP _ _
 ·have:=S.i y hy
  show 0≤y∧y < (joinF c d).length
  omega
 ·have:=S.id y0 y1
  show gi (joinF c d) _=y
  rw [show (joinC c d).aJ=(sumC c d).aJ from rfl,join_F1 T U this.1 this.2]; exact S.idf y y0 y1
 ·have:=S.id y0 y1
  show gi (joinT c d) _=y
  rw [show (joinC c d).aJ=(sumC c d).aJ from rfl,join_T1 T U this.1 this.2]; exact S.idt y y0 y1
 ·have p1:p < (joinF c d).length:=p1
  have q1:q < (joinF c d).length:=q1
  have e:gi (joinT c d) p=gi (joinF c d) q:=e
  rw [rowK p0 p1 q0 q1]
  unfold joinCell
  rw [if_neg (fun h=>h e)]
  show (_∧_ < ((joinF c d).length:Int))∧gi (joinF c d) _=gi (joinF c d) p∧gi (joinT c d) _=gi (joinT c d) q
  rcases join_or T U p0 p1 with hp | ⟨x,y,rfl,hx,hy⟩
  ·rcases join_or T U q0 q1 with hq | ⟨x',y',rfl,hx',hy'⟩
   ·rw [if_pos ⟨hp,hq⟩]
    rw [join_T1 T U p0 hp,join_F1 T U q0 hq] at e
    have:=S.cell p q p0 hp q0 hq e
    rw [join_F1 T U this.1.1 this.1.2,join_T1 T U this.1.1 this.1.2,join_F1 T U p0 hp,join_T1 T U q0 hq]
    exact ⟨⟨this.1.1,by omega⟩,this.2.1,this.2.2⟩
   ·rw [join_T1 T U p0 hp,join_F2 T U hx'.1 hx'.2 hy'.1 hy'.2] at e
    have hp2:=pair_lt hx'.1 hx'.2 hy'.1 hy'.2
    rw [if_neg (by omega),join_F1 T U p0 hp,join_T2 T U hx'.1 hx'.2 hy'.1 hy'.2]
    rcases sum_or T U p0 hp with hp' | ⟨r,rfl,r0,r1⟩
    ·have h1:=T.fr p0 hp'
     rw [sum_F1 T U p0 hp']
     have hi:=join_in T U h1.1 h1.2 hy'.1 hy'.2
     rw [show ((sumC c d).aG.length:Int)+gi c.aG p * d.aD+(c.aD+y') - c.aD=(sumC c d).aG.length+(gi c.aG p * d.aD+y') by omega,join_F2 T U h1.1 h1.2 hy'.1 hy'.2,join_T2 T U h1.1 h1.2 hy'.1 hy'.2]
     exact ⟨hi,rfl,rfl⟩
    ·rw [sum_T2 T U r0 r1] at e
     have:=U.to r0 r1
     omega
  ·rcases join_or T U q0 q1 with hq | ⟨x',y',rfl,hx',hy'⟩
   ·rw [join_T2 T U hx.1 hx.2 hy.1 hy.2,join_F1 T U q0 hq] at e
    have hp:=pair_lt hx.1 hx.2 hy.1 hy.2
    rw [if_neg (by omega),join_F2 T U hx.1 hx.2 hy.1 hy.2,join_T1 T U q0 hq]
    rcases sum_or T U q0 hq with hq' | ⟨r,rfl,r0,r1⟩
    ·rw [sum_F1 T U q0 hq'] at e
     have:=T.fr q0 hq'
     omega
    ·have h1:=U.to r0 r1
     rw [sum_T2 T U r0 r1]
     have hi:=join_in T U hx.1 hx.2 h1.1 h1.2
     rw [show ((sumC c d).aG.length:Int)+x * d.aD+(gi d.To r+c.aD) - c.aD=(sumC c d).aG.length+(x * d.aD+gi d.To r) by omega,join_F2 T U hx.1 hx.2 h1.1 h1.2,join_T2 T U hx.1 hx.2 h1.1 h1.2]
     exact ⟨hi,rfl,by omega⟩
   ·rw [join_T2 T U hx.1 hx.2 hy.1 hy.2,join_F2 T U hx'.1 hx'.2 hy'.1 hy'.2] at e
    omega
 ·rw [rowK p0 p1 q0 q1]
  unfold joinCell
  rw [if_pos (show gi (joinT c d) p≠gi (joinF c d) q from e)]
 ·have k:=S.id (x:=y) y0 y1
  show gk (joinC c d).aF (gi (sumC c d).aJ y) (gi (sumC c d).aJ y)=gi (sumC c d).aJ y
  have hlt:gi (sumC c d).aJ y < (joinF c d).length:=by rw [hl]; omega
  rw [rowK k.1 hlt k.1 hlt]
  unfold joinCell
  rw [if_neg (by rw [join_T1 T U k.1 k.2,join_F1 T U k.1 k.2,S.idt y y0 y1,S.idf y y0 y1]; simp),if_pos ⟨k.2,k.2⟩]
  exact S.uu y y0 y1
theorem specJoin {a b a' b':Nat} (C:OkC a b c) (D:OkC a' b' d) (ha:a+a'≤100) (hb:b+b'≤100):iD c d=some (joinC c d):=by
 have S:=sumTy T U
 have c0:=T.o0
 have d0:=U.o0
 have co:=C.o
 have dO:=D.o
 have cm:=C.m
 have dm:=D.m
 have sl:=sum_len T U
 have stl:=S.tl
 obtain ⟨nc,hnc⟩ : ∃ n:Nat,c.aD=n:=⟨c.aD.toNat,by omega⟩
 obtain ⟨nd,hnd⟩ : ∃ n:Nat,d.aD=n:=⟨d.aD.toNat,by omega⟩
 have hmul:nc * nd≤100 * 100:=Nat.mul_le_mul (by omega) (by omega)
 have jl:=joinF_len T U
 have jt:=joinT_len T U
 rw [hnc,hnd,Int.toNat_natCast,Int.toNat_natCast] at jl
 unfold iD
 rw [specSum C D T U (by omega) (by omega),aH]
 refine (congrArg retM (flat_loop (β:=Int×Int) nc nd (fun x y=>(x,c.aD+y)) [] (fun acc i=>((i:Int),(sumC c d).aG++acc.map (·.1),(sumC c d).To++acc.map (·.2))) ?_ ?_ ?_)).trans ?_
 ·show ((0:Int),_++[],_++[])=_; rw [List.append_nil,List.append_nil]
 ·intro i acc hi hl
  simp only [List.length_nil,Nat.zero_add] at hl
  have hm:i * nd≤100 * 100:=Nat.mul_le_mul (by omega) (by omega)
  show gH c d (i:Int) _ _=_
  unfold gH
  rw [decT (by omega:(i:Int) < c.aD),cond_true]
  refine (app_loop (β:=Int×Int) nd (fun y=>((i:Int),c.aD+y)) acc (fun acc j=>((j:Int),(sumC c d).aG++acc.map (·.1),(sumC c d).To++acc.map (·.2))) rfl ?_ ?_).trans ?_
  ·intro j acc' hj hl'
   show gG c d (i:Int) (j:Int) _ _=_
   unfold gG
   rw [decT (by omega:(j:Int) < d.aD),cond_true,fA (by rw [List.length_append,List.length_map]; omega) (by rw [List.length_append,List.length_map]; omega),aH,fA (by rw [List.length_append,List.length_map]; omega) (by rw [List.length_append,List.length_map]; omega),aH,cP (by omega),eX (by omega) (by omega)]
   simp only [List.map_append,List.map_cons,List.map_nil,List.append_assoc]
  ·intro acc' _
   show gG c d (i:Int) _ _ _=_
   unfold gG
   rw [decF (by omega),cond_false]
  ·dsimp only
   rw [cP (by omega)]
 ·intro acc _
  show gH c d _ _ _=_
  unfold gH
  rw [decF (by omega),cond_false]
 dsimp only
 rw [List.nil_append,tab2_map,tab2_map]
 have eF:(sumC c d).aG++tab2 nc nd (fun a b=>((a:Int),c.aD+b).1)=joinF c d:=by unfold joinF; rw [hnc,hnd]; rfl
 have eT:(sumC c d).To++tab2 nc nd (fun a b=>((a:Int),c.aD+b).2)=joinT c d:=by unfold joinT; rw [hnc,hnd]; rfl
 rw [eF,eT]
 refine (congrArg retM (map_loop (joinF c d).length (fun f=>mapI (joinF c d).length fun g=>joinCell c d f g) (fun acc i=>(acc,(i:Int))) rfl ?_ ?_)).trans ?_
 ·intro i acc hi hl
  show gJ c d (sumC c d) (joinF c d) (joinT c d) acc (i:Int)=_
  unfold gJ
  rw [decT (by omega:(i:Int) < ((joinF c d).length:Int)),cond_true]
  refine (map_loop (joinF c d).length (fun g=>joinCell c d i g) (fun acc j=>(acc,(j:Int))) rfl ?_ ?_).trans ?_
  ·intro j r hj hr
   have i0:(0:Int)≤i:=by omega
   have i1:(i:Int) < (joinF c d).length:=by omega
   have j0:(0:Int)≤j:=by omega
   have j1:(j:Int) < (joinF c d).length:=by omega
   have J:=joinTy T U
   have bf:0≤gi (joinF c d) i∧gi (joinF c d) i < c.aD+d.aD:=J.fr i0 i1
   have bt:0≤gi (joinT c d) j∧gi (joinT c d) j < c.aD+d.aD:=J.to j0 j1
   have hm:0≤gi (joinF c d) i * d.aD∧gi (joinF c d) i * d.aD≤100 * 100:=mul_bd bf.1 (by omega) d0 (by omega)
   show gI c d (sumC c d) (joinF c d) (joinT c d) (i:Int) r (j:Int)=_
   unfold gI joinCell
   rw [decT j1,cond_true,cU i0 (by omega),aH,cU j0 j1,aH]
   by_cases e:gi (joinT c d) i=gi (joinF c d) j
   ·rw [bneF e,cond_false,if_neg (fun h=>h e)]
    have tail:∀ v:Int,v=(sumC c d).aG.length+gi (joinF c d) i * d.aD+gi (joinT c d) j - c.aD→(idx (joinF c d) (i:Int)>>=fun e468=>(idx (joinT c d) (j:Int))>>=fun e470=>(fits 8 (r.length+1))>>=fun _=>some (Out.norm (r++[w64 (w64 (w64 (((sumC c d).aG.length:Int)+w64 (e468 * d.aD))+e470) - c.aD)],w64 ((j:Int)+1)):Out (List Int×Int) aI))=some (.norm (r++[v],((j+1:Nat):Int))):=by
     intro v hv
     rw [cU i0 i1,aH,cU j0 (by omega),aH,fA (by omega) (by omega),aH,cP (by omega),eX (a:=gi (joinF c d) i * d.aD) (by omega) (by omega),eX (a:=((sumC c d).aG.length:Int)+gi (joinF c d) i * d.aD) (by omega) (by omega),eX (a:=((sumC c d).aG.length:Int)+gi (joinF c d) i * d.aD+gi (joinT c d) j) (by omega) (by omega),eX (by omega) (by omega),hv]
    by_cases h1:(i:Int) < (sumC c d).aG.length
    ·rw [decT h1,cond_true,aH]
     by_cases h2:(j:Int) < (sumC c d).aG.length
     ·rw [decT h2,cond_true,S.idxK i0 h1,aH,S.idxC i0 h1 j0 h2,aH,fA (by omega) (by omega),aH,cP (by omega),if_pos ⟨h1,h2⟩]
     ·rw [decF h2,cond_false,if_neg (fun h=>h2 h.2)]
      exact tail _ rfl
    ·rw [decF h1,cond_false,aH,cond_false,if_neg (fun h=>h1 h.1)]
     exact tail _ rfl
   ·rw [bneT e,cond_true,fA (by omega) (by omega),aH,cP (by omega),if_pos e]
  ·intro r _
   show gI c d (sumC c d) (joinF c d) (joinT c d) (i:Int) r _=_
   unfold gI
   rw [decF (by omega),cond_false]
  ·dsimp only
   rw [fA (by omega) (by omega),aH,cP (by omega)]
 ·intro acc _
  show gJ c d (sumC c d) (joinF c d) (joinT c d) acc _=_
  unfold gJ
  rw [decF (by omega),cond_false]
 ·rfl
end
end Go.Proofs.YtkhdhnpokfibjaaGreat
