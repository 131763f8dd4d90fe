/- Drawn categories have the form of tables of categories: the families. No condition beside those that each theorem names. -/
import Derived.Test.YtilhlobfebngdaaGreatYy
import Derived.Test.YtilhlobfebngdaaGreatYt
import Derived.Test.YtilhlobfebngdaaGreatYw
import Derived.Test.YtilhlobfebngdaaGreatVc
import Derived.Test.YtilhlobfebngdaaGreatVj
set_option linter.unusedVariables false
set_option linter.unusedSimpArgs false
namespace Go.Proofs.YtilhlobfebngdaaGreat
open Go Go.Li
theorem Ok.and {α:Type} {m:Option α} {P Q:α→Prop} (h:Ok m P) (k:Ok m Q):Ok m fun x=>P x∧Q x:=by
 obtain ⟨x,e,hx⟩:=h
 obtain ⟨y,e',hy⟩:=k
 rw [e] at e'
 cases e'
 exact ⟨x,e,hx,hy⟩
theorem LW:Ok (fE [[(1:Int)]]) fun c=>j7 1 4 c∧Ty c:=
 (zr (n:=1) (by omega) sq1 (fun i h0 h1=>by rw [show i=0 by omega]; rfl) (fun i j k i0 i1 j0 j1 k0 k1 _ _=>by rw [show i=0 by omega,show k=0 by omega]; rfl)).mono fun c hc=>hc
theorem LX {c d:aF} (C:j7 1 4 c) (D:j7 1 4 d) (T:Ty c) (U:Ty d):Ok (jS c d) fun e=>j7 2 12 e∧Ty e:=
 Ok.and (aaS C D) ⟨_,UA T U C D (by omega) (by omega),RD T U⟩
section
variable {x:List Int} (B:yT x)
include B
theorem CV {s:aJ} (S:Src x s):Ok (jK s) fun y=>(j7 4 20 y.1∧Ty y.1)∧Src x y.2:=by
 unfold jK
 refine ie (ob (dk B S _) fun y hy=>?_)
 have T:=S.on (h:=y.2.an) hy.2
 refine oc (fun _=>?_) fun _=>oc (fun _=>?_) fun _=>oc (fun _=>?_) fun _=>oc (fun _=>?_) fun _=>oc (fun _=>?_) fun _=>oc (fun _=>?_) fun _=>oc (fun _=>?_) fun _=>oc (fun _=>?_) fun _=>oc (fun _=>?_) fun _=>oc (fun _=>?_) fun _=>oc (fun _=>?_) fun _=>?_
 ·refine ob (dk B T _) fun z hz=>?_
  have h:=hz.1.2 (by omega)
  obtain ⟨n,hn⟩ : ∃ n:Nat,z.1=n:=⟨z.1.toNat,by have:=hz.1.1; omega⟩
  rw [hn]
  refine ob (Hk B (S.on hz.2) (n:=n) (by omega)) fun r hr=>ob (zr (by omega) hr.1.1 hr.1.2.1 hr.1.2.2) fun c hc=>os ⟨⟨hc.1.mono (by omega) (by omega),hc.2⟩,S.on hr.2⟩
 ·exact ob (zr (n:=2) (by omega) ⟨rfl,by simp⟩ (fun i h0 h1=>by rcases (by omega:i=0∨i=1) with rfl | rfl <;> decide) (fun i j k i0 i1 j0 j1 k0 k1=>by rcases (by omega:i=0∨i=1) with rfl | rfl <;> rcases (by omega:j=0∨j=1) with rfl | rfl <;> rcases (by omega:k=0∨k=1) with rfl | rfl <;> decide)) fun c hc=>os ⟨⟨hc.1.mono (by omega) (by omega),hc.2⟩,T⟩
 ·exact ob (zr (n:=3) (by omega) ⟨rfl,by simp⟩ (fun i h0 h1=>by rcases (by omega:i=0∨i=1∨i=2) with rfl | rfl | rfl <;> decide) (fun i j k i0 i1 j0 j1 k0 k1=>by rcases (by omega:i=0∨i=1∨i=2) with rfl | rfl | rfl <;> rcases (by omega:j=0∨j=1∨j=2) with rfl | rfl | rfl <;> rcases (by omega:k=0∨k=1∨k=2) with rfl | rfl | rfl <;> decide)) fun c hc=>os ⟨⟨hc.1.mono (by omega) (by omega),hc.2⟩,T⟩
 ·have hd:∀ (k:Nat) (u v:Int),[(0:Int),0][k]? = some u→[(1:Int),1][k]? = some v→0≤u∧u < v∧v < 2:=fun k u v hu hv=>by
   rcases k with _ | _ | k <;> simp at hu hv <;> omega
  exact ob (Ok.and (HZ (n:=2) (f:=[0,0]) (t:=[1,1]) ⟨rfl,by decide,hd⟩ (by omega) (by omega)) (H0 (n:=2) (.inl rfl) rfl (by decide) hd)) fun c hc=>os ⟨⟨hc.1.mono (by omega) (by omega),hc.2⟩,T⟩
 ·refine ob (FX B T) fun m hm=>?_
  obtain ⟨⟨n,n1,hn,hq,hb⟩,hs⟩:=hm
  exact ob (CW n1 hn hq hb.1 hb.2) fun c hc=>os ⟨⟨hc.1.mono (by omega) (by omega),hc.2⟩,S.on hs⟩
 ·refine ob (dk B T _) fun z hz=>?_
  have h:=hz.1.2 (by omega)
  have h0:=hz.1.1
  obtain ⟨n,hn,V7⟩ : ∃ n:Nat,aj ((1:Int)+z.1)=n∧n≤4:=⟨(1+z.1).toNat,by rw [eH (by omega) (by omega)]; omega,by omega⟩
  refine ol (fun w:List (List Int)×Int=>(0≤w.2∧w.2≤n)∧(w.1.length:Int)=w.2∧∀ y∈w.1,y.length=n∧∀ z∈y,z=1) (fun w=>(n - w.2).toNat) ⟨⟨by show (0:Int)≤0; omega,by show (0:Int)≤_; omega⟩,rfl,ei⟩ ?_
  rintro ⟨l,i⟩ ⟨⟨i0,i1⟩,hl,hr⟩
  dsimp only at i0 i1 hl hr
  show Ok (pH z l i) _
  unfold pH
  rw [hn]
  refine od (fun hi=>?_) fun hi=>os ⟨rfl,?_⟩
  ·refine ol (fun w:List Int×Int=>(0≤w.2∧w.2≤n)∧(w.1.length:Int)=w.2∧∀ z∈w.1,z=1) (fun w=>(n - w.2).toNat) ⟨⟨by show (0:Int)≤0; omega,by show (0:Int)≤_; omega⟩,rfl,ei⟩ ?_
   rintro ⟨row,j⟩ ⟨⟨j0,j1⟩,bd,vW⟩
   dsimp only at j0 j1 bd vW
   show Ok (pG z row j) _
   unfold pG
   rw [hn]
   refine od (fun hj=>?_) fun hj=>os ⟨rfl,?_⟩
   ·have hw:=w1 j0 hj (by omega)
    refine dt (by omega) (by omega) (os ⟨⟨⟨?_,?_⟩,?_,ew vW rfl⟩,?_⟩) <;> dsimp only <;> rw [hw] <;> (try simp only [List.length_append,List.length_singleton]) <;> omega
   ·have hw:=w1 i0 hi (by omega)
    refine dt (by omega) (by omega) (os ⟨⟨⟨?_,?_⟩,?_,ew hr ⟨by omega,vW⟩⟩,?_⟩) <;> dsimp only <;> rw [hw] <;> (try simp only [List.length_append,List.length_singleton]) <;> omega
  ·have fq:∀ a b:Int,0≤a→a < n→0≤b→b < n→gi (gr l a) b=1:=fun a b a0 a1 b0 b1=>by
    have h1:=hr _ (fy (l:=l) a0 (by omega))
    exact h1.2 _ (dc b0 (by omega))
   exact ob (zr V7 ⟨by omega,fun y hy=>(hr y hy).1⟩ (fun a a0 a1=>fq a a a0 a1 a0 a1) (fun a b c a0 a1 b0 b1 c0 c1 _ _=>fq a c a0 a1 c0 c1)) fun c hc=>os ⟨⟨hc.1.mono (by omega) (by omega),hc.2⟩,S.on hz.2⟩
 ·have hd:∀ (k:Nat) (u v:Int),[(0:Int),1,0][k]? = some u→[(1:Int),2,2][k]? = some v→0≤u∧u < v∧v < 3:=fun k u v hu hv=>by
   rcases k with _ | _ | _ | k <;> simp at hu hv <;> omega
  exact ob (Ok.and (HZ (n:=3) (f:=[0,1,0]) (t:=[1,2,2]) ⟨rfl,by decide,hd⟩ (by omega) (by omega)) (H0 (n:=3) (.inr (.inl rfl)) rfl (by decide) hd)) fun c hc=>os ⟨⟨hc.1.mono (by omega) (by omega),hc.2⟩,T⟩
 ·exact ob Xe fun c hc=>os ⟨⟨hc.1.mono (by omega) (by omega),hc.2⟩,T⟩
 ·refine ob (FX B T) fun m hm=>?_
  obtain ⟨⟨n,n1,hn,hq,hb⟩,hs⟩:=hm
  refine ob (CW n1 hn hq hb.1 hb.2) fun c hc=>ob LW fun d hd=>ob (LX hc.1 hd.1 hc.2 hd.2) fun e he=>ob (aaF he.1 he.2 (by omega) (by omega)) fun o ho=>os ⟨⟨ho.1.mono (by omega) (by omega),ho.2⟩,S.on hs⟩
 ·refine ob (FX B T) fun m hm=>?_
  obtain ⟨⟨n,n1,hn,hq,hb⟩,hs⟩:=hm
  refine ob (CW n1 hn hq hb.1 hb.2) fun c hc=>ob LW fun d hd=>ob (LX hc.1 hd.1 hc.2 hd.2) fun e he=>os ⟨⟨he.1.mono (by omega) (by omega),he.2⟩,S.on hs⟩
 ·refine ob (dk B T _) fun z hz=>?_
  have h:=hz.1.2 (by omega)
  have h0:=hz.1.1
  obtain ⟨n,hn,V7⟩ : ∃ n:Nat,aj ((2:Int)+z.1)=n∧n≤4:=⟨(2+z.1).toNat,by rw [eH (by omega) (by omega)]; omega,by omega⟩
  rw [hn]
  exact ob (Hk B (S.on hz.2) V7) fun r hr=>ob (zr V7 hr.1.1 hr.1.2.1 hr.1.2.2) fun c hc=>os ⟨⟨hc.1.mono (by omega) (by omega),hc.2⟩,S.on hr.2⟩
 ·refine ob (dk B T _) fun z hz=>?_
  have h:=hz.1.2 (by omega)
  have h0:=hz.1.1
  have hn:aj ((2:Int)+z.1)=2+z.1:=eH (by omega) (by omega)
  refine ob (dk B (S.on hz.2) _) fun k hk=>?_
  have hk1:=hk.1.2 (by omega)
  have Ye:=hk.1.1
  refine ol (fun w:List Int×List Int×Int×Int×Int=>(0≤w.2.2.1∧w.2.2.1≤3)∧((w.1.length:Int)=k.1 - w.2.2.1∧w.2.1.length=w.1.length)∧(0≤w.2.2.2.1∧w.2.2.2.1≤x.length)∧∀ (i:Nat) u v,w.1[i]? = some u→w.2.1[i]? = some v→0≤u∧u < v∧v < 2+z.1) (fun w=>w.2.2.1.toNat)
   ⟨⟨Ye,by show k.1≤3; omega⟩,⟨by show (0:Int)=k.1 - k.1; omega,rfl⟩,⟨hk.2.a0,hk.2.a1⟩,fun i u v hu=>by simp at hu⟩ ?_
  rintro ⟨f,t,i,a,g⟩ ⟨⟨i0,i1⟩,⟨hf,ht⟩,⟨a0,a1⟩,hd⟩
  dsimp only at i0 i1 hf ht a0 a1 hd
  show Ok (pI s z f t i a g) _
  unfold pI
  rw [hn,eH (a:=2+z.1 - 1) (by omega) (by omega)]
  refine od (fun hi=>?_) fun hi=>os ⟨rfl,?_⟩
  ·refine ob (dk B (S.at_ a0 a1) _) fun u hu=>?_
   have u1:=hu.1.2 (by omega)
   have u0:=hu.1.1
   rw [eH (a:=2+z.1 - 1 - u.1) (by omega) (by omega)]
   refine dt (by omega) (by omega) (ob (dk B (S.on hu.2) _) fun v hv=>dt (by omega) (by omega) ?_)
   have v1:=hv.1.2 (by omega)
   have v0:=hv.1.1
   rw [eH (a:=u.1+1) (by omega) (by omega),eH (a:=u.1+1+v.1) (by omega) (by omega),eH (a:=i - 1) (by omega) (by omega)]
   refine os ⟨⟨⟨?_,?_⟩,⟨?_,?_⟩,⟨hv.2.a0,hv.2.a1⟩,?_⟩,?_⟩
   ·dsimp only; omega
   ·dsimp only; omega
   ·dsimp only; rw [List.length_append,List.length_singleton]; omega
   ·dsimp only; rw [List.length_append,List.length_append,ht]; rfl
   ·intro j p q hp hq
    dsimp only at hp hq
    by_cases hj:j < f.length
    ·rw [List.getElem?_append_left hj] at hp
     rw [List.getElem?_append_left (by omega)] at hq
     exact hd j p q hp hq
    ·have AL:=cc hp
     rw [List.length_append,List.length_singleton] at AL
     have ej:j=f.length:=by omega
     rw [List.getElem?_append_right (by omega),ej,Nat.sub_self] at hp
     rw [List.getElem?_append_right (by omega),ej,ht,Nat.sub_self] at hq
     have hp:=Option.some.inj hp
     have hq:=Option.some.inj hq
     omega
   ·dsimp only; omega
  ·obtain ⟨q,hq⟩ : ∃ q:Nat,2+z.1=q:=⟨(2+z.1).toNat,by omega⟩
   have ju:∀ (i:Nat) (u v:Int),f[i]? = some u→t[i]? = some v→0≤u∧u < v∧v < q:=fun i u v h1 h2=>by have:=hd i u v h1 h2; omega
   have hty:Ok (gJ (2+z.1) f t) Ty:=by rw [hq]; exact H0 (by omega) ht (by omega) ju
   exact ob (Ok.and (HZ (n:=2+z.1) (f:=f) (t:=t) ⟨ht,by omega,hd⟩ (by omega) (by omega)) hty) fun c hc=>os ⟨⟨hc.1.mono (by omega) (by omega),hc.2⟩,S.at_ a0 a1⟩
end
end Go.Proofs.YtilhlobfebngdaaGreat
set_option linter.unusedVariables false
set_option linter.unusedSimpArgs false
namespace Go.Proofs.YtilhlobfebngdaaGreat
open Go Go.Li
theorem Xf {c d:aF} {a b a' b':Nat} (C:j7 a b c) (D:j7 a' b' d) (T:Ty c) (U:Ty d) (ha:a+a'≤100000) (hb:b+b'≤100000):Ok (kQ c d) fun e=>j7 (a+a') (b+b') e∧Ty e:=
 (Ok.and (VT C D ha hb) ⟨_,NJ C D T U ha hb,EW T U⟩).mono fun _ h=>⟨h.1.1,h.2⟩
theorem LY {c d:aF} (C:j7 8 40 c) (D:j7 4 20 d) (T:Ty c) (U:Ty d):Ok (gO c d) fun e=>j7 32 800 e∧Ty e:=by
 have co:=C.o
 have cm:=C.m
 have dO:=D.o
 have dm:=D.m
 exact Ok.and (Rm C D) ⟨_,Mt T U (by omega) (by omega) (by omega) (by omega),abD T U⟩
section
variable {x:List Int} (B:yT x)
include B
theorem B5 {s:aJ} (S:Src x s) (o m:Int):Ok (iN s o m) fun y=>(j7 8 800 y.1∧Ty y.1∧((y.1.aA≤o∧(y.1.aE.length:Int)≤m)∨j7 1 4 y.1))∧Src x y.2:=by
 unfold iN
 refine ie (ol (fun z:Int×Int×Int=>(0≤z.1∧z.1≤12)∧0≤z.2.1∧z.2.1≤x.length) (fun z=>(12 - z.1).toNat) ⟨⟨by show (0:Int)≤0; omega,by show (0:Int)≤12; omega⟩,S.a0,S.a1⟩ ?_)
 rintro ⟨i,a,h⟩ ⟨⟨i0,i1⟩,a0,a1⟩
 dsimp only at i0 i1 a0 a1
 show Ok (qZ s o m i a h) _
 unfold qZ
 have last:∀ (c:aF) (t:aJ) (a b:Nat),b≤800→j7 a b c→Ty c→Src x t→∀ {E:Int×Int×Int→Prop} {G:aF×aJ→Prop},(∀ c t,j7 8 800 c→Ty c→(c.aA≤o∧(c.aE.length:Int)≤m)→Src x t→G (c,t))→i < 12→
   Ok (((bif decide (c.aA≤o) then (bif decide ((c.aE.length:Int)≤m) then ((dT c)>>=fun y=>some y) else some false) else some false)>>=fun g=>(bif g then (some (Out.ret (c,aJ.mk s.Code t.At t.an))) else (some (Out.norm (aj (i+1),t.At,t.an))))))
    (IW (S1:=Int×Int×Int) 0 (fun z:Int×Int×Int=>(0≤z.1∧z.1≤12)∧0≤z.2.1∧z.2.1≤x.length) (fun z=>(12 - z.1).toNat) (12 - i).toNat E G):=by
  intro c t a b hb hc hty ht E G hG hi
  have fits:Ok (dT c) fun y=>y=true→c.aA≤8:=by
   unfold dT
   exact ie (ob (P:=fun y=>y=true→c.aA≤8) (od (fun h=>os fun _=>h) fun _=>os fun h=>by cases h) fun y hy=>os hy)
  refine ob (P:=fun y=>y=true→c.aA≤8∧c.aA≤o∧(c.aE.length:Int)≤m) (od (fun ho=>od (fun hm=>ob fits fun y hy=>os fun h=>⟨hy h,ho,hm⟩) fun _=>os fun h=>by cases h) fun _=>os fun h=>by cases h) fun g hg=>oc (fun kn=>os ?_) fun _=>os ⟨⟨⟨?_,?_⟩,ht.a0,ht.a1⟩,?_⟩
  ·exact hG c _ ⟨hc.o0,(hg kn).1,Nat.le_trans hc.m hb,hc.t,hc.i,hc.k,hc.r⟩ hty (hg kn).2 (S.on ht)
  all_goals (try dsimp only)
  all_goals rw [w1 i0 hi (by omega)]
  all_goals omega
 refine od (fun hi=>?_) fun hi=>os ⟨rfl,ob LW fun c hc=>os ⟨⟨hc.1.mono (by omega) (by omega),hc.2,.inr hc.1⟩,S.at_ a0 a1⟩⟩
 refine ob (CV B (S.at_ a0 a1)) fun y hy=>ob (dk B (S.on hy.2) _) fun z hz=>oc (fun _=>?_) fun _=>?_
 ·refine ob (CV B (S.on hz.2)) fun u hu=>ob (Xf hy.1.1 hu.1.1 hy.1.2 hu.1.2 (by omega) (by omega)) fun v hv=>ob (dk B (S.on hu.2) _) fun w hw=>oc (fun _=>?_) fun _=>?_
  ·exact ob (CV B (S.on hw.2)) fun p hp=>ob (LY (hv.1.mono (by omega) (by omega)) hp.1.1 hv.2 hp.1.2) fun q hq=>last q p.2 32 800 (by omega) hq.1 hq.2 hp.2 (fun c t hc hy hb ht=>⟨⟨hc,hy,.inl hb⟩,ht⟩) hi
  ·exact last v w.2 8 40 (by omega) (hv.1.mono (by omega) (by omega)) hv.2 hw.2 (fun c t hc hy hb ht=>⟨⟨hc,hy,.inl hb⟩,ht⟩) hi
 ·refine ob (dk B (S.on hz.2) _) fun w hw=>oc (fun _=>?_) fun _=>?_
  ·exact ob (CV B (S.on hw.2)) fun p hp=>ob (LY (hy.1.1.mono (by omega) (by omega)) hp.1.1 hy.1.2 hp.1.2) fun q hq=>last q p.2 32 800 (by omega) hq.1 hq.2 hp.2 (fun c t hc hy hb ht=>⟨⟨hc,hy,.inl hb⟩,ht⟩) hi
  ·exact last y.1 w.2 4 20 (by omega) hy.1.1 hy.1.2 hw.2 (fun c t hc hy hb ht=>⟨⟨hc,hy,.inl hb⟩,ht⟩) hi
end
end Go.Proofs.YtilhlobfebngdaaGreat
