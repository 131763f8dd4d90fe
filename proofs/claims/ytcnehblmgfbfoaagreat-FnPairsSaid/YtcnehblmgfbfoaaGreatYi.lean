/- Drawn categories have the form of tables of categories: the families. No condition beside those that each theorem names. -/
import Derived.Test.YtcnehblmgfbfoaaGreatYy
import Derived.Test.YtcnehblmgfbfoaaGreatYt
import Derived.Test.YtcnehblmgfbfoaaGreatYw
import Derived.Test.YtcnehblmgfbfoaaGreatVc
import Derived.Test.YtcnehblmgfbfoaaGreatVj
set_option linter.unusedVariables false
set_option linter.unusedSectionVars false
set_option linter.unusedSimpArgs false
set_option linter.unusedVariables false
set_option linter.unusedSimpArgs false
namespace Go.Proofs.YtcnehblmgfbfoaaGreat
open Go Go.Li
theorem Ok.and {α:Type} {m:Option α} {P Q:α→Prop} (h:Ok m P) (k:Ok m Q):Ok m fun x=>P x∧Q x:=by
 obtain ⟨x,e,hx⟩:=h
 obtain ⟨y,e',hy⟩:=k
 rw [e] at e'
 cases e'
 exact ⟨x,e,hx,hy⟩
theorem Gw:Ok (cN [[(1:Int)]]) fun c=>jb 1 4 c∧Ty c:=
 (u3 (n:=1) (by omega) sq1 (fun i h0 h1=>by rw [show i=0 by omega]; rfl) (fun i j k i0 i1 j0 j1 k0 k1 _ _=>by rw [show i=0 by omega,show k=0 by omega]; rfl)).mono fun c hc=>hc
theorem Gx {c d:aD} (C:jb 1 4 c) (D:jb 1 4 d) (T:Ty c) (U:Ty d):Ok (fF c d) fun e=>jb 2 12 e∧Ty e:=
 Ok.and (TR C D) ⟨_,NY T U C D (by omega) (by omega),Lw T U⟩
section
variable {x:List Int} (B:vx x)
include B
theorem yD {s:aM} (S:Src x s):Ok (eW s) fun y=>(jb 4 20 y.1∧Ty y.1)∧Src x y.2:=by
 unfold eW
 refine km (ob (dw B S _) fun y hy=>?_)
 have T:=S.on (h:=y.2.av) hy.2
 refine oc (fun _=>?_) fun _=>oc (fun _=>?_) fun _=>oc (fun _=>?_) fun _=>oc (fun _=>?_) fun _=>oc (fun _=>?_) fun _=>oc (fun _=>?_) fun _=>oc (fun _=>?_) fun _=>oc (fun _=>?_) fun _=>oc (fun _=>?_) fun _=>oc (fun _=>?_) fun _=>oc (fun _=>?_) fun _=>?_
 ·refine ob (dw B T _) fun z hz=>?_
  have h:=hz.1.2 (by omega)
  obtain ⟨n,hn⟩ : ∃ n:Nat,z.1=n:=⟨z.1.toNat,by have:=hz.1.1; omega⟩
  rw [hn]
  refine ob (CK B (S.on hz.2) (n:=n) (by omega)) fun r hr=>ob (u3 (by omega) hr.1.1 hr.1.2.1 hr.1.2.2) fun c hc=>os ⟨⟨hc.1.mono (by omega) (by omega),hc.2⟩,S.on hr.2⟩
 ·exact ob (u3 (n:=2) (by omega) ⟨rfl,by simp⟩ (fun i h0 h1=>by rcases (by omega:i=0∨i=1) with rfl | rfl <;> decide) (fun i j k i0 i1 j0 j1 k0 k1=>by rcases (by omega:i=0∨i=1) with rfl | rfl <;> rcases (by omega:j=0∨j=1) with rfl | rfl <;> rcases (by omega:k=0∨k=1) with rfl | rfl <;> decide)) fun c hc=>os ⟨⟨hc.1.mono (by omega) (by omega),hc.2⟩,T⟩
 ·exact ob (u3 (n:=3) (by omega) ⟨rfl,by simp⟩ (fun i h0 h1=>by rcases (by omega:i=0∨i=1∨i=2) with rfl | rfl | rfl <;> decide) (fun i j k i0 i1 j0 j1 k0 k1=>by rcases (by omega:i=0∨i=1∨i=2) with rfl | rfl | rfl <;> rcases (by omega:j=0∨j=1∨j=2) with rfl | rfl | rfl <;> rcases (by omega:k=0∨k=1∨k=2) with rfl | rfl | rfl <;> decide)) fun c hc=>os ⟨⟨hc.1.mono (by omega) (by omega),hc.2⟩,T⟩
 ·have hd:∀ (k:Nat) (u v:Int),[(0:Int),0][k]? = some u→[(1:Int),1][k]? = some v→0≤u∧u < v∧v < 2:=fun k u v hu hv=>by
   rcases k with _ | _ | k <;> simp at hu hv <;> omega
  exact ob (Ok.and (Dc (n:=2) (f:=[0,0]) (t:=[1,1]) ⟨rfl,by decide,hd⟩ (by omega) (by omega)) (De (n:=2) (.inl rfl) rfl (by decide) hd)) fun c hc=>os ⟨⟨hc.1.mono (by omega) (by omega),hc.2⟩,T⟩
 ·refine ob (BB B T) fun m hm=>?_
  obtain ⟨⟨n,n1,hn,hq,hb⟩,hs⟩:=hm
  exact ob (yE n1 hn hq hb.1 hb.2) fun c hc=>os ⟨⟨hc.1.mono (by omega) (by omega),hc.2⟩,S.on hs⟩
 ·refine ob (dw B T _) fun z hz=>?_
  have h:=hz.1.2 (by omega)
  have h0:=hz.1.1
  obtain ⟨n,hn,Ph⟩ : ∃ n:Nat,ai ((1:Int)+z.1)=n∧n≤4:=⟨(1+z.1).toNat,by rw [bX (by omega) (by omega)]; omega,by omega⟩
  refine ol (fun w:List (List Int)×Int=>(0≤w.2∧w.2≤n)∧(w.1.length:Int)=w.2∧∀ y∈w.1,y.length=n∧∀ z∈y,z=1) (fun w=>(n - w.2).toNat) ⟨⟨by show (0:Int)≤0; omega,by show (0:Int)≤_; omega⟩,rfl,jv⟩ ?_
  rintro ⟨l,i⟩ ⟨⟨i0,i1⟩,hl,hr⟩
  dsimp only at i0 i1 hl hr
  show Ok (kC z l i) _
  unfold kC
  rw [hn]
  refine od (fun hi=>?_) fun hi=>os ⟨rfl,?_⟩
  ·refine ol (fun w:List Int×Int=>(0≤w.2∧w.2≤n)∧(w.1.length:Int)=w.2∧∀ z∈w.1,z=1) (fun w=>(n - w.2).toNat) ⟨⟨by show (0:Int)≤0; omega,by show (0:Int)≤_; omega⟩,rfl,jv⟩ ?_
   rintro ⟨row,j⟩ ⟨⟨j0,j1⟩,bb,tj⟩
   dsimp only at j0 j1 bb tj
   show Ok (kB z row j) _
   unfold kB
   rw [hn]
   refine od (fun hj=>?_) fun hj=>os ⟨rfl,?_⟩
   ·have hw:=w1 j0 hj (by omega)
    refine fw (by omega) (by omega) (os ⟨⟨⟨?_,?_⟩,?_,jw tj rfl⟩,?_⟩) <;> dsimp only <;> rw [hw] <;> (try simp only [List.length_append,List.length_singleton]) <;> omega
   ·have hw:=w1 i0 hi (by omega)
    refine fw (by omega) (by omega) (os ⟨⟨⟨?_,?_⟩,?_,jw hr ⟨by omega,tj⟩⟩,?_⟩) <;> dsimp only <;> rw [hw] <;> (try simp only [List.length_append,List.length_singleton]) <;> omega
  ·have dp:∀ a b:Int,0≤a→a < n→0≤b→b < n→gi (gr l a) b=1:=fun a b a0 a1 b0 b1=>by
    have h1:=hr _ (pq (l:=l) a0 (by omega))
    exact h1.2 _ (gw b0 (by omega))
   exact ob (u3 Ph ⟨by omega,fun y hy=>(hr y hy).1⟩ (fun a a0 a1=>dp a a a0 a1 a0 a1) (fun a b c a0 a1 b0 b1 c0 c1 _ _=>dp a c a0 a1 c0 c1)) fun c hc=>os ⟨⟨hc.1.mono (by omega) (by omega),hc.2⟩,S.on hz.2⟩
 ·have hd:∀ (k:Nat) (u v:Int),[(0:Int),1,0][k]? = some u→[(1:Int),2,2][k]? = some v→0≤u∧u < v∧v < 3:=fun k u v hu hv=>by
   rcases k with _ | _ | _ | k <;> simp at hu hv <;> omega
  exact ob (Ok.and (Dc (n:=3) (f:=[0,1,0]) (t:=[1,2,2]) ⟨rfl,by decide,hd⟩ (by omega) (by omega)) (De (n:=3) (.inr (.inl rfl)) rfl (by decide) hd)) fun c hc=>os ⟨⟨hc.1.mono (by omega) (by omega),hc.2⟩,T⟩
 ·exact ob Qk fun c hc=>os ⟨⟨hc.1.mono (by omega) (by omega),hc.2⟩,T⟩
 ·refine ob (BB B T) fun m hm=>?_
  obtain ⟨⟨n,n1,hn,hq,hb⟩,hs⟩:=hm
  refine ob (yE n1 hn hq hb.1 hb.2) fun c hc=>ob Gw fun d hd=>ob (Gx hc.1 hd.1 hc.2 hd.2) fun e he=>ob (aaK he.1 he.2 (by omega) (by omega)) fun o ho=>os ⟨⟨ho.1.mono (by omega) (by omega),ho.2⟩,S.on hs⟩
 ·refine ob (BB B T) fun m hm=>?_
  obtain ⟨⟨n,n1,hn,hq,hb⟩,hs⟩:=hm
  refine ob (yE n1 hn hq hb.1 hb.2) fun c hc=>ob Gw fun d hd=>ob (Gx hc.1 hd.1 hc.2 hd.2) fun e he=>os ⟨⟨he.1.mono (by omega) (by omega),he.2⟩,S.on hs⟩
 ·refine ob (dw B T _) fun z hz=>?_
  have h:=hz.1.2 (by omega)
  have h0:=hz.1.1
  obtain ⟨n,hn,Ph⟩ : ∃ n:Nat,ai ((2:Int)+z.1)=n∧n≤4:=⟨(2+z.1).toNat,by rw [bX (by omega) (by omega)]; omega,by omega⟩
  rw [hn]
  exact ob (CK B (S.on hz.2) Ph) fun r hr=>ob (u3 Ph hr.1.1 hr.1.2.1 hr.1.2.2) fun c hc=>os ⟨⟨hc.1.mono (by omega) (by omega),hc.2⟩,S.on hr.2⟩
 ·refine ob (dw B T _) fun z hz=>?_
  have h:=hz.1.2 (by omega)
  have h0:=hz.1.1
  have hn:ai ((2:Int)+z.1)=2+z.1:=bX (by omega) (by omega)
  refine ob (dw B (S.on hz.2) _) fun k hk=>?_
  have hk1:=hk.1.2 (by omega)
  have Rh:=hk.1.1
  refine ol (fun w:List Int×List Int×Int×Int×Int=>(0≤w.2.2.1∧w.2.2.1≤3)∧((w.1.length:Int)=k.1 - w.2.2.1∧w.2.1.length=w.1.length)∧(0≤w.2.2.2.1∧w.2.2.2.1≤x.length)∧∀ (i:Nat) u v,w.1[i]? = some u→w.2.1[i]? = some v→0≤u∧u < v∧v < 2+z.1) (fun w=>w.2.2.1.toNat)
   ⟨⟨Rh,by show k.1≤3; omega⟩,⟨by show (0:Int)=k.1 - k.1; omega,rfl⟩,⟨hk.2.a0,hk.2.a1⟩,fun i u v hu=>by simp at hu⟩ ?_
  rintro ⟨f,t,i,a,g⟩ ⟨⟨i0,i1⟩,⟨hf,ht⟩,⟨a0,a1⟩,hd⟩
  dsimp only at i0 i1 hf ht a0 a1 hd
  show Ok (kD s z f t i a g) _
  unfold kD
  rw [hn,bX (a:=2+z.1 - 1) (by omega) (by omega)]
  refine od (fun hi=>?_) fun hi=>os ⟨rfl,?_⟩
  ·refine ob (dw B (S.at_ a0 a1) _) fun u hu=>?_
   have u1:=hu.1.2 (by omega)
   have u0:=hu.1.1
   rw [bX (a:=2+z.1 - 1 - u.1) (by omega) (by omega)]
   refine fw (by omega) (by omega) (ob (dw B (S.on hu.2) _) fun v hv=>fw (by omega) (by omega) ?_)
   have v1:=hv.1.2 (by omega)
   have v0:=hv.1.1
   rw [bX (a:=u.1+1) (by omega) (by omega),bX (a:=u.1+1+v.1) (by omega) (by omega),bX (a:=i - 1) (by omega) (by omega)]
   refine os ⟨⟨⟨?_,?_⟩,⟨?_,?_⟩,⟨hv.2.a0,hv.2.a1⟩,?_⟩,?_⟩
   ·dsimp only; omega
   ·dsimp only; omega
   ·dsimp only; rw [List.length_append,List.length_singleton]; omega
   ·dsimp only; rw [List.length_append,List.length_append,ht]; rfl
   ·intro j p q hp hq
    dsimp only at hp hq
    by_cases hj:j < f.length
    ·rw [List.getElem?_append_left hj] at hp
     rw [List.getElem?_append_left (by omega)] at hq
     exact hd j p q hp hq
    ·have wi:=bg hp
     rw [List.length_append,List.length_singleton] at wi
     have ej:j=f.length:=by omega
     rw [List.getElem?_append_right (by omega),ej,Nat.sub_self] at hp
     rw [List.getElem?_append_right (by omega),ej,ht,Nat.sub_self] at hq
     have hp:=Option.some.inj hp
     have hq:=Option.some.inj hq
     omega
   ·dsimp only; omega
  ·obtain ⟨q,hq⟩ : ∃ q:Nat,2+z.1=q:=⟨(2+z.1).toNat,by omega⟩
   have jg:∀ (i:Nat) (u v:Int),f[i]? = some u→t[i]? = some v→0≤u∧u < v∧v < q:=fun i u v h1 h2=>by have:=hd i u v h1 h2; omega
   have Ur:Ok (dD (2+z.1) f t) Ty:=by rw [hq]; exact De (by omega) ht (by omega) jg
   exact ob (Ok.and (Dc (n:=2+z.1) (f:=f) (t:=t) ⟨ht,by omega,hd⟩ (by omega) (by omega)) Ur) fun c hc=>os ⟨⟨hc.1.mono (by omega) (by omega),hc.2⟩,S.at_ a0 a1⟩
end
end Go.Proofs.YtcnehblmgfbfoaaGreat
set_option linter.unusedVariables false
set_option linter.unusedSimpArgs false
namespace Go.Proofs.YtcnehblmgfbfoaaGreat
open Go Go.Li
theorem Ql {c d:aD} {a b a' b':Nat} (C:jb a b c) (D:jb a' b' d) (T:Ty c) (U:Ty d) (ha:a+a'≤100000) (hb:b+b'≤100000):Ok (fB c d) fun e=>jb (a+a') (b+b') e∧Ty e:=
 (Ok.and (Pc C D ha hb) ⟨_,C5 C D T U ha hb,sM T U⟩).mono fun _ h=>⟨h.1.1,h.2⟩
theorem Gy {c d:aD} (C:jb 8 40 c) (D:jb 4 20 d) (T:Ty c) (U:Ty d):Ok (cS c d) fun e=>jb 32 800 e∧Ty e:=by
 have co:=C.o
 have cm:=C.m
 have dO:=D.o
 have dm:=D.m
 exact Ok.and (Lp C D) ⟨_,AP T U (by omega) (by omega) (by omega) (by omega),Fu T U⟩
section
variable {x:List Int} (B:vx x)
include B
theorem Cd {s:aM} (S:Src x s) (o m:Int):Ok (gD s o m) fun y=>(jb 8 800 y.1∧Ty y.1∧((y.1.aA≤o∧(y.1.aB.length:Int)≤m)∨jb 1 4 y.1))∧Src x y.2:=by
 unfold gD
 refine km (ol (fun z:Int×Int×Int=>(0≤z.1∧z.1≤12)∧0≤z.2.1∧z.2.1≤x.length) (fun z=>(12 - z.1).toNat) ⟨⟨by show (0:Int)≤0; omega,by show (0:Int)≤12; omega⟩,S.a0,S.a1⟩ ?_)
 rintro ⟨i,a,h⟩ ⟨⟨i0,i1⟩,a0,a1⟩
 dsimp only at i0 i1 a0 a1
 show Ok (lP s o m i a h) _
 unfold lP
 have last:∀ (c:aD) (t:aM) (a b:Nat),b≤800→jb a b c→Ty c→Src x t→∀ {E:Int×Int×Int→Prop} {G:aD×aM→Prop},(∀ c t,jb 8 800 c→Ty c→(c.aA≤o∧(c.aB.length:Int)≤m)→Src x t→G (c,t))→i < 12→
   Ok (((bif decide (c.aA≤o) then (bif decide ((c.aB.length:Int)≤m) then ((cI c)>>=fun y=>some y) else some false) else some false)>>=fun g=>(bif g then (some (Out.ret (c,aM.mk s.Code t.At t.av))) else (some (Out.norm (ai (i+1),t.At,t.av))))))
    (HY (S1:=Int×Int×Int) 0 (fun z:Int×Int×Int=>(0≤z.1∧z.1≤12)∧0≤z.2.1∧z.2.1≤x.length) (fun z=>(12 - z.1).toNat) (12 - i).toNat E G):=by
  intro c t a b hb hc Ur ht E G hG hi
  have fits:Ok (cI c) fun y=>y=true→c.aA≤8:=by
   unfold cI
   exact km (ob (P:=fun y=>y=true→c.aA≤8) (od (fun h=>os fun _=>h) fun _=>os fun h=>by cases h) fun y hy=>os hy)
  refine ob (P:=fun y=>y=true→c.aA≤8∧c.aA≤o∧(c.aB.length:Int)≤m) (od (fun ho=>od (fun hm=>ob fits fun y hy=>os fun h=>⟨hy h,ho,hm⟩) fun _=>os fun h=>by cases h) fun _=>os fun h=>by cases h) fun g hg=>oc (fun ju=>os ?_) fun _=>os ⟨⟨⟨?_,?_⟩,ht.a0,ht.a1⟩,?_⟩
  ·exact hG c _ ⟨hc.o0,(hg ju).1,Nat.le_trans hc.m hb,hc.t,hc.i,hc.k,hc.r⟩ Ur (hg ju).2 (S.on ht)
  all_goals (try dsimp only)
  all_goals rw [w1 i0 hi (by omega)]
  all_goals omega
 refine od (fun hi=>?_) fun hi=>os ⟨rfl,ob Gw fun c hc=>os ⟨⟨hc.1.mono (by omega) (by omega),hc.2,.inr hc.1⟩,S.at_ a0 a1⟩⟩
 refine ob (yD B (S.at_ a0 a1)) fun y hy=>ob (dw B (S.on hy.2) _) fun z hz=>oc (fun _=>?_) fun _=>?_
 ·refine ob (yD B (S.on hz.2)) fun u hu=>ob (Ql hy.1.1 hu.1.1 hy.1.2 hu.1.2 (by omega) (by omega)) fun v hv=>ob (dw B (S.on hu.2) _) fun w hw=>oc (fun _=>?_) fun _=>?_
  ·exact ob (yD B (S.on hw.2)) fun p hp=>ob (Gy (hv.1.mono (by omega) (by omega)) hp.1.1 hv.2 hp.1.2) fun q hq=>last q p.2 32 800 (by omega) hq.1 hq.2 hp.2 (fun c t hc hy hb ht=>⟨⟨hc,hy,.inl hb⟩,ht⟩) hi
  ·exact last v w.2 8 40 (by omega) (hv.1.mono (by omega) (by omega)) hv.2 hw.2 (fun c t hc hy hb ht=>⟨⟨hc,hy,.inl hb⟩,ht⟩) hi
 ·refine ob (dw B (S.on hz.2) _) fun w hw=>oc (fun _=>?_) fun _=>?_
  ·exact ob (yD B (S.on hw.2)) fun p hp=>ob (Gy (hy.1.1.mono (by omega) (by omega)) hp.1.1 hy.1.2 hp.1.2) fun q hq=>last q p.2 32 800 (by omega) hq.1 hq.2 hp.2 (fun c t hc hy hb ht=>⟨⟨hc,hy,.inl hb⟩,ht⟩) hi
  ·exact last y.1 w.2 4 20 (by omega) hy.1.1 hy.1.2 hw.2 (fun c t hc hy hb ht=>⟨⟨hc,hy,.inl hb⟩,ht⟩) hi
end
end Go.Proofs.YtcnehblmgfbfoaaGreat
