/- Congruences as numbered classes; the quotient category, on both sides. No condition beside those that each theorem names. -/
import Derived.Test.YtbhhmalgcnhniaaGreatPw
import Derived.Test.YtbhhmalgcnhniaaGreatPs
import Derived.Test.YtbhhmalgcnhniaaGreatTn
set_option linter.unusedVariables false
set_option linter.unusedSectionVars false
set_option linter.unusedSimpArgs false
namespace Go.Proofs.YtbhhmalgcnhniaaGreat
open Go Go.Li
set_option linter.unusedVariables false
set_option linter.unusedSectionVars false
set_option linter.unusedSimpArgs false
structure ED (c:aC) (q:List Int):Prop where
 nz:Nz (fun i j=>gi q i=gi q j) c.aA.length q
 en:∀ i j:Int,0≤i→i < c.aA.length→0≤j→j < c.aA.length→gi q i=gi q j→gi c.aA i=gi c.aA j∧gi c.To i=gi c.To j
 rg:∀ i j g:Int,0≤i→i < c.aA.length→0≤j→j < c.aA.length→0≤g→g < c.aA.length→gi q i=gi q j→gi c.To i=gi c.aA g→gi q (gk c.aB i g)=gi q (gk c.aB j g)
 lf:∀ i j g:Int,0≤i→i < c.aA.length→0≤j→j < c.aA.length→0≤g→g < c.aA.length→gi q i=gi q j→gi c.To g=gi c.aA i→gi q (gk c.aB g i)=gi q (gk c.aB g j)
theorem Xs {c:aC} (C:l3 c) {ps:List (List Int)} (P:Az c ps) {q:List Int} (h:Nz (Cg c ps) c.aA.length q):ED c q:=by
 have hs:=h.self
 rw [h.len] at hs
 refine ⟨hs,fun i j i0 i1 j0 j1 e=>rS C P ((h.k i j i0 i1 j0 j1).1 e),fun i j g i0 i1 j0 j1 g0 g1 e e2=>?_,fun i j g i0 i1 j0 j1 g0 g1 e e2=>?_⟩
 ·have hg:=(h.k i j i0 i1 j0 j1).1 e
  have c1:=C.cell i g i0 i1 g0 g1 e2
  have c2:=C.cell j g j0 j1 g0 g1 (by rw [← (rS C P hg).2,e2])
  exact (h.k _ _ c1.1 c1.2.1 c2.1 c2.2.1).2 (Hf C P hg g0 g1 e2)
 ·have hg:=(h.k i j i0 i1 j0 j1).1 e
  have c1:=C.cell g i g0 g1 i0 i1 e2
  have c2:=C.cell g j g0 g1 j0 j1 (by rw [e2,(rS C P hg).1])
  exact (h.k _ _ c1.1 c1.2.1 c2.1 c2.2.1).2 (IV C P hg g0 g1 e2)
structure IX (q F:List Int):Prop where
 ln:F.length≤q.length
 a:∀ j:Int,0≤j→j < q.length→0≤gi q j∧gi q j < F.length
 b:∀ v:Int,0≤v→v < F.length→(0≤gi F v∧gi F v < q.length)∧gi q (gi F v)=v∧∀ j:Int,0≤j→j < gi F v→gi q j≠v
theorem MU {q:List Int} {n y:Int} (h:tN q n y) (h0:0≤y):y < q.length∧gi q y=n∧∀ j:Int,0≤j→j < y→gi q j≠n:=by
 rcases h with ⟨rfl,_⟩ | ⟨k,rfl,h1,h2⟩
 ·omega
 ·have hk:=(List.getElem?_eq_some_iff.1 h1).1
  refine ⟨by omega,by unfold gi; rw [List.getD_eq_getElem?_getD,show ((k:Int)).toNat=k from rfl,h1]; rfl,fun j j0 j1 e=>?_⟩
  refine h2 j.toNat (by omega) ?_
  rw [← e,← uS j0]
  exact aZ j0 (by omega)
section
variable {c:aC} (C:l3 c) {q:List Int} (hq:ED c q)
include C hq
theorem qo:q.length=c.aA.length:=hq.nz.len
theorem KA {S:Type} {f:List Int×Int→Option (Out S aC)} {Q:Out S aC→Prop} (k:∀ F s,IX q F→Ok (f (F,s)) Q) :
  Ok (ae (ab 0 (aj (fun s:List Int×Int=>iE q s.1 s.2) (([]:List Int),(0:Int)))) f) Q:=by
 have hm:=C.m
 have hl:=qo C hq
 refine ol (fun s:List Int×Int=>(0≤s.2∧s.2≤q.length)∧(s.1.length:Int)≤s.2∧(∀ j:Int,0≤j→j < s.2→gi q j < s.1.length)∧∀ v:Int,0≤v→v < s.1.length→(0≤gi s.1 v∧gi s.1 v < s.2)∧gi q (gi s.1 v)=v∧∀ j:Int,0≤j→j < gi s.1 v→gi q j≠v) (fun s=>(q.length - s.2).toNat) ⟨⟨by show (0:Int)≤0; omega,by show (0:Int)≤_; omega⟩,by show (0:Int)≤0; omega,fun j j0 j1=>by have:j < 0:=j1; omega,fun v v0 v1=>by have:v < 0:=v1; omega⟩ ?_
 rintro ⟨F,s⟩ ⟨⟨s0,s1⟩,hF,ha,hb⟩
 dsimp only at s0 s1 hF ha hb
 show Ok (iE q F s) _
 unfold iE
 refine od (fun hs=>?_) fun hs=>os ⟨rfl,k F s ⟨by omega,fun j j0 j1=>⟨hq.nz.p j j0 (by omega),ha j j0 (by omega)⟩,fun v v0 v1=>⟨⟨(hb v v0 v1).1.1,by have:=(hb v v0 v1).1.2; omega⟩,(hb v v0 v1).2⟩⟩⟩
 have hw:=w1 s0 hs (by omega)
 refine oe (aZ s0 hs) (ob (Cf (by omega)) fun y hy=>?_)
 have y0:=hy.MW (ib s0 hs)
 obtain ⟨y1,ye,ym⟩:=MU hy y0
 have hg:=hq.nz.g s s0 (by omega)
 have hp:=hq.nz.p s s0 (by omega)
 refine oc (fun e=>?_) fun e=>?_
 ·have e:y=s:=by simpa using e
  subst e
  have vT:(∀ j:Int,0≤j→j < y→gi q j < gi q y)∧∀ v:Int,0≤v→v < gi q y→∃ j:Int,0≤j∧j < y∧gi q j=v:=by
   rcases hg with ⟨j,j0,j1,e⟩ | h
   ·exact absurd e (ym j j0 j1)
   ·exact h
  have et:gi q y=F.length:=by
   rcases Int.lt_trichotomy (gi q y) F.length with h1 | h1 | h1
   ·have:=hb (gi q y) hp h1
    exact absurd this.2.1 (ym _ this.1.1 this.1.2)
   ·exact h1
   ·obtain ⟨j,j0,j1,e⟩:=vT.2 F.length (by omega) h1
    have:=ha j j0 j1
    omega
  refine de (by omega) (by omega) (os ⟨⟨⟨by dsimp only; rw [hw]; omega,by dsimp only; rw [hw]; omega⟩,by dsimp only; rw [hw,List.length_append,List.length_singleton]; omega,fun j j0 j1=>?_,fun v v0 v1=>?_⟩,by dsimp only; rw [hw]; omega⟩)
  ·dsimp only at j1 ⊢
   rw [hw] at j1
   rw [List.length_append,List.length_singleton]
   rcases (by omega:j < y∨j=y) with h | rfl
   ·have:=ha j j0 h; omega
   ·omega
  ·dsimp only at v1 ⊢
   rw [List.length_append,List.length_singleton] at v1
   rw [hw]
   rcases (by omega:v < F.length∨v=F.length) with h | rfl
   ·rw [sR v0 h]
    have:=hb v v0 h
    exact ⟨⟨this.1.1,by omega⟩,this.2⟩
   ·rw [sS rfl]
    exact ⟨⟨y0,by omega⟩,et,fun j j0 j1=>by rw [← et]; exact ym j j0 j1⟩
 ·have iv:y≠s:=by simpa using e
  have av:y < s:=by
   rcases Int.lt_trichotomy y s with h | h | h
   ·exact h
   ·exact absurd h iv
   ·exact absurd rfl (ym s s0 h)
  refine os ⟨⟨⟨by dsimp only; rw [hw]; omega,by dsimp only; rw [hw]; omega⟩,by dsimp only; rw [hw]; omega,fun j j0 j1=>?_,fun v v0 v1=>?_⟩,by dsimp only; rw [hw]; omega⟩
  ·dsimp only at j1 ⊢
   rw [hw] at j1
   rcases (by omega:j < s∨j=s) with h | rfl
   ·exact ha j j0 h
   ·rw [← ye]; exact ha y y0 av
  ·dsimp only at v1 ⊢
   rw [hw]
   have:=hb v v0 v1
   exact ⟨⟨this.1.1,by omega⟩,this.2⟩
end
def gQ (c:aC) (q F:List Int) (i j:Int):Int:=gi q (gk c.aB (gi F i) (gi F j))
def uW (c:aC) (q F:List Int):aC:=aC.mk c.aD (dg F.length fun v=>gi c.aA (gi F v)) (dg F.length fun v=>gi c.To (gi F v)) (thenS c.aF q) []
def oy (c:aC) (q F:List Int):aC:=aC.mk c.aD (dg F.length fun v=>gi c.aA (gi F v)) (dg F.length fun v=>gi c.To (gi F v)) (thenS c.aF q) (p6 (uW c q F) (gQ c q F))
section
variable {c:aC} (C:l3 c) {q:List Int} (hq:ED c q) {F:List Int} (hF:IX q F)
include C hq hF
theorem QO:(uW c q F).aA.length=F.length:=bA _ _
theorem Ci {i:Int} (i0:0≤i) (i1:i < F.length):gr (oy c q F).aB i=dg F.length (sB (uW c q F) (gQ c q F) i):=by
 have e:=QO C hq hF
 show gr (p6 (uW c q F) (gQ c q F)) i=_
 unfold p6
 rw [vz i0 (by omega),e]
theorem DX {i j:Int} (i0:0≤i) (i1:i < F.length) (j0:0≤j) (j1:j < F.length):gk (oy c q F).aB i j=bif gi c.To (gi F i) == gi c.aA (gi F j) then gQ c q F i j else -1:=by
 show gi (gr (oy c q F).aB i) j=_
 rw [Ci C hq hF i0 i1,gp j0 j1]
 unfold sB
 rw [show gi (uW c q F).To i=gi c.To (gi F i) from gp i0 i1,show gi (uW c q F).aA j=gi c.aA (gi F j) from gp j0 j1]
theorem rh {a:Int} (a0:0≤a) (a1:a < c.aA.length):(0≤gi q a∧gi q a < F.length)∧(0≤gi F (gi q a)∧gi F (gi q a) < c.aA.length)∧gi q (gi F (gi q a))=gi q a∧gi c.aA (gi F (gi q a))=gi c.aA a∧gi c.To (gi F (gi q a))=gi c.To a:=by
 have hl:=qo C hq
 have h1:=hF.a a a0 (by omega)
 have h2:=hF.b _ h1.1 h1.2
 have h3:=hq.en _ a h2.1.1 (by omega) a0 a1 h2.2.1
 exact ⟨h1,⟨h2.1.1,by omega⟩,h2.2.1,h3.1,h3.2⟩
theorem rN {v:Int} (v0:0≤v) (v1:v < F.length):(0≤gi F v∧gi F v < c.aA.length)∧gi q (gi F v)=v:=by
 have hl:=qo C hq
 have h2:=hF.b _ v0 v1
 exact ⟨⟨h2.1.1,by omega⟩,h2.2.1⟩
theorem Dm {a b:Int} (a0:0≤a) (a1:a < c.aA.length) (b0:0≤b) (b1:b < c.aA.length) (e:gi c.To a=gi c.aA b):gi q (gk c.aB (gi F (gi q a)) (gi F (gi q b)))=gi q (gk c.aB a b):=by
 obtain ⟨_,ha,ea,fa,ta⟩:=rh C hq hF a0 a1
 obtain ⟨_,hb,eb,fb,tb⟩:=rh C hq hF b0 b1
 rw [hq.lf _ b _ hb.1 hb.2 b0 b1 ha.1 ha.2 eb (by rw [ta,fb,e]),hq.rg _ a b ha.1 ha.2 a0 a1 b0 b1 ea (by rw [ta,e])]
theorem Dn:l3 (oy c q F):=by
 have hm:=C.m
 have hl:=qo C hq
 have YQ:=hF.ln
 have eF:(oy c q F).aA.length=F.length:=bA _ _
 have fr:∀ v:Int,0≤v→v < F.length→gi (oy c q F).aA v=gi c.aA (gi F v):=fun v v0 v1=>gp v0 v1
 have to:∀ v:Int,0≤v→v < F.length→gi (oy c q F).To v=gi c.To (gi F v):=fun v v0 v1=>gp v0 v1
 have il:=C.il
 have rH:∀ x:Int,0≤x→x < c.aD→gi (oy c q F).aF x=gi q (gi c.aF x):=fun x x0 x1=>zf x0 (by omega)
 have cell:∀ f g:Int,0≤f→f < F.length→0≤g→g < F.length→gi c.To (gi F f)=gi c.aA (gi F g)→gk (oy c q F).aB f g=gi q (gk c.aB (gi F f) (gi F g))∧(0≤gk c.aB (gi F f) (gi F g)∧gk c.aB (gi F f) (gi F g) < c.aA.length∧gi c.aA (gk c.aB (gi F f) (gi F g))=gi c.aA (gi F f)∧gi c.To (gk c.aB (gi F f) (gi F g))=gi c.To (gi F g)):=fun f g f0 f1 g0 g1 e=>by
  have bf:=rN C hq hF f0 f1
  have bg:=rN C hq hF g0 g1
  refine ⟨?_,C.cell _ _ bf.1.1 bf.1.2 bg.1.1 bg.1.2 e⟩
  rw [DX C hq hF f0 f1 g0 g1,show (gi c.To (gi F f) == gi c.aA (gi F g))=true by simpa using e,cond_true]; rfl
 refine { o0:=C.o0,o8:=C.o8,m:=by omega,f:=fun x hx=>?_,tl:=by rw [eF]; exact bA _ _,t:=fun x hx=>?_,kl:=?_,il:=by show ((thenS c.aF q).length:Int)=_; rw [sQ]; exact il,i:=fun x hx=>?_,tM:=fun x x0 x1=>?_,rH:=fun x x0 x1=>?_,row:=fun f f0 f1=>?_,cell:=fun f g f0 f1 g0 g1 e=>?_,none:=fun f g f0 f1 g0 g1 e=>?_,A9:=fun f f0 f1=>?_,yZ:=fun f f0 f1=>?_,assoc:=fun f g h f0 f1 g0 g1 h0 h1 e1 e2=>?_ }
 ·obtain ⟨i,i0,i1,rfl⟩:=rL hx
  rw [eF] at i1
  rw [fr i i0 i1]
  have:=rN C hq hF i0 i1
  exact C.fr this.1.1 this.1.2
 ·obtain ⟨i,i0,i1,rfl⟩:=rL hx
  rw [show (oy c q F).To.length=F.length from bA _ _] at i1
  rw [to i i0 i1]
  have:=rN C hq hF i0 i1
  exact C.to this.1.1 this.1.2
 ·rw [eF]; show (p6 _ _).length=_; unfold p6; rw [bA]; exact QO C hq hF
 ·obtain ⟨i,i0,i1,rfl⟩:=rL hx
  have YR:i < c.aD:=by
   rw [show (oy c q F).aF.length=c.aF.length from sQ _ _] at i1
   omega
  rw [rH i i0 YR,eF]
  have:=C.id i0 YR
  exact (rh C hq hF this.1 this.2).1
 ·rw [rH x x0 x1]
  have hi:=C.id x0 x1
  have hz:=rh C hq hF hi.1 hi.2
  rw [fr _ hz.1.1 hz.1.2,hz.2.2.2.1]
  exact C.tM x x0 x1
 ·rw [rH x x0 x1]
  have hi:=C.id x0 x1
  have hz:=rh C hq hF hi.1 hi.2
  rw [to _ hz.1.1 hz.1.2,hz.2.2.2.2]
  exact C.rH x x0 x1
 ·rw [eF] at f1
  rw [Ci C hq hF f0 f1,bA,eF]
 ·rw [eF] at f1 g1 ⊢
  rw [to f f0 f1,fr g g0 g1] at e
  obtain ⟨ec,k0,k1,kf,kt⟩:=cell f g f0 f1 g0 g1 e
  have hz:=rh C hq hF k0 k1
  rw [ec,fr _ hz.1.1 hz.1.2,to _ hz.1.1 hz.1.2,hz.2.2.2.1,hz.2.2.2.2,kf,kt,fr f f0 f1,to g g0 g1]
  exact ⟨hz.1.1,hz.1.2,rfl,rfl⟩
 ·rw [eF] at f1 g1
  rw [to f f0 f1,fr g g0 g1] at e
  rw [DX C hq hF f0 f1 g0 g1,show (gi c.To (gi F f) == gi c.aA (gi F g))=false by simpa using e,cond_false]
 ·rw [eF] at f1
  have bf:=rN C hq hF f0 f1
  have hx:=C.fr bf.1.1 bf.1.2
  have hi:=C.id hx.1 hx.2
  have hz:=rh C hq hF hi.1 hi.2
  rw [fr f f0 f1,rH _ hx.1 hx.2]
  have e:gi c.To (gi c.aF (gi c.aA (gi F f)))=gi c.aA (gi F f):=C.rH _ hx.1 hx.2
  rw [(cell _ f hz.1.1 hz.1.2 f0 f1 (by rw [hz.2.2.2.2,e])).1]
  have:=Dm C hq hF hi.1 hi.2 bf.1.1 bf.1.2 e
  rw [bf.2,C.A9 _ bf.1.1 bf.1.2,bf.2] at this
  exact this
 ·rw [eF] at f1
  have bf:=rN C hq hF f0 f1
  have hx:=C.to bf.1.1 bf.1.2
  have hi:=C.id hx.1 hx.2
  have hz:=rh C hq hF hi.1 hi.2
  rw [to f f0 f1,rH _ hx.1 hx.2]
  have e:gi c.aA (gi c.aF (gi c.To (gi F f)))=gi c.To (gi F f):=C.tM _ hx.1 hx.2
  rw [(cell f _ f0 f1 hz.1.1 hz.1.2 (by rw [hz.2.2.2.1,e])).1]
  have:=Dm C hq hF bf.1.1 bf.1.2 hi.1 hi.2 e.symm
  rw [bf.2,C.yZ _ bf.1.1 bf.1.2,bf.2] at this
  exact this
 ·rw [eF] at f1 g1 h1
  rw [to f f0 f1,fr g g0 g1] at e1
  rw [to g g0 g1,fr h h0 h1] at e2
  have bf:=rN C hq hF f0 f1
  have bg:=rN C hq hF g0 g1
  have bh:=rN C hq hF h0 h1
  obtain ⟨eea,a0,a1,af,YS⟩:=cell f g f0 f1 g0 g1 e1
  obtain ⟨eeb,b0,b1,YT,bt⟩:=cell g h g0 g1 h0 h1 e2
  have za:=rh C hq hF a0 a1
  have zb:=rh C hq hF b0 b1
  rw [eea,eeb,(cell _ h za.1.1 za.1.2 h0 h1 (by rw [za.2.2.2.2,YS,e2])).1,(cell f _ f0 f1 zb.1.1 zb.1.2 (by rw [zb.2.2.2.1,YT,e1])).1]
  have h3:=Dm C hq hF a0 a1 bh.1.1 bh.1.2 (by rw [YS,e2])
  have h4:=Dm C hq hF bf.1.1 bf.1.2 b0 b1 (by rw [YT,e1])
  rw [bh.2] at h3
  rw [bf.2] at h4
  rw [h3,h4,C.assoc _ _ _ bf.1.1 bf.1.2 bg.1.1 bg.1.2 bh.1.1 bh.1.2 e1 e2]
end
theorem IY {l:List (List Int)} {x:List Int} {j:Int} (j0:0≤j) (j1:j < l.length):gr (l++[x]) j=gr l j:=by
 unfold gr
 rw [List.getD_eq_getElem?_getD,List.getD_eq_getElem?_getD,List.getElem?_append_left (by omega)]
theorem IZ {l:List (List Int)} {x:List Int} {j:Int} (e:j=l.length):gr (l++[x]) j=x:=by
 unfold gr
 rw [List.getD_eq_getElem?_getD,List.getElem?_append_right (by omega),show j.toNat - l.length=0 by omega]; rfl
section
variable {c:aC} (C:l3 c) {q:List Int} (hq:ED c q)
include C hq
theorem Px:Ok (jG c q) fun Q=>∃ F,IX q F∧Q=oy c q F:=by
 have hm:=C.m
 have hl:=qo C hq
 have o0:=C.o0
 have o8:=C.o8
 have il:=C.il
 unfold jG
 refine ew (KA C hq fun F s hF=>?_)
 have YQ:=hF.ln
 dsimp only
 refine ol (fun z:Int×List Int=>(0≤z.1∧z.1≤c.aD)∧(z.2.length:Int)=z.1∧∀ x:Int,0≤x→x < z.1→gi z.2 x=gi q (gi c.aF x)) (fun z=>(c.aD - z.1).toNat) ⟨⟨by show (0:Int)≤0; omega,o0⟩,rfl,fun x x0 x1=>by have:x < 0:=x1; omega⟩ ?_
 rintro ⟨x,I⟩ ⟨⟨x0,x1⟩,hI,hx⟩
 dsimp only at x0 x1 hI hx
 show Ok (kB c q x I) _
 unfold kB
 refine od (fun av=>?_) fun tz=>os ⟨rfl,?_⟩
 ·have hi:=C.id x0 av
  have hw:=w1 x0 av (by omega)
  refine oe (C.p4 x0 av) (oe (aZ hi.1 (by omega)) (de (by omega) (by omega) (os ⟨⟨⟨by dsimp only; rw [hw]; omega,by dsimp only; rw [hw]; omega⟩,by dsimp only; rw [hw,List.length_append,List.length_singleton]; omega,fun y y0 y1=>?_⟩,by dsimp only; rw [hw]; omega⟩)))
  dsimp only at y1 ⊢
  rw [hw] at y1
  rcases (by omega:y < x∨y=x) with h | rfl
  ·rw [sR y0 (by omega)]; exact hx y y0 h
  ·rw [sS (by omega)]
 ·dsimp only
  have eI:I=thenS c.aF q:=sc (by rw [sQ]; omega) fun y y0 y1=>by
   rw [sQ] at y1
   rw [hx y y0 (by omega),zf y0 y1]
  refine ol (fun z:Int×List Int×List Int×List (List Int)=>(0≤z.1∧z.1≤F.length)∧((z.2.1.length:Int)=z.1∧(z.2.2.1.length:Int)=z.1∧(z.2.2.2.length:Int)=z.1)∧∀ v:Int,0≤v→v < z.1→gi z.2.1 v=gi c.aA (gi F v)∧gi z.2.2.1 v=gi c.To (gi F v)∧gr z.2.2.2 v=dg F.length (sB (uW c q F) (gQ c q F) v)) (fun z=>(F.length - z.1).toNat) ⟨⟨by show (0:Int)≤0; omega,by show (0:Int)≤_; omega⟩,⟨rfl,rfl,rfl⟩,fun x x0 x1=>by have:x < 0:=x1; omega⟩ ?_
  rintro ⟨i,A,B,D⟩ ⟨⟨i0,i1⟩,⟨hA,hB,hD⟩,hv⟩
  dsimp only at i0 i1 hA hB hD hv
  show Ok (kD c q F i A B D) _
  unfold kD
  refine od (fun av=>?_) fun tz=>os ⟨rfl,os ⟨F,hF,?_⟩⟩
  ·have bi:=rN C hq hF i0 av
   have Hj:=w1 i0 av (by omega)
   refine oe (aZ i0 av) (oe (C.iH bi.1.1 bi.1.2) (de (by omega) (by omega) (oe (aZ i0 av) (oe (C.jd bi.1.1 bi.1.2) (de (by omega) (by omega) ?_)))))
   refine ol (fun z:List Int×Int=>(0≤z.2∧z.2≤F.length)∧(z.1.length:Int)=z.2∧∀ j:Int,0≤j→j < z.2→gi z.1 j=sB (uW c q F) (gQ c q F) i j) (fun z=>(F.length - z.2).toNat) ⟨⟨by show (0:Int)≤0; omega,by show (0:Int)≤_; omega⟩,rfl,fun x x0 x1=>by have:x < 0:=x1; omega⟩ ?_
   rintro ⟨r,j⟩ ⟨⟨j0,j1⟩,hr,hj⟩
   dsimp only at j0 j1 hr hj
   show Ok (kC c q F i r j) _
   unfold kC
   refine od (fun DI=>?_) fun al8=>os ⟨rfl,de (by omega) (by omega) (os ⟨⟨⟨by dsimp only; rw [Hj]; omega,by dsimp only; rw [Hj]; omega⟩,⟨by dsimp only; rw [Hj,List.length_append,List.length_singleton]; omega,by dsimp only; rw [Hj,List.length_append,List.length_singleton]; omega,by dsimp only; rw [Hj,List.length_append,List.length_singleton]; omega⟩,fun v v0 v1=>?_⟩,by dsimp only; rw [Hj]; omega⟩)⟩
   ·have bj:=rN C hq hF j0 DI
    have x9:=w1 j0 DI (by omega)
    have VT:sB (uW c q F) (gQ c q F) i j=bif gi c.To (gi F i) == gi c.aA (gi F j) then gQ c q F i j else -1:=by
     unfold sB
     rw [show gi (uW c q F).To i=gi c.To (gi F i) from gp i0 av,show gi (uW c q F).aA j=gi c.aA (gi F j) from gp j0 DI]
    have fin:∀ e:Int,e=sB (uW c q F) (gQ c q F) i j→∀ j':Int,0≤j'→j' < ak (j+1)→gi (r++[e]) j'=sB (uW c q F) (gQ c q F) i j':=fun e he j' MX QP=>by
     rw [x9] at QP
     rcases (by omega:j' < j∨j'=j) with h | rfl
     ·rw [sR MX (by omega)]; exact hj j' MX h
     ·rw [sS (by omega)]; exact he
    refine oe (aZ i0 av) (oe (C.nm bi.1.1 bi.1.2) (oe (aZ j0 DI) (oe (C.mg bi.1.1 bi.1.2 bj.1.1 bj.1.2) (od (fun tz=>?_) fun zg=>?_))))
    ·have he:gi c.To (gi F i)=gi c.aA (gi F j):=Classical.byContradiction fun iv=>by
      rw [C.none _ _ bi.1.1 bi.1.2 bj.1.1 bj.1.2 iv] at tz
      omega
     have c1:=C.cell _ _ bi.1.1 bi.1.2 bj.1.1 bj.1.2 he
     refine oe (aZ c1.1 (by omega)) (de (by omega) (by omega) (os ⟨⟨⟨by dsimp only; rw [x9]; omega,by dsimp only; rw [x9]; omega⟩,by dsimp only; rw [x9,List.length_append,List.length_singleton]; omega,fin _ ?_⟩,by dsimp only; rw [x9]; omega⟩))
     rw [VT,show (gi c.To (gi F i) == gi c.aA (gi F j))=true by simpa using he,cond_true]; rfl
    ·have iv:gi c.To (gi F i)≠gi c.aA (gi F j):=fun he=>zg (C.cell _ _ bi.1.1 bi.1.2 bj.1.1 bj.1.2 he).1
     refine de (by omega) (by omega) (os ⟨⟨⟨by dsimp only; rw [x9]; omega,by dsimp only; rw [x9]; omega⟩,by dsimp only; rw [x9,List.length_append,List.length_singleton]; omega,fin _ ?_⟩,by dsimp only; rw [x9]; omega⟩)
     rw [VT,show (gi c.To (gi F i) == gi c.aA (gi F j))=false by simpa using iv,cond_false,C.none _ _ bi.1.1 bi.1.2 bj.1.1 bj.1.2 iv]
   ·dsimp only at v1 ⊢
    rw [Hj] at v1
    rcases (by omega:v < i∨v=i) with h | rfl
    ·rw [sR v0 (by omega),sR v0 (by omega),IY v0 (by omega)]
     exact hv v v0 h
    ·rw [sS (by omega),sS (by omega),IZ (by omega)]
     exact ⟨rfl,rfl,sc (by rw [bA]; omega) fun j' MX QP=>by
      rw [bA] at QP
      rw [gp MX QP]
      exact hj j' MX (by omega)⟩
  ·show aC.mk c.aD A B I D=oy c q F
   have e1:A=dg F.length fun v=>gi c.aA (gi F v):=sc (by rw [bA]; omega) fun y y0 y1=>by
    rw [bA] at y1
    rw [gp y0 y1]; exact (hv y y0 (by omega)).1
   have e2:B=dg F.length fun v=>gi c.To (gi F v):=sc (by rw [bA]; omega) fun y y0 y1=>by
    rw [bA] at y1
    rw [gp y0 y1]; exact (hv y y0 (by omega)).2.1
   have el:=QO C hq hF
   have e3:D=p6 (uW c q F) (gQ c q F):=by
    refine VU (by unfold p6; rw [bA]; omega) fun y y0 y1=>?_
    unfold p6 at y1
    rw [bA] at y1
    rw [(hv y y0 (by omega)).2.2]
    exact (Ci C hq hF y0 (by omega)).symm
   rw [e1,e2,e3,eI]; rfl
theorem Py {F:List Int} (hF:IX q F):dJ c q=some (oy c q F):=by
 have hm:=C.m
 have hl:=qo C hq
 have o8:=C.o8
 have il:=C.il
 have YQ:=hF.ln
 obtain ⟨y,e,hy⟩ : Ok (dJ c q) fun Q=>Q=oy c q F:=by
  unfold dJ
  rw [Ko hq.nz (c:=F.length) (by omega) (by omega) (fun j j0 j1=>(hF.a j j0 (by omega)).2) (fun v v0 v1=>⟨gi F v,(rN C hq hF v0 v1).1.1,(rN C hq hF v0 v1).1.2,(rN C hq hF v0 v1).2⟩),aE,ur (by omega) (by omega),aE,
   aE,G9 _ _ (by omega) (fun x hx=>by have:=C.i x hx; omega),aE,aE,bT (by omega) (by omega)]
  refine ew (ol (fun z:Int×List Int×List Int×List Int=>(-1≤z.1∧z.1 < q.length)∧(z.2.1.length=F.length∧z.2.2.1.length=F.length∧z.2.2.2.length=F.length)∧∀ j:Int,0≤j→z.1 < j→j < q.length→(∀ i:Int,z.1 < i→i < j→gi q i≠gi q j)→gi z.2.1 (gi q j)=gi c.aA j∧gi z.2.2.1 (gi q j)=gi c.To j∧gi z.2.2.2 (gi q j)=j) (fun z=>(z.1+1).toNat) ⟨⟨by dsimp only; omega,by dsimp only; omega⟩,⟨by simp,by simp,by simp⟩,fun j j0 j1 j2=>by dsimp only at j1; omega⟩ ?_)
  rintro ⟨t,A,B,D⟩ ⟨⟨t0,t1⟩,⟨hA,hB,hD⟩,hv⟩
  dsimp only at t0 t1 hA hB hD hv
  show Ok (gB c q t A B D) _
  unfold gB
  refine od (fun tz=>?_) fun av=>os ⟨rfl,?_⟩
  ·have hz:=hF.a t tz t1
   have hw:ak (t - 1)=t - 1:=bT (by omega) (by omega)
   refine oe (aZ tz t1) (oe (aZ hz.1 (by omega)) (oe (aZ tz t1) (oe (C.iH tz (by omega)) (oe (aZ hz.1 (by omega)) (oe (aZ tz t1) (oe (C.jd tz (by omega)) (oe (aZ hz.1 (by omega)) (os ⟨⟨⟨by dsimp only; rw [hw]; omega,by dsimp only; rw [hw]; omega⟩,⟨by dsimp only; rw [List.length_set]; exact hA,by dsimp only; rw [List.length_set]; exact hB,by dsimp only; rw [List.length_set]; exact hD⟩,fun j j0 j1 j2 j3=>?_⟩,by dsimp only; rw [hw]; omega⟩))))))))
   dsimp only at j1 j3 ⊢
   rw [hw] at j1 j3
   have hj:=hF.a j j0 j2
   rw [jo hz.1 (by omega) hj.1,jo hz.1 (by omega) hj.1,jo hz.1 (by omega) hj.1]
   rcases (by omega:j=t∨t < j) with rfl | h
   ·rw [if_pos rfl,if_pos rfl,if_pos rfl]; exact ⟨rfl,rfl,rfl⟩
   ·have iv : ¬ gi q j=gi q t:=fun e=>j3 t (by omega) h e.symm
    rw [if_neg iv,if_neg iv,if_neg iv]
    exact hv j j0 h j2 fun i i0 i1=>j3 i (by omega) i1
  ·have ht:t = -1:=by omega
   subst ht
   have ks:∀ v:Int,0≤v→v < F.length→gi A v=gi c.aA (gi F v)∧gi B v=gi c.To (gi F v)∧gi D v=gi F v:=fun v v0 v1=>by
    have hb:=hF.b v v0 v1
    have:=hv (gi F v) hb.1.1 (by omega) hb.1.2 fun i i0 i1 e=>hb.2.2 i (by omega) i1 (by rw [e,hb.2.1])
    rwa [hb.2.1] at this
   have e1:A=dg F.length fun v=>gi c.aA (gi F v):=sc (by rw [bA]; omega) fun y y0 y1=>by
    rw [bA] at y1
    rw [gp y0 y1]; exact (ks y y0 y1).1
   have e2:B=dg F.length fun v=>gi c.To (gi F v):=sc (by rw [bA]; omega) fun y y0 y1=>by
    rw [bA] at y1
    rw [gp y0 y1]; exact (ks y y0 y1).2.1
   have e3:D=F:=sc hD fun y y0 y1=>(ks y y0 y1).2.2
   subst e1 e2 e3
   dsimp only
   have el:=QO C hq hF
   have ht:=MT (c:=uW c q D) (g:=fun a0 a1=>cN a0 a1 q c D) (G:=gQ c q D) (by omega) (by rw [el]; exact bA _ _) fun f h f0 f1 h0 h1 e=>by
    rw [el] at f1 h1
    have bf:=rN C hq hF f0 f1
    have bh:=rN C hq hF h0 h1
    have e':gi c.To (gi D f)=gi c.aA (gi D h):=by
     rw [show gi (uW c q D).To f=gi c.To (gi D f) from gp f0 f1,show gi (uW c q D).aA h=gi c.aA (gi D h) from gp h0 h1] at e
     exact e
    have c1:=C.cell _ _ bf.1.1 bf.1.2 bh.1.1 bh.1.2 e'
    show cN f h q c D=_
    unfold cN
    rw [aZ f0 f1,aE,aZ h0 h1,aE,C.n4 bf.1.1 bf.1.2 bh.1.1 bh.1.2,aE,aZ c1.1 (by omega),aE]; rfl
   refine oe ht (os rfl)
 rw [e,hy]
theorem Dp:cJ c q=some true:=by
 have hm:=C.m
 have hl:=qo C hq
 obtain ⟨y,e,hy⟩ : Ok (cJ c q) fun y=>y=true:=by
  unfold cJ
  have hg:(bS c>>=fun y5=>bif ((q.length:Int)) != y5 then (some true) else (cO q>>=fun y8=>some (!y8)))=some false:=by
   rw [show bS c=some (c.aA.length:Int) from rfl,aE,hl]
   rw [show ((c.aA.length:Int) != (c.aA.length:Int))=false by simp,cond_false,HQ hq.nz (by omega),aE]; rfl
  refine ew (oe hg ?_)
  rw [cond_false]
  refine ol (fun s:Int×List (Int×Int)=>(0≤s.1∧s.1≤q.length)∧(∀ v f:Int,ie s.2 v=some f→(0≤f∧f < q.length)∧gi q f=v)∧∀ j:Int,0≤j→j < s.1→∃ f:Int,ie s.2 (gi q j)=some f) (fun s=>(q.length - s.1).toNat) ⟨⟨by show (0:Int)≤0; omega,by show (0:Int)≤_; omega⟩,(fun v f h=>nomatch h),fun j j0 j1=>by have:j < 0:=j1; omega⟩ ?_
  rintro ⟨s,o⟩ ⟨⟨s0,s1⟩,ha,hb⟩
  dsimp only at s0 s1 ha hb
  show Ok (eG c q s o) _
  unfold eG
  have zh:∀ f:Int,0≤f→f < c.aA.length→bU c f=some (pJ.mk (gi c.aA f) (gi c.To f)):=fun f f0 f1=>by
   unfold bU
   rw [C.iH f0 f1,aE,C.jd f0 f1,aE]; rfl
  refine od (fun hs=>?_) fun hs=>os ⟨rfl,?_⟩
  ·have hw:=w1 s0 hs (by omega)
   refine oe (aZ s0 hs) (oc (fun bz=>?_) fun bz=>?_)
   ·have Kn:ie o (gi q s)=none:=by
     cases hg:ie o (gi q s) with
     | none=>rfl
     | some j=>rw [hg] at bz; simp at bz
    have Kx:(ie (rq o (gi q s) s) (gi q s)).getD 0=s:=by rw [sy,if_pos rfl]; rfl
    refine oe (zh s s0 (by omega)) ?_
    rw [Kx]
    refine oe (zh s s0 (by omega)) ?_
    dsimp only
    rw [beq_self_eq_true,beq_self_eq_true]
    refine os ⟨⟨⟨by dsimp only; rw [hw]; omega,by dsimp only; rw [hw]; omega⟩,fun v f h=>?_,fun j j0 j1=>?_⟩,by dsimp only; rw [hw]; omega⟩
    ·dsimp only at h
     rw [sy] at h
     split at h
     ·rename_i e; cases h; exact ⟨⟨s0,hs⟩,e.symm⟩
     ·exact ha v f h
    ·dsimp only at j1 ⊢
     rw [hw] at j1
     rw [sy]
     split
     ·exact ⟨s,rfl⟩
     ·rename_i iv
      rcases (by omega:j < s∨j=s) with h | rfl
      ·exact hb j j0 h
      ·exact absurd rfl iv
   ·obtain ⟨f,hf⟩ : ∃ f,ie o (gi q s)=some f:=by
     cases hg:ie o (gi q s) with
     | none=>rw [hg] at bz; simp at bz
     | some j=>exact ⟨j,rfl⟩
    obtain ⟨⟨f0,f1⟩,ef⟩:=ha _ _ hf
    have o5:=hq.en f s f0 (by omega) s0 (by omega) ef
    rw [hf]
    refine oe (zh s s0 (by omega)) (oe (zh f f0 (by omega)) ?_)
    dsimp only
    rw [o5.1,o5.2,beq_self_eq_true,beq_self_eq_true]
    refine os ⟨⟨⟨by dsimp only; rw [hw]; omega,by dsimp only; rw [hw]; omega⟩,ha,fun j j0 j1=>?_⟩,by dsimp only; rw [hw]; omega⟩
    dsimp only at j1 ⊢
    rw [hw] at j1
    rcases (by omega:j < s∨j=s) with h | rfl
    ·exact hb j j0 h
    ·exact ⟨f,hf⟩
  ·dsimp only
   have dq:∀ j:Int,0≤j→j < c.aA.length→(0≤(ie o (gi q j)).getD 0∧(ie o (gi q j)).getD 0 < c.aA.length)∧gi q ((ie o (gi q j)).getD 0)=gi q j:=fun j j0 j1=>by
    obtain ⟨f,hf⟩:=hb j j0 (by omega)
    obtain ⟨⟨f0,f1⟩,ef⟩:=ha _ _ hf
    rw [hf]
    exact ⟨⟨f0,by show f < _; omega⟩,ef⟩
   have kl:=C.kl
   refine ol (fun s:Int=>0≤s∧s≤c.aB.length) (fun s=>(c.aB.length - s).toNat) ⟨Int.le_refl _,by omega⟩ ?_
   rintro f ⟨f0,f1⟩
   show Ok (eJ c q o f) _
   unfold eJ
   refine od (fun hf=>?_) fun hf=>os ⟨rfl,os rfl⟩
   have AB:=w1 f0 hf (by omega)
   have KV:=C.row f f0 (by omega)
   refine oe (C.nm f0 (by omega)) ?_
   refine ol (fun s:Int=>0≤s∧s≤(gr c.aB f).length) (fun s=>((gr c.aB f).length - s).toNat) ⟨Int.le_refl _,by omega⟩ ?_
   rintro g ⟨g0,g1⟩
   show Ok (eH c q o f (gr c.aB f) g) _
   unfold eH
   refine od (fun hg=>?_) fun hg=>os ⟨rfl,os ⟨⟨by rw [AB]; omega,by rw [AB]; omega⟩,by dsimp only; rw [AB]; omega⟩⟩
   have xg:=w1 g0 hg (by omega)
   have g2:g < c.aA.length:=by omega
   have f2:f < c.aA.length:=by omega
   refine oe (C.mg f0 f2 g0 g2) (oe (x:=false) ?_ ?_)
   ·by_cases he:gi c.To f=gi c.aA g
    ·have c1:=C.cell f g f0 f2 g0 g2 he
     have rf:=dq f f0 f2
     have rg:=dq g g0 g2
     have ef:=hq.en _ f rf.1.1 rf.1.2 f0 f2 rf.2
     have eg:=hq.en _ g rg.1.1 rg.1.2 g0 g2 rg.2
     have c2:=C.cell _ _ rf.1.1 rf.1.2 rg.1.1 rg.1.2 (by rw [ef.2,eg.1,he])
     have e2:gi q (gk c.aB f g)=gi q (gk c.aB ((ie o (gi q f)).getD 0) ((ie o (gi q g)).getD 0)):=by
      rw [← hq.rg _ f g rf.1.1 rf.1.2 f0 f2 g0 g2 rf.2 (by rw [ef.2,he])]
      exact (hq.lf _ g _ rg.1.1 rg.1.2 g0 g2 rf.1.1 rf.1.2 rg.2 (by rw [ef.2,eg.1,he])).symm
     rw [bm (show gk c.aB f g ≥ 0 from c1.1),cond_true,aZ c1.1 (by omega),aE,aZ f0 (by omega),aE,aZ g0 (by omega),aE,C.n4 rf.1.1 rf.1.2 rg.1.1 rg.1.2,aE,aZ c2.1 (by omega),aE,e2]
     simp
    ·rw [C.none f g f0 f2 g0 g2 he]; rfl
   ·exact os ⟨⟨by rw [xg]; omega,by rw [xg]; omega⟩,by dsimp only; rw [xg]; omega⟩
 rw [e,hy]
theorem KB:Ok (mC q) fun ps=>ps.length=q.length∧∀ k:Int,0≤k→k < q.length→∃ y:Int,gr ps k=[y,k]∧(0≤y∧y < q.length)∧gi q y=gi q k∧∀ j:Int,0≤j→j < y→gi q j≠gi q k:=by
 have hm:=C.m
 have hl:=qo C hq
 unfold mC
 refine ew (ol (fun z:List (List Int)×Int=>(0≤z.2∧z.2≤q.length)∧(z.1.length:Int)=z.2∧∀ k:Int,0≤k→k < z.2→∃ y:Int,gr z.1 k=[y,k]∧(0≤y∧y < q.length)∧gi q y=gi q k∧∀ j:Int,0≤j→j < y→gi q j≠gi q k) (fun z=>(q.length - z.2).toNat) ⟨⟨by show (0:Int)≤0; omega,by show (0:Int)≤_; omega⟩,rfl,fun k k0 k1=>by have:k < 0:=k1; omega⟩ ?_)
 rintro ⟨l,s⟩ ⟨⟨s0,s1⟩,qT,hk⟩
 dsimp only at s0 s1 qT hk
 show Ok (mK q l s) _
 unfold mK
 refine od (fun hs=>?_) fun hs=>os ⟨rfl,os ⟨by omega,fun k k0 k1=>hk k k0 (by omega)⟩⟩
 have hw:=w1 s0 hs (by omega)
 refine oe (aZ s0 hs) (ob (Cf (by omega)) fun y hy=>?_)
 have y0:=hy.MW (ib s0 hs)
 obtain ⟨y1,ye,ym⟩:=MU hy y0
 refine de (by omega) (by omega) (os ⟨⟨⟨by dsimp only; rw [hw]; omega,by dsimp only; rw [hw]; omega⟩,by dsimp only; rw [hw,List.length_append,List.length_singleton]; omega,fun k k0 k1=>?_⟩,by dsimp only; rw [hw]; omega⟩)
 dsimp only at k1 ⊢
 rw [hw] at k1
 rcases (by omega:k < s∨k=s) with h | rfl
 ·rw [IY k0 (by omega)]; exact hk k k0 h
 ·rw [IZ (by omega)]; exact ⟨y,rfl,⟨y0,y1⟩,ye,ym⟩
theorem KC:fJ c q=some true:=by
 have hm:=C.m
 have hl:=qo C hq
 obtain ⟨y,e,hy⟩ : Ok (fJ c q) fun y=>y=true:=by
  unfold fJ
  have hg:(bif ((q.length:Int)) != (c.aA.length:Int) then (some true) else (gW q>>=fun xM=>some (!xM)))=some false:=by
   rw [hl,show ((c.aA.length:Int) != (c.aA.length:Int))=false by simp,cond_false]
   have:gW q=some true:=by
    unfold gW
    rw [bm (by omega),cond_true,Ha hq.nz (by omega),aE,G5 q q (by omega),aE,beq_self_eq_true]; rfl
   rw [this,aE]; rfl
  refine ew (oe hg ?_)
  rw [cond_false]
  refine ob (KB C hq) fun ps hps=>?_
  obtain ⟨pl,hp⟩:=hps
  have P:Az c ps:=fun r hr=>by
   obtain ⟨n,hn⟩:=List.getElem?_of_mem hr
   have av:=(List.getElem?_eq_some_iff.1 hn).1
   obtain ⟨y,er,hy,ey,_⟩:=hp n (by omega) (by omega)
   have MY:r=[y,(n:Int)]:=by
    rw [← er]
    unfold gr
    rw [List.getD_eq_getElem?_getD,show ((n:Int)).toNat=n from rfl,hn]; rfl
   have:=hq.en y n hy.1 (by omega) (by omega) (by omega) ey
   exact ⟨y,n,MY,⟨hy.1,by omega⟩,⟨by omega,by omega⟩,this.1,this.2⟩
  refine ol (fun s:Int=>0≤s∧s≤ps.length) (fun s=>(ps.length - s).toNat) ⟨Int.le_refl _,by omega⟩ ?_
  rintro s ⟨s0,s1⟩
  show Ok (jD c ps s) _
  unfold jD
  refine od (fun hs=>?_) fun hs=>os ⟨rfl,?_⟩
  ·have hw:=w1 s0 hs (by omega)
   obtain ⟨a,b,er,ha,hb,ef,et⟩:=P _ (ic s0 hs)
   refine oe (jf s0 hs) ?_
   rw [er]
   refine oe (x:=a) rfl (oe (jf s0 hs) ?_)
   rw [er]
   refine oe (x:=b) rfl (oe (x:=true) ?_ (os ⟨⟨by rw [hw]; omega,by rw [hw]; omega⟩,by dsimp only; rw [hw]; omega⟩))
   unfold cE
   rw [C.iH ha.1 ha.2,aE,C.iH hb.1 hb.2,aE,C.jd ha.1 ha.2,C.jd hb.1 hb.2,ef,et,beq_self_eq_true]
   show aq (some (Out.ret (gi c.To b == gi c.To b)))=_
   rw [beq_self_eq_true]; rfl
  ·refine ob (Di C P (by omega)) fun q' ML=>?_
   have hs:q'=q:=by
    refine ML.uniq (hq.nz.mono fun i j i0 i1 j0 j1=>⟨fun e=>?_,fun hg=>?_⟩)
    ·obtain ⟨y,er,hy,ey,em⟩:=hp i i0 (by omega)
     obtain ⟨z,MY,hz,ez,em'⟩:=hp j j0 (by omega)
     have eyz:y=z:=by
      rcases Int.lt_trichotomy y z with h | h | h
      ·exact absurd (by rw [ey,e]) (em' y hy.1 h)
      ·exact h
      ·exact absurd (by rw [ez,e]) (em z hz.1 h)
     subst eyz
     have m1:[y,i]∈ps:=by rw [← er]; exact ic i0 (by omega)
     have m2:[y,j]∈ps:=by rw [← MY]; exact ic j0 (by omega)
     intro φ hφ
     rw [← x6 C P m1 φ hφ,x6 C P m2 φ hφ]
    ·refine hg (gi q) fun a b j9 f g f0 f1 g0 g1 e1 e2=>?_
     obtain ⟨ha,hb,ef,et⟩:=ux C P j9
     have eab:gi q a=gi q b:=by
      obtain ⟨n,hn⟩:=List.getElem?_of_mem j9
      have av:=(List.getElem?_eq_some_iff.1 hn).1
      obtain ⟨y,er,hy,ey,_⟩:=hp n (by omega) (by omega)
      have MY:[a,b]=[y,(n:Int)]:=by
       rw [← er]
       unfold gr
       rw [List.getD_eq_getElem?_getD,show ((n:Int)).toNat=n from rfl,hn]; rfl
      cases MY
      exact ey
     have ta:=r4 C P f0 f1 ha.1 ha.2 g0 g1 e1 e2
     have tb:=r4 C P f0 f1 hb.1 hb.2 g0 g1 (by rw [e1,ef]) (by rw [← et,e2])
     exact hq.rg _ _ g ta.1.1 ta.1.2.1 tb.1.1 tb.1.2.1 g0 g1 (hq.lf a b f ha.1 ha.2 hb.1 hb.2 f0 f1 eab e1) (by rw [ta.1.2.2.2,e2])
   rw [hs,G5 q q (by omega)]
   exact os (by rw [beq_self_eq_true]; rfl)
 rw [e,hy]
end
def wH (c:aC) (q F:List Int):aO:=aO.mk c (oy c q F) (ns c.aD.toNat) q
abbrev KR (f:aO) (i j:Int):Prop:=(gi f.aH.aA i=gi f.aH.aA j∧gi f.aH.To i=gi f.aH.To j)∧gi f.an i=gi f.an j
section
variable {c:aC} (C:l3 c) {q:List Int} (hq:ED c q) {F:List Int} (hF:IX q F)
include C hq hF
theorem RY:ox (wH c q F)=true:=by
 have Q:=Dn C hq hF
 have hl:=qo C hq
 have o0:=C.o0
 have eF:(oy c q F).aA.length=F.length:=bA _ _
 refine VV (AF C) (AF Q) ?_ hl (fun y hy=>?_) (fun y hy=>?_) (fun a a0 a1=>?_) (fun a a0 a1=>?_) (fun x x0 x1=>?_) fun a b a0 a1 b0 b1 e=>?_
 ·show ((ns c.aD.toNat).length:Int)=c.aD; rw [bR]; omega
 ·have:=dy.1 hy; show 0≤y∧y < c.aD; omega
 ·obtain ⟨i,i0,i1,rfl⟩:=rL hy
  show 0≤gi q i∧gi q i < (oy c q F).aA.length
  rw [eF]
  exact hF.a i i0 i1
 ·show gi (oy c q F).aA (gi q a)=gi (ns c.aD.toNat) (gi c.aA a)
  have hz:=rh C hq hF a0 a1
  have:=C.fr a0 a1
  rw [show gi (oy c q F).aA (gi q a)=gi c.aA (gi F (gi q a)) from gp hz.1.1 hz.1.2,hz.2.2.2.1,qf this.1 (by omega)]
 ·show gi (oy c q F).To (gi q a)=gi (ns c.aD.toNat) (gi c.To a)
  have hz:=rh C hq hF a0 a1
  have:=C.to a0 a1
  rw [show gi (oy c q F).To (gi q a)=gi c.To (gi F (gi q a)) from gp hz.1.1 hz.1.2,hz.2.2.2.2,qf this.1 (by omega)]
 ·have x1':x < c.aD:=x1
  have il:=C.il
  show gi q (gi c.aF x)=gi (thenS c.aF q) (gi (ns c.aD.toNat) x)
  rw [qf x0 (by omega),zf x0 (by omega)]
 ·have Ae:a < c.aA.length:=a1
  have r5:b < c.aA.length:=b1
  have e':gi c.To a=gi c.aA b:=e
  have za:=rh C hq hF a0 Ae
  have zb:=rh C hq hF b0 r5
  show gi q (gk c.aB a b)=gk (oy c q F).aB (gi q a) (gi q b)
  rw [DX C hq hF za.1.1 za.1.2 zb.1.1 zb.1.2,show (gi c.To (gi F (gi q a)) == gi c.aA (gi F (gi q b)))=true by rw [za.2.2.2.2,zb.2.2.2.1,e']; simp,cond_true]
  exact (Dm C hq hF a0 Ae b0 r5 e').symm
theorem Pz:EZ (wH c q F)=false:=by
 have o0:=C.o0
 have eF:(oy c q F).aA.length=F.length:=bA _ _
 unfold EZ
 rw [gu]
 intro x x0 x1
 rw [gu]
 intro y y0 y1
 have x1':x < c.aD:=by have:(wH c q F).aH.aD=c.aD:=rfl; omega
 have y1':y < c.aD:=by have:(wH c q F).aH.aD=c.aD:=rfl; omega
 rw [List.any_eq_false]
 intro b hb
 obtain ⟨⟨b0,b1⟩,bf,bt⟩:=DW.1 hb
 have r5:b < F.length:=by have:b < (oy c q F).aA.length:=b1; omega
 have bb:=rN C hq hF b0 r5
 have e1:gi c.aA (gi F b)=x:=by
  have:gi (oy c q F).aA b=gi (ns c.aD.toNat) x:=bf
  rw [show gi (oy c q F).aA b=gi c.aA (gi F b) from gp b0 r5,qf x0 (by omega)] at this
  exact this
 have e2:gi c.To (gi F b)=y:=by
  have:gi (oy c q F).To b=gi (ns c.aD.toNat) y:=bt
  rw [show gi (oy c q F).To b=gi c.To (gi F b) from gp b0 r5,qf y0 (by omega)] at this
  exact this
 have hm:gi F b∈uU c x y:=DW.2 ⟨bb.1,e1,e2⟩
 have:=MJ (b:=q) hm
 rw [bb.2] at this
 have:hasB (thenS (uU (wH c q F).aH x y) (wH c q F).an) b=true:=zd.2 this
 rw [this]; simp
theorem MZ:pW (wH c q F):=by
 have hl:=qo C hq
 have hm:=C.m
 have o8:=C.o8
 exact ⟨n5 C,n5 (Dn C hq hF),by show (ns _).length≤_; rw [bR]; omega,by show q.length≤_; omega⟩
theorem VW:dZ c q=some (wH c q F,0):=by
 have hl:=qo C hq
 have hm:=C.m
 have o8:=C.o8
 have o0:=C.o0
 have h1:fO c q=some (oy c q F,0):=by
  unfold fO
  rw [Ax (n5 C),aE,AF C,Bool.not_true,cond_false,Dp C hq,aE,Bool.not_true,aE,cond_false,Py C hq hF,aE]; rfl
 unfold dZ
 rw [h1,aE,qR rfl,cond_false,BO o0 (by omega),aE,HS (n5 C) (n5 (Dn C hq hF)) (by rw [bR]; omega) (by omega),aE]; rfl
end
section
variable {c:aC} (C:l3 c) {q:List Int} (hq:ED c q)
include C hq
theorem VX:∃ F,IX q F∧dZ c q=some (wH c q F,0)∧gC c q=some (wH c q F,0):=by
 have hl:=qo C hq
 have hm:=C.m
 have o8:=C.o8
 have o0:=C.o0
 obtain ⟨Q,e,F,hF,rfl⟩:=Px C hq
 have h1:fP c q=some (oy c q F,0):=by
  unfold fP
  rw [xY (n5 C),aE,AF C,Bool.not_true,cond_false,KC C hq,aE,Bool.not_true,aE,cond_false,e,aE]; rfl
 refine ⟨F,hF,VW C hq hF,?_⟩
 unfold gC
 rw [h1,aE,qR rfl,cond_false,RX C,aE,wG (n5 C) (n5 (Dn C hq hF)) (by show (ns _).length≤_; rw [bR]; omega) (by omega),aE]; rfl
end
section
variable {f:aO} (hf:ox f=true)
include hf
theorem VY {q:List Int} (h:Nz (KR f) f.aH.aA.length q):ED f.aH q:=by
 have U:=uV hf
 have C:=U.c
 have hs:=h.self
 rw [h.len] at hs
 refine ⟨hs,fun i j i0 i1 j0 j1 e=>((h.k i j i0 i1 j0 j1).1 e).1,fun i j g i0 i1 j0 j1 g0 g1 e e2=>?_,fun i j g i0 i1 j0 j1 g0 g1 e e2=>?_⟩
 ·obtain ⟨⟨ef,et⟩,ea⟩:=(h.k i j i0 i1 j0 j1).1 e
  have e3:gi f.aH.To j=gi f.aH.aA g:=by rw [← et,e2]
  have c1:=C.cell i g i0 i1 g0 g1 e2
  have c2:=C.cell j g j0 j1 g0 g1 e3
  exact (h.k _ _ c1.1 c1.2.1 c2.1 c2.2.1).2 ⟨⟨by rw [c1.2.2.1,c2.2.2.1,ef],by rw [c1.2.2.2,c2.2.2.2]⟩,by rw [U.co i g i0 i1 g0 g1 e2,U.co j g j0 j1 g0 g1 e3,ea]⟩
 ·obtain ⟨⟨ef,et⟩,ea⟩:=(h.k i j i0 i1 j0 j1).1 e
  have e3:gi f.aH.To g=gi f.aH.aA j:=by rw [← ef,e2]
  have c1:=C.cell g i g0 g1 i0 i1 e2
  have c2:=C.cell g j g0 g1 j0 j1 e3
  exact (h.k _ _ c1.1 c1.2.1 c2.1 c2.2.1).2 ⟨⟨by rw [c1.2.2.1,c2.2.2.1],by rw [c1.2.2.2,c2.2.2.2,et]⟩,by rw [U.co g i g0 g1 i0 i1 e2,U.co g j g0 g1 j0 j1 e3,ea]⟩
theorem I0 (fs:pW f):Ok (cB f) fun y=>y.2=0∧Nz (KR f) f.aH.aA.length y.1:=by
 have U:=uV hf
 have C:=U.c
 have D:=U.d
 have hm:=C.m
 have dm:=D.m
 have o8:=C.o8
 have al:=U.al
 unfold cB
 refine ew (oe (uX fs) ?_)
 rw [hf,Bool.not_true,cond_false,ur (by omega) (by omega),aE]
 refine ol (fun s:Int×List Int=>(0≤s.1∧s.1≤f.an.length)∧s.2.length=f.an.length∧∀ j:Int,0≤j→j < s.1→gi s.2 j=(gi f.aH.aA j * 8+gi f.aH.To j) * 40+gi f.an j) (fun s=>(f.an.length - s.1).toNat) ⟨⟨by show (0:Int)≤0; omega,by show (0:Int)≤_; omega⟩,by simp,fun k k0 k1=>by have:k < 0:=k1; omega⟩ ?_
 rintro ⟨s,o⟩ ⟨⟨s0,s1⟩,ho,hj⟩
 dsimp only at s0 s1 ho hj
 show Ok (gY f s o) _
 unfold gY
 have bd:∀ j:Int,0≤j→j < f.aH.aA.length→(0≤gi f.aH.aA j∧gi f.aH.aA j < 8)∧(0≤gi f.aH.To j∧gi f.aH.To j < 8)∧0≤gi f.an j∧gi f.an j < 40:=fun j j0 j1=>by
  have h1:=C.fr j0 j1
  have h2:=C.to j0 j1
  have h3:=U.ar j0 j1
  exact ⟨⟨h1.1,by omega⟩,⟨h2.1,by omega⟩,h3.1,by omega⟩
 refine od (fun hs=>?_) fun hs=>os ⟨rfl,?_⟩
 ·have hw:=w1 s0 hs (by omega)
  have hb:=bd s s0 (by omega)
  refine oe (aZ s0 hs) (oe (C.iH s0 (by omega)) (oe (C.jd s0 (by omega)) (oe (aZ s0 (by omega)) (os ⟨⟨⟨by dsimp only; rw [hw]; omega,by dsimp only; rw [hw]; omega⟩,by dsimp only; rw [List.length_set]; exact ho,fun j j0 j1=>?_⟩,by dsimp only; rw [hw]; omega⟩))))
  dsimp only at j1 ⊢
  rw [hw] at j1
  rw [jo s0 (by omega) j0]
  split
  ·rename_i e
   rw [e,bT (a:=gi f.aH.aA s * 8) (by omega) (by omega),bT (a:=gi f.aH.aA s * 8+gi f.aH.To s) (by omega) (by omega),bT (a:=(gi f.aH.aA s * 8+gi f.aH.To s) * 40) (by omega) (by omega),bT (by omega) (by omega)]
  ·exact hj j j0 (by omega)
 ·dsimp only
  refine ob (EB (l:=o) (by omega)) fun q hq=>os ⟨rfl,?_⟩
  dsimp only
  rw [show o.length=f.aH.aA.length by omega] at hq
  refine hq.mono fun i j i0 i1 j0 j1=>?_
  rw [hj i i0 (by omega),hj j j0 (by omega)]
  have r6:=bd i i0 i1
  have ja:=bd j j0 j1
  unfold KR
  constructor
  ·intro e; omega
  ·rintro ⟨⟨e1,e2⟩,e3⟩; rw [e1,e2,e3]
theorem PB {i j:Int} (i0:0≤i) (i1:i < f.aH.aA.length) (j0:0≤j) (j1:j < f.aH.aA.length):cE f.aH i j=some (decide (gi f.aH.aA i=gi f.aH.aA j∧gi f.aH.To i=gi f.aH.To j)):=by
 have C:=(uV hf).c
 unfold cE
 rw [C.iH i0 i1,aE,C.iH j0 j1,aE,C.jd i0 i1,C.jd j0 j1]
 by_cases h1:gi f.aH.aA i=gi f.aH.aA j
 ·rw [show (gi f.aH.aA i == gi f.aH.aA j)=true by simpa using h1,cond_true,aE,aE]
  by_cases h2:gi f.aH.To i=gi f.aH.To j
  ·rw [show (gi f.aH.To i == gi f.aH.To j)=true by simpa using h2,decide_eq_true ⟨h1,h2⟩]; rfl
  ·rw [show (gi f.aH.To i == gi f.aH.To j)=false by simpa using h2,decide_eq_false (fun h=>h2 h.2)]; rfl
 ·rw [show (gi f.aH.aA i == gi f.aH.aA j)=false by simpa using h1,cond_false,decide_eq_false (fun h=>h1 h.1)]; rfl
theorem RZ (fs:pW f):Ok (cI f) fun y=>y.2=0∧Nz (KR f) f.aH.aA.length y.1:=by
 have U:=uV hf
 have C:=U.c
 have hm:=C.m
 have al:=U.al
 unfold cI
 refine ew (oe (EE fs) ?_)
 rw [hf,Bool.not_true,cond_false]
 let YU:List Int→Prop:=fun r=>∃ a b:Int,r=[b,a]∧((0≤b∧b < a)∧a < f.aH.aA.length)∧KR f a b
 refine ol (fun z:List (List Int)×Int=>(0≤z.2∧z.2≤f.an.length)∧(z.1.length:Int)≤40 * z.2∧(∀ r∈z.1,YU r)∧∀ a b:Int,0≤b→b < a→a < z.2→KR f a b→[b,a]∈z.1) (fun z=>(f.an.length - z.2).toNat) ⟨⟨by show (0:Int)≤0; omega,by show (0:Int)≤_; omega⟩,by show (0:Int)≤40 * 0; omega,fun r h=>(nomatch h),fun a b b0 b1 a1=>by have:a < 0:=a1; omega⟩ ?_
 rintro ⟨l,a⟩ ⟨⟨a0,a1⟩,hl,pq,cq⟩
 dsimp only at a0 a1 hl pq cq
 show Ok (iB f l a) _
 unfold iB
 refine od (fun ha=>?_) fun ha=>os ⟨rfl,?_⟩
 ·have M0:=w1 a0 ha (by omega)
  refine ol (fun z:List (List Int)×Int=>(0≤z.2∧z.2≤a)∧(z.1.length:Int)≤l.length+z.2∧(∀ r∈z.1,YU r)∧(∀ r∈l,r∈z.1)∧∀ b:Int,0≤b→b < z.2→KR f a b→[b,a]∈z.1) (fun z=>(a - z.2).toNat) ⟨⟨by show (0:Int)≤0; omega,a0⟩,by show (l.length:Int)≤l.length+0; omega,pq,fun r h=>h,fun b b0 b1=>by have:b < 0:=b1; omega⟩ ?_
  rintro ⟨l1,b⟩ ⟨⟨b0,b1⟩,VG,AA,I1,vw⟩
  dsimp only at b0 b1 VG AA I1 vw
  show Ok (iA f a l1 b) _
  unfold iA
  refine od (fun hb=>?_) fun hb=>os ⟨rfl,os ⟨⟨⟨by dsimp only; rw [M0]; omega,by dsimp only; rw [M0]; omega⟩,by dsimp only; rw [M0]; omega,AA,fun a' b' I2 r5 Ae hk=>?_⟩,by dsimp only; rw [M0]; omega⟩⟩
  ·have AH:=w1 b0 hb (by omega)
   have w5:(cE f.aH a b>>=fun BL=>bif BL then (idx f.an a>>=fun Mi=>idx f.an b>>=fun Vl=>some (Mi == Vl)) else some false)=some (decide (KR f a b)):=by
    rw [PB hf a0 (by omega) b0 (by omega),aE]
    by_cases h1:gi f.aH.aA a=gi f.aH.aA b∧gi f.aH.To a=gi f.aH.To b
    ·rw [decide_eq_true h1,cond_true,U.tF a0 (by omega),aE,U.tF b0 (by omega),aE]
     by_cases h2:gi f.an a=gi f.an b
     ·rw [show (gi f.an a == gi f.an b)=true by simpa using h2,decide_eq_true (show KR f a b from ⟨h1,h2⟩)]
     ·rw [show (gi f.an a == gi f.an b)=false by simpa using h2,decide_eq_false (fun h:KR f a b=>h2 h.2)]
    ·rw [decide_eq_false h1,cond_false,decide_eq_false (fun h:KR f a b=>h1 h.1)]
   refine oe w5 (od (fun hk=>?_) fun hk=>os ⟨⟨⟨by dsimp only; rw [AH]; omega,by dsimp only; rw [AH]; omega⟩,by dsimp only; rw [AH]; omega,AA,I1,fun b' I2 r5 rU=>?_⟩,by dsimp only; rw [AH]; omega⟩)
   ·refine de (by omega) (by omega) (os ⟨⟨⟨by dsimp only; rw [AH]; omega,by dsimp only; rw [AH]; omega⟩,by dsimp only; rw [AH,List.length_append,List.length_singleton]; omega,fun r hr=>?_,fun r hr=>List.mem_append_left _ (I1 r hr),fun b' I2 r5 rU=>?_⟩,by dsimp only; rw [AH]; omega⟩)
    ·rcases List.mem_append.1 hr with hr | hr
     ·exact AA r hr
     ·exact ⟨a,b,List.mem_singleton.1 hr,⟨⟨b0,hb⟩,by omega⟩,hk⟩
    ·dsimp only at r5 ⊢
     rw [AH] at r5
     rcases (by omega:b' < b∨b'=b) with h | rfl
     ·exact List.mem_append_left _ (vw b' I2 h rU)
     ·exact List.mem_append_right _ (List.mem_singleton.2 rfl)
   ·dsimp only at r5 ⊢
    rw [AH] at r5
    rcases (by omega:b' < b∨b'=b) with h | rfl
    ·exact vw b' I2 h rU
    ·exact absurd rU hk
  ·dsimp only at Ae ⊢
   rw [M0] at Ae
   rcases (by omega:a' < a∨a'=a) with h | rfl
   ·exact I1 _ (cq a' b' I2 r5 h hk)
   ·exact vw b' I2 (by omega) hk
 ·dsimp only
  refine ob (IS (n:=(f.an.length:Int)) (by omega) (by omega) (by omega) fun r hr=>?_) fun q hq=>os ⟨rfl,?_⟩
  ·obtain ⟨a',b',e,h1,h2⟩:=pq r hr
   exact ⟨b',a',[],e,⟨h1.1.1,by omega⟩,by omega,by omega⟩
  ·dsimp only
   rw [show (f.an.length:Int).toNat=f.aH.aA.length by omega] at hq
   refine hq.mono fun i j i0 i1 j0 j1=>⟨fun h=>?_,fun h c hc=>?_⟩
   ·have nb:∀ c:Int→Int,(∀ a b:Int,KR f a b→c a=c b)→c i=c j:=fun c hc=>h c fun r hr a b t e=>by
     obtain ⟨a',b',e',h1,h2⟩:=pq r hr
     rw [e'] at e
     cases e
     exact (hc _ _ h2).symm
    exact ⟨⟨nb (gi f.aH.aA) fun a b h=>h.1.1,nb (gi f.aH.To) fun a b h=>h.1.2⟩,nb (gi f.an) fun a b h=>h.2⟩
   ·rcases Int.lt_trichotomy i j with qJ | qJ | qJ
    ·have h':KR f j i:=⟨⟨h.1.1.symm,h.1.2.symm⟩,h.2.symm⟩
     exact hc _ (cq j i i0 qJ (by omega) h') i j [] rfl
    ·rw [qJ]
    ·exact (hc _ (cq i j j0 qJ (by omega) h) j i [] rfl).symm
end
theorem Xt {a m:Int} (hm:0 < m):∃ y,sI .rem .i64 a m=some y:=⟨_,if_neg (by omega)⟩
section
variable {x:List Int} (B:tO x)
include B
theorem R0 {s:aI} (S:Src x s) {c:aC} (cs:fk c):Ok (mA s c) fun y=>y.1.length≤10∧∀ r∈y.1,r.length≤2:=by
 have cf:=cs.f
 unfold mA
 refine ew (ob (b9 B S _) fun y hy=>?_)
 have hy3:=hy.1.2 (by omega)
 refine ol (fun z:List (List Int)×Int×Int×Int=>(0≤z.2.1∧(z.1.length:Int)+z.2.1≤3)∧(∀ r∈z.1,r.length≤2)∧Src x (aI.mk s.Code z.2.2.1 z.2.2.2)) (fun z=>z.2.1.toNat) ⟨⟨hy.1.1,by show (0:Int)+y.1≤3; omega⟩,fun r h=>(nomatch h),S.on hy.2⟩ ?_
 rintro ⟨l,k,u,v⟩ ⟨⟨k0,k1⟩,hr,hS⟩
 dsimp only at k0 k1 hr hS
 show Ok (mJ s c l k u v) _
 unfold mJ
 have hg:(bif decide (k > (0:Int)) then (some (decide ((c.aA.length:Int) > (0:Int)))) else (some false))=some (decide (k > 0∧(c.aA.length:Int) > 0)):=by
  by_cases h1:k > 0
  ·rw [bm h1,cond_true]; simp [h1]
  ·rw [br h1,cond_false]; simp [h1]
 refine oe hg (od (fun hh=>?_) fun hh=>os ⟨rfl,?_⟩)
 ·obtain ⟨hk,hc⟩:=hh
  have hw:ak (k - 1)=k - 1:=bT (by omega) (by omega)
  refine ob (b9 B hS _) fun z hz=>?_
  have zB:=hz.1.2 (by omega)
  have fl:Src x (aI.mk s.Code z.2.At z.2.au):=S.on hz.2
  refine ob (Xu B fl _) fun w xH=>?_
  refine ol (fun t:Int×Int=>0≤t.2∧t.2≤c.aA.length) (fun t=>(c.aA.length - t.2).toNat) ⟨by show (0:Int)≤0; omega,by show (0:Int)≤_; omega⟩ ?_
  rintro ⟨g,t⟩ ⟨t0,t1⟩
  dsimp only at t0 t1
  show Ok (mI c z g t) _
  unfold mI
  refine ob (P:=fun b=>b=true→t < c.aA.length) (od (fun ht=>?_) fun ht=>os fun h=>nomatch h) fun b hb=>oc (fun e=>?_) fun e=>os ⟨rfl,?_⟩
  ·refine oe (xY cs) (oc (fun Fj=>?_) fun _=>os fun _=>ht)
   have C:=rK Fj
   refine oe (Pw c g) (oc (fun ha=>?_) fun _=>os fun _=>ht)
   rw [Bool.and_eq_true,decide_eq_true_eq,decide_eq_true_eq] at ha
   refine ob (P:=fun _=>True) ?_ fun b _=>os fun _=>ht
   unfold cE
   refine ew (og ?_ fun b=>os trivial)
   rw [C.iH hz.1.1 zB,aE,C.iH ha.1 ha.2,aE]
   refine oc (fun _=>?_) fun _=>os trivial
   rw [C.jd hz.1.1 zB,aE,C.jd ha.1 ha.2,aE]
   exact os trivial
  ·have ht:=hb e
   obtain ⟨y7,e7⟩:=Xt (a:=ak (g+1)) (m:=(c.aA.length:Int)) (by omega)
   refine oe e7 (os ⟨⟨by dsimp only; rw [w1 t0 ht (by omega)]; omega,by dsimp only; rw [w1 t0 ht (by omega)]; omega⟩,by dsimp only; rw [w1 t0 ht (by omega)]; omega⟩)
  ·dsimp only
   refine de (by omega) (by omega) (os ⟨⟨⟨by dsimp only; rw [hw]; omega,by dsimp only; rw [hw,List.length_append,List.length_singleton]; omega⟩,fun r h=>?_,S.on xH⟩,by dsimp only; rw [hw]; omega⟩)
   rcases List.mem_append.1 h with h | h
   ·exact hr r h
   ·rw [List.mem_singleton.1 h]; exact Nat.le_refl 2
 ·dsimp only
  have app:∀ (l:List (List Int)) (r:List Int),(∀ r∈l,r.length≤2)→r.length≤2→∀ r'∈l++[r],r'.length≤2:=fun l r h1 h2 r' h=>by
   rcases List.mem_append.1 h with h | h
   ·exact h1 r' h
   ·rw [List.mem_singleton.1 h]; exact h2
  refine ob (b9 B hS _) fun z hz=>?_
  have fl:Src x (aI.mk s.Code z.2.At z.2.au):=S.on hz.2
  refine oc (fun _=>od (fun _=>?_) fun _=>?_) fun _=>?_
  ·refine ob (b9 B fl _) fun z2 Ii=>?_
   have gw:Src x (aI.mk s.Code z2.2.At z2.2.au):=S.on Ii.2
   refine ob (b9 B gw _) fun z3 hz3=>?_
   have hS3:Src x (aI.mk s.Code z3.2.At z3.2.au):=S.on hz3.2
   have ha:=app l [z2.1,z3.1] hr (Nat.le_refl 2)
   refine de (by omega) (by omega) (ob (b9 B hS3 _) fun z4 YV=>oc (fun _=>de (by rw [List.length_append,List.length_singleton]; omega) (by rw [List.length_append,List.length_singleton]; omega) (os ⟨?_,app _ [0] ha (Nat.le_succ 1)⟩)) fun _=>os ⟨?_,ha⟩)
   ·show ((l++[[z2.1,z3.1]])++[[0]]).length≤10
    rw [List.length_append,List.length_append,List.length_singleton,List.length_singleton]; omega
   ·show (l++[[z2.1,z3.1]]).length≤10
    rw [List.length_append,List.length_singleton]; omega
  ·refine ob (b9 B fl _) fun z4 YV=>oc (fun _=>de (by omega) (by omega) (os ⟨?_,app _ [0] hr (Nat.le_succ 1)⟩)) fun _=>os ⟨?_,hr⟩
   ·show (l++[[0]]).length≤10
    rw [List.length_append,List.length_singleton]; omega
   ·show l.length≤10; omega
  ·refine ob (b9 B fl _) fun z4 YV=>oc (fun _=>de (by omega) (by omega) (os ⟨?_,app _ [0] hr (Nat.le_succ 1)⟩)) fun _=>os ⟨?_,hr⟩
   ·show (l++[[0]]).length≤10
    rw [List.length_append,List.length_singleton]; omega
   ·show l.length≤10; omega
theorem VZ:Ok (fK x) fun y=>fk y.1∧y.2.length≤10∧∀ r∈y.2,r.length≤2:=by
 unfold fK
 refine ew (ob (M1 B) fun y hy=>?_)
 obtain ⟨s,rfl,S⟩:=hy
 show Ok (kO (aI.mk x s.At s.au) 6 24>>=_) _
 exact ob (V0 B S.V1 6 24) fun z hz=>ob (R0 B hz.2.V1 hz.1) fun w hw=>os ⟨hz.1,hw⟩
theorem V2:Ok (cM x) pW:=by
 unfold cM
 refine ew (ob (M1 B) fun y hy=>?_)
 obtain ⟨s,rfl,S⟩:=hy
 show Ok (kU (aI.mk x s.At s.au)>>=_) _
 exact ob (R1 B S.V1) fun f hf=>os hf.1
end
def M3 (c:aC) (ps:List (List Int)) (y:List Int×Int):Prop:=
 (lz c=false∧y=([],1))∨(lz c=true∧(∃ r∈ps,lj c.aA.length r=false)∧y=([],2))∨
 (lz c=true∧(∀ r∈ps,lj c.aA.length r=true)∧¬ Az c ps∧y=([],5))∨(lz c=true∧Az c ps∧y.2=0∧Nz (Cg c ps) c.aA.length y.1)
theorem QQ {c:aC} {ps:List (List Int)} (P:Az c ps):∀ r∈ps,lj c.aA.length r=true:=fun r hr=>by
 obtain ⟨a,b,e,ha,hb,_⟩:=P r hr
 rw [e,ni]
 intro y hy
 rcases List.mem_cons.1 hy with rfl | hy
 ·exact ha
 ·rw [List.mem_singleton.1 hy]; exact hb
theorem M3.uniq {c:aC} {ps:List (List Int)} {y z:List Int×Int} (h:M3 c ps y) (k:M3 c ps z):y=z:=by
 have hx:(∃ r∈ps,lj c.aA.length r=false)→(∀ r∈ps,lj c.aA.length r=true)→False:=fun ⟨r,hr,e⟩ h=>by rw [h r hr] at e; cases e
 rcases h with ⟨h1,h2⟩ | ⟨h1,h2,h3⟩ | ⟨h1,h2,h3,h4⟩ | ⟨h1,h2,h3,h4⟩ <;> rcases k with ⟨k1,k2⟩ | ⟨k1,k2,k3⟩ | ⟨k1,k2,k3,k4⟩ | ⟨k1,k2,k3,k4⟩
 all_goals first | (rw [h1] at k1; cases k1; done) | skip
 ·rw [h2,k2]
 ·rw [h3,k3]
 ·exact (hx h2 k2).elim
 ·exact (hx h2 (QQ k2)).elim
 ·exact (hx k2 h2).elim
 ·rw [h4,k4]
 ·exact absurd k2 h3
 ·exact (hx k2 (QQ h2)).elim
 ·exact absurd h2 k3
 ·exact Prod.ext (h4.uniq k4) (by rw [h3,k3])
section
variable {c:aC} (cs:fk c) {ps:List (List Int)} (hl:ps.length≤10) (hr:∀ r∈ps,r.length≤2)
include cs hl hr
def AI (c:aC) (r:List Int):Prop:=∃ a b:Int,r=[a,b]∧gi c.aA a=gi c.aA b∧gi c.To a=gi c.To b
omit cs hl hr in
theorem V3 {r:List Int} (h:r.length=2):r=[gi r 0,gi r 1]:=by
 match r,h with
 | [a,b],_=>rfl
theorem M4:Ok (iS c ps) (M3 c ps):=by
 unfold iS
 refine ew (oe (Ax cs) ?_)
 cases hc:lz c with
 | false=>exact os (.inl ⟨hc,rfl⟩)
 | true=>
  have C:=rK hc
  have hm:=C.m
  rw [Bool.not_true,cond_false]
  refine ol (fun s:Int=>(0≤s∧s≤ps.length)∧∀ k:Int,0≤k→k < s→lj c.aA.length (gr ps k)=true) (fun s=>(ps.length - s).toNat) ⟨⟨by omega,by omega⟩,fun k k0 k1=>by omega⟩ ?_
  rintro s ⟨⟨s0,s1⟩,hk⟩
  unfold mY
  refine od (fun hs=>?_) fun hs=>os ⟨rfl,?_⟩
  ·have hw:=w1 s0 hs (by omega)
   have j9:=ic s0 hs
   have h2:=hr _ j9
   refine oe (jf s0 hs) (oe (x:=(c.aA.length:Int)) rfl (oe (within _ _ (by omega) (by omega) (by omega)) ?_))
   cases hi:lj c.aA.length (gr ps s) with
   | false=>exact os (.inr (.inl ⟨hc,⟨_,j9,hi⟩,rfl⟩))
   | true=>
    refine os ⟨⟨⟨by rw [hw]; omega,by rw [hw]; omega⟩,fun k k0 k1=>?_⟩,by dsimp only; rw [hw]; omega⟩
    rw [hw] at k1
    rcases (by omega:k < s∨k=s) with h | rfl
    ·exact hk k k0 h
    ·exact hi
  ·have cq:∀ r∈ps,lj c.aA.length r=true:=fun r fw=>by
    obtain ⟨n,hn⟩:=List.getElem?_of_mem fw
    have av:=(List.getElem?_eq_some_iff.1 hn).1
    have:=hk n (by omega) (by omega)
    unfold gr at this
    rwa [List.getD_eq_getElem?_getD,show ((n:Int)).toNat=n from rfl,hn] at this
   refine ol (fun s:Int=>(0≤s∧s≤ps.length)∧∀ k:Int,0≤k→k < s→AI c (gr ps k)) (fun s=>(ps.length - s).toNat) ⟨⟨by omega,by omega⟩,fun k k0 k1=>by omega⟩ ?_
   rintro t ⟨⟨t0,t1⟩,hp⟩
   unfold mZ
   have zh:∀ f:Int,0≤f→f < c.aA.length→bU c f=some (pJ.mk (gi c.aA f) (gi c.To f)):=fun f f0 f1=>by
    unfold bU
    rw [C.iH f0 f1,aE,C.jd f0 f1,aE]; rfl
   refine od (fun ht=>?_) fun ht=>os ⟨rfl,?_⟩
   ·have hw:=w1 t0 ht (by omega)
    have j9:=ic t0 ht
    have pq:=ni.1 (cq _ j9)
    have bad : ¬ AI c (gr ps t)→¬ Az c ps:=fun h P=>h (by
     obtain ⟨a,b,e,_,_,e1,e2⟩:=P _ j9
     exact ⟨a,b,e,e1,e2⟩)
    have PC:AI c (gr ps t)→∀ k:Int,0≤k→k < ak (t+1)→AI c (gr ps k):=fun h k k0 k1=>by
     rw [hw] at k1
     rcases (by omega:k < t∨k=t) with h1 | rfl
     ·exact hp k k0 h1
     ·exact h
    refine oe (jf t0 ht) ?_
    by_cases h2:(gr ps t).length=2
    ·have er:=V3 h2
     have h0:=pq (gi (gr ps t) 0) (ib (by omega) (by omega))
     have h1:=pq (gi (gr ps t) 1) (ib (by omega) (by omega))
     rw [show (((gr ps t).length:Int) != 2)=false by rw [h2]; rfl,cond_false,aZ (by omega) (by omega),aE,zh _ h0.1 h0.2,aE,aZ (by omega) (by omega),aE,zh _ h1.1 h1.2,aE,aE]
     dsimp only
     by_cases e:gi c.aA (gi (gr ps t) 0)=gi c.aA (gi (gr ps t) 1)∧gi c.To (gi (gr ps t) 0)=gi c.To (gi (gr ps t) 1)
     ·rw [e.1,e.2,beq_self_eq_true,beq_self_eq_true]
      exact os ⟨⟨⟨by rw [hw]; omega,by rw [hw]; omega⟩,PC ⟨_,_,er,e.1,e.2⟩⟩,by dsimp only; rw [hw]; omega⟩
     ·rw [show (gi c.aA (gi (gr ps t) 0) == gi c.aA (gi (gr ps t) 1) && gi c.To (gi (gr ps t) 0) == gi c.To (gi (gr ps t) 1))=false by
       rw [Bool.eq_false_iff]; intro h; rw [Bool.and_eq_true,beq_iff_eq,beq_iff_eq] at h; exact e h]
      refine os (.inr (.inr (.inl ⟨hc,cq,bad ?_,rfl⟩)))
      rintro ⟨a,b,e',e1,e2⟩
      rw [e'] at e
      exact e ⟨e1,e2⟩
    ·rw [show (((gr ps t).length:Int) != 2)=true by simp; omega,cond_true,aE]
     refine os (.inr (.inr (.inl ⟨hc,cq,bad ?_,rfl⟩)))
     rintro ⟨a,b,e',e1,e2⟩
     rw [e'] at h2
     exact h2 rfl
   ·have P:Az c ps:=fun r fw=>by
     obtain ⟨n,hn⟩:=List.getElem?_of_mem fw
     have av:=(List.getElem?_eq_some_iff.1 hn).1
     obtain ⟨a,b,e,e1,e2⟩:=hp n (by omega) (by omega)
     unfold gr at e
     rw [List.getD_eq_getElem?_getD,show ((n:Int)).toNat=n from rfl,hn] at e
     have e:r=[a,b]:=e
     have pq:=ni.1 (cq r fw)
     rw [e] at pq
     exact ⟨a,b,e,pq a (by simp),pq b (by simp),e1,e2⟩
    exact ob (Pt C P (by omega)) fun y hy=>os (.inr (.inr (.inr ⟨hc,P,rfl,hy⟩)))
theorem M5:Ok (iU c ps) (M3 c ps):=by
 unfold iU
 refine ew (ol (fun s:Int=>(0≤s∧s≤ps.length)∧∀ k:Int,0≤k→k < s→lj c.aA.length (gr ps k)=true) (fun s=>(ps.length - s).toNat) ⟨⟨by omega,by omega⟩,fun k k0 k1=>by omega⟩ ?_)
 rintro s ⟨⟨s0,s1⟩,hk⟩
 have cf:=cs.f
 unfold nC
 refine od (fun hs=>?_) fun hs=>os ⟨rfl,?_⟩
 ·have hw:=w1 s0 hs (by omega)
  have j9:=ic s0 hs
  have h2:=hr _ j9
  have ha:lD c (gr ps s)=some (bif lz c then (bif lj c.aA.length (gr ps s) then 0 else 2) else 1):=by
   unfold lD
   rw [xY cs,aE]
   cases lz c with
   | false=>rfl
   | true=>
    rw [Bool.not_true,cond_false,xW _ _ (by omega),aE]
    cases lj c.aA.length (gr ps s) <;> rfl
  refine oe (jf s0 hs) (oe ha ?_)
  cases hc:lz c with
  | false=>exact os (.inl ⟨hc,rfl⟩)
  | true=>
   cases hi:lj c.aA.length (gr ps s) with
   | false=>exact os (.inr (.inl ⟨hc,⟨_,j9,hi⟩,rfl⟩))
   | true=>
    refine os ⟨⟨⟨by rw [hw]; omega,by rw [hw]; omega⟩,fun k k0 k1=>?_⟩,by dsimp only; rw [hw]; omega⟩
    rw [hw] at k1
    rcases (by omega:k < s∨k=s) with h | rfl
    ·exact hk k k0 h
    ·exact hi
 ·refine oe (xY cs) ?_
  cases hc:lz c with
  | false=>exact os (.inl ⟨hc,rfl⟩)
  | true=>
   have C:=rK hc
   have hm:=C.m
   rw [Bool.not_true,cond_false]
   have cq:∀ r∈ps,lj c.aA.length r=true:=fun r fw=>by
    obtain ⟨n,hn⟩:=List.getElem?_of_mem fw
    have av:=(List.getElem?_eq_some_iff.1 hn).1
    have:=hk n (by omega) (by omega)
    unfold gr at this
    rwa [List.getD_eq_getElem?_getD,show ((n:Int)).toNat=n from rfl,hn] at this
   refine ol (fun s:Int=>(0≤s∧s≤ps.length)∧∀ k:Int,0≤k→k < s→AI c (gr ps k)) (fun s=>(ps.length - s).toNat) ⟨⟨by omega,by omega⟩,fun k k0 k1=>by omega⟩ ?_
   rintro t ⟨⟨t0,t1⟩,hp⟩
   unfold nD
   refine od (fun ht=>?_) fun ht=>os ⟨rfl,?_⟩
   ·have hw:=w1 t0 ht (by omega)
    have j9:=ic t0 ht
    have pq:=ni.1 (cq _ j9)
    have bad : ¬ AI c (gr ps t)→¬ Az c ps:=fun h P=>h (by
     obtain ⟨a,b,e,_,_,e1,e2⟩:=P _ j9
     exact ⟨a,b,e,e1,e2⟩)
    have PC:AI c (gr ps t)→∀ k:Int,0≤k→k < ak (t+1)→AI c (gr ps k):=fun h k k0 k1=>by
     rw [hw] at k1
     rcases (by omega:k < t∨k=t) with h1 | rfl
     ·exact hp k k0 h1
     ·exact h
    rw [jf t0 ht,aE]
    by_cases h2:(gr ps t).length=2
    ·have er:=V3 h2
     have h0:=pq (gi (gr ps t) 0) (ib (by omega) (by omega))
     have h1:=pq (gi (gr ps t) 1) (ib (by omega) (by omega))
     have acf:cE c (gi (gr ps t) 0) (gi (gr ps t) 1)=some (decide (gi c.aA (gi (gr ps t) 0)=gi c.aA (gi (gr ps t) 1)∧gi c.To (gi (gr ps t) 0)=gi c.To (gi (gr ps t) 1))):=by
      unfold cE
      rw [C.iH h0.1 h0.2,aE,C.iH h1.1 h1.2,aE,C.jd h0.1 h0.2,C.jd h1.1 h1.2]
      by_cases k1:gi c.aA (gi (gr ps t) 0)=gi c.aA (gi (gr ps t) 1)
      ·rw [rG k1,cond_true,aE,aE]
       by_cases k2:gi c.To (gi (gr ps t) 0)=gi c.To (gi (gr ps t) 1)
       ·rw [rG k2,decide_eq_true ⟨k1,k2⟩]; rfl
       ·rw [wA k2,decide_eq_false (fun h=>k2 h.2)]; rfl
      ·rw [wA k1,cond_false,decide_eq_false (fun h=>k1 h.1)]; rfl
     rw [show (((gr ps t).length:Int) != 2)=false by rw [h2]; rfl,cond_false,aE,aZ (by omega) (by omega),aE,aE,aZ (by omega) (by omega),aE,acf,aE,aE]
     by_cases e:gi c.aA (gi (gr ps t) 0)=gi c.aA (gi (gr ps t) 1)∧gi c.To (gi (gr ps t) 0)=gi c.To (gi (gr ps t) 1)
     ·rw [decide_eq_true e]
      exact os ⟨⟨⟨by rw [hw]; omega,by rw [hw]; omega⟩,PC ⟨_,_,er,e.1,e.2⟩⟩,by dsimp only; rw [hw]; omega⟩
     ·rw [decide_eq_false e]
      refine os (.inr (.inr (.inl ⟨hc,cq,bad ?_,rfl⟩)))
      rintro ⟨a,b,e',e1,e2⟩
      rw [e'] at e
      exact e ⟨e1,e2⟩
    ·rw [show (((gr ps t).length:Int) != 2)=true by simp; omega,cond_true,aE]
     refine os (.inr (.inr (.inl ⟨hc,cq,bad ?_,rfl⟩)))
     rintro ⟨a,b,e',e1,e2⟩
     rw [e'] at h2
     exact h2 rfl
   ·have P:Az c ps:=fun r fw=>by
     obtain ⟨n,hn⟩:=List.getElem?_of_mem fw
     have av:=(List.getElem?_eq_some_iff.1 hn).1
     obtain ⟨a,b,e,e1,e2⟩:=hp n (by omega) (by omega)
     unfold gr at e
     rw [List.getD_eq_getElem?_getD,show ((n:Int)).toNat=n from rfl,hn] at e
     have e:r=[a,b]:=e
     have pq:=ni.1 (cq r fw)
     rw [e] at pq
     exact ⟨a,b,e,pq a (by simp),pq b (by simp),e1,e2⟩
    exact ob (Di C P (by omega)) fun y hy=>os (.inr (.inr (.inr ⟨hc,P,rfl,hy⟩)))
end
theorem V4 (n:Nat) (hn:n≤1048576):iR (n:Int)=some (ns n):=by
 obtain ⟨y,e,hy⟩ : Ok (iR (n:Int)) fun y=>y=ns n:=by
  unfold iR
  refine ew (ol (fun z:List Int×Int=>(0≤z.2∧z.2≤n)∧(z.1.length:Int)=z.2∧∀ j:Int,0≤j→j < z.2→gi z.1 j=j) (fun z=>((n:Int) - z.2).toNat) ⟨⟨by show (0:Int)≤0; omega,by show (0:Int)≤_; omega⟩,rfl,fun j j0 j1=>by have:j < 0:=j1; omega⟩ ?_)
  rintro ⟨l,s⟩ ⟨⟨s0,s1⟩,hl,hj⟩
  dsimp only at s0 s1 hl hj
  show Ok (nL (n:Int) l s) _
  unfold nL
  refine od (fun hs=>?_) fun hs=>os ⟨rfl,os (sc (by rw [bR]; omega) fun j j0 j1=>by
   rw [bR] at j1
   rw [hj j j0 (by omega),qf j0 j1])⟩
  have hw:=w1 s0 hs (by omega)
  refine de (by omega) (by omega) (os ⟨⟨⟨by dsimp only; rw [hw]; omega,by dsimp only; rw [hw]; omega⟩,by dsimp only; rw [hw,List.length_append,List.length_singleton]; omega,fun j j0 j1=>?_⟩,by dsimp only; rw [hw]; omega⟩)
  dsimp only at j1 ⊢
  rw [hw] at j1
  rcases (by omega:j < s∨j=s) with h | rfl
  ·rw [sR j0 (by omega)]; exact hj j j0 h
  ·rw [sS (by omega)]
 rw [e,hy]
theorem Xv (n:Nat):Nz (fun i j=>i=j) n (ns n):=by
 refine ⟨bR n,fun i j i0 i1 j0 j1=>by rw [qf i0 i1,qf j0 j1],fun i i0 i1=>by rw [qf i0 i1]; exact i0,fun i i0 i1=>.inr ⟨fun j j0 j1=>by rw [qf i0 i1,qf j0 (by omega)]; exact j1,fun v v0 v1=>?_⟩⟩
 rw [qf i0 i1] at v1
 exact ⟨v,v0,v1,qf v0 (by omega)⟩
theorem V5 {f:aO} {q:List Int} (h:Nz (KR f) f.aH.aA.length q):(!(wF f))=(q == ns f.aH.aA.length):=by
 cases hn:wF f with
 | false=>
  have e:q=ns f.aH.aA.length:=by
   refine h.uniq ((Xv _).mono fun i j i0 i1 j0 j1=>⟨fun e=>by rw [e]; exact ⟨⟨rfl,rfl⟩,rfl⟩,fun hk=>?_⟩)
   unfold wF at hn
   rw [gu] at hn
   have no:∀ a b:Int,0≤b→b < a→a < f.aH.aA.length→KR f a b→False:=fun a b b0 b1 a1 hk=>by
    have h1:=hn a (by omega) a1
    rw [gu] at h1
    have h2:=h1 b b0 (by omega)
    rw [hk.2,hk.1.1,hk.1.2] at h2
    simp at h2
   rcases Int.lt_trichotomy i j with qJ | qJ | qJ
   ·exact (no j i i0 qJ j1 ⟨⟨hk.1.1.symm,hk.1.2.symm⟩,hk.2.symm⟩).elim
   ·exact qJ
   ·exact (no i j j0 qJ i1 hk).elim
  rw [e,beq_self_eq_true]; rfl
 | true=>
  have e:q≠ns f.aH.aA.length:=by
   intro e
   unfold wF at hn
   rw [List.any_eq_true] at hn
   obtain ⟨a,ha,hn⟩:=hn
   rw [List.any_eq_true] at hn
   obtain ⟨b,hb,hn⟩:=hn
   obtain ⟨a0,a1⟩:=dy.1 ha
   obtain ⟨b0,b1⟩:=dy.1 hb
   simp only [Bool.and_eq_true,beq_iff_eq] at hn
   have h1:=(h.k a b a0 a1 b0 (by omega)).2 ⟨hn.2,hn.1⟩
   rw [e,qf a0 a1,qf b0 (by omega)] at h1
   omega
  rw [show (q == ns f.aH.aA.length)=false by simpa using e]; rfl
theorem I3 {f:aO} (fs:pW f):eW f=some (ox f):=by
 unfold eW
 rw [uX fs,aE]; rfl
theorem Hk {c:aC} (C:l3 c) {q:List Int} (hq:ED c q):dB c q=some (true,0):=by
 unfold dB
 rw [Ax (n5 C),aE,AF C,Bool.not_true,cond_false,Dp C hq,aE]; rfl
section
variable {x:List Int} (B:tO x)
include B
theorem Bi {S:Type} {Q:Out S Bool→Prop} (hQ:Q (.ret true)):Ok (((cM x)>>=fun wy=>((cB wy)>>=fun yV=>((cI wy)>>=fun tB=>(((bif (yV.2) != (tB.2) then (some (true)) else ((bY yV.1 tB.1)>>=fun yN=>(some (!(yN))))))>>=fun Kf=>(bif Kf then (some (Out.ret (false))) else (bif (yV.2) != ((0:Int)) then ((eW wy)>>=fun Kg=>(some (Out.ret ((!(Kg)))))) else ((dB wy.aH tB.1)>>=fun Db=>((fR wy)>>=fun Dc=>(bif (Db.2) == ((0:Int)) then (bif Db.1 then (bif (Dc.2) == ((0:Int)) then ((iR ((tB.1.length:Int)))>>=fun Kh=>((bY tB.1 Kh)>>=fun Ki=>(some (Out.ret (((Dc.1) == (Ki))))))) else (some (Out.ret (false)))) else (some (Out.ret (false)))) else (some (Out.ret (false))))))))))))) Q:=by
 obtain ⟨f,e,fs⟩:=V2 B
 refine oe e ?_
 cases hf:ox f with
 | false=>
  have h1:cB f=some ([],1):=by
   unfold cB
   rw [uX fs,aE,hf]; rfl
  have h2:cI f=some ([],1):=by
   unfold cI
   rw [EE fs,aE,hf]; rfl
  rw [h1,aE,h2,aE]
  dsimp only
  rw [qR rfl,cond_false,rb _ _ (by simp),aE,beq_self_eq_true,Bool.not_true,aE,cond_false,show ((1:Int) != 0)=true from rfl,cond_true,I3 fs,aE,hf]
  exact os hQ
 | true=>
  have U:=uV hf
  have C:=U.c
  have hm:=C.m
  obtain ⟨y,ey,xE,hy⟩:=I0 hf fs
  obtain ⟨z,ez,CK,hz⟩:=RZ hf fs
  obtain rfl:y=z:=Prod.ext (hy.uniq hz) (by rw [xE,CK])
  have hq:=VY hf hy
  have hl:=hy.len
  have hF:fR f=some (!(wF f),0):=by
   unfold fR lF
   rw [uX fs,aE,hf]
   simp only [Bool.not_true,cond_false]
   rw [MK hf]; rfl
  rw [ey,aE,ez,aE,xE]
  rw [qR rfl,cond_false,rb _ _ (by omega),aE,beq_self_eq_true,Bool.not_true,aE,cond_false,cond_false,Hk C hq,aE,hF,aE]
  dsimp only
  rw [beq_self_eq_true,cond_true,cond_true,cond_true,hl,V4 _ (by omega),aE,rb _ _ (by omega),aE,V5 hy,beq_self_eq_true]
  exact os hQ
end
theorem Kv {x0:List Int} (hl:x0.length≤maxLen∧∀ y∈x0,0≤y∧y < 256):dL x0=some true:=by
 obtain ⟨y,e,hy⟩ : Ok (dL x0) fun y=>y=true:=by
  unfold dL
  have DL:pC x0=some (decide ((x0.length:Int) > 4096)):=rfl
  refine ew (oe DL (od (fun _=>os rfl) fun hb=>?_))
  have BY:tO x0:=⟨by omega,hl.2⟩
  obtain ⟨⟨c,ps⟩,e,cs,pl,pr⟩:=VZ BY
  dsimp only at cs pl pr
  refine oe e ?_
  dsimp only
  obtain ⟨y,ey,hy⟩:=M4 cs pl pr
  obtain ⟨z,ez,hz⟩:=M5 cs pl pr
  obtain rfl:=hy.uniq hz
  refine oe ey (oe ez ?_)
  rcases hy with ⟨h1,h2⟩ | ⟨h1,h2,h3⟩ | ⟨h1,h2,h3,h4⟩ | ⟨h1,P,h0,hN⟩
  ·subst h2
   refine oe (x:=false) (by rw [qR rfl,cond_false,rb _ _ (by simp),aE,beq_self_eq_true]; rfl) ?_
   rw [cond_false,show ((1:Int) == 0)=false from rfl,cond_false]
   exact Bi BY rfl
  ·subst h3
   refine oe (x:=false) (by rw [qR rfl,cond_false,rb _ _ (by simp),aE,beq_self_eq_true]; rfl) ?_
   rw [cond_false,show ((2:Int) == 0)=false from rfl,cond_false]
   exact Bi BY rfl
  ·subst h4
   refine oe (x:=false) (by rw [qR rfl,cond_false,rb _ _ (by simp),aE,beq_self_eq_true]; rfl) ?_
   rw [cond_false,show ((5:Int) == 0)=false from rfl,cond_false]
   exact Bi BY rfl
  ·obtain ⟨q,r⟩:=y
   dsimp only at h0 hN
   subst h0
   have C:=rK h1
   have hm:=C.m
   have hq:=Xs C P hN
   have hql:=hN.len
   obtain ⟨F,hF,e1,e2⟩:=VX C hq
   have df:=RY C hq hF
   have ds:=MZ C hq hF
   obtain ⟨k,ek,FY,hk⟩:=I0 df ds
   have hkq:k.1=q:=hk.uniq (hq.nz.mono fun i j i0 i1 j0 j1=>⟨fun e=>⟨hq.en i j i0 i1 j0 j1 e,e⟩,fun h=>h.2⟩)
   have Xw:nS (wH c q F)=some (true,0):=by
    unfold nS lF
    rw [uX ds,aE,df]
    simp only [Bool.not_true,cond_false]
    rw [Pq df,Pz C hq hF]; rfl
   refine oe (x:=false) (by rw [qR rfl,cond_false,rb _ _ (by dsimp only; omega),aE,beq_self_eq_true]; rfl) ?_
   rw [cond_false]
   dsimp only
   rw [beq_self_eq_true,cond_true]
   refine oe (Hk C hq) (oe e1 (oe e2 (oe (x:=false) ?_ ?_)))
   ·dsimp only
    rw [qR rfl,cond_false,Bool.not_true,cond_false,cond_false,VS ds,aE,Bool.not_true,cond_false,I3 ds,aE,df]; rfl
   ·rw [cond_false]
    refine oe ek (oe Xw (oe (x:=false) ?_ ?_))
    ·dsimp only
     rw [FY,hkq,qR rfl,cond_false,rb _ _ (by omega),aE,beq_self_eq_true,Bool.not_true,cond_false,cond_false]
    ·rw [cond_false]
     refine ol (fun s:Int=>0≤s∧s≤ps.length) (fun s=>(ps.length - s).toNat) ⟨Int.le_refl _,by omega⟩ ?_
     rintro s ⟨s0,s1⟩
     show Ok (gD (c,ps) (q,0) s) _
     unfold gD
     refine od (fun hs=>?_) fun hs=>os ⟨rfl,Bi BY rfl⟩
     replace hs:s < (ps.length:Int):=hs
     have hw:=w1 s0 hs (by omega)
     obtain ⟨a,b,er,ha,hb,ef,et⟩:=P _ (ic s0 hs)
     have j9:[a,b]∈ps:=by rw [← er]; exact ic s0 hs
     have eq9:gi q a=gi q b:=(hN.k a b ha.1 ha.2 hb.1 hb.2).2 (x6 C P j9)
     refine oe (jf s0 hs) ?_
     rw [show gr (c,ps).2 s=[a,b] from er]
     refine oe (x:=a) rfl (oe (aZ ha.1 (by show a < (q.length:Int); omega)) (oe (jf s0 hs) ?_))
     rw [show gr (c,ps).2 s=[a,b] from er]
     refine oe (x:=b) rfl (oe (aZ hb.1 (by show b < (q.length:Int); omega)) ?_)
     rw [show gi (q,(0:Int)).1 a=gi (q,(0:Int)).1 b from eq9,qR rfl,cond_false]
     exact os ⟨⟨by rw [hw]; omega,by rw [hw]; omega⟩,by dsimp only; rw [hw]; omega⟩
 rw [e,hy]
end Go.Proofs.YtbhhmalgcnhniaaGreat
