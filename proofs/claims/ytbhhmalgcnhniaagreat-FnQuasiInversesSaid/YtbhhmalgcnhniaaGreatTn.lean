/- Adjunctions: units and counits as natural transformations, the laws of triangles; transposing there and back; composites. No condition beside those that each theorem names. -/
import Derived.Test.YtbhhmalgcnhniaaGreatYk
import Derived.Test.YtbhhmalgcnhniaaGreatUr
import Derived.Test.YtbhhmalgcnhniaaGreatYn
import Derived.Test.YtbhhmalgcnhniaaGreatVw
namespace Go.Proofs.YtbhhmalgcnhniaaGreat
open Go Go.Li
set_option linter.unusedVariables false
set_option linter.unusedSectionVars false
def xz (c:aG):aJ:=aJ.mk c c (ns c.aA.toNat) (ns c.aF.length)
theorem Er {c:aG} (C:lr c):dw (xz c)=true:=by
 have o0:=C.o0
 have hO:∀ y:Int,0≤y→y < c.aA→gi (ns c.aA.toNat) y=y:=fun y y0 y1=>vA y0 (by omega)
 have hA:∀ a:Int,0≤a→a < c.aF.length→gi (ns c.aF.length) a=a:=fun a a0 a1=>vA a0 a1
 refine DU (f:=xz c) (xC C) (xC C) (by show ((ns c.aA.toNat).length:Int)=c.aA; rw [cN]; omega) (cN _) (fun y hy=>?_) (fun y hy=>dh.1 hy) (fun a a0 a1=>?_) (fun a a0 a1=>?_) (fun y y0 y1=>?_) fun a b a0 a1 b0 b1 e=>?_
 ·have:=dh.1 hy
  show 0≤y∧y < c.aA
  omega
 ·have k:=C.fr a0 a1
  show gi c.aF (gi (ns c.aF.length) a)=gi (ns c.aA.toNat) (gi c.aF a)
  rw [hA a a0 a1,hO _ k.1 k.2]
 ·have k:=C.to a0 a1
  show gi c.To (gi (ns c.aF.length) a)=gi (ns c.aA.toNat) (gi c.To a)
  rw [hA a a0 a1,hO _ k.1 k.2]
 ·have k:=C.id (x:=y) y0 y1
  show gi (ns c.aF.length) (gi c.aH y)=gi c.aH (gi (ns c.aA.toNat) y)
  rw [hA _ k.1 k.2,hO y y0 y1]
 ·have k:=C.cell a b a0 a1 b0 b1 e
  show gi (ns c.aF.length) (gk c.aC a b)=gk c.aC (gi (ns c.aF.length) a) (gi (ns c.aF.length) b)
  rw [hA _ k.1 k.2.1,hA a a0 a1,hA b b0 b1]
theorem Bf {c:aG} (C:lr c):gq (xz c):=by
 have o0:=C.o0
 have o8:=C.o8
 have m:=C.m
 exact ⟨Bi C,Bi C,by show (ns _).length≤_; rw [cN]; omega,by show (ns _).length≤_; rw [cN]; omega⟩
def HQ (a:bX):bE:=bE.mk (xz a.Left.aD) (qg a.Left a.au) a.Unit
def HR (a:bX):bE:=bE.mk (qg a.au a.Left) (xz a.Left.aB) a.jm
def tr (a:bX) (x g:Int):Int:=gk a.Left.aD.aC (gi a.Unit x) (gi a.au.ab g)
def bk (a:bX) (y f:Int):Int:=gk a.Left.aB.aC (gi a.Left.ab f) (gi a.jm y)
def KL (a:bX) (x:Int):Bool:=bk a (gi a.Left.aA x) (gi a.Unit x) != gi a.Left.aB.aH (gi a.Left.aA x)
def KM (a:bX) (y:Int):Bool:=tr a (gi a.au.aA y) (gi a.jm y) != gi a.Left.aD.aH (gi a.au.aA y)
def KN (a:bX):Bool:=!((ns a.Left.aD.aA.toNat).any (KL a))
def KO (a:bX):Bool:=!((ns a.Left.aB.aA.toNat).any (KM a))
def zX (f g:aJ):Bool:=sn f.aD g.aB && sn f.aB g.aD
def KP (a:bX):Bool:=(dw a.Left && dw a.au) && (zX a.Left a.au && ((je (HQ a) && je (HR a)) && (KN a && KO a)))
structure Adj (a:bX):Prop where
 fb:dw a.Left=true
 gb:dw a.au=true
 e1:a.Left.aD=a.au.aB
 e2:a.Left.aB=a.au.aD
 ub:je (HQ a)=true
 kb:je (HR a)=true
 t1:∀ x:Int,0≤x→x < a.Left.aD.aA→bk a (gi a.Left.aA x) (gi a.Unit x)=gi a.Left.aB.aH (gi a.Left.aA x)
 t2:∀ y:Int,0≤y→y < a.Left.aB.aA→tr a (gi a.au.aA y) (gi a.jm y)=gi a.Left.aD.aH (gi a.au.aA y)
theorem VC {a:bX} (A:Adj a):KP a=true:=by
 have o1:=(cn A.fb).c.o0
 have o2:=(cn A.fb).d.o0
 unfold KP zX KN KO
 simp only [Bool.and_eq_true,tO,Bool.not_eq_true',br]
 refine ⟨⟨A.fb,A.gb⟩,⟨A.e1,A.e2⟩,⟨A.ub,A.kb⟩,fun x x0 x1=>?_,fun y y0 y1=>?_⟩
 ·unfold KL
  rw [A.t1 x x0 (by omega)]; simp
 ·unfold KM
  rw [A.t2 y y0 (by omega)]; simp
namespace Adj
variable {a:bX} (A:Adj a)
include A
theorem Qn {f g:Int} (f0:0≤f) (f1:f < a.Left.aD.aF.length) (g0:0≤g) (g1:g < a.Left.aD.aF.length) (e:gi a.Left.aD.To f=gi a.Left.aD.aF g):gi a.Left.ab (gk a.Left.aD.aC f g)=gk a.Left.aB.aC (gi a.Left.ab f) (gi a.Left.ab g):=(cn A.fb).co f g f0 f1 g0 g1 e
end Adj
section
variable {a b:bX} (A:Adj a) (B:Adj b) (e:a.Left.aB=b.Left.aD)
include A B e
end
end Go.Proofs.YtbhhmalgcnhniaaGreat
namespace Go.Proofs.YtbhhmalgcnhniaaGreat
open Go Go.Li
set_option linter.unusedVariables false
set_option linter.unusedSectionVars false
def dn (c:aG) (z x u:Int):Prop:=(0≤u∧u < c.aF.length)∧gi c.aF u=z∧gi c.To u=x
structure Bb (f:aJ) (y x e:Int):Prop where
 x0:0≤x
 x1:x < f.aD.aA
 l:dn f.aB (gi f.aA x) y e
 ex:∀ z h:Int,0≤z→z < f.aD.aA→dn f.aB (gi f.aA z) y h→∃ u,dn f.aD z x u∧gk f.aB.aC (gi f.ab u) e=h
 un:∀ z u v:Int,dn f.aD z x u→dn f.aD z x v→gk f.aB.aC (gi f.ab u) e=gk f.aB.aC (gi f.ab v) e→u=v
theorem fh {c:aG} (C:lr c) {x y z u v:Int} (h:dn c x y u) (h':dn c y z v):dn c x z (gk c.aC u v):=by
 have:=C.cell u v h.1.1 h.1.2 h'.1.1 h'.1.2 (by rw [h.2.2,h'.2.1])
 exact ⟨⟨this.1,this.2.1⟩,this.2.2.1.trans h.2.1,this.2.2.2.trans h'.2.2⟩
theorem vV {c:aG} (C:lr c) {x:Int} (x0:0≤x) (x1:x < c.aA):dn c x x (gi c.aH x):=⟨C.id x0 x1,C.u4 x x0 x1,C.wu x x0 x1⟩
theorem j8 {f:aJ} (F:Cm f) {x y u:Int} (h:dn f.aD x y u):dn f.aB (gi f.aA x) (gi f.aA y) (gi f.ab u):=⟨F.ar h.1.1 h.1.2,by rw [F.fr u h.1.1 h.1.2,h.2.1],by rw [F.to u h.1.1 h.1.2,h.2.2]⟩
theorem du {c:aG} (C:lr c) {x y z w u v t:Int} (h:dn c x y u) (h':dn c y z v) (h2:dn c z w t):gk c.aC (gk c.aC u v) t=gk c.aC u (gk c.aC v t):=
 C.assoc u v t h.1.1 h.1.2 h'.1.1 h'.1.2 h2.1.1 h2.1.2 (by rw [h.2.2,h'.2.1]) (by rw [h'.2.2,h2.2.1])
theorem xD {f:aJ} (F:Cm f) {x y z u v:Int} (h:dn f.aD x y u) (h':dn f.aD y z v):gi f.ab (gk f.aD.aC u v)=gk f.aB.aC (gi f.ab u) (gi f.ab v):=F.co u v h.1.1 h.1.2 h'.1.1 h'.1.2 (by rw [h.2.2,h'.2.1])
theorem yT {c:aG} (C:lr c) {x y u:Int} (h:dn c x y u):0≤x∧x < c.aA:=by have:=C.fr h.1.1 h.1.2; rwa [h.2.1] at this
theorem xE {c:aG} (C:lr c) {x y u:Int} (h:dn c x y u):0≤y∧y < c.aA:=by have:=C.to h.1.1 h.1.2; rwa [h.2.2] at this
theorem yW {c:aG} (C:lr c) {x y u:Int} (h:dn c x y u):gk c.aC (gi c.aH x) u=u:=by have:=C.FD u h.1.1 h.1.2; rwa [h.2.1] at this
theorem tE {c:aG} (C:lr c) {x y u:Int} (h:dn c x y u):gk c.aC u (gi c.aH y)=u:=by have:=C.FG u h.1.1 h.1.2; rwa [h.2.2] at this
section
variable {f:aJ} {xs es nj us:List Int} (hf:dw f=true) (td:(xs.length:Int)=f.aB.aA) (CX:(es.length:Int)=f.aB.aA) (sf:nj.length=f.aB.aF.length) (VS:(us.length:Int)=f.aD.aA)
 (hU:∀ y:Int,0≤y→y < f.aB.aA→Bb f y (gi xs y) (gi es y))
 (hA:∀ g:Int,0≤g→g < f.aB.aF.length→dn f.aD (gi xs (gi f.aB.aF g)) (gi xs (gi f.aB.To g)) (gi nj g)∧gk f.aB.aC (gi f.ab (gi nj g)) (gi es (gi f.aB.To g))=gk f.aB.aC (gi es (gi f.aB.aF g)) g)
 (hS:∀ x:Int,0≤x→x < f.aD.aA→dn f.aD x (gi xs (gi f.aA x)) (gi us x)∧gk f.aB.aC (gi f.ab (gi us x)) (gi es (gi f.aA x))=gi f.aB.aH (gi f.aA x))
include hf td CX sf VS hU hA hS
theorem Sj:dw (aJ.mk f.aB f.aD xs nj)=true:=by
 have F:=cn hf
 have C:=F.c
 have D:=F.d
 have hg:∀ g:Int,0≤g→g < f.aB.aF.length→dn f.aB (gi f.aB.aF g) (gi f.aB.To g) g:=fun g g0 g1=>⟨⟨g0,g1⟩,rfl,rfl⟩
 refine DU (f:=aJ.mk f.aB f.aD xs nj) (xC D) (xC C) td sf (fun y hy=>?_) (fun y hy=>?_) (fun g g0 g1=>(hA g g0 g1).1.2.1) (fun g g0 g1=>(hA g g0 g1).1.2.2) (fun y y0 y1=>?_) fun g h g0 g1 h0 h1 e=>?_
 ·obtain ⟨i,i0,i1,rfl⟩:=j7 hy
  dsimp only at i1
  have:=hU i i0 (by omega)
  exact ⟨this.x0,this.x1⟩
 ·obtain ⟨i,i0,i1,rfl⟩:=j7 hy
  dsimp only at i1
  exact (hA i i0 (by omega)).1.1
 ·have ki:=vV D y0 y1
  have a:=hA _ ki.1.1 ki.1.2
  rw [ki.2.1,ki.2.2] at a
  have U:=hU y y0 y1
  have kj:=vV C U.x0 U.x1
  refine U.un _ _ _ a.1 kj ?_
  rw [a.2,tE D U.l,F.un _ U.x0 U.x1,yW D U.l]
 ·replace e:gi f.aB.To g=gi f.aB.aF h:=e
  have a:=hA g g0 g1
  have b:=hA h h0 h1
  have lg:=hg g g0 g1
  have lh:=hg h h0 h1
  rw [← e] at b lh
  have lc:=fh D lg lh
  have k:=hA _ lc.1.1 lc.1.2
  rw [lc.2.1,lc.2.2] at k
  have fy:=yT D lg
  have ty:=xE D lg
  have tw:=xE D lh
  have U:=hU _ tw.1 tw.2
  have V:=hU _ fy.1 fy.2
  have W:=hU _ ty.1 ty.2
  refine U.un _ _ _ k.1 (fh C a.1 b.1) ?_
  show _=gk f.aB.aC (gi f.ab (gk f.aD.aC (gi nj g) (gi nj h))) (gi es (gi f.aB.To h))
  rw [k.2,xD F a.1 b.1,du D (j8 F a.1) (j8 F b.1) U.l,b.2,← du D (j8 F a.1) W.l lh,a.2,du D V.l lg lh]
theorem Se:Adj (bX.mk f (aJ.mk f.aB f.aD xs nj) us es):=by
 have F:=cn hf
 have C:=F.c
 have D:=F.d
 have hR:=Sj hf td CX sf VS hU hA hS
 have R:=cn hR
 have c0:=C.o0
 have d0:=D.o0
 have hg:∀ g:Int,0≤g→g < f.aB.aF.length→dn f.aB (gi f.aB.aF g) (gi f.aB.To g) g:=fun g g0 g1=>⟨⟨g0,g1⟩,rfl,rfl⟩
 have hca:∀ g:Int,0≤g→g < f.aD.aF.length→dn f.aD (gi f.aD.aF g) (gi f.aD.To g) g:=fun g g0 g1=>⟨⟨g0,g1⟩,rfl,rfl⟩
 have hOs:∀ x:Int,0≤x→x < f.aD.aA→gi (ns f.aD.aA.toNat) x=x:=fun x x0 x1=>vA x0 (by omega)
 have hOt:∀ x:Int,0≤x→x < f.aB.aA→gi (ns f.aB.aA.toNat) x=x:=fun x x0 x1=>vA x0 (by omega)
 have h1:∀ x:Int,0≤x→x < f.aD.aA→gi (thenS f.aA xs) x=gi xs (gi f.aA x):=fun x x0 x1=>my x0 (by rw [F.ol]; exact x1)
 have h2:∀ a:Int,0≤a→a < f.aD.aF.length→gi (thenS f.ab nj) a=gi nj (gi f.ab a):=fun a a0 a1=>my a0 (by rw [F.al]; exact a1)
 have h3:∀ y:Int,0≤y→y < f.aB.aA→gi (thenS xs f.aA) y=gi f.aA (gi xs y):=fun y y0 y1=>my y0 (by rw [td]; exact y1)
 have h4:∀ g:Int,0≤g→g < f.aB.aF.length→gi (thenS nj f.ab) g=gi f.ab (gi nj g):=fun g g0 g1=>my g0 (by rw [sf]; exact g1)
 have fo:∀ x:Int,0≤x→x < f.aD.aA→0≤gi f.aA x∧gi f.aA x < f.aB.aA:=fun x x0 x1=>F.ob x0 x1
 refine ⟨hf,hR,rfl,rfl,?_,?_,fun x x0 x1=>(hS x x0 x1).2,fun y y0 y1=>?_⟩
 ·refine HU (t:=bE.mk (xz f.aD) (qg f (aJ.mk f.aB f.aD xs nj)) us) (Er C) (CK hf hR rfl) rfl rfl VS (fun y hy=>?_) (fun x x0 x1=>?_) (fun x x0 x1=>?_) fun a a0 a1=>?_
  ·obtain ⟨i,i0,i1,rfl⟩:=j7 hy
   dsimp only at i1
   exact (hS i i0 (by omega)).1.1
  ·show gi f.aD.aF (gi us x)=gi (ns f.aD.aA.toNat) x
   rw [hOs x x0 x1]
   exact (hS x x0 x1).1.2.1
  ·show gi f.aD.To (gi us x)=gi (thenS f.aA xs) x
   rw [h1 x x0 x1]
   exact (hS x x0 x1).1.2.2
  ·replace a1:a < f.aD.aF.length:=a1
   show gk f.aD.aC (gi (ns f.aD.aF.length) a) (gi us (gi f.aD.To a))=gk f.aD.aC (gi us (gi f.aD.aF a)) (gi (thenS f.ab nj) a)
   rw [vA a0 a1,h2 a a0 a1]
   have la:=hca a a0 a1
   have fx:=yT C la
   have tx:=xE C la
   have s1:=hS _ fx.1 fx.2
   have s2:=hS _ tx.1 tx.2
   have li:=j8 F la
   have k:=hA _ li.1.1 li.1.2
   rw [li.2.1,li.2.2] at k
   have o1:=fo _ fx.1 fx.2
   have o2:=fo _ tx.1 tx.2
   have U:=hU _ o2.1 o2.2
   have V:=hU _ o1.1 o1.2
   refine U.un _ _ _ (fh C la s2.1) (fh C s1.1 k.1) ?_
   rw [xD F la s2.1,xD F s1.1 k.1,du D li (j8 F s2.1) U.l,s2.2,tE D li,du D (j8 F s1.1) (j8 F k.1) U.l,k.2,← du D (j8 F s1.1) V.l li,s1.2,yW D li]
 ·refine HU (t:=bE.mk (qg (aJ.mk f.aB f.aD xs nj) f) (xz f.aB) es) (CK hR hf rfl) (Er D) rfl rfl CX (fun y hy=>?_) (fun y y0 y1=>?_) (fun y y0 y1=>?_) fun g g0 g1=>?_
  ·obtain ⟨i,i0,i1,rfl⟩:=j7 hy
   dsimp only at i1
   exact (hU i i0 (by omega)).l.1
  ·show gi f.aB.aF (gi es y)=gi (thenS xs f.aA) y
   rw [h3 y y0 y1]
   exact (hU y y0 y1).l.2.1
  ·show gi f.aB.To (gi es y)=gi (ns f.aB.aA.toNat) y
   rw [hOt y y0 y1]
   exact (hU y y0 y1).l.2.2
  ·replace g1:g < f.aB.aF.length:=g1
   show gk f.aB.aC (gi (thenS nj f.ab) g) (gi es (gi f.aB.To g))=gk f.aB.aC (gi es (gi f.aB.aF g)) (gi (ns f.aB.aF.length) g)
   rw [vA g0 g1,h4 g g0 g1]
   exact (hA g g0 g1).2
 ·show gk f.aD.aC (gi us (gi xs y)) (gi nj (gi es y))=gi f.aD.aH (gi xs y)
  have U:=hU y y0 y1
  have o:=fo _ U.x0 U.x1
  have V:=hU _ o.1 o.2
  have s:=hS _ U.x0 U.x1
  have k:=hA _ U.l.1.1 U.l.1.2
  rw [U.l.2.1,U.l.2.2] at k
  refine U.un _ _ _ (fh C s.1 k.1) (vV C U.x0 U.x1) ?_
  rw [xD F s.1 k.1,du D (j8 F s.1) (j8 F k.1) U.l,k.2,← du D (j8 F s.1) V.l U.l,s.2,F.un _ U.x0 U.x1]
end
structure Fb (f:aJ):Prop where
 fb:dw f=true
 full:∀ x y b:Int,0≤x→x < f.aD.aA→0≤y→y < f.aD.aA→dn f.aB (gi f.aA x) (gi f.aA y) b→∃ a,dn f.aD x y a∧gi f.ab a=b
 zW:∀ x y a b:Int,dn f.aD x y a→dn f.aD x y b→gi f.ab a=gi f.ab b→a=b
 Vs:∀ y:Int,0≤y→y < f.aB.aA→∃ x i j,(0≤x∧x < f.aD.aA)∧dn f.aB (gi f.aA x) y i∧dn f.aB y (gi f.aA x) j∧gk f.aB.aC i j=gi f.aB.aH (gi f.aA x)∧gk f.aB.aC j i=gi f.aB.aH y
theorem Sb {f:aJ} (E:Fb f) {y x i j:Int} (x0:0≤x) (x1:x < f.aD.aA) (hi:dn f.aB (gi f.aA x) y i) (hj:dn f.aB y (gi f.aA x) j) (h1:gk f.aB.aC i j=gi f.aB.aH (gi f.aA x)) (h2:gk f.aB.aC j i=gi f.aB.aH y):Bb f y x i:=by
 have F:=cn E.fb
 have D:=F.d
 refine ⟨x0,x1,hi,fun z h z0 z1 hh=>?_,fun z u v hu hv e=>?_⟩
 ·obtain ⟨u,lu,eu⟩:=E.full z x _ z0 z1 x0 x1 (fh D hh hj)
  refine ⟨u,lu,?_⟩
  rw [eu,du D hh hj hi,h2,tE D hh]
 ·refine E.zW z x u v hu hv ?_
  have lu:=j8 F hu
  have lv:=j8 F hv
  rw [← tE D lu,← tE D lv,← h1,← du D lu hi hj,← du D lv hi hj,e]
end Go.Proofs.YtbhhmalgcnhniaaGreat
namespace Go.Proofs.YtbhhmalgcnhniaaGreat
open Go Go.Li
set_option linter.unusedVariables false
set_option linter.unusedSectionVars false
structure xA (a:bX):Prop where
 l:gq a.Left
 r:gq a.au
 u:a.Unit.length≤1048576
 k:a.jm.length≤1048576
theorem Ep {c:aG} (C:lr c):kK c=some (xz c):=by
 have o0:=C.o0
 have o8:=C.o8
 have m:=C.m
 have hs:=Bi C
 unfold kK
 rw [Ck o0 (by omega),aE,show cX c=some (c.aF.length:Int) from rfl,aE,Ck (by omega) (by omega),aE,Int.toNat_natCast,r8 hs hs (by rw [cN]; omega) (by rw [cN]; omega),aE]; rfl
theorem Pp (n:Nat):ns (n+1)=ns n++[(n:Int)]:=by simp [ns,List.range_succ]
section
variable {a:bX} (hs:xA a)
include hs
theorem M8 (F:Cm a.Left):vW (HQ a):=⟨Bf F.c,yx hs.l hs.r,hs.u⟩
theorem M9 (F:Cm a.Left):vW (HR a):=⟨yx hs.r hs.l,Bf F.d,hs.k⟩
omit hs in
theorem half {a:bX} (fb:dw a.Left=true) (gb:dw a.au=true) (e1:a.Left.aD=a.au.aB) (e2:a.Left.aB=a.au.aD) (ub:je (HQ a)=true) (kb:je (HR a)=true) :
  (∀ x:Int,0≤x→x < a.Left.aD.aA→(0≤gi a.Left.aA x∧gi a.Left.aA x < a.Left.aB.aA)∧dn a.Left.aD x (gi a.au.aA (gi a.Left.aA x)) (gi a.Unit x))∧
  (∀ y:Int,0≤y→y < a.Left.aB.aA→(0≤gi a.au.aA y∧gi a.au.aA y < a.Left.aD.aA)∧dn a.Left.aB (gi a.Left.aA (gi a.au.aA y)) y (gi a.jm y)):=by
 have F:=cn fb
 have G:=cn gb
 have N:=yV ub
 have M:=yV kb
 have o1:=F.c.o0
 have o2:=F.d.o0
 refine ⟨fun x x0 x1=>⟨F.ob x0 x1,N.cp x0 x1,(N.pf x x0 x1).trans ?_,(N.pt x x0 x1).trans ?_⟩,fun y y0 y1=>?_⟩
 ·exact vA x0 (by show x < ((a.Left.aD.aA.toNat:Nat):Int); omega)
 ·exact my x0 (by rw [F.ol]; exact x1)
 ·have y2:y < a.au.aD.aA:=by rw [← e2]; exact y1
  have k:=G.ob y0 y2
  rw [← e1] at k
  refine ⟨k,M.cp (x:=y) y0 y2,(M.pf y y0 y2).trans ?_,(M.pt y y0 y2).trans ?_⟩
  ·exact my y0 (by rw [G.ol]; exact y2)
  ·exact vA y0 (by show y < ((a.Left.aB.aA.toNat:Nat):Int); omega)
end
theorem Px {f g:aJ} (hf:gq f):oJ f g=some (zX f g):=by
 unfold oJ zX
 rw [tD hf.s,aE]
 cases h:sn f.aD g.aB with
 | false=>rfl
 | true=>rw [cond_true,tD hf.t,aE,aE,Bool.true_and]; rfl
section
variable {a:bX} (hs:xA a)
include hs
theorem Py {h1:dw a.Left=true} {h2:dw a.au=true} (h3:zX a.Left a.au=true):jJ a=some ((je (HQ a) && je (HR a)) && (KN a && KO a)):=by
 have F:=cn h1
 have G:=cn h2
 have hb:=h3
 unfold zX at hb
 rw [Bool.and_eq_true,tO,tO] at hb
 obtain ⟨e1,e2⟩:=hb
 unfold jJ
 rw [Bd F.toFHead G.toFHead e2 hs.l hs.r,aE,Bd G.toFHead F.toFHead e1.symm hs.r hs.l,aE,Ep F.c,aE,Ep F.d,aE]
 have n1:kS [(bE.mk (xz a.Left.aD) (qg a.Left a.au) a.Unit),(bE.mk (qg a.au a.Left) (xz a.Left.aB) a.jm)]=some ([HQ a,HR a].all je):=KQ _ (by simp) fun t ht=>by
  rcases List.mem_cons.1 ht with rfl | ht
  ·exact M8 hs F
  ·obtain rfl:=List.mem_singleton.1 ht
   exact M9 hs F
 rw [n1,aE]
 simp only [List.all_cons,List.all_nil,Bool.and_true]
 cases h4:je (HQ a) with
 | false=>rfl
 | true=>
  cases h5:je (HR a) with
  | false=>rfl
  | true=>
   obtain ⟨H1,H2⟩:=half h1 h2 e1 e2 h4 h5
   have o1:=F.c.o0
   have o2:=F.d.o0
   have o3:=F.c.o8
   have o4:=F.d.o8
   have ol:=F.ol
   have orl:(a.au.aA.length:Int)=a.Left.aB.aA:=G.ol.trans (congrArg aG.aA e2.symm)
   have ul:=(yV h4).pl
   have kl:=(yV h5).pl
   replace ul:(a.Unit.length:Int)=a.Left.aD.aA:=ul
   replace kl:(a.jm.length:Int)=a.Left.aB.aA:=by rw [e2]; exact kl
   simp only [Bool.not_true,cond_false,Bool.true_and,Bool.and_true]
   rw [nr (n:=a.Left.aD.aA.toNat) (KL a) (fun x bh=>?_) (by unfold kI; rw [ay (by omega),cond_false])]
   ·unfold KN
    cases (ns a.Left.aD.aA.toNat).any (KL a) with
    | true=>rfl
    | false=>
     rw [cond_false,Bool.not_false,Bool.true_and]
     rw [nr (n:=a.Left.aB.aA.toNat) (KM a) (fun y bh=>?_) (by unfold kJ; rw [ay (by omega),cond_false])]
     ·unfold KO
      cases (ns a.Left.aB.aA.toNat).any (KM a) <;> rfl
     ·obtain ⟨ro,hk⟩:=H2 (y:Int) (by omega) (by omega)
      obtain ⟨_,hu⟩:=H1 _ ro.1 ro.2
      have gr:0≤gi a.au.ab (gi a.jm y)∧gi a.au.ab (gi a.jm y) < a.Left.aD.aF.length:=by
       have:=G.ar hk.1.1 (by rw [← e2]; exact hk.1.2)
       rwa [← e1] at this
      unfold kJ
      rw [ao (by omega),cond_true,bL (by omega) (by omega),aE,bL ro.1 (by omega),aE,bL (by omega) (by omega),aE,G.ru hk.1.1 (by rw [← e2]; exact hk.1.2),aE,F.c.jv hu.1.1 hu.1.2 gr.1 gr.2,aE,F.c.kz ro.1 ro.2,aE,bF (by omega)]; rfl
   ·obtain ⟨lo,hu⟩:=H1 (x:Int) (by omega) (by omega)
    obtain ⟨_,hk⟩:=H2 _ lo.1 lo.2
    have ga:=F.ar hu.1.1 hu.1.2
    unfold kI
    rw [ao (by omega),cond_true,bL (by omega) (by omega),aE,bL (by omega) (by omega),aE,F.ru hu.1.1 hu.1.2,aE,bL lo.1 (by omega),aE,F.d.jv ga.1 ga.2 hk.1.1 hk.1.2,aE,F.d.kz lo.1 lo.2,aE,bF (by omega)]; rfl
theorem M5:fS a=some (KP a):=by
 unfold fS KP
 rw [yw _ (by simp) fun t ht=>by
  rcases List.mem_cons.1 ht with rfl | ht
  ·exact hs.l
  ·obtain rfl:=List.mem_singleton.1 ht
   exact hs.r]
 rw [aE]
 simp only [List.all_cons,List.all_nil,Bool.and_true]
 cases h1:dw a.Left with
 | false=>rfl
 | true=>
  cases h2:dw a.au with
  | false=>rfl
  | true=>
   simp only [Bool.true_and,cond_true]
   rw [Px hs.l,aE]
   cases h3:zX a.Left a.au with
   | false=>rfl
   | true=>
    simp only [Bool.true_and,cond_true]
    rw [Py hs (h1:=h1) (h2:=h2) h3]; rfl
end
end Go.Proofs.YtbhhmalgcnhniaaGreat
namespace Go.Proofs.YtbhhmalgcnhniaaGreat
open Go Go.Li
set_option linter.unusedVariables false
set_option linter.unusedSectionVars false
set_option linter.unusedSimpArgs false
theorem KR {R:List (List Int)} {k:Int} (k0:0≤k) (k3:k < 3) (hl:R.length≤300000) (h3:∀ r∈R,r.length=3):Ok (jR R k) fun y=>y.length=R.length∧∀ i:Int,0≤i→i < R.length→gi y i=gi (gr R i) k:=by
 unfold jR
 refine lj (ol (fun z:List Int×Int=>(0≤z.2∧z.2≤R.length)∧(z.1.length:Int)=z.2∧∀ i:Int,0≤i→i < z.2→gi z.1 i=gi (gr R i) k) (fun z=>(R.length - z.2).toNat) ⟨⟨by show (0:Int)≤0; omega,by show (0:Int)≤_; omega⟩,rfl,fun i i0 i1=>by dsimp only at i1; omega⟩ ?_)
 rintro ⟨l,i⟩ ⟨⟨i0,i1⟩,QU,hv⟩
 dsimp only at i0 i1 QU hv
 show Ok (nW R k l i) _
 unfold nW
 refine od (fun hi=>?_) fun hi=>os ⟨rfl,os ⟨by omega,fun j j0 j1=>hv j j0 (by omega)⟩⟩
 have hw:=w1 i0 hi (by omega)
 have h3r:=h3 _ (kv i0 hi)
 refine oe (j6 i0 hi) (oe (bL k0 (by omega)) (fj (by omega) (by omega) (os ⟨⟨⟨?_,?_⟩,?_,fun j j0 j1=>?_⟩,?_⟩)))
 ·dsimp only; rw [hw]; omega
 ·dsimp only; rw [hw]; omega
 ·dsimp only; rw [hw,List.length_append,List.length_singleton]; omega
 ·dsimp only at j1 ⊢
  rw [hw] at j1
  rw [ll j0]
  by_cases e:j < l.length
  ·rw [if_pos e]; exact hv j j0 (by omega)
  ·rw [if_neg e,if_pos (by omega),show j=i by omega]
 ·dsimp only; rw [hw]; omega
theorem VJ {R:List (List Int)} (key:List Int) (hl:R.length≤300000) (h3:∀ r∈R,r.length=3):Ok (jX R key) fun y=>key∈R→(0≤y∧y < R.length)∧gr R y=key:=by
 unfold jX
 refine lj (ol (fun z:Int=>(0≤z∧z≤R.length)∧∀ i:Int,0≤i→i < z→gr R i≠key) (fun z=>(R.length - z).toNat) ⟨⟨by omega,by omega⟩,fun i i0 i1=>by omega⟩ ?_)
 rintro i ⟨⟨i0,i1⟩,hn⟩
 unfold rW
 refine od (fun hi=>?_) fun hi=>os ⟨rfl,os fun h=>?_⟩
 ·have hw:=w1 i0 hi (by omega)
  have h3r:=h3 _ (kv i0 hi)
  refine oe (j6 i0 hi) (oe (Pg _ _ (by omega)) (oc (fun e=>os fun _=>⟨⟨i0,hi⟩,eq_of_beq e⟩) fun e=>os ⟨⟨⟨by rw [hw]; omega,by rw [hw]; omega⟩,fun j j0 j1=>?_⟩,by dsimp only; rw [hw]; omega⟩))
  rw [hw] at j1
  by_cases ej:j=i
  ·rw [ej]
   intro h
   rw [h] at e
   simp at e
  ·exact hn j j0 (by omega)
 ·exfalso
  obtain ⟨j,j0,j1,e⟩:=MI h
  exact hn j j0 (by omega) e
noncomputable def wz (R:List (List Int)) (key:List Int):Int:=(jX R key).getD (-1)
theorem HS {R:List (List Int)} (key:List Int) (hl:R.length≤300000) (h3:∀ r∈R,r.length=3):jX R key=some (wz R key)∧(key∈R→(0≤wz R key∧wz R key < R.length)∧gr R (wz R key)=key):=by
 obtain ⟨y,h1,h2⟩:=VJ key hl h3
 have e:wz R key=y:=by unfold wz; rw [h1]; rfl
 rw [e]
 exact ⟨h1,h2⟩
def Aq (c:aG) (xs:List Int) (i j h:Int):Prop:=((0≤i∧i < xs.length)∧(0≤j∧j < xs.length))∧(0≤h∧h < c.aF.length)∧gi c.aF h=gi xs i∧gi c.To h=gi xs j
structure Fat (c:aG) (xs:List Int) (R:List (List Int)):Prop where
 n:xs.length≤65
 o:∀ x∈xs,0≤x∧x < c.aA
 l:R.length≤300000
 r:∀ r∈R,∃ i j h,r=[i,j,h]∧Aq c xs i j h
 a:∀ i j h,Aq c xs i j h→[i,j,h]∈R
namespace Fat
variable {c:aG} {xs:List Int} {R:List (List Int)} (F:Fat c xs R)
include F
theorem three:∀ r∈R,r.length=3:=fun r hr=>by obtain ⟨i,j,h,rfl,_⟩:=F.r r hr; rfl
theorem Bj {k:Int} (k0:0≤k) (k1:k < R.length):gr R k=[gi (gr R k) 0,gi (gr R k) 1,gi (gr R k) 2]∧Aq c xs (gi (gr R k) 0) (gi (gr R k) 1) (gi (gr R k) 2):=by
 obtain ⟨i,j,h,e,ha⟩:=F.r _ (kv k0 k1)
 rw [e]
 exact ⟨rfl,ha⟩
theorem Pz {i:Int} (i0:0≤i) (i1:i < xs.length):0≤gi xs i∧gi xs i < c.aA:=F.o _ (eh i0 i1)
theorem DV {i j h:Int} (ha:Aq c xs i j h):(0≤wz R [i,j,h]∧wz R [i,j,h] < R.length)∧gr R (wz R [i,j,h])=[i,j,h]:=(HS _ F.l F.three).2 (F.a i j h ha)
end Fat
structure VK (c:aG) (xs:List Int) (R:List (List Int)) (d:aG):Prop where
 ob:d.aA=xs.length
 fl:d.aF.length=R.length
 tl:d.To.length=R.length
 il:(d.aH.length:Int)=xs.length
 kl:d.aC.length=R.length
 f:∀ k:Int,0≤k→k < R.length→gi d.aF k=gi (gr R k) 0
 t:∀ k:Int,0≤k→k < R.length→gi d.To k=gi (gr R k) 1
 i:∀ x:Int,0≤x→x < xs.length→gi d.aH x=wz R [x,x,gi c.aH (gi xs x)]
 r:∀ r∈d.aC,r.length=R.length
 k:∀ a b:Int,0≤a→a < R.length→0≤b→b < R.length→gk d.aC a b=if gi (gr R a) 1=gi (gr R b) 0 then wz R [gi (gr R a) 0,gi (gr R b) 1,gk c.aC (gi (gr R a) 2) (gi (gr R b) 2)] else -1
theorem VL {c d:aG} {xs:List Int} {R:List (List Int)} (T:T7 c) (F:Fat c xs R) (D:VK c xs R d):Ty d:=by
 have tC:∀ x:Int,0≤x→x < xs.length→Aq c xs x x (gi c.aH (gi xs x)):=fun x x0 x1=>by
  have o:=F.Pz x0 x1
  exact ⟨⟨⟨x0,x1⟩,x0,x1⟩,T.t.id o.1 o.2,T.t.u4 _ o.1 o.2,T.t.wu _ o.1 o.2⟩
 have hco:∀ a b:Int,0≤a→a < R.length→0≤b→b < R.length→gi (gr R a) 1=gi (gr R b) 0→Aq c xs (gi (gr R a) 0) (gi (gr R b) 1) (gk c.aC (gi (gr R a) 2) (gi (gr R b) 2)):=fun a b a0 a1 b0 b1 e=>by
  have A:=(F.Bj a0 a1).2
  have B:=(F.Bj b0 b1).2
  have k:=T.t.cell _ _ A.2.1.1 A.2.1.2 B.2.1.1 B.2.1.2 (by rw [A.2.2.2,B.2.2.1,e])
  exact ⟨⟨A.1.1,B.1.2⟩,k.1,k.2.1.trans A.2.2.1,k.2.2.trans B.2.2.2⟩
 have fl:=D.fl
 have e0:∀ i j h:Int,gi [i,j,h] 0=i:=fun _ _ _=>rfl
 have e1:∀ i j h:Int,gi [i,j,h] 1=j:=fun _ _ _=>rfl
 have e2:∀ i j h:Int,gi [i,j,h] 2=h:=fun _ _ _=>rfl
 refine ⟨by rw [D.ob]; omega,fun y hy=>?_,by rw [D.tl,D.fl],fun y hy=>?_,by rw [D.kl,D.fl],fun r hr=>by rw [D.r r hr,D.fl],by rw [D.il,D.ob],fun y hy=>?_,fun x x0 x1=>?_,fun x x0 x1=>?_,fun a b a0 a1 b0 b1 e=>?_,fun a b a0 a1 b0 b1 e=>?_,fun x x0 x1=>?_⟩
 ·obtain ⟨i,i0,i1,rfl⟩:=j7 hy
  rw [D.f i i0 (by omega),D.ob]
  exact (F.Bj i0 (by omega)).2.1.1
 ·obtain ⟨i,i0,i1,rfl⟩:=j7 hy
  have:=D.tl
  rw [D.t i i0 (by omega),D.ob]
  exact (F.Bj i0 (by omega)).2.1.2
 ·obtain ⟨i,i0,i1,rfl⟩:=j7 hy
  have:=D.il
  rw [D.i i i0 (by omega),D.fl]
  exact (F.DV (tC i i0 (by omega))).1
 ·rw [D.ob] at x1
  have k:=F.DV (tC x x0 x1)
  rw [D.i x x0 x1,D.f _ k.1.1 k.1.2,k.2]; rfl
 ·rw [D.ob] at x1
  have k:=F.DV (tC x x0 x1)
  rw [D.i x x0 x1,D.t _ k.1.1 k.1.2,k.2]; rfl
 ·rw [fl] at a1 b1
  rw [D.t a a0 a1,D.f b b0 b1] at e
  have k:=F.DV (hco a b a0 a1 b0 b1 e)
  rw [D.k a b a0 a1 b0 b1,if_pos e,D.f _ k.1.1 k.1.2,D.t _ k.1.1 k.1.2,k.2,D.f a a0 a1,D.t b b0 b1,fl]
  exact ⟨k.1,rfl,rfl⟩
 ·rw [fl] at a1 b1
  rw [D.t a a0 a1,D.f b b0 b1] at e
  rw [D.k a b a0 a1 b0 b1,if_neg e]
 ·rw [D.ob] at x1
  have o:=F.Pz x0 x1
  have k:=F.DV (tC x x0 x1)
  rw [D.i x x0 x1,D.k _ _ k.1.1 k.1.2 k.1.1 k.1.2,k.2,e0,e1,e2,if_pos rfl,T.t.uu _ o.1 o.2]
theorem A6 {d:aG} (U:Ty d) {a b:Int} (a0:0≤a) (a1:a < d.aF.length) (b0:0≤b) (b1:b < d.aF.length):fY d a b=some (gk d.aC a b):=by
 unfold fY
 rw [U.nq a0 a1,aE,U.me a0 a1 b0 b1,aE]; rfl
section
variable {x:List Int} (B:xB x) {s:aM} (S:Src x s) {c:aG} (T:T7 c)
include B S T
theorem XI:Ok (qW s c) fun y=>(∃ a b,T7 a∧T7 b∧FF a b y.2.1)∧Src x y.2.2:=by
 have c0:=T.t.o0
 have cm:=T.m
 have co:=T.o
 have hlen:=B.len
 unfold qW
 refine lj (ol (fun z:List Int×Int=>(0≤z.2∧z.2≤c.aA)∧(z.1.length:Int)=z.2∧∀ y∈z.1,0≤y∧y < c.aA) (fun z=>(c.aA - z.2).toNat) ⟨⟨by show (0:Int)≤0; omega,by show (0:Int)≤_; omega⟩,rfl,jw⟩ ?_)
 rintro ⟨l,i⟩ ⟨⟨i0,i1⟩,hl,hv⟩
 dsimp only at i0 i1 hl hv
 show Ok (qG c l i) _
 unfold qG
 refine od (fun hi=>fj (by omega) (by omega) (os ⟨⟨⟨?_,?_⟩,?_,ib hv ⟨i0,hi⟩⟩,?_⟩)) fun hi=>os ⟨rfl,?_⟩
 ·dsimp only; rw [w1 i0 hi (by omega)]; omega
 ·dsimp only; rw [w1 i0 hi (by omega)]; omega
 ·dsimp only; rw [w1 i0 hi (by omega),List.length_append,List.length_singleton]; omega
 ·dsimp only; rw [w1 i0 hi (by omega)]; omega
 refine ob (ei B S _) fun AX Na=>?_
 have n91:=Na.1.2 (by omega)
 have S0:=S.on (h:=AX.2.aw) Na.2
 refine ol (fun z:List Int×Int×Int×Int=>(0≤z.2.1∧z.2.1≤AX.1)∧((z.1.length:Int)≤c.aA+(AX.1 - z.2.1)∧∀ y∈z.1,0≤y∧y < c.aA)∧(0≤z.2.2.1∧z.2.2.1≤x.length)) (fun z=>z.2.1.toNat) ⟨⟨Na.1.1,by show AX.1≤AX.1; omega⟩,⟨by show (l.length:Int)≤c.aA+(AX.1 - AX.1); omega,hv⟩,Na.2.a0,Na.2.a1⟩ ?_
 rintro ⟨xs,k,at_,ha⟩ ⟨⟨k0,k1⟩,⟨td,QV⟩,t0,t1⟩
 dsimp only at k0 k1 td QV t0 t1
 show Ok (qH s c xs k at_ ha) _
 unfold qH
 have S1:Src x (aM.mk s.Code at_ ha):=S.at_ t0 t1
 refine ob (P:=fun g=>g=true→0 < k∧0 < c.aA) (od (fun h=>os fun h2=>⟨h,of_decide_eq_true h2⟩) fun h=>os fun h2=>(by cases h2)) fun g hg=>oc (fun eg=>?_) fun eg=>os ⟨rfl,?_⟩
 ·obtain ⟨g1,g2⟩:=hg eg
  have hw:aj (k - 1)=k - 1:=dM (by omega) (by omega)
  refine ob (ei B S1 _) fun z hz=>fj (by omega) (by omega) (os ⟨⟨⟨?_,?_⟩,⟨?_,ib QV ⟨hz.1.1,hz.1.2 (by omega)⟩⟩,hz.2.a0,hz.2.a1⟩,?_⟩)
  ·dsimp only; rw [hw]; omega
  ·dsimp only; rw [hw]; omega
  ·dsimp only; rw [hw,List.length_append,List.length_singleton]; omega
  ·dsimp only; rw [hw]; omega
 have acF:xs.length≤65:=by omega
 refine ol (fun z:List (List Int)×Int=>(0≤z.2∧z.2≤xs.length)∧((z.1.length:Int)≤4095 * z.2∧(∀ r∈z.1,∃ i j h,r=[i,j,h]∧Aq c xs i j h)∧∀ i j h,i < z.2→Aq c xs i j h→[i,j,h]∈z.1)) (fun z=>(xs.length - z.2).toNat) ⟨⟨by show (0:Int)≤0; omega,by show (0:Int)≤_; omega⟩,by show (0:Int)≤4095 * 0; omega,fun r hr=>absurd hr List.not_mem_nil,fun i j h hi ha=>by dsimp only at hi; have:=ha.1.1.1; omega⟩ ?_
 rintro ⟨R,i⟩ ⟨⟨i0,i1⟩,hRl,VM,VN⟩
 dsimp only at i0 i1 hRl VM VN
 show Ok (qN c xs R i) _
 unfold qN
 refine od (fun hi=>?_) fun hi=>os ⟨rfl,?_⟩
 ·refine ol (fun z:List (List Int)×Int=>(0≤z.2∧z.2≤xs.length)∧((z.1.length:Int)≤4095 * i+63 * z.2∧(∀ r∈z.1,∃ i j h,r=[i,j,h]∧Aq c xs i j h)∧∀ i' j h,i' < i∨(i'=i∧j < z.2)→Aq c xs i' j h→[i',j,h]∈z.1)) (fun z=>(xs.length - z.2).toNat) ⟨⟨by show (0:Int)≤0; omega,by show (0:Int)≤_; omega⟩,by dsimp only; omega,VM,fun i' j h hh ha=>VN i' j h (by dsimp only at hh; have:=ha.1.2.1; omega) ha⟩ ?_
  rintro ⟨R1,j⟩ ⟨⟨j0,j1⟩,acG,PB,PC⟩
  dsimp only at j0 j1 acG PB PC
  show Ok (qL c xs i R1 j) _
  unfold qL
  refine od (fun hj=>?_) fun hj=>os ⟨rfl,os ⟨⟨⟨?_,?_⟩,?_,PB,fun i' j' h hh ha=>PC i' j' h ?_ ha⟩,?_⟩⟩
  ·refine oe (bL i0 hi) (oe (bL j0 hj) (ob (KS T.t.tl (by omega) _ _) fun hm VO=>?_))
   have EX:=VO.1
   refine ol (fun z:List (List Int)×Int=>(0≤z.2∧z.2≤hm.length)∧((z.1.length:Int)≤4095 * i+63 * j+z.2∧(∀ r∈z.1,∃ i j h,r=[i,j,h]∧Aq c xs i j h)∧(∀ i' j' h,i' < i∨(i'=i∧j' < j)→Aq c xs i' j' h→[i',j',h]∈z.1)∧∀ q:Int,0≤q→q < z.2→[i,j,gi hm q]∈z.1)) (fun z=>(hm.length - z.2).toNat) ⟨⟨by show (0:Int)≤0; omega,by show (0:Int)≤_; omega⟩,by dsimp only; omega,PB,PC,fun q q0 q1=>by dsimp only at q1; omega⟩ ?_
   rintro ⟨R2,q⟩ ⟨⟨q0,q1⟩,acH,PD,PE,PF⟩
   dsimp only at q0 q1 acH PD PE PF
   show Ok (qK i j hm R2 q) _
   unfold qK
   refine od (fun hq=>oe (bL q0 hq) (fj (by omega) (by omega) (os ⟨⟨⟨?_,?_⟩,?_,ib PD ⟨i,j,gi hm q,rfl,⟨⟨⟨i0,hi⟩,j0,hj⟩,(VO.2 _).1 (eh q0 hq)⟩⟩,fun i' j' h hh ha=>List.mem_append_left _ (PE i' j' h hh ha),fun p p0 p1=>?_⟩,?_⟩))) fun hq=>os ⟨rfl,os ⟨⟨⟨?_,?_⟩,?_,PD,fun i' j' h hh ha=>?_⟩,?_⟩⟩
   ·dsimp only; rw [w1 q0 hq (by omega)]; omega
   ·dsimp only; rw [w1 q0 hq (by omega)]; omega
   ·dsimp only; rw [w1 q0 hq (by omega),List.length_append,List.length_singleton]; omega
   ·dsimp only at p1 ⊢
    rw [w1 q0 hq (by omega)] at p1
    by_cases ep:p=q
    ·rw [ep]; simp
    ·exact List.mem_append_left _ (PF p p0 (by omega))
   ·dsimp only; rw [w1 q0 hq (by omega)]; omega
   ·dsimp only; rw [w1 j0 hj (by omega)]; omega
   ·dsimp only; rw [w1 j0 hj (by omega)]; omega
   ·dsimp only; rw [w1 j0 hj (by omega)]; omega
   ·dsimp only at hh ⊢
    rw [w1 j0 hj (by omega)] at hh
    by_cases e:i'=i∧j'=j
    ·obtain ⟨rfl,rfl⟩:=e
     have J8:=(VO.2 h).2 ha.2
     obtain ⟨p,p0,p1,ep⟩:=j7 J8
     rw [← ep]
     exact PF p p0 (by omega)
    ·exact PE i' j' h (by omega) ha
   ·dsimp only; rw [w1 j0 hj (by omega)]; omega
  ·dsimp only; rw [w1 i0 hi (by omega)]; omega
  ·dsimp only; rw [w1 i0 hi (by omega)]; omega
  ·dsimp only; rw [w1 i0 hi (by omega)]; omega
  ·dsimp only at hh
   rw [w1 i0 hi (by omega)] at hh
   have:=ha.1.2.2
   omega
  ·dsimp only; rw [w1 i0 hi (by omega)]; omega
 have F:Fat c xs R:=⟨acF,QV,by omega,VM,fun i' j h ha=>VN i' j h (by have:=ha.1.1.2; omega) ha⟩
 have h3:=F.three
 have hR3:=F.l
 refine ob (KR (k:=0) (by omega) (by omega) F.l h3) fun ys yF=>ob (KR (k:=1) (by omega) (by omega) F.l h3) fun zs uX=>?_
 refine ol (fun z:Int×List Int=>(0≤z.1∧z.1≤xs.length)∧(z.2.length:Int)=z.1∧∀ q:Int,0≤q→q < z.1→gi z.2 q=wz R [q,q,gi c.aH (gi xs q)]) (fun z=>(xs.length - z.1).toNat) ⟨⟨by show (0:Int)≤0; omega,by show (0:Int)≤_; omega⟩,rfl,fun q q0 q1=>by dsimp only at q1; omega⟩ ?_
 rintro ⟨q,ids⟩ ⟨⟨q0,q1⟩,acI,PG⟩
 dsimp only at q0 q1 acI PG
 show Ok (qP c xs R q ids) _
 unfold qP
 refine od (fun hq=>?_) fun hq=>os ⟨rfl,?_⟩
 ·have o:=F.Pz q0 hq
  refine oe (bL q0 hq) (oe (T.t.kz o.1 o.2) (oe (HS _ F.l h3).1 (fj (by omega) (by omega) (os ⟨⟨⟨?_,?_⟩,?_,fun p p0 p1=>?_⟩,?_⟩))))
  ·dsimp only; rw [w1 q0 hq (by omega)]; omega
  ·dsimp only; rw [w1 q0 hq (by omega)]; omega
  ·dsimp only; rw [w1 q0 hq (by omega),List.length_append,List.length_singleton]; omega
  ·dsimp only at p1 ⊢
   rw [w1 q0 hq (by omega)] at p1
   rw [ll p0]
   by_cases e:p < ids.length
   ·rw [if_pos e]; exact PG p p0 (by omega)
   ·rw [if_neg e,if_pos (by omega),show p=q by omega]
  ·dsimp only; rw [w1 q0 hq (by omega)]; omega
 have GY:∀ K:List (List Int),dT (aG.mk (xs.length:Int) ys zs ids K)=some (decide ((xs.length:Int)≤8) && decide ((R.length:Int)≤40)):=fun K=>by
  unfold dT
  dsimp only
  rw [yF.1]
  by_cases h8:(xs.length:Int)≤8
  ·rw [ao h8,cond_true,aE,Bool.true_and]; rfl
  ·rw [ay h8,cond_false,aE,Bool.false_and]; rfl
 refine ol (fun z:Int×List (List Int)=>(0≤z.1∧z.1≤R.length)∧(z.2.length:Int)=z.1∧(∀ r∈z.2,r.length=R.length)∧∀ a b:Int,0≤a→a < z.1→0≤b→b < R.length→gk z.2 a b=if gi (gr R a) 1=gi (gr R b) 0 then wz R [gi (gr R a) 0,gi (gr R b) 1,gk c.aC (gi (gr R a) 2) (gi (gr R b) 2)] else -1) (fun z=>(R.length - z.1).toNat) ⟨⟨by show (0:Int)≤0; omega,by show (0:Int)≤_; omega⟩,rfl,fun r hr=>absurd hr List.not_mem_nil,fun a b a0 a1=>by dsimp only at a1; omega⟩ ?_
 rintro ⟨a,K⟩ ⟨⟨a0,a1⟩,hKl,QW,VP⟩
 dsimp only at a0 a1 hKl QW VP
 show Ok (qR c xs R ys zs ids a K) _
 unfold qR
 refine ob (P:=fun g=>(g=true→a < R.length)∧(g=false→(decide ((xs.length:Int)≤8) && decide ((R.length:Int)≤40))=false∨a=R.length)) (od (fun h=>oe (GY K) (os ⟨fun _=>h,fun h2=>.inl h2⟩)) fun h=>os ⟨fun h2=>(by cases h2),fun _=>.inr (by omega)⟩) fun g hg=>oc (fun eg=>?_) fun eg=>os ⟨rfl,?_⟩
 ·have ha:=hg.1 eg
  refine ol (fun z:List Int×Int=>(0≤z.2∧z.2≤R.length)∧(z.1.length:Int)=z.2∧∀ b:Int,0≤b→b < z.2→gi z.1 b=if gi (gr R a) 1=gi (gr R b) 0 then wz R [gi (gr R a) 0,gi (gr R b) 1,gk c.aC (gi (gr R a) 2) (gi (gr R b) 2)] else -1) (fun z=>(R.length - z.2).toNat) ⟨⟨by show (0:Int)≤0; omega,by show (0:Int)≤_; omega⟩,rfl,fun b b0 b1=>by dsimp only at b1; omega⟩ ?_
  rintro ⟨row,b⟩ ⟨⟨b0,b1⟩,II,VR⟩
  dsimp only at b0 b1 II VR
  show Ok (qQ c R a row b) _
  unfold qQ
  refine od (fun hb=>?_) fun hb=>os ⟨rfl,fj (by omega) (by omega) (os ⟨⟨⟨?_,?_⟩,?_,ib QW (by omega),fun p b p0 p1 b0 b1=>?_⟩,?_⟩)⟩
  ·have A:=(F.Bj a0 ha).2
   have Bw:=(F.Bj b0 hb).2
   have la:=h3 _ (kv a0 ha)
   have lb:=h3 _ (kv b0 hb)
   have i0':idx (gr R a) 0=some (gi (gr R a) 0):=bL (by omega) (by omega)
   have i1':idx (gr R a) 1=some (gi (gr R a) 1):=bL (by omega) (by omega)
   have i2':idx (gr R a) 2=some (gi (gr R a) 2):=bL (by omega) (by omega)
   have j0':idx (gr R b) 0=some (gi (gr R b) 0):=bL (by omega) (by omega)
   have j1':idx (gr R b) 1=some (gi (gr R b) 1):=bL (by omega) (by omega)
   have j2':idx (gr R b) 2=some (gi (gr R b) 2):=bL (by omega) (by omega)
   have fin:∀ {v:Int},v=(if gi (gr R a) 1=gi (gr R b) 0 then wz R [gi (gr R a) 0,gi (gr R b) 1,gk c.aC (gi (gr R a) 2) (gi (gr R b) 2)] else -1)→∀ {E:List Int×Int→Prop} {G:aG×aJ×aM→Prop},Ok (some (Out.norm (row++[v],aj (b+1)):Out (List Int×Int) (aG×aJ×aM))) (HT 14 (fun z:List Int×Int=>(0≤z.2∧z.2≤R.length)∧(z.1.length:Int)=z.2∧∀ b:Int,0≤b→b < z.2→gi z.1 b=if gi (gr R a) 1=gi (gr R b) 0 then wz R [gi (gr R a) 0,gi (gr R b) 1,gk c.aC (gi (gr R a) 2) (gi (gr R b) 2)] else -1) (fun z=>(R.length - z.2).toNat) (R.length - b).toNat E G):=by
    intro v hv E G
    have hw:=w1 b0 hb (by omega)
    refine os ⟨⟨⟨?_,?_⟩,?_,fun p p0 p1=>?_⟩,?_⟩
    ·dsimp only; rw [hw]; omega
    ·dsimp only; rw [hw]; omega
    ·dsimp only; rw [hw,List.length_append,List.length_singleton]; omega
    ·dsimp only at p1 ⊢
     rw [hw] at p1
     rw [ll p0]
     by_cases e:p < row.length
     ·rw [if_pos e]; exact VR p p0 (by omega)
     ·rw [if_neg e,if_pos (by omega),show p=b by omega]; exact hv
    ·dsimp only; rw [hw]; omega
   refine oe (j6 a0 ha) (oe i1' (oe (j6 b0 hb) (oe j0' (oc (fun e=>?_) fun e=>fj (by omega) (by omega) (fin ?_)))))
   ·have e:=eq_of_beq e
    refine oe (j6 a0 ha) (oe i0' (oe (j6 b0 hb) (oe j1' (oe (j6 a0 ha) (oe i2' (oe (j6 b0 hb) (oe j2' (oe (A6 T.t A.2.1.1 A.2.1.2 Bw.2.1.1 Bw.2.1.2) (oe (HS _ F.l h3).1 (fj (by omega) (by omega) (fin ?_)))))))))))
    rw [if_pos e]
   ·have e : ¬ gi (gr R a) 1=gi (gr R b) 0:=by simpa using e
    rw [if_neg e]
  ·dsimp only; rw [w1 a0 ha (by omega)]; omega
  ·dsimp only; rw [w1 a0 ha (by omega)]; omega
  ·dsimp only; rw [w1 a0 ha (by omega),List.length_append,List.length_singleton]; omega
  ·dsimp only at p1 ⊢
   rw [w1 a0 ha (by omega)] at p1
   unfold gk
   rw [Bo p0]
   by_cases e:p < K.length
   ·rw [if_pos e]; exact VP p b p0 (by omega) b0 b1
   ·rw [if_neg e,show p=a by omega,show a - (K.length:Int)=0 by omega]
    exact VR b b0 (by omega)
  ·dsimp only; rw [w1 a0 ha (by omega)]; omega
 refine oe (GY K) (oc (fun e=>?_) fun e=>?_)
 ·exact ob (Bp T) fun f hf=>os ⟨⟨c,c,T,T,hf.1⟩,S.at_ t0 t1⟩
 ·have e:(decide ((xs.length:Int)≤8) && decide ((R.length:Int)≤40))=true:=by simpa using e
  have haR:a=R.length:=(hg.2 eg).elim (fun h=>by rw [h] at e; cases e) fun h=>h
  rw [Bool.and_eq_true] at e
  have e8:=of_decide_eq_true e.1
  have QG:=of_decide_eq_true e.2
  have D:VK c xs R (aG.mk (xs.length:Int) ys zs ids K):=⟨rfl,yF.1,uX.1,by show (ids.length:Int)=_; omega,by show K.length=_; omega,yF.2,uX.2,fun q q0 q1=>PG q q0 (by omega),QW,fun p b p0 p1 b0 b1=>VP p b p0 (by omega) b0 b1⟩
  have D7:T7 (aG.mk (xs.length:Int) ys zs ids K):=⟨VL T F D,by show ys.length≤63; rw [yF.1]; omega,by show (xs.length:Int)≤63; omega,⟨by show ys.length≤_; rw [yF.1]; omega,by show zs.length≤_; rw [uX.1]; omega,by show ids.length≤_; omega,by show K.length≤_; omega,fun r hr=>by rw [QW r hr]; omega⟩⟩
  refine ob (KR (k:=2) (by omega) (by omega) F.l h3) fun ws QY=>oe (xy D7.s T.s (by omega) (by rw [QY.1]; omega)) (os ⟨⟨_,c,D7,T,rfl,rfl,rfl,QV,⟨?_,fun p p0 p1 _=>?_⟩,fun p p0 p1=>?_⟩,S.at_ t0 t1⟩)
  ·show ws.length=ys.length
   rw [QY.1,yF.1]
  ·replace p1:p < ys.length:=p1
   rw [yF.1] at p1
   have A:=(F.Bj p0 p1).2
   show gi ws p < c.aF.length∧gi c.aF (gi ws p)=gi xs (gi ys p)∧gi c.To (gi ws p)=gi xs (gi zs p)
   rw [QY.2 p p0 p1,yF.2 p p0 p1,uX.2 p p0 p1]
   exact ⟨A.2.1.2,A.2.2.1,A.2.2.2⟩
  ·replace p1:p < ys.length:=p1
   rw [yF.1] at p1
   have A:=(F.Bj p0 p1).2
   show 0≤gi ws p
   rw [QY.2 p p0 p1]
   exact A.2.1.1
end
end Go.Proofs.YtbhhmalgcnhniaaGreat
namespace Go.Proofs.YtbhhmalgcnhniaaGreat
open Go Go.Li
set_option linter.unusedVariables false
set_option linter.unusedSectionVars false
set_option linter.unusedSimpArgs false
structure QZ (l r:aJ) (u k:List Int):Prop where
 u:u.length≤l.aA.length
 o:∀ x∈l.aA,0≤x∧x < r.aA.length∧x < k.length
 a:∀ x∈l.ab,0≤x∧x < r.ab.length
 k:∀ x∈k,0≤x∧x < r.ab.length
structure A7 (a:bX):Prop where
 ls:T7 a.Left.aD
 lt:T7 a.Left.aB
 rs:T7 a.au.aD
 rt:T7 a.au.aB
 lo:a.Left.aA.length≤1000
 la:a.Left.ab.length≤1000
 ro:a.au.aA.length≤1000
 ra:a.au.ab.length≤1000
 u:a.Unit.length≤1000
 k:a.jm.length≤1000
 p:QZ a.Left a.au a.Unit a.jm
 q:QZ a.au a.Left a.jm a.Unit
theorem A7.small {a:bX} (h:A7 a):xA a:=⟨⟨h.ls.s,h.lt.s,by have:=h.lo; omega,by have:=h.la; omega⟩,⟨h.rs.s,h.rt.s,by have:=h.ro; omega,by have:=h.ra; omega⟩,by have:=h.u; omega,by have:=h.k; omega⟩
section
variable {c d:aG} {f:aJ} (T:T7 c) (U:T7 d) (F:FF c d f)
include T U F
theorem Vp {x:Int} (x0:0≤x) (x1:x < c.aA):idx f.aA x=some (gi f.aA x)∧0≤gi f.aA x∧gi f.aA x < d.aA:=⟨bL x0 (by rw [F.ol]; exact x1),F.oo _ (eh x0 (by rw [F.ol]; exact x1))⟩
theorem Vq {a:Int} (a0:0≤a) (a1:a < c.aF.length):idx f.ab a=some (gi f.ab a)∧dn d (gi f.aA (gi c.aF a)) (gi f.aA (gi c.To a)) (gi f.ab a):=by
 have p:=F.ar.2 a a0 a1
 have k:=F.ar.1.ok a a0 a1 p
 exact ⟨bL a0 (by rw [F.ar.1.len]; exact a1),⟨p,k.1⟩,k.2⟩
end
section
variable {x:List Int} (B:xB x)
include B
omit B in
end
end Go.Proofs.YtbhhmalgcnhniaaGreat
namespace Go.Proofs.YtbhhmalgcnhniaaGreat
open Go Go.Li
set_option linter.unusedVariables false
set_option linter.unusedSectionVars false
set_option linter.unusedSimpArgs false
section
variable {a:bX} (hs:xA a) (A:Adj a)
include hs A
end
def bp (c:aG) (x y:Int):List Int:=(ns c.aF.length).filter (Ao c x y)
theorem cf {c:aG} {x y h:Int}:h∈bp c x y↔dn c x y h:=by
 unfold bp Ao dn
 rw [List.mem_filter,dh,Bool.and_eq_true,beq_iff_eq,beq_iff_eq]
end Go.Proofs.YtbhhmalgcnhniaaGreat
namespace Go.Proofs.YtbhhmalgcnhniaaGreat
open Go Go.Li
set_option linter.unusedVariables false
set_option linter.unusedSectionVars false
set_option linter.unusedSimpArgs false
set_option linter.unusedSimpArgs false
set_option linter.unusedSectionVars false
theorem VT (l:List (List Int)) (hl:l.length≤1048576) (hr:∀ r∈l,r.length≤1048576):nM l l=some true:=by
 unfold nM
 rw [tk rfl,cond_false,nr (n:=l.length) (fun _=>false) (y:=false) (fun i bh=>?_) (by unfold nY; rw [ay (by omega),cond_false])]
 ·rw [show (ns l.length).any (fun _=>false)=false from br.2 fun _ _ _=>rfl]; rfl
 ·unfold nY
  have hm:=hr _ (kv (l:=l) (j:=(i:Int)) (by omega) (by omega))
  rw [ao (by omega),cond_true,j6 (by omega) (by omega),aE,aE,yb _ _ (by omega),aE,jr rfl,bF (by omega)]; rfl
theorem Nb {c:aG} (h:fg c):gS c c=some true:=by
 have h1:=h.f
 have h2:=h.t
 have h3:=h.i
 unfold gS
 rw [jr rfl,cond_true,yb _ _ (by omega),aE,jr rfl,cond_true,yb _ _ (by omega),aE,jr rfl,cond_true,yb _ _ (by omega),aE,jr rfl,cond_true,VT _ h.k h.r]; rfl
theorem M4 {f:aJ} (h:gq f):kP f f=some true:=by
 have h1:=h.o
 have h2:=h.a
 unfold kP
 rw [Nb h.s,aE,cond_true,Nb h.t,aE,cond_true,yb _ _ (by omega),aE,jr rfl,cond_true,yb _ _ (by omega),aE,jr rfl]; rfl
section
variable {a b:bX} (ha:xA a) (hb:xA b)
include ha hb
section
variable (A:Adj a) (B:Adj b) (e:a.Left.aB=b.Left.aD)
include A B e
omit ha hb in
omit ha hb in
end
end
section
variable {x:List Int} (B:xB x)
include B
end
end Go.Proofs.YtbhhmalgcnhniaaGreat
namespace Go.Proofs.YtbhhmalgcnhniaaGreat
open Go Go.Li
set_option linter.unusedVariables false
set_option linter.unusedSectionVars false
set_option linter.unusedSimpArgs false
structure En (c:aG) (x y p q:Int):Prop where
 i:dn c x y p
 j:dn c y x q
 ij:gk c.aC p q=gi c.aH x
 ji:gk c.aC q p=gi c.aH y
section
variable {f:aJ} {os yX nj:List Int} {js:Int→Int} (E:Fb f) (ew:(os.length:Int)=f.aB.aA) (pq:(yX.length:Int)=f.aB.aA) (sf:nj.length=f.aB.aF.length)
 (hO:∀ y:Int,0≤y→y < f.aB.aA→0≤gi os y∧gi os y < f.aD.aA)
 (hI:∀ y:Int,0≤y→y < f.aB.aA→En f.aB (gi f.aA (gi os y)) y (gi yX y) (js y))
 (hA:∀ h:Int,0≤h→h < f.aB.aF.length→dn f.aD (gi os (gi f.aB.aF h)) (gi os (gi f.aB.To h)) (gi nj h)∧gi f.ab (gi nj h)=gk f.aB.aC (gk f.aB.aC (gi yX (gi f.aB.aF h)) h) (js (gi f.aB.To h)))
include E ew pq sf hO hI hA
theorem HW {y z h:Int} (l:dn f.aB y z h):dn f.aD (gi os y) (gi os z) (gi nj h)∧gi f.ab (gi nj h)=gk f.aB.aC (gk f.aB.aC (gi yX y) h) (js z):=by
 have:=hA h l.1.1 l.1.2
 rwa [l.2.1,l.2.2] at this
theorem A9:dw (aJ.mk f.aB f.aD os nj)=true:=by
 have F:=cn E.fb
 have C:=F.c
 have D:=F.d
 have Ff:∀ {y z h:Int},dn f.aB y z h→_:=fun l=>HW E ew pq sf hO hI hA l
 refine DU (f:=aJ.mk f.aB f.aD os nj) (xC D) (xC C) ew sf (fun y hy=>?_) (fun y hy=>?_) (fun g g0 g1=>(hA g g0 g1).1.2.1) (fun g g0 g1=>(hA g g0 g1).1.2.2) (fun y y0 y1=>?_) fun g h g0 g1 h0 h1 e=>?_
 ·obtain ⟨i,i0,i1,rfl⟩:=j7 hy
  dsimp only at i1
  exact hO i i0 (by omega)
 ·obtain ⟨i,i0,i1,rfl⟩:=j7 hy
  dsimp only at i1
  exact (hA i i0 (by omega)).1.1
 ·have a:=Ff (vV D y0 y1)
  have o:=hO y y0 y1
  have I:=hI y y0 y1
  refine E.zW _ _ _ _ a.1 (vV C o.1 o.2) ?_
  rw [a.2,tE D I.i,I.ij,F.un _ o.1 o.2]
 ·replace e:gi f.aB.To g=gi f.aB.aF h:=e
  have lg:dn f.aB (gi f.aB.aF g) (gi f.aB.To g) g:=⟨⟨g0,g1⟩,rfl,rfl⟩
  have lh:dn f.aB (gi f.aB.To g) (gi f.aB.To h) h:=⟨⟨h0,h1⟩,e.symm,rfl⟩
  have a:=Ff lg
  have b:=Ff lh
  have k:=Ff (fh D lg lh)
  have q1:=yT D lg
  have q2:=xE D lg
  have q3:=xE D lh
  have I:=hI _ q1.1 q1.2
  have J:=hI _ q2.1 q2.2
  have K:=hI _ q3.1 q3.2
  refine E.zW _ _ _ _ k.1 (fh C a.1 b.1) ?_
  rw [xD F a.1 b.1,k.2,a.2,b.2]
  have l1:=fh D I.i lg
  have l2:=fh D J.i lh
  rw [du D l1 J.j (fh D l2 K.j),← du D J.j l2 K.j,← du D J.j J.i lh,J.ji,yW D lh,← du D l1 lh K.j,du D I.i lg lh]
theorem MU:Fb (aJ.mk f.aB f.aD os nj):=by
 have F:=cn E.fb
 have C:=F.c
 have D:=F.d
 have Ff:∀ {y z h:Int},dn f.aB y z h→_:=fun l=>HW E ew pq sf hO hI hA l
 refine ⟨A9 E ew pq sf hO hI hA,fun y z b y0 y1 z0 z1 hb=>?_,fun y z a b ha hb e=>?_,fun x x0 x1=>?_⟩
 ·replace hb:dn f.aD (gi os y) (gi os z) b:=hb
  have I:=hI y y0 y1
  have K:=hI z z0 z1
  have lb:=j8 F hb
  have l1:=fh D I.j lb
  have l2:=fh D l1 K.i
  refine ⟨_,l2,?_⟩
  have a:=Ff l2
  refine E.zW _ _ _ _ a.1 hb ?_
  rw [a.2,du D I.i l2 K.j,du D l1 K.i K.j,K.ij,tE D l1,← du D I.i I.j lb,I.ij,yW D lb]
 ·replace ha:dn f.aB y z a:=ha
  replace hb:dn f.aB y z b:=hb
  replace e:gi nj a=gi nj b:=e
  have a1:=Ff ha
  have b1:=Ff hb
  have q1:=yT D ha
  have q3:=xE D ha
  have I:=hI _ q1.1 q1.2
  have K:=hI _ q3.1 q3.2
  have e2:gk f.aB.aC (gk f.aB.aC (gi yX y) a) (js z)=gk f.aB.aC (gk f.aB.aC (gi yX y) b) (js z):=by rw [← a1.2,← b1.2,e]
  have la:=fh D I.i ha
  have lb:=fh D I.i hb
  have e3:=congrArg (fun v=>gk f.aB.aC v (gi yX z)) e2
  rw [du D la K.j K.i,du D lb K.j K.i,K.ji,tE D la,tE D lb] at e3
  have e4:=congrArg (fun v=>gk f.aB.aC (js y) v) e3
  rwa [← du D I.j I.i ha,← du D I.j I.i hb,I.ji,yW D ha,yW D hb] at e4
 ·have o:=F.ob x0 x1
  have I:=hI _ o.1 o.2
  have o2:=hO _ o.1 o.2
  obtain ⟨u,hu,eu⟩:=E.full _ _ _ o2.1 o2.2 x0 x1 I.i
  obtain ⟨v,hv,ev⟩:=E.full _ _ _ x0 x1 o2.1 o2.2 I.j
  refine ⟨gi f.aA x,u,v,o,hu,hv,?_,?_⟩
  ·refine E.zW _ _ _ _ (fh C hu hv) (vV C o2.1 o2.2) ?_
   rw [xD F hu hv,eu,ev,I.ij,F.un _ o2.1 o2.2]
  ·refine E.zW _ _ _ _ (fh C hv hu) (vV C x0 x1) ?_
   rw [xD F hv hu,eu,ev,I.ji,F.un _ x0 x1]
theorem MW:je (bE.mk (qg (aJ.mk f.aB f.aD os nj) f) (xz f.aB) yX)=true:=by
 have F:=cn E.fb
 have D:=F.d
 have d0:=D.o0
 have hR:=A9 E ew pq sf hO hI hA
 have h3:∀ y:Int,0≤y→y < f.aB.aA→gi (thenS os f.aA) y=gi f.aA (gi os y):=fun y y0 y1=>my y0 (by rw [ew]; exact y1)
 have h4:∀ g:Int,0≤g→g < f.aB.aF.length→gi (thenS nj f.ab) g=gi f.ab (gi nj g):=fun g g0 g1=>my g0 (by rw [sf]; exact g1)
 refine HU (t:=bE.mk (qg (aJ.mk f.aB f.aD os nj) f) (xz f.aB) yX) (CK hR E.fb rfl) (Er D) rfl rfl pq (fun y hy=>?_) (fun y y0 y1=>?_) (fun y y0 y1=>?_) fun g g0 g1=>?_
 ·obtain ⟨i,i0,i1,rfl⟩:=j7 hy
  dsimp only at i1
  exact (hI i i0 (by omega)).i.1
 ·show gi f.aB.aF (gi yX y)=gi (thenS os f.aA) y
  rw [h3 y y0 y1]
  exact (hI y y0 y1).i.2.1
 ·show gi f.aB.To (gi yX y)=gi (ns f.aB.aA.toNat) y
  replace y1:y < f.aB.aA:=y1
  rw [vA y0 (by omega)]
  exact (hI y y0 y1).i.2.2
 ·replace g1:g < f.aB.aF.length:=g1
  show gk f.aB.aC (gi (thenS nj f.ab) g) (gi yX (gi f.aB.To g))=gk f.aB.aC (gi yX (gi f.aB.aF g)) (gi (ns f.aB.aF.length) g)
  rw [vA g0 g1,h4 g g0 g1]
  have lg:dn f.aB (gi f.aB.aF g) (gi f.aB.To g) g:=⟨⟨g0,g1⟩,rfl,rfl⟩
  have q1:=yT D lg
  have q2:=xE D lg
  have I:=hI _ q1.1 q1.2
  have J:=hI _ q2.1 q2.2
  have l1:=fh D I.i lg
  rw [(hA g g0 g1).2,du D l1 J.j J.i,J.ji,tE D l1]
end
end Go.Proofs.YtbhhmalgcnhniaaGreat
