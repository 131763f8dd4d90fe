/- Adjunctions: units and counits as natural transformations, the laws of triangles; transposing there and back; composites. No condition beside those that each theorem names. -/
import Derived.Test.YtjdkifckhidlbaaGreatYk
import Derived.Test.YtjdkifckhidlbaaGreatUr
import Derived.Test.YtjdkifckhidlbaaGreatYn
import Derived.Test.YtjdkifckhidlbaaGreatVw
namespace Go.Proofs.YtjdkifckhidlbaaGreat
open Go Go.Li
set_option linter.unusedVariables false
set_option linter.unusedSectionVars false
def zV (c:aI):aP:=aP.mk c c (ns c.aA.toNat) (ns c.aG.length)
theorem HP {c:aI} (C:nq c):gj (zV c)=true:=by
 have o0:=C.o0
 have hO:∀ y:Int,0≤y→y < c.aA→gi (ns c.aA.toNat) y=y:=fun y y0 y1=>w8 y0 (by omega)
 have hA:∀ a:Int,0≤a→a < c.aG.length→gi (ns c.aG.length) a=a:=fun a a0 a1=>w8 a0 a1
 refine KZ (f:=zV c) (Gn C) (Gn C) (by show ((ns c.aA.toNat).length:Int)=c.aA; rw [cZ]; omega) (cZ _) (fun y hy=>?_) (fun y hy=>eh.1 hy) (fun a a0 a1=>?_) (fun a a0 a1=>?_) (fun y y0 y1=>?_) fun a b a0 a1 b0 b1 e=>?_
 ·have:=eh.1 hy
  show 0≤y∧y < c.aA
  omega
 ·have k:=C.fr a0 a1
  show gi c.aG (gi (ns c.aG.length) a)=gi (ns c.aA.toNat) (gi c.aG a)
  rw [hA a a0 a1,hO _ k.1 k.2]
 ·have k:=C.to a0 a1
  show gi c.To (gi (ns c.aG.length) a)=gi (ns c.aA.toNat) (gi c.To a)
  rw [hA a a0 a1,hO _ k.1 k.2]
 ·have k:=C.id (x:=y) y0 y1
  show gi (ns c.aG.length) (gi c.aJ y)=gi c.aJ (gi (ns c.aA.toNat) y)
  rw [hA _ k.1 k.2,hO y y0 y1]
 ·have k:=C.cell a b a0 a1 b0 b1 e
  show gi (ns c.aG.length) (gk c.aB a b)=gk c.aB (gi (ns c.aG.length) a) (gi (ns c.aG.length) b)
  rw [hA _ k.1 k.2.1,hA a a0 a1,hA b b0 b1]
theorem DI {c:aI} (C:nq c):ji (zV c):=by
 have o0:=C.o0
 have o8:=C.o8
 have m:=C.m
 exact ⟨u5 C,u5 C,by show (ns _).length≤_; rw [cZ]; omega,by show (ns _).length≤_; rw [cZ]; omega⟩
def AZ (a:bN):cD:=cD.mk (zV a.Left.aE) (tN a.Left a.ab) a.Unit
def A3 (a:bN):cD:=cD.mk (tN a.ab a.Left) (zV a.Left.aH) a.br
def tr (a:bN) (x g:Int):Int:=gk a.Left.aE.aB (gi a.Unit x) (gi a.ab.ae g)
def bk (a:bN) (y f:Int):Int:=gk a.Left.aH.aB (gi a.Left.ae f) (gi a.br y)
def BD (a:bN) (x:Int):Bool:=bk a (gi a.Left.aA x) (gi a.Unit x) != gi a.Left.aH.aJ (gi a.Left.aA x)
def BE (a:bN) (y:Int):Bool:=tr a (gi a.ab.aA y) (gi a.br y) != gi a.Left.aE.aJ (gi a.ab.aA y)
def CV (a:bN):Bool:=!((ns a.Left.aE.aA.toNat).any (BD a))
def CW (a:bN):Bool:=!((ns a.Left.aH.aA.toNat).any (BE a))
def sD (f g:aP):Bool:=mz f.aE g.aH && mz f.aH g.aE
def yP (a:bN):Bool:=(gj a.Left && gj a.ab) && (sD a.Left a.ab && ((lh (AZ a) && lh (A3 a)) && (CV a && CW a)))
structure Adj (a:bN):Prop where
 fb:gj a.Left=true
 gb:gj a.ab=true
 e1:a.Left.aE=a.ab.aH
 e2:a.Left.aH=a.ab.aE
 ub:lh (AZ a)=true
 kb:lh (A3 a)=true
 t1:∀ x:Int,0≤x→x < a.Left.aE.aA→bk a (gi a.Left.aA x) (gi a.Unit x)=gi a.Left.aH.aJ (gi a.Left.aA x)
 t2:∀ y:Int,0≤y→y < a.Left.aH.aA→tr a (gi a.ab.aA y) (gi a.br y)=gi a.Left.aE.aJ (gi a.ab.aA y)
theorem K0 {a:bN} (h:yP a=true):Adj a:=by
 unfold yP sD CV CW at h
 simp only [Bool.and_eq_true,l4,Bool.not_eq_true',fi] at h
 obtain ⟨⟨h1,h2⟩,⟨h3,h4⟩,⟨h5,h6⟩,h7,h8⟩:=h
 refine ⟨h1,h2,h3,h4,h5,h6,fun x x0 x1=>?_,fun y y0 y1=>?_⟩
 ·have:=h7 x x0 (by omega)
  unfold BD at this
  simpa using this
 ·have:=h8 y y0 (by omega)
  unfold BE at this
  simpa using this
theorem K1 {a:bN} (A:Adj a):yP a=true:=by
 have o1:=(dj A.fb).c.o0
 have o2:=(dj A.fb).d.o0
 unfold yP sD CV CW
 simp only [Bool.and_eq_true,l4,Bool.not_eq_true',fi]
 refine ⟨⟨A.fb,A.gb⟩,⟨A.e1,A.e2⟩,⟨A.ub,A.kb⟩,fun x x0 x1=>?_,fun y y0 y1=>?_⟩
 ·unfold BD
  rw [A.t1 x x0 (by omega)]; simp
 ·unfold BE
  rw [A.t2 y y0 (by omega)]; simp
namespace Adj
variable {a:bN} (A:Adj a)
include A
theorem aC:nq a.Left.aE:=(dj A.fb).c
theorem aD:nq a.Left.aH:=(dj A.fb).d
theorem WO {x:Int} (x0:0≤x) (x1:x < a.Left.aE.aA):0≤gi a.Left.aA x∧gi a.Left.aA x < a.Left.aH.aA:=(dj A.fb).ob x0 x1
theorem K2 {f:Int} (f0:0≤f) (f1:f < a.Left.aE.aG.length):(0≤gi a.Left.ae f∧gi a.Left.ae f < a.Left.aH.aG.length)∧gi a.Left.aH.aG (gi a.Left.ae f)=gi a.Left.aA (gi a.Left.aE.aG f)∧gi a.Left.aH.To (gi a.Left.ae f)=gi a.Left.aA (gi a.Left.aE.To f):=
 ⟨(dj A.fb).ar f0 f1,(dj A.fb).fr f f0 f1,(dj A.fb).to f f0 f1⟩
theorem WQ {y:Int} (y0:0≤y) (y1:y < a.Left.aH.aA):0≤gi a.ab.aA y∧gi a.ab.aA y < a.Left.aE.aA:=by
 have:=(dj A.gb).ob (x:=y) y0 (by rw [← A.e2]; exact y1)
 rwa [← A.e1] at this
theorem Co {g:Int} (g0:0≤g) (g1:g < a.Left.aH.aG.length):(0≤gi a.ab.ae g∧gi a.ab.ae g < a.Left.aE.aG.length)∧gi a.Left.aE.aG (gi a.ab.ae g)=gi a.ab.aA (gi a.Left.aH.aG g)∧gi a.Left.aE.To (gi a.ab.ae g)=gi a.ab.aA (gi a.Left.aH.To g):=by
 have G:=dj A.gb
 have k:g < a.ab.aE.aG.length:=by rw [← A.e2]; exact g1
 have h1:=G.ar g0 k
 have h2:=G.fr g g0 k
 have h3:=G.to g g0 k
 rw [← A.e1] at h1 h2 h3
 rw [← A.e2] at h2 h3
 exact ⟨h1,h2,h3⟩
theorem JM {f g:Int} (f0:0≤f) (f1:f < a.Left.aE.aG.length) (g0:0≤g) (g1:g < a.Left.aE.aG.length) (e:gi a.Left.aE.To f=gi a.Left.aE.aG g):gi a.Left.ae (gk a.Left.aE.aB f g)=gk a.Left.aH.aB (gi a.Left.ae f) (gi a.Left.ae g):=(dj A.fb).co f g f0 f1 g0 g1 e
theorem WR {f g:Int} (f0:0≤f) (f1:f < a.Left.aH.aG.length) (g0:0≤g) (g1:g < a.Left.aH.aG.length) (e:gi a.Left.aH.To f=gi a.Left.aH.aG g):gi a.ab.ae (gk a.Left.aH.aB f g)=gk a.Left.aE.aB (gi a.ab.ae f) (gi a.ab.ae g):=by
 have:=(dj A.gb).co f g f0 (by rw [← A.e2]; exact f1) g0 (by rw [← A.e2]; exact g1) (by rw [← A.e2]; exact e)
 rwa [← A.e2,← A.e1] at this
theorem WS:(a.Unit.length:Int)=a.Left.aE.aA:=(rB A.ub).pl
theorem akl:(a.br.length:Int)=a.Left.aH.aA:=by
 have:=(rB A.kb).pl
 exact this.trans (congrArg aI.aA A.e2.symm)
theorem au {x:Int} (x0:0≤x) (x1:x < a.Left.aE.aA):(0≤gi a.Unit x∧gi a.Unit x < a.Left.aE.aG.length)∧gi a.Left.aE.aG (gi a.Unit x)=x∧gi a.Left.aE.To (gi a.Unit x)=gi a.ab.aA (gi a.Left.aA x):=by
 have N:=rB A.ub
 have o0:=A.aC.o0
 refine ⟨N.cp x0 x1,(N.pf x x0 x1).trans ?_,(N.pt x x0 x1).trans ?_⟩
 ·exact w8 x0 (by show x < ((a.Left.aE.aA.toNat:Nat):Int); omega)
 ·exact r6 x0 (by rw [(dj A.fb).ol]; exact x1)
theorem ak {y:Int} (y0:0≤y) (y1:y < a.Left.aH.aA):(0≤gi a.br y∧gi a.br y < a.Left.aH.aG.length)∧gi a.Left.aH.aG (gi a.br y)=gi a.Left.aA (gi a.ab.aA y)∧gi a.Left.aH.To (gi a.br y)=y:=by
 have N:=rB A.kb
 have o0:=A.aD.o0
 have y2:y < a.ab.aE.aA:=by rw [← A.e2]; exact y1
 refine ⟨N.cp (x:=y) y0 y2,(N.pf y y0 y2).trans ?_,(N.pt y y0 y2).trans ?_⟩
 ·exact r6 y0 (by rw [(dj A.gb).ol]; exact y2)
 ·exact w8 y0 (by show y < ((a.Left.aH.aA.toNat:Nat):Int); omega)
theorem aus {f:Int} (f0:0≤f) (f1:f < a.Left.aE.aG.length):gk a.Left.aE.aB f (gi a.Unit (gi a.Left.aE.To f))=tr a (gi a.Left.aE.aG f) (gi a.Left.ae f):=by
 have N:=(rB A.ub).sq f f0 f1
 have e1:gi (ns a.Left.aE.aG.length) f=f:=w8 f0 f1
 have e2:gi (thenS a.Left.ae a.ab.ae) f=gi a.ab.ae (gi a.Left.ae f):=r6 f0 (by rw [(dj A.fb).al]; exact f1)
 have N':gk a.Left.aE.aB (gi (ns a.Left.aE.aG.length) f) (gi a.Unit (gi a.Left.aE.To f))=gk a.Left.aE.aB (gi a.Unit (gi a.Left.aE.aG f)) (gi (thenS a.Left.ae a.ab.ae) f):=N
 rw [e1,e2] at N'
 exact N'
theorem aks {g:Int} (g0:0≤g) (g1:g < a.Left.aH.aG.length):bk a (gi a.Left.aH.To g) (gi a.ab.ae g)=gk a.Left.aH.aB (gi a.br (gi a.Left.aH.aG g)) g:=by
 have g2:g < a.ab.aE.aG.length:=by rw [← A.e2]; exact g1
 have N:=(rB A.kb).sq g g0 g2
 have e1:gi (ns a.Left.aH.aG.length) g=g:=w8 g0 g1
 have e2:gi (thenS a.ab.ae a.Left.ae) g=gi a.Left.ae (gi a.ab.ae g):=r6 g0 (by rw [(dj A.gb).al]; exact g2)
 have N':gk a.Left.aH.aB (gi (thenS a.ab.ae a.Left.ae) g) (gi a.br (gi a.ab.aE.To g))=gk a.Left.aH.aB (gi a.br (gi a.ab.aE.aG g)) (gi (ns a.Left.aH.aG.length) g):=N
 rw [e1,e2,← A.e2] at N'
 exact N'
theorem Tp {x g:Int} (x0:0≤x) (x1:x < a.Left.aE.aA) (g0:0≤g) (g1:g < a.Left.aH.aG.length) (e:gi a.Left.aH.aG g=gi a.Left.aA x) :
  (0≤tr a x g∧tr a x g < a.Left.aE.aG.length)∧gi a.Left.aE.aG (tr a x g)=x∧gi a.Left.aE.To (tr a x g)=gi a.ab.aA (gi a.Left.aH.To g):=by
 have hu:=A.au x0 x1
 have hr:=A.Co g0 g1
 have:=A.aC.cell _ _ hu.1.1 hu.1.2 hr.1.1 hr.1.2 (by rw [hu.2.2,hr.2.1,e])
 exact ⟨⟨this.1,this.2.1⟩,this.2.2.1.trans hu.2.1,this.2.2.2.trans hr.2.2⟩
theorem aaN {y f:Int} (y0:0≤y) (y1:y < a.Left.aH.aA) (f0:0≤f) (f1:f < a.Left.aE.aG.length) (e:gi a.Left.aE.To f=gi a.ab.aA y) :
  (0≤bk a y f∧bk a y f < a.Left.aH.aG.length)∧gi a.Left.aH.aG (bk a y f)=gi a.Left.aA (gi a.Left.aE.aG f)∧gi a.Left.aH.To (bk a y f)=y:=by
 have hk:=A.ak y0 y1
 have hl:=A.K2 f0 f1
 have:=A.aD.cell _ _ hl.1.1 hl.1.2 hk.1.1 hk.1.2 (by rw [hk.2.1,hl.2.2,e])
 exact ⟨⟨this.1,this.2.1⟩,this.2.2.1.trans hl.2.1,this.2.2.2.trans hk.2.2⟩
theorem Jc {x g:Int} (x0:0≤x) (x1:x < a.Left.aE.aA) (g0:0≤g) (g1:g < a.Left.aH.aG.length) (e:gi a.Left.aH.aG g=gi a.Left.aA x):bk a (gi a.Left.aH.To g) (tr a x g)=g:=by
 have hu:=A.au x0 x1
 have hr:=A.Co g0 g1
 have hl:=A.K2 hu.1.1 hu.1.2
 have OQ:=A.K2 hr.1.1 hr.1.2
 have kt:=A.aD.to g0 g1
 have hk:=A.ak kt.1 kt.2
 have lx:=A.WO x0 x1
 have Dr:=A.ak lx.1 lx.2
 have E1:gi a.Left.ae (tr a x g)=gk a.Left.aH.aB (gi a.Left.ae (gi a.Unit x)) (gi a.Left.ae (gi a.ab.ae g)):=A.JM hu.1.1 hu.1.2 hr.1.1 hr.1.2 (by rw [hu.2.2,hr.2.1,e])
 show gk a.Left.aH.aB (gi a.Left.ae (tr a x g)) (gi a.br (gi a.Left.aH.To g))=g
 rw [E1,A.aD.assoc _ _ _ hl.1.1 hl.1.2 OQ.1.1 OQ.1.2 hk.1.1 hk.1.2 (by rw [hl.2.2,OQ.2.1,hu.2.2,hr.2.1,e]) (by rw [OQ.2.2,hk.2.1,hr.2.2])]
 have E2:=A.aks g0 g1
 unfold bk at E2
 rw [E2,← A.aD.assoc _ _ _ hl.1.1 hl.1.2 (by rw [e]; exact Dr.1.1) (by rw [e]; exact Dr.1.2) g0 g1 (by rw [hl.2.2,e,Dr.2.1,hu.2.2]) (by rw [e,Dr.2.2])]
 have E3:=A.t1 x x0 x1
 unfold bk at E3
 rw [e,E3,← e]
 exact A.aD.I9 g g0 g1
theorem OR {y f:Int} (y0:0≤y) (y1:y < a.Left.aH.aA) (f0:0≤f) (f1:f < a.Left.aE.aG.length) (e:gi a.Left.aE.To f=gi a.ab.aA y):tr a (gi a.Left.aE.aG f) (bk a y f)=f:=by
 have hk:=A.ak y0 y1
 have hl:=A.K2 f0 f1
 have hr:=A.Co hk.1.1 hk.1.2
 have yZ:=A.Co hl.1.1 hl.1.2
 have kf:=A.aC.fr f0 f1
 have hu:=A.au kf.1 kf.2
 have ry:=A.WQ y0 y1
 have xE:=A.au ry.1 ry.2
 have E1:gi a.ab.ae (bk a y f)=gk a.Left.aE.aB (gi a.ab.ae (gi a.Left.ae f)) (gi a.ab.ae (gi a.br y)):=A.WR hl.1.1 hl.1.2 hk.1.1 hk.1.2 (by rw [hl.2.2,hk.2.1,e])
 show gk a.Left.aE.aB (gi a.Unit (gi a.Left.aE.aG f)) (gi a.ab.ae (bk a y f))=f
 rw [E1,← A.aC.assoc _ _ _ hu.1.1 hu.1.2 yZ.1.1 yZ.1.2 hr.1.1 hr.1.2 (by rw [hu.2.2,yZ.2.1,hl.2.1]) (by rw [yZ.2.2,hr.2.1,hl.2.2,hk.2.1,e])]
 have E2:=A.aus f0 f1
 unfold tr at E2
 rw [← E2,A.aC.assoc _ _ _ f0 f1 (by rw [e]; exact xE.1.1) (by rw [e]; exact xE.1.2) hr.1.1 hr.1.2 (by rw [e,xE.2.1]) (by rw [e,xE.2.2,hr.2.1,hk.2.1])]
 have E3:=A.t2 y y0 y1
 unfold tr at E3
 rw [e,E3,← e]
 exact A.aC.Ea f f0 f1
theorem Tq {x g h:Int} (x0:0≤x) (x1:x < a.Left.aE.aA) (g0:0≤g) (g1:g < a.Left.aH.aG.length) (e:gi a.Left.aH.aG g=gi a.Left.aA x) (h0:0≤h) (h1:h < a.Left.aH.aG.length) (e':gi a.Left.aH.To g=gi a.Left.aH.aG h) :
  tr a x (gk a.Left.aH.aB g h)=gk a.Left.aE.aB (tr a x g) (gi a.ab.ae h):=by
 have hu:=A.au x0 x1
 have hr:=A.Co g0 g1
 have gw:=A.Co h0 h1
 unfold tr
 rw [A.WR g0 g1 h0 h1 e',A.aC.assoc _ _ _ hu.1.1 hu.1.2 hr.1.1 hr.1.2 gw.1.1 gw.1.2 (by rw [hu.2.2,hr.2.1,e]) (by rw [hr.2.2,gw.2.1,e'])]
end Adj
section
variable {a b:bN} (A:Adj a) (B:Adj b) (e:a.Left.aH=b.Left.aE)
include A B e
end
end Go.Proofs.YtjdkifckhidlbaaGreat
namespace Go.Proofs.YtjdkifckhidlbaaGreat
open Go Go.Li
set_option linter.unusedVariables false
set_option linter.unusedSectionVars false
def vp (c:aI) (z x u:Int):Prop:=(0≤u∧u < c.aG.length)∧gi c.aG u=z∧gi c.To u=x
structure Uni (f:aP) (y x e:Int):Prop where
 x0:0≤x
 x1:x < f.aE.aA
 l:vp f.aH (gi f.aA x) y e
 ex:∀ z h:Int,0≤z→z < f.aE.aA→vp f.aH (gi f.aA z) y h→∃ u,vp f.aE z x u∧gk f.aH.aB (gi f.ae u) e=h
 un:∀ z u v:Int,vp f.aE z x u→vp f.aE z x v→gk f.aH.aB (gi f.ae u) e=gk f.aH.aB (gi f.ae v) e→u=v
section
variable {f:aP} {xs es HU us:List Int} (hf:gj f=true) (qm:(xs.length:Int)=f.aH.aA) (Ey:(es.length:Int)=f.aH.aA) (vU:HU.length=f.aH.aG.length) (hul:(us.length:Int)=f.aE.aA)
 (hU:∀ y:Int,0≤y→y < f.aH.aA→Uni f y (gi xs y) (gi es y))
 (hA:∀ g:Int,0≤g→g < f.aH.aG.length→vp f.aE (gi xs (gi f.aH.aG g)) (gi xs (gi f.aH.To g)) (gi HU g)∧gk f.aH.aB (gi f.ae (gi HU g)) (gi es (gi f.aH.To g))=gk f.aH.aB (gi es (gi f.aH.aG g)) g)
 (hS:∀ x:Int,0≤x→x < f.aE.aA→vp f.aE x (gi xs (gi f.aA x)) (gi us x)∧gk f.aH.aB (gi f.ae (gi us x)) (gi es (gi f.aA x))=gi f.aH.aJ (gi f.aA x))
include hf qm Ey vU hul hU hA hS
end
end Go.Proofs.YtjdkifckhidlbaaGreat
namespace Go.Proofs.YtjdkifckhidlbaaGreat
open Go Go.Li
set_option linter.unusedVariables false
set_option linter.unusedSectionVars false
structure xV (a:bN):Prop where
 l:ji a.Left
 r:ji a.ab
 u:a.Unit.length≤1048576
 k:a.br.length≤1048576
theorem HQ {c:aI} (C:nq c):kO c=some (zV c):=by
 have o0:=C.o0
 have o8:=C.o8
 have m:=C.m
 have hs:=u5 C
 unfold kO
 rw [A4 o0 (by omega),aF,show cX c=some (c.aG.length:Int) from rfl,aF,A4 (by omega) (by omega),aF,Int.toNat_natCast,A5 hs hs (by rw [cZ]; omega) (by rw [cZ]; omega),aF]; rfl
theorem Ny (n:Nat):ns (n+1)=ns n++[(n:Int)]:=by simp [ns,List.range_succ]
theorem upto {R S:Type} {k:Nat} {n:Nat} (hn:n≤1048576) {body:List Int×Int→Option (Out (List Int×Int) R)} {f:List Int×Int→Option (Out S R)}
  (h:∀ i:Nat,i < n→body (ns i,(i:Int))=some (.norm (ns i++[(i:Int)],((i+1:Nat):Int)))) (last:body (ns n,(n:Int))=some (.exit k (ns n,(n:Int)))) :
  ah (af k (aj body (([]:List Int),(0:Int)))) f=f (ns n,(n:Int)):=by
 refine sa (ns n) (fun i=>(ns i,(i:Int))) rfl (fun i x hx=>?_) (e:=(ns n,(n:Int))) ?_
 ·obtain ⟨rfl,hi⟩:=gh hx
  rw [h i hi,Ny]
 ·rw [cZ]; exact last
theorem HR {c:aI} (C:nq c):dX c=some (zV c):=by
 have o0:=C.o0
 have o8:=C.o8
 have m:=C.m
 have hs:=u5 C
 have a1:∀ i:Nat,i < c.aA.toNat→fY c (ns i) (i:Int)=some (.norm (ns i++[(i:Int)],((i+1:Nat):Int))):=fun i hi=>by
  unfold fY
  rw [aX (by omega),cond_true,cZ,dQ (by omega) (by omega),aF,cH (by omega)]
 have a2:fY c (ns c.aA.toNat) (c.aA.toNat:Int)=some (.exit 0 (ns c.aA.toNat,(c.aA.toNat:Int))):=by
  unfold fY
  rw [bj (by omega),cond_false]
 have b1:∀ i:Nat,i < c.aG.length→fZ c (ns i) (i:Int)=some (.norm (ns i++[(i:Int)],((i+1:Nat):Int))):=fun i hi=>by
  unfold fZ
  rw [aX (by omega),cond_true,cZ,dQ (by omega) (by omega),aF,cH (by omega)]
 have b2:fZ c (ns c.aG.length) (c.aG.length:Int)=some (.exit 2 (ns c.aG.length,(c.aG.length:Int))):=by
  unfold fZ
  rw [bj (by omega),cond_false]
 unfold dX
 rw [upto (n:=c.aA.toNat) (by omega) a1 a2]
 dsimp only
 rw [upto (n:=c.aG.length) (by omega) b1 b2]
 dsimp only
 rw [rq hs hs (by rw [cZ]; omega) (by rw [cZ]; omega),aF]; rfl
theorem DJ {t:cD} (hs:zW t) (fb:gj t.aE=true) (gb:gj t.aH=true) (es:t.aH.aE=t.aE.aE) (et:t.aH.aH=t.aE.aH):fK t.aE t.aH t.bc=some (lh t):=by
 have F:=dj fb
 have G:=dj gb
 have hp:=hs.p
 have fy:=F.ol
 have vU:=F.al
 have cm:=F.c.m
 unfold fK lh w9
 rw [fb,gb,es,et,l4.2 rfl,l4.2 rfl]
 simp only [Bool.true_and]
 by_cases e1:(t.bc.length:Int)=t.aE.aE.aA
 ·rw [ou (by omega),cond_false,xR _ _ (by omega),aF,aF,sN e1,Bool.true_and]
  cases h:n4 t.aE.aH.aG.length t.bc with
  | false=>rfl
  | true=>
   rw [Bool.not_true,cond_false,Bool.true_and]
   have wU:=n7.1 h
   have H:THead t:=⟨F,G,fb,gb,es,et,e1,wU⟩
   rw [sn (n:=t.bc.length) (BF t) (fun x bh=>?_) (by unfold lH; rw [bj (by omega),cond_false])]
   ·unfold yQ
    cases (ns t.bc.length).any (BF t) with
    | true=>rfl
    | false=>
     rw [cond_false,Bool.not_false,Bool.true_and]
     rw [sn (n:=t.aE.aE.aG.length) (fun a=>!(HS t.aE t.aH t.bc a)) (fun a bh=>?_) (by unfold lJ; rw [bj (by omega),cond_false])]
     ·unfold Gp
      cases (ns t.aE.aE.aG.length).any _ <;> rfl
     ·have kf:=F.c.fr (f:=(a:Int)) (by omega) (by omega)
      have kt:=F.c.to (f:=(a:Int)) (by omega) (by omega)
      have ka:=F.ar (a:=(a:Int)) (by omega) (by omega)
      have k1:=H.cp kt.1 kt.2
      have k2:=H.cp kf.1 kf.2
      have k3:=H.WT (a:=(a:Int)) (by omega) (by omega)
      unfold lJ HS
      rw [aX (by omega),cond_true,F.rL (by omega) (by omega),aF,F.c.j3 (by omega) (by omega),aF,H.Je kt.1 kt.2,aF,F.d.thenS ka.1 ka.2 k1.1 k1.2,aF,F.c.iy (by omega) (by omega),aF,H.Je kf.1 kf.2,aF,H.OS (by omega) (by omega),aF,F.d.thenS k2.1 k2.2 k3.1 k3.2,aF,cH (by omega)]
      rfl
   ·have kc:=wU _ (ec (l:=t.bc) (j:=(x:Int)) (by omega) (by omega))
    unfold lH
    rw [aX (by omega),cond_true,cF (by omega) (by omega),aF,F.d.iy kc.1 kc.2,aF,F.tO (by omega) (by omega),aF,aF,F.d.j3 kc.1 kc.2,aF,G.tO (by omega) (by rw [es]; omega),aF,cH (by omega),p3,vI,aF]
    rfl
 ·rw [p8 (by omega),cond_true,aF,cond_true,r5 e1]; rfl
section
variable {a:bN} (hs:xV a)
include hs
theorem DK (F:Gq a.Left):zW (AZ a):=⟨DI F.c,A6 hs.l hs.r,hs.u⟩
theorem DL (F:Gq a.Left):zW (A3 a):=⟨A6 hs.r hs.l,DI F.d,hs.k⟩
omit hs in
theorem half {a:bN} (fb:gj a.Left=true) (gb:gj a.ab=true) (e1:a.Left.aE=a.ab.aH) (e2:a.Left.aH=a.ab.aE) (ub:lh (AZ a)=true) (kb:lh (A3 a)=true) :
  (∀ x:Int,0≤x→x < a.Left.aE.aA→(0≤gi a.Left.aA x∧gi a.Left.aA x < a.Left.aH.aA)∧vp a.Left.aE x (gi a.ab.aA (gi a.Left.aA x)) (gi a.Unit x))∧
  (∀ y:Int,0≤y→y < a.Left.aH.aA→(0≤gi a.ab.aA y∧gi a.ab.aA y < a.Left.aE.aA)∧vp a.Left.aH (gi a.Left.aA (gi a.ab.aA y)) y (gi a.br y)):=by
 have F:=dj fb
 have G:=dj gb
 have N:=rB ub
 have M:=rB kb
 have o1:=F.c.o0
 have o2:=F.d.o0
 refine ⟨fun x x0 x1=>⟨F.ob x0 x1,N.cp x0 x1,(N.pf x x0 x1).trans ?_,(N.pt x x0 x1).trans ?_⟩,fun y y0 y1=>?_⟩
 ·exact w8 x0 (by show x < ((a.Left.aE.aA.toNat:Nat):Int); omega)
 ·exact r6 x0 (by rw [F.ol]; exact x1)
 ·have y2:y < a.ab.aE.aA:=by rw [← e2]; exact y1
  have k:=G.ob y0 y2
  rw [← e1] at k
  refine ⟨k,M.cp (x:=y) y0 y2,(M.pf y y0 y2).trans ?_,(M.pt y y0 y2).trans ?_⟩
  ·exact r6 y0 (by rw [G.ol]; exact y2)
  ·exact w8 y0 (by show y < ((a.Left.aH.aA.toNat:Nat):Int); omega)
end
theorem K3 {f g:aP} (hf:ji f) (hg:ji g):mP f g=some (sD f g):=by
 unfold mP sD
 rw [AY hf.t,aF]
 have e:mz g.aH f.aE=mz f.aE g.aH:=by
  cases h:mz f.aE g.aH with
  | true=>exact l4.2 (l4.1 h).symm
  | false=>
   cases h2:mz g.aH f.aE with
   | false=>rfl
   | true=>rw [l4.2 (l4.1 h2).symm] at h; cases h
 cases h:mz f.aH g.aE with
 | false=>simp only [cond_false,aF,Bool.and_false]; rfl
 | true=>
  rw [cond_true,AY hg.t,aF,aF,e,Bool.and_true]; rfl
theorem Nz {f g:aP} (hf:ji f):mR f g=some (sD f g):=by
 unfold mR sD
 rw [uH hf.s,aF]
 cases h:mz f.aE g.aH with
 | false=>rfl
 | true=>rw [cond_true,uH hf.t,aF,aF,Bool.true_and]; rfl
theorem HT {x y:Int}:(!(x == y))=(y != x):=by
 by_cases h:x=y
 ·rw [h]; simp
 ·rw [r5 h,p8 (fun e=>h e.symm)]; rfl
section
variable {a:bN} (hs:xV a)
include hs
theorem zX:oD a=some (yP a):=by
 unfold oD yP
 rw [DM hs.l,aF]
 cases h1:gj a.Left with
 | false=>rfl
 | true=>
  have F:=dj h1
  simp only [Bool.not_true,cond_false,Bool.true_and]
  rw [DM hs.r,aF]
  cases h2:gj a.ab with
  | false=>rfl
  | true=>
   have G:=dj h2
   simp only [Bool.not_true,cond_false,Bool.true_and]
   rw [K3 hs.l hs.r,aF,aF]
   cases h3:sD a.Left a.ab with
   | false=>rfl
   | true=>
    have hb:=h3
    unfold sD at hb
    rw [Bool.and_eq_true,l4,l4] at hb
    obtain ⟨e1,e2⟩:=hb
    have gi1:=HP F.c
    have gi2:=HP F.d
    have t1:=Gr h1 h2 e2
    have t2:=Gr h2 h1 e1.symm
    have n1:fK (zV a.Left.aE) (tN a.Left a.ab) a.Unit=some (lh (AZ a)):=DJ (t:=AZ a) (DK hs F) gi1 t1 rfl e1.symm
    have n2:fK (tN a.ab a.Left) (zV a.Left.aH) a.br=some (lh (A3 a)):=DJ (t:=A3 a) (DL hs F) t2 gi2 e2 rfl
    simp only [Bool.not_true,cond_false,Bool.true_and]
    rw [HR F.c,aF,DN F.toFHead G.toFHead e2 hs.l hs.r,aF,n1,aF,aF,aF]
    cases h4:lh (AZ a) with
    | false=>rfl
    | true=>
     simp only [Bool.not_true,cond_false,Bool.true_and]
     rw [n1,aF,h4]
     simp only [Bool.not_true,cond_false]
     rw [DN G.toFHead F.toFHead e1.symm hs.r hs.l,aF,HR F.d,aF,n2,aF]
     cases h5:lh (A3 a) with
     | false=>rfl
     | true=>
      obtain ⟨H1,H2⟩:=half h1 h2 e1 e2 h4 h5
      have o1:=F.c.o0
      have o2:=F.d.o0
      have o3:=F.c.o8
      have o4:=F.d.o8
      have ul:=(rB h4).pl
      have kl:=(rB h5).pl
      replace ul:(a.Unit.length:Int)=a.Left.aE.aA:=ul
      replace kl:(a.br.length:Int)=a.Left.aH.aA:=by rw [e2]; exact kl
      simp only [Bool.not_true,cond_false,Bool.true_and]
      show ao (S:=Unit) (ah (af 0 (aj (mQ a) (0:Int))) _)=_
      rw [sn (n:=a.Left.aE.aA.toNat) (BD a) (fun x bh=>?_) (by unfold mQ; rw [bj (by omega),cond_false])]
      ·unfold CV
       cases (ns a.Left.aE.aA.toNat).any (BD a) with
       | true=>rfl
       | false=>
        rw [cond_false,Bool.not_false,Bool.true_and]
        rw [sn (n:=a.Left.aH.aA.toNat) (BE a) (fun y bh=>?_) (by unfold pL; rw [bj (by omega),cond_false])]
        ·unfold CW
         cases (ns a.Left.aH.aA.toNat).any (BE a) <;> rfl
        ·obtain ⟨ro,hk⟩:=H2 (y:Int) (by omega) (by omega)
         obtain ⟨_,hu⟩:=H1 _ ro.1 ro.2
         have gr:0≤gi a.ab.ae (gi a.br y)∧gi a.ab.ae (gi a.br y) < a.Left.aE.aG.length:=by
          have:=G.ar hk.1.1 (by rw [← e2]; exact hk.1.2)
          rwa [← e1] at this
         have gf:gi a.Left.aE.aG (gi a.ab.ae (gi a.br y))=gi a.ab.aA (gi a.Left.aA (gi a.ab.aA y)):=by
          have:=G.fr _ hk.1.1 (by rw [← e2]; exact hk.1.2)
          rw [← e1,← e2,hk.2.1] at this
          exact this
         have cc:=F.c.cell _ _ hu.1.1 hu.1.2 gr.1 gr.2 (by rw [hu.2.2,gf])
         unfold pL
         rw [aX (by omega),cond_true,G.tO (by omega) (by rw [← e2]; omega),aF,cF ro.1 (by omega),aF,cF (by omega) (by omega),aF,G.rL hk.1.1 (by rw [← e2]; exact hk.1.2),aF,F.c.thenS hu.1.1 hu.1.2 gr.1 gr.2,aF]
         have Tr:fO a.Left.aE (gk a.Left.aE.aB (gi a.Unit (gi a.ab.aA y)) (gi a.ab.ae (gi a.br y)))=some (gi a.Left.aE.aJ (gi a.ab.aA y) == tr a (gi a.ab.aA y) (gi a.br y)):=by
          unfold fO
          rw [F.c.iy cc.1 cc.2.1,aF,cc.2.2.1,hu.2.1,F.c.mr ro.1 ro.2,aF]; rfl
         rw [Tr,aF,HT,cH (by omega)]; rfl
      ·obtain ⟨lo,hu⟩:=H1 (x:Int) (by omega) (by omega)
       obtain ⟨_,hk⟩:=H2 _ lo.1 lo.2
       have ga:=F.ar hu.1.1 hu.1.2
       have gf:=F.fr _ hu.1.1 hu.1.2
       have gt:=F.to _ hu.1.1 hu.1.2
       rw [hu.2.1] at gf
       rw [hu.2.2] at gt
       have cc:=F.d.cell _ _ ga.1 ga.2 hk.1.1 hk.1.2 (by rw [gt,hk.2.1])
       unfold mQ
       rw [aX (by omega),cond_true,cF (by omega) (by omega),aF,F.rL hu.1.1 hu.1.2,aF,F.tO (by omega) (by omega),aF,cF lo.1 (by omega),aF,F.d.thenS ga.1 ga.2 hk.1.1 hk.1.2,aF]
       have Tr:fO a.Left.aH (gk a.Left.aH.aB (gi a.Left.ae (gi a.Unit x)) (gi a.br (gi a.Left.aA x)))=some (gi a.Left.aH.aJ (gi a.Left.aA x) == bk a (gi a.Left.aA x) (gi a.Unit x)):=by
        unfold fO
        rw [F.d.iy cc.1 cc.2.1,aF,cc.2.2.1,gf,F.d.mr lo.1 lo.2,aF]; rfl
       rw [Tr,aF,HT,cH (by omega)]; rfl
theorem NB {h1:gj a.Left=true} {h2:gj a.ab=true} (h3:sD a.Left a.ab=true):iK a=some ((lh (AZ a) && lh (A3 a)) && (CV a && CW a)):=by
 have F:=dj h1
 have G:=dj h2
 have hb:=h3
 unfold sD at hb
 rw [Bool.and_eq_true,l4,l4] at hb
 obtain ⟨e1,e2⟩:=hb
 unfold iK
 rw [DO F.toFHead G.toFHead e2 hs.l hs.r,aF,DO G.toFHead F.toFHead e1.symm hs.r hs.l,aF,HQ F.c,aF,HQ F.d,aF]
 have n1:jM [(cD.mk (zV a.Left.aE) (tN a.Left a.ab) a.Unit),(cD.mk (tN a.ab a.Left) (zV a.Left.aH) a.br)]=some ([AZ a,A3 a].all lh):=Jf _ (by simp) fun t ht=>by
  rcases List.mem_cons.1 ht with rfl | ht
  ·exact DK hs F
  ·obtain rfl:=List.mem_singleton.1 ht
   exact DL hs F
 rw [n1,aF]
 simp only [List.all_cons,List.all_nil,Bool.and_true]
 cases h4:lh (AZ a) with
 | false=>rfl
 | true=>
  cases h5:lh (A3 a) with
  | false=>rfl
  | true=>
   obtain ⟨H1,H2⟩:=half h1 h2 e1 e2 h4 h5
   have o1:=F.c.o0
   have o2:=F.d.o0
   have o3:=F.c.o8
   have o4:=F.d.o8
   have ol:=F.ol
   have orl:(a.ab.aA.length:Int)=a.Left.aH.aA:=G.ol.trans (congrArg aI.aA e2.symm)
   have ul:=(rB h4).pl
   have kl:=(rB h5).pl
   replace ul:(a.Unit.length:Int)=a.Left.aE.aA:=ul
   replace kl:(a.br.length:Int)=a.Left.aH.aA:=by rw [e2]; exact kl
   simp only [Bool.not_true,cond_false,Bool.true_and,Bool.and_true]
   rw [sn (n:=a.Left.aE.aA.toNat) (BD a) (fun x bh=>?_) (by unfold jF; rw [bj (by omega),cond_false])]
   ·unfold CV
    cases (ns a.Left.aE.aA.toNat).any (BD a) with
    | true=>rfl
    | false=>
     rw [cond_false,Bool.not_false,Bool.true_and]
     rw [sn (n:=a.Left.aH.aA.toNat) (BE a) (fun y bh=>?_) (by unfold jG; rw [bj (by omega),cond_false])]
     ·unfold CW
      cases (ns a.Left.aH.aA.toNat).any (BE a) <;> rfl
     ·obtain ⟨ro,hk⟩:=H2 (y:Int) (by omega) (by omega)
      obtain ⟨_,hu⟩:=H1 _ ro.1 ro.2
      have gr:0≤gi a.ab.ae (gi a.br y)∧gi a.ab.ae (gi a.br y) < a.Left.aE.aG.length:=by
       have:=G.ar hk.1.1 (by rw [← e2]; exact hk.1.2)
       rwa [← e1] at this
      unfold jG
      rw [aX (by omega),cond_true,cF (by omega) (by omega),aF,cF ro.1 (by omega),aF,cF (by omega) (by omega),aF,G.rL hk.1.1 (by rw [← e2]; exact hk.1.2),aF,F.c.np hu.1.1 hu.1.2 gr.1 gr.2,aF,F.c.mr ro.1 ro.2,aF,cH (by omega)]; rfl
   ·obtain ⟨lo,hu⟩:=H1 (x:Int) (by omega) (by omega)
    obtain ⟨_,hk⟩:=H2 _ lo.1 lo.2
    have ga:=F.ar hu.1.1 hu.1.2
    unfold jF
    rw [aX (by omega),cond_true,cF (by omega) (by omega),aF,cF (by omega) (by omega),aF,F.rL hu.1.1 hu.1.2,aF,cF lo.1 (by omega),aF,F.d.np ga.1 ga.2 hk.1.1 hk.1.2,aF,F.d.mr lo.1 lo.2,aF,cH (by omega)]; rfl
theorem DP:fH a=some (yP a):=by
 unfold fH yP
 rw [A8 _ (by simp) fun t ht=>by
  rcases List.mem_cons.1 ht with rfl | ht
  ·exact hs.l
  ·obtain rfl:=List.mem_singleton.1 ht
   exact hs.r]
 rw [aF]
 simp only [List.all_cons,List.all_nil,Bool.and_true]
 cases h1:gj a.Left with
 | false=>rfl
 | true=>
  cases h2:gj a.ab with
  | false=>rfl
  | true=>
   simp only [Bool.true_and,cond_true]
   rw [Nz hs.l,aF]
   cases h3:sD a.Left a.ab with
   | false=>rfl
   | true=>
    simp only [Bool.true_and,cond_true]
    rw [NB hs (h1:=h1) (h2:=h2) h3]; rfl
end
end Go.Proofs.YtjdkifckhidlbaaGreat
namespace Go.Proofs.YtjdkifckhidlbaaGreat
open Go Go.Li
set_option linter.unusedVariables false
set_option linter.unusedSectionVars false
set_option linter.unusedSimpArgs false
theorem Jg {R:List (List Int)} {k:Int} (k0:0≤k) (k3:k < 3) (hl:R.length≤300000) (h3:∀ r∈R,r.length=3):Ok (iR R k) fun y=>y.length=R.length∧∀ i:Int,0≤i→i < R.length→gi y i=gi (gr R i) k:=by
 unfold iR
 refine jj (ol (fun z:List Int×Int=>(0≤z.2∧z.2≤R.length)∧(z.1.length:Int)=z.2∧∀ i:Int,0≤i→i < z.2→gi z.1 i=gi (gr R i) k) (fun z=>(R.length - z.2).toNat) ⟨⟨by show (0:Int)≤0; omega,by show (0:Int)≤_; omega⟩,rfl,fun i i0 i1=>by dsimp only at i1; omega⟩ ?_)
 rintro ⟨l,i⟩ ⟨⟨i0,i1⟩,K4,hv⟩
 dsimp only at i0 i1 K4 hv
 show Ok (mG R k l i) _
 unfold mG
 refine od (fun hi=>?_) fun hi=>os ⟨rfl,os ⟨by omega,fun j j0 j1=>hv j j0 (by omega)⟩⟩
 have hw:=w1 i0 hi (by omega)
 have h3r:=h3 _ (l7 i0 hi)
 refine oe (lz i0 hi) (oe (cF k0 (by omega)) (dw (by omega) (by omega) (os ⟨⟨⟨?_,?_⟩,?_,fun j j0 j1=>?_⟩,?_⟩)))
 ·dsimp only; rw [hw]; omega
 ·dsimp only; rw [hw]; omega
 ·dsimp only; rw [hw,List.length_append,List.length_singleton]; omega
 ·dsimp only at j1 ⊢
  rw [hw] at j1
  rw [j8 j0]
  by_cases e:j < l.length
  ·rw [if_pos e]; exact hv j j0 (by omega)
  ·rw [if_neg e,if_pos (by omega),show j=i by omega]
 ·dsimp only; rw [hw]; omega
theorem Ts {R:List (List Int)} (key:List Int) (hl:R.length≤300000) (h3:∀ r∈R,r.length=3):Ok (iY R key) fun y=>key∈R→(0≤y∧y < R.length)∧gr R y=key:=by
 unfold iY
 refine jj (ol (fun z:Int=>(0≤z∧z≤R.length)∧∀ i:Int,0≤i→i < z→gr R i≠key) (fun z=>(R.length - z).toNat) ⟨⟨by omega,by omega⟩,fun i i0 i1=>by omega⟩ ?_)
 rintro i ⟨⟨i0,i1⟩,hn⟩
 unfold pU
 refine od (fun hi=>?_) fun hi=>os ⟨rfl,os fun h=>?_⟩
 ·have hw:=w1 i0 hi (by omega)
  have h3r:=h3 _ (l7 i0 hi)
  refine oe (lz i0 hi) (oe (yO _ _ (by omega)) (oc (fun e=>os fun _=>⟨⟨i0,hi⟩,eq_of_beq e⟩) fun e=>os ⟨⟨⟨by rw [hw]; omega,by rw [hw]; omega⟩,fun j j0 j1=>?_⟩,by dsimp only; rw [hw]; omega⟩))
  rw [hw] at j1
  by_cases ej:j=i
  ·rw [ej]
   intro h
   rw [h] at e
   simp at e
  ·exact hn j j0 (by omega)
 ·exfalso
  obtain ⟨j,j0,j1,e⟩:=Tt h
  exact hn j j0 (by omega) e
noncomputable def vq (R:List (List Int)) (key:List Int):Int:=(iY R key).getD (-1)
theorem Gs {R:List (List Int)} (key:List Int) (hl:R.length≤300000) (h3:∀ r∈R,r.length=3):iY R key=some (vq R key)∧(key∈R→(0≤vq R key∧vq R key < R.length)∧gr R (vq R key)=key):=by
 obtain ⟨y,h1,h2⟩:=Ts key hl h3
 have e:vq R key=y:=by unfold vq; rw [h1]; rfl
 rw [e]
 exact ⟨h1,h2⟩
def ze (c:aI) (xs:List Int) (i j h:Int):Prop:=((0≤i∧i < xs.length)∧(0≤j∧j < xs.length))∧(0≤h∧h < c.aG.length)∧gi c.aG h=gi xs i∧gi c.To h=gi xs j
structure Fat (c:aI) (xs:List Int) (R:List (List Int)):Prop where
 n:xs.length≤65
 o:∀ x∈xs,0≤x∧x < c.aA
 l:R.length≤300000
 r:∀ r∈R,∃ i j h,r=[i,j,h]∧ze c xs i j h
 a:∀ i j h,ze c xs i j h→[i,j,h]∈R
namespace Fat
variable {c:aI} {xs:List Int} {R:List (List Int)} (F:Fat c xs R)
include F
theorem three:∀ r∈R,r.length=3:=fun r hr=>by obtain ⟨i,j,h,rfl,_⟩:=F.r r hr; rfl
theorem zY {k:Int} (k0:0≤k) (k1:k < R.length):gr R k=[gi (gr R k) 0,gi (gr R k) 1,gi (gr R k) 2]∧ze c xs (gi (gr R k) 0) (gi (gr R k) 1) (gi (gr R k) 2):=by
 obtain ⟨i,j,h,e,ha⟩:=F.r _ (l7 k0 k1)
 rw [e]
 exact ⟨rfl,ha⟩
theorem NC {i:Int} (i0:0≤i) (i1:i < xs.length):0≤gi xs i∧gi xs i < c.aA:=F.o _ (ec i0 i1)
theorem Cp {i j h:Int} (ha:ze c xs i j h):(0≤vq R [i,j,h]∧vq R [i,j,h] < R.length)∧gr R (vq R [i,j,h])=[i,j,h]:=(Gs _ F.l F.three).2 (F.a i j h ha)
end Fat
structure Tu (c:aI) (xs:List Int) (R:List (List Int)) (d:aI):Prop where
 ob:d.aA=xs.length
 fl:d.aG.length=R.length
 tl:d.To.length=R.length
 il:(d.aJ.length:Int)=xs.length
 kl:d.aB.length=R.length
 f:∀ k:Int,0≤k→k < R.length→gi d.aG k=gi (gr R k) 0
 t:∀ k:Int,0≤k→k < R.length→gi d.To k=gi (gr R k) 1
 i:∀ x:Int,0≤x→x < xs.length→gi d.aJ x=vq R [x,x,gi c.aJ (gi xs x)]
 r:∀ r∈d.aB,r.length=R.length
 k:∀ a b:Int,0≤a→a < R.length→0≤b→b < R.length→gk d.aB a b=if gi (gr R a) 1=gi (gr R b) 0 then vq R [gi (gr R a) 0,gi (gr R b) 1,gk c.aB (gi (gr R a) 2) (gi (gr R b) 2)] else -1
theorem Tv {c d:aI} {xs:List Int} {R:List (List Int)} (T:T7 c) (F:Fat c xs R) (D:Tu c xs R d):Ty d:=by
 have sz:∀ x:Int,0≤x→x < xs.length→ze c xs x x (gi c.aJ (gi xs x)):=fun x x0 x1=>by
  have o:=F.NC x0 x1
  exact ⟨⟨⟨x0,x1⟩,x0,x1⟩,T.t.id o.1 o.2,T.t.vo _ o.1 o.2,T.t.wA _ o.1 o.2⟩
 have hco:∀ a b:Int,0≤a→a < R.length→0≤b→b < R.length→gi (gr R a) 1=gi (gr R b) 0→ze c xs (gi (gr R a) 0) (gi (gr R b) 1) (gk c.aB (gi (gr R a) 2) (gi (gr R b) 2)):=fun a b a0 a1 b0 b1 e=>by
  have A:=(F.zY a0 a1).2
  have B:=(F.zY b0 b1).2
  have k:=T.t.cell _ _ A.2.1.1 A.2.1.2 B.2.1.1 B.2.1.2 (by rw [A.2.2.2,B.2.2.1,e])
  exact ⟨⟨A.1.1,B.1.2⟩,k.1,k.2.1.trans A.2.2.1,k.2.2.trans B.2.2.2⟩
 have fl:=D.fl
 have e0:∀ i j h:Int,gi [i,j,h] 0=i:=fun _ _ _=>rfl
 have e1:∀ i j h:Int,gi [i,j,h] 1=j:=fun _ _ _=>rfl
 have e2:∀ i j h:Int,gi [i,j,h] 2=h:=fun _ _ _=>rfl
 refine ⟨by rw [D.ob]; omega,fun y hy=>?_,by rw [D.tl,D.fl],fun y hy=>?_,by rw [D.kl,D.fl],fun r hr=>by rw [D.r r hr,D.fl],by rw [D.il,D.ob],fun y hy=>?_,fun x x0 x1=>?_,fun x x0 x1=>?_,fun a b a0 a1 b0 b1 e=>?_,fun a b a0 a1 b0 b1 e=>?_,fun x x0 x1=>?_⟩
 ·obtain ⟨i,i0,i1,rfl⟩:=sA hy
  rw [D.f i i0 (by omega),D.ob]
  exact (F.zY i0 (by omega)).2.1.1
 ·obtain ⟨i,i0,i1,rfl⟩:=sA hy
  have:=D.tl
  rw [D.t i i0 (by omega),D.ob]
  exact (F.zY i0 (by omega)).2.1.2
 ·obtain ⟨i,i0,i1,rfl⟩:=sA hy
  have:=D.il
  rw [D.i i i0 (by omega),D.fl]
  exact (F.Cp (sz i i0 (by omega))).1
 ·rw [D.ob] at x1
  have k:=F.Cp (sz x x0 x1)
  rw [D.i x x0 x1,D.f _ k.1.1 k.1.2,k.2]; rfl
 ·rw [D.ob] at x1
  have k:=F.Cp (sz x x0 x1)
  rw [D.i x x0 x1,D.t _ k.1.1 k.1.2,k.2]; rfl
 ·rw [fl] at a1 b1
  rw [D.t a a0 a1,D.f b b0 b1] at e
  have k:=F.Cp (hco a b a0 a1 b0 b1 e)
  rw [D.k a b a0 a1 b0 b1,if_pos e,D.f _ k.1.1 k.1.2,D.t _ k.1.1 k.1.2,k.2,D.f a a0 a1,D.t b b0 b1,fl]
  exact ⟨k.1,rfl,rfl⟩
 ·rw [fl] at a1 b1
  rw [D.t a a0 a1,D.f b b0 b1] at e
  rw [D.k a b a0 a1 b0 b1,if_neg e]
 ·rw [D.ob] at x1
  have o:=F.NC x0 x1
  have k:=F.Cp (sz x x0 x1)
  rw [D.i x x0 x1,D.k _ _ k.1.1 k.1.2 k.1.1 k.1.2,k.2,e0,e1,e2,if_pos rfl,T.t.uu _ o.1 o.2]
theorem Gt {d:aI} (U:Ty d) {a b:Int} (a0:0≤a) (a1:a < d.aG.length) (b0:0≤b) (b1:b < d.aG.length):eK d a b=some (gk d.aB a b):=by
 unfold eK
 rw [U.me a0 a1,aF,U.l3 a0 a1 b0 b1,aF]; rfl
section
variable {x:List Int} (B:zf x) {s:aK} (S:Src x s) {c:aI} (T:T7 c)
include B S T
theorem VI:Ok (pA s c) fun y=>(∃ a b,T7 a∧T7 b∧FF a b y.2.1)∧Src x y.2.2:=by
 have c0:=T.t.o0
 have cm:=T.m
 have co:=T.o
 have hlen:=B.len
 unfold pA
 refine jj (ol (fun z:List Int×Int=>(0≤z.2∧z.2≤c.aA)∧(z.1.length:Int)=z.2∧∀ y∈z.1,0≤y∧y < c.aA) (fun z=>(c.aA - z.2).toNat) ⟨⟨by show (0:Int)≤0; omega,by show (0:Int)≤_; omega⟩,rfl,ju⟩ ?_)
 rintro ⟨l,i⟩ ⟨⟨i0,i1⟩,hl,hv⟩
 dsimp only at i0 i1 hl hv
 show Ok (oP c l i) _
 unfold oP
 refine od (fun hi=>dw (by omega) (by omega) (os ⟨⟨⟨?_,?_⟩,?_,ij hv ⟨i0,hi⟩⟩,?_⟩)) fun hi=>os ⟨rfl,?_⟩
 ·dsimp only; rw [w1 i0 hi (by omega)]; omega
 ·dsimp only; rw [w1 i0 hi (by omega)]; omega
 ·dsimp only; rw [w1 i0 hi (by omega),List.length_append,List.length_singleton]; omega
 ·dsimp only; rw [w1 i0 hi (by omega)]; omega
 refine ob (dn B S _) fun zP K5=>?_
 have n91:=K5.1.2 (by omega)
 have S0:=S.on (h:=zP.2.aq) K5.2
 refine ol (fun z:List Int×Int×Int×Int=>(0≤z.2.1∧z.2.1≤zP.1)∧((z.1.length:Int)≤c.aA+(zP.1 - z.2.1)∧∀ y∈z.1,0≤y∧y < c.aA)∧(0≤z.2.2.1∧z.2.2.1≤x.length)) (fun z=>z.2.1.toNat) ⟨⟨K5.1.1,by show zP.1≤zP.1; omega⟩,⟨by show (l.length:Int)≤c.aA+(zP.1 - zP.1); omega,hv⟩,K5.2.a0,K5.2.a1⟩ ?_
 rintro ⟨xs,k,at_,ha⟩ ⟨⟨k0,k1⟩,⟨qm,OT⟩,t0,t1⟩
 dsimp only at k0 k1 qm OT t0 t1
 show Ok (oQ s c xs k at_ ha) _
 unfold oQ
 have S1:Src x (aK.mk s.Code at_ ha):=S.at_ t0 t1
 refine ob (P:=fun g=>g=true→0 < k∧0 < c.aA) (od (fun h=>os fun h2=>⟨h,of_decide_eq_true h2⟩) fun h=>os fun h2=>(by cases h2)) fun g hg=>oc (fun eg=>?_) fun eg=>os ⟨rfl,?_⟩
 ·obtain ⟨g1,g2⟩:=hg eg
  have hw:an (k - 1)=k - 1:=dM (by omega) (by omega)
  refine ob (dn B S1 _) fun z hz=>dw (by omega) (by omega) (os ⟨⟨⟨?_,?_⟩,⟨?_,ij OT ⟨hz.1.1,hz.1.2 (by omega)⟩⟩,hz.2.a0,hz.2.a1⟩,?_⟩)
  ·dsimp only; rw [hw]; omega
  ·dsimp only; rw [hw]; omega
  ·dsimp only; rw [hw,List.length_append,List.length_singleton]; omega
  ·dsimp only; rw [hw]; omega
 have aaO:xs.length≤65:=by omega
 refine ol (fun z:List (List Int)×Int=>(0≤z.2∧z.2≤xs.length)∧((z.1.length:Int)≤4095 * z.2∧(∀ r∈z.1,∃ i j h,r=[i,j,h]∧ze c xs i j h)∧∀ i j h,i < z.2→ze c xs i j h→[i,j,h]∈z.1)) (fun z=>(xs.length - z.2).toNat) ⟨⟨by show (0:Int)≤0; omega,by show (0:Int)≤_; omega⟩,by show (0:Int)≤4095 * 0; omega,fun r hr=>absurd hr List.not_mem_nil,fun i j h hi ha=>by dsimp only at hi; have:=ha.1.1.1; omega⟩ ?_
 rintro ⟨R,i⟩ ⟨⟨i0,i1⟩,hRl,Tw,Tx⟩
 dsimp only at i0 i1 hRl Tw Tx
 show Ok (oT c xs R i) _
 unfold oT
 refine od (fun hi=>?_) fun hi=>os ⟨rfl,?_⟩
 ·refine ol (fun z:List (List Int)×Int=>(0≤z.2∧z.2≤xs.length)∧((z.1.length:Int)≤4095 * i+63 * z.2∧(∀ r∈z.1,∃ i j h,r=[i,j,h]∧ze c xs i j h)∧∀ i' j h,i' < i∨(i'=i∧j < z.2)→ze c xs i' j h→[i',j,h]∈z.1)) (fun z=>(xs.length - z.2).toNat) ⟨⟨by show (0:Int)≤0; omega,by show (0:Int)≤_; omega⟩,by dsimp only; omega,Tw,fun i' j h hh ha=>Tx i' j h (by dsimp only at hh; have:=ha.1.2.1; omega) ha⟩ ?_
  rintro ⟨R1,j⟩ ⟨⟨j0,j1⟩,aaP,ND,NG⟩
  dsimp only at j0 j1 aaP ND NG
  show Ok (oS c xs i R1 j) _
  unfold oS
  refine od (fun hj=>?_) fun hj=>os ⟨rfl,os ⟨⟨⟨?_,?_⟩,?_,ND,fun i' j' h hh ha=>NG i' j' h ?_ ha⟩,?_⟩⟩
  ·refine oe (cF i0 hi) (oe (cF j0 hj) (ob (Aw T.t.tl (by omega) _ _) fun hm Tz=>?_))
   have Ds:=Tz.1
   refine ol (fun z:List (List Int)×Int=>(0≤z.2∧z.2≤hm.length)∧((z.1.length:Int)≤4095 * i+63 * j+z.2∧(∀ r∈z.1,∃ i j h,r=[i,j,h]∧ze c xs i j h)∧(∀ i' j' h,i' < i∨(i'=i∧j' < j)→ze c xs i' j' h→[i',j',h]∈z.1)∧∀ q:Int,0≤q→q < z.2→[i,j,gi hm q]∈z.1)) (fun z=>(hm.length - z.2).toNat) ⟨⟨by show (0:Int)≤0; omega,by show (0:Int)≤_; omega⟩,by dsimp only; omega,ND,NG,fun q q0 q1=>by dsimp only at q1; omega⟩ ?_
   rintro ⟨R2,q⟩ ⟨⟨q0,q1⟩,aaQ,NH,NI,NJ⟩
   dsimp only at q0 q1 aaQ NH NI NJ
   show Ok (oR i j hm R2 q) _
   unfold oR
   refine od (fun hq=>oe (cF q0 hq) (dw (by omega) (by omega) (os ⟨⟨⟨?_,?_⟩,?_,ij NH ⟨i,j,gi hm q,rfl,⟨⟨⟨i0,hi⟩,j0,hj⟩,(Tz.2 _).1 (ec q0 hq)⟩⟩,fun i' j' h hh ha=>List.mem_append_left _ (NI i' j' h hh ha),fun p p0 p1=>?_⟩,?_⟩))) fun hq=>os ⟨rfl,os ⟨⟨⟨?_,?_⟩,?_,NH,fun i' j' h hh ha=>?_⟩,?_⟩⟩
   ·dsimp only; rw [w1 q0 hq (by omega)]; omega
   ·dsimp only; rw [w1 q0 hq (by omega)]; omega
   ·dsimp only; rw [w1 q0 hq (by omega),List.length_append,List.length_singleton]; omega
   ·dsimp only at p1 ⊢
    rw [w1 q0 hq (by omega)] at p1
    by_cases ep:p=q
    ·rw [ep]; simp
    ·exact List.mem_append_left _ (NJ p p0 (by omega))
   ·dsimp only; rw [w1 q0 hq (by omega)]; omega
   ·dsimp only; rw [w1 j0 hj (by omega)]; omega
   ·dsimp only; rw [w1 j0 hj (by omega)]; omega
   ·dsimp only; rw [w1 j0 hj (by omega)]; omega
   ·dsimp only at hh ⊢
    rw [w1 j0 hj (by omega)] at hh
    by_cases e:i'=i∧j'=j
    ·obtain ⟨rfl,rfl⟩:=e
     have IN:=(Tz.2 h).2 ha.2
     obtain ⟨p,p0,p1,ep⟩:=sA IN
     rw [← ep]
     exact NJ p p0 (by omega)
    ·exact NI i' j' h (by omega) ha
   ·dsimp only; rw [w1 j0 hj (by omega)]; omega
  ·dsimp only; rw [w1 i0 hi (by omega)]; omega
  ·dsimp only; rw [w1 i0 hi (by omega)]; omega
  ·dsimp only; rw [w1 i0 hi (by omega)]; omega
  ·dsimp only at hh
   rw [w1 i0 hi (by omega)] at hh
   have:=ha.1.2.2
   omega
  ·dsimp only; rw [w1 i0 hi (by omega)]; omega
 have F:Fat c xs R:=⟨aaO,OT,by omega,Tw,fun i' j h ha=>Tx i' j h (by have:=ha.1.1.2; omega) ha⟩
 have h3:=F.three
 have hR3:=F.l
 refine ob (Jg (k:=0) (by omega) (by omega) F.l h3) fun ys zF=>ob (Jg (k:=1) (by omega) (by omega) F.l h3) fun zs tT=>?_
 refine ol (fun z:Int×List Int=>(0≤z.1∧z.1≤xs.length)∧(z.2.length:Int)=z.1∧∀ q:Int,0≤q→q < z.1→gi z.2 q=vq R [q,q,gi c.aJ (gi xs q)]) (fun z=>(xs.length - z.1).toNat) ⟨⟨by show (0:Int)≤0; omega,by show (0:Int)≤_; omega⟩,rfl,fun q q0 q1=>by dsimp only at q1; omega⟩ ?_
 rintro ⟨q,ids⟩ ⟨⟨q0,q1⟩,aaR,NK⟩
 dsimp only at q0 q1 aaR NK
 show Ok (oU c xs R q ids) _
 unfold oU
 refine od (fun hq=>?_) fun hq=>os ⟨rfl,?_⟩
 ·have o:=F.NC q0 hq
  refine oe (cF q0 hq) (oe (T.t.mr o.1 o.2) (oe (Gs _ F.l h3).1 (dw (by omega) (by omega) (os ⟨⟨⟨?_,?_⟩,?_,fun p p0 p1=>?_⟩,?_⟩))))
  ·dsimp only; rw [w1 q0 hq (by omega)]; omega
  ·dsimp only; rw [w1 q0 hq (by omega)]; omega
  ·dsimp only; rw [w1 q0 hq (by omega),List.length_append,List.length_singleton]; omega
  ·dsimp only at p1 ⊢
   rw [w1 q0 hq (by omega)] at p1
   rw [j8 p0]
   by_cases e:p < ids.length
   ·rw [if_pos e]; exact NK p p0 (by omega)
   ·rw [if_neg e,if_pos (by omega),show p=q by omega]
  ·dsimp only; rw [w1 q0 hq (by omega)]; omega
 have Fz:∀ K:List (List Int),dR (aI.mk (xs.length:Int) ys zs ids K)=some (decide ((xs.length:Int)≤8) && decide ((R.length:Int)≤40)):=fun K=>by
  unfold dR
  dsimp only
  rw [zF.1]
  by_cases h8:(xs.length:Int)≤8
  ·rw [aX h8,cond_true,aF,Bool.true_and]; rfl
  ·rw [bj h8,cond_false,aF,Bool.false_and]; rfl
 refine ol (fun z:Int×List (List Int)=>(0≤z.1∧z.1≤R.length)∧(z.2.length:Int)=z.1∧(∀ r∈z.2,r.length=R.length)∧∀ a b:Int,0≤a→a < z.1→0≤b→b < R.length→gk z.2 a b=if gi (gr R a) 1=gi (gr R b) 0 then vq R [gi (gr R a) 0,gi (gr R b) 1,gk c.aB (gi (gr R a) 2) (gi (gr R b) 2)] else -1) (fun z=>(R.length - z.1).toNat) ⟨⟨by show (0:Int)≤0; omega,by show (0:Int)≤_; omega⟩,rfl,fun r hr=>absurd hr List.not_mem_nil,fun a b a0 a1=>by dsimp only at a1; omega⟩ ?_
 rintro ⟨a,K⟩ ⟨⟨a0,a1⟩,hKl,OU,TA⟩
 dsimp only at a0 a1 hKl OU TA
 show Ok (oW c xs R ys zs ids a K) _
 unfold oW
 refine ob (P:=fun g=>(g=true→a < R.length)∧(g=false→(decide ((xs.length:Int)≤8) && decide ((R.length:Int)≤40))=false∨a=R.length)) (od (fun h=>oe (Fz K) (os ⟨fun _=>h,fun h2=>.inl h2⟩)) fun h=>os ⟨fun h2=>(by cases h2),fun _=>.inr (by omega)⟩) fun g hg=>oc (fun eg=>?_) fun eg=>os ⟨rfl,?_⟩
 ·have ha:=hg.1 eg
  refine ol (fun z:List Int×Int=>(0≤z.2∧z.2≤R.length)∧(z.1.length:Int)=z.2∧∀ b:Int,0≤b→b < z.2→gi z.1 b=if gi (gr R a) 1=gi (gr R b) 0 then vq R [gi (gr R a) 0,gi (gr R b) 1,gk c.aB (gi (gr R a) 2) (gi (gr R b) 2)] else -1) (fun z=>(R.length - z.2).toNat) ⟨⟨by show (0:Int)≤0; omega,by show (0:Int)≤_; omega⟩,rfl,fun b b0 b1=>by dsimp only at b1; omega⟩ ?_
  rintro ⟨row,b⟩ ⟨⟨b0,b1⟩,yZ,TB⟩
  dsimp only at b0 b1 yZ TB
  show Ok (oV c R a row b) _
  unfold oV
  refine od (fun hb=>?_) fun hb=>os ⟨rfl,dw (by omega) (by omega) (os ⟨⟨⟨?_,?_⟩,?_,ij OU (by omega),fun p b p0 p1 b0 b1=>?_⟩,?_⟩)⟩
  ·have A:=(F.zY a0 ha).2
   have Bw:=(F.zY b0 hb).2
   have la:=h3 _ (l7 a0 ha)
   have lb:=h3 _ (l7 b0 hb)
   have i0':idx (gr R a) 0=some (gi (gr R a) 0):=cF (by omega) (by omega)
   have i1':idx (gr R a) 1=some (gi (gr R a) 1):=cF (by omega) (by omega)
   have i2':idx (gr R a) 2=some (gi (gr R a) 2):=cF (by omega) (by omega)
   have j0':idx (gr R b) 0=some (gi (gr R b) 0):=cF (by omega) (by omega)
   have j1':idx (gr R b) 1=some (gi (gr R b) 1):=cF (by omega) (by omega)
   have j2':idx (gr R b) 2=some (gi (gr R b) 2):=cF (by omega) (by omega)
   have fin:∀ {v:Int},v=(if gi (gr R a) 1=gi (gr R b) 0 then vq R [gi (gr R a) 0,gi (gr R b) 1,gk c.aB (gi (gr R a) 2) (gi (gr R b) 2)] else -1)→∀ {E:List Int×Int→Prop} {G:aI×aP×aK→Prop},Ok (some (Out.norm (row++[v],an (b+1)):Out (List Int×Int) (aI×aP×aK))) (DQ 14 (fun z:List Int×Int=>(0≤z.2∧z.2≤R.length)∧(z.1.length:Int)=z.2∧∀ b:Int,0≤b→b < z.2→gi z.1 b=if gi (gr R a) 1=gi (gr R b) 0 then vq R [gi (gr R a) 0,gi (gr R b) 1,gk c.aB (gi (gr R a) 2) (gi (gr R b) 2)] else -1) (fun z=>(R.length - z.2).toNat) (R.length - b).toNat E G):=by
    intro v hv E G
    have hw:=w1 b0 hb (by omega)
    refine os ⟨⟨⟨?_,?_⟩,?_,fun p p0 p1=>?_⟩,?_⟩
    ·dsimp only; rw [hw]; omega
    ·dsimp only; rw [hw]; omega
    ·dsimp only; rw [hw,List.length_append,List.length_singleton]; omega
    ·dsimp only at p1 ⊢
     rw [hw] at p1
     rw [j8 p0]
     by_cases e:p < row.length
     ·rw [if_pos e]; exact TB p p0 (by omega)
     ·rw [if_neg e,if_pos (by omega),show p=b by omega]; exact hv
    ·dsimp only; rw [hw]; omega
   refine oe (lz a0 ha) (oe i1' (oe (lz b0 hb) (oe j0' (oc (fun e=>?_) fun e=>dw (by omega) (by omega) (fin ?_)))))
   ·have e:=eq_of_beq e
    refine oe (lz a0 ha) (oe i0' (oe (lz b0 hb) (oe j1' (oe (lz a0 ha) (oe i2' (oe (lz b0 hb) (oe j2' (oe (Gt T.t A.2.1.1 A.2.1.2 Bw.2.1.1 Bw.2.1.2) (oe (Gs _ F.l h3).1 (dw (by omega) (by omega) (fin ?_)))))))))))
    rw [if_pos e]
   ·have e : ¬ gi (gr R a) 1=gi (gr R b) 0:=by simpa using e
    rw [if_neg e]
  ·dsimp only; rw [w1 a0 ha (by omega)]; omega
  ·dsimp only; rw [w1 a0 ha (by omega)]; omega
  ·dsimp only; rw [w1 a0 ha (by omega),List.length_append,List.length_singleton]; omega
  ·dsimp only at p1 ⊢
   rw [w1 a0 ha (by omega)] at p1
   unfold gk
   rw [zZ p0]
   by_cases e:p < K.length
   ·rw [if_pos e]; exact TA p b p0 (by omega) b0 b1
   ·rw [if_neg e,show p=a by omega,show a - (K.length:Int)=0 by omega]
    exact TB b b0 (by omega)
  ·dsimp only; rw [w1 a0 ha (by omega)]; omega
 refine oe (Fz K) (oc (fun e=>?_) fun e=>?_)
 ·exact ob (wE T) fun f hf=>os ⟨⟨c,c,T,T,hf.1⟩,S.at_ t0 t1⟩
 ·have e:(decide ((xs.length:Int)≤8) && decide ((R.length:Int)≤40))=true:=by simpa using e
  have haR:a=R.length:=(hg.2 eg).elim (fun h=>by rw [h] at e; cases e) fun h=>h
  rw [Bool.and_eq_true] at e
  have e8:=of_decide_eq_true e.1
  have OG:=of_decide_eq_true e.2
  have D:Tu c xs R (aI.mk (xs.length:Int) ys zs ids K):=⟨rfl,zF.1,tT.1,by show (ids.length:Int)=_; omega,by show K.length=_; omega,zF.2,tT.2,fun q q0 q1=>NK q q0 (by omega),OU,fun p b p0 p1 b0 b1=>TA p b p0 (by omega) b0 b1⟩
  have D7:T7 (aI.mk (xs.length:Int) ys zs ids K):=⟨Tv T F D,by show ys.length≤63; rw [zF.1]; omega,by show (xs.length:Int)≤63; omega,⟨by show ys.length≤_; rw [zF.1]; omega,by show zs.length≤_; rw [tT.1]; omega,by show ids.length≤_; omega,by show K.length≤_; omega,fun r hr=>by rw [OU r hr]; omega⟩⟩
  refine ob (Jg (k:=2) (by omega) (by omega) F.l h3) fun ws OV=>oe (rq D7.s T.s (by omega) (by rw [OV.1]; omega)) (os ⟨⟨_,c,D7,T,rfl,rfl,rfl,OT,⟨?_,fun p p0 p1 _=>?_⟩,fun p p0 p1=>?_⟩,S.at_ t0 t1⟩)
  ·show ws.length=ys.length
   rw [OV.1,zF.1]
  ·replace p1:p < ys.length:=p1
   rw [zF.1] at p1
   have A:=(F.zY p0 p1).2
   show gi ws p < c.aG.length∧gi c.aG (gi ws p)=gi xs (gi ys p)∧gi c.To (gi ws p)=gi xs (gi zs p)
   rw [OV.2 p p0 p1,zF.2 p p0 p1,tT.2 p p0 p1]
   exact ⟨A.2.1.2,A.2.2.1,A.2.2.2⟩
  ·replace p1:p < ys.length:=p1
   rw [zF.1] at p1
   have A:=(F.zY p0 p1).2
   show 0≤gi ws p
   rw [OV.2 p p0 p1]
   exact A.2.1.1
end
end Go.Proofs.YtjdkifckhidlbaaGreat
namespace Go.Proofs.YtjdkifckhidlbaaGreat
open Go Go.Li
set_option linter.unusedVariables false
set_option linter.unusedSectionVars false
set_option linter.unusedSimpArgs false
theorem TC {c:aI} (T:T7 c):jk 63 63 c:=⟨T.t.o0,T.o,T.m,T.t.tl,T.t.il,T.t.kl,T.t.kr⟩
theorem CX {c:aI} (T:T7 c):iI c=some (Cq c):=by
 have c1:=T.m
 have c2:=T.t.tl
 have c3:=T.t.il
 have c4:=T.o
 suffices h:Ok (iI c) fun e=>e=Cq c by
  obtain ⟨y,h1,h2⟩:=h
  rw [h1,h2]
 unfold iI
 refine jj (oe (fw _ (by omega)) (oe (fw _ (by omega)) (oe (fw _ (by omega)) ?_)))
 refine ol (fun z:Int×List (List Int)=>(0≤z.1∧z.1≤c.aG.length)∧z.2=dk z.1.toNat fun f=>dk c.aG.length fun g=>gk c.aB g f) (fun z=>(c.aG.length - z.1).toNat) ⟨⟨by show (0:Int)≤0; omega,by show (0:Int)≤_; omega⟩,rfl⟩ ?_
 rintro ⟨i,k⟩ ⟨⟨i0,i1⟩,hk⟩
 dsimp only at i0 i1 hk
 show Ok (kM c i k) _
 unfold kM
 have AJ:k.length=i.toNat:=by rw [hk,cR]
 refine od (fun hi=>?_) fun hi=>os ⟨rfl,os ?_⟩
 ·refine ol (fun z:List Int×Int=>(0≤z.2∧z.2≤c.aG.length)∧z.1=dk z.2.toNat fun g=>gk c.aB g i) (fun z=>(c.aG.length - z.2).toNat) ⟨⟨by show (0:Int)≤0; omega,by show (0:Int)≤_; omega⟩,rfl⟩ ?_
  rintro ⟨row,j⟩ ⟨⟨j0,j1⟩,bg⟩
  dsimp only at j0 j1 bg
  show Ok (kL c i row j) _
  unfold kL
  have yZ:row.length=j.toNat:=by rw [bg,cR]
  refine od (fun hj=>?_) fun hj=>os ⟨rfl,?_⟩
  ·have hw:=w1 j0 hj (by omega)
   refine oe (T.t.me j0 hj) (oe (T.t.l3 j0 hj i0 hi) (dw (by omega) (by omega) (os ⟨⟨⟨?_,?_⟩,?_⟩,?_⟩)))
   ·dsimp only; rw [hw]; omega
   ·dsimp only; rw [hw]; omega
   ·dsimp only; rw [hw,show (j+1).toNat=j.toNat+1 by omega,n5,bg,show ((j.toNat:Nat):Int)=j by omega]
   ·dsimp only; rw [hw]; omega
  ·have hw:=w1 i0 hi (by omega)
   obtain rfl:j=c.aG.length:=by omega
   refine dw (by omega) (by omega) (os ⟨⟨⟨?_,?_⟩,?_⟩,?_⟩)
   ·dsimp only; rw [hw]; omega
   ·dsimp only; rw [hw]; omega
   ·dsimp only; rw [hw,show (i+1).toNat=i.toNat+1 by omega,n5,hk,show ((i.toNat:Nat):Int)=i by omega,bg,Int.toNat_natCast]
   ·dsimp only; rw [hw]; omega
 ·obtain rfl:i=c.aG.length:=by omega
  rw [hk,Int.toNat_natCast]; rfl
theorem A9 {c:aI} (T:T7 c):T7 (Cq c):=by
 obtain ⟨y,e,h1,h2⟩:=TD (TC T) T.t (by omega) (by omega)
 rw [CX T] at e
 obtain rfl:=Option.some.inj e
 have m:=T.m
 have tl:=T.t.tl
 exact ⟨h2,by show c.To.length≤63; omega,T.o,h1.small (by omega) (by omega)⟩
theorem yR {f:aP} (T:T7 f.aE) (U:T7 f.aH) (ho:f.aA.length≤1048576) (ha:f.ae.length≤1048576):kD f=some (WU f):=by
 unfold kD
 rw [CX T,aF,CX U,aF,rq (A9 T).s (A9 U).s ho ha]; rfl
theorem OX {c d:aI} {f:aP} (T:T7 c) (U:T7 d) (F:FF c d f):FF (Cq c) (Cq d) (WU f):=by
 obtain ⟨s,t,ol_,oo,⟨len,ok⟩,pos⟩:=F
 have tl:=T.t.tl
 refine ⟨by show Cq f.aE=_; rw [s],by show Cq f.aH=_; rw [t],ol_,oo,⟨len.trans tl.symm,fun a a0 a1 h=>?_⟩,fun a a0 a1=>pos a a0 (by replace a1:a < c.To.length:=a1; omega)⟩
 replace a1:a < c.To.length:=a1
 have k:=ok a a0 (by omega) h
 have k1:=k.1
 show gi f.ae a < d.To.length∧_
 exact ⟨by rw [U.t.tl]; exact k1,k.2.2,k.2.1⟩
structure A7 (a:bN):Prop where
 ls:T7 a.Left.aE
 lt:T7 a.Left.aH
 rs:T7 a.ab.aE
 rt:T7 a.ab.aH
 lo:a.Left.aA.length≤1000
 la:a.Left.ae.length≤1000
 ro:a.ab.aA.length≤1000
 ra:a.ab.ae.length≤1000
 u:a.Unit.length≤1000
 k:a.br.length≤1000
theorem A7.small {a:bN} (h:A7 a):xV a:=⟨⟨h.ls.s,h.lt.s,by have:=h.lo; omega,by have:=h.la; omega⟩,⟨h.rs.s,h.rt.s,by have:=h.ro; omega,by have:=h.ra; omega⟩,by have:=h.u; omega,by have:=h.k; omega⟩
theorem TE {a:bN} (h:A7 a):Ok (nU a) A7:=by
 have h1:=h.lo
 have h2:=h.la
 have h3:=h.ro
 have h4:=h.ra
 have h5:=h.u
 have h6:=h.k
 unfold nU
 refine jj (oe (yR h.rs h.rt (by omega) (by omega)) (oe (yR h.ls h.lt (by omega) (by omega)) (oe (fw _ (by omega)) (oe (fw _ (by omega)) (os ?_)))))
 exact ⟨A9 h.rs,A9 h.rt,A9 h.ls,A9 h.lt,h3,h4,h1,h2,h6,h5⟩
section
variable {c d:aI} {f:aP} (T:T7 c) (U:T7 d) (F:FF c d f)
include T U F
theorem TF {x:Int} (x0:0≤x) (x1:x < c.aA):idx f.aA x=some (gi f.aA x)∧0≤gi f.aA x∧gi f.aA x < d.aA:=⟨cF x0 (by rw [F.ol]; exact x1),F.oo _ (ec x0 (by rw [F.ol]; exact x1))⟩
theorem ffa {a:Int} (a0:0≤a) (a1:a < c.aG.length):idx f.ae a=some (gi f.ae a)∧vp d (gi f.aA (gi c.aG a)) (gi f.aA (gi c.To a)) (gi f.ae a):=by
 have p:=F.ar.2 a a0 a1
 have k:=F.ar.1.ok a a0 a1 p
 exact ⟨cF a0 (by rw [F.ar.1.len]; exact a1),⟨p,k.1⟩,k.2⟩
theorem PW (x z e due:Int) (e0:0≤e) (e1:e < d.aG.length):Ok (fG f x z e due) fun l=>l.length≤63∧∀ u∈l,0≤u∧u < c.aG.length:=by
 have cm:=T.m
 unfold fG
 rw [F.s]
 refine jj (ob (Aw T.t.tl (by omega) _ _) fun hm hh=>?_)
 have hl:=hh.1
 refine ol (fun z:List Int×Int=>(0≤z.2∧z.2≤hm.length)∧(z.1.length:Int)≤z.2∧∀ u∈z.1,0≤u∧u < c.aG.length) (fun z=>(hm.length - z.2).toNat) ⟨⟨by show (0:Int)≤0; omega,by show (0:Int)≤_; omega⟩,by show (0:Int)≤0; omega,ju⟩ ?_
 rintro ⟨l,i⟩ ⟨⟨i0,i1⟩,K4,hv⟩
 dsimp only at i0 i1 K4 hv
 show Ok (nC f e due hm l i) _
 unfold nC
 rw [F.t]
 refine od (fun hi=>?_) fun hi=>os ⟨rfl,os ⟨by omega,hv⟩⟩
 have ku:=((hh.2 _).1 (ec i0 hi)).1
 have ka:=ffa T U F ku.1 ku.2
 have hw:=w1 i0 hi (by omega)
 refine oe (cF i0 hi) (oe ka.1 (oe (Gt U.t ka.2.1.1 ka.2.1.2 e0 e1) (oc (fun _=>oe (cF i0 hi) (dw (by omega) (by omega) (os ⟨⟨⟨?_,?_⟩,?_,ij hv ku⟩,?_⟩))) fun _=>os ⟨⟨⟨?_,?_⟩,?_,hv⟩,?_⟩)))
 all_goals (try dsimp only)
 all_goals rw [hw]
 all_goals (try simp only [List.length_append,List.length_singleton])
 all_goals omega
def UP (f:aP) (y x e:Int):Prop:=(0≤x∧x < f.aE.aA)∧vp f.aH (gi f.aA x) y e∧∀ z h:Int,0≤z→z < f.aE.aA→vp f.aH (gi f.aA z) y h→∃ l,fG f z x e h=some l∧l.length=1
theorem G3 (y x e:Int) (e0:0≤e) (e1:e < d.aG.length):Ok (jR f y x e) fun b=>b=true→∀ z h:Int,0≤z→z < c.aA→vp d (gi f.aA z) y h→∃ l,fG f z x e h=some l∧l.length=1:=by
 have cm:=T.m
 have dm:=U.m
 have co:=T.o
 have c0:=T.t.o0
 unfold jR
 refine jj (ol (fun i:Int=>(0≤i∧i≤c.aA)∧∀ z h:Int,0≤z→z < i→vp d (gi f.aA z) y h→∃ l,fG f z x e h=some l∧l.length=1) (fun i=>(c.aA - i).toNat) ⟨⟨by omega,by omega⟩,fun z h z0 z1=>by omega⟩ ?_)
 rintro i ⟨⟨i0,i1⟩,hJ⟩
 unfold nS
 rw [F.s,F.t]
 refine od (fun hi=>?_) fun hi=>os ⟨rfl,os fun _ z h z0 z1=>hJ z h z0 (by omega)⟩
 have ko:=TF T U F i0 hi
 refine oe ko.1 (ob (Aw U.t.tl (by omega) _ _) fun hm hh=>?_)
 have hl:=hh.1
 refine ol (fun q:Int=>(0≤q∧q≤hm.length)∧∀ p:Int,0≤p→p < q→∃ l,fG f i x e (gi hm p)=some l∧l.length=1) (fun q=>(hm.length - q).toNat) ⟨⟨by omega,by omega⟩,fun p p0 p1=>by omega⟩ ?_
 rintro q ⟨⟨q0,q1⟩,hQ⟩
 unfold nR
 refine od (fun hq=>?_) fun hq=>os ⟨rfl,os ⟨⟨⟨?_,?_⟩,fun z h z0 z1 hz=>?_⟩,?_⟩⟩
 ·refine oe (cF q0 hq) ?_
  obtain ⟨l,el,_⟩:=PW T U F i x e (gi hm q) e0 e1
  refine oe el (oc (fun _=>os fun h=>(by cases h)) fun hb=>os ⟨⟨⟨?_,?_⟩,fun p p0 p1=>?_⟩,?_⟩)
  ·rw [w1 q0 hq (by omega)]; omega
  ·rw [w1 q0 hq (by omega)]; omega
  ·rw [w1 q0 hq (by omega)] at p1
   by_cases ep:p=q
   ·refine ⟨l,by rw [ep]; exact el,?_⟩
    have:(l.length:Int)=1:=by simpa using hb
    omega
   ·exact hQ p p0 (by omega)
  ·dsimp only; rw [w1 q0 hq (by omega)]; omega
 ·rw [w1 i0 hi (by omega)]; omega
 ·rw [w1 i0 hi (by omega)]; omega
 ·rw [w1 i0 hi (by omega)] at z1
  by_cases ez:z=i
  ·subst ez
   obtain ⟨p,p0,p1,ep⟩:=sA ((hh.2 h).2 hz)
   rw [← ep]
   exact hQ p p0 (by omega)
  ·exact hJ z h z0 (by omega) hz
 ·dsimp only; rw [w1 i0 hi (by omega)]; omega
theorem TG (y:Int):Ok (nT f y) fun r=>r.2.2=true→UP f y r.1 r.2.1:=by
 have cm:=T.m
 have dm:=U.m
 have co:=T.o
 have c0:=T.t.o0
 unfold nT
 refine jj (ol (fun i:Int=>0≤i∧i≤c.aA) (fun i=>(c.aA - i).toNat) ⟨by omega,by omega⟩ ?_)
 rintro i ⟨i0,i1⟩
 unfold pW
 rw [F.s,F.t]
 refine od (fun hi=>?_) fun hi=>os ⟨rfl,os fun h=>(by cases h)⟩
 have ko:=TF T U F i0 hi
 refine oe ko.1 (ob (Aw U.t.tl (by omega) _ _) fun hm hh=>?_)
 have hl:=hh.1
 refine ol (fun q:Int=>0≤q∧q≤hm.length) (fun q=>(hm.length - q).toNat) ⟨by omega,by omega⟩ ?_
 rintro q ⟨q0,q1⟩
 unfold pV
 refine od (fun hq=>?_) fun hq=>os ⟨rfl,os ⟨⟨?_,?_⟩,?_⟩⟩
 ·have ke:=(hh.2 _).1 (ec q0 hq)
  refine oe (cF q0 hq) (ob (G3 T U F y i (gi hm q) ke.1.1 ke.1.2) fun b hb=>oc (fun eb=>oe (cF q0 hq) (os fun _=>⟨⟨i0,by rw [F.s]; exact hi⟩,by rw [F.t]; exact ke,?_⟩)) fun _=>os ⟨⟨?_,?_⟩,?_⟩)
  ·rw [F.s,F.t]
   exact hb eb
  ·rw [w1 q0 hq (by omega)]; omega
  ·rw [w1 q0 hq (by omega)]; omega
  ·dsimp only; rw [w1 q0 hq (by omega)]; omega
 ·rw [w1 i0 hi (by omega)]; omega
 ·rw [w1 i0 hi (by omega)]; omega
 ·dsimp only; rw [w1 i0 hi (by omega)]; omega
theorem Ax:Ok (iC f) fun r=>r.2=true→A7 r.1:=by
 have cm:=T.m
 have dm:=U.m
 have co:=T.o
 have c0:=T.t.o0
 have d0:=U.t.o0
 have d8:=U.o
 have fs:=F.small T U
 have Oo:=F.ol
 have vU:=F.ar.1.len
 obtain ⟨eS,eT,_⟩:=id F
 unfold iC
 refine jj (ol (fun z:List Int×List Int×Int=>(0≤z.2.2∧z.2.2≤d.aA)∧((z.1.length:Int)=z.2.2∧(z.2.1.length:Int)=z.2.2)∧∀ y:Int,0≤y→y < z.2.2→UP f y (gi z.1 y) (gi z.2.1 y)) (fun z=>(d.aA - z.2.2).toNat) ⟨⟨by show (0:Int)≤0; omega,by show (0:Int)≤_; omega⟩,⟨rfl,rfl⟩,fun y y0 y1=>by dsimp only at y1; omega⟩ ?_)
 rintro ⟨xs,es,y⟩ ⟨⟨y0,y1⟩,⟨hx,he⟩,hU⟩
 dsimp only at y0 y1 hx he hU
 show Ok (nD f xs es y) _
 unfold nD
 rw [eT]
 refine od (fun hy=>ob (TG T U F y) fun r hr=>oc (fun _=>os fun h=>(by cases h)) fun hb=>dw (by omega) (by omega) (dw (by omega) (by omega) (os ⟨⟨⟨?_,?_⟩,⟨?_,?_⟩,fun p p0 p1=>?_⟩,?_⟩))) fun hy=>os ⟨rfl,?_⟩
 ·dsimp only; rw [w1 y0 hy (by omega)]; omega
 ·dsimp only; rw [w1 y0 hy (by omega)]; omega
 ·dsimp only; rw [w1 y0 hy (by omega),List.length_append,List.length_singleton]; omega
 ·dsimp only; rw [w1 y0 hy (by omega),List.length_append,List.length_singleton]; omega
 ·dsimp only at p1 ⊢
  rw [w1 y0 hy (by omega)] at p1
  rw [j8 p0,j8 p0]
  by_cases e:p < xs.length
  ·rw [if_pos e,if_pos (by omega)]; exact hU p p0 (by omega)
  ·rw [if_neg e,if_pos (by omega),if_neg (by omega),if_pos (by omega),show p=y by omega]
   exact hr (by simpa using hb)
 ·dsimp only; rw [w1 y0 hy (by omega)]; omega
 have hyd:y=d.aA:=by omega
 subst hyd
 refine ol (fun z:List Int×Int=>(0≤z.2∧z.2≤d.aG.length)∧(z.1.length:Int)=z.2) (fun z=>(d.aG.length - z.2).toNat) ⟨⟨by show (0:Int)≤0; omega,by show (0:Int)≤_; omega⟩,rfl⟩ ?_
 rintro ⟨HU,g⟩ ⟨⟨g0,g1⟩,hg⟩
 dsimp only at g0 g1 hg
 show Ok (nE f xs es HU g) _
 unfold nE
 rw [eT]
 refine od (fun vl=>?_) fun vl=>os ⟨rfl,?_⟩
 ·have kf:=U.t.fr g0 vl
  have kt:=U.t.to g0 vl
  obtain ⟨a1,a2,a3⟩:=hU _ kf.1 kf.2
  obtain ⟨b1,b2,b3⟩:=hU _ kt.1 kt.2
  rw [eS] at a1 b1
  rw [eT] at a2 b2
  have kc:=U.t.cell _ g a2.1.1 a2.1.2 g0 vl (by rw [a2.2.2])
  obtain ⟨l,el,hl1⟩:=b3 (gi xs (gi d.aG g)) (gk d.aB (gi es (gi d.aG g)) g) a1.1 (by rw [eS]; exact a1.2) (by rw [eT]; exact ⟨kc.1,kc.2.1.trans a2.2.1,kc.2.2⟩)
  refine oe (U.t.iy g0 vl) (oe (U.t.j3 g0 vl) (oe (cF kf.1 (by omega)) (oe (cF kt.1 (by omega)) (oe (cF kt.1 (by omega)) (oe (cF kf.1 (by omega)) (oe (Gt U.t a2.1.1 a2.1.2 g0 vl) (oe el (oe (cF (by omega) (by omega)) (dw (by omega) (by omega) (os ⟨⟨⟨?_,?_⟩,?_⟩,?_⟩))))))))))
  ·dsimp only; rw [w1 g0 vl (by omega)]; omega
  ·dsimp only; rw [w1 g0 vl (by omega)]; omega
  ·dsimp only; rw [w1 g0 vl (by omega),List.length_append,List.length_singleton]; omega
  ·dsimp only; rw [w1 g0 vl (by omega)]; omega
 refine ol (fun z:List Int×Int=>(0≤z.2∧z.2≤c.aA)∧(z.1.length:Int)=z.2) (fun z=>(c.aA - z.2).toNat) ⟨⟨by show (0:Int)≤0; omega,by show (0:Int)≤_; omega⟩,rfl⟩ ?_
 rintro ⟨us,x⟩ ⟨⟨x0,x1⟩,hu⟩
 dsimp only at x0 x1 hu
 show Ok (nF f xs es us x) _
 unfold nF
 rw [eS,eT]
 refine od (fun qm=>?_) fun qm=>os ⟨rfl,?_⟩
 ·have ko:=TF T U F x0 qm
  obtain ⟨a1,a2,a3⟩:=hU _ ko.2.1 ko.2.2
  have ki:=U.t.id ko.2.1 ko.2.2
  obtain ⟨l,el,hl1⟩:=a3 x (gi d.aJ (gi f.aA x)) x0 (by rw [eS]; exact qm) (by rw [eT]; exact ⟨ki,U.t.vo _ ko.2.1 ko.2.2,U.t.wA _ ko.2.1 ko.2.2⟩)
  refine oe ko.1 (oe (cF ko.2.1 (by omega)) (oe (cF ko.2.1 (by omega)) (oe (U.t.mr ko.2.1 ko.2.2) (oe el (oe (cF (by omega) (by omega)) (dw (by omega) (by omega) (os ⟨⟨⟨?_,?_⟩,?_⟩,?_⟩)))))))
  ·dsimp only; rw [w1 x0 qm (by omega)]; omega
  ·dsimp only; rw [w1 x0 qm (by omega)]; omega
  ·dsimp only; rw [w1 x0 qm (by omega),List.length_append,List.length_singleton]; omega
  ·dsimp only; rw [w1 x0 qm (by omega)]; omega
 have own:pB f=some f:=by
  unfold pB
  rw [rq fs.s fs.t fs.o fs.a,aF]; rfl
 refine oe own (oe (rq U.s T.s (by omega) (by omega)) (os fun _=>?_))
 exact ⟨by show T7 f.aE; rw [eS]; exact T,by show T7 f.aH; rw [eT]; exact U,U,T,by show f.aA.length≤1000; omega,by show f.ae.length≤1000; omega,by show xs.length≤1000; omega,by show HU.length≤1000; omega,by show us.length≤1000; omega,by show es.length≤1000; omega⟩
end
section
variable {x:List Int} (B:zf x)
include B
theorem TH {s:aK} (S:Src x s):Ok (nW s) fun y=>A7 y.1∧Src x y.2:=by
 have hlen:=B.len
 unfold nW
 refine jj (ol (fun z:Int×Int×Int=>(0≤z.1∧z.1≤10)∧(0≤z.2.1∧z.2.1≤x.length)) (fun z=>(10 - z.1).toNat) ⟨⟨by show (0:Int)≤0; omega,by show (0:Int)≤10; omega⟩,S.a0,S.a1⟩ ?_)
 rintro ⟨i,a,h⟩ ⟨⟨i0,i1⟩,a0,a1⟩
 dsimp only at i0 i1 a0 a1
 show Ok (nV s i a h) _
 unfold nV
 have S1:Src x (aK.mk s.Code a h):=S.at_ a0 a1
 refine od (fun hi=>?_) fun hi=>os ⟨rfl,?_⟩
 ·have WV:∀ {t:aK} {E:Int×Int×Int→Prop} {G:bN×aK→Prop},Src x t→Ok (some (Out.norm (an (i+1),t.At,t.aq):Out (Int×Int×Int) (bN×aK))) (DQ 0 (fun z:Int×Int×Int=>(0≤z.1∧z.1≤10)∧(0≤z.2.1∧z.2.1≤x.length)) (fun z=>(10 - z.1).toNat) (10 - i).toNat E G):=by
   intro t E G St
   refine os ⟨⟨⟨?_,?_⟩,St.a0,St.a1⟩,?_⟩
   ·dsimp only; rw [w1 i0 hi (by omega)]; omega
   ·dsimp only; rw [w1 i0 hi (by omega)]; omega
   ·dsimp only; rw [w1 i0 hi (by omega)]; omega
  refine ob (z6 B S1 4 10) fun y hy=>?_
  have T:T7 y.1:=xW hy.1 (by omega) (by omega)
  refine ob (OY B (S.on hy.2) T (by omega) (by omega)) fun w hw=>?_
  obtain ⟨⟨d,U,F,_⟩,S2⟩:=hw
  refine ob (dn B (S.on S2) _) fun z hz=>oc (fun _=>?_) fun _=>?_
  ·refine ob (z6 B (S.on hz.2) 3 6) fun y2 FC=>?_
   have T2:T7 y2.1:=xW FC.1 (by omega) (by omega)
   refine ob (VI B (S.on FC.2) T2) fun v hv=>?_
   obtain ⟨⟨ca,da,Ta,Ua,Fa⟩,S3⟩:=hv
   have So:Src x (aK.mk s.Code v.2.2.At v.2.2.aq):=S.on S3
   refine ob (Ax Ta Ua Fa) fun r hr=>oc (fun eb=>os ⟨hr eb,So⟩) fun _=>?_
   have K6:=Fa.small Ta Ua
   refine oe (yR (by rw [Fa.s]; exact Ta) (by rw [Fa.t]; exact Ua) K6.o K6.a) (ob (Ax (A9 Ta) (A9 Ua) (OX Ta Ua Fa)) fun r2 DG=>oc (fun eb=>ob (TE (DG eb)) fun o ho=>os ⟨ho,So⟩) fun _=>WV S3)
  ·have So:Src x (aK.mk s.Code z.2.At z.2.aq):=S.on hz.2
   refine ob (Ax T U F) fun r hr=>oc (fun eb=>os ⟨hr eb,So⟩) fun _=>?_
   have K6:=F.small T U
   refine oe (yR (by rw [F.s]; exact T) (by rw [F.t]; exact U) K6.o K6.a) (ob (Ax (A9 T) (A9 U) (OX T U F)) fun r2 DG=>oc (fun eb=>ob (TE (DG eb)) fun o ho=>os ⟨ho,So⟩) fun _=>WV hz.2)
 ·refine ob (z6 B S1 4 10) fun y hy=>?_
  have T:T7 y.1:=xW hy.1 (by omega) (by omega)
  have tm:=T.m
  have to_:=T.o
  have OZ:=T.t.il
  have So:Src x (aK.mk s.Code y.2.At y.2.aq):=S.on hy.2
  refine ob (wE T) fun f hf=>ob (wE T) fun g hg=>os ⟨?_,So⟩
  have F:=hf.1
  have G:=hg.1
  have h1:=F.ol
  have h2:=F.ar.1.len
  have h3:=G.ol
  have h4:=G.ar.1.len
  exact ⟨by show T7 f.aE; rw [F.s]; exact T,by show T7 f.aH; rw [F.t]; exact T,by show T7 g.aE; rw [G.s]; exact T,by show T7 g.aH; rw [G.t]; exact T,by show f.aA.length≤1000; omega,by show f.ae.length≤1000; omega,by show g.aA.length≤1000; omega,by show g.ae.length≤1000; omega,by show y.1.aJ.length≤1000; omega,by show y.1.aJ.length≤1000; omega⟩
theorem TJ {s:aK} (S:Src x s):Ok (lD s) fun y=>xV y.1∧Src x y.2:=by
 unfold lD
 refine jj (ob (TH B S) fun y hy=>ob (dn B (S.on hy.2) _) fun z hz=>?_)
 have A:=hy.1
 have sm:=A.small
 have h5:=A.u
 have h6:=A.k
 have So:Src x (aK.mk s.Code z.2.At z.2.aq):=S.on hz.2
 refine oc (fun _=>od (fun hu=>oe (fw _ (by omega)) (ob (Eb B So _) fun n hn=>oe (cF (by omega) hu) (os ⟨⟨sm.l,sm.r,?_,sm.k⟩,S.on hn⟩))) fun _=>os ⟨sm,So⟩) fun _=>oc (fun _=>oe (fw _ (by omega)) (dw (by omega) (by omega) (os ⟨⟨sm.l,sm.r,sm.u,?_⟩,So⟩))) fun _=>oc (fun _=>ob (PX B So) fun f hf=>os ⟨⟨hf.1,sm.r,sm.u,sm.k⟩,S.on hf.2⟩) fun _=>os ⟨sm,So⟩
 ·show (List.set _ _ _).length≤_
  rw [List.length_set]; exact sm.u
 ·show (_++[(0:Int)]).length≤_
  rw [List.length_append,List.length_singleton]; omega
theorem TK:Ok (gH x) fun y=>xV y.1:=by
 have hlen:=B.len
 unfold gH
 refine jj (ob (TL B) fun y hy=>?_)
 obtain ⟨s,rfl,S⟩:=hy
 show Ok (lD (aK.mk x s.At s.aq)>>=_) _
 refine ob (TJ B S.K7) fun a ha=>ob (Eb B ha.2.K7 _) fun nx hnx=>ob (Eb B hnx.K7 _) fun ny hny=>ob (Eb B hny.K7 _) fun ng WW=>?_
 have sm:=ha.1
 have dl:=sm.l.t.f
 have TM:∀ (c:aI) (f:Int),gG c f=some (decide (0≤f) && decide (f < c.aG.length)):=fun c f=>by
  unfold gG
  by_cases h:f ≥ 0
  ·rw [aX h,cond_true,aF]; rfl
  ·rw [bj h,cond_false,aF]; rfl
 have obB:∀ (c:aI) (f:Int),fS c f=some (decide (0≤f) && decide (f < c.aA)):=fun c f=>by
  unfold fS
  by_cases h:f ≥ 0
  ·rw [aX h,cond_true,aF]; rfl
  ·rw [bj h,cond_false,aF]; rfl
 refine ol (fun z:Int×Int=>0≤z.2∧z.2≤a.1.Left.aH.aG.length) (fun z=>(a.1.Left.aH.aG.length - z.2).toNat) ⟨by show (0:Int)≤0; omega,by show (0:Int)≤_; omega⟩ ?_
 rintro ⟨g,t⟩ ⟨t0,t1⟩
 dsimp only at t0 t1
 show Ok (iD a nx g t) _
 unfold iD
 refine ob (P:=fun b=>b=true→t < a.1.Left.aH.aG.length) (od (fun ht=>oe (zX sm) (oc (fun hA=>oe (obB _ _) (oc (fun hO=>oe (TM _ _) (oc (fun hR=>?_) fun _=>os fun h=>(by cases h))) fun _=>os fun h=>(by cases h))) fun _=>os fun h=>(by cases h))) fun _=>os fun h=>(by cases h)) fun b hb=>oc (fun eb=>?_) fun _=>os ⟨rfl,?_⟩
 ·have A:=K0 hA
  rw [Bool.and_eq_true] at hO hR
  have o0:=of_decide_eq_true hO.1
  have o1:=of_decide_eq_true hO.2
  exact oe (A.aD.iy (of_decide_eq_true hR.1) (of_decide_eq_true hR.2)) (oe (cF o0 (by rw [(dj A.fb).ol]; exact o1)) (os fun _=>ht))
 ·have ht:=hb eb
  have er:su .rem .i64 (an (g+1)) (a.1.Left.aH.aG.length:Int)=some ((an (g+1)).tmod (a.1.Left.aH.aG.length:Int)):=by
   unfold su
   exact if_neg (by omega)
  refine oe er (os ⟨⟨?_,?_⟩,?_⟩)
  ·dsimp only; rw [w1 t0 ht (by omega)]; omega
  ·dsimp only; rw [w1 t0 ht (by omega)]; omega
  ·dsimp only; rw [w1 t0 ht (by omega)]; omega
 ·refine oe (TM _ _) (oc (fun hR=>?_) fun _=>os sm)
  rw [Bool.and_eq_true] at hR
  have r0:=of_decide_eq_true hR.1
  have r1:=of_decide_eq_true hR.2
  refine ob (dn B WW.K7 _) fun z hz=>od (fun _=>oc (fun e=>?_) fun _=>os sm) fun _=>os sm
  have e:=eq_of_beq e
  exact oe (cF r0 (by omega)) (os sm)
end
end Go.Proofs.YtjdkifckhidlbaaGreat
namespace Go.Proofs.YtjdkifckhidlbaaGreat
open Go Go.Li
set_option linter.unusedVariables false
set_option linter.unusedSectionVars false
set_option linter.unusedSimpArgs false
theorem TN:∀ {K l:List Int},K.Nodup→(∀ y∈K,y∈l)→K.length≤l.length:=by
 intro K
 induction K with
 | nil=>intro l _ _; exact Nat.zero_le _
 | cons a K ih=>
  intro l hn hs
  rw [List.nodup_cons] at hn
  have ha:=hs a (by simp)
  have h2:=ih (l:=l.erase a) hn.2 fun y hy=>(List.mem_erase_of_ne (fun e=>hn.1 (by rw [← e]; exact hy))).2 (hs y (List.mem_cons_of_mem _ hy))
  have h3:=List.length_erase_of_mem ha
  have h4:0 < l.length:=List.length_pos_of_mem ha
  rw [List.length_cons]
  omega
theorem HW {l m:List Int} {F:Int→Int} (hn:l.Nodup) (hF:∀ a∈l,F a∈m) (hi:∀ a∈l,∀ b∈l,F a=F b→a=b):l.length≤m.length:=by
 have:(l.map F).Nodup:=by
  rw [List.Nodup,List.pairwise_map]
  exact (List.Pairwise.and_mem.1 hn).imp fun h e=>h.2.2 (hi _ h.1 _ h.2.1 e)
 have h:=TN this fun y hy=>by
  obtain ⟨a,ha,rfl⟩:=List.mem_map.1 hy
  exact hF a ha
 rwa [List.length_map] at h
structure TO (a:bN) (p q h:Int):Prop where
 A:Adj a
 x:0≤p∧p < a.Left.aE.aA
 y:0≤q∧q < a.Left.aH.aA
 g:0≤h∧h < a.Left.aH.aG.length
 f:gi a.Left.aH.aG h=gi a.Left.aA p
 t:gi a.Left.aH.To h=q
theorem NL (c:aI) (f:Int):gG c f=some (decide (0≤f) && decide (f < c.aG.length)):=by
 unfold gG
 by_cases h:f ≥ 0
 ·rw [aX h,cond_true,aF]; rfl
 ·rw [bj h,cond_false,aF]; rfl
theorem Gu (c:aI) (f:Int):fS c f=some (decide (0≤f) && decide (f < c.aA)):=by
 unfold fS
 by_cases h:f ≥ 0
 ·rw [aX h,cond_true,aF]; rfl
 ·rw [bj h,cond_false,aF]; rfl
theorem NM (n m:Int) (m0:0≤m) (m1:m≤1000000):fP n 0 (an (m - 1))=some (decide (0≤n) && decide (n < m)):=by
 rw [xS,dM (by omega) (by omega)]
 congr 2
 exact decide_eq_decide.2 (by omega)
section
variable {a:bN} (hs:xV a) (A:Adj a)
include hs A
theorem O0 (x y:Int):dY a x y=some (bif (decide (0≤x) && decide (x < a.Left.aE.aA)) && (decide (0≤y) && decide (y < a.Left.aH.aA)) then 0 else 2):=by
 have c0:=A.aC.o0
 have c8:=A.aC.o8
 have d0:=A.aD.o0
 have d8:=A.aD.o8
 unfold dY
 rw [DP hs,aF,K1 A]
 simp only [Bool.not_true,cond_false]
 rw [NM _ _ c0 (by omega),aF]
 cases h:decide (0≤x) && decide (x < a.Left.aE.aA) with
 | false=>rfl
 | true=>
  simp only [Bool.not_true,cond_false]
  rw [NM _ _ d0 (by omega),aF]
  cases decide (0≤y) && decide (y < a.Left.aH.aA) <;> rfl
theorem xX {d:aI} (D:nq d) (x y h:Int) (p q:Int) (at_:Int) (TP:Int→Int→Option Int) :
  eD a x y h d (pD.mk p q) at_ TP=bif !(decide (0≤h) && decide (h < d.aG.length)) then some (0,2) else bif !((gi d.aG h == p) && (gi d.To h == q)) then some (0,5) else (TP at_ h>>=fun v=>some (v,0)):=by
 have dm:=D.m
 unfold eD
 rw [show cX d=some (d.aG.length:Int) from rfl,aF,NM _ _ (by omega) (by omega),aF]
 cases hh:decide (0≤h) && decide (h < d.aG.length) with
 | false=>rfl
 | true=>
  rw [Bool.and_eq_true] at hh
  simp only [Bool.not_true,cond_false]
  rw [Cn D.toqA.toHead (of_decide_eq_true hh.1) (of_decide_eq_true hh.2),aF]
  dsimp only
  cases (gi d.aG h == p) && (gi d.To h == q) with
  | false=>rfl
  | true=>
   simp only [Bool.not_true,cond_false]
   cases TP at_ h <;> rfl
theorem PY {x g:Int} (x0:0≤x) (x1:x < a.Left.aE.aA) (g0:0≤g) (g1:g < a.Left.aH.aG.length):eV a x g=some (tr a x g):=by
 have hu:=A.au x0 x1
 have hr:=A.Co g0 g1
 have ul:=A.WS
 have rl:a.ab.ae.length=a.Left.aH.aG.length:=by rw [(dj A.gb).al,← A.e2]
 unfold eV
 rw [cF x0 (by omega),aF,cF g0 (by omega),aF,A.aC.np hu.1.1 hu.1.2 hr.1.1 hr.1.2,aF]; rfl
theorem PZ {y f:Int} (y0:0≤y) (y1:y < a.Left.aH.aA) (f0:0≤f) (f1:f < a.Left.aE.aG.length):eG a y f=some (bk a y f):=by
 have hk:=A.ak y0 y1
 have hl:=A.K2 f0 f1
 have kl:=A.akl
 unfold eG
 rw [(dj A.fb).rL f0 f1,aF,cF y0 (by omega),aF,A.aD.np hl.1.1 hl.1.2 hk.1.1 hk.1.2,aF]; rfl
theorem P1 {x g:Int} (x0:0≤x) (x1:x < a.Left.aE.aA) (g0:0≤g) (g1:g < a.Left.aH.aG.length):mS a x g=some (tr a x g):=by
 have hu:=A.au x0 x1
 have hr:=A.Co g0 g1
 have ul:=A.WS
 have rl:a.ab.ae.length=a.Left.aH.aG.length:=by rw [(dj A.gb).al,← A.e2]
 unfold mS
 rw [cF x0 (by omega),aF,cF g0 (by omega),aF,A.aC.thenS hu.1.1 hu.1.2 hr.1.1 hr.1.2,aF]; rfl
theorem WX (x y g:Int):∃ r,eR a x y g=some r∧fN a x y g=some r∧(r.2=0→TO a x y g)∧(TO a x y g→r=(tr a x g,0)):=by
 unfold eR fN pR
 rw [O0 hs A,aF,zX hs,aF,K1 A]
 simp only [Bool.not_true,cond_false]
 rw [Gu,aF,Gu,aF,NL,aF]
 cases hx:decide (0≤x) && decide (x < a.Left.aE.aA) with
 | false=>
  refine ⟨(0,2),rfl,rfl,fun h=>(by cases h),fun h=>?_⟩
  rw [aX h.x.1,aX h.x.2] at hx
  cases hx
 | true=>
  cases hy:decide (0≤y) && decide (y < a.Left.aH.aA) with
  | false=>
   refine ⟨(0,2),rfl,rfl,fun h=>(by cases h),fun h=>?_⟩
   rw [aX h.y.1,aX h.y.2] at hy
   cases hy
  | true=>
   rw [Bool.and_eq_true] at hx hy
   have x0:=of_decide_eq_true hx.1
   have x1:=of_decide_eq_true hx.2
   have y0:=of_decide_eq_true hy.1
   have y1:=of_decide_eq_true hy.2
   have e1:idx a.Left.aA x=some (gi a.Left.aA x):=(dj A.fb).tO x0 x1
   simp only [Bool.and_self,cond_true,Bool.not_true,cond_false,aF]
   rw [e1,aF,xX hs A A.aD]
   cases hg:decide (0≤g) && decide (g < a.Left.aH.aG.length) with
   | false=>
    refine ⟨(0,2),rfl,rfl,fun h=>(by cases h),fun h=>?_⟩
    rw [aX h.g.1,aX h.g.2] at hg
    cases hg
   | true=>
    rw [Bool.and_eq_true] at hg
    have g0:=of_decide_eq_true hg.1
    have g1:=of_decide_eq_true hg.2
    simp only [Bool.not_true,cond_false]
    rw [PY hs A x0 x1 g0 g1,P1 hs A x0 x1 g0 g1]
    have f1:=A.aD.iy g0 g1
    have t1:=A.aD.j3 g0 g1
    by_cases ef:gi a.Left.aH.aG g=gi a.Left.aA x
    ·by_cases et:gi a.Left.aH.To g=y
     ·refine ⟨(tr a x g,0),?_,?_,fun _=>⟨A,⟨x0,x1⟩,⟨y0,y1⟩,⟨g0,g1⟩,ef,et⟩,fun _=>rfl⟩
      ·rw [sN ef,sN et]; rfl
      ·show ao (S:=Unit) ((idx a.Left.aH.aG g>>=_)>>=_)=_
       rw [f1,aF,aF,ou ef,cond_false,t1,aF,aF,ou et]; rfl
     ·refine ⟨(0,5),?_,?_,fun h=>(by cases h),fun h=>absurd h.t et⟩
      ·rw [sN ef,r5 et]; rfl
      ·show ao (S:=Unit) ((idx a.Left.aH.aG g>>=_)>>=_)=_
       rw [f1,aF,aF,ou ef,cond_false,t1,aF,aF,p8 et]; rfl
    ·refine ⟨(0,5),?_,?_,fun h=>(by cases h),fun h=>absurd h.f ef⟩
     ·rw [r5 ef]; rfl
     ·show ao (S:=Unit) ((idx a.Left.aH.aG g>>=_)>>=_)=_
      rw [f1,aF,aF,p8 ef,cond_true,aF]; rfl
theorem bkB {x y f:Int} (x0:0≤x) (x1:x < a.Left.aE.aA) (y0:0≤y) (y1:y < a.Left.aH.aA) (f0:0≤f) (f1:f < a.Left.aE.aG.length) (ef:gi a.Left.aE.aG f=x) (et:gi a.Left.aE.To f=gi a.ab.aA y):jN a x y f=some (bk a y f,0):=by
 have rl:(a.ab.aA.length:Int)=a.Left.aH.aA:=(dj A.gb).ol.trans (congrArg aI.aA A.e2.symm)
 unfold jN
 rw [O0 hs A,aF,aX x0,aX x1,aX y0,aX y1]
 simp only [Bool.and_self,cond_true]
 show ao (S:=Unit) (idx a.ab.aA y>>=_)=_
 rw [cF y0 (by omega),aF,xX hs A A.aC,aX f0,aX f1,sN ef,sN et]
 simp only [Bool.and_self,Bool.not_true,cond_false]
 rw [PZ hs A y0 y1 f0 f1]; rfl
end
def K8 (c:aI) (x y:Int):List Int:=(ns c.aG.length).filter (K9 c x y)
theorem s9 {c:aI} {x y h:Int}:h∈K8 c x y↔vp c x y h:=by
 unfold K8 K9 vp
 rw [List.mem_filter,eh,Bool.and_eq_true,beq_iff_eq,beq_iff_eq]
theorem Gv {c:aI} (C:nq c) {x y:Int} (x0:0≤x) (x1:x < c.aA) (y0:0≤y) (y1:y < c.aA):mK c x y=some (K8 c x y,0):=by
 have c8:=C.o8
 have wU:∀ z∈[x,y],0≤z∧z < c.aA:=fun z hz=>by
  rcases List.mem_cons.1 hz with rfl | hz
  ·exact ⟨x0,x1⟩
  ·rw [List.mem_singleton.1 hz]; exact ⟨y0,y1⟩
 unfold mK oE
 rw [Ge (u5 C),aF,Gn C]
 simp only [Bool.not_true,cond_false]
 rw [within _ _ (by simp) C.o0 (by omega),aF,n7.2 wU]
 show ao (S:=Unit) (iG c x y>>=_)=_
 rw [aaS C,aF]; rfl
theorem NN {a:bN} (A:Adj a) {x y:Int} (x0:0≤x) (x1:x < a.Left.aE.aA) (y0:0≤y) (y1:y < a.Left.aH.aA):(K8 a.Left.aH (gi a.Left.aA x) y).length=(K8 a.Left.aE x (gi a.ab.aA y)).length:=by
 refine Nat.le_antisymm (HW (F:=tr a x) w7 (fun g hg=>?_) fun g hg h hh e=>?_) (HW (F:=bk a y) w7 (fun f hf=>?_) fun f hf h hh e=>?_)
 ·have k:=s9.1 hg
  have:=A.Tp x0 x1 k.1.1 k.1.2 k.2.1
  rw [k.2.2] at this
  exact s9.2 this
 ·have k:=s9.1 hg
  have k':=s9.1 hh
  have b1:=A.Jc x0 x1 k.1.1 k.1.2 k.2.1
  have b2:=A.Jc x0 x1 k'.1.1 k'.1.2 k'.2.1
  rw [k.2.2] at b1
  rw [k'.2.2] at b2
  rw [← b1,← b2,e]
 ·have k:=s9.1 hf
  have:=A.aaN y0 y1 k.1.1 k.1.2 k.2.2
  rw [k.2.1] at this
  exact s9.2 this
 ·have k:=s9.1 hf
  have k':=s9.1 hh
  have b1:=A.OR y0 y1 k.1.1 k.1.2 k.2.2
  have b2:=A.OR y0 y1 k'.1.1 k'.1.2 k'.2.2
  rw [k.2.1] at b1
  rw [k'.2.1] at b2
  rw [← b1,← b2,e]
theorem CU {x0:List Int} (hl:x0.length≤maxLen∧∀ y∈x0,0≤y∧y < 256):jU x0=some true:=by
 unfold jU
 have CH:qO x0=some (decide ((x0.length:Int) > 4096)):=rfl
 rw [CH,aF]
 by_cases hb:(x0.length:Int) > 4096
 ·rw [aX hb,cond_true]; rfl
 rw [bj hb,cond_false]
 obtain ⟨q,e,hs⟩:=TK (x:=x0) ⟨by omega,hl.2⟩
 rw [e,aF]
 obtain ⟨a,x,y,g⟩:=q
 dsimp only at hs ⊢
 cases hA:yP a with
 | false=>
  have h1:eR a x y g=some (0,1):=by
   unfold eR dY
   rw [DP hs,aF,hA]; rfl
  have h2:fN a x y g=some (0,1):=by
   unfold fN
   rw [zX hs,aF,hA]; rfl
  rw [h1,aF,h2,aF]; rfl
 | true=>
  have A:=K0 hA
  obtain ⟨r,h1,h2,h3,h4⟩:=WX hs A x y g
  rw [h1,aF,h2,aF,ou rfl,cond_false,aF,ou rfl,cond_false]
  by_cases hr:r.2=0
  ·have K:=h3 hr
   rw [h4 K]
   obtain ⟨_,hx,hy,hg,ef,et⟩:=K
   dsimp only
   rw [ou rfl,cond_false]
   have T:=A.Tp hx.1 hx.2 hg.1 hg.2 ef
   rw [et] at T
   have BV:bk a y (tr a x g)=g:=by
    have:=A.Jc hx.1 hx.2 hg.1 hg.2 ef
    rwa [et] at this
   rw [bkB hs A hx.1 hx.2 hy.1 hy.2 T.1.1 T.1.2 T.2.1 T.2.2,aF,BV]
   dsimp only
   rw [ou rfl,cond_false,aF,ou rfl,cond_false]
   have lo:=A.WO hx.1 hx.2
   have ro:=A.WQ hy.1 hy.2
   have rl:(a.ab.aA.length:Int)=a.Left.aH.aA:=(dj A.gb).ol.trans (congrArg aI.aA A.e2.symm)
   rw [(dj A.fb).tO hx.1 hx.2,aF,Gv A.aD lo.1 lo.2 hy.1 hy.2,aF,cF hy.1 (by omega),aF,Gv A.aC hx.1 hx.2 ro.1 ro.2,aF]
   dsimp only
   rw [ou rfl,cond_false,cond_false,aF,NN A hx.1 hx.2 hy.1 hy.2,ou rfl,cond_false]
   have dm:=A.aD.m
   rw [sn (n:=a.Left.aH.aG.length) (fun _=>false) (y:=false) (fun b bh=>?_) (by unfold kK; dsimp only; rw [bj (by omega),cond_false])]
   ·rw [show (ns a.Left.aH.aG.length).any (fun _=>false)=false from fi.2 fun _ _ _=>rfl]; rfl
   ·unfold kK
    dsimp only
    rw [aX (by omega),cond_true,A.aD.iy (by omega) (by omega),aF,cH (by omega)]
    by_cases eb:gi a.Left.aH.aG (b:Int)=y
    ·have kc:=A.aD.cell g (b:Int) hg.1 hg.2 (by omega) (by omega) (by rw [et,eb])
     obtain ⟨r2,q1,_,_,q4⟩:=WX hs A x (gi a.Left.aH.To (b:Int)) (gk a.Left.aH.aB g (b:Int))
     have kt:=A.aD.to (f:=(b:Int)) (by omega) (by omega)
     have DG:=q4 ⟨A,hx,kt,⟨kc.1,kc.2.1⟩,kc.2.2.1.trans ef,kc.2.2.2⟩
     have WY:=A.Co (g:=(b:Int)) (by omega) (by omega)
     rw [ou eb,cond_false,A.aD.j3 (by omega) (by omega),aF,A.aD.me hg.1 hg.2,aF,A.aD.l3 hg.1 hg.2 (by omega) (by omega),aF,q1,aF,DG]
     dsimp only
     have al:a.ab.ae.length=a.Left.aH.aG.length:=by rw [(dj A.gb).al,← A.e2]
     rw [ou rfl,cond_false,A.aC.me T.1.1 T.1.2,aF,cF (by omega) (by omega),aF,A.aC.l3 T.1.1 T.1.2 WY.1.1 WY.1.2,aF,A.Tq hx.1 hx.2 hg.1 hg.2 ef (by omega) (by omega) (by rw [et,eb]),ou rfl,aF,cond_false]
    ·rw [p8 eb,cond_true]; rfl
  ·rw [p8 hr,cond_true]; rfl
end Go.Proofs.YtjdkifckhidlbaaGreat
