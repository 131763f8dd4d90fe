/- Adjunctions: units and counits as natural transformations, the laws of triangles; transposing there and back; composites. No condition beside those that each theorem names. -/
import Derived.Test.YtjdkifckhidlbaaGreatYk
import Derived.Test.YtjdkifckhidlbaaGreatUr
import Derived.Test.YtjdkifckhidlbaaGreatYn
import Derived.Test.YtjdkifckhidlbaaGreatVw
namespace Go.Proofs.YtjdkifckhidlbaaGreat
open Go Go.Li
set_option linter.unusedVariables false
set_option linter.unusedSectionVars false
def vh (c:aI):aO:=aO.mk c c (ns c.aA.toNat) (ns c.aH.length)
theorem KQ {c:aI} (C:nr c):gn (vh c)=true:=by
 have o0:=C.o0
 have hO:∀ y:Int,0≤y→y < c.aA→gi (ns c.aA.toNat) y=y:=fun y y0 y1=>xF y0 (by omega)
 have hA:∀ a:Int,0≤a→a < c.aH.length→gi (ns c.aH.length) a=a:=fun a a0 a1=>xF a0 a1
 refine Jb (f:=vh c) (E5 C) (E5 C) (by show ((ns c.aA.toNat).length:Int)=c.aA; rw [dC]; omega) (dC _) (fun y hy=>?_) (fun y hy=>gq.1 hy) (fun a a0 a1=>?_) (fun a a0 a1=>?_) (fun y y0 y1=>?_) fun a b a0 a1 b0 b1 e=>?_
 ·have:=gq.1 hy
  show 0≤y∧y < c.aA
  omega
 ·have k:=C.fr a0 a1
  show gi c.aH (gi (ns c.aH.length) a)=gi (ns c.aA.toNat) (gi c.aH a)
  rw [hA a a0 a1,hO _ k.1 k.2]
 ·have k:=C.to a0 a1
  show gi c.To (gi (ns c.aH.length) a)=gi (ns c.aA.toNat) (gi c.To a)
  rw [hA a a0 a1,hO _ k.1 k.2]
 ·have k:=C.id (x:=y) y0 y1
  show gi (ns c.aH.length) (gi c.aJ y)=gi c.aJ (gi (ns c.aA.toNat) y)
  rw [hA _ k.1 k.2,hO y y0 y1]
 ·have k:=C.cell a b a0 a1 b0 b1 e
  show gi (ns c.aH.length) (gk c.aE a b)=gk c.aE (gi (ns c.aH.length) a) (gi (ns c.aH.length) b)
  rw [hA _ k.1 k.2.1,hA a a0 a1,hA b b0 b1]
theorem GH {c:aI} (C:nr c):jo (vh c):=by
 have o0:=C.o0
 have o8:=C.o8
 have m:=C.m
 exact ⟨vi C,vi C,by show (ns _).length≤_; rw [dC]; omega,by show (ns _).length≤_; rw [dC]; omega⟩
theorem Jc {l:List Int} {n:Nat} (h:∀ x∈l,0≤x∧x < n):thenS l (ns n)=l:=by
 refine Ck (fc _ _) fun x x0 x1=>?_
 have k:=h _ (fj x0 x1)
 rw [dv x0 x1,xF k.1 k.2]
theorem Dp {l m n:List Int} (h:∀ x∈l,0≤x∧x < m.length):thenS (thenS l m) n=thenS l (thenS m n):=by
 refine Ck (by rw [fc,fc,fc]) fun x x0 x1=>?_
 rw [fc] at x1
 have k:=h _ (fj x0 x1)
 rw [dv x0 (by rw [fc]; exact x1),dv x0 x1,dv x0 x1,dv k.1 k.2]
theorem GI {f:aO} (F:Cm f):ec f (vh f.aF)=f:=by
 have o0:=F.d.o0
 show aO.mk f.aB f.aF (thenS f.aA (ns f.aF.aA.toNat)) (thenS f.ae (ns f.aF.aH.length))=f
 rw [Jc (fun x hx=>by have:=F.oo x hx; omega),Jc F.aa]
theorem wN {f g h:aO} (F:Cm f) (G:Cm g) (e:f.aF=g.aB):ec (ec f g) h=ec f (ec g h):=by
 show aO.mk f.aB h.aF (thenS (thenS f.aA g.aA) h.aA) (thenS (thenS f.ae g.ae) h.ae)=aO.mk f.aB h.aF (thenS f.aA (thenS g.aA h.aA)) (thenS f.ae (thenS g.ae h.ae))
 have h1:∀ x∈f.aA,0≤x∧x < g.aA.length:=fun x hx=>by
  have:=F.oo x hx
  have k:=G.ol
  rw [e] at this
  omega
 have h2:∀ x∈f.ae,0≤x∧x < g.ae.length:=fun x hx=>by
  have:=F.aa x hx
  have k:=G.al
  rw [e] at this
  omega
 rw [Dp h1,Dp h2]
def wZ (a:aS):bZ:=bZ.mk (vh a.Left.aB) (ec a.Left a.ab) a.Unit
def w4 (a:aS):bZ:=bZ.mk (ec a.ab a.Left) (vh a.Left.aF) a.ba
def tr (a:aS) (x g:Int):Int:=gk a.Left.aB.aE (gi a.Unit x) (gi a.ab.ae g)
def bk (a:aS) (y f:Int):Int:=gk a.Left.aF.aE (gi a.Left.ae f) (gi a.ba y)
def DU (a:aS) (x:Int):Bool:=bk a (gi a.Left.aA x) (gi a.Unit x) != gi a.Left.aF.aJ (gi a.Left.aA x)
def DV (a:aS) (y:Int):Bool:=tr a (gi a.ab.aA y) (gi a.ba y) != gi a.Left.aB.aJ (gi a.ab.aA y)
def FK (a:aS):Bool:=!((ns a.Left.aB.aA.toNat).any (DU a))
def FL (a:aS):Bool:=!((ns a.Left.aF.aA.toNat).any (DV a))
def uK (f g:aO):Bool:=oh f.aB g.aF && oh f.aF g.aB
def yE (a:aS):Bool:=(gn a.Left && gn a.ab) && (uK a.Left a.ab && ((jz (wZ a) && jz (w4 a)) && (FK a && FL a)))
structure Adj (a:aS):Prop where
 fb:gn a.Left=true
 gb:gn a.ab=true
 e1:a.Left.aB=a.ab.aF
 e2:a.Left.aF=a.ab.aB
 ub:jz (wZ a)=true
 kb:jz (w4 a)=true
 t1:∀ x:Int,0≤x→x < a.Left.aB.aA→bk a (gi a.Left.aA x) (gi a.Unit x)=gi a.Left.aF.aJ (gi a.Left.aA x)
 t2:∀ y:Int,0≤y→y < a.Left.aF.aA→tr a (gi a.ab.aA y) (gi a.ba y)=gi a.Left.aB.aJ (gi a.ab.aA y)
theorem Je {a:aS} (h:yE a=true):Adj a:=by
 unfold yE uK FK FL at h
 simp only [Bool.and_eq_true,jy,Bool.not_eq_true',ei] at h
 obtain ⟨⟨h1,h2⟩,⟨h3,h4⟩,⟨h5,h6⟩,h7,h8⟩:=h
 refine ⟨h1,h2,h3,h4,h5,h6,fun x x0 x1=>?_,fun y y0 y1=>?_⟩
 ·have:=h7 x x0 (by omega)
  unfold DU at this
  simpa using this
 ·have:=h8 y y0 (by omega)
  unfold DV at this
  simpa using this
theorem yF {a:aS} (A:Adj a):yE a=true:=by
 have o1:=(bp A.fb).c.o0
 have o2:=(bp A.fb).d.o0
 unfold yE uK FK FL
 simp only [Bool.and_eq_true,jy,Bool.not_eq_true',ei]
 refine ⟨⟨A.fb,A.gb⟩,⟨A.e1,A.e2⟩,⟨A.ub,A.kb⟩,fun x x0 x1=>?_,fun y y0 y1=>?_⟩
 ·unfold DU
  rw [A.t1 x x0 (by omega)]; simp
 ·unfold DV
  rw [A.t2 y y0 (by omega)]; simp
namespace Adj
variable {a:aS} (A:Adj a)
include A
theorem aC:nr a.Left.aB:=(bp A.fb).c
theorem aD:nr a.Left.aF:=(bp A.fb).d
theorem KR {x:Int} (x0:0≤x) (x1:x < a.Left.aB.aA):0≤gi a.Left.aA x∧gi a.Left.aA x < a.Left.aF.aA:=(bp A.fb).ob x0 x1
theorem E6 {f:Int} (f0:0≤f) (f1:f < a.Left.aB.aH.length):(0≤gi a.Left.ae f∧gi a.Left.ae f < a.Left.aF.aH.length)∧gi a.Left.aF.aH (gi a.Left.ae f)=gi a.Left.aA (gi a.Left.aB.aH f)∧gi a.Left.aF.To (gi a.Left.ae f)=gi a.Left.aA (gi a.Left.aB.To f):=
 ⟨(bp A.fb).ar f0 f1,(bp A.fb).fr f f0 f1,(bp A.fb).to f f0 f1⟩
theorem KS {y:Int} (y0:0≤y) (y1:y < a.Left.aF.aA):0≤gi a.ab.aA y∧gi a.ab.aA y < a.Left.aB.aA:=by
 have:=(bp A.gb).ob (x:=y) y0 (by rw [← A.e2]; exact y1)
 rwa [← A.e1] at this
theorem Dq {g:Int} (g0:0≤g) (g1:g < a.Left.aF.aH.length):(0≤gi a.ab.ae g∧gi a.ab.ae g < a.Left.aB.aH.length)∧gi a.Left.aB.aH (gi a.ab.ae g)=gi a.ab.aA (gi a.Left.aF.aH g)∧gi a.Left.aB.To (gi a.ab.ae g)=gi a.ab.aA (gi a.Left.aF.To g):=by
 have G:=bp A.gb
 have k:g < a.ab.aB.aH.length:=by rw [← A.e2]; exact g1
 have h1:=G.ar g0 k
 have h2:=G.fr g g0 k
 have h3:=G.to g g0 k
 rw [← A.e1] at h1 h2 h3
 rw [← A.e2] at h2 h3
 exact ⟨h1,h2,h3⟩
theorem Ko {f g:Int} (f0:0≤f) (f1:f < a.Left.aB.aH.length) (g0:0≤g) (g1:g < a.Left.aB.aH.length) (e:gi a.Left.aB.To f=gi a.Left.aB.aH g):gi a.Left.ae (gk a.Left.aB.aE f g)=gk a.Left.aF.aE (gi a.Left.ae f) (gi a.Left.ae g):=(bp A.fb).co f g f0 f1 g0 g1 e
theorem arc {f g:Int} (f0:0≤f) (f1:f < a.Left.aF.aH.length) (g0:0≤g) (g1:g < a.Left.aF.aH.length) (e:gi a.Left.aF.To f=gi a.Left.aF.aH g):gi a.ab.ae (gk a.Left.aF.aE f g)=gk a.Left.aB.aE (gi a.ab.ae f) (gi a.ab.ae g):=by
 have:=(bp A.gb).co f g f0 (by rw [← A.e2]; exact f1) g0 (by rw [← A.e2]; exact g1) (by rw [← A.e2]; exact e)
 rwa [← A.e2,← A.e1] at this
theorem KT:(a.Unit.length:Int)=a.Left.aB.aA:=(np A.ub).pl
theorem SS:(a.ba.length:Int)=a.Left.aF.aA:=by
 have:=(np A.kb).pl
 exact this.trans (congrArg aI.aA A.e2.symm)
theorem au {x:Int} (x0:0≤x) (x1:x < a.Left.aB.aA):(0≤gi a.Unit x∧gi a.Unit x < a.Left.aB.aH.length)∧gi a.Left.aB.aH (gi a.Unit x)=x∧gi a.Left.aB.To (gi a.Unit x)=gi a.ab.aA (gi a.Left.aA x):=by
 have N:=np A.ub
 have o0:=A.aC.o0
 refine ⟨N.cp x0 x1,(N.pf x x0 x1).trans ?_,(N.pt x x0 x1).trans ?_⟩
 ·exact xF x0 (by show x < ((a.Left.aB.aA.toNat:Nat):Int); omega)
 ·exact dv x0 (by rw [(bp A.fb).ol]; exact x1)
theorem ak {y:Int} (y0:0≤y) (y1:y < a.Left.aF.aA):(0≤gi a.ba y∧gi a.ba y < a.Left.aF.aH.length)∧gi a.Left.aF.aH (gi a.ba y)=gi a.Left.aA (gi a.ab.aA y)∧gi a.Left.aF.To (gi a.ba y)=y:=by
 have N:=np A.kb
 have o0:=A.aD.o0
 have y2:y < a.ab.aB.aA:=by rw [← A.e2]; exact y1
 refine ⟨N.cp (x:=y) y0 y2,(N.pf y y0 y2).trans ?_,(N.pt y y0 y2).trans ?_⟩
 ·exact dv y0 (by rw [(bp A.gb).ol]; exact y2)
 ·exact xF y0 (by show y < ((a.Left.aF.aA.toNat:Nat):Int); omega)
theorem aus {f:Int} (f0:0≤f) (f1:f < a.Left.aB.aH.length):gk a.Left.aB.aE f (gi a.Unit (gi a.Left.aB.To f))=tr a (gi a.Left.aB.aH f) (gi a.Left.ae f):=by
 have N:=(np A.ub).sq f f0 f1
 have e1:gi (ns a.Left.aB.aH.length) f=f:=xF f0 f1
 have e2:gi (thenS a.Left.ae a.ab.ae) f=gi a.ab.ae (gi a.Left.ae f):=dv f0 (by rw [(bp A.fb).al]; exact f1)
 have N':gk a.Left.aB.aE (gi (ns a.Left.aB.aH.length) f) (gi a.Unit (gi a.Left.aB.To f))=gk a.Left.aB.aE (gi a.Unit (gi a.Left.aB.aH f)) (gi (thenS a.Left.ae a.ab.ae) f):=N
 rw [e1,e2] at N'
 exact N'
theorem aks {g:Int} (g0:0≤g) (g1:g < a.Left.aF.aH.length):bk a (gi a.Left.aF.To g) (gi a.ab.ae g)=gk a.Left.aF.aE (gi a.ba (gi a.Left.aF.aH g)) g:=by
 have g2:g < a.ab.aB.aH.length:=by rw [← A.e2]; exact g1
 have N:=(np A.kb).sq g g0 g2
 have e1:gi (ns a.Left.aF.aH.length) g=g:=xF g0 g1
 have e2:gi (thenS a.ab.ae a.Left.ae) g=gi a.Left.ae (gi a.ab.ae g):=dv g0 (by rw [(bp A.gb).al]; exact g2)
 have N':gk a.Left.aF.aE (gi (thenS a.ab.ae a.Left.ae) g) (gi a.ba (gi a.ab.aB.To g))=gk a.Left.aF.aE (gi a.ba (gi a.ab.aB.aH g)) (gi (ns a.Left.aF.aH.length) g):=N
 rw [e1,e2,← A.e2] at N'
 exact N'
theorem XD {x g:Int} (x0:0≤x) (x1:x < a.Left.aB.aA) (g0:0≤g) (g1:g < a.Left.aF.aH.length) (e:gi a.Left.aF.aH g=gi a.Left.aA x) :
  (0≤tr a x g∧tr a x g < a.Left.aB.aH.length)∧gi a.Left.aB.aH (tr a x g)=x∧gi a.Left.aB.To (tr a x g)=gi a.ab.aA (gi a.Left.aF.To g):=by
 have hu:=A.au x0 x1
 have hr:=A.Dq g0 g1
 have:=A.aC.cell _ _ hu.1.1 hu.1.2 hr.1.1 hr.1.2 (by rw [hu.2.2,hr.2.1,e])
 exact ⟨⟨this.1,this.2.1⟩,this.2.2.1.trans hu.2.1,this.2.2.2.trans hr.2.2⟩
theorem aeW {y f:Int} (y0:0≤y) (y1:y < a.Left.aF.aA) (f0:0≤f) (f1:f < a.Left.aB.aH.length) (e:gi a.Left.aB.To f=gi a.ab.aA y) :
  (0≤bk a y f∧bk a y f < a.Left.aF.aH.length)∧gi a.Left.aF.aH (bk a y f)=gi a.Left.aA (gi a.Left.aB.aH f)∧gi a.Left.aF.To (bk a y f)=y:=by
 have hk:=A.ak y0 y1
 have hl:=A.E6 f0 f1
 have:=A.aD.cell _ _ hl.1.1 hl.1.2 hk.1.1 hk.1.2 (by rw [hk.2.1,hl.2.2,e])
 exact ⟨⟨this.1,this.2.1⟩,this.2.2.1.trans hl.2.1,this.2.2.2.trans hk.2.2⟩
theorem aak {x g:Int} (x0:0≤x) (x1:x < a.Left.aB.aA) (g0:0≤g) (g1:g < a.Left.aF.aH.length) (e:gi a.Left.aF.aH g=gi a.Left.aA x):bk a (gi a.Left.aF.To g) (tr a x g)=g:=by
 have hu:=A.au x0 x1
 have hr:=A.Dq g0 g1
 have hl:=A.E6 hu.1.1 hu.1.2
 have SU:=A.E6 hr.1.1 hr.1.2
 have kt:=A.aD.to g0 g1
 have hk:=A.ak kt.1 kt.2
 have lx:=A.KR x0 x1
 have Gq:=A.ak lx.1 lx.2
 have E1:gi a.Left.ae (tr a x g)=gk a.Left.aF.aE (gi a.Left.ae (gi a.Unit x)) (gi a.Left.ae (gi a.ab.ae g)):=A.Ko hu.1.1 hu.1.2 hr.1.1 hr.1.2 (by rw [hu.2.2,hr.2.1,e])
 show gk a.Left.aF.aE (gi a.Left.ae (tr a x g)) (gi a.ba (gi a.Left.aF.To g))=g
 rw [E1,A.aD.assoc _ _ _ hl.1.1 hl.1.2 SU.1.1 SU.1.2 hk.1.1 hk.1.2 (by rw [hl.2.2,SU.2.1,hu.2.2,hr.2.1,e]) (by rw [SU.2.2,hk.2.1,hr.2.2])]
 have E2:=A.aks g0 g1
 unfold bk at E2
 rw [E2,← A.aD.assoc _ _ _ hl.1.1 hl.1.2 (by rw [e]; exact Gq.1.1) (by rw [e]; exact Gq.1.2) g0 g1 (by rw [hl.2.2,e,Gq.2.1,hu.2.2]) (by rw [e,Gq.2.2])]
 have E3:=A.t1 x x0 x1
 unfold bk at E3
 rw [e,E3,← e]
 exact A.aD.CZ g g0 g1
theorem aal {y f:Int} (y0:0≤y) (y1:y < a.Left.aF.aA) (f0:0≤f) (f1:f < a.Left.aB.aH.length) (e:gi a.Left.aB.To f=gi a.ab.aA y):tr a (gi a.Left.aB.aH f) (bk a y f)=f:=by
 have hk:=A.ak y0 y1
 have hl:=A.E6 f0 f1
 have hr:=A.Dq hk.1.1 hk.1.2
 have zM:=A.Dq hl.1.1 hl.1.2
 have kf:=A.aC.fr f0 f1
 have hu:=A.au kf.1 kf.2
 have ry:=A.KS y0 y1
 have zU:=A.au ry.1 ry.2
 have E1:gi a.ab.ae (bk a y f)=gk a.Left.aB.aE (gi a.ab.ae (gi a.Left.ae f)) (gi a.ab.ae (gi a.ba y)):=A.arc hl.1.1 hl.1.2 hk.1.1 hk.1.2 (by rw [hl.2.2,hk.2.1,e])
 show gk a.Left.aB.aE (gi a.Unit (gi a.Left.aB.aH f)) (gi a.ab.ae (bk a y f))=f
 rw [E1,← A.aC.assoc _ _ _ hu.1.1 hu.1.2 zM.1.1 zM.1.2 hr.1.1 hr.1.2 (by rw [hu.2.2,zM.2.1,hl.2.1]) (by rw [zM.2.2,hr.2.1,hl.2.2,hk.2.1,e])]
 have E2:=A.aus f0 f1
 unfold tr at E2
 rw [← E2,A.aC.assoc _ _ _ f0 f1 (by rw [e]; exact zU.1.1) (by rw [e]; exact zU.1.2) hr.1.1 hr.1.2 (by rw [e,zU.2.1]) (by rw [e,zU.2.2,hr.2.1,hk.2.1])]
 have E3:=A.t2 y y0 y1
 unfold tr at E3
 rw [e,E3,← e]
 exact A.aC.C0 f f0 f1
end Adj
def sN (a b:aS):aS:=aS.mk (ec a.Left b.Left) (ec b.ab a.ab) (tk a.Left.aB a.Unit (thenS (thenS a.Left.aA b.Unit) a.ab.ae)) (tk b.Left.aF (thenS (thenS b.ab.aA a.ba) b.Left.ae) b.ba)
section
variable {a b:aS} (A:Adj a) (B:Adj b) (e:a.Left.aF=b.Left.aB)
include A B e
theorem Mz {x:Int} (x0:0≤x) (x1:x < a.Left.aB.aA):gi (sN a b).Unit x=tr a x (gi b.Unit (gi a.Left.aA x)):=by
 have hl:=A.KT
 have ho:=(bp A.fb).ol
 show gi (tk a.Left.aB a.Unit (thenS (thenS a.Left.aA b.Unit) a.ab.ae)) x=_
 rw [FM x0 (by omega),dv x0 (by rw [fc]; omega),dv x0 (by omega)]; rfl
theorem MA {z:Int} (z0:0≤z) (z1:z < b.Left.aF.aA):gi (sN a b).ba z=bk b z (gi a.ba (gi b.ab.aA z)):=by
 have ho:(b.ab.aA.length:Int)=b.Left.aF.aA:=(bp B.gb).ol.trans (congrArg aI.aA B.e2.symm)
 show gi (tk b.Left.aF (thenS (thenS b.ab.aA a.ba) b.Left.ae) b.ba) z=_
 rw [FM z0 (by rw [fc,fc]; omega),dv z0 (by rw [fc]; omega),dv z0 (by omega)]; rfl
theorem ON {x g:Int} (x0:0≤x) (x1:x < a.Left.aB.aA) (g0:0≤g) (g1:g < b.Left.aF.aH.length) (eg:gi b.Left.aF.aH g=gi b.Left.aA (gi a.Left.aA x)):tr (sN a b) x g=tr a x (tr b (gi a.Left.aA x) g):=by
 have lx:=A.KR x0 x1
 have Dr:gi a.Left.aA x < b.Left.aB.aA:=by rw [← e]; exact lx.2
 have zg:=B.au lx.1 Dr
 have SV:=B.Dq g0 g1
 have hu:=A.au x0 x1
 have OP:gi b.Unit (gi a.Left.aA x) < a.Left.aF.aH.length:=by rw [e]; exact zg.1.2
 have rb1:gi b.ab.ae g < a.Left.aF.aH.length:=by rw [e]; exact SV.1.2
 have h1:=A.Dq zg.1.1 OP
 have h2:=A.Dq SV.1.1 rb1
 have em:gi a.Left.aF.To (gi b.Unit (gi a.Left.aA x))=gi a.Left.aF.aH (gi b.ab.ae g):=by rw [e,zg.2.2,SV.2.1,eg]
 have hg:gi (thenS b.ab.ae a.ab.ae) g=gi a.ab.ae (gi b.ab.ae g):=dv g0 (by rw [(bp B.gb).al,← B.e2]; exact g1)
 show gk a.Left.aB.aE (gi (sN a b).Unit x) (gi (thenS b.ab.ae a.ab.ae) g)=gk a.Left.aB.aE (gi a.Unit x) (gi a.ab.ae (gk b.Left.aB.aE (gi b.Unit (gi a.Left.aA x)) (gi b.ab.ae g)))
 rw [Mz A B e x0 x1,hg,← e,A.arc zg.1.1 OP SV.1.1 rb1 em]
 exact A.aC.assoc _ _ _ hu.1.1 hu.1.2 h1.1.1 h1.1.2 h2.1.1 h2.1.2 (by rw [hu.2.2,h1.2.1,e,zg.2.1]) (by rw [h1.2.2,h2.2.1,em])
theorem XE {z f:Int} (z0:0≤z) (z1:z < b.Left.aF.aA) (f0:0≤f) (f1:f < a.Left.aB.aH.length) (ef:gi a.Left.aB.To f=gi a.ab.aA (gi b.ab.aA z)):bk (sN a b) z f=bk b z (bk a (gi b.ab.aA z) f):=by
 have rz:=B.KS z0 z1
 have Jf:gi b.ab.aA z < a.Left.aF.aA:=by rw [e]; exact rz.2
 have zh:=A.ak rz.1 Jf
 have SX:=A.E6 f0 f1
 have hk:=B.ak z0 z1
 have OQ:gi a.ba (gi b.ab.aA z) < b.Left.aB.aH.length:=by rw [← e]; exact zh.1.2
 have la1:gi a.Left.ae f < b.Left.aB.aH.length:=by rw [← e]; exact SX.1.2
 have h1:=B.E6 zh.1.1 OQ
 have h2:=B.E6 SX.1.1 la1
 have em:gi b.Left.aB.To (gi a.Left.ae f)=gi b.Left.aB.aH (gi a.ba (gi b.ab.aA z)):=by rw [← e,zh.2.1,SX.2.2,ef]
 have hg:gi (thenS a.Left.ae b.Left.ae) f=gi b.Left.ae (gi a.Left.ae f):=dv f0 (by rw [(bp A.fb).al]; exact f1)
 show gk b.Left.aF.aE (gi (thenS a.Left.ae b.Left.ae) f) (gi (sN a b).ba z)=gk b.Left.aF.aE (gi b.Left.ae (gk a.Left.aF.aE (gi a.Left.ae f) (gi a.ba (gi b.ab.aA z)))) (gi b.ba z)
 rw [MA A B e z0 z1,hg,e,B.Ko SX.1.1 la1 zh.1.1 OQ em]
 exact (B.aD.assoc _ _ _ h2.1.1 h2.1.2 h1.1.1 h1.1.2 hk.1.1 hk.1.2 (by rw [h2.2.2,h1.2.1,em]) (by rw [h1.2.2,hk.2.1,← e,zh.2.2])).symm
theorem Ul:Adj (sN a b):=by
 have FA:=bp A.fb
 have GA:=bp A.gb
 have FB:=bp B.fb
 have GB:=bp B.gb
 have e':b.ab.aF=a.ab.aB:=B.e1.symm.trans (e.symm.trans A.e2)
 have i1:ec a.Left (vh b.Left.aB)=a.Left:=by rw [← e]; exact GI FA
 have i2:ec b.ab (vh a.Left.aF)=b.ab:=by rw [e,B.e1]; exact GI GB
 have hu:jz (wZ (sN a b))=true:=by
  have n1:=Jg (t:=wZ b) A.fb B.ub e
  have n2:=Jh (g:=a.ab) n1 A.gb (e.symm.trans A.e2)
  have n3:=Ji A.ub n2 (by show ec a.Left a.ab=ec (ec a.Left (vh b.Left.aB)) a.ab; rw [i1])
  have E:(Cn (Co a.Left (wZ b)) a.ab).aF=ec (ec a.Left b.Left) (ec b.ab a.ab):=by
   show ec (ec a.Left (ec b.Left b.ab)) a.ab=_
   rw [← wN FA FB e,wN (bp (sw A.fb B.fb e)) GB B.e2]
  have:wZ (sN a b)=MB (wZ a) (Cn (Co a.Left (wZ b)) a.ab):=by
   show bZ.mk (vh a.Left.aB) (ec (ec a.Left b.Left) (ec b.ab a.ab)) _=bZ.mk (vh a.Left.aB) (Cn (Co a.Left (wZ b)) a.ab).aF _
   rw [E]; rfl
  rw [this]; exact n3
 have hk:jz (w4 (sN a b))=true:=by
  have n1:=Jg (t:=w4 a) B.gb A.kb e'
  have n2:=Jh (g:=b.Left) n1 B.fb e
  have n3:=Ji n2 B.kb (by show ec (ec b.ab (vh a.Left.aF)) b.Left=ec b.ab b.Left; rw [i2])
  have E:(Cn (Co b.ab (w4 a)) b.Left).aB=ec (ec b.ab a.ab) (ec a.Left b.Left):=by
   show ec (ec b.ab (ec a.ab a.Left)) b.Left=_
   rw [← wN GB GA e',wN (bp (sw B.gb A.gb e')) FA A.e1.symm]
  have:w4 (sN a b)=MB (Cn (Co b.ab (w4 a)) b.Left) (w4 b):=by
   show bZ.mk (ec (ec b.ab a.ab) (ec a.Left b.Left)) (vh b.Left.aF) _=bZ.mk (Cn (Co b.ab (w4 a)) b.Left).aB (vh b.Left.aF) _
   rw [E]; rfl
  rw [this]; exact n3
 refine ⟨sw A.fb B.fb e,sw B.gb A.gb e',A.e1,B.e2,hu,hk,fun x x0 x1=>?_,fun z z0 z1=>?_⟩
 ·have lx:=A.KR x0 x1
  have Dr:gi a.Left.aA x < b.Left.aB.aA:=by rw [← e]; exact lx.2
  have lb:=B.KR lx.1 Dr
  have zg:=B.au lx.1 Dr
  have OP:gi b.Unit (gi a.Left.aA x) < a.Left.aF.aH.length:=by rw [e]; exact zg.1.2
  have eu:gi a.Left.aF.aH (gi b.Unit (gi a.Left.aA x))=gi a.Left.aA x:=by rw [e]; exact zg.2.1
  have et:gi a.Left.aF.To (gi b.Unit (gi a.Left.aA x))=gi b.ab.aA (gi b.Left.aA (gi a.Left.aA x)):=by rw [e]; exact zg.2.2
  have T:=A.XD x0 x1 zg.1.1 OP eu
  have ho:gi (thenS a.Left.aA b.Left.aA) x=gi b.Left.aA (gi a.Left.aA x):=dv x0 (by rw [FA.ol]; exact x1)
  show bk (sN a b) (gi (thenS a.Left.aA b.Left.aA) x) (gi (sN a b).Unit x)=gi b.Left.aF.aJ (gi (thenS a.Left.aA b.Left.aA) x)
  rw [ho,Mz A B e x0 x1,XE A B e lb.1 lb.2 T.1.1 T.1.2 (by rw [T.2.2,et])]
  have:=A.aak x0 x1 zg.1.1 OP eu
  rw [et] at this
  rw [this]
  exact B.t1 _ lx.1 Dr
 ·have rz:=B.KS z0 z1
  have Jf:gi b.ab.aA z < a.Left.aF.aA:=by rw [e]; exact rz.2
  have ry:=A.KS rz.1 Jf
  have zh:=A.ak rz.1 Jf
  have OQ:gi a.ba (gi b.ab.aA z) < b.Left.aB.aH.length:=by rw [← e]; exact zh.1.2
  have ef:gi b.Left.aB.aH (gi a.ba (gi b.ab.aA z))=gi a.Left.aA (gi a.ab.aA (gi b.ab.aA z)):=by rw [← e]; exact zh.2.1
  have et:gi b.Left.aB.To (gi a.ba (gi b.ab.aA z))=gi b.ab.aA z:=by rw [← e]; exact zh.2.2
  have T:=B.aeW z0 z1 zh.1.1 OQ et
  have ho:gi (thenS b.ab.aA a.ab.aA) z=gi a.ab.aA (gi b.ab.aA z):=dv z0 (by rw [GB.ol,← B.e2]; exact z1)
  show tr (sN a b) (gi (thenS b.ab.aA a.ab.aA) z) (gi (sN a b).ba z)=gi a.Left.aB.aJ (gi (thenS b.ab.aA a.ab.aA) z)
  rw [ho,MA A B e z0 z1,ON A B e ry.1 ry.2 T.1.1 T.1.2 (by rw [T.2.1,ef])]
  have:=B.aal z0 z1 zh.1.1 OQ et
  rw [ef] at this
  rw [this]
  exact A.t2 _ rz.1 Jf
end
end Go.Proofs.YtjdkifckhidlbaaGreat
namespace Go.Proofs.YtjdkifckhidlbaaGreat
open Go Go.Li
set_option linter.unusedVariables false
set_option linter.unusedSectionVars false
def zj (c:aI) (z x u:Int):Prop:=(0≤u∧u < c.aH.length)∧gi c.aH u=z∧gi c.To u=x
structure Uni (f:aO) (y x e:Int):Prop where
 x0:0≤x
 x1:x < f.aB.aA
 l:zj f.aF (gi f.aA x) y e
 ex:∀ z h:Int,0≤z→z < f.aB.aA→zj f.aF (gi f.aA z) y h→∃ u,zj f.aB z x u∧gk f.aF.aE (gi f.ae u) e=h
 un:∀ z u v:Int,zj f.aB z x u→zj f.aB z x v→gk f.aF.aE (gi f.ae u) e=gk f.aF.aE (gi f.ae v) e→u=v
section
variable {f:aO} {xs es KX us:List Int} (hf:gn f=true) (pd:(xs.length:Int)=f.aF.aA) (Hu:(es.length:Int)=f.aF.aA) (yc:KX.length=f.aF.aH.length) (hul:(us.length:Int)=f.aB.aA)
 (hU:∀ y:Int,0≤y→y < f.aF.aA→Uni f y (gi xs y) (gi es y))
 (hA:∀ g:Int,0≤g→g < f.aF.aH.length→zj f.aB (gi xs (gi f.aF.aH g)) (gi xs (gi f.aF.To g)) (gi KX g)∧gk f.aF.aE (gi f.ae (gi KX g)) (gi es (gi f.aF.To g))=gk f.aF.aE (gi es (gi f.aF.aH g)) g)
 (hS:∀ x:Int,0≤x→x < f.aB.aA→zj f.aB x (gi xs (gi f.aA x)) (gi us x)∧gk f.aF.aE (gi f.ae (gi us x)) (gi es (gi f.aA x))=gi f.aF.aJ (gi f.aA x))
include hf pd Hu yc hul hU hA hS
end
end Go.Proofs.YtjdkifckhidlbaaGreat
namespace Go.Proofs.YtjdkifckhidlbaaGreat
open Go Go.Li
set_option linter.unusedVariables false
set_option linter.unusedSectionVars false
structure r9 (a:aS):Prop where
 l:jo a.Left
 r:jo a.ab
 u:a.Unit.length≤1048576
 k:a.ba.length≤1048576
theorem KU {c:aI} (C:nr c):mA c=some (vh c):=by
 have o0:=C.o0
 have o8:=C.o8
 have m:=C.m
 have hs:=vi C
 unfold mA
 rw [Ds o0 (by omega),aG,show dB c=some (c.aH.length:Int) from rfl,aG,Ds (by omega) (by omega),aG,Int.toNat_natCast,zH hs hs (by rw [dC]; omega) (by rw [dC]; omega),aG]; rfl
theorem Rk (n:Nat):ns (n+1)=ns n++[(n:Int)]:=by simp [ns,List.range_succ]
theorem upto {R S:Type} {k:Nat} {n:Nat} (hn:n≤1048576) {body:List Int×Int→Option (Out (List Int×Int) R)} {f:List Int×Int→Option (Out S R)}
  (h:∀ i:Nat,i < n→body (ns i,(i:Int))=some (.norm (ns i++[(i:Int)],((i+1:Nat):Int)))) (last:body (ns n,(n:Int))=some (.exit k (ns n,(n:Int)))) :
  ai (af k (aj body (([]:List Int),(0:Int)))) f=f (ns n,(n:Int)):=by
 refine uo (ns n) (fun i=>(ns i,(i:Int))) rfl (fun i x hx=>?_) (e:=(ns n,(n:Int))) ?_
 ·obtain ⟨rfl,hi⟩:=iu hx
  rw [h i hi,Rk]
 ·rw [dC]; exact last
theorem KV {c:aI} (C:nr c):eK c=some (vh c):=by
 have o0:=C.o0
 have o8:=C.o8
 have m:=C.m
 have hs:=vi C
 have a1:∀ i:Nat,i < c.aA.toNat→hY c (ns i) (i:Int)=some (.norm (ns i++[(i:Int)],((i+1:Nat):Int))):=fun i hi=>by
  unfold hY
  rw [bc (by omega),cond_true,dC,dU (by omega) (by omega),aG,cI (by omega)]
 have a2:hY c (ns c.aA.toNat) (c.aA.toNat:Int)=some (.exit 0 (ns c.aA.toNat,(c.aA.toNat:Int))):=by
  unfold hY
  rw [br (by omega),cond_false]
 have b1:∀ i:Nat,i < c.aH.length→iA c (ns i) (i:Int)=some (.norm (ns i++[(i:Int)],((i+1:Nat):Int))):=fun i hi=>by
  unfold iA
  rw [bc (by omega),cond_true,dC,dU (by omega) (by omega),aG,cI (by omega)]
 have b2:iA c (ns c.aH.length) (c.aH.length:Int)=some (.exit 2 (ns c.aH.length,(c.aH.length:Int))):=by
  unfold iA
  rw [br (by omega),cond_false]
 unfold eK
 rw [upto (n:=c.aA.toNat) (by omega) a1 a2]
 dsimp only
 rw [upto (n:=c.aH.length) (by omega) b1 b2]
 dsimp only
 rw [sx hs hs (by rw [dC]; omega) (by rw [dC]; omega),aG]; rfl
theorem GJ {t:bZ} (hs:Cp t) (fb:gn t.aB=true) (gb:gn t.aF=true) (es:t.aF.aB=t.aB.aB) (et:t.aF.aF=t.aB.aF):gJ t.aB t.aF t.an=some (jz t):=by
 have F:=bp fb
 have G:=bp gb
 have hp:=hs.p
 have gp:=F.ol
 have yc:=F.al
 have cm:=F.c.m
 unfold gJ jz xG
 rw [fb,gb,es,et,jy.2 rfl,jy.2 rfl]
 simp only [Bool.true_and]
 by_cases e1:(t.an.length:Int)=t.aB.aB.aA
 ·rw [sr (by omega),cond_false,Af _ _ (by omega),aG,aG,qd e1,Bool.true_and]
  cases h:qk t.aB.aF.aH.length t.an with
  | false=>rfl
  | true=>
   rw [Bool.not_true,cond_false,Bool.true_and]
   have BC:=qm.1 h
   have H:THead t:=⟨F,G,fb,gb,es,et,e1,BC⟩
   rw [ud (n:=t.an.length) (Cq t) (fun x bj=>?_) (by unfold mS; rw [br (by omega),cond_false])]
   ·unfold zi
    cases (ns t.an.length).any (Cq t) with
    | true=>rfl
    | false=>
     rw [cond_false,Bool.not_false,Bool.true_and]
     rw [ud (n:=t.aB.aB.aH.length) (fun a=>!(Jj t.aB t.aF t.an a)) (fun a bj=>?_) (by unfold mT; rw [br (by omega),cond_false])]
     ·unfold FN
      cases (ns t.aB.aB.aH.length).any _ <;> rfl
     ·have kf:=F.c.fr (f:=(a:Int)) (by omega) (by omega)
      have kt:=F.c.to (f:=(a:Int)) (by omega) (by omega)
      have ka:=F.ar (a:=(a:Int)) (by omega) (by omega)
      have k1:=H.cp kt.1 kt.2
      have k2:=H.cp kf.1 kf.2
      have k3:=H.OR (a:=(a:Int)) (by omega) (by omega)
      unfold mT Jj
      rw [bc (by omega),cond_true,F.tn (by omega) (by omega),aG,F.c.ma (by omega) (by omega),aG,H.MC kt.1 kt.2,aG,F.d.thenS ka.1 ka.2 k1.1 k1.2,aG,F.c.lg (by omega) (by omega),aG,H.MC kf.1 kf.2,aG,H.SY (by omega) (by omega),aG,F.d.thenS k2.1 k2.2 k3.1 k3.2,aG,cI (by omega)]
      rfl
   ·have kc:=BC _ (fj (l:=t.an) (j:=(x:Int)) (by omega) (by omega))
    unfold mS
    rw [bc (by omega),cond_true,cH (by omega) (by omega),aG,F.d.lg kc.1 kc.2,aG,F.uD (by omega) (by omega),aG,aG,F.d.ma kc.1 kc.2,aG,G.uD (by omega) (by rw [es]; omega),aG,cI (by omega),r8,xI,aG]
    rfl
 ·rw [sn (by omega),cond_true,aG,cond_true,tj e1]; rfl
section
variable {a:aS} (hs:r9 a)
include hs
theorem GK (F:Cm a.Left):Cp (wZ a):=⟨GH F.c,tF hs.l hs.r,hs.u⟩
theorem GL (F:Cm a.Left):Cp (w4 a):=⟨tF hs.r hs.l,GH F.d,hs.k⟩
omit hs in
theorem half {a:aS} (fb:gn a.Left=true) (gb:gn a.ab=true) (e1:a.Left.aB=a.ab.aF) (e2:a.Left.aF=a.ab.aB) (ub:jz (wZ a)=true) (kb:jz (w4 a)=true) :
  (∀ x:Int,0≤x→x < a.Left.aB.aA→(0≤gi a.Left.aA x∧gi a.Left.aA x < a.Left.aF.aA)∧zj a.Left.aB x (gi a.ab.aA (gi a.Left.aA x)) (gi a.Unit x))∧
  (∀ y:Int,0≤y→y < a.Left.aF.aA→(0≤gi a.ab.aA y∧gi a.ab.aA y < a.Left.aB.aA)∧zj a.Left.aF (gi a.Left.aA (gi a.ab.aA y)) y (gi a.ba y)):=by
 have F:=bp fb
 have G:=bp gb
 have N:=np ub
 have M:=np kb
 have o1:=F.c.o0
 have o2:=F.d.o0
 refine ⟨fun x x0 x1=>⟨F.ob x0 x1,N.cp x0 x1,(N.pf x x0 x1).trans ?_,(N.pt x x0 x1).trans ?_⟩,fun y y0 y1=>?_⟩
 ·exact xF x0 (by show x < ((a.Left.aB.aA.toNat:Nat):Int); omega)
 ·exact dv x0 (by rw [F.ol]; exact x1)
 ·have y2:y < a.ab.aB.aA:=by rw [← e2]; exact y1
  have k:=G.ob y0 y2
  rw [← e1] at k
  refine ⟨k,M.cp (x:=y) y0 y2,(M.pf y y0 y2).trans ?_,(M.pt y y0 y2).trans ?_⟩
  ·exact dv y0 (by rw [G.ol]; exact y2)
  ·exact xF y0 (by show y < ((a.Left.aF.aA.toNat:Nat):Int); omega)
end
theorem OS {f g:aO} (hf:jo f) (hg:jo g):nY f g=some (uK f g):=by
 unfold nY uK
 rw [uH hf.t,aG]
 have e:oh g.aF f.aB=oh f.aB g.aF:=by
  cases h:oh f.aB g.aF with
  | true=>exact jy.2 (jy.1 h).symm
  | false=>
   cases h2:oh g.aF f.aB with
   | false=>rfl
   | true=>rw [jy.2 (jy.1 h2).symm] at h; cases h
 cases h:oh f.aF g.aB with
 | false=>simp only [cond_false,aG,Bool.and_false]; rfl
 | true=>
  rw [cond_true,uH hg.t,aG,aG,e,Bool.and_true]; rfl
theorem Rm {f g:aO} (hf:jo f):oB f g=some (uK f g):=by
 unfold oB uK
 rw [tE hf.s,aG]
 cases h:oh f.aB g.aF with
 | false=>rfl
 | true=>rw [cond_true,tE hf.t,aG,aG,Bool.true_and]; rfl
theorem KW {x y:Int}:(!(x == y))=(y != x):=by
 by_cases h:x=y
 ·rw [h]; simp
 ·rw [tj h,sn (fun e=>h e.symm)]; rfl
section
variable {a:aS} (hs:r9 a)
include hs
theorem sa:lT a=some (yE a):=by
 unfold lT yE
 rw [GM hs.l,aG]
 cases h1:gn a.Left with
 | false=>rfl
 | true=>
  have F:=bp h1
  simp only [Bool.not_true,cond_false,Bool.true_and]
  rw [GM hs.r,aG]
  cases h2:gn a.ab with
  | false=>rfl
  | true=>
   have G:=bp h2
   simp only [Bool.not_true,cond_false,Bool.true_and]
   rw [OS hs.l hs.r,aG,aG]
   cases h3:uK a.Left a.ab with
   | false=>rfl
   | true=>
    have hb:=h3
    unfold uK at hb
    rw [Bool.and_eq_true,jy,jy] at hb
    obtain ⟨e1,e2⟩:=hb
    have gi1:=KQ F.c
    have gi2:=KQ F.d
    have t1:=sw h1 h2 e2
    have t2:=sw h2 h1 e1.symm
    have n1:gJ (vh a.Left.aB) (ec a.Left a.ab) a.Unit=some (jz (wZ a)):=GJ (t:=wZ a) (GK hs F) gi1 t1 rfl e1.symm
    have n2:gJ (ec a.ab a.Left) (vh a.Left.aF) a.ba=some (jz (w4 a)):=GJ (t:=w4 a) (GL hs F) t2 gi2 e2 rfl
    simp only [Bool.not_true,cond_false,Bool.true_and]
    rw [KV F.c,aG,zk F.toFHead G.toFHead e2 hs.l hs.r,aG,n1,aG,aG,aG]
    cases h4:jz (wZ a) with
    | false=>rfl
    | true=>
     simp only [Bool.not_true,cond_false,Bool.true_and]
     rw [n1,aG,h4]
     simp only [Bool.not_true,cond_false]
     rw [zk G.toFHead F.toFHead e1.symm hs.r hs.l,aG,KV F.d,aG,n2,aG]
     cases h5:jz (w4 a) with
     | false=>rfl
     | true=>
      obtain ⟨H1,H2⟩:=half h1 h2 e1 e2 h4 h5
      have o1:=F.c.o0
      have o2:=F.d.o0
      have o3:=F.c.o8
      have o4:=F.d.o8
      have ul:=(np h4).pl
      have kl:=(np h5).pl
      replace ul:(a.Unit.length:Int)=a.Left.aB.aA:=ul
      replace kl:(a.ba.length:Int)=a.Left.aF.aA:=by rw [e2]; exact kl
      simp only [Bool.not_true,cond_false,Bool.true_and]
      show aq (S:=Unit) (ai (af 0 (aj (nZ a) (0:Int))) _)=_
      rw [ud (n:=a.Left.aB.aA.toNat) (DU a) (fun x bj=>?_) (by unfold nZ; rw [br (by omega),cond_false])]
      ·unfold FK
       cases (ns a.Left.aB.aA.toNat).any (DU a) with
       | true=>rfl
       | false=>
        rw [cond_false,Bool.not_false,Bool.true_and]
        rw [ud (n:=a.Left.aF.aA.toNat) (DV a) (fun y bj=>?_) (by unfold qS; rw [br (by omega),cond_false])]
        ·unfold FL
         cases (ns a.Left.aF.aA.toNat).any (DV a) <;> rfl
        ·obtain ⟨ro,hk⟩:=H2 (y:Int) (by omega) (by omega)
         obtain ⟨_,hu⟩:=H1 _ ro.1 ro.2
         have gr:0≤gi a.ab.ae (gi a.ba y)∧gi a.ab.ae (gi a.ba y) < a.Left.aB.aH.length:=by
          have:=G.ar hk.1.1 (by rw [← e2]; exact hk.1.2)
          rwa [← e1] at this
         have gf:gi a.Left.aB.aH (gi a.ab.ae (gi a.ba y))=gi a.ab.aA (gi a.Left.aA (gi a.ab.aA y)):=by
          have:=G.fr _ hk.1.1 (by rw [← e2]; exact hk.1.2)
          rw [← e1,← e2,hk.2.1] at this
          exact this
         have cc:=F.c.cell _ _ hu.1.1 hu.1.2 gr.1 gr.2 (by rw [hu.2.2,gf])
         unfold qS
         rw [bc (by omega),cond_true,G.uD (by omega) (by rw [← e2]; omega),aG,cH ro.1 (by omega),aG,cH (by omega) (by omega),aG,G.tn hk.1.1 (by rw [← e2]; exact hk.1.2),aG,F.c.thenS hu.1.1 hu.1.2 gr.1 gr.2,aG]
         have XF:gO a.Left.aB (gk a.Left.aB.aE (gi a.Unit (gi a.ab.aA y)) (gi a.ab.ae (gi a.ba y)))=some (gi a.Left.aB.aJ (gi a.ab.aA y) == tr a (gi a.ab.aA y) (gi a.ba y)):=by
          unfold gO
          rw [F.c.lg cc.1 cc.2.1,aG,cc.2.2.1,hu.2.1,F.c.oK ro.1 ro.2,aG]; rfl
         rw [XF,aG,KW,cI (by omega)]; rfl
      ·obtain ⟨lo,hu⟩:=H1 (x:Int) (by omega) (by omega)
       obtain ⟨_,hk⟩:=H2 _ lo.1 lo.2
       have ga:=F.ar hu.1.1 hu.1.2
       have gf:=F.fr _ hu.1.1 hu.1.2
       have gt:=F.to _ hu.1.1 hu.1.2
       rw [hu.2.1] at gf
       rw [hu.2.2] at gt
       have cc:=F.d.cell _ _ ga.1 ga.2 hk.1.1 hk.1.2 (by rw [gt,hk.2.1])
       unfold nZ
       rw [bc (by omega),cond_true,cH (by omega) (by omega),aG,F.tn hu.1.1 hu.1.2,aG,F.uD (by omega) (by omega),aG,cH lo.1 (by omega),aG,F.d.thenS ga.1 ga.2 hk.1.1 hk.1.2,aG]
       have XF:gO a.Left.aF (gk a.Left.aF.aE (gi a.Left.ae (gi a.Unit x)) (gi a.ba (gi a.Left.aA x)))=some (gi a.Left.aF.aJ (gi a.Left.aA x) == bk a (gi a.Left.aA x) (gi a.Unit x)):=by
        unfold gO
        rw [F.d.lg cc.1 cc.2.1,aG,cc.2.2.1,gf,F.d.oK lo.1 lo.2,aG]; rfl
       rw [XF,aG,KW,cI (by omega)]; rfl
theorem Ro {h1:gn a.Left=true} {h2:gn a.ab=true} (h3:uK a.Left a.ab=true):jS a=some ((jz (wZ a) && jz (w4 a)) && (FK a && FL a)):=by
 have F:=bp h1
 have G:=bp h2
 have hb:=h3
 unfold uK at hb
 rw [Bool.and_eq_true,jy,jy] at hb
 obtain ⟨e1,e2⟩:=hb
 unfold jS
 rw [zl F.toFHead G.toFHead e2 hs.l hs.r,aG,zl G.toFHead F.toFHead e1.symm hs.r hs.l,aG,KU F.c,aG,KU F.d,aG]
 have n1:kX [(bZ.mk (vh a.Left.aB) (ec a.Left a.ab) a.Unit),(bZ.mk (ec a.ab a.Left) (vh a.Left.aF) a.ba)]=some ([wZ a,w4 a].all jz):=MD _ (by simp) fun t ht=>by
  rcases List.mem_cons.1 ht with rfl | ht
  ·exact GK hs F
  ·obtain rfl:=List.mem_singleton.1 ht
   exact GL hs F
 rw [n1,aG]
 simp only [List.all_cons,List.all_nil,Bool.and_true]
 cases h4:jz (wZ a) with
 | false=>rfl
 | true=>
  cases h5:jz (w4 a) with
  | false=>rfl
  | true=>
   obtain ⟨H1,H2⟩:=half h1 h2 e1 e2 h4 h5
   have o1:=F.c.o0
   have o2:=F.d.o0
   have o3:=F.c.o8
   have o4:=F.d.o8
   have ol:=F.ol
   have orl:(a.ab.aA.length:Int)=a.Left.aF.aA:=G.ol.trans (congrArg aI.aA e2.symm)
   have ul:=(np h4).pl
   have kl:=(np h5).pl
   replace ul:(a.Unit.length:Int)=a.Left.aB.aA:=ul
   replace kl:(a.ba.length:Int)=a.Left.aF.aA:=by rw [e2]; exact kl
   simp only [Bool.not_true,cond_false,Bool.true_and,Bool.and_true]
   rw [ud (n:=a.Left.aB.aA.toNat) (DU a) (fun x bj=>?_) (by unfold kQ; rw [br (by omega),cond_false])]
   ·unfold FK
    cases (ns a.Left.aB.aA.toNat).any (DU a) with
    | true=>rfl
    | false=>
     rw [cond_false,Bool.not_false,Bool.true_and]
     rw [ud (n:=a.Left.aF.aA.toNat) (DV a) (fun y bj=>?_) (by unfold kR; rw [br (by omega),cond_false])]
     ·unfold FL
      cases (ns a.Left.aF.aA.toNat).any (DV a) <;> rfl
     ·obtain ⟨ro,hk⟩:=H2 (y:Int) (by omega) (by omega)
      obtain ⟨_,hu⟩:=H1 _ ro.1 ro.2
      have gr:0≤gi a.ab.ae (gi a.ba y)∧gi a.ab.ae (gi a.ba y) < a.Left.aB.aH.length:=by
       have:=G.ar hk.1.1 (by rw [← e2]; exact hk.1.2)
       rwa [← e1] at this
      unfold kR
      rw [bc (by omega),cond_true,cH (by omega) (by omega),aG,cH ro.1 (by omega),aG,cH (by omega) (by omega),aG,G.tn hk.1.1 (by rw [← e2]; exact hk.1.2),aG,F.c.qe hu.1.1 hu.1.2 gr.1 gr.2,aG,F.c.oK ro.1 ro.2,aG,cI (by omega)]; rfl
   ·obtain ⟨lo,hu⟩:=H1 (x:Int) (by omega) (by omega)
    obtain ⟨_,hk⟩:=H2 _ lo.1 lo.2
    have ga:=F.ar hu.1.1 hu.1.2
    unfold kQ
    rw [bc (by omega),cond_true,cH (by omega) (by omega),aG,cH (by omega) (by omega),aG,F.tn hu.1.1 hu.1.2,aG,cH lo.1 (by omega),aG,F.d.qe ga.1 ga.2 hk.1.1 hk.1.2,aG,F.d.oK lo.1 lo.2,aG,cI (by omega)]; rfl
theorem sb:eA a=some (yE a):=by
 unfold eA yE
 rw [Du _ (by simp) fun t ht=>by
  rcases List.mem_cons.1 ht with rfl | ht
  ·exact hs.l
  ·obtain rfl:=List.mem_singleton.1 ht
   exact hs.r]
 rw [aG]
 simp only [List.all_cons,List.all_nil,Bool.and_true]
 cases h1:gn a.Left with
 | false=>rfl
 | true=>
  cases h2:gn a.ab with
  | false=>rfl
  | true=>
   simp only [Bool.true_and,cond_true]
   rw [Rm hs.l,aG]
   cases h3:uK a.Left a.ab with
   | false=>rfl
   | true=>
    simp only [Bool.true_and,cond_true]
    rw [Ro hs (h1:=h1) (h2:=h2) h3]; rfl
end
end Go.Proofs.YtjdkifckhidlbaaGreat
namespace Go.Proofs.YtjdkifckhidlbaaGreat
open Go Go.Li
set_option linter.unusedVariables false
set_option linter.unusedSectionVars false
set_option linter.unusedSimpArgs false
theorem ME {R:List (List Int)} {k:Int} (k0:0≤k) (k3:k < 3) (hl:R.length≤300000) (h3:∀ r∈R,r.length=3):Ok (kA R k) fun y=>y.length=R.length∧∀ i:Int,0≤i→i < R.length→gi y i=gi (gr R i) k:=by
 unfold kA
 refine jv (ol (fun z:List Int×Int=>(0≤z.2∧z.2≤R.length)∧(z.1.length:Int)=z.2∧∀ i:Int,0≤i→i < z.2→gi z.1 i=gi (gr R i) k) (fun z=>(R.length - z.2).toNat) ⟨⟨by show (0:Int)≤0; omega,by show (0:Int)≤_; omega⟩,rfl,fun i i0 i1=>by dsimp only at i1; omega⟩ ?_)
 rintro ⟨l,i⟩ ⟨⟨i0,i1⟩,OT,hv⟩
 dsimp only at i0 i1 OT hv
 show Ok (nP R k l i) _
 unfold nP
 refine od (fun hi=>?_) fun hi=>os ⟨rfl,os ⟨by omega,fun j j0 j1=>hv j j0 (by omega)⟩⟩
 have hw:=w1 i0 hi (by omega)
 have h3r:=h3 _ (nn i0 hi)
 refine oe (mm i0 hi) (oe (cH k0 (by omega)) (fk (by omega) (by omega) (os ⟨⟨⟨?_,?_⟩,?_,fun j j0 j1=>?_⟩,?_⟩)))
 ·dsimp only; rw [hw]; omega
 ·dsimp only; rw [hw]; omega
 ·dsimp only; rw [hw,List.length_append,List.length_singleton]; omega
 ·dsimp only at j1 ⊢
  rw [hw] at j1
  rw [mb j0]
  by_cases e:j < l.length
  ·rw [if_pos e]; exact hv j j0 (by omega)
  ·rw [if_neg e,if_pos (by omega),show j=i by omega]
 ·dsimp only; rw [hw]; omega
theorem XG {R:List (List Int)} (key:List Int) (hl:R.length≤300000) (h3:∀ r∈R,r.length=3):Ok (kG R key) fun y=>key∈R→(0≤y∧y < R.length)∧gr R y=key:=by
 unfold kG
 refine jv (ol (fun z:Int=>(0≤z∧z≤R.length)∧∀ i:Int,0≤i→i < z→gr R i≠key) (fun z=>(R.length - z).toNat) ⟨⟨by omega,by omega⟩,fun i i0 i1=>by omega⟩ ?_)
 rintro i ⟨⟨i0,i1⟩,hn⟩
 unfold rC
 refine od (fun hi=>?_) fun hi=>os ⟨rfl,os fun h=>?_⟩
 ·have hw:=w1 i0 hi (by omega)
  have h3r:=h3 _ (nn i0 hi)
  refine oe (mm i0 hi) (oe (Bc _ _ (by omega)) (oc (fun e=>os fun _=>⟨⟨i0,hi⟩,eq_of_beq e⟩) fun e=>os ⟨⟨⟨by rw [hw]; omega,by rw [hw]; omega⟩,fun j j0 j1=>?_⟩,by dsimp only; rw [hw]; omega⟩))
  rw [hw] at j1
  by_cases ej:j=i
  ·rw [ej]
   intro h
   rw [h] at e
   simp at e
  ·exact hn j j0 (by omega)
 ·exfalso
  obtain ⟨j,j0,j1,e⟩:=OU h
  exact hn j j0 (by omega) e
noncomputable def xq (R:List (List Int)) (key:List Int):Int:=(kG R key).getD (-1)
theorem Jk {R:List (List Int)} (key:List Int) (hl:R.length≤300000) (h3:∀ r∈R,r.length=3):kG R key=some (xq R key)∧(key∈R→(0≤xq R key∧xq R key < R.length)∧gr R (xq R key)=key):=by
 obtain ⟨y,h1,h2⟩:=XG key hl h3
 have e:xq R key=y:=by unfold xq; rw [h1]; rfl
 rw [e]
 exact ⟨h1,h2⟩
def BH (c:aI) (xs:List Int) (i j h:Int):Prop:=((0≤i∧i < xs.length)∧(0≤j∧j < xs.length))∧(0≤h∧h < c.aH.length)∧gi c.aH h=gi xs i∧gi c.To h=gi xs j
structure Fat (c:aI) (xs:List Int) (R:List (List Int)):Prop where
 n:xs.length≤65
 o:∀ x∈xs,0≤x∧x < c.aA
 l:R.length≤300000
 r:∀ r∈R,∃ i j h,r=[i,j,h]∧BH c xs i j h
 a:∀ i j h,BH c xs i j h→[i,j,h]∈R
namespace Fat
variable {c:aI} {xs:List Int} {R:List (List Int)} (F:Fat c xs R)
include F
theorem three:∀ r∈R,r.length=3:=fun r hr=>by obtain ⟨i,j,h,rfl,_⟩:=F.r r hr; rfl
theorem Cr {k:Int} (k0:0≤k) (k1:k < R.length):gr R k=[gi (gr R k) 0,gi (gr R k) 1,gi (gr R k) 2]∧BH c xs (gi (gr R k) 0) (gi (gr R k) 1) (gi (gr R k) 2):=by
 obtain ⟨i,j,h,e,ha⟩:=F.r _ (nn k0 k1)
 rw [e]
 exact ⟨rfl,ha⟩
theorem Rp {i:Int} (i0:0≤i) (i1:i < xs.length):0≤gi xs i∧gi xs i < c.aA:=F.o _ (fj i0 i1)
theorem E7 {i j h:Int} (ha:BH c xs i j h):(0≤xq R [i,j,h]∧xq R [i,j,h] < R.length)∧gr R (xq R [i,j,h])=[i,j,h]:=(Jk _ F.l F.three).2 (F.a i j h ha)
end Fat
structure XH (c:aI) (xs:List Int) (R:List (List Int)) (d:aI):Prop where
 ob:d.aA=xs.length
 fl:d.aH.length=R.length
 tl:d.To.length=R.length
 il:(d.aJ.length:Int)=xs.length
 kl:d.aE.length=R.length
 f:∀ k:Int,0≤k→k < R.length→gi d.aH k=gi (gr R k) 0
 t:∀ k:Int,0≤k→k < R.length→gi d.To k=gi (gr R k) 1
 i:∀ x:Int,0≤x→x < xs.length→gi d.aJ x=xq R [x,x,gi c.aJ (gi xs x)]
 r:∀ r∈d.aE,r.length=R.length
 k:∀ a b:Int,0≤a→a < R.length→0≤b→b < R.length→gk d.aE a b=if gi (gr R a) 1=gi (gr R b) 0 then xq R [gi (gr R a) 0,gi (gr R b) 1,gk c.aE (gi (gr R a) 2) (gi (gr R b) 2)] else -1
theorem XI {c d:aI} {xs:List Int} {R:List (List Int)} (T:T7 c) (F:Fat c xs R) (D:XH c xs R d):Ty d:=by
 have uG:∀ x:Int,0≤x→x < xs.length→BH c xs x x (gi c.aJ (gi xs x)):=fun x x0 x1=>by
  have o:=F.Rp x0 x1
  exact ⟨⟨⟨x0,x1⟩,x0,x1⟩,T.t.id o.1 o.2,T.t.vf _ o.1 o.2,T.t.vZ _ o.1 o.2⟩
 have hco:∀ a b:Int,0≤a→a < R.length→0≤b→b < R.length→gi (gr R a) 1=gi (gr R b) 0→BH c xs (gi (gr R a) 0) (gi (gr R b) 1) (gk c.aE (gi (gr R a) 2) (gi (gr R b) 2)):=fun a b a0 a1 b0 b1 e=>by
  have A:=(F.Cr a0 a1).2
  have B:=(F.Cr b0 b1).2
  have k:=T.t.cell _ _ A.2.1.1 A.2.1.2 B.2.1.1 B.2.1.2 (by rw [A.2.2.2,B.2.2.1,e])
  exact ⟨⟨A.1.1,B.1.2⟩,k.1,k.2.1.trans A.2.2.1,k.2.2.trans B.2.2.2⟩
 have fl:=D.fl
 have e0:∀ i j h:Int,gi [i,j,h] 0=i:=fun _ _ _=>rfl
 have e1:∀ i j h:Int,gi [i,j,h] 1=j:=fun _ _ _=>rfl
 have e2:∀ i j h:Int,gi [i,j,h] 2=h:=fun _ _ _=>rfl
 refine ⟨by rw [D.ob]; omega,fun y hy=>?_,by rw [D.tl,D.fl],fun y hy=>?_,by rw [D.kl,D.fl],fun r hr=>by rw [D.r r hr,D.fl],by rw [D.il,D.ob],fun y hy=>?_,fun x x0 x1=>?_,fun x x0 x1=>?_,fun a b a0 a1 b0 b1 e=>?_,fun a b a0 a1 b0 b1 e=>?_,fun x x0 x1=>?_⟩
 ·obtain ⟨i,i0,i1,rfl⟩:=ue hy
  rw [D.f i i0 (by omega),D.ob]
  exact (F.Cr i0 (by omega)).2.1.1
 ·obtain ⟨i,i0,i1,rfl⟩:=ue hy
  have:=D.tl
  rw [D.t i i0 (by omega),D.ob]
  exact (F.Cr i0 (by omega)).2.1.2
 ·obtain ⟨i,i0,i1,rfl⟩:=ue hy
  have:=D.il
  rw [D.i i i0 (by omega),D.fl]
  exact (F.E7 (uG i i0 (by omega))).1
 ·rw [D.ob] at x1
  have k:=F.E7 (uG x x0 x1)
  rw [D.i x x0 x1,D.f _ k.1.1 k.1.2,k.2]; rfl
 ·rw [D.ob] at x1
  have k:=F.E7 (uG x x0 x1)
  rw [D.i x x0 x1,D.t _ k.1.1 k.1.2,k.2]; rfl
 ·rw [fl] at a1 b1
  rw [D.t a a0 a1,D.f b b0 b1] at e
  have k:=F.E7 (hco a b a0 a1 b0 b1 e)
  rw [D.k a b a0 a1 b0 b1,if_pos e,D.f _ k.1.1 k.1.2,D.t _ k.1.1 k.1.2,k.2,D.f a a0 a1,D.t b b0 b1,fl]
  exact ⟨k.1,rfl,rfl⟩
 ·rw [fl] at a1 b1
  rw [D.t a a0 a1,D.f b b0 b1] at e
  rw [D.k a b a0 a1 b0 b1,if_neg e]
 ·rw [D.ob] at x1
  have o:=F.Rp x0 x1
  have k:=F.E7 (uG x x0 x1)
  rw [D.i x x0 x1,D.k _ _ k.1.1 k.1.2 k.1.1 k.1.2,k.2,e0,e1,e2,if_pos rfl,T.t.uu _ o.1 o.2]
theorem Jl {d:aI} (U:Ty d) {a b:Int} (a0:0≤a) (a1:a < d.aH.length) (b0:0≤b) (b1:b < d.aH.length):eL d a b=some (gk d.aE a b):=by
 unfold eL
 rw [U.o5 a0 a1,aG,U.nt a0 a1 b0 b1,aG]; rfl
section
variable {x:List Int} (B:zm x) {s:aL} (S:Src x s) {c:aI} (T:T7 c)
include B S T
theorem aam:Ok (qI s c) fun y=>(∃ a b,T7 a∧T7 b∧FF a b y.2.1)∧Src x y.2.2:=by
 have c0:=T.t.o0
 have cm:=T.m
 have co:=T.o
 have hlen:=B.len
 unfold qI
 refine jv (ol (fun z:List Int×Int=>(0≤z.2∧z.2≤c.aA)∧(z.1.length:Int)=z.2∧∀ y∈z.1,0≤y∧y < c.aA) (fun z=>(c.aA - z.2).toNat) ⟨⟨by show (0:Int)≤0; omega,by show (0:Int)≤_; omega⟩,rfl,lu⟩ ?_)
 rintro ⟨l,i⟩ ⟨⟨i0,i1⟩,hl,hv⟩
 dsimp only at i0 i1 hl hv
 show Ok (pX c l i) _
 unfold pX
 refine od (fun hi=>fk (by omega) (by omega) (os ⟨⟨⟨?_,?_⟩,?_,jf hv ⟨i0,hi⟩⟩,?_⟩)) fun hi=>os ⟨rfl,?_⟩
 ·dsimp only; rw [w1 i0 hi (by omega)]; omega
 ·dsimp only; rw [w1 i0 hi (by omega)]; omega
 ·dsimp only; rw [w1 i0 hi (by omega),List.length_append,List.length_singleton]; omega
 ·dsimp only; rw [w1 i0 hi (by omega)]; omega
 refine ob (er B S _) fun Cd OV=>?_
 have n91:=OV.1.2 (by omega)
 have S0:=S.on (h:=Cd.2.av) OV.2
 refine ol (fun z:List Int×Int×Int×Int=>(0≤z.2.1∧z.2.1≤Cd.1)∧((z.1.length:Int)≤c.aA+(Cd.1 - z.2.1)∧∀ y∈z.1,0≤y∧y < c.aA)∧(0≤z.2.2.1∧z.2.2.1≤x.length)) (fun z=>z.2.1.toNat) ⟨⟨OV.1.1,by show Cd.1≤Cd.1; omega⟩,⟨by show (l.length:Int)≤c.aA+(Cd.1 - Cd.1); omega,hv⟩,OV.2.a0,OV.2.a1⟩ ?_
 rintro ⟨xs,k,at_,ha⟩ ⟨⟨k0,k1⟩,⟨pd,SZ⟩,t0,t1⟩
 dsimp only at k0 k1 pd SZ t0 t1
 show Ok (pY s c xs k at_ ha) _
 unfold pY
 have S1:Src x (aL.mk s.Code at_ ha):=S.at_ t0 t1
 refine ob (P:=fun g=>g=true→0 < k∧0 < c.aA) (od (fun h=>os fun h2=>⟨h,of_decide_eq_true h2⟩) fun h=>os fun h2=>(by cases h2)) fun g hg=>oc (fun eg=>?_) fun eg=>os ⟨rfl,?_⟩
 ·obtain ⟨g1,g2⟩:=hg eg
  have hw:ao (k - 1)=k - 1:=dL (by omega) (by omega)
  refine ob (er B S1 _) fun z hz=>fk (by omega) (by omega) (os ⟨⟨⟨?_,?_⟩,⟨?_,jf SZ ⟨hz.1.1,hz.1.2 (by omega)⟩⟩,hz.2.a0,hz.2.a1⟩,?_⟩)
  ·dsimp only; rw [hw]; omega
  ·dsimp only; rw [hw]; omega
  ·dsimp only; rw [hw,List.length_append,List.length_singleton]; omega
  ·dsimp only; rw [hw]; omega
 have aeX:xs.length≤65:=by omega
 refine ol (fun z:List (List Int)×Int=>(0≤z.2∧z.2≤xs.length)∧((z.1.length:Int)≤4095 * z.2∧(∀ r∈z.1,∃ i j h,r=[i,j,h]∧BH c xs i j h)∧∀ i j h,i < z.2→BH c xs i j h→[i,j,h]∈z.1)) (fun z=>(xs.length - z.2).toNat) ⟨⟨by show (0:Int)≤0; omega,by show (0:Int)≤_; omega⟩,by show (0:Int)≤4095 * 0; omega,fun r hr=>absurd hr List.not_mem_nil,fun i j h hi ha=>by dsimp only at hi; have:=ha.1.1.1; omega⟩ ?_
 rintro ⟨R,i⟩ ⟨⟨i0,i1⟩,hRl,XJ,XK⟩
 dsimp only at i0 i1 hRl XJ XK
 show Ok (qB c xs R i) _
 unfold qB
 refine od (fun hi=>?_) fun hi=>os ⟨rfl,?_⟩
 ·refine ol (fun z:List (List Int)×Int=>(0≤z.2∧z.2≤xs.length)∧((z.1.length:Int)≤4095 * i+63 * z.2∧(∀ r∈z.1,∃ i j h,r=[i,j,h]∧BH c xs i j h)∧∀ i' j h,i' < i∨(i'=i∧j < z.2)→BH c xs i' j h→[i',j,h]∈z.1)) (fun z=>(xs.length - z.2).toNat) ⟨⟨by show (0:Int)≤0; omega,by show (0:Int)≤_; omega⟩,by dsimp only; omega,XJ,fun i' j h hh ha=>XK i' j h (by dsimp only at hh; have:=ha.1.2.1; omega) ha⟩ ?_
  rintro ⟨R1,j⟩ ⟨⟨j0,j1⟩,aeY,Rq,Rs⟩
  dsimp only at j0 j1 aeY Rq Rs
  show Ok (qA c xs i R1 j) _
  unfold qA
  refine od (fun hj=>?_) fun hj=>os ⟨rfl,os ⟨⟨⟨?_,?_⟩,?_,Rq,fun i' j' h hh ha=>Rs i' j' h ?_ ha⟩,?_⟩⟩
  ·refine oe (cH i0 hi) (oe (cH j0 hj) (ob (C1 T.t.tl (by omega) _ _) fun hm XL=>?_))
   have Gr:=XL.1
   refine ol (fun z:List (List Int)×Int=>(0≤z.2∧z.2≤hm.length)∧((z.1.length:Int)≤4095 * i+63 * j+z.2∧(∀ r∈z.1,∃ i j h,r=[i,j,h]∧BH c xs i j h)∧(∀ i' j' h,i' < i∨(i'=i∧j' < j)→BH c xs i' j' h→[i',j',h]∈z.1)∧∀ q:Int,0≤q→q < z.2→[i,j,gi hm q]∈z.1)) (fun z=>(hm.length - z.2).toNat) ⟨⟨by show (0:Int)≤0; omega,by show (0:Int)≤_; omega⟩,by dsimp only; omega,Rq,Rs,fun q q0 q1=>by dsimp only at q1; omega⟩ ?_
   rintro ⟨R2,q⟩ ⟨⟨q0,q1⟩,aeZ,Ru,Rv,Rw⟩
   dsimp only at q0 q1 aeZ Ru Rv Rw
   show Ok (pZ i j hm R2 q) _
   unfold pZ
   refine od (fun hq=>oe (cH q0 hq) (fk (by omega) (by omega) (os ⟨⟨⟨?_,?_⟩,?_,jf Ru ⟨i,j,gi hm q,rfl,⟨⟨⟨i0,hi⟩,j0,hj⟩,(XL.2 _).1 (fj q0 hq)⟩⟩,fun i' j' h hh ha=>List.mem_append_left _ (Rv i' j' h hh ha),fun p p0 p1=>?_⟩,?_⟩))) fun hq=>os ⟨rfl,os ⟨⟨⟨?_,?_⟩,?_,Ru,fun i' j' h hh ha=>?_⟩,?_⟩⟩
   ·dsimp only; rw [w1 q0 hq (by omega)]; omega
   ·dsimp only; rw [w1 q0 hq (by omega)]; omega
   ·dsimp only; rw [w1 q0 hq (by omega),List.length_append,List.length_singleton]; omega
   ·dsimp only at p1 ⊢
    rw [w1 q0 hq (by omega)] at p1
    by_cases ep:p=q
    ·rw [ep]; simp
    ·exact List.mem_append_left _ (Rw p p0 (by omega))
   ·dsimp only; rw [w1 q0 hq (by omega)]; omega
   ·dsimp only; rw [w1 j0 hj (by omega)]; omega
   ·dsimp only; rw [w1 j0 hj (by omega)]; omega
   ·dsimp only; rw [w1 j0 hj (by omega)]; omega
   ·dsimp only at hh ⊢
    rw [w1 j0 hj (by omega)] at hh
    by_cases e:i'=i∧j'=j
    ·obtain ⟨rfl,rfl⟩:=e
     have L9:=(XL.2 h).2 ha.2
     obtain ⟨p,p0,p1,ep⟩:=ue L9
     rw [← ep]
     exact Rw p p0 (by omega)
    ·exact Rv i' j' h (by omega) ha
   ·dsimp only; rw [w1 j0 hj (by omega)]; omega
  ·dsimp only; rw [w1 i0 hi (by omega)]; omega
  ·dsimp only; rw [w1 i0 hi (by omega)]; omega
  ·dsimp only; rw [w1 i0 hi (by omega)]; omega
  ·dsimp only at hh
   rw [w1 i0 hi (by omega)] at hh
   have:=ha.1.2.2
   omega
  ·dsimp only; rw [w1 i0 hi (by omega)]; omega
 have F:Fat c xs R:=⟨aeX,SZ,by omega,XJ,fun i' j h ha=>XK i' j h (by have:=ha.1.1.2; omega) ha⟩
 have h3:=F.three
 have hR3:=F.l
 refine ob (ME (k:=0) (by omega) (by omega) F.l h3) fun ys zR=>ob (ME (k:=1) (by omega) (by omega) F.l h3) fun zs vW=>?_
 refine ol (fun z:Int×List Int=>(0≤z.1∧z.1≤xs.length)∧(z.2.length:Int)=z.1∧∀ q:Int,0≤q→q < z.1→gi z.2 q=xq R [q,q,gi c.aJ (gi xs q)]) (fun z=>(xs.length - z.1).toNat) ⟨⟨by show (0:Int)≤0; omega,by show (0:Int)≤_; omega⟩,rfl,fun q q0 q1=>by dsimp only at q1; omega⟩ ?_
 rintro ⟨q,ids⟩ ⟨⟨q0,q1⟩,ae0,Rx⟩
 dsimp only at q0 q1 ae0 Rx
 show Ok (qC c xs R q ids) _
 unfold qC
 refine od (fun hq=>?_) fun hq=>os ⟨rfl,?_⟩
 ·have o:=F.Rp q0 hq
  refine oe (cH q0 hq) (oe (T.t.oK o.1 o.2) (oe (Jk _ F.l h3).1 (fk (by omega) (by omega) (os ⟨⟨⟨?_,?_⟩,?_,fun p p0 p1=>?_⟩,?_⟩))))
  ·dsimp only; rw [w1 q0 hq (by omega)]; omega
  ·dsimp only; rw [w1 q0 hq (by omega)]; omega
  ·dsimp only; rw [w1 q0 hq (by omega),List.length_append,List.length_singleton]; omega
  ·dsimp only at p1 ⊢
   rw [w1 q0 hq (by omega)] at p1
   rw [mb p0]
   by_cases e:p < ids.length
   ·rw [if_pos e]; exact Rx p p0 (by omega)
   ·rw [if_neg e,if_pos (by omega),show p=q by omega]
  ·dsimp only; rw [w1 q0 hq (by omega)]; omega
 have Iv:∀ K:List (List Int),eC (aI.mk (xs.length:Int) ys zs ids K)=some (decide ((xs.length:Int)≤8) && decide ((R.length:Int)≤40)):=fun K=>by
  unfold eC
  dsimp only
  rw [zR.1]
  by_cases h8:(xs.length:Int)≤8
  ·rw [bc h8,cond_true,aG,Bool.true_and]; rfl
  ·rw [br h8,cond_false,aG,Bool.false_and]; rfl
 refine ol (fun z:Int×List (List Int)=>(0≤z.1∧z.1≤R.length)∧(z.2.length:Int)=z.1∧(∀ r∈z.2,r.length=R.length)∧∀ a b:Int,0≤a→a < z.1→0≤b→b < R.length→gk z.2 a b=if gi (gr R a) 1=gi (gr R b) 0 then xq R [gi (gr R a) 0,gi (gr R b) 1,gk c.aE (gi (gr R a) 2) (gi (gr R b) 2)] else -1) (fun z=>(R.length - z.1).toNat) ⟨⟨by show (0:Int)≤0; omega,by show (0:Int)≤_; omega⟩,rfl,fun r hr=>absurd hr List.not_mem_nil,fun a b a0 a1=>by dsimp only at a1; omega⟩ ?_
 rintro ⟨a,K⟩ ⟨⟨a0,a1⟩,hKl,S4,XM⟩
 dsimp only at a0 a1 hKl S4 XM
 show Ok (qE c xs R ys zs ids a K) _
 unfold qE
 refine ob (P:=fun g=>(g=true→a < R.length)∧(g=false→(decide ((xs.length:Int)≤8) && decide ((R.length:Int)≤40))=false∨a=R.length)) (od (fun h=>oe (Iv K) (os ⟨fun _=>h,fun h2=>.inl h2⟩)) fun h=>os ⟨fun h2=>(by cases h2),fun _=>.inr (by omega)⟩) fun g hg=>oc (fun eg=>?_) fun eg=>os ⟨rfl,?_⟩
 ·have ha:=hg.1 eg
  refine ol (fun z:List Int×Int=>(0≤z.2∧z.2≤R.length)∧(z.1.length:Int)=z.2∧∀ b:Int,0≤b→b < z.2→gi z.1 b=if gi (gr R a) 1=gi (gr R b) 0 then xq R [gi (gr R a) 0,gi (gr R b) 1,gk c.aE (gi (gr R a) 2) (gi (gr R b) 2)] else -1) (fun z=>(R.length - z.2).toNat) ⟨⟨by show (0:Int)≤0; omega,by show (0:Int)≤_; omega⟩,rfl,fun b b0 b1=>by dsimp only at b1; omega⟩ ?_
  rintro ⟨row,b⟩ ⟨⟨b0,b1⟩,zM,XN⟩
  dsimp only at b0 b1 zM XN
  show Ok (qD c R a row b) _
  unfold qD
  refine od (fun hb=>?_) fun hb=>os ⟨rfl,fk (by omega) (by omega) (os ⟨⟨⟨?_,?_⟩,?_,jf S4 (by omega),fun p b p0 p1 b0 b1=>?_⟩,?_⟩)⟩
  ·have A:=(F.Cr a0 ha).2
   have Bw:=(F.Cr b0 hb).2
   have la:=h3 _ (nn a0 ha)
   have lb:=h3 _ (nn b0 hb)
   have i0':idx (gr R a) 0=some (gi (gr R a) 0):=cH (by omega) (by omega)
   have i1':idx (gr R a) 1=some (gi (gr R a) 1):=cH (by omega) (by omega)
   have i2':idx (gr R a) 2=some (gi (gr R a) 2):=cH (by omega) (by omega)
   have j0':idx (gr R b) 0=some (gi (gr R b) 0):=cH (by omega) (by omega)
   have j1':idx (gr R b) 1=some (gi (gr R b) 1):=cH (by omega) (by omega)
   have j2':idx (gr R b) 2=some (gi (gr R b) 2):=cH (by omega) (by omega)
   have fin:∀ {v:Int},v=(if gi (gr R a) 1=gi (gr R b) 0 then xq R [gi (gr R a) 0,gi (gr R b) 1,gk c.aE (gi (gr R a) 2) (gi (gr R b) 2)] else -1)→∀ {E:List Int×Int→Prop} {G:aI×aO×aL→Prop},Ok (some (Out.norm (row++[v],ao (b+1)):Out (List Int×Int) (aI×aO×aL))) (E8 14 (fun z:List Int×Int=>(0≤z.2∧z.2≤R.length)∧(z.1.length:Int)=z.2∧∀ b:Int,0≤b→b < z.2→gi z.1 b=if gi (gr R a) 1=gi (gr R b) 0 then xq R [gi (gr R a) 0,gi (gr R b) 1,gk c.aE (gi (gr R a) 2) (gi (gr R b) 2)] else -1) (fun z=>(R.length - z.2).toNat) (R.length - b).toNat E G):=by
    intro v hv E G
    have hw:=w1 b0 hb (by omega)
    refine os ⟨⟨⟨?_,?_⟩,?_,fun p p0 p1=>?_⟩,?_⟩
    ·dsimp only; rw [hw]; omega
    ·dsimp only; rw [hw]; omega
    ·dsimp only; rw [hw,List.length_append,List.length_singleton]; omega
    ·dsimp only at p1 ⊢
     rw [hw] at p1
     rw [mb p0]
     by_cases e:p < row.length
     ·rw [if_pos e]; exact XN p p0 (by omega)
     ·rw [if_neg e,if_pos (by omega),show p=b by omega]; exact hv
    ·dsimp only; rw [hw]; omega
   refine oe (mm a0 ha) (oe i1' (oe (mm b0 hb) (oe j0' (oc (fun e=>?_) fun e=>fk (by omega) (by omega) (fin ?_)))))
   ·have e:=eq_of_beq e
    refine oe (mm a0 ha) (oe i0' (oe (mm b0 hb) (oe j1' (oe (mm a0 ha) (oe i2' (oe (mm b0 hb) (oe j2' (oe (Jl T.t A.2.1.1 A.2.1.2 Bw.2.1.1 Bw.2.1.2) (oe (Jk _ F.l h3).1 (fk (by omega) (by omega) (fin ?_)))))))))))
    rw [if_pos e]
   ·have e : ¬ gi (gr R a) 1=gi (gr R b) 0:=by simpa using e
    rw [if_neg e]
  ·dsimp only; rw [w1 a0 ha (by omega)]; omega
  ·dsimp only; rw [w1 a0 ha (by omega)]; omega
  ·dsimp only; rw [w1 a0 ha (by omega),List.length_append,List.length_singleton]; omega
  ·dsimp only at p1 ⊢
   rw [w1 a0 ha (by omega)] at p1
   unfold gk
   rw [Cs p0]
   by_cases e:p < K.length
   ·rw [if_pos e]; exact XM p b p0 (by omega) b0 b1
   ·rw [if_neg e,show p=a by omega,show a - (K.length:Int)=0 by omega]
    exact XN b b0 (by omega)
  ·dsimp only; rw [w1 a0 ha (by omega)]; omega
 refine oe (Iv K) (oc (fun e=>?_) fun e=>?_)
 ·exact ob (yG T) fun f hf=>os ⟨⟨c,c,T,T,hf.1⟩,S.at_ t0 t1⟩
 ·have e:(decide ((xs.length:Int)≤8) && decide ((R.length:Int)≤40))=true:=by simpa using e
  have haR:a=R.length:=(hg.2 eg).elim (fun h=>by rw [h] at e; cases e) fun h=>h
  rw [Bool.and_eq_true] at e
  have e8:=of_decide_eq_true e.1
  have SD:=of_decide_eq_true e.2
  have D:XH c xs R (aI.mk (xs.length:Int) ys zs ids K):=⟨rfl,zR.1,vW.1,by show (ids.length:Int)=_; omega,by show K.length=_; omega,zR.2,vW.2,fun q q0 q1=>Rx q q0 (by omega),S4,fun p b p0 p1 b0 b1=>XM p b p0 (by omega) b0 b1⟩
  have D7:T7 (aI.mk (xs.length:Int) ys zs ids K):=⟨XI T F D,by show ys.length≤63; rw [zR.1]; omega,by show (xs.length:Int)≤63; omega,⟨by show ys.length≤_; rw [zR.1]; omega,by show zs.length≤_; rw [vW.1]; omega,by show ids.length≤_; omega,by show K.length≤_; omega,fun r hr=>by rw [S4 r hr]; omega⟩⟩
  refine ob (ME (k:=2) (by omega) (by omega) F.l h3) fun ws S5=>oe (sx D7.s T.s (by omega) (by rw [S5.1]; omega)) (os ⟨⟨_,c,D7,T,rfl,rfl,rfl,SZ,⟨?_,fun p p0 p1 _=>?_⟩,fun p p0 p1=>?_⟩,S.at_ t0 t1⟩)
  ·show ws.length=ys.length
   rw [S5.1,zR.1]
  ·replace p1:p < ys.length:=p1
   rw [zR.1] at p1
   have A:=(F.Cr p0 p1).2
   show gi ws p < c.aH.length∧gi c.aH (gi ws p)=gi xs (gi ys p)∧gi c.To (gi ws p)=gi xs (gi zs p)
   rw [S5.2 p p0 p1,zR.2 p p0 p1,vW.2 p p0 p1]
   exact ⟨A.2.1.2,A.2.2.1,A.2.2.2⟩
  ·replace p1:p < ys.length:=p1
   rw [zR.1] at p1
   have A:=(F.Cr p0 p1).2
   show 0≤gi ws p
   rw [S5.2 p p0 p1]
   exact A.2.1.1
end
end Go.Proofs.YtjdkifckhidlbaaGreat
namespace Go.Proofs.YtjdkifckhidlbaaGreat
open Go Go.Li
set_option linter.unusedVariables false
set_option linter.unusedSectionVars false
set_option linter.unusedSimpArgs false
theorem XO {c:aI} (T:T7 c):lh 63 63 c:=⟨T.t.o0,T.o,T.m,T.t.tl,T.t.il,T.t.kl,T.t.kr⟩
theorem FP {c:aI} (T:T7 c):gT c=some (vQ c):=by
 have c1:=T.m
 have c2:=T.t.tl
 have c3:=T.t.il
 have c4:=T.o
 suffices h:Ok (gT c) fun e=>e=vQ c by
  obtain ⟨y,h1,h2⟩:=h
  rw [h1,h2]
 unfold gT
 refine jv (oe (ee _ (by omega)) (oe (ee _ (by omega)) (oe (ee _ (by omega)) ?_)))
 refine ol (fun z:Int×List (List Int)=>(0≤z.1∧z.1≤c.aH.length)∧z.2=cn z.1.toNat fun f=>cn c.aH.length fun g=>gk c.aE g f) (fun z=>(c.aH.length - z.1).toNat) ⟨⟨by show (0:Int)≤0; omega,by show (0:Int)≤_; omega⟩,rfl⟩ ?_
 rintro ⟨i,k⟩ ⟨⟨i0,i1⟩,hk⟩
 dsimp only at i0 i1 hk
 show Ok (jM c i k) _
 unfold jM
 have BA:k.length=i.toNat:=by rw [hk,cL]
 refine od (fun hi=>?_) fun hi=>os ⟨rfl,os ?_⟩
 ·refine ol (fun z:List Int×Int=>(0≤z.2∧z.2≤c.aH.length)∧z.1=cn z.2.toNat fun g=>gk c.aE g i) (fun z=>(c.aH.length - z.2).toNat) ⟨⟨by show (0:Int)≤0; omega,by show (0:Int)≤_; omega⟩,rfl⟩ ?_
  rintro ⟨row,j⟩ ⟨⟨j0,j1⟩,bg⟩
  dsimp only at j0 j1 bg
  show Ok (jL c i row j) _
  unfold jL
  have zM:row.length=j.toNat:=by rw [bg,cL]
  refine od (fun hj=>?_) fun hj=>os ⟨rfl,?_⟩
  ·have hw:=w1 j0 hj (by omega)
   refine oe (T.t.o5 j0 hj) (oe (T.t.nt j0 hj i0 hi) (fk (by omega) (by omega) (os ⟨⟨⟨?_,?_⟩,?_⟩,?_⟩)))
   ·dsimp only; rw [hw]; omega
   ·dsimp only; rw [hw]; omega
   ·dsimp only; rw [hw,show (j+1).toNat=j.toNat+1 by omega,mq,bg,show ((j.toNat:Nat):Int)=j by omega]
   ·dsimp only; rw [hw]; omega
  ·have hw:=w1 i0 hi (by omega)
   obtain rfl:j=c.aH.length:=by omega
   refine fk (by omega) (by omega) (os ⟨⟨⟨?_,?_⟩,?_⟩,?_⟩)
   ·dsimp only; rw [hw]; omega
   ·dsimp only; rw [hw]; omega
   ·dsimp only; rw [hw,show (i+1).toNat=i.toNat+1 by omega,mq,hk,show ((i.toNat:Nat):Int)=i by omega,bg,Int.toNat_natCast]
   ·dsimp only; rw [hw]; omega
 ·obtain rfl:i=c.aH.length:=by omega
  rw [hk,Int.toNat_natCast]; rfl
theorem Dv {c:aI} (T:T7 c):T7 (vQ c):=by
 obtain ⟨y,e,h1,h2⟩:=XP (XO T) T.t (by omega) (by omega)
 rw [FP T] at e
 obtain rfl:=Option.some.inj e
 have m:=T.m
 have tl:=T.t.tl
 exact ⟨h2,by show c.To.length≤63; omega,T.o,h1.small (by omega) (by omega)⟩
theorem Bd {f:aO} (T:T7 f.aB) (U:T7 f.aF) (ho:f.aA.length≤1048576) (ha:f.ae.length≤1048576):jQ f=some (yH f):=by
 unfold jQ
 rw [FP T,aG,FP U,aG,sx (Dv T).s (Dv U).s ho ha]; rfl
theorem S6 {c d:aI} {f:aO} (T:T7 c) (U:T7 d) (F:FF c d f):FF (vQ c) (vQ d) (yH f):=by
 obtain ⟨s,t,ol_,oo,⟨len,ok⟩,pos⟩:=F
 have tl:=T.t.tl
 refine ⟨by show vQ f.aB=_; rw [s],by show vQ f.aF=_; rw [t],ol_,oo,⟨len.trans tl.symm,fun a a0 a1 h=>?_⟩,fun a a0 a1=>pos a a0 (by replace a1:a < c.To.length:=a1; omega)⟩
 replace a1:a < c.To.length:=a1
 have k:=ok a a0 (by omega) h
 have k1:=k.1
 show gi f.ae a < d.To.length∧_
 exact ⟨by rw [U.t.tl]; exact k1,k.2.2,k.2.1⟩
structure A7 (a:aS):Prop where
 ls:T7 a.Left.aB
 lt:T7 a.Left.aF
 rs:T7 a.ab.aB
 rt:T7 a.ab.aF
 lo:a.Left.aA.length≤1000
 la:a.Left.ae.length≤1000
 ro:a.ab.aA.length≤1000
 ra:a.ab.ae.length≤1000
 u:a.Unit.length≤1000
 k:a.ba.length≤1000
theorem A7.small {a:aS} (h:A7 a):r9 a:=⟨⟨h.ls.s,h.lt.s,by have:=h.lo; omega,by have:=h.la; omega⟩,⟨h.rs.s,h.rt.s,by have:=h.ro; omega,by have:=h.ra; omega⟩,by have:=h.u; omega,by have:=h.k; omega⟩
theorem XQ {a:aS} (h:A7 a):Ok (iB a) A7:=by
 have h1:=h.lo
 have h2:=h.la
 have h3:=h.ro
 have h4:=h.ra
 have h5:=h.u
 have h6:=h.k
 unfold iB
 refine jv (oe (Bd h.rs h.rt (by omega) (by omega)) (oe (Bd h.ls h.lt (by omega) (by omega)) (oe (ee _ (by omega)) (oe (ee _ (by omega)) (os ?_)))))
 exact ⟨Dv h.rs,Dv h.rt,Dv h.ls,Dv h.lt,h3,h4,h1,h2,h6,h5⟩
section
variable {c d:aI} {f:aO} (T:T7 c) (U:T7 d) (F:FF c d f)
include T U F
theorem XR {x:Int} (x0:0≤x) (x1:x < c.aA):idx f.aA x=some (gi f.aA x)∧0≤gi f.aA x∧gi f.aA x < d.aA:=⟨cH x0 (by rw [F.ol]; exact x1),F.oo _ (fj x0 (by rw [F.ol]; exact x1))⟩
theorem ffa {a:Int} (a0:0≤a) (a1:a < c.aH.length):idx f.ae a=some (gi f.ae a)∧zj d (gi f.aA (gi c.aH a)) (gi f.aA (gi c.To a)) (gi f.ae a):=by
 have p:=F.ar.2 a a0 a1
 have k:=F.ar.1.ok a a0 a1 p
 exact ⟨cH a0 (by rw [F.ar.1.len]; exact a1),⟨p,k.1⟩,k.2⟩
theorem Um (x z e due:Int) (e0:0≤e) (e1:e < d.aH.length):Ok (gB f x z e due) fun l=>l.length≤63∧∀ u∈l,0≤u∧u < c.aH.length:=by
 have cm:=T.m
 unfold gB
 rw [F.s]
 refine jv (ob (C1 T.t.tl (by omega) _ _) fun hm hh=>?_)
 have hl:=hh.1
 refine ol (fun z:List Int×Int=>(0≤z.2∧z.2≤hm.length)∧(z.1.length:Int)≤z.2∧∀ u∈z.1,0≤u∧u < c.aH.length) (fun z=>(hm.length - z.2).toNat) ⟨⟨by show (0:Int)≤0; omega,by show (0:Int)≤_; omega⟩,by show (0:Int)≤0; omega,lu⟩ ?_
 rintro ⟨l,i⟩ ⟨⟨i0,i1⟩,OT,hv⟩
 dsimp only at i0 i1 OT hv
 show Ok (oN f e due hm l i) _
 unfold oN
 rw [F.t]
 refine od (fun hi=>?_) fun hi=>os ⟨rfl,os ⟨by omega,hv⟩⟩
 have ku:=((hh.2 _).1 (fj i0 hi)).1
 have ka:=ffa T U F ku.1 ku.2
 have hw:=w1 i0 hi (by omega)
 refine oe (cH i0 hi) (oe ka.1 (oe (Jl U.t ka.2.1.1 ka.2.1.2 e0 e1) (oc (fun _=>oe (cH i0 hi) (fk (by omega) (by omega) (os ⟨⟨⟨?_,?_⟩,?_,jf hv ku⟩,?_⟩))) fun _=>os ⟨⟨⟨?_,?_⟩,?_,hv⟩,?_⟩)))
 all_goals (try dsimp only)
 all_goals rw [hw]
 all_goals (try simp only [List.length_append,List.length_singleton])
 all_goals omega
def UP (f:aO) (y x e:Int):Prop:=(0≤x∧x < f.aB.aA)∧zj f.aF (gi f.aA x) y e∧∀ z h:Int,0≤z→z < f.aB.aA→zj f.aF (gi f.aA z) y h→∃ l,gB f z x e h=some l∧l.length=1
theorem JW (y x e:Int) (e0:0≤e) (e1:e < d.aH.length):Ok (lC f y x e) fun b=>b=true→∀ z h:Int,0≤z→z < c.aA→zj d (gi f.aA z) y h→∃ l,gB f z x e h=some l∧l.length=1:=by
 have cm:=T.m
 have dm:=U.m
 have co:=T.o
 have c0:=T.t.o0
 unfold lC
 refine jv (ol (fun i:Int=>(0≤i∧i≤c.aA)∧∀ z h:Int,0≤z→z < i→zj d (gi f.aA z) y h→∃ l,gB f z x e h=some l∧l.length=1) (fun i=>(c.aA - i).toNat) ⟨⟨by omega,by omega⟩,fun z h z0 z1=>by omega⟩ ?_)
 rintro i ⟨⟨i0,i1⟩,hJ⟩
 unfold pE
 rw [F.s,F.t]
 refine od (fun hi=>?_) fun hi=>os ⟨rfl,os fun _ z h z0 z1=>hJ z h z0 (by omega)⟩
 have ko:=XR T U F i0 hi
 refine oe ko.1 (ob (C1 U.t.tl (by omega) _ _) fun hm hh=>?_)
 have hl:=hh.1
 refine ol (fun q:Int=>(0≤q∧q≤hm.length)∧∀ p:Int,0≤p→p < q→∃ l,gB f i x e (gi hm p)=some l∧l.length=1) (fun q=>(hm.length - q).toNat) ⟨⟨by omega,by omega⟩,fun p p0 p1=>by omega⟩ ?_
 rintro q ⟨⟨q0,q1⟩,hQ⟩
 unfold pD
 refine od (fun hq=>?_) fun hq=>os ⟨rfl,os ⟨⟨⟨?_,?_⟩,fun z h z0 z1 hz=>?_⟩,?_⟩⟩
 ·refine oe (cH q0 hq) ?_
  obtain ⟨l,el,_⟩:=Um T U F i x e (gi hm q) e0 e1
  refine oe el (oc (fun _=>os fun h=>(by cases h)) fun hb=>os ⟨⟨⟨?_,?_⟩,fun p p0 p1=>?_⟩,?_⟩)
  ·rw [w1 q0 hq (by omega)]; omega
  ·rw [w1 q0 hq (by omega)]; omega
  ·rw [w1 q0 hq (by omega)] at p1
   by_cases ep:p=q
   ·refine ⟨l,by rw [ep]; exact el,?_⟩
    have:(l.length:Int)=1:=by simpa using hb
    omega
   ·exact hQ p p0 (by omega)
  ·dsimp only; rw [w1 q0 hq (by omega)]; omega
 ·rw [w1 i0 hi (by omega)]; omega
 ·rw [w1 i0 hi (by omega)]; omega
 ·rw [w1 i0 hi (by omega)] at z1
  by_cases ez:z=i
  ·subst ez
   obtain ⟨p,p0,p1,ep⟩:=ue ((hh.2 h).2 hz)
   rw [← ep]
   exact hQ p p0 (by omega)
  ·exact hJ z h z0 (by omega) hz
 ·dsimp only; rw [w1 i0 hi (by omega)]; omega
theorem XS (y:Int):Ok (pF f y) fun r=>r.2.2=true→UP f y r.1 r.2.1:=by
 have cm:=T.m
 have dm:=U.m
 have co:=T.o
 have c0:=T.t.o0
 unfold pF
 refine jv (ol (fun i:Int=>0≤i∧i≤c.aA) (fun i=>(c.aA - i).toNat) ⟨by omega,by omega⟩ ?_)
 rintro i ⟨i0,i1⟩
 unfold rE
 rw [F.s,F.t]
 refine od (fun hi=>?_) fun hi=>os ⟨rfl,os fun h=>(by cases h)⟩
 have ko:=XR T U F i0 hi
 refine oe ko.1 (ob (C1 U.t.tl (by omega) _ _) fun hm hh=>?_)
 have hl:=hh.1
 refine ol (fun q:Int=>0≤q∧q≤hm.length) (fun q=>(hm.length - q).toNat) ⟨by omega,by omega⟩ ?_
 rintro q ⟨q0,q1⟩
 unfold rD
 refine od (fun hq=>?_) fun hq=>os ⟨rfl,os ⟨⟨?_,?_⟩,?_⟩⟩
 ·have ke:=(hh.2 _).1 (fj q0 hq)
  refine oe (cH q0 hq) (ob (JW T U F y i (gi hm q) ke.1.1 ke.1.2) fun b hb=>oc (fun eb=>oe (cH q0 hq) (os fun _=>⟨⟨i0,by rw [F.s]; exact hi⟩,by rw [F.t]; exact ke,?_⟩)) fun _=>os ⟨⟨?_,?_⟩,?_⟩)
  ·rw [F.s,F.t]
   exact hb eb
  ·rw [w1 q0 hq (by omega)]; omega
  ·rw [w1 q0 hq (by omega)]; omega
  ·dsimp only; rw [w1 q0 hq (by omega)]; omega
 ·rw [w1 i0 hi (by omega)]; omega
 ·rw [w1 i0 hi (by omega)]; omega
 ·dsimp only; rw [w1 i0 hi (by omega)]; omega
theorem Aj:Ok (iK f) fun r=>r.2=true→A7 r.1:=by
 have cm:=T.m
 have dm:=U.m
 have co:=T.o
 have c0:=T.t.o0
 have d0:=U.t.o0
 have d8:=U.o
 have fs:=F.small T U
 have Si:=F.ol
 have yc:=F.ar.1.len
 obtain ⟨eS,eT,_⟩:=id F
 unfold iK
 refine jv (ol (fun z:List Int×List Int×Int=>(0≤z.2.2∧z.2.2≤d.aA)∧((z.1.length:Int)=z.2.2∧(z.2.1.length:Int)=z.2.2)∧∀ y:Int,0≤y→y < z.2.2→UP f y (gi z.1 y) (gi z.2.1 y)) (fun z=>(d.aA - z.2.2).toNat) ⟨⟨by show (0:Int)≤0; omega,by show (0:Int)≤_; omega⟩,⟨rfl,rfl⟩,fun y y0 y1=>by dsimp only at y1; omega⟩ ?_)
 rintro ⟨xs,es,y⟩ ⟨⟨y0,y1⟩,⟨hx,he⟩,hU⟩
 dsimp only at y0 y1 hx he hU
 show Ok (oO f xs es y) _
 unfold oO
 rw [eT]
 refine od (fun hy=>ob (XS T U F y) fun r hr=>oc (fun _=>os fun h=>(by cases h)) fun hb=>fk (by omega) (by omega) (fk (by omega) (by omega) (os ⟨⟨⟨?_,?_⟩,⟨?_,?_⟩,fun p p0 p1=>?_⟩,?_⟩))) fun hy=>os ⟨rfl,?_⟩
 ·dsimp only; rw [w1 y0 hy (by omega)]; omega
 ·dsimp only; rw [w1 y0 hy (by omega)]; omega
 ·dsimp only; rw [w1 y0 hy (by omega),List.length_append,List.length_singleton]; omega
 ·dsimp only; rw [w1 y0 hy (by omega),List.length_append,List.length_singleton]; omega
 ·dsimp only at p1 ⊢
  rw [w1 y0 hy (by omega)] at p1
  rw [mb p0,mb p0]
  by_cases e:p < xs.length
  ·rw [if_pos e,if_pos (by omega)]; exact hU p p0 (by omega)
  ·rw [if_neg e,if_pos (by omega),if_neg (by omega),if_pos (by omega),show p=y by omega]
   exact hr (by simpa using hb)
 ·dsimp only; rw [w1 y0 hy (by omega)]; omega
 have hyd:y=d.aA:=by omega
 subst hyd
 refine ol (fun z:List Int×Int=>(0≤z.2∧z.2≤d.aH.length)∧(z.1.length:Int)=z.2) (fun z=>(d.aH.length - z.2).toNat) ⟨⟨by show (0:Int)≤0; omega,by show (0:Int)≤_; omega⟩,rfl⟩ ?_
 rintro ⟨KX,g⟩ ⟨⟨g0,g1⟩,hg⟩
 dsimp only at g0 g1 hg
 show Ok (oP f xs es KX g) _
 unfold oP
 rw [eT]
 refine od (fun xj=>?_) fun xj=>os ⟨rfl,?_⟩
 ·have kf:=U.t.fr g0 xj
  have kt:=U.t.to g0 xj
  obtain ⟨a1,a2,a3⟩:=hU _ kf.1 kf.2
  obtain ⟨b1,b2,b3⟩:=hU _ kt.1 kt.2
  rw [eS] at a1 b1
  rw [eT] at a2 b2
  have kc:=U.t.cell _ g a2.1.1 a2.1.2 g0 xj (by rw [a2.2.2])
  obtain ⟨l,el,hl1⟩:=b3 (gi xs (gi d.aH g)) (gk d.aE (gi es (gi d.aH g)) g) a1.1 (by rw [eS]; exact a1.2) (by rw [eT]; exact ⟨kc.1,kc.2.1.trans a2.2.1,kc.2.2⟩)
  refine oe (U.t.lg g0 xj) (oe (U.t.ma g0 xj) (oe (cH kf.1 (by omega)) (oe (cH kt.1 (by omega)) (oe (cH kt.1 (by omega)) (oe (cH kf.1 (by omega)) (oe (Jl U.t a2.1.1 a2.1.2 g0 xj) (oe el (oe (cH (by omega) (by omega)) (fk (by omega) (by omega) (os ⟨⟨⟨?_,?_⟩,?_⟩,?_⟩))))))))))
  ·dsimp only; rw [w1 g0 xj (by omega)]; omega
  ·dsimp only; rw [w1 g0 xj (by omega)]; omega
  ·dsimp only; rw [w1 g0 xj (by omega),List.length_append,List.length_singleton]; omega
  ·dsimp only; rw [w1 g0 xj (by omega)]; omega
 refine ol (fun z:List Int×Int=>(0≤z.2∧z.2≤c.aA)∧(z.1.length:Int)=z.2) (fun z=>(c.aA - z.2).toNat) ⟨⟨by show (0:Int)≤0; omega,by show (0:Int)≤_; omega⟩,rfl⟩ ?_
 rintro ⟨us,x⟩ ⟨⟨x0,x1⟩,hu⟩
 dsimp only at x0 x1 hu
 show Ok (oQ f xs es us x) _
 unfold oQ
 rw [eS,eT]
 refine od (fun pd=>?_) fun pd=>os ⟨rfl,?_⟩
 ·have ko:=XR T U F x0 pd
  obtain ⟨a1,a2,a3⟩:=hU _ ko.2.1 ko.2.2
  have ki:=U.t.id ko.2.1 ko.2.2
  obtain ⟨l,el,hl1⟩:=a3 x (gi d.aJ (gi f.aA x)) x0 (by rw [eS]; exact pd) (by rw [eT]; exact ⟨ki,U.t.vf _ ko.2.1 ko.2.2,U.t.vZ _ ko.2.1 ko.2.2⟩)
  refine oe ko.1 (oe (cH ko.2.1 (by omega)) (oe (cH ko.2.1 (by omega)) (oe (U.t.oK ko.2.1 ko.2.2) (oe el (oe (cH (by omega) (by omega)) (fk (by omega) (by omega) (os ⟨⟨⟨?_,?_⟩,?_⟩,?_⟩)))))))
  ·dsimp only; rw [w1 x0 pd (by omega)]; omega
  ·dsimp only; rw [w1 x0 pd (by omega)]; omega
  ·dsimp only; rw [w1 x0 pd (by omega),List.length_append,List.length_singleton]; omega
  ·dsimp only; rw [w1 x0 pd (by omega)]; omega
 have own:qJ f=some f:=by
  unfold qJ
  rw [sx fs.s fs.t fs.o fs.a,aG]; rfl
 refine oe own (oe (sx U.s T.s (by omega) (by omega)) (os fun _=>?_))
 exact ⟨by show T7 f.aB; rw [eS]; exact T,by show T7 f.aF; rw [eT]; exact U,U,T,by show f.aA.length≤1000; omega,by show f.ae.length≤1000; omega,by show xs.length≤1000; omega,by show KX.length≤1000; omega,by show us.length≤1000; omega,by show es.length≤1000; omega⟩
end
section
variable {x:List Int} (B:zm x)
include B
theorem XT {s:aL} (S:Src x s):Ok (pH s) fun y=>A7 y.1∧Src x y.2:=by
 have hlen:=B.len
 unfold pH
 refine jv (ol (fun z:Int×Int×Int=>(0≤z.1∧z.1≤10)∧(0≤z.2.1∧z.2.1≤x.length)) (fun z=>(10 - z.1).toNat) ⟨⟨by show (0:Int)≤0; omega,by show (0:Int)≤10; omega⟩,S.a0,S.a1⟩ ?_)
 rintro ⟨i,a,h⟩ ⟨⟨i0,i1⟩,a0,a1⟩
 dsimp only at i0 i1 a0 a1
 show Ok (pG s i a h) _
 unfold pG
 have S1:Src x (aL.mk s.Code a h):=S.at_ a0 a1
 refine od (fun hi=>?_) fun hi=>os ⟨rfl,?_⟩
 ·have OX:∀ {t:aL} {E:Int×Int×Int→Prop} {G:aS×aL→Prop},Src x t→Ok (some (Out.norm (ao (i+1),t.At,t.av):Out (Int×Int×Int) (aS×aL))) (E8 0 (fun z:Int×Int×Int=>(0≤z.1∧z.1≤10)∧(0≤z.2.1∧z.2.1≤x.length)) (fun z=>(10 - z.1).toNat) (10 - i).toNat E G):=by
   intro t E G St
   refine os ⟨⟨⟨?_,?_⟩,St.a0,St.a1⟩,?_⟩
   ·dsimp only; rw [w1 i0 hi (by omega)]; omega
   ·dsimp only; rw [w1 i0 hi (by omega)]; omega
   ·dsimp only; rw [w1 i0 hi (by omega)]; omega
  refine ob (Cu B S1 4 10) fun y hy=>?_
  have T:T7 y.1:=Ak hy.1 (by omega) (by omega)
  refine ob (MG B (S.on hy.2) T (by omega) (by omega)) fun w hw=>?_
  obtain ⟨⟨d,U,F,_⟩,S2⟩:=hw
  refine ob (er B (S.on S2) _) fun z hz=>oc (fun _=>?_) fun _=>?_
  ·refine ob (Cu B (S.on hz.2) 3 6) fun y2 Iy=>?_
   have T2:T7 y2.1:=Ak Iy.1 (by omega) (by omega)
   refine ob (aam B (S.on Iy.2) T2) fun v hv=>?_
   obtain ⟨⟨ca,da,Ta,Ua,Fa⟩,S3⟩:=hv
   have So:Src x (aL.mk s.Code v.2.2.At v.2.2.av):=S.on S3
   refine ob (Aj Ta Ua Fa) fun r hr=>oc (fun eb=>os ⟨hr eb,So⟩) fun _=>?_
   have OY:=Fa.small Ta Ua
   refine oe (Bd (by rw [Fa.s]; exact Ta) (by rw [Fa.t]; exact Ua) OY.o OY.a) (ob (Aj (Dv Ta) (Dv Ua) (S6 Ta Ua Fa)) fun r2 KM=>oc (fun eb=>ob (XQ (KM eb)) fun o ho=>os ⟨ho,So⟩) fun _=>OX S3)
  ·have So:Src x (aL.mk s.Code z.2.At z.2.av):=S.on hz.2
   refine ob (Aj T U F) fun r hr=>oc (fun eb=>os ⟨hr eb,So⟩) fun _=>?_
   have OY:=F.small T U
   refine oe (Bd (by rw [F.s]; exact T) (by rw [F.t]; exact U) OY.o OY.a) (ob (Aj (Dv T) (Dv U) (S6 T U F)) fun r2 KM=>oc (fun eb=>ob (XQ (KM eb)) fun o ho=>os ⟨ho,So⟩) fun _=>OX hz.2)
 ·refine ob (Cu B S1 4 10) fun y hy=>?_
  have T:T7 y.1:=Ak hy.1 (by omega) (by omega)
  have tm:=T.m
  have to_:=T.o
  have S7:=T.t.il
  have So:Src x (aL.mk s.Code y.2.At y.2.av):=S.on hy.2
  refine ob (yG T) fun f hf=>ob (yG T) fun g hg=>os ⟨?_,So⟩
  have F:=hf.1
  have G:=hg.1
  have h1:=F.ol
  have h2:=F.ar.1.len
  have h3:=G.ol
  have h4:=G.ar.1.len
  exact ⟨by show T7 f.aB; rw [F.s]; exact T,by show T7 f.aF; rw [F.t]; exact T,by show T7 g.aB; rw [G.s]; exact T,by show T7 g.aF; rw [G.t]; exact T,by show f.aA.length≤1000; omega,by show f.ae.length≤1000; omega,by show g.aA.length≤1000; omega,by show g.ae.length≤1000; omega,by show y.1.aJ.length≤1000; omega,by show y.1.aJ.length≤1000; omega⟩
theorem Jm {s:aL} (S:Src x s):Ok (kH s) fun y=>r9 y.1∧Src x y.2:=by
 unfold kH
 refine jv (ob (XT B S) fun y hy=>ob (er B (S.on hy.2) _) fun z hz=>?_)
 have A:=hy.1
 have sm:=A.small
 have h5:=A.u
 have h6:=A.k
 have So:Src x (aL.mk s.Code z.2.At z.2.av):=S.on hz.2
 refine oc (fun _=>od (fun hu=>oe (ee _ (by omega)) (ob (aan B So _) fun n hn=>oe (cH (by omega) hu) (os ⟨⟨sm.l,sm.r,?_,sm.k⟩,S.on hn⟩))) fun _=>os ⟨sm,So⟩) fun _=>oc (fun _=>oe (ee _ (by omega)) (fk (by omega) (by omega) (os ⟨⟨sm.l,sm.r,sm.u,?_⟩,So⟩))) fun _=>oc (fun _=>ob (Un B So) fun f hf=>os ⟨⟨hf.1,sm.r,sm.u,sm.k⟩,S.on hf.2⟩) fun _=>os ⟨sm,So⟩
 ·show (List.set _ _ _).length≤_
  rw [List.length_set]; exact sm.u
 ·show (_++[(0:Int)]).length≤_
  rw [List.length_append,List.length_singleton]; omega
end
end Go.Proofs.YtjdkifckhidlbaaGreat
namespace Go.Proofs.YtjdkifckhidlbaaGreat
open Go Go.Li
set_option linter.unusedVariables false
set_option linter.unusedSectionVars false
set_option linter.unusedSimpArgs false
structure XU (a:aS) (p q h:Int):Prop where
 A:Adj a
 x:0≤p∧p < a.Left.aB.aA
 y:0≤q∧q < a.Left.aF.aA
 g:0≤h∧h < a.Left.aF.aH.length
 f:gi a.Left.aF.aH h=gi a.Left.aA p
 t:gi a.Left.aF.To h=q
theorem Ry (c:aI) (f:Int):oA c f=some (decide (0≤f) && decide (f < c.aH.length)):=by
 unfold oA
 by_cases h:f ≥ 0
 ·rw [bc h,cond_true,aG]; rfl
 ·rw [br h,cond_false,aG]; rfl
theorem Jn (c:aI) (f:Int):lL c f=some (decide (0≤f) && decide (f < c.aA)):=by
 unfold lL
 by_cases h:f ≥ 0
 ·rw [bc h,cond_true,aG]; rfl
 ·rw [br h,cond_false,aG]; rfl
theorem Rz (n m:Int) (m0:0≤m) (m1:m≤1000000):gP n 0 (ao (m - 1))=some (decide (0≤n) && decide (n < m)):=by
 rw [Ag,dL (by omega) (by omega)]
 congr 2
 exact decide_eq_decide.2 (by omega)
section
variable {a:aS} (hs:r9 a) (A:Adj a)
include hs A
theorem aao (x y:Int):gL a x y=some (bif (decide (0≤x) && decide (x < a.Left.aB.aA)) && (decide (0≤y) && decide (y < a.Left.aF.aA)) then 0 else 2):=by
 have c0:=A.aC.o0
 have c8:=A.aC.o8
 have d0:=A.aD.o0
 have d8:=A.aD.o8
 unfold gL
 rw [sb hs,aG,yF A]
 simp only [Bool.not_true,cond_false]
 rw [Rz _ _ c0 (by omega),aG]
 cases h:decide (0≤x) && decide (x < a.Left.aB.aA) with
 | false=>rfl
 | true=>
  simp only [Bool.not_true,cond_false]
  rw [Rz _ _ d0 (by omega),aG]
  cases decide (0≤y) && decide (y < a.Left.aF.aA) <;> rfl
theorem FQ {d:aI} (D:nr d) (x y h:Int) (p q:Int) (at_:Int) (XV:Int→Int→Option Int) :
  fM a x y h d (qW.mk p q) at_ XV=bif !(decide (0≤h) && decide (h < d.aH.length)) then some (0,2) else bif !((gi d.aH h == p) && (gi d.To h == q)) then some (0,5) else (XV at_ h>>=fun v=>some (v,0)):=by
 have dm:=D.m
 unfold fM
 rw [show dB d=some (d.aH.length:Int) from rfl,aG,Rz _ _ (by omega) (by omega),aG]
 cases hh:decide (0≤h) && decide (h < d.aH.length) with
 | false=>rfl
 | true=>
  rw [Bool.and_eq_true] at hh
  simp only [Bool.not_true,cond_false]
  rw [E4 D.torL.toHead (of_decide_eq_true hh.1) (of_decide_eq_true hh.2),aG]
  dsimp only
  cases (gi d.aH h == p) && (gi d.To h == q) with
  | false=>rfl
  | true=>
   simp only [Bool.not_true,cond_false]
   cases XV at_ h <;> rfl
theorem KY {x g:Int} (x0:0≤x) (x1:x < a.Left.aB.aA) (g0:0≤g) (g1:g < a.Left.aF.aH.length):fA a x g=some (tr a x g):=by
 have hu:=A.au x0 x1
 have hr:=A.Dq g0 g1
 have ul:=A.KT
 have rl:a.ab.ae.length=a.Left.aF.aH.length:=by rw [(bp A.gb).al,← A.e2]
 unfold fA
 rw [cH x0 (by omega),aG,cH g0 (by omega),aG,A.aC.qe hu.1.1 hu.1.2 hr.1.1 hr.1.2,aG]; rfl
theorem Uo {y f:Int} (y0:0≤y) (y1:y < a.Left.aF.aA) (f0:0≤f) (f1:f < a.Left.aB.aH.length):fB a y f=some (bk a y f):=by
 have hk:=A.ak y0 y1
 have hl:=A.E6 f0 f1
 have kl:=A.SS
 unfold fB
 rw [(bp A.fb).tn f0 f1,aG,cH y0 (by omega),aG,A.aD.qe hl.1.1 hl.1.2 hk.1.1 hk.1.2,aG]; rfl
theorem Up {x g:Int} (x0:0≤x) (x1:x < a.Left.aB.aA) (g0:0≤g) (g1:g < a.Left.aF.aH.length):oC a x g=some (tr a x g):=by
 have hu:=A.au x0 x1
 have hr:=A.Dq g0 g1
 have ul:=A.KT
 have rl:a.ab.ae.length=a.Left.aF.aH.length:=by rw [(bp A.gb).al,← A.e2]
 unfold oC
 rw [cH x0 (by omega),aG,cH g0 (by omega),aG,A.aC.thenS hu.1.1 hu.1.2 hr.1.1 hr.1.2,aG]; rfl
theorem XW (x y g:Int):∃ r,gN a x y g=some r∧kP a x y g=some r∧(r.2=0→XU a x y g)∧(XU a x y g→r=(tr a x g,0)):=by
 unfold gN kP qZ
 rw [aao hs A,aG,sa hs,aG,yF A]
 simp only [Bool.not_true,cond_false]
 rw [Jn,aG,Jn,aG,Ry,aG]
 cases hx:decide (0≤x) && decide (x < a.Left.aB.aA) with
 | false=>
  refine ⟨(0,2),rfl,rfl,fun h=>(by cases h),fun h=>?_⟩
  rw [bc h.x.1,bc h.x.2] at hx
  cases hx
 | true=>
  cases hy:decide (0≤y) && decide (y < a.Left.aF.aA) with
  | false=>
   refine ⟨(0,2),rfl,rfl,fun h=>(by cases h),fun h=>?_⟩
   rw [bc h.y.1,bc h.y.2] at hy
   cases hy
  | true=>
   rw [Bool.and_eq_true] at hx hy
   have x0:=of_decide_eq_true hx.1
   have x1:=of_decide_eq_true hx.2
   have y0:=of_decide_eq_true hy.1
   have y1:=of_decide_eq_true hy.2
   have e1:idx a.Left.aA x=some (gi a.Left.aA x):=(bp A.fb).uD x0 x1
   simp only [Bool.and_self,cond_true,Bool.not_true,cond_false,aG]
   rw [e1,aG,FQ hs A A.aD]
   cases hg:decide (0≤g) && decide (g < a.Left.aF.aH.length) with
   | false=>
    refine ⟨(0,2),rfl,rfl,fun h=>(by cases h),fun h=>?_⟩
    rw [bc h.g.1,bc h.g.2] at hg
    cases hg
   | true=>
    rw [Bool.and_eq_true] at hg
    have g0:=of_decide_eq_true hg.1
    have g1:=of_decide_eq_true hg.2
    simp only [Bool.not_true,cond_false]
    rw [KY hs A x0 x1 g0 g1,Up hs A x0 x1 g0 g1]
    have f1:=A.aD.lg g0 g1
    have t1:=A.aD.ma g0 g1
    by_cases ef:gi a.Left.aF.aH g=gi a.Left.aA x
    ·by_cases et:gi a.Left.aF.To g=y
     ·refine ⟨(tr a x g,0),?_,?_,fun _=>⟨A,⟨x0,x1⟩,⟨y0,y1⟩,⟨g0,g1⟩,ef,et⟩,fun _=>rfl⟩
      ·rw [qd ef,qd et]; rfl
      ·show aq (S:=Unit) ((idx a.Left.aF.aH g>>=_)>>=_)=_
       rw [f1,aG,aG,sr ef,cond_false,t1,aG,aG,sr et]; rfl
     ·refine ⟨(0,5),?_,?_,fun h=>(by cases h),fun h=>absurd h.t et⟩
      ·rw [qd ef,tj et]; rfl
      ·show aq (S:=Unit) ((idx a.Left.aF.aH g>>=_)>>=_)=_
       rw [f1,aG,aG,sr ef,cond_false,t1,aG,aG,sn et]; rfl
    ·refine ⟨(0,5),?_,?_,fun h=>(by cases h),fun h=>absurd h.f ef⟩
     ·rw [tj ef]; rfl
     ·show aq (S:=Unit) ((idx a.Left.aF.aH g>>=_)>>=_)=_
      rw [f1,aG,aG,sn ef,cond_true,aG]; rfl
end
end Go.Proofs.YtjdkifckhidlbaaGreat
namespace Go.Proofs.YtjdkifckhidlbaaGreat
open Go Go.Li
set_option linter.unusedVariables false
set_option linter.unusedSimpArgs false
set_option linter.unusedSectionVars false
theorem Hc {R S:Type} {k:Nat} {n:Nat} {v:Int→Int} {body:List Int×Int→Option (Out (List Int×Int) R)} {f:List Int×Int→Option (Out S R)}
  (h:∀ i:Nat,i < n→body (cn i v,(i:Int))=some (.norm (cn i v++[v i],((i+1:Nat):Int)))) (last:body (cn n v,(n:Int))=some (.exit k (cn n v,(n:Int)))) :
  ai (af k (aj body (([]:List Int),(0:Int)))) f=f (cn n v,(n:Int)):=by
 refine uo (ns n) (fun i=>(cn i v,(i:Int))) rfl (fun i x hx=>?_) (e:=(cn n v,(n:Int))) ?_
 ·obtain ⟨rfl,hi⟩:=iu hx
  rw [h i hi,mq]
 ·rw [dC]; exact last
theorem XX (l:List (List Int)) (hl:l.length≤1048576) (hr:∀ r∈l,r.length≤1048576):nF l l=some true:=by
 unfold nF
 rw [sr rfl,cond_false,ud (n:=l.length) (fun _=>false) (y:=false) (fun i bj=>?_) (by unfold nQ; rw [br (by omega),cond_false])]
 ·rw [show (ns l.length).any (fun _=>false)=false from ei.2 fun _ _ _=>rfl]; rfl
 ·unfold nQ
  have hm:=hr _ (nn (l:=l) (j:=(i:Int)) (by omega) (by omega))
  rw [bc (by omega),cond_true,mm (by omega) (by omega),aG,aG,zn _ _ (by omega),aG,qd rfl,cI (by omega)]; rfl
theorem OZ {c:aI} (h:fx c):iJ c c=some true:=by
 have h1:=h.f
 have h2:=h.t
 have h3:=h.i
 unfold iJ
 rw [qd rfl,cond_true,zn _ _ (by omega),aG,qd rfl,cond_true,zn _ _ (by omega),aG,qd rfl,cond_true,zn _ _ (by omega),aG,qd rfl,cond_true,XX _ h.k h.r]; rfl
theorem O0 {f:aO} (h:jo f):jG f f=some true:=by
 have h1:=h.o
 have h2:=h.a
 unfold jG
 rw [OZ h.s,aG,cond_true,OZ h.t,aG,cond_true,zn _ _ (by omega),aG,qd rfl,cond_true,zn _ _ (by omega),aG,qd rfl]; rfl
theorem XY {a:aS} (h:r9 a):jK a a=some true:=by
 have h1:=h.u
 have h2:=h.k
 unfold jK
 rw [O0 h.l,aG,cond_true,O0 h.r,aG,cond_true,zn _ _ (by omega),aG,qd rfl,cond_true,zn _ _ (by omega),aG,qd rfl]; rfl
def zI:aS:=aS.mk (aO.mk (aI.mk 0 [] [] [] []) (aI.mk 0 [] [] [] []) [] []) (aO.mk (aI.mk 0 [] [] [] []) (aI.mk 0 [] [] [] []) [] []) [] []
theorem Bf:r9 zI:=by
 have hc:fx (aI.mk 0 [] [] [] []):=⟨by simp,by simp,by simp,by simp,fun r hr=>absurd hr List.not_mem_nil⟩
 exact ⟨⟨hc,hc,by simp [zI],by simp [zI]⟩,⟨hc,hc,by simp [zI],by simp [zI]⟩,by simp [zI],by simp [zI]⟩
section
variable {a b:aS} (ha:r9 a) (hb:r9 b)
include ha hb
theorem O1:r9 (sN a b):=⟨tF ha.l hb.l,tF hb.r ha.r,by show (tk _ _ _).length≤_; rw [wB]; exact ha.u,by show (tk _ _ _).length≤_; rw [wB,fc,fc]; exact hb.r.o⟩
section
variable (A:Adj a) (B:Adj b) (e:a.Left.aF=b.Left.aB)
include A B e
omit ha hb in
theorem O2:(sN a b).Unit=cn a.Left.aB.aA.toNat fun x=>tr a x (gi b.Unit (gi a.Left.aA x)):=by
 have ul:=A.KT
 refine Ck (by show (tk _ _ _).length=_; rw [wB,cL]; omega) fun x x0 x1=>?_
 rw [cL] at x1
 rw [Mz A B e x0 (by omega),qo x0 x1]
omit ha hb in
theorem O3:(sN a b).ba=cn b.Left.aF.aA.toNat fun z=>bk b z (gi a.ba (gi b.ab.aA z)):=by
 have kl:=B.SS
 have ho:(b.ab.aA.length:Int)=b.Left.aF.aA:=(bp B.gb).ol.trans (congrArg aI.aA B.e2.symm)
 refine Ck (by show (tk _ _ _).length=_; rw [wB,fc,fc,cL]; omega) fun x x0 x1=>?_
 rw [cL] at x1
 rw [MA A B e x0 (by omega),qo x0 x1]
theorem KZ {x:Int} (x0:0≤x) (x1:x < a.Left.aB.aA):idx b.Unit (gi a.Left.aA x)=some (gi b.Unit (gi a.Left.aA x))∧0≤gi b.Unit (gi a.Left.aA x)∧gi b.Unit (gi a.Left.aA x) < a.Left.aF.aH.length:=by
 have lx:=A.KR x0 x1
 have Dr:gi a.Left.aA x < b.Left.aB.aA:=by rw [← e]; exact lx.2
 have zg:=B.au lx.1 Dr
 exact ⟨cH lx.1 (by have:=B.KT; omega),zg.1.1,by rw [e]; exact zg.1.2⟩
theorem GN {z:Int} (z0:0≤z) (z1:z < b.Left.aF.aA):idx b.ab.aA z=some (gi b.ab.aA z)∧idx a.ba (gi b.ab.aA z)=some (gi a.ba (gi b.ab.aA z))∧0≤gi a.ba (gi b.ab.aA z)∧gi a.ba (gi b.ab.aA z) < b.Left.aB.aH.length:=by
 have rz:=B.KS z0 z1
 have Jf:gi b.ab.aA z < a.Left.aF.aA:=by rw [e]; exact rz.2
 have zh:=A.ak rz.1 Jf
 have ho:(b.ab.aA.length:Int)=b.Left.aF.aA:=(bp B.gb).ol.trans (congrArg aI.aA B.e2.symm)
 exact ⟨cH z0 (by omega),cH rz.1 (by have:=A.SS; omega),zh.1.1,by rw [← e]; exact zh.1.2⟩
theorem Uq:eW a b=some (sN a b,0):=by
 have e':b.ab.aF=a.ab.aB:=B.e1.symm.trans (e.symm.trans A.e2)
 have c0:=A.aC.o0
 have c8:=A.aC.o8
 have d0:=B.aD.o0
 have d8:=B.aD.o8
 have ol:=(bp A.fb).ol
 have ho:(b.ab.aA.length:Int)=b.Left.aF.aA:=(bp B.gb).ol.trans (congrArg aI.aA B.e2.symm)
 have FA:=(bp A.fb).toFHead
 have FB:=(bp B.fb).toFHead
 have GA:=(bp A.gb).toFHead
 have GB:=(bp B.gb).toFHead
 have s1:=tF ha.l hb.l
 have s2:=tF hb.r ha.r
 unfold eW
 rw [sb ha,aG,yF A]
 simp only [Bool.not_true,cond_false]
 rw [sb hb,aG,yF B]
 simp only [Bool.not_true,aG,cond_false]
 rw [tE ha.l.t,aG,jy.2 e]
 simp only [Bool.not_true,cond_false]
 rw [zl FA FB e ha.l hb.l,aG,zl GB GA e' hb.r ha.r,aG]
 rw [Hc (n:=a.Left.aB.aA.toNat) (v:=fun x=>tr a x (gi b.Unit (gi a.Left.aA x))) (fun i hi=>?_) ?_]
 ·dsimp only
  rw [Hc (n:=b.Left.aF.aA.toNat) (v:=fun z=>bk b z (gi a.ba (gi b.ab.aA z))) (fun i hi=>?_) ?_]
  ·dsimp only
   have:mL (ec a.Left b.Left) (ec b.ab a.ab) (cn a.Left.aB.aA.toNat fun x=>tr a x (gi b.Unit (gi a.Left.aA x))) (cn b.Left.aF.aA.toNat fun z=>bk b z (gi a.ba (gi b.ab.aA z)))=some (sN a b):=by
    unfold mL
    rw [GO s1,aG,GO s2,aG,E9 _ (by rw [cL]; omega),aG,E9 _ (by rw [cL]; omega),aG,← O2 A B e,← O3 A B e]; rfl
   rw [this,aG]; rfl
  ·show gE a b _ _=_
   unfold gE
   rw [br (by omega),cond_false]
  ·show gE a b _ _=_
   unfold gE
   have k:=GN ha hb A B e (z:=(i:Int)) (by omega) (by omega)
   rw [bc (by omega),cond_true,k.1,aG,k.2.1,aG,Uo hb B (by omega) (by omega) k.2.2.1 k.2.2.2,aG,cL,dU (by omega) (by omega),aG,cI (by omega)]
 ·show gD a b _ _=_
  unfold gD
  rw [br (by omega),cond_false]
 ·show gD a b _ _=_
  unfold gD
  have k:=KZ ha hb A B e (x:=(i:Int)) (by omega) (by omega)
  rw [bc (by omega),cond_true,(bp A.fb).uD (by omega) (by omega),aG,k.1,aG,KY ha A (by omega) (by omega) k.2.1 k.2.2,aG,cL,dU (by omega) (by omega),aG,cI (by omega)]
theorem Ur:eX a b=some (sN a b,0):=by
 have e':b.ab.aF=a.ab.aB:=B.e1.symm.trans (e.symm.trans A.e2)
 have c0:=A.aC.o0
 have c8:=A.aC.o8
 have d0:=B.aD.o0
 have d8:=B.aD.o8
 have ul:=A.KT
 have kl:=B.SS
 have rl:a.ab.ae.length=a.Left.aF.aH.length:=by rw [(bp A.gb).al,← A.e2]
 have FA:=(bp A.fb).toFHead
 have FB:=(bp B.fb).toFHead
 have GA:=(bp A.gb).toFHead
 have GB:=(bp B.gb).toFHead
 unfold eX
 rw [sa ha,aG,yF A]
 simp only [Bool.not_true,cond_false]
 rw [sa hb,aG,yF B]
 simp only [Bool.not_true,aG,cond_false]
 rw [uH ha.l.t,aG,jy.2 e]
 simp only [Bool.not_true,cond_false]
 rw [Hc (n:=a.Left.aB.aA.toNat) (v:=fun x=>tr a x (gi b.Unit (gi a.Left.aA x))) (fun i hi=>?_) ?_]
 ·dsimp only
  rw [Hc (n:=b.Left.aF.aA.toNat) (v:=fun z=>bk b z (gi a.ba (gi b.ab.aA z))) (fun i hi=>?_) ?_]
  ·dsimp only
   rw [zk FA FB e ha.l hb.l,aG,zk GB GA e' hb.r ha.r,aG,← O2 A B e,← O3 A B e]; rfl
  ·show gG a b _ _=_
   unfold gG
   rw [br (by omega),cond_false]
  ·show gG a b _ _=_
   unfold gG
   have k:=GN ha hb A B e (z:=(i:Int)) (by omega) (by omega)
   have hk:=B.ak (y:=(i:Int)) (by omega) (by omega)
   have hl:=B.E6 k.2.2.1 k.2.2.2
   rw [bc (by omega),cond_true,k.1,aG,k.2.1,aG,(bp B.fb).tn k.2.2.1 k.2.2.2,aG,cH (by omega) (by omega),aG,B.aD.thenS hl.1.1 hl.1.2 hk.1.1 hk.1.2,aG,cL,dU (by omega) (by omega),aG,cI (by omega)]; rfl
 ·show gF a b _ _=_
  unfold gF
  rw [br (by omega),cond_false]
 ·show gF a b _ _=_
  unfold gF
  have k:=KZ ha hb A B e (x:=(i:Int)) (by omega) (by omega)
  have hu:=A.au (x:=(i:Int)) (by omega) (by omega)
  have hr:=A.Dq k.2.1 k.2.2
  rw [bc (by omega),cond_true,cH (by omega) (by omega),aG,(bp A.fb).uD (by omega) (by omega),aG,k.1,aG,cH k.2.1 (by omega),aG,A.aC.thenS hu.1.1 hu.1.2 hr.1.1 hr.1.2,aG,cL,dU (by omega) (by omega),aG,cI (by omega)]; rfl
end
theorem thB:∃ r,eW a b=some r∧eX a b=some r∧r9 r.1∧(r.2=0→Adj a∧Adj b∧a.Left.aF=b.Left.aB∧r.1=sN a b):=by
 cases hA:yE a with
 | false=>
  refine ⟨(zI,1),?_,?_,Bf,fun h=>(by cases h)⟩
  ·unfold eW
   rw [sb ha,aG,hA]; rfl
  ·unfold eX
   rw [sa ha,aG,hA]; rfl
 | true=>
  cases hB:yE b with
  | false=>
   refine ⟨(zI,1),?_,?_,Bf,fun h=>(by cases h)⟩
   ·unfold eW
    rw [sb ha,aG,hA]
    simp only [Bool.not_true,cond_false]
    rw [sb hb,aG,hB]; rfl
   ·unfold eX
    rw [sa ha,aG,hA]
    simp only [Bool.not_true,cond_false]
    rw [sa hb,aG,hB]; rfl
  | true=>
   have A:=Je hA
   have B:=Je hB
   cases hS:oh a.Left.aF b.Left.aB with
   | false=>
    refine ⟨(zI,5),?_,?_,Bf,fun h=>(by cases h)⟩
    ·unfold eW
     rw [sb ha,aG,hA]
     simp only [Bool.not_true,cond_false]
     rw [sb hb,aG,hB]
     simp only [Bool.not_true,aG,cond_false]
     rw [tE ha.l.t,aG,hS]; rfl
    ·unfold eX
     rw [sa ha,aG,hA]
     simp only [Bool.not_true,cond_false]
     rw [sa hb,aG,hB]
     simp only [Bool.not_true,aG,cond_false]
     rw [uH ha.l.t,aG,hS]; rfl
   | true=>
    have e:=jy.1 hS
    exact ⟨(sN a b,0),Uq ha hb A B e,Ur ha hb A B e,O1 ha hb,fun _=>⟨A,B,e,rfl⟩⟩
end
section
variable {x:List Int} (B:zm x)
include B
theorem XZ:Ok (iI x) fun y=>r9 y.1∧r9 y.2:=by
 unfold iI
 refine jv (ob (X0 B) fun y hy=>?_)
 obtain ⟨s,rfl,S⟩:=hy
 show Ok (kH (aL.mk x s.At s.av)>>=_) _
 refine ob (Jm B S.S8) fun a ha=>ob (er B ha.2.S8 _) fun z hz=>oc (fun _=>ob (Jm B hz.2.S8) fun w hw=>os ⟨ha.1,hw.1⟩) fun _=>oe (sa ha.1) (oc (fun _=>ob (Jm B hz.2.S8) fun w hw=>os ⟨ha.1,hw.1⟩) fun hA=>?_)
 have A:=Je (show yE a.1=true by simpa using hA)
 have T:=X1 A.aD
 have sm:=ha.1
 refine ol (fun z:Int×Int×Int=>(0≤z.1∧z.1≤6)∧(0≤z.2.1∧z.2.1≤x.length)) (fun z=>(6 - z.1).toNat) ⟨⟨by show (0:Int)≤0; omega,by show (0:Int)≤6; omega⟩,hz.2.a0,hz.2.a1⟩ ?_
 rintro ⟨i,t,h⟩ ⟨⟨i0,i1⟩,t0,t1⟩
 dsimp only at i0 i1 t0 t1
 show Ok (jF x a i t h) _
 unfold jF
 have S1:Src x (aL.mk x t h):=⟨rfl,t0,t1⟩
 refine od (fun hi=>?_) fun hi=>os ⟨rfl,?_⟩
 ·have OX:∀ {q:aL} {E:Int×Int×Int→Prop} {G:aS×aS→Prop},Src x q→Ok (some (Out.norm (ao (i+1),q.At,q.av):Out (Int×Int×Int) (aS×aS))) (E8 0 (fun z:Int×Int×Int=>(0≤z.1∧z.1≤6)∧(0≤z.2.1∧z.2.1≤x.length)) (fun z=>(6 - z.1).toNat) (6 - i).toNat E G):=by
   intro q E G Sq
   refine os ⟨⟨⟨?_,?_⟩,Sq.a0,Sq.a1⟩,?_⟩
   ·dsimp only; rw [w1 i0 hi (by omega)]; omega
   ·dsimp only; rw [w1 i0 hi (by omega)]; omega
   ·dsimp only; rw [w1 i0 hi (by omega)]; omega
  refine ob (MG B S1 T (by omega) (by omega)) fun w hw=>?_
  obtain ⟨⟨d,U,F,_⟩,S2⟩:=hw
  refine oe (uH (by rw [F.s]; exact T.s)) (oc (fun _=>OX S2) fun _=>ob (Aj T U F) fun r hr=>oc (fun eb=>os ⟨sm,(hr eb).small⟩) fun _=>OX S2)
 ·have Kr:iB a.1=some (aS.mk (yH a.1.ab) (yH a.1.Left) a.1.ba a.1.Unit):=by
   unfold iB
   rw [C2 A.gb,aG,C2 A.fb,aG,ee _ sm.k,aG,ee _ sm.u,aG]; rfl
  have h1:=Fb A.gb
  have h2:=Fb A.fb
  have ae1:iB (aS.mk (yH a.1.ab) (yH a.1.Left) a.1.ba a.1.Unit)=some (aS.mk (yH (yH a.1.Left)) (yH (yH a.1.ab)) a.1.Unit a.1.ba):=by
   unfold iB
   dsimp only
   rw [C2 h2,aG,C2 h1,aG,ee _ sm.u,aG,ee _ sm.k,aG]; rfl
  exact oe Kr (oe ae1 (os ⟨sm,⟨Cv (bp (Fb h2)),Cv (bp (Fb h1)),sm.u,sm.k⟩⟩))
theorem X2 (k:Int):Ok (rF x k) fun y=>∃ h,y=some (um.mk x 0 h):=by
 have hl:=B.len
 unfold rF
 refine jv (oe rfl (oe rfl (ol (fun s:Int×Int=>0≤s.1∧s.1≤x.length) (fun s=>(x.length - s.1).toNat) ⟨Int.le_refl _,by show (0:Int)≤_; omega⟩ ?_)))
 rintro ⟨i,h⟩ ⟨h0,h1⟩
 dsimp only at h0 h1
 show Ok (rA x i h) _
 unfold rA
 refine od (fun hi=>oe rfl (oi h0 hi fun y _=>oe rfl (oe rfl (os ⟨⟨?_,?_⟩,?_⟩)))) fun _=>os ⟨rfl,os ⟨_,rfl⟩⟩
 ·show 0≤ao (i+1); rw [w1 h0 hi (by omega)]; omega
 ·show ao (i+1)≤_; rw [w1 h0 hi (by omega)]; omega
 ·show (x.length - ao (i+1)).toNat < (x.length - i).toNat; rw [w1 h0 hi (by omega)]; omega
theorem Us (h n:Int):Ok (kY (um.mk x 0 h) n) fun y=>0≤y.1∧(1≤n→y.1 < n):=by
 have hl:=B.len
 unfold kY
 dsimp only
 refine jv (od (fun h=>os ⟨Int.le_refl _,fun h'=>by omega⟩) fun hn=>?_)
 obtain ⟨IC,ET⟩:=S9 (IntKind.u64.wrap (IntKind.u64.wrap (h * 6364136223846793005)+1442695040888963407))
 refine oe rfl (oe rfl (oe ET ?_))
 obtain ⟨m,hm,em⟩:=GP IC
 refine oe em ?_
 have e1:IntKind.i64.wrap (m:Int)=m:=dL (by omega) (by omega)
 rw [e1]
 have mod:∀ z:Int,0≤z→rf .rem .i64 z n=some (z.tmod n)∧0≤z.tmod n∧z.tmod n < n:=fun z hz=>
  ⟨if_neg (by omega),Int.tmod_nonneg n hz,Int.tmod_lt_of_pos z (by omega)⟩
 refine od (fun h2=>?_) fun h2=>?_
 ·refine oi (by omega) h2 fun y hy=>?_
  have hb:=B.b y hy
  rw [show IntKind.i64.wrap y=y from dL (by omega) (by omega),dL (by omega) (by omega)]
  obtain ⟨e,g0,g1⟩:=mod ((m:Int)+y) (by omega)
  exact oe e (os ⟨g0,fun _=>g1⟩)
 ·obtain ⟨e,g0,g1⟩:=mod (m:Int) (by omega)
  exact oe e (os ⟨g0,fun _=>g1⟩)
end
theorem I9 {x0:List Int} (hl:x0.length≤maxLen∧∀ y∈x0,0≤y∧y < 256):gV x0=some true:=by
 unfold gV
 have Fu:rZ x0=some (decide ((x0.length:Int) > 4096)):=rfl
 rw [Fu,aG]
 by_cases hb:(x0.length:Int) > 4096
 ·rw [bc hb,cond_true]; rfl
 rw [br hb,cond_false]
 have BY:zm x0:=⟨by omega,hl.2⟩
 obtain ⟨q,e,ha,cg⟩:=XZ BY
 rw [e,aG]
 obtain ⟨a,b⟩:=q
 dsimp only at ha cg ⊢
 obtain ⟨r,h1,h2,hr,h3⟩:=thB ha cg
 rw [h1,aG,h2,aG,sr rfl,cond_false,XY hr]
 simp only [aG,Bool.not_true,cond_false]
 by_cases h0:r.2=0
 ·obtain ⟨A,B,eq,hrA⟩:=h3 h0
  have K:=Ul A B eq
  obtain rfl:r=(sN a b,0):=Prod.ext hrA h0
  have sm:r9 (sN a b):=hr
  dsimp only
  rw [sr rfl,cond_false]
  have isA:jP (sN a b)=some true:=by
   unfold jP
   rw [sb sm,yF K]; rfl
  rw [isA]
  simp only [aG,Bool.not_true,cond_false]
  have c0:=A.aC.o0
  have c8:=A.aC.o8
  have d0:=B.aD.o0
  by_cases z1:a.Left.aB.aA=0
  ·rw [qd z1]; rfl
  ·rw [tj z1,cond_false]
   by_cases z2:b.Left.aF.aA=0
   ·rw [qd z2]; rfl
   ·rw [tj z2,aG,cond_false]
    obtain ⟨w,ew,hd,rfl⟩:=X2 BY 1502
    rw [ew,aG]
    obtain ⟨y,ey,y0,y1⟩:=Us BY hd (b.Left.aF.aH.length:Int)
    show aq (S:=Unit) (kY (um.mk x0 0 hd) (b.Left.aF.aH.length:Int)>>=_)=_
    rw [ey,aG]
    have ki:=B.aD.id (x:=0) (by omega) (by omega)
    replace y1:=y1 (by omega)
    rw [ud (n:=a.Left.aB.aA.toNat) (fun _=>false) (y:=false) (fun i hi=>?_) (by unfold iL; dsimp only; rw [br (by omega),cond_false])]
    ·rw [show (ns a.Left.aB.aA.toNat).any (fun _=>false)=false from ei.2 fun _ _ _=>rfl]; rfl
    ·have i0:(0:Int)≤(i:Int):=by omega
     have i1:(i:Int) < a.Left.aB.aA:=by omega
     have ho:gi (sN a b).Left.aA (i:Int)=gi b.Left.aA (gi a.Left.aA (i:Int)):=dv i0 (by rw [(bp A.fb).ol]; exact i1)
     have gp:((sN a b).Left.aA.length:Int)=a.Left.aB.aA:=(bp K.fb).ol
     unfold iL
     dsimp only
     rw [bc i1,cond_true,cH i0 (by omega),aG,B.aD.lg y0 y1,aG,cI (by omega),ho]
     by_cases eo:gi b.Left.aA (gi a.Left.aA (i:Int))=gi b.Left.aF.aH y.1
     ·have lx:=A.KR i0 i1
      have Dr:gi a.Left.aA (i:Int) < b.Left.aB.aA:=by rw [← eq]; exact lx.2
      have ty:=B.aD.to y0 y1
      have rz:=B.KS ty.1 ty.2
      have T:=B.XD lx.1 Dr y0 y1 eo.symm
      obtain ⟨r1,p1,_,_,p4⟩:=XW sm K (i:Int) (gi b.Left.aF.To y.1) y.1
      obtain ⟨r2,q1,q2,_,q4⟩:=XW cg B (gi a.Left.aA (i:Int)) (gi b.Left.aF.To y.1) y.1
      obtain ⟨r3,s1,_,_,s4⟩:=XW ha A (i:Int) (gi b.ab.aA (gi b.Left.aF.To y.1)) (tr b (gi a.Left.aA (i:Int)) y.1)
      have w1:=p4 ⟨K,⟨i0,i1⟩,ty,⟨y0,y1⟩,by show gi b.Left.aF.aH y.1=_; rw [ho,eo],rfl⟩
      have w2:=q4 ⟨B,⟨lx.1,Dr⟩,ty,⟨y0,y1⟩,eo.symm,rfl⟩
      have w3:=s4 ⟨A,⟨i0,i1⟩,⟨rz.1,by rw [eq]; exact rz.2⟩,⟨T.1.1,by rw [eq]; exact T.1.2⟩,by rw [eq]; exact T.2.1,by rw [eq]; exact T.2.2⟩
      have U6:(b.ab.aA.length:Int)=b.Left.aF.aA:=(bp B.gb).ol.trans (congrArg aI.aA B.e2.symm)
      rw [sr eo,cond_false,B.aD.ma y0 y1,aG,p1,aG,(bp A.fb).uD i0 i1,aG,aG,q1,aG,aG,aG,q2,aG,w1,w2]
      dsimp only
      rw [sr rfl,cond_false,cond_false,cond_false,aG,sr rfl,cond_false,aG,cH ty.1 (by omega),aG,s1,aG,w3]
      dsimp only
      rw [sr rfl,cond_false,aG,ON A B eq i0 i1 y0 y1 eo.symm,sr rfl,cond_false]
     ·rw [sn eo,cond_true]; rfl
 ·rw [sn h0,cond_true]; rfl
end Go.Proofs.YtjdkifckhidlbaaGreat
