/- Adjunctions: units and counits as natural transformations, the laws of triangles; transposing there and back; composites. No condition beside those that each theorem names. -/
import Derived.Test.YtcnehblmgfbfoaaGreatYk
import Derived.Test.YtcnehblmgfbfoaaGreatUr
import Derived.Test.YtcnehblmgfbfoaaGreatYn
import Derived.Test.YtcnehblmgfbfoaaGreatVw
set_option linter.unusedVariables false
set_option linter.unusedSectionVars false
set_option linter.unusedSimpArgs false
namespace Go.Proofs.YtcnehblmgfbfoaaGreat
open Go Go.Li
set_option linter.unusedVariables false
set_option linter.unusedSectionVars false
def vj (c:aJ):aN:=aN.mk c c (ns c.aE.toNat) (ns c.aH.length)
theorem Br {c:aJ} (C:gj c):dk (vj c)=true:=by
 have o0:=C.o0
 have hO:∀ y:Int,0≤y→y < c.aE→gi (ns c.aE.toNat) y=y:=fun y y0 y1=>vm y0 (by omega)
 have hA:∀ a:Int,0≤a→a < c.aH.length→gi (ns c.aH.length) a=a:=fun a a0 a1=>vm a0 a1
 refine D2 (f:=vj c) (Ah C) (Ah C) (by show ((ns c.aE.toNat).length:Int)=c.aE; rw [cJ]; omega) (cJ _) (fun y hy=>?_) (fun y hy=>dj.1 hy) (fun a a0 a1=>?_) (fun a a0 a1=>?_) (fun y y0 y1=>?_) fun a b a0 a1 b0 b1 e=>?_
 ·have:=dj.1 hy
  show 0≤y∧y < c.aE
  omega
 ·have k:=C.fr a0 a1
  show gi c.aH (gi (ns c.aH.length) a)=gi (ns c.aE.toNat) (gi c.aH a)
  rw [hA a a0 a1,hO _ k.1 k.2]
 ·have k:=C.to a0 a1
  show gi c.To (gi (ns c.aH.length) a)=gi (ns c.aE.toNat) (gi c.To a)
  rw [hA a a0 a1,hO _ k.1 k.2]
 ·have k:=C.id (x:=y) y0 y1
  show gi (ns c.aH.length) (gi c.aI y)=gi c.aI (gi (ns c.aE.toNat) y)
  rw [hA _ k.1 k.2,hO y y0 y1]
 ·have k:=C.cell a b a0 a1 b0 b1 e
  show gi (ns c.aH.length) (gk c.aG a b)=gk c.aG (gi (ns c.aH.length) a) (gi (ns c.aH.length) b)
  rw [hA _ k.1 k.2.1,hA a a0 a1,hA b b0 b1]
theorem yr {c:aJ} (C:gj c):fq (vj c):=by
 have o0:=C.o0
 have o8:=C.o8
 have m:=C.m
 exact ⟨rB C,rB C,by show (ns _).length≤_; rw [cJ]; omega,by show (ns _).length≤_; rw [cJ]; omega⟩
def zj (a:bI):bY:=bY.mk (vj a.Left.aA) (mb a.Left a.ae) a.Unit
def zk (a:bI):bY:=bY.mk (mb a.ae a.Left) (vj a.Left.aF) a.aw
def tr (a:bI) (x g:Int):Int:=gk a.Left.aA.aG (gi a.Unit x) (gi a.ae.ab g)
def bk (a:bI) (y f:Int):Int:=gk a.Left.aF.aG (gi a.Left.ab f) (gi a.aw y)
def Bw (a:bI) (x:Int):Bool:=bk a (gi a.Left.aE x) (gi a.Unit x) != gi a.Left.aF.aI (gi a.Left.aE x)
def By (a:bI) (y:Int):Bool:=tr a (gi a.ae.aE y) (gi a.aw y) != gi a.Left.aA.aI (gi a.ae.aE y)
def E3 (a:bI):Bool:=!((ns a.Left.aA.aE.toNat).any (Bw a))
def E4 (a:bI):Bool:=!((ns a.Left.aF.aE.toNat).any (By a))
def sf (f g:aN):Bool:=jv f.aA g.aF && jv f.aF g.aA
def tk (a:bI):Bool:=(dk a.Left && dk a.ae) && (sf a.Left a.ae && ((dx (zj a) && dx (zk a)) && (E3 a && E4 a)))
structure Adj (a:bI):Prop where
 fb:dk a.Left=true
 gb:dk a.ae=true
 e1:a.Left.aA=a.ae.aF
 e2:a.Left.aF=a.ae.aA
 ub:dx (zj a)=true
 kb:dx (zk a)=true
 t1:∀ x:Int,0≤x→x < a.Left.aA.aE→bk a (gi a.Left.aE x) (gi a.Unit x)=gi a.Left.aF.aI (gi a.Left.aE x)
 t2:∀ y:Int,0≤y→y < a.Left.aF.aE→tr a (gi a.ae.aE y) (gi a.aw y)=gi a.Left.aA.aI (gi a.ae.aE y)
theorem Jl {a:bI} (h:tk a=true):Adj a:=by
 unfold tk sf E3 E4 at h
 simp only [Bool.and_eq_true,ib,Bool.not_eq_true',dn] at h
 obtain ⟨⟨h1,h2⟩,⟨h3,h4⟩,⟨h5,h6⟩,h7,h8⟩:=h
 refine ⟨h1,h2,h3,h4,h5,h6,fun x x0 x1=>?_,fun y y0 y1=>?_⟩
 ·have:=h7 x x0 (by omega)
  unfold Bw at this
  simpa using this
 ·have:=h8 y y0 (by omega)
  unfold By at this
  simpa using this
namespace Adj
variable {a:bI} (A:Adj a)
include A
theorem aC:gj a.Left.aA:=(bw A.fb).c
theorem aD:gj a.Left.aF:=(bw A.fb).d
theorem DX {x:Int} (x0:0≤x) (x1:x < a.Left.aA.aE):0≤gi a.Left.aE x∧gi a.Left.aE x < a.Left.aF.aE:=(bw A.fb).ob x0 x1
theorem Rk {y:Int} (y0:0≤y) (y1:y < a.Left.aF.aE):0≤gi a.ae.aE y∧gi a.ae.aE y < a.Left.aA.aE:=by
 have:=(bw A.gb).ob (x:=y) y0 (by rw [← A.e2]; exact y1)
 rwa [← A.e1] at this
theorem ara {g:Int} (g0:0≤g) (g1:g < a.Left.aF.aH.length):(0≤gi a.ae.ab g∧gi a.ae.ab g < a.Left.aA.aH.length)∧gi a.Left.aA.aH (gi a.ae.ab g)=gi a.ae.aE (gi a.Left.aF.aH g)∧gi a.Left.aA.To (gi a.ae.ab g)=gi a.ae.aE (gi a.Left.aF.To g):=by
 have G:=bw A.gb
 have k:g < a.ae.aA.aH.length:=by rw [← A.e2]; exact g1
 have h1:=G.ar g0 k
 have h2:=G.fr g g0 k
 have h3:=G.to g g0 k
 rw [← A.e1] at h1 h2 h3
 rw [← A.e2] at h2 h3
 exact ⟨h1,h2,h3⟩
theorem Np {f g:Int} (f0:0≤f) (f1:f < a.Left.aA.aH.length) (g0:0≤g) (g1:g < a.Left.aA.aH.length) (e:gi a.Left.aA.To f=gi a.Left.aA.aH g):gi a.Left.ab (gk a.Left.aA.aG f g)=gk a.Left.aF.aG (gi a.Left.ab f) (gi a.Left.ab g):=(bw A.fb).co f g f0 f1 g0 g1 e
theorem arc {f g:Int} (f0:0≤f) (f1:f < a.Left.aF.aH.length) (g0:0≤g) (g1:g < a.Left.aF.aH.length) (e:gi a.Left.aF.To f=gi a.Left.aF.aH g):gi a.ae.ab (gk a.Left.aF.aG f g)=gk a.Left.aA.aG (gi a.ae.ab f) (gi a.ae.ab g):=by
 have:=(bw A.gb).co f g f0 (by rw [← A.e2]; exact f1) g0 (by rw [← A.e2]; exact g1) (by rw [← A.e2]; exact e)
 rwa [← A.e2,← A.e1] at this
theorem au {x:Int} (x0:0≤x) (x1:x < a.Left.aA.aE):(0≤gi a.Unit x∧gi a.Unit x < a.Left.aA.aH.length)∧gi a.Left.aA.aH (gi a.Unit x)=x∧gi a.Left.aA.To (gi a.Unit x)=gi a.ae.aE (gi a.Left.aE x):=by
 have N:=kq A.ub
 have o0:=A.aC.o0
 refine ⟨N.cp x0 x1,(N.pf x x0 x1).trans ?_,(N.pt x x0 x1).trans ?_⟩
 ·exact vm x0 (by show x < ((a.Left.aA.aE.toNat:Nat):Int); omega)
 ·exact ko x0 (by rw [(bw A.fb).ol]; exact x1)
theorem ak {y:Int} (y0:0≤y) (y1:y < a.Left.aF.aE):(0≤gi a.aw y∧gi a.aw y < a.Left.aF.aH.length)∧gi a.Left.aF.aH (gi a.aw y)=gi a.Left.aE (gi a.ae.aE y)∧gi a.Left.aF.To (gi a.aw y)=y:=by
 have N:=kq A.kb
 have o0:=A.aD.o0
 have y2:y < a.ae.aA.aE:=by rw [← A.e2]; exact y1
 refine ⟨N.cp (x:=y) y0 y2,(N.pf y y0 y2).trans ?_,(N.pt y y0 y2).trans ?_⟩
 ·exact ko y0 (by rw [(bw A.gb).ol]; exact y2)
 ·exact vm y0 (by show y < ((a.Left.aF.aE.toNat:Nat):Int); omega)
theorem aks {g:Int} (g0:0≤g) (g1:g < a.Left.aF.aH.length):bk a (gi a.Left.aF.To g) (gi a.ae.ab g)=gk a.Left.aF.aG (gi a.aw (gi a.Left.aF.aH g)) g:=by
 have g2:g < a.ae.aA.aH.length:=by rw [← A.e2]; exact g1
 have N:=(kq A.kb).sq g g0 g2
 have e1:gi (ns a.Left.aF.aH.length) g=g:=vm g0 g1
 have e2:gi (thenS a.ae.ab a.Left.ab) g=gi a.Left.ab (gi a.ae.ab g):=ko g0 (by rw [(bw A.gb).al]; exact g2)
 have N':gk a.Left.aF.aG (gi (thenS a.ae.ab a.Left.ab) g) (gi a.aw (gi a.ae.aA.To g))=gk a.Left.aF.aG (gi a.aw (gi a.ae.aA.aH g)) (gi (ns a.Left.aF.aH.length) g):=N
 rw [e1,e2,← A.e2] at N'
 exact N'
end Adj
section
variable {a b:bI} (A:Adj a) (B:Adj b) (e:a.Left.aF=b.Left.aA)
include A B e
end
end Go.Proofs.YtcnehblmgfbfoaaGreat
namespace Go.Proofs.YtcnehblmgfbfoaaGreat
open Go Go.Li
set_option linter.unusedVariables false
set_option linter.unusedSectionVars false
def ch (c:aJ) (z x u:Int):Prop:=(0≤u∧u < c.aH.length)∧gi c.aH u=z∧gi c.To u=x
structure Uni (f:aN) (y x e:Int):Prop where
 x0:0≤x
 x1:x < f.aA.aE
 l:ch f.aF (gi f.aE x) y e
 ex:∀ z h:Int,0≤z→z < f.aA.aE→ch f.aF (gi f.aE z) y h→∃ u,ch f.aA z x u∧gk f.aF.aG (gi f.ab u) e=h
 un:∀ z u v:Int,ch f.aA z x u→ch f.aA z x v→gk f.aF.aG (gi f.ab u) e=gk f.aF.aG (gi f.ab v) e→u=v
theorem D3 {c:aJ} (C:gj c) {x y z u v:Int} (h:ch c x y u) (h':ch c y z v):ch c x z (gk c.aG u v):=by
 have:=C.cell u v h.1.1 h.1.2 h'.1.1 h'.1.2 (by rw [h.2.2,h'.2.1])
 exact ⟨⟨this.1,this.2.1⟩,this.2.2.1.trans h.2.1,this.2.2.2.trans h'.2.2⟩
theorem I8 {c:aJ} (C:gj c) {x:Int} (x0:0≤x) (x1:x < c.aE):ch c x x (gi c.aI x):=⟨C.id x0 x1,C.BZ x x0 x1,C.GC x x0 x1⟩
theorem GG {f:aN} (F:xH f) {x y u:Int} (h:ch f.aA x y u):ch f.aF (gi f.aE x) (gi f.aE y) (gi f.ab u):=⟨F.ar h.1.1 h.1.2,by rw [F.fr u h.1.1 h.1.2,h.2.1],by rw [F.to u h.1.1 h.1.2,h.2.2]⟩
theorem Kk {c:aJ} (C:gj c) {x y z w u v t:Int} (h:ch c x y u) (h':ch c y z v) (h2:ch c z w t):gk c.aG (gk c.aG u v) t=gk c.aG u (gk c.aG v t):=
 C.assoc u v t h.1.1 h.1.2 h'.1.1 h'.1.2 h2.1.1 h2.1.2 (by rw [h.2.2,h'.2.1]) (by rw [h'.2.2,h2.2.1])
theorem S4 {f:aN} (F:xH f) {x y z u v:Int} (h:ch f.aA x y u) (h':ch f.aA y z v):gi f.ab (gk f.aA.aG u v)=gk f.aF.aG (gi f.ab u) (gi f.ab v):=F.co u v h.1.1 h.1.2 h'.1.1 h'.1.2 (by rw [h.2.2,h'.2.1])
theorem yf {c:aJ} (C:gj c) {x y u:Int} (h:ch c x y u):0≤x∧x < c.aE:=by have:=C.fr h.1.1 h.1.2; rwa [h.2.1] at this
theorem Ag {c:aJ} (C:gj c) {x y u:Int} (h:ch c x y u):0≤y∧y < c.aE:=by have:=C.to h.1.1 h.1.2; rwa [h.2.2] at this
theorem Ja {c:aJ} (C:gj c) {x y u:Int} (h:ch c x y u):gk c.aG (gi c.aI x) u=u:=by have:=C.Ad u h.1.1 h.1.2; rwa [h.2.1] at this
theorem I9 {c:aJ} (C:gj c) {x y u:Int} (h:ch c x y u):gk c.aG u (gi c.aI y)=u:=by have:=C.Ae u h.1.1 h.1.2; rwa [h.2.2] at this
section
variable {f:aN} {xs es E7 us:List Int} (hf:dk f=true) (ui:(xs.length:Int)=f.aF.aE) (CX:(es.length:Int)=f.aF.aE) (tG:E7.length=f.aF.aH.length) (hul:(us.length:Int)=f.aA.aE)
 (hU:∀ y:Int,0≤y→y < f.aF.aE→Uni f y (gi xs y) (gi es y))
 (hA:∀ g:Int,0≤g→g < f.aF.aH.length→ch f.aA (gi xs (gi f.aF.aH g)) (gi xs (gi f.aF.To g)) (gi E7 g)∧gk f.aF.aG (gi f.ab (gi E7 g)) (gi es (gi f.aF.To g))=gk f.aF.aG (gi es (gi f.aF.aH g)) g)
 (hS:∀ x:Int,0≤x→x < f.aA.aE→ch f.aA x (gi xs (gi f.aE x)) (gi us x)∧gk f.aF.aG (gi f.ab (gi us x)) (gi es (gi f.aE x))=gi f.aF.aI (gi f.aE x))
include hf ui CX tG hul hU hA hS
end
structure Eqv (f:aN):Prop where
 fb:dk f=true
 full:∀ x y b:Int,0≤x→x < f.aA.aE→0≤y→y < f.aA.aE→ch f.aF (gi f.aE x) (gi f.aE y) b→∃ a,ch f.aA x y a∧gi f.ab a=b
 ahL:∀ x y a b:Int,ch f.aA x y a→ch f.aA x y b→gi f.ab a=gi f.ab b→a=b
 ai5:∀ y:Int,0≤y→y < f.aF.aE→∃ x i j,(0≤x∧x < f.aA.aE)∧ch f.aF (gi f.aE x) y i∧ch f.aF y (gi f.aE x) j∧gk f.aF.aG i j=gi f.aF.aI (gi f.aE x)∧gk f.aF.aG j i=gi f.aF.aI y
end Go.Proofs.YtcnehblmgfbfoaaGreat
namespace Go.Proofs.YtcnehblmgfbfoaaGreat
open Go Go.Li
set_option linter.unusedVariables false
set_option linter.unusedSectionVars false
structure qn (a:bI):Prop where
 l:fq a.Left
 r:fq a.ae
 u:a.Unit.length≤1048576
 k:a.aw.length≤1048576
theorem GZ {c:aJ} (C:gj c):mV c=some (vj c):=by
 have o0:=C.o0
 have o8:=C.o8
 have m:=C.m
 have hs:=rB C
 unfold mV
 rw [zl o0 (by omega),aB,show dD c=some (c.aH.length:Int) from rfl,aB,zl (by omega) (by omega),aB,Int.toNat_natCast,sJ hs hs (by rw [cJ]; omega) (by rw [cJ]; omega),aB]; rfl
theorem zH (n:Nat):ns (n+1)=ns n++[(n:Int)]:=by simp [ns,List.range_succ]
theorem upto {R S:Type} {k:Nat} {n:Nat} (hn:n≤1048576) {body:List Int×Int→Option (Out (List Int×Int) R)} {f:List Int×Int→Option (Out S R)}
  (h:∀ i:Nat,i < n→body (ns i,(i:Int))=some (.norm (ns i++[(i:Int)],((i+1:Nat):Int)))) (last:body (ns n,(n:Int))=some (.exit k (ns n,(n:Int)))) :
  aj (ag k (ai body (([]:List Int),(0:Int)))) f=f (ns n,(n:Int)):=by
 refine cw (ns n) (fun i=>(ns i,(i:Int))) rfl (fun i x hx=>?_) (e:=(ns n,(n:Int))) ?_
 ·obtain ⟨rfl,hi⟩:=cj hx
  rw [h i hi,zH]
 ·rw [cJ]; exact last
theorem Bt {c:aJ} (C:gj c):iW c=some (vj c):=by
 have o0:=C.o0
 have o8:=C.o8
 have m:=C.m
 have hs:=rB C
 have a1:∀ i:Nat,i < c.aE.toNat→kY c (ns i) (i:Int)=some (.norm (ns i++[(i:Int)],((i+1:Nat):Int))):=fun i hi=>by
  unfold kY
  rw [ao (by omega),cond_true,cJ,eB (by omega) (by omega),aB,bR (by omega)]
 have a2:kY c (ns c.aE.toNat) (c.aE.toNat:Int)=some (.exit 0 (ns c.aE.toNat,(c.aE.toNat:Int))):=by
  unfold kY
  rw [av (by omega),cond_false]
 have b1:∀ i:Nat,i < c.aH.length→kZ c (ns i) (i:Int)=some (.norm (ns i++[(i:Int)],((i+1:Nat):Int))):=fun i hi=>by
  unfold kZ
  rw [ao (by omega),cond_true,cJ,eB (by omega) (by omega),aB,bR (by omega)]
 have b2:kZ c (ns c.aH.length) (c.aH.length:Int)=some (.exit 2 (ns c.aH.length,(c.aH.length:Int))):=by
  unfold kZ
  rw [av (by omega),cond_false]
 unfold iW
 rw [upto (n:=c.aE.toNat) (by omega) a1 a2]
 dsimp only
 rw [upto (n:=c.aH.length) (by omega) b1 b2]
 dsimp only
 rw [zA hs hs (by rw [cJ]; omega) (by rw [cJ]; omega),aB]; rfl
theorem vk {t:bY} (hs:se t) (fb:dk t.aA=true) (gb:dk t.aF=true) (es:t.aF.aA=t.aA.aA) (et:t.aF.aF=t.aA.aF):eD t.aA t.aF t.aX=some (dx t):=by
 have F:=bw fb
 have G:=bw gb
 have hp:=hs.p
 have eb:=F.ol
 have tG:=F.al
 have cm:=F.c.m
 unfold eD dx tP
 rw [fb,gb,es,et,ib.2 rfl,ib.2 rfl]
 simp only [Bool.true_and]
 by_cases e1:(t.aX.length:Int)=t.aA.aA.aE
 ·rw [sa (by omega),cond_false,wj _ _ (by omega),aB,aB,o5 e1,Bool.true_and]
  cases h:na t.aA.aF.aH.length t.aX with
  | false=>rfl
  | true=>
   rw [Bool.not_true,cond_false,Bool.true_and]
   have xr:=mr.1 h
   have H:THead t:=⟨F,G,fb,gb,es,et,e1,xr⟩
   rw [ke (n:=t.aX.length) (yu t) (fun x bo=>?_) (by unfold nE; rw [av (by omega),cond_false])]
   ·unfold vn
    cases (ns t.aX.length).any (yu t) with
    | true=>rfl
    | false=>
     rw [cond_false,Bool.not_false,Bool.true_and]
     rw [ke (n:=t.aA.aA.aH.length) (fun a=>!(E5 t.aA t.aF t.aX a)) (fun a bo=>?_) (by unfold nF; rw [av (by omega),cond_false])]
     ·unfold Bz
      cases (ns t.aA.aA.aH.length).any _ <;> rfl
     ·have kf:=F.c.fr (f:=(a:Int)) (by omega) (by omega)
      have kt:=F.c.to (f:=(a:Int)) (by omega) (by omega)
      have ka:=F.ar (a:=(a:Int)) (by omega) (by omega)
      have k1:=H.cp kt.1 kt.2
      have k2:=H.cp kf.1 kf.2
      have k3:=H.V7 (a:=(a:Int)) (by omega) (by omega)
      unfold nF E5
      rw [ao (by omega),cond_true,F.lj (by omega) (by omega),aB,F.c.gw (by omega) (by omega),aB,H.Ih kt.1 kt.2,aB,F.d.thenS ka.1 ka.2 k1.1 k1.2,aB,F.c.fx (by omega) (by omega),aB,H.Ih kf.1 kf.2,aB,H.Ob (by omega) (by omega),aB,F.d.thenS k2.1 k2.2 k3.1 k3.2,aB,bR (by omega)]
      rfl
   ·have kc:=xr _ (ks (l:=t.aX) (j:=(x:Int)) (by omega) (by omega))
    unfold nE
    rw [ao (by omega),cond_true,dE (by omega) (by omega),aB,F.d.fx kc.1 kc.2,aB,F.qo (by omega) (by omega),aB,aB,F.d.gw kc.1 kc.2,aB,G.qo (by omega) (by rw [es]; omega),aB,bR (by omega),vl,Bv,aB]
    rfl
 ·rw [qq (by omega),cond_true,aB,cond_true,kz e1]; rfl
section
variable {a:bI} (hs:qn a)
include hs
theorem Ca (F:xH a.Left):se (zj a):=⟨yr F.c,qX hs.l hs.r,hs.u⟩
theorem Cb (F:xH a.Left):se (zk a):=⟨qX hs.r hs.l,yr F.d,hs.k⟩
omit hs in
theorem half {a:bI} (fb:dk a.Left=true) (gb:dk a.ae=true) (e1:a.Left.aA=a.ae.aF) (e2:a.Left.aF=a.ae.aA) (ub:dx (zj a)=true) (kb:dx (zk a)=true) :
  (∀ x:Int,0≤x→x < a.Left.aA.aE→(0≤gi a.Left.aE x∧gi a.Left.aE x < a.Left.aF.aE)∧ch a.Left.aA x (gi a.ae.aE (gi a.Left.aE x)) (gi a.Unit x))∧
  (∀ y:Int,0≤y→y < a.Left.aF.aE→(0≤gi a.ae.aE y∧gi a.ae.aE y < a.Left.aA.aE)∧ch a.Left.aF (gi a.Left.aE (gi a.ae.aE y)) y (gi a.aw y)):=by
 have F:=bw fb
 have G:=bw gb
 have N:=kq ub
 have M:=kq kb
 have o1:=F.c.o0
 have o2:=F.d.o0
 refine ⟨fun x x0 x1=>⟨F.ob x0 x1,N.cp x0 x1,(N.pf x x0 x1).trans ?_,(N.pt x x0 x1).trans ?_⟩,fun y y0 y1=>?_⟩
 ·exact vm x0 (by show x < ((a.Left.aA.aE.toNat:Nat):Int); omega)
 ·exact ko x0 (by rw [F.ol]; exact x1)
 ·have y2:y < a.ae.aA.aE:=by rw [← e2]; exact y1
  have k:=G.ob y0 y2
  rw [← e1] at k
  refine ⟨k,M.cp (x:=y) y0 y2,(M.pf y y0 y2).trans ?_,(M.pt y y0 y2).trans ?_⟩
  ·exact ko y0 (by rw [G.ol]; exact y2)
  ·exact vm y0 (by show y < ((a.Left.aF.aE.toNat:Nat):Int); omega)
end
theorem Kj {f g:aN} (hf:fq f) (hg:fq g):nY f g=some (sf f g):=by
 unfold nY sf
 rw [vB hf.t,aB]
 have e:jv g.aF f.aA=jv f.aA g.aF:=by
  cases h:jv f.aA g.aF with
  | true=>exact ib.2 (ib.1 h).symm
  | false=>
   cases h2:jv g.aF f.aA with
   | false=>rfl
   | true=>rw [ib.2 (ib.1 h2).symm] at h; cases h
 cases h:jv f.aF g.aA with
 | false=>simp only [cond_false,aB,Bool.and_false]; rfl
 | true=>
  rw [cond_true,vB hg.t,aB,aB,e,Bool.and_true]; rfl
theorem MN {f g:aN} (hf:fq f):oC f g=some (sf f g):=by
 unfold oC sf
 rw [sM hf.s,aB]
 cases h:jv f.aA g.aF with
 | false=>rfl
 | true=>rw [cond_true,sM hf.t,aB,aB,Bool.true_and]; rfl
theorem wq {x y:Int}:(!(x == y))=(y != x):=by
 by_cases h:x=y
 ·rw [h]; simp
 ·rw [kz h,qq (fun e=>h e.symm)]; rfl
section
variable {a:bI} (hs:qn a)
include hs
theorem B1:pI a=some (tk a):=by
 unfold pI tk
 rw [yt hs.l,aB]
 cases h1:dk a.Left with
 | false=>rfl
 | true=>
  have F:=bw h1
  simp only [Bool.not_true,cond_false,Bool.true_and]
  rw [yt hs.r,aB]
  cases h2:dk a.ae with
  | false=>rfl
  | true=>
   have G:=bw h2
   simp only [Bool.not_true,cond_false,Bool.true_and]
   rw [Kj hs.l hs.r,aB,aB]
   cases h3:sf a.Left a.ae with
   | false=>rfl
   | true=>
    have hb:=h3
    unfold sf at hb
    rw [Bool.and_eq_true,ib,ib] at hb
    obtain ⟨e1,e2⟩:=hb
    have Je:=Br F.c
    have gi2:=Br F.d
    have t1:=uz h1 h2 e2
    have t2:=uz h2 h1 e1.symm
    have n1:eD (vj a.Left.aA) (mb a.Left a.ae) a.Unit=some (dx (zj a)):=vk (t:=zj a) (Ca hs F) Je t1 rfl e1.symm
    have n2:eD (mb a.ae a.Left) (vj a.Left.aF) a.aw=some (dx (zk a)):=vk (t:=zk a) (Cb hs F) t2 gi2 e2 rfl
    simp only [Bool.not_true,cond_false,Bool.true_and]
    rw [Bt F.c,aB,u9 F.toFHead G.toFHead e2 hs.l hs.r,aB,n1,aB,aB,aB]
    cases h4:dx (zj a) with
    | false=>rfl
    | true=>
     simp only [Bool.not_true,cond_false,Bool.true_and]
     rw [n1,aB,h4]
     simp only [Bool.not_true,cond_false]
     rw [u9 G.toFHead F.toFHead e1.symm hs.r hs.l,aB,Bt F.d,aB,n2,aB]
     cases h5:dx (zk a) with
     | false=>rfl
     | true=>
      obtain ⟨H1,H2⟩:=half h1 h2 e1 e2 h4 h5
      have o1:=F.c.o0
      have o2:=F.d.o0
      have o3:=F.c.o8
      have o4:=F.d.o8
      have ul:=(kq h4).pl
      have kl:=(kq h5).pl
      replace ul:(a.Unit.length:Int)=a.Left.aA.aE:=ul
      replace kl:(a.aw.length:Int)=a.Left.aF.aE:=by rw [e2]; exact kl
      simp only [Bool.not_true,cond_false,Bool.true_and]
      show an (S:=Unit) (aj (ag 0 (ai (nZ a) (0:Int))) _)=_
      rw [ke (n:=a.Left.aA.aE.toNat) (Bw a) (fun x bo=>?_) (by unfold nZ; rw [av (by omega),cond_false])]
      ·unfold E3
       cases (ns a.Left.aA.aE.toNat).any (Bw a) with
       | true=>rfl
       | false=>
        rw [cond_false,Bool.not_false,Bool.true_and]
        rw [ke (n:=a.Left.aF.aE.toNat) (By a) (fun y bo=>?_) (by unfold pF; rw [av (by omega),cond_false])]
        ·unfold E4
         cases (ns a.Left.aF.aE.toNat).any (By a) <;> rfl
        ·obtain ⟨ro,hk⟩:=H2 (y:Int) (by omega) (by omega)
         obtain ⟨_,hu⟩:=H1 _ ro.1 ro.2
         have gr:0≤gi a.ae.ab (gi a.aw y)∧gi a.ae.ab (gi a.aw y) < a.Left.aA.aH.length:=by
          have:=G.ar hk.1.1 (by rw [← e2]; exact hk.1.2)
          rwa [← e1] at this
         have gf:gi a.Left.aA.aH (gi a.ae.ab (gi a.aw y))=gi a.ae.aE (gi a.Left.aE (gi a.ae.aE y)):=by
          have:=G.fr _ hk.1.1 (by rw [← e2]; exact hk.1.2)
          rw [← e1,← e2,hk.2.1] at this
          exact this
         have cc:=F.c.cell _ _ hu.1.1 hu.1.2 gr.1 gr.2 (by rw [hu.2.2,gf])
         unfold pF
         rw [ao (by omega),cond_true,G.qo (by omega) (by rw [← e2]; omega),aB,dE ro.1 (by omega),aB,dE (by omega) (by omega),aB,G.lj hk.1.1 (by rw [← e2]; exact hk.1.2),aB,F.c.thenS hu.1.1 hu.1.2 gr.1 gr.2,aB]
         have S0:eJ a.Left.aA (gk a.Left.aA.aG (gi a.Unit (gi a.ae.aE y)) (gi a.ae.ab (gi a.aw y)))=some (gi a.Left.aA.aI (gi a.ae.aE y) == tr a (gi a.ae.aE y) (gi a.aw y)):=by
          unfold eJ
          rw [F.c.fx cc.1 cc.2.1,aB,cc.2.2.1,hu.2.1,F.c.lg ro.1 ro.2,aB]; rfl
         rw [S0,aB,wq,bR (by omega)]; rfl
      ·obtain ⟨lo,hu⟩:=H1 (x:Int) (by omega) (by omega)
       obtain ⟨_,hk⟩:=H2 _ lo.1 lo.2
       have ga:=F.ar hu.1.1 hu.1.2
       have gf:=F.fr _ hu.1.1 hu.1.2
       have gt:=F.to _ hu.1.1 hu.1.2
       rw [hu.2.1] at gf
       rw [hu.2.2] at gt
       have cc:=F.d.cell _ _ ga.1 ga.2 hk.1.1 hk.1.2 (by rw [gt,hk.2.1])
       unfold nZ
       rw [ao (by omega),cond_true,dE (by omega) (by omega),aB,F.lj hu.1.1 hu.1.2,aB,F.qo (by omega) (by omega),aB,dE lo.1 (by omega),aB,F.d.thenS ga.1 ga.2 hk.1.1 hk.1.2,aB]
       have S0:eJ a.Left.aF (gk a.Left.aF.aG (gi a.Left.ab (gi a.Unit x)) (gi a.aw (gi a.Left.aE x)))=some (gi a.Left.aF.aI (gi a.Left.aE x) == bk a (gi a.Left.aE x) (gi a.Unit x)):=by
        unfold eJ
        rw [F.d.fx cc.1 cc.2.1,aB,cc.2.2.1,gf,F.d.lg lo.1 lo.2,aB]; rfl
       rw [S0,aB,wq,bR (by omega)]; rfl
theorem MO {h1:dk a.Left=true} {h2:dk a.ae=true} (h3:sf a.Left a.ae=true):jV a=some ((dx (zj a) && dx (zk a)) && (E3 a && E4 a)):=by
 have F:=bw h1
 have G:=bw h2
 have hb:=h3
 unfold sf at hb
 rw [Bool.and_eq_true,ib,ib] at hb
 obtain ⟨e1,e2⟩:=hb
 unfold jV
 rw [yg F.toFHead G.toFHead e2 hs.l hs.r,aB,yg G.toFHead F.toFHead e1.symm hs.r hs.l,aB,GZ F.c,aB,GZ F.d,aB]
 have n1:lF [(bY.mk (vj a.Left.aA) (mb a.Left a.ae) a.Unit),(bY.mk (mb a.ae a.Left) (vj a.Left.aF) a.aw)]=some ([zj a,zk a].all dx):=Ii _ (by simp) fun t ht=>by
  rcases List.mem_cons.1 ht with rfl | ht
  ·exact Ca hs F
  ·obtain rfl:=List.mem_singleton.1 ht
   exact Cb hs F
 rw [n1,aB]
 simp only [List.all_cons,List.all_nil,Bool.and_true]
 cases h4:dx (zj a) with
 | false=>rfl
 | true=>
  cases h5:dx (zk a) with
  | false=>rfl
  | true=>
   obtain ⟨H1,H2⟩:=half h1 h2 e1 e2 h4 h5
   have o1:=F.c.o0
   have o2:=F.d.o0
   have o3:=F.c.o8
   have o4:=F.d.o8
   have ol:=F.ol
   have orl:(a.ae.aE.length:Int)=a.Left.aF.aE:=G.ol.trans (congrArg aJ.aE e2.symm)
   have ul:=(kq h4).pl
   have kl:=(kq h5).pl
   replace ul:(a.Unit.length:Int)=a.Left.aA.aE:=ul
   replace kl:(a.aw.length:Int)=a.Left.aF.aE:=by rw [e2]; exact kl
   simp only [Bool.not_true,cond_false,Bool.true_and,Bool.and_true]
   rw [ke (n:=a.Left.aA.aE.toNat) (Bw a) (fun x bo=>?_) (by unfold kS; rw [av (by omega),cond_false])]
   ·unfold E3
    cases (ns a.Left.aA.aE.toNat).any (Bw a) with
    | true=>rfl
    | false=>
     rw [cond_false,Bool.not_false,Bool.true_and]
     rw [ke (n:=a.Left.aF.aE.toNat) (By a) (fun y bo=>?_) (by unfold kT; rw [av (by omega),cond_false])]
     ·unfold E4
      cases (ns a.Left.aF.aE.toNat).any (By a) <;> rfl
     ·obtain ⟨ro,hk⟩:=H2 (y:Int) (by omega) (by omega)
      obtain ⟨_,hu⟩:=H1 _ ro.1 ro.2
      have gr:0≤gi a.ae.ab (gi a.aw y)∧gi a.ae.ab (gi a.aw y) < a.Left.aA.aH.length:=by
       have:=G.ar hk.1.1 (by rw [← e2]; exact hk.1.2)
       rwa [← e1] at this
      unfold kT
      rw [ao (by omega),cond_true,dE (by omega) (by omega),aB,dE ro.1 (by omega),aB,dE (by omega) (by omega),aB,G.lj hk.1.1 (by rw [← e2]; exact hk.1.2),aB,F.c.kj hu.1.1 hu.1.2 gr.1 gr.2,aB,F.c.lg ro.1 ro.2,aB,bR (by omega)]; rfl
   ·obtain ⟨lo,hu⟩:=H1 (x:Int) (by omega) (by omega)
    obtain ⟨_,hk⟩:=H2 _ lo.1 lo.2
    have ga:=F.ar hu.1.1 hu.1.2
    unfold kS
    rw [ao (by omega),cond_true,dE (by omega) (by omega),aB,dE (by omega) (by omega),aB,F.lj hu.1.1 hu.1.2,aB,dE lo.1 (by omega),aB,F.d.kj ga.1 ga.2 hk.1.1 hk.1.2,aB,F.d.lg lo.1 lo.2,aB,bR (by omega)]; rfl
theorem B2:fX a=some (tk a):=by
 unfold fX tk
 rw [zm _ (by simp) fun t ht=>by
  rcases List.mem_cons.1 ht with rfl | ht
  ·exact hs.l
  ·obtain rfl:=List.mem_singleton.1 ht
   exact hs.r]
 rw [aB]
 simp only [List.all_cons,List.all_nil,Bool.and_true]
 cases h1:dk a.Left with
 | false=>rfl
 | true=>
  cases h2:dk a.ae with
  | false=>rfl
  | true=>
   simp only [Bool.true_and,cond_true]
   rw [MN hs.l,aB]
   cases h3:sf a.Left a.ae with
   | false=>rfl
   | true=>
    simp only [Bool.true_and,cond_true]
    rw [MO hs (h1:=h1) (h2:=h2) h3]; rfl
end
end Go.Proofs.YtcnehblmgfbfoaaGreat
namespace Go.Proofs.YtcnehblmgfbfoaaGreat
open Go Go.Li
set_option linter.unusedVariables false
set_option linter.unusedSectionVars false
set_option linter.unusedSimpArgs false
theorem S3 {R:List (List Int)} (key:List Int) (hl:R.length≤300000) (h3:∀ r∈R,r.length=3):Ok (eU R key) fun y=>key∈R→(0≤y∧y < R.length)∧gr R y=key:=by
 unfold eU
 refine Rj (ol (fun z:Int=>(0≤z∧z≤R.length)∧∀ i:Int,0≤i→i < z→gr R i≠key) (fun z=>(R.length - z).toNat) ⟨⟨by omega,by omega⟩,fun i i0 i1=>by omega⟩ ?_)
 rintro i ⟨⟨i0,i1⟩,hn⟩
 unfold mY
 refine od (fun hi=>?_) fun hi=>os ⟨rfl,os fun h=>?_⟩
 ·have hw:=w1 i0 hi (by omega)
  have h3r:=h3 _ (nx i0 hi)
  refine oe (po i0 hi) (oe (uy _ _ (by omega)) (oc (fun e=>os fun _=>⟨⟨i0,hi⟩,eq_of_beq e⟩) fun e=>os ⟨⟨⟨by rw [hw]; omega,by rw [hw]; omega⟩,fun j j0 j1=>?_⟩,by dsimp only; rw [hw]; omega⟩))
  rw [hw] at j1
  by_cases ej:j=i
  ·rw [ej]
   intro h
   rw [h] at e
   simp at e
  ·exact hn j j0 (by omega)
 ·exfalso
  obtain ⟨j,j0,j1,e⟩:=J1 h
  exact hn j j0 (by omega) e
noncomputable def jd (R:List (List Int)) (key:List Int):Int:=(eU R key).getD (-1)
theorem vT {R:List (List Int)} (key:List Int) (hl:R.length≤300000) (h3:∀ r∈R,r.length=3):eU R key=some (jd R key)∧(key∈R→(0≤jd R key∧jd R key < R.length)∧gr R (jd R key)=key):=by
 obtain ⟨y,h1,h2⟩:=S3 key hl h3
 have e:jd R key=y:=by unfold jd; rw [h1]; rfl
 rw [e]
 exact ⟨h1,h2⟩
def V8 (c:aJ) (xs:List Int) (i j h:Int):Prop:=((0≤i∧i < xs.length)∧(0≤j∧j < xs.length))∧(0≤h∧h < c.aH.length)∧gi c.aH h=gi xs i∧gi c.To h=gi xs j
structure Fat (c:aJ) (xs:List Int) (R:List (List Int)):Prop where
 n:xs.length≤65
 o:∀ x∈xs,0≤x∧x < c.aE
 l:R.length≤300000
 r:∀ r∈R,∃ i j h,r=[i,j,h]∧V8 c xs i j h
 a:∀ i j h,V8 c xs i j h→[i,j,h]∈R
namespace Fat
variable {c:aJ} {xs:List Int} {R:List (List Int)} (F:Fat c xs R)
include F
theorem three:∀ r∈R,r.length=3:=fun r hr=>by obtain ⟨i,j,h,rfl,_⟩:=F.r r hr; rfl
end Fat
theorem J3 {d:aJ} (U:Ty d) {a b:Int} (a0:0≤a) (a1:a < d.aH.length) (b0:0≤b) (b1:b < d.aH.length):dF d a b=some (gk d.aG a b):=by
 unfold dF
 rw [U.qt a0 a1,aB,U.qu a0 a1 b0 b1,aB]; rfl
section
end
end Go.Proofs.YtcnehblmgfbfoaaGreat
namespace Go.Proofs.YtcnehblmgfbfoaaGreat
open Go Go.Li
set_option linter.unusedVariables false
set_option linter.unusedSectionVars false
set_option linter.unusedSimpArgs false
structure Oc (l r:aN) (u k:List Int):Prop where
 u:u.length≤l.aE.length
 o:∀ x∈l.aE,0≤x∧x < r.aE.length∧x < k.length
 a:∀ x∈l.ab,0≤x∧x < r.ab.length
 k:∀ x∈k,0≤x∧x < r.ab.length
structure A7 (a:bI):Prop where
 ls:T7 a.Left.aA
 lt:T7 a.Left.aF
 rs:T7 a.ae.aA
 rt:T7 a.ae.aF
 lo:a.Left.aE.length≤1000
 la:a.Left.ab.length≤1000
 ro:a.ae.aE.length≤1000
 ra:a.ae.ab.length≤1000
 u:a.Unit.length≤1000
 k:a.aw.length≤1000
 p:Oc a.Left a.ae a.Unit a.aw
 q:Oc a.ae a.Left a.aw a.Unit
theorem A7.small {a:bI} (h:A7 a):qn a:=⟨⟨h.ls.s,h.lt.s,by have:=h.lo; omega,by have:=h.la; omega⟩,⟨h.rs.s,h.rt.s,by have:=h.ro; omega,by have:=h.ra; omega⟩,by have:=h.u; omega,by have:=h.k; omega⟩
section
variable {c d:aJ} {f:aN} (T:T7 c) (U:T7 d) (F:FF c d f)
include T U F
theorem V3 {x:Int} (x0:0≤x) (x1:x < c.aE):idx f.aE x=some (gi f.aE x)∧0≤gi f.aE x∧gi f.aE x < d.aE:=⟨dE x0 (by rw [F.ol]; exact x1),F.oo _ (ks x0 (by rw [F.ol]; exact x1))⟩
theorem V4 {a:Int} (a0:0≤a) (a1:a < c.aH.length):idx f.ab a=some (gi f.ab a)∧ch d (gi f.aE (gi c.aH a)) (gi f.aE (gi c.To a)) (gi f.ab a):=by
 have p:=F.ar.2 a a0 a1
 have k:=F.ar.1.ok a a0 a1 p
 exact ⟨dE a0 (by rw [F.ar.1.len]; exact a1),⟨p,k.1⟩,k.2⟩
end
section
variable {x:List Int} (B:E6 x)
include B
omit B in
end
end Go.Proofs.YtcnehblmgfbfoaaGreat
namespace Go.Proofs.YtcnehblmgfbfoaaGreat
open Go Go.Li
set_option linter.unusedVariables false
set_option linter.unusedSectionVars false
set_option linter.unusedSimpArgs false
theorem Q0:∀ {K l:List Int},K.Nodup→(∀ y∈K,y∈l)→K.length≤l.length:=by
 intro K
 induction K with
 | nil=>intro l _ _; exact Nat.zero_le _
 | cons a K ih=>
  intro l hn hs
  rw [List.nodup_cons] at hn
  have ha:=hs a (by simp)
  have h2:=ih (l:=l.erase a) hn.2 fun y hy=>(List.mem_erase_of_ne (fun e=>hn.1 (by rw [← e]; exact hy))).2 (hs y (List.mem_cons_of_mem _ hy))
  have h3:=List.length_erase_of_mem ha
  have h4:0 < l.length:=List.length_pos_of_mem ha
  rw [List.length_cons]
  omega
section
variable {a:bI} (hs:qn a) (A:Adj a)
include hs A
end
def du (c:aJ) (x y:Int):List Int:=(ns c.aH.length).filter (xz c x y)
theorem jj {c:aJ} {x y h:Int}:h∈du c x y↔ch c x y h:=by
 unfold du xz ch
 rw [List.mem_filter,dj,Bool.and_eq_true,beq_iff_eq,beq_iff_eq]
end Go.Proofs.YtcnehblmgfbfoaaGreat
namespace Go.Proofs.YtcnehblmgfbfoaaGreat
open Go Go.Li
set_option linter.unusedVariables false
set_option linter.unusedSimpArgs false
set_option linter.unusedSectionVars false
section
variable {a b:bI} (ha:qn a) (hb:qn b)
include ha hb
section
variable (A:Adj a) (B:Adj b) (e:a.Left.aF=b.Left.aA)
include A B e
omit ha hb in
omit ha hb in
end
end
section
variable {x:List Int} (B:E6 x)
include B
end
end Go.Proofs.YtcnehblmgfbfoaaGreat
namespace Go.Proofs.YtcnehblmgfbfoaaGreat
open Go Go.Li
set_option linter.unusedVariables false
structure YS (c:aJ) (x y p q:Int):Prop where
 i:ch c x y p
 j:ch c y x q
 ij:gk c.aG p q=gi c.aI x
 ji:gk c.aG q p=gi c.aI y
section
variable {f:aN} {os S5 E7:List Int} {js:Int→Int} (E:Eqv f) (eb:(os.length:Int)=f.aF.aE) (Ew:(S5.length:Int)=f.aF.aE) (tG:E7.length=f.aF.aH.length)
 (hO:∀ y:Int,0≤y→y < f.aF.aE→0≤gi os y∧gi os y < f.aA.aE)
 (hI:∀ y:Int,0≤y→y < f.aF.aE→YS f.aF (gi f.aE (gi os y)) y (gi S5 y) (js y))
 (hA:∀ h:Int,0≤h→h < f.aF.aH.length→ch f.aA (gi os (gi f.aF.aH h)) (gi os (gi f.aF.To h)) (gi E7 h)∧gi f.ab (gi E7 h)=gk f.aF.aG (gk f.aF.aG (gi S5 (gi f.aF.aH h)) h) (js (gi f.aF.To h)))
include E eb Ew tG hO hI hA
end
end Go.Proofs.YtcnehblmgfbfoaaGreat
namespace Go.Proofs.YtcnehblmgfbfoaaGreat
open Go Go.Li
set_option linter.unusedVariables false
set_option linter.unusedSectionVars false
def D1 (m:cK):bY:=bY.mk (vj m.On.aA) m.On m.Unit
def B0 (m:cK):bY:=bY.mk (mb m.On m.On) m.On m.cb
def kM (m:cK) (u v:Int):Int:=gk m.On.aA.aG u v
def oM (m:cK) (x:Int):Int:=gi m.On.aE x
def aM (m:cK) (u:Int):Int:=gi m.On.ab u
def D0 (m:cK) (x:Int):Bool:=(kM m (aM m (gi m.Unit x)) (gi m.cb x) != gi m.On.aA.aI (oM m x) || kM m (gi m.Unit (oM m x)) (gi m.cb x) != gi m.On.aA.aI (oM m x)) || kM m (aM m (gi m.cb x)) (gi m.cb x) != kM m (gi m.cb (oM m x)) (gi m.cb x)
def DZ (m:cK):Bool:=!((ns m.On.aA.aE.toNat).any (D0 m))
def DY (m:cK):Bool:=dk m.On && (jv m.On.aA m.On.aF && ((dx (D1 m) && dx (B0 m)) && DZ m))
structure Mon0 (m:cK):Prop where
 fb:dk m.On=true
 e:m.On.aA=m.On.aF
 ub:dx (D1 m)=true
 jb:dx (B0 m)=true
structure Mon (m:cK):Prop extends Mon0 m where
 l1:∀ x:Int,0≤x→x < m.On.aA.aE→kM m (aM m (gi m.Unit x)) (gi m.cb x)=gi m.On.aA.aI (oM m x)
 l2:∀ x:Int,0≤x→x < m.On.aA.aE→kM m (gi m.Unit (oM m x)) (gi m.cb x)=gi m.On.aA.aI (oM m x)
 l3:∀ x:Int,0≤x→x < m.On.aA.aE→kM m (aM m (gi m.cb x)) (gi m.cb x)=kM m (gi m.cb (oM m x)) (gi m.cb x)
namespace Mon0
variable {m:cK} (M:Mon0 m)
include M
theorem mc:gj m.On.aA:=(bw M.fb).c
theorem mob {x:Int} (x0:0≤x) (x1:x < m.On.aA.aE):0≤oM m x∧oM m x < m.On.aA.aE:=by
 have:=(bw M.fb).ob x0 x1
 rwa [← M.e] at this
theorem Ac {x y u:Int} (h:ch m.On.aA x y u):ch m.On.aA (oM m x) (oM m y) (aM m u):=by
 have:=GG (bw M.fb) h
 rwa [← M.e] at this
theorem mco {x y z u v:Int} (h:ch m.On.aA x y u) (h':ch m.On.aA y z v):aM m (kM m u v)=kM m (aM m u) (aM m v):=by
 have:=S4 (bw M.fb) h h'
 rwa [← M.e] at this
theorem muL:(m.Unit.length:Int)=m.On.aA.aE:=(kq M.ub).pl
theorem mjL:(m.cb.length:Int)=m.On.aA.aE:=(kq M.jb).pl
theorem N9 {x:Int} (x0:0≤x) (x1:x < m.On.aA.aE):ch m.On.aA x (oM m x) (gi m.Unit x):=by
 have N:=kq M.ub
 have o0:=M.mc.o0
 refine ⟨N.cp x0 x1,(N.pf x x0 x1).trans ?_,N.pt x x0 x1⟩
 exact vm x0 (by show x < ((m.On.aA.aE.toNat:Nat):Int); omega)
theorem Oa {x:Int} (x0:0≤x) (x1:x < m.On.aA.aE):ch m.On.aA (oM m (oM m x)) (oM m x) (gi m.cb x):=by
 have N:=kq M.jb
 have h1:0≤gi m.cb x∧gi m.cb x < m.On.aF.aH.length:=N.cp x0 x1
 have h2:gi m.On.aF.aH (gi m.cb x)=gi (thenS m.On.aE m.On.aE) x:=N.pf x x0 x1
 have h3:gi m.On.aF.To (gi m.cb x)=gi m.On.aE x:=N.pt x x0 x1
 rw [← M.e] at h1 h2 h3
 refine ⟨h1,h2.trans ?_,h3⟩
 exact ko x0 (by rw [(bw M.fb).ol]; exact x1)
theorem NM {x y z w u v t:Int} (h:ch m.On.aA x y u) (h':ch m.On.aA y z v) (h2:ch m.On.aA z w t):kM m (kM m u v) t=kM m u (kM m v t):=Kk M.mc h h' h2
theorem NL {x y z u v:Int} (h:ch m.On.aA x y u) (h':ch m.On.aA y z v):ch m.On.aA x z (kM m u v):=D3 M.mc h h'
end Mon0
structure u7 (m:cK) (x h:Int):Prop where
 x0:0≤x
 x1:x < m.On.aA.aE
 l:ch m.On.aA (oM m x) x h
 un:kM m (gi m.Unit x) h=gi m.On.aA.aI x
 as9:kM m (aM m h) h=kM m (gi m.cb x) h
def yc (m:cK) (x h y k g:Int):Prop:=ch m.On.aA x y g∧kM m h g=kM m (aM m g) k
section
variable {m:cK} (M:Mon m)
include M
end
end Go.Proofs.YtcnehblmgfbfoaaGreat
namespace Go.Proofs.YtcnehblmgfbfoaaGreat
open Go Go.Li
set_option linter.unusedVariables false
set_option linter.unusedSectionVars false
set_option linter.unusedSimpArgs false
structure M7 (m:cK):Prop where
 l:fq m.On
 u:m.Unit.length≤1000
 j:m.cb.length≤1000
structure Ak (m:cK):Prop where
 l:fq m.On
 u:m.Unit.length≤1048576
 j:m.cb.length≤1048576
theorem M7.small {m:cK} (h:M7 m):Ak m:=⟨h.l,by have:=h.u; omega,by have:=h.j; omega⟩
section
variable {c:aJ} (T:T7 c)
include T
section
variable {t:aN} (F:FF c c t) {u j:List Int} (U:CQ c c (vj c) t false u) (J:CQ c c (mb t t) t false j)
include F U J
end
end
section
variable {x:List Int} (B:E6 x)
include B
end
end Go.Proofs.YtcnehblmgfbfoaaGreat
namespace Go.Proofs.YtcnehblmgfbfoaaGreat
open Go Go.Li
set_option linter.unusedVariables false
set_option linter.unusedSectionVars false
set_option linter.unusedSimpArgs false
def uQ (l:List Int):ByteArray:=strOfNums (l.map (fun n=>IntKind.u8.wrap n)++[255])
theorem DS {l:List Int} (hl:l.length≤1048576):pM [l]=some (uQ l):=by
 unfold pM
 refine (congrArg an (cw [l] (fun i=>(if i=0 then [] else l.map (fun n=>IntKind.u8.wrap n)++[255],(i:Int))) (e:=(l.map (fun n=>IntKind.u8.wrap n)++[255],1)) rfl ?_ ?_)).trans rfl
 ·intro i y hy
  obtain rfl:i=0:=by have:=bc hy; simp at this; exact this
  obtain rfl:l=y:=by simpa using hy
  show nU [l] [] ((0:Nat):Int)=_
  unfold nU
  have:idx [l] ((0:Nat):Int)=some l:=by rw [bf]; rfl
  rw [ao (by simp),cond_true,this,aB]
  refine (cw l (fun i=>((l.take i).map (fun n=>IntKind.u8.wrap n),(i:Int))) (e:=(l.map (fun n=>IntKind.u8.wrap n),(l.length:Int))) rfl ?_ ?_).trans ?_
  ·intro i n hn
   have hi:=bc hn
   have ht:((l.take i).map (fun n=>IntKind.u8.wrap n)).length≤1048576:=by rw [List.length_map,List.length_take]; omega
   show nT l ((l.take i).map (fun n=>IntKind.u8.wrap n)) (i:Int)=_
   unfold nT
   rw [ao (by omega),cond_true,bf,hn,aB,eB (by omega) (by omega),aB,bR (by omega),jo hn,List.map_append]; rfl
  ·show nT l _ _=_
   unfold nT
   rw [av (by omega),cond_false,List.take_length]
  ·have ht:(l.map (fun n=>IntKind.u8.wrap n)).length≤1048576:=by rw [List.length_map]; omega
   show (fits 1 ((l.map (fun n=>IntKind.u8.wrap n)).length+1)>>=_)=_
   rw [eB (by omega) (by omega),aB,bR (by omega)]; rfl
 ·show nU [l] _ _=_
  unfold nU
  rw [av (by simp),cond_false]; rfl
theorem Vb {n:Int} (h0:0≤n) (h1:n < 256):IntKind.u8.wrap n=n:=by
 unfold IntKind.wrap
 have:n % (2 ^ IntKind.u8.bits:Int)=n:=by
  show n % 256=n
  omega
 rw [this]
 rfl
theorem Vc {m n:Int} (m0:0≤m) (m1:m < 256) (n0:0≤n) (n1:n < 256) (h:UInt8.ofNat m.toNat=UInt8.ofNat n.toNat):m=n:=by
 have h2:=congrArg UInt8.toNat h
 rw [UInt8.toNat_ofNat',UInt8.toNat_ofNat',Nat.mod_eq_of_lt (by omega),Nat.mod_eq_of_lt (by omega)] at h2
 omega
def BA (l:List Int):Prop:=∀ y∈l,0≤y∧y < 256
theorem YT:∀ {l k:List Int},BA l→BA k→l.map (fun n=>UInt8.ofNat n.toNat)=k.map (fun n=>UInt8.ofNat n.toNat)→l=k:=by
 intro l
 induction l with
 | nil=>intro k _ _ h; cases k with | nil=>rfl | cons b k=>simp at h
 | cons a l ih=>
  intro k h1 h2 h
  cases k with
  | nil=>simp at h
  | cons b k=>
   rw [List.map_cons,List.map_cons] at h
   injection h with h3 h4
   have ha:=h1 a (by simp)
   have hb:=h2 b (by simp)
   rw [Vc ha.1 ha.2 hb.1 hb.2 h3,ih (fun y hy=>h1 y (by simp [hy])) (fun y hy=>h2 y (by simp [hy])) h4]
theorem MP {l k:List Int} (h1:BA l) (h2:BA k) (h:uQ l=uQ k):l=k:=by
 have wr:∀ {l:List Int},BA l→l.map (fun n=>IntKind.u8.wrap n)=l:=by
  intro l hl
  have:l.map (fun n=>IntKind.u8.wrap n)=l.map id:=List.map_congr_left fun y hy=>Vb (hl y hy).1 (hl y hy).2
  rw [this,List.map_id]
 unfold uQ at h
 rw [wr h1,wr h2] at h
 have h3:=congrArg (fun b:ByteArray=>b.data.toList) h
 simp only [strOfNums_data,List.map_append] at h3
 exact YT h1 h2 (List.append_cancel_right h3)
theorem MQ:∀ {l:List (ByteArray×Int)} {k:ByteArray} {v:Int},(∀ p∈l,p.1≠k)→ue l k v=l++[(k,v)]:=by
 intro l
 induction l with
 | nil=>intro k v _; rfl
 | cons p l ih=>
  intro k v h
  have h1:(p.1 == k)=false:=by
   cases e:(p.1 == k) with
   | false=>rfl
   | true=>exact absurd ((MapKept.bytes_beq _ _).1 e) (h p (by simp))
  unfold ue
  rw [h1,cond_false,ih fun q hq=>h q (by simp [hq])]; rfl
theorem MR {K:Int→ByteArray}:∀ {l:List Int} {j:Int},j∈l→(∀ i∈l,K i=K j→i=j)→rS (l.map fun i=>(K i,i)) (K j)=some j:=by
 intro l
 induction l with
 | nil=>intro j h; cases h
 | cons a l ih=>
  intro j hj hi
  rw [List.map_cons]
  unfold rS
  cases e:(K a == K j) with
  | true=>
   have:=hi a (by simp) ((MapKept.bytes_beq _ _).1 e)
   rw [cond_true]
   show some a=some j
   rw [this]
  | false=>
   have mh:j≠a:=fun h=>by rw [h] at e; rw [(MapKept.bytes_beq _ _).2 rfl] at e; cases e
   rw [cond_false]
   exact ih ((List.mem_cons.1 hj).resolve_left mh) fun i h=>hi i (by simp [h])
structure Q3 (A:List (List Int)):Prop where
 n:A.length≤300000
 nd:A.Nodup
 l:∀ r∈A,r.length=3
 b:∀ r∈A,BA r
theorem Kl {A:List (List Int)} (nd:A.Nodup) {i j:Int} (i0:0≤i) (i1:i < A.length) (j0:0≤j) (j1:j < A.length) (h:gr A i=gr A j):i=j:=by
 unfold gr at h
 rw [List.getD_eq_getElem?_getD,List.getD_eq_getElem?_getD,List.getElem?_eq_getElem (by omega),List.getElem?_eq_getElem (by omega)] at h
 have h':A[i.toNat]'(by omega)=A[j.toNat]'(by omega):=h
 have k:=List.pairwise_iff_getElem.1 nd
 rcases Nat.lt_trichotomy i.toNat j.toNat with hl | hl | hl
 ·exact absurd h' (k _ _ (by omega) (by omega) hl)
 ·omega
 ·exact absurd h'.symm (k _ _ (by omega) (by omega) hl)
def vV (A:List (List Int)):List (ByteArray×Int):=cf A.length fun i=>(uQ (gr A i),i)
section
variable {A:List (List Int)} (H:Q3 A)
include H
theorem S6 {i j:Int} (i0:0≤i) (i1:i < A.length) (j0:0≤j) (j1:j < A.length) (h:uQ (gr A i)=uQ (gr A j)):i=j:=
 Kl H.nd i0 i1 j0 j1 (MP (H.b _ (nx i0 i1)) (H.b _ (nx j0 j1)) h)
theorem HD:oX A=some (vV A):=by
 have hn:=H.n
 unfold oX
 refine (congrArg an (cw (ns A.length) (fun i=>(cf i (fun i=>(uQ (gr A i),i)),(i:Int))) (e:=(vV A,(A.length:Int))) rfl ?_ ?_)).trans rfl
 ·intro i x hx
  obtain ⟨rfl,hi⟩:=cj hx
  have hr:=H.l _ (nx (l:=A) (j:=(i:Int)) (by omega) (by omega))
  show mG A (cf i _,(i:Int))=_
  unfold mG
  dsimp only
  rw [ao (by omega),cond_true,po (by omega) (by omega),aB,DS (by omega),aB,bR (by omega),MQ,jq]
  intro p hp e
  obtain ⟨j,⟨j0,j1⟩,rfl⟩:=uA.1 hp
  have:=S6 H j0 (by omega) (by omega) (by omega) e
  omega
 ·show mG A (cf _ _,_)=_
  unfold mG
  dsimp only
  rw [cJ,av (by omega),cond_false]; rfl
theorem Q7 {r:List Int} (hr:r∈A):(rS (vV A) (uQ r)).getD 0=jd A r:=by
 obtain ⟨⟨j0,j1⟩,e⟩:=(vT r H.n H.l).2 hr
 have h:rS (vV A) (uQ (gr A (jd A r)))=some (jd A r):=MR (K:=fun i=>uQ (gr A i)) (dj.2 ⟨j0,j1⟩) fun i hi h=>by
  have:=dj.1 hi
  exact S6 H this.1 this.2 j0 j1 h
 rw [e] at h
 rw [h]; rfl
theorem Ri {j:Int} (j0:0≤j) (j1:j < A.length):jd A (gr A j)=j:=by
 obtain ⟨⟨k0,k1⟩,e⟩:=(vT (gr A j) H.n H.l).2 (nx j0 j1)
 exact Kl H.nd k0 k1 j0 j1 e
end
def wU (A:List (List Int)) (k:Int):List Int:=cf A.length fun i=>gi (gr A i) k
theorem vU {A:List (List Int)} {k i:Int} (i0:0≤i) (i1:i < A.length):gi (wU A k) i=gi (gr A i) k:=qA i0 i1
section
variable {A:List (List Int)} (hn:A.length≤300000) (h3:∀ r∈A,r.length=3) {k:Int} (k0:0≤k) (k3:k < 3)
include hn h3 k0 k3
theorem DR:mB A k=some (wU A k):=by
 unfold mB
 refine (congrArg an (uN A.length (fun i=>gi (gr A i) k) (fun acc i=>(acc,(i:Int))) rfl ?_ ?_)).trans rfl
 ·intro i acc hi ha
  have hr:=h3 _ (nx (l:=A) (j:=(i:Int)) (by omega) (by omega))
  show jP A k acc i=_
  unfold jP
  rw [ao (by omega),cond_true,po (by omega) (by omega),aB,dE k0 (by omega),aB,eB (by omega) (by omega),aB,bR (by omega)]
 ·intro acc ha
  show jP A k acc _=_
  unfold jP
  rw [av (by omega),cond_false]
theorem DU:nV A k=some (wU A k):=by
 unfold nV
 refine (congrArg an (uN A.length (fun i=>gi (gr A i) k) (fun acc i=>(acc,(i:Int))) rfl ?_ ?_)).trans rfl
 ·intro i acc hi ha
  have hr:=h3 _ (nx (l:=A) (j:=(i:Int)) (by omega) (by omega))
  show mH A k acc i=_
  unfold mH
  rw [ao (by omega),cond_true,po (by omega) (by omega),aB,dE k0 (by omega),aB,eB (by omega) (by omega),aB,bR (by omega)]
 ·intro acc ha
  show mH A k acc _=_
  unfold mH
  rw [av (by omega),cond_false]
end
def qm (c:aJ) (G:Int→Int→Int) (f h:Int):Int:=bif gi c.To f == gi c.aH h then G f h else -1
def nj (c:aJ) (G:Int→Int→Int):List (List Int):=cf c.aH.length fun f=>cf c.aH.length fun h=>qm c G f h
theorem set_set {α:Type} (l:List α) (i:Nat) (a b:α):(l.set i a).set i b=l.set i b:=by simp
theorem yS {α:Type} {l:List α} {i:Nat} (h:i < l.length) (a:α):idx (l.set i a) (i:Int)=some a:=by rw [bf,List.getElem?_set_self h]
theorem Jc {c:aJ} {g:Int→Int→Option Int} {G:Int→Int→Int} (hn:c.aH.length≤1000) (ht:c.To.length=c.aH.length)
  (hg:∀ f h:Int,0≤f→f < c.aH.length→0≤h→h < c.aH.length→gi c.To f=gi c.aH h→g f h=some (G f h)) :
  kP c g=some (aJ.mk c.aE c.aH c.To c.aI (nj c G)):=by
 have tl:(nj c G).length=c.aH.length:=cX _ _
 unfold kP
 rw [show dD c=some (c.aH.length:Int) from rfl,aB,xc (by omega) (by omega),aB]
 refine (congrArg C2 (cw (nj c G) (fun i=>((i:Int),(nj c G).take i++List.replicate ((nj c G).length - i) ([]:List Int))) (e:=((c.aH.length:Int),nj c G)) (by simp [tl]) ?_ ?_)).trans rfl
 ·intro i row br
  have hi:=bc br
  rw [tl] at hi
  have hr:row=cf c.aH.length fun h=>qm c G i h:=by
   have:=sD (fun f=>cf c.aH.length fun h=>qm c G f h) hi
   rw [show (nj c G)[i]? = _ from this] at br
   exact (Option.some.inj br).symm
  have rl:row.length=c.aH.length:=by rw [hr,cX]
  have eb:((nj c G).take i++List.replicate ((nj c G).length - i) ([]:List Int)).length=c.aH.length:=by simp [tl]; omega
  have xN:=sC (nj c G) ([]:List Int) br
  have S7:=get_copy (nj c G) ([]:List Int) br
  generalize (nj c G).take i++List.replicate ((nj c G).length - i) ([]:List Int)=o at eb xN S7
  show gK c g (c.aH.length:Int) c.aH.length (i:Int) o=_
  unfold gK
  rw [List.length_replicate,ao (by omega),cond_true,xc (by omega) (by omega),aB,bf,S7,aB,Int.toNat_natCast,yS (by omega),aB]
  refine (cw row (fun j=>((j:Int),o.set i (row.take j++List.replicate (row.length - j) (0:Int)))) (e:=((c.aH.length:Int),o.set i row)) (by simp [rl]) ?_ ?_).trans ?_
  ·intro j v hv
   have hj:=bc hv
   rw [rl] at hj
   have n7:v=qm c G i j:=by
    have:=sD (fun h=>qm c G i h) hj
    rw [hr,show (cf c.aH.length fun h=>qm c G i h)[j]? = _ from this] at hv
    exact (Option.some.inj hv).symm
   have CX:(row.take j++List.replicate (row.length - j) (0:Int)).length=c.aH.length:=by simp; omega
   have Ij:=sC row (0:Int) hv
   have Od:=get_copy row (0:Int) hv
   generalize row.take j++List.replicate (row.length - j) (0:Int)=e at CX Ij Od
   show gJ c g (i:Int) (List.replicate c.aH.length (0:Int)) (j:Int) (o.set i e)=_
   unfold gJ
   rw [List.length_replicate,ao (by omega),cond_true,yS (by omega),aB,bf,Od,aB,dE (by omega) (by omega),aB,dE (by omega) (by omega),aB,Int.toNat_natCast,Int.toNat_natCast,set_set,yS (by omega)]
   unfold qm at n7
   by_cases ec:gi c.To i=gi c.aH j
   ·rw [o5 ec] at n7 ⊢
    rw [cond_true,aB,hg i j (by omega) (by omega) (by omega) (by omega) ec,aB,yS (by omega),aB,set_set,set_set,bR (by omega)]
    rw [cond_true] at n7
    rw [← n7,Ij]
   ·rw [kz ec] at n7 ⊢
    rw [cond_false] at n7
    rw [cond_false,bR (by omega),← n7,Ij]
  ·show gJ c g _ _ _ _=_
   unfold gJ
   rw [List.length_replicate,av (by omega),cond_false]
   simp [List.take_of_length_le (Nat.le_of_eq rl),rl]
  ·dsimp only
   rw [xN,bR (by omega)]
 ·show gK c g _ _ _ _=_
  unfold gK
  rw [List.length_replicate,av (by omega),cond_false]
  simp [List.take_of_length_le (Nat.le_of_eq tl),tl]
end Go.Proofs.YtcnehblmgfbfoaaGreat
