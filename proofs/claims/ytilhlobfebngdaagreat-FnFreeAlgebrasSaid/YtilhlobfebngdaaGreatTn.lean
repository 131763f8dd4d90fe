/- Adjunctions: units and counits as natural transformations, the laws of triangles; transposing there and back; composites. No condition beside those that each theorem names. -/
import Derived.Test.YtilhlobfebngdaaGreatYk
import Derived.Test.YtilhlobfebngdaaGreatUr
import Derived.Test.YtilhlobfebngdaaGreatYn
import Derived.Test.YtilhlobfebngdaaGreatVw
namespace Go.Proofs.YtilhlobfebngdaaGreat
open Go Go.Li
set_option linter.unusedVariables false
set_option linter.unusedSectionVars false
def AR (c:aI):aQ:=aQ.mk c c (ns c.aA.toNat) (ns c.aG.length)
theorem UK {c:aI} (C:km c):ja (AR c)=true:=by
 have o0:=C.o0
 have hO:∀ y:Int,0≤y→y < c.aA→gi (ns c.aA.toNat) y=y:=fun y y0 y1=>BQ y0 (by omega)
 have hA:∀ a:Int,0≤a→a < c.aG.length→gi (ns c.aG.length) a=a:=fun a a0 a1=>BQ a0 a1
 refine Pa (f:=AR c) (J4 C) (J4 C) (by show ((ns c.aA.toNat).length:Int)=c.aA; rw [cT]; omega) (cT _) (fun y hy=>?_) (fun y hy=>fj.1 hy) (fun a a0 a1=>?_) (fun a a0 a1=>?_) (fun y y0 y1=>?_) fun a b a0 a1 b0 b1 e=>?_
 ·have:=fj.1 hy
  show 0≤y∧y < c.aA
  omega
 ·have k:=C.fr a0 a1
  show gi c.aG (gi (ns c.aG.length) a)=gi (ns c.aA.toNat) (gi c.aG a)
  rw [hA a a0 a1,hO _ k.1 k.2]
 ·have k:=C.to a0 a1
  show gi c.To (gi (ns c.aG.length) a)=gi (ns c.aA.toNat) (gi c.To a)
  rw [hA a a0 a1,hO _ k.1 k.2]
 ·have k:=C.id (x:=y) y0 y1
  show gi (ns c.aG.length) (gi c.aJ y)=gi c.aJ (gi (ns c.aA.toNat) y)
  rw [hA _ k.1 k.2,hO y y0 y1]
 ·have k:=C.cell a b a0 a1 b0 b1 e
  show gi (ns c.aG.length) (gk c.aE a b)=gk c.aE (gi (ns c.aG.length) a) (gi (ns c.aG.length) b)
  rw [hA _ k.1 k.2.1,hA a a0 a1,hA b b0 b1]
theorem Pb {c:aI} (C:km c):j6 (AR c):=by
 have o0:=C.o0
 have o8:=C.o8
 have m:=C.m
 exact ⟨xw C,xw C,by show (ns _).length≤_; rw [cT]; omega,by show (ns _).length≤_; rw [cT]; omega⟩
def unT (a:cU):bT:=bT.mk (AR a.Left.aB) (r5 a.Left a.bu) a.Unit
def coT (a:cU):bT:=bT.mk (r5 a.bu a.Left) (AR a.Left.aH) a.l9
def tr (a:cU) (x g:Int):Int:=gk a.Left.aB.aE (gi a.Unit x) (gi a.bu.ab g)
def bk (a:cU) (y f:Int):Int:=gk a.Left.aH.aE (gi a.Left.ab f) (gi a.l9 y)
structure Adj (a:cU):Prop where
 fb:ja a.Left=true
 gb:ja a.bu=true
 e1:a.Left.aB=a.bu.aH
 e2:a.Left.aH=a.bu.aB
 ub:mf (unT a)=true
 kb:mf (coT a)=true
 t1:∀ x:Int,0≤x→x < a.Left.aB.aA→bk a (gi a.Left.aA x) (gi a.Unit x)=gi a.Left.aH.aJ (gi a.Left.aA x)
 t2:∀ y:Int,0≤y→y < a.Left.aH.aA→tr a (gi a.bu.aA y) (gi a.l9 y)=gi a.Left.aB.aJ (gi a.bu.aA y)
namespace Adj
variable {a:cU} (A:Adj a)
include A
theorem aC:km a.Left.aB:=(jj A.fb).c
theorem aD:km a.Left.aH:=(jj A.fb).d
theorem SI {f g:Int} (f0:0≤f) (f1:f < a.Left.aB.aG.length) (g0:0≤g) (g1:g < a.Left.aB.aG.length) (e:gi a.Left.aB.To f=gi a.Left.aB.aG g):gi a.Left.ab (gk a.Left.aB.aE f g)=gk a.Left.aH.aE (gi a.Left.ab f) (gi a.Left.ab g):=(jj A.fb).co f g f0 f1 g0 g1 e
theorem au {x:Int} (x0:0≤x) (x1:x < a.Left.aB.aA):(0≤gi a.Unit x∧gi a.Unit x < a.Left.aB.aG.length)∧gi a.Left.aB.aG (gi a.Unit x)=x∧gi a.Left.aB.To (gi a.Unit x)=gi a.bu.aA (gi a.Left.aA x):=by
 have N:=xx A.ub
 have o0:=A.aC.o0
 refine ⟨N.cp x0 x1,(N.pf x x0 x1).trans ?_,(N.pt x x0 x1).trans ?_⟩
 ·exact BQ x0 (by show x < ((a.Left.aB.aA.toNat:Nat):Int); omega)
 ·exact nr x0 (by rw [(jj A.fb).ol]; exact x1)
theorem ak {y:Int} (y0:0≤y) (y1:y < a.Left.aH.aA):(0≤gi a.l9 y∧gi a.l9 y < a.Left.aH.aG.length)∧gi a.Left.aH.aG (gi a.l9 y)=gi a.Left.aA (gi a.bu.aA y)∧gi a.Left.aH.To (gi a.l9 y)=y:=by
 have N:=xx A.kb
 have o0:=A.aD.o0
 have y2:y < a.bu.aB.aA:=by rw [← A.e2]; exact y1
 refine ⟨N.cp (x:=y) y0 y2,(N.pf y y0 y2).trans ?_,(N.pt y y0 y2).trans ?_⟩
 ·exact nr y0 (by rw [(jj A.gb).ol]; exact y2)
 ·exact BQ y0 (by show y < ((a.Left.aH.aA.toNat:Nat):Int); omega)
end Adj
section
variable {a b:cU} (A:Adj a) (B:Adj b) (e:a.Left.aH=b.Left.aB)
include A B e
end
end Go.Proofs.YtilhlobfebngdaaGreat
namespace Go.Proofs.YtilhlobfebngdaaGreat
open Go Go.Li
set_option linter.unusedVariables false
set_option linter.unusedSectionVars false
def fg (c:aI) (z x u:Int):Prop:=(0≤u∧u < c.aG.length)∧gi c.aG u=z∧gi c.To u=x
structure Uni (f:aQ) (y x e:Int):Prop where
 x0:0≤x
 x1:x < f.aB.aA
 l:fg f.aH (gi f.aA x) y e
 ex:∀ z h:Int,0≤z→z < f.aB.aA→fg f.aH (gi f.aA z) y h→∃ u,fg f.aB z x u∧gk f.aH.aE (gi f.ab u) e=h
 un:∀ z u v:Int,fg f.aB z x u→fg f.aB z x v→gk f.aH.aE (gi f.ab u) e=gk f.aH.aE (gi f.ab v) e→u=v
theorem RV {c:aI} (C:km c) {x y z u v:Int} (h:fg c x y u) (h':fg c y z v):fg c x z (gk c.aE u v):=by
 have:=C.cell u v h.1.1 h.1.2 h'.1.1 h'.1.2 (by rw [h.2.2,h'.2.1])
 exact ⟨⟨this.1,this.2.1⟩,this.2.2.1.trans h.2.1,this.2.2.2.trans h'.2.2⟩
theorem Ya {c:aI} (C:km c) {x:Int} (x0:0≤x) (x1:x < c.aA):fg c x x (gi c.aJ x):=⟨C.id x0 x1,C.xu x x0 x1,C.xS x x0 x1⟩
theorem UN {f:aQ} (F:FL f) {x y u:Int} (h:fg f.aB x y u):fg f.aH (gi f.aA x) (gi f.aA y) (gi f.ab u):=⟨F.ar h.1.1 h.1.2,by rw [F.fr u h.1.1 h.1.2,h.2.1],by rw [F.to u h.1.1 h.1.2,h.2.2]⟩
theorem Pg {c:aI} (C:km c) {x y z w u v t:Int} (h:fg c x y u) (h':fg c y z v) (h2:fg c z w t):gk c.aE (gk c.aE u v) t=gk c.aE u (gk c.aE v t):=
 C.assoc u v t h.1.1 h.1.2 h'.1.1 h'.1.2 h2.1.1 h2.1.2 (by rw [h.2.2,h'.2.1]) (by rw [h'.2.2,h2.2.1])
theorem Yb {f:aQ} (F:FL f) {x y z u v:Int} (h:fg f.aB x y u) (h':fg f.aB y z v):gi f.ab (gk f.aB.aE u v)=gk f.aH.aE (gi f.ab u) (gi f.ab v):=F.co u v h.1.1 h.1.2 h'.1.1 h'.1.2 (by rw [h.2.2,h'.2.1])
theorem J7 {c:aI} (C:km c) {x y u:Int} (h:fg c x y u):0≤x∧x < c.aA:=by have:=C.fr h.1.1 h.1.2; rwa [h.2.1] at this
theorem Yc {c:aI} (C:km c) {x y u:Int} (h:fg c x y u):gk c.aE (gi c.aJ x) u=u:=by have:=C.Nb u h.1.1 h.1.2; rwa [h.2.1] at this
theorem Yd {c:aI} (C:km c) {x y u:Int} (h:fg c x y u):gk c.aE u (gi c.aJ y)=u:=by have:=C.HM u h.1.1 h.1.2; rwa [h.2.2] at this
section
variable {f:aQ} {xs es Hk us:List Int} (hf:ja f=true) (qv:(xs.length:Int)=f.aH.aA) (Ih:(es.length:Int)=f.aH.aA) (yJ:Hk.length=f.aH.aG.length) (hul:(us.length:Int)=f.aB.aA)
 (hU:∀ y:Int,0≤y→y < f.aH.aA→Uni f y (gi xs y) (gi es y))
 (hA:∀ g:Int,0≤g→g < f.aH.aG.length→fg f.aB (gi xs (gi f.aH.aG g)) (gi xs (gi f.aH.To g)) (gi Hk g)∧gk f.aH.aE (gi f.ab (gi Hk g)) (gi es (gi f.aH.To g))=gk f.aH.aE (gi es (gi f.aH.aG g)) g)
 (hS:∀ x:Int,0≤x→x < f.aB.aA→fg f.aB x (gi xs (gi f.aA x)) (gi us x)∧gk f.aH.aE (gi f.ab (gi us x)) (gi es (gi f.aA x))=gi f.aH.aJ (gi f.aA x))
include hf qv Ih yJ hul hU hA hS
end
end Go.Proofs.YtilhlobfebngdaaGreat
namespace Go.Proofs.YtilhlobfebngdaaGreat
open Go Go.Li
set_option linter.unusedVariables false
set_option linter.unusedSectionVars false
structure AS (a:cU):Prop where
 l:j6 a.Left
 r:j6 a.bu
 u:a.Unit.length≤1048576
 k:a.l9.length≤1048576
theorem UL {c:aI} (C:km c):pG c=some (AR c):=by
 have o0:=C.o0
 have o8:=C.o8
 have m:=C.m
 have hs:=xw C
 unfold pG
 rw [D3 o0 (by omega),aF,show dH c=some (c.aG.length:Int) from rfl,aF,D3 (by omega) (by omega),aF,Int.toNat_natCast,D4 hs hs (by rw [cT]; omega) (by rw [cT]; omega),aF]; rfl
theorem RJ (n:Nat):ns (n+1)=ns n++[(n:Int)]:=by simp [ns,List.range_succ]
theorem upto {R S:Type} {k:Nat} {n:Nat} (hn:n≤1048576) {body:List Int×Int→Option (Out (List Int×Int) R)} {f:List Int×Int→Option (Out S R)}
  (h:∀ i:Nat,i < n→body (ns i,(i:Int))=some (.norm (ns i++[(i:Int)],((i+1:Nat):Int)))) (last:body (ns n,(n:Int))=some (.exit k (ns n,(n:Int)))) :
  ah (ae k (aj body (([]:List Int),(0:Int)))) f=f (ns n,(n:Int)):=by
 refine ud (ns n) (fun i=>(ns i,(i:Int))) rfl (fun i x hx=>?_) (e:=(ns n,(n:Int))) ?_
 ·obtain ⟨rfl,hi⟩:=gh hx
  rw [h i hi,RJ]
 ·rw [cT]; exact last
theorem UM {c:aI} (C:km c):eK c=some (AR c):=by
 have o0:=C.o0
 have o8:=C.o8
 have m:=C.m
 have hs:=xw C
 have a1:∀ i:Nat,i < c.aA.toNat→eZ c (ns i) (i:Int)=some (.norm (ns i++[(i:Int)],((i+1:Nat):Int))):=fun i hi=>by
  unfold eZ
  rw [bb (by omega),cond_true,cT,eB (by omega) (by omega),aF,cA (by omega)]
 have a2:eZ c (ns c.aA.toNat) (c.aA.toNat:Int)=some (.exit 0 (ns c.aA.toNat,(c.aA.toNat:Int))):=by
  unfold eZ
  rw [br (by omega),cond_false]
 have b1:∀ i:Nat,i < c.aG.length→fA c (ns i) (i:Int)=some (.norm (ns i++[(i:Int)],((i+1:Nat):Int))):=fun i hi=>by
  unfold fA
  rw [bb (by omega),cond_true,cT,eB (by omega) (by omega),aF,cA (by omega)]
 have b2:fA c (ns c.aG.length) (c.aG.length:Int)=some (.exit 2 (ns c.aG.length,(c.aG.length:Int))):=by
  unfold fA
  rw [br (by omega),cond_false]
 unfold eK
 rw [upto (n:=c.aA.toNat) (by omega) a1 a2]
 dsimp only
 rw [upto (n:=c.aG.length) (by omega) b1 b2]
 dsimp only
 rw [mr hs hs (by rw [cT]; omega) (by rw [cT]; omega),aF]; rfl
theorem Hi {t:bT} (hs:C6 t) (fb:ja t.aB=true) (gb:ja t.aH=true) (es:t.aH.aB=t.aB.aB) (et:t.aH.aH=t.aB.aH):gN t.aB t.aH t.bh=some (mf t):=by
 have F:=jj fb
 have G:=jj gb
 have hp:=hs.p
 have gu:=F.ol
 have yJ:=F.al
 have cm:=F.c.m
 unfold gN mf zY
 rw [fb,gb,es,et,vc.2 rfl,vc.2 rfl]
 simp only [Bool.true_and]
 by_cases e1:(t.bh.length:Int)=t.aB.aB.aA
 ·rw [mq (by omega),cond_false,AO _ _ (by omega),aF,aF,ma e1,Bool.true_and]
  cases h:kj t.aB.aH.aG.length t.bh with
  | false=>rfl
  | true=>
   rw [Bool.not_true,cond_false,Bool.true_and]
   have s9:=ou.1 h
   have H:THead t:=⟨F,G,fb,gb,es,et,e1,s9⟩
   rw [wa (n:=t.bh.length) (Et t) (fun x bp=>?_) (by unfold nT; rw [br (by omega),cond_false])]
   ·unfold BR
    cases (ns t.bh.length).any (Et t) with
    | true=>rfl
    | false=>
     rw [cond_false,Bool.not_false,Bool.true_and]
     rw [wa (n:=t.aB.aB.aG.length) (fun a=>!(LB t.aB t.aH t.bh a)) (fun a bp=>?_) (by unfold nU; rw [br (by omega),cond_false])]
     ·unfold J5
      cases (ns t.aB.aB.aG.length).any _ <;> rfl
     ·have kf:=F.c.fr (f:=(a:Int)) (by omega) (by omega)
      have kt:=F.c.to (f:=(a:Int)) (by omega) (by omega)
      have ka:=F.ar (a:=(a:Int)) (by omega) (by omega)
      have k1:=H.cp kt.1 kt.2
      have k2:=H.cp kf.1 kf.2
      have k3:=H.ar2 (a:=(a:Int)) (by omega) (by omega)
      unfold nU LB
      rw [bb (by omega),cond_true,F.wb (by omega) (by omega),aF,F.c.jf (by omega) (by omega),aF,H.Nf kt.1 kt.2,aF,F.d.thenS ka.1 ka.2 k1.1 k1.2,aF,F.c.iq (by omega) (by omega),aF,H.Nf kf.1 kf.2,aF,H.Ts (by omega) (by omega),aF,F.d.thenS k2.1 k2.2 k3.1 k3.2,aF,cA (by omega)]
      rfl
   ·have kc:=s9 _ (cy (l:=t.bh) (j:=(x:Int)) (by omega) (by omega))
    unfold nT
    rw [bb (by omega),cond_true,bS (by omega) (by omega),aF,F.d.iq kc.1 kc.2,aF,F.zo (by omega) (by omega),aF,aF,F.d.jf kc.1 kc.2,aF,G.zo (by omega) (by rw [es]; omega),aF,cA (by omega),p9,yn,aF]
    rfl
 ·rw [o6 (by omega),cond_true,aF,cond_true,nq e1]; rfl
section
variable {a:cU} (hs:AS a)
include hs
omit hs in
end
theorem Gt {x y:Int}:(!(x == y))=(y != x):=by
 by_cases h:x=y
 ·rw [h]; simp
 ·rw [nq h,o6 (fun e=>h e.symm)]; rfl
section
variable {a:cU} (hs:AS a)
include hs
end
end Go.Proofs.YtilhlobfebngdaaGreat
namespace Go.Proofs.YtilhlobfebngdaaGreat
open Go Go.Li
set_option linter.unusedVariables false
set_option linter.unusedSectionVars false
set_option linter.unusedSimpArgs false
theorem Ng {R:List (List Int)} {k:Int} (k0:0≤k) (k3:k < 3) (hl:R.length≤300000) (h3:∀ r∈R,r.length=3):Ok (kG R k) fun y=>y.length=R.length∧∀ i:Int,0≤i→i < R.length→gi y i=gi (gr R i) k:=by
 unfold kG
 refine gj (ol (fun z:List Int×Int=>(0≤z.2∧z.2≤R.length)∧(z.1.length:Int)=z.2∧∀ i:Int,0≤i→i < z.2→gi z.1 i=gi (gr R i) k) (fun z=>(R.length - z.2).toNat) ⟨⟨by show (0:Int)≤0; omega,by show (0:Int)≤_; omega⟩,rfl,fun i i0 i1=>by dsimp only at i1; omega⟩ ?_)
 rintro ⟨l,i⟩ ⟨⟨i0,i1⟩,LC,hv⟩
 dsimp only at i0 i1 LC hv
 show Ok (oW R k l i) _
 unfold oW
 refine od (fun hi=>?_) fun hi=>os ⟨rfl,os ⟨by omega,fun j j0 j1=>hv j j0 (by omega)⟩⟩
 have hw:=w1 i0 hi (by omega)
 have h3r:=h3 _ (kq i0 hi)
 refine oe (jz i0 hi) (oe (bS k0 (by omega)) (dp (by omega) (by omega) (os ⟨⟨⟨?_,?_⟩,?_,fun j j0 j1=>?_⟩,?_⟩)))
 ·dsimp only; rw [hw]; omega
 ·dsimp only; rw [hw]; omega
 ·dsimp only; rw [hw,List.length_append,List.length_singleton]; omega
 ·dsimp only at j1 ⊢
  rw [hw] at j1
  rw [ks j0]
  by_cases e:j < l.length
  ·rw [if_pos e]; exact hv j j0 (by omega)
  ·rw [if_neg e,if_pos (by omega),show j=i by omega]
 ·dsimp only; rw [hw]; omega
theorem XU {R:List (List Int)} (key:List Int) (hl:R.length≤300000) (h3:∀ r∈R,r.length=3):Ok (kQ R key) fun y=>key∈R→(0≤y∧y < R.length)∧gr R y=key:=by
 unfold kQ
 refine gj (ol (fun z:Int=>(0≤z∧z≤R.length)∧∀ i:Int,0≤i→i < z→gr R i≠key) (fun z=>(R.length - z).toNat) ⟨⟨by omega,by omega⟩,fun i i0 i1=>by omega⟩ ?_)
 rintro i ⟨⟨i0,i1⟩,hn⟩
 unfold tJ
 refine od (fun hi=>?_) fun hi=>os ⟨rfl,os fun h=>?_⟩
 ·have hw:=w1 i0 hi (by omega)
  have h3r:=h3 _ (kq i0 hi)
  refine oe (jz i0 hi) (oe (BP _ _ (by omega)) (oc (fun e=>os fun _=>⟨⟨i0,hi⟩,eq_of_beq e⟩) fun e=>os ⟨⟨⟨by rw [hw]; omega,by rw [hw]; omega⟩,fun j j0 j1=>?_⟩,by dsimp only; rw [hw]; omega⟩))
  rw [hw] at j1
  by_cases ej:j=i
  ·rw [ej]
   intro h
   rw [h] at e
   simp at e
  ·exact hn j j0 (by omega)
 ·exfalso
  obtain ⟨j,j0,j1,e⟩:=XV h
  exact hn j j0 (by omega) e
noncomputable def xT (R:List (List Int)) (key:List Int):Int:=(kQ R key).getD (-1)
theorem J6 {R:List (List Int)} (key:List Int) (hl:R.length≤300000) (h3:∀ r∈R,r.length=3):kQ R key=some (xT R key)∧(key∈R→(0≤xT R key∧xT R key < R.length)∧gr R (xT R key)=key):=by
 obtain ⟨y,h1,h2⟩:=XU key hl h3
 have e:xT R key=y:=by unfold xT; rw [h1]; rfl
 rw [e]
 exact ⟨h1,h2⟩
def Cd (c:aI) (xs:List Int) (i j h:Int):Prop:=((0≤i∧i < xs.length)∧(0≤j∧j < xs.length))∧(0≤h∧h < c.aG.length)∧gi c.aG h=gi xs i∧gi c.To h=gi xs j
structure Fat (c:aI) (xs:List Int) (R:List (List Int)):Prop where
 n:xs.length≤65
 o:∀ x∈xs,0≤x∧x < c.aA
 l:R.length≤300000
 r:∀ r∈R,∃ i j h,r=[i,j,h]∧Cd c xs i j h
 a:∀ i j h,Cd c xs i j h→[i,j,h]∈R
namespace Fat
variable {c:aI} {xs:List Int} {R:List (List Int)} (F:Fat c xs R)
include F
theorem three:∀ r∈R,r.length=3:=fun r hr=>by obtain ⟨i,j,h,rfl,_⟩:=F.r r hr; rfl
theorem C7 {k:Int} (k0:0≤k) (k1:k < R.length):gr R k=[gi (gr R k) 0,gi (gr R k) 1,gi (gr R k) 2]∧Cd c xs (gi (gr R k) 0) (gi (gr R k) 1) (gi (gr R k) 2):=by
 obtain ⟨i,j,h,e,ha⟩:=F.r _ (kq k0 k1)
 rw [e]
 exact ⟨rfl,ha⟩
theorem RL {i:Int} (i0:0≤i) (i1:i < xs.length):0≤gi xs i∧gi xs i < c.aA:=F.o _ (cy i0 i1)
theorem FI {i j h:Int} (ha:Cd c xs i j h):(0≤xT R [i,j,h]∧xT R [i,j,h] < R.length)∧gr R (xT R [i,j,h])=[i,j,h]:=(J6 _ F.l F.three).2 (F.a i j h ha)
end Fat
structure XW (c:aI) (xs:List Int) (R:List (List Int)) (d:aI):Prop where
 ob:d.aA=xs.length
 fl:d.aG.length=R.length
 tl:d.To.length=R.length
 il:(d.aJ.length:Int)=xs.length
 kl:d.aE.length=R.length
 f:∀ k:Int,0≤k→k < R.length→gi d.aG k=gi (gr R k) 0
 t:∀ k:Int,0≤k→k < R.length→gi d.To k=gi (gr R k) 1
 i:∀ x:Int,0≤x→x < xs.length→gi d.aJ x=xT R [x,x,gi c.aJ (gi xs x)]
 r:∀ r∈d.aE,r.length=R.length
 k:∀ a b:Int,0≤a→a < R.length→0≤b→b < R.length→gk d.aE a b=if gi (gr R a) 1=gi (gr R b) 0 then xT R [gi (gr R a) 0,gi (gr R b) 1,gk c.aE (gi (gr R a) 2) (gi (gr R b) 2)] else -1
theorem XX {c d:aI} {xs:List Int} {R:List (List Int)} (T:T7 c) (F:Fat c xs R) (D:XW c xs R d):Ty d:=by
 have uY:∀ x:Int,0≤x→x < xs.length→Cd c xs x x (gi c.aJ (gi xs x)):=fun x x0 x1=>by
  have o:=F.RL x0 x1
  exact ⟨⟨⟨x0,x1⟩,x0,x1⟩,T.t.id o.1 o.2,T.t.xu _ o.1 o.2,T.t.xS _ o.1 o.2⟩
 have hco:∀ a b:Int,0≤a→a < R.length→0≤b→b < R.length→gi (gr R a) 1=gi (gr R b) 0→Cd c xs (gi (gr R a) 0) (gi (gr R b) 1) (gk c.aE (gi (gr R a) 2) (gi (gr R b) 2)):=fun a b a0 a1 b0 b1 e=>by
  have A:=(F.C7 a0 a1).2
  have B:=(F.C7 b0 b1).2
  have k:=T.t.cell _ _ A.2.1.1 A.2.1.2 B.2.1.1 B.2.1.2 (by rw [A.2.2.2,B.2.2.1,e])
  exact ⟨⟨A.1.1,B.1.2⟩,k.1,k.2.1.trans A.2.2.1,k.2.2.trans B.2.2.2⟩
 have fl:=D.fl
 have e0:∀ i j h:Int,gi [i,j,h] 0=i:=fun _ _ _=>rfl
 have e1:∀ i j h:Int,gi [i,j,h] 1=j:=fun _ _ _=>rfl
 have e2:∀ i j h:Int,gi [i,j,h] 2=h:=fun _ _ _=>rfl
 refine ⟨by rw [D.ob]; omega,fun y hy=>?_,by rw [D.tl,D.fl],fun y hy=>?_,by rw [D.kl,D.fl],fun r hr=>by rw [D.r r hr,D.fl],by rw [D.il,D.ob],fun y hy=>?_,fun x x0 x1=>?_,fun x x0 x1=>?_,fun a b a0 a1 b0 b1 e=>?_,fun a b a0 a1 b0 b1 e=>?_,fun x x0 x1=>?_⟩
 ·obtain ⟨i,i0,i1,rfl⟩:=mb hy
  rw [D.f i i0 (by omega),D.ob]
  exact (F.C7 i0 (by omega)).2.1.1
 ·obtain ⟨i,i0,i1,rfl⟩:=mb hy
  have:=D.tl
  rw [D.t i i0 (by omega),D.ob]
  exact (F.C7 i0 (by omega)).2.1.2
 ·obtain ⟨i,i0,i1,rfl⟩:=mb hy
  have:=D.il
  rw [D.i i i0 (by omega),D.fl]
  exact (F.FI (uY i i0 (by omega))).1
 ·rw [D.ob] at x1
  have k:=F.FI (uY x x0 x1)
  rw [D.i x x0 x1,D.f _ k.1.1 k.1.2,k.2]; rfl
 ·rw [D.ob] at x1
  have k:=F.FI (uY x x0 x1)
  rw [D.i x x0 x1,D.t _ k.1.1 k.1.2,k.2]; rfl
 ·rw [fl] at a1 b1
  rw [D.t a a0 a1,D.f b b0 b1] at e
  have k:=F.FI (hco a b a0 a1 b0 b1 e)
  rw [D.k a b a0 a1 b0 b1,if_pos e,D.f _ k.1.1 k.1.2,D.t _ k.1.1 k.1.2,k.2,D.f a a0 a1,D.t b b0 b1,fl]
  exact ⟨k.1,rfl,rfl⟩
 ·rw [fl] at a1 b1
  rw [D.t a a0 a1,D.f b b0 b1] at e
  rw [D.k a b a0 a1 b0 b1,if_neg e]
 ·rw [D.ob] at x1
  have o:=F.RL x0 x1
  have k:=F.FI (uY x x0 x1)
  rw [D.i x x0 x1,D.k _ _ k.1.1 k.1.2 k.1.1 k.1.2,k.2,e0,e1,e2,if_pos rfl,T.t.uu _ o.1 o.2]
theorem zp {d:aI} (U:Ty d) {a b:Int} (a0:0≤a) (a1:a < d.aG.length) (b0:0≤b) (b1:b < d.aG.length):dN d a b=some (gk d.aE a b):=by
 unfold dN
 rw [U.me a0 a1,aF,U.lv a0 a1 b0 b1,aF]; rfl
section
variable {x:List Int} (B:xU x) {s:aK} (S:Src x s) {c:aI} (T:T7 c)
include B S T
theorem ZR:Ok (sG s c) fun y=>(∃ a b,T7 a∧T7 b∧FF a b y.2.1)∧Src x y.2.2:=by
 have c0:=T.t.o0
 have cm:=T.m
 have co:=T.o
 have hlen:=B.len
 unfold sG
 refine gj (ol (fun z:List Int×Int=>(0≤z.2∧z.2≤c.aA)∧(z.1.length:Int)=z.2∧∀ y∈z.1,0≤y∧y < c.aA) (fun z=>(c.aA - z.2).toNat) ⟨⟨by show (0:Int)≤0; omega,by show (0:Int)≤_; omega⟩,rfl,du⟩ ?_)
 rintro ⟨l,i⟩ ⟨⟨i0,i1⟩,hl,hv⟩
 dsimp only at i0 i1 hl hv
 show Ok (rS c l i) _
 unfold rS
 refine od (fun hi=>dp (by omega) (by omega) (os ⟨⟨⟨?_,?_⟩,?_,dw hv ⟨i0,hi⟩⟩,?_⟩)) fun hi=>os ⟨rfl,?_⟩
 ·dsimp only; rw [w1 i0 hi (by omega)]; omega
 ·dsimp only; rw [w1 i0 hi (by omega)]; omega
 ·dsimp only; rw [w1 i0 hi (by omega),List.length_append,List.length_singleton]; omega
 ·dsimp only; rw [w1 i0 hi (by omega)]; omega
 refine ob (dn B S _) fun AI Pc=>?_
 have n91:=Pc.1.2 (by omega)
 have S0:=S.on (h:=AI.2.av) Pc.2
 refine ol (fun z:List Int×Int×Int×Int=>(0≤z.2.1∧z.2.1≤AI.1)∧((z.1.length:Int)≤c.aA+(AI.1 - z.2.1)∧∀ y∈z.1,0≤y∧y < c.aA)∧(0≤z.2.2.1∧z.2.2.1≤x.length)) (fun z=>z.2.1.toNat) ⟨⟨Pc.1.1,by show AI.1≤AI.1; omega⟩,⟨by show (l.length:Int)≤c.aA+(AI.1 - AI.1); omega,hv⟩,Pc.2.a0,Pc.2.a1⟩ ?_
 rintro ⟨xs,k,at_,ha⟩ ⟨⟨k0,k1⟩,⟨qv,Tt⟩,t0,t1⟩
 dsimp only at k0 k1 qv Tt t0 t1
 show Ok (rT s c xs k at_ ha) _
 unfold rT
 have S1:Src x (aK.mk s.Code at_ ha):=S.at_ t0 t1
 refine ob (P:=fun g=>g=true→0 < k∧0 < c.aA) (od (fun h=>os fun h2=>⟨h,of_decide_eq_true h2⟩) fun h=>os fun h2=>(by cases h2)) fun g hg=>oc (fun eg=>?_) fun eg=>os ⟨rfl,?_⟩
 ·obtain ⟨g1,g2⟩:=hg eg
  have hw:ao (k - 1)=k - 1:=eI (by omega) (by omega)
  refine ob (dn B S1 _) fun z hz=>dp (by omega) (by omega) (os ⟨⟨⟨?_,?_⟩,⟨?_,dw Tt ⟨hz.1.1,hz.1.2 (by omega)⟩⟩,hz.2.a0,hz.2.a1⟩,?_⟩)
  ·dsimp only; rw [hw]; omega
  ·dsimp only; rw [hw]; omega
  ·dsimp only; rw [hw,List.length_append,List.length_singleton]; omega
  ·dsimp only; rw [hw]; omega
 have aff:xs.length≤65:=by omega
 refine ol (fun z:List (List Int)×Int=>(0≤z.2∧z.2≤xs.length)∧((z.1.length:Int)≤4095 * z.2∧(∀ r∈z.1,∃ i j h,r=[i,j,h]∧Cd c xs i j h)∧∀ i j h,i < z.2→Cd c xs i j h→[i,j,h]∈z.1)) (fun z=>(xs.length - z.2).toNat) ⟨⟨by show (0:Int)≤0; omega,by show (0:Int)≤_; omega⟩,by show (0:Int)≤4095 * 0; omega,fun r hr=>absurd hr List.not_mem_nil,fun i j h hi ha=>by dsimp only at hi; have:=ha.1.1.1; omega⟩ ?_
 rintro ⟨R,i⟩ ⟨⟨i0,i1⟩,hRl,XY,XZ⟩
 dsimp only at i0 i1 hRl XY XZ
 show Ok (rW c xs R i) _
 unfold rW
 refine od (fun hi=>?_) fun hi=>os ⟨rfl,?_⟩
 ·refine ol (fun z:List (List Int)×Int=>(0≤z.2∧z.2≤xs.length)∧((z.1.length:Int)≤4095 * i+63 * z.2∧(∀ r∈z.1,∃ i j h,r=[i,j,h]∧Cd c xs i j h)∧∀ i' j h,i' < i∨(i'=i∧j < z.2)→Cd c xs i' j h→[i',j,h]∈z.1)) (fun z=>(xs.length - z.2).toNat) ⟨⟨by show (0:Int)≤0; omega,by show (0:Int)≤_; omega⟩,by dsimp only; omega,XY,fun i' j h hh ha=>XZ i' j h (by dsimp only at hh; have:=ha.1.2.1; omega) ha⟩ ?_
  rintro ⟨R1,j⟩ ⟨⟨j0,j1⟩,afg,RM,RN⟩
  dsimp only at j0 j1 afg RM RN
  show Ok (rV c xs i R1 j) _
  unfold rV
  refine od (fun hj=>?_) fun hj=>os ⟨rfl,os ⟨⟨⟨?_,?_⟩,?_,RM,fun i' j' h hh ha=>RN i' j' h ?_ ha⟩,?_⟩⟩
  ·refine oe (bS i0 hi) (oe (bS j0 hj) (ob (BS T.t.tl (by omega) _ _) fun hm X0=>?_))
   have GY:=X0.1
   refine ol (fun z:List (List Int)×Int=>(0≤z.2∧z.2≤hm.length)∧((z.1.length:Int)≤4095 * i+63 * j+z.2∧(∀ r∈z.1,∃ i j h,r=[i,j,h]∧Cd c xs i j h)∧(∀ i' j' h,i' < i∨(i'=i∧j' < j)→Cd c xs i' j' h→[i',j',h]∈z.1)∧∀ q:Int,0≤q→q < z.2→[i,j,gi hm q]∈z.1)) (fun z=>(hm.length - z.2).toNat) ⟨⟨by show (0:Int)≤0; omega,by show (0:Int)≤_; omega⟩,by dsimp only; omega,RM,RN,fun q q0 q1=>by dsimp only at q1; omega⟩ ?_
   rintro ⟨R2,q⟩ ⟨⟨q0,q1⟩,afh,RP,RQ,RR⟩
   dsimp only at q0 q1 afh RP RQ RR
   show Ok (rU i j hm R2 q) _
   unfold rU
   refine od (fun hq=>oe (bS q0 hq) (dp (by omega) (by omega) (os ⟨⟨⟨?_,?_⟩,?_,dw RP ⟨i,j,gi hm q,rfl,⟨⟨⟨i0,hi⟩,j0,hj⟩,(X0.2 _).1 (cy q0 hq)⟩⟩,fun i' j' h hh ha=>List.mem_append_left _ (RQ i' j' h hh ha),fun p p0 p1=>?_⟩,?_⟩))) fun hq=>os ⟨rfl,os ⟨⟨⟨?_,?_⟩,?_,RP,fun i' j' h hh ha=>?_⟩,?_⟩⟩
   ·dsimp only; rw [w1 q0 hq (by omega)]; omega
   ·dsimp only; rw [w1 q0 hq (by omega)]; omega
   ·dsimp only; rw [w1 q0 hq (by omega),List.length_append,List.length_singleton]; omega
   ·dsimp only at p1 ⊢
    rw [w1 q0 hq (by omega)] at p1
    by_cases ep:p=q
    ·rw [ep]; simp
    ·exact List.mem_append_left _ (RR p p0 (by omega))
   ·dsimp only; rw [w1 q0 hq (by omega)]; omega
   ·dsimp only; rw [w1 j0 hj (by omega)]; omega
   ·dsimp only; rw [w1 j0 hj (by omega)]; omega
   ·dsimp only; rw [w1 j0 hj (by omega)]; omega
   ·dsimp only at hh ⊢
    rw [w1 j0 hj (by omega)] at hh
    by_cases e:i'=i∧j'=j
    ·obtain ⟨rfl,rfl⟩:=e
     have Gi:=(X0.2 h).2 ha.2
     obtain ⟨p,p0,p1,ep⟩:=mb Gi
     rw [← ep]
     exact RR p p0 (by omega)
    ·exact RQ i' j' h (by omega) ha
   ·dsimp only; rw [w1 j0 hj (by omega)]; omega
  ·dsimp only; rw [w1 i0 hi (by omega)]; omega
  ·dsimp only; rw [w1 i0 hi (by omega)]; omega
  ·dsimp only; rw [w1 i0 hi (by omega)]; omega
  ·dsimp only at hh
   rw [w1 i0 hi (by omega)] at hh
   have:=ha.1.2.2
   omega
  ·dsimp only; rw [w1 i0 hi (by omega)]; omega
 have F:Fat c xs R:=⟨aff,Tt,by omega,XY,fun i' j h ha=>XZ i' j h (by have:=ha.1.1.2; omega) ha⟩
 have h3:=F.three
 have hR3:=F.l
 refine ob (Ng (k:=0) (by omega) (by omega) F.l h3) fun ys CD=>ob (Ng (k:=1) (by omega) (by omega) F.l h3) fun zs wj=>?_
 refine ol (fun z:Int×List Int=>(0≤z.1∧z.1≤xs.length)∧(z.2.length:Int)=z.1∧∀ q:Int,0≤q→q < z.1→gi z.2 q=xT R [q,q,gi c.aJ (gi xs q)]) (fun z=>(xs.length - z.1).toNat) ⟨⟨by show (0:Int)≤0; omega,by show (0:Int)≤_; omega⟩,rfl,fun q q0 q1=>by dsimp only at q1; omega⟩ ?_
 rintro ⟨q,ids⟩ ⟨⟨q0,q1⟩,afi,RS⟩
 dsimp only at q0 q1 afi RS
 show Ok (rX c xs R q ids) _
 unfold rX
 refine od (fun hq=>?_) fun hq=>os ⟨rfl,?_⟩
 ·have o:=F.RL q0 hq
  refine oe (bS q0 hq) (oe (T.t.nh o.1 o.2) (oe (J6 _ F.l h3).1 (dp (by omega) (by omega) (os ⟨⟨⟨?_,?_⟩,?_,fun p p0 p1=>?_⟩,?_⟩))))
  ·dsimp only; rw [w1 q0 hq (by omega)]; omega
  ·dsimp only; rw [w1 q0 hq (by omega)]; omega
  ·dsimp only; rw [w1 q0 hq (by omega),List.length_append,List.length_singleton]; omega
  ·dsimp only at p1 ⊢
   rw [w1 q0 hq (by omega)] at p1
   rw [ks p0]
   by_cases e:p < ids.length
   ·rw [if_pos e]; exact RS p p0 (by omega)
   ·rw [if_neg e,if_pos (by omega),show p=q by omega]
  ·dsimp only; rw [w1 q0 hq (by omega)]; omega
 have Jc:∀ K:List (List Int),eJ (aI.mk (xs.length:Int) ys zs ids K)=some (decide ((xs.length:Int)≤8) && decide ((R.length:Int)≤40)):=fun K=>by
  unfold eJ
  dsimp only
  rw [CD.1]
  by_cases h8:(xs.length:Int)≤8
  ·rw [bb h8,cond_true,aF,Bool.true_and]; rfl
  ·rw [br h8,cond_false,aF,Bool.false_and]; rfl
 refine ol (fun z:Int×List (List Int)=>(0≤z.1∧z.1≤R.length)∧(z.2.length:Int)=z.1∧(∀ r∈z.2,r.length=R.length)∧∀ a b:Int,0≤a→a < z.1→0≤b→b < R.length→gk z.2 a b=if gi (gr R a) 1=gi (gr R b) 0 then xT R [gi (gr R a) 0,gi (gr R b) 1,gk c.aE (gi (gr R a) 2) (gi (gr R b) 2)] else -1) (fun z=>(R.length - z.1).toNat) ⟨⟨by show (0:Int)≤0; omega,by show (0:Int)≤_; omega⟩,rfl,fun r hr=>absurd hr List.not_mem_nil,fun a b a0 a1=>by dsimp only at a1; omega⟩ ?_
 rintro ⟨a,K⟩ ⟨⟨a0,a1⟩,hKl,Tu,X1⟩
 dsimp only at a0 a1 hKl Tu X1
 show Ok (rZ c xs R ys zs ids a K) _
 unfold rZ
 refine ob (P:=fun g=>(g=true→a < R.length)∧(g=false→(decide ((xs.length:Int)≤8) && decide ((R.length:Int)≤40))=false∨a=R.length)) (od (fun h=>oe (Jc K) (os ⟨fun _=>h,fun h2=>.inl h2⟩)) fun h=>os ⟨fun h2=>(by cases h2),fun _=>.inr (by omega)⟩) fun g hg=>oc (fun eg=>?_) fun eg=>os ⟨rfl,?_⟩
 ·have ha:=hg.1 eg
  refine ol (fun z:List Int×Int=>(0≤z.2∧z.2≤R.length)∧(z.1.length:Int)=z.2∧∀ b:Int,0≤b→b < z.2→gi z.1 b=if gi (gr R a) 1=gi (gr R b) 0 then xT R [gi (gr R a) 0,gi (gr R b) 1,gk c.aE (gi (gr R a) 2) (gi (gr R b) 2)] else -1) (fun z=>(R.length - z.2).toNat) ⟨⟨by show (0:Int)≤0; omega,by show (0:Int)≤_; omega⟩,rfl,fun b b0 b1=>by dsimp only at b1; omega⟩ ?_
  rintro ⟨row,b⟩ ⟨⟨b0,b1⟩,HW,X2⟩
  dsimp only at b0 b1 HW X2
  show Ok (rY c R a row b) _
  unfold rY
  refine od (fun hb=>?_) fun hb=>os ⟨rfl,dp (by omega) (by omega) (os ⟨⟨⟨?_,?_⟩,?_,dw Tu (by omega),fun p b p0 p1 b0 b1=>?_⟩,?_⟩)⟩
  ·have A:=(F.C7 a0 ha).2
   have Bw:=(F.C7 b0 hb).2
   have la:=h3 _ (kq a0 ha)
   have lb:=h3 _ (kq b0 hb)
   have i0':idx (gr R a) 0=some (gi (gr R a) 0):=bS (by omega) (by omega)
   have i1':idx (gr R a) 1=some (gi (gr R a) 1):=bS (by omega) (by omega)
   have i2':idx (gr R a) 2=some (gi (gr R a) 2):=bS (by omega) (by omega)
   have j0':idx (gr R b) 0=some (gi (gr R b) 0):=bS (by omega) (by omega)
   have j1':idx (gr R b) 1=some (gi (gr R b) 1):=bS (by omega) (by omega)
   have j2':idx (gr R b) 2=some (gi (gr R b) 2):=bS (by omega) (by omega)
   have fin:∀ {v:Int},v=(if gi (gr R a) 1=gi (gr R b) 0 then xT R [gi (gr R a) 0,gi (gr R b) 1,gk c.aE (gi (gr R a) 2) (gi (gr R b) 2)] else -1)→∀ {E:List Int×Int→Prop} {G:aI×aQ×aK→Prop},Ok (some (Out.norm (row++[v],ao (b+1)):Out (List Int×Int) (aI×aQ×aK))) (Hj 14 (fun z:List Int×Int=>(0≤z.2∧z.2≤R.length)∧(z.1.length:Int)=z.2∧∀ b:Int,0≤b→b < z.2→gi z.1 b=if gi (gr R a) 1=gi (gr R b) 0 then xT R [gi (gr R a) 0,gi (gr R b) 1,gk c.aE (gi (gr R a) 2) (gi (gr R b) 2)] else -1) (fun z=>(R.length - z.2).toNat) (R.length - b).toNat E G):=by
    intro v hv E G
    have hw:=w1 b0 hb (by omega)
    refine os ⟨⟨⟨?_,?_⟩,?_,fun p p0 p1=>?_⟩,?_⟩
    ·dsimp only; rw [hw]; omega
    ·dsimp only; rw [hw]; omega
    ·dsimp only; rw [hw,List.length_append,List.length_singleton]; omega
    ·dsimp only at p1 ⊢
     rw [hw] at p1
     rw [ks p0]
     by_cases e:p < row.length
     ·rw [if_pos e]; exact X2 p p0 (by omega)
     ·rw [if_neg e,if_pos (by omega),show p=b by omega]; exact hv
    ·dsimp only; rw [hw]; omega
   refine oe (jz a0 ha) (oe i1' (oe (jz b0 hb) (oe j0' (oc (fun e=>?_) fun e=>dp (by omega) (by omega) (fin ?_)))))
   ·have e:=eq_of_beq e
    refine oe (jz a0 ha) (oe i0' (oe (jz b0 hb) (oe j1' (oe (jz a0 ha) (oe i2' (oe (jz b0 hb) (oe j2' (oe (zp T.t A.2.1.1 A.2.1.2 Bw.2.1.1 Bw.2.1.2) (oe (J6 _ F.l h3).1 (dp (by omega) (by omega) (fin ?_)))))))))))
    rw [if_pos e]
   ·have e : ¬ gi (gr R a) 1=gi (gr R b) 0:=by simpa using e
    rw [if_neg e]
  ·dsimp only; rw [w1 a0 ha (by omega)]; omega
  ·dsimp only; rw [w1 a0 ha (by omega)]; omega
  ·dsimp only; rw [w1 a0 ha (by omega),List.length_append,List.length_singleton]; omega
  ·dsimp only at p1 ⊢
   rw [w1 a0 ha (by omega)] at p1
   unfold gk
   rw [C8 p0]
   by_cases e:p < K.length
   ·rw [if_pos e]; exact X1 p b p0 (by omega) b0 b1
   ·rw [if_neg e,show p=a by omega,show a - (K.length:Int)=0 by omega]
    exact X2 b b0 (by omega)
  ·dsimp only; rw [w1 a0 ha (by omega)]; omega
 refine oe (Jc K) (oc (fun e=>?_) fun e=>?_)
 ·exact ob (xy T) fun f hf=>os ⟨⟨c,c,T,T,hf.1⟩,S.at_ t0 t1⟩
 ·have e:(decide ((xs.length:Int)≤8) && decide ((R.length:Int)≤40))=true:=by simpa using e
  have haR:a=R.length:=(hg.2 eg).elim (fun h=>by rw [h] at e; cases e) fun h=>h
  rw [Bool.and_eq_true] at e
  have e8:=of_decide_eq_true e.1
  have He:=of_decide_eq_true e.2
  have D:XW c xs R (aI.mk (xs.length:Int) ys zs ids K):=⟨rfl,CD.1,wj.1,by show (ids.length:Int)=_; omega,by show K.length=_; omega,CD.2,wj.2,fun q q0 q1=>RS q q0 (by omega),Tu,fun p b p0 p1 b0 b1=>X1 p b p0 (by omega) b0 b1⟩
  have D7:T7 (aI.mk (xs.length:Int) ys zs ids K):=⟨XX T F D,by show ys.length≤63; rw [CD.1]; omega,by show (xs.length:Int)≤63; omega,⟨by show ys.length≤_; rw [CD.1]; omega,by show zs.length≤_; rw [wj.1]; omega,by show ids.length≤_; omega,by show K.length≤_; omega,fun r hr=>by rw [Tu r hr]; omega⟩⟩
  refine ob (Ng (k:=2) (by omega) (by omega) F.l h3) fun ws Tv=>oe (mr D7.s T.s (by omega) (by rw [Tv.1]; omega)) (os ⟨⟨_,c,D7,T,rfl,rfl,rfl,Tt,⟨?_,fun p p0 p1 _=>?_⟩,fun p p0 p1=>?_⟩,S.at_ t0 t1⟩)
  ·show ws.length=ys.length
   rw [Tv.1,CD.1]
  ·replace p1:p < ys.length:=p1
   rw [CD.1] at p1
   have A:=(F.C7 p0 p1).2
   show gi ws p < c.aG.length∧gi c.aG (gi ws p)=gi xs (gi ys p)∧gi c.To (gi ws p)=gi xs (gi zs p)
   rw [Tv.2 p p0 p1,CD.2 p p0 p1,wj.2 p p0 p1]
   exact ⟨A.2.1.2,A.2.2.1,A.2.2.2⟩
  ·replace p1:p < ys.length:=p1
   rw [CD.1] at p1
   have A:=(F.C7 p0 p1).2
   show 0≤gi ws p
   rw [Tv.2 p p0 p1]
   exact A.2.1.1
end
end Go.Proofs.YtilhlobfebngdaaGreat
namespace Go.Proofs.YtilhlobfebngdaaGreat
open Go Go.Li
set_option linter.unusedVariables false
set_option linter.unusedSectionVars false
set_option linter.unusedSimpArgs false
theorem X3 {c:aI} (T:T7 c):j3 63 63 c:=⟨T.t.o0,T.o,T.m,T.t.tl,T.t.il,T.t.kl,T.t.kr⟩
theorem Gu {c:aI} (T:T7 c):jT c=some (FK c):=by
 have c1:=T.m
 have c2:=T.t.tl
 have c3:=T.t.il
 have c4:=T.o
 suffices h:Ok (jT c) fun e=>e=FK c by
  obtain ⟨y,h1,h2⟩:=h
  rw [h1,h2]
 unfold jT
 refine gj (oe (fc _ (by omega)) (oe (fc _ (by omega)) (oe (fc _ (by omega)) ?_)))
 refine ol (fun z:Int×List (List Int)=>(0≤z.1∧z.1≤c.aG.length)∧z.2=ec z.1.toNat fun f=>ec c.aG.length fun g=>gk c.aE g f) (fun z=>(c.aG.length - z.1).toNat) ⟨⟨by show (0:Int)≤0; omega,by show (0:Int)≤_; omega⟩,rfl⟩ ?_
 rintro ⟨i,k⟩ ⟨⟨i0,i1⟩,hk⟩
 dsimp only at i0 i1 hk
 show Ok (mT c i k) _
 unfold mT
 have DM:k.length=i.toNat:=by rw [hk,cS]
 refine od (fun hi=>?_) fun hi=>os ⟨rfl,os ?_⟩
 ·refine ol (fun z:List Int×Int=>(0≤z.2∧z.2≤c.aG.length)∧z.1=ec z.2.toNat fun g=>gk c.aE g i) (fun z=>(c.aG.length - z.2).toNat) ⟨⟨by show (0:Int)≤0; omega,by show (0:Int)≤_; omega⟩,rfl⟩ ?_
  rintro ⟨row,j⟩ ⟨⟨j0,j1⟩,bj⟩
  dsimp only at j0 j1 bj
  show Ok (mS c i row j) _
  unfold mS
  have HW:row.length=j.toNat:=by rw [bj,cS]
  refine od (fun hj=>?_) fun hj=>os ⟨rfl,?_⟩
  ·have hw:=w1 j0 hj (by omega)
   refine oe (T.t.me j0 hj) (oe (T.t.lv j0 hj i0 hi) (dp (by omega) (by omega) (os ⟨⟨⟨?_,?_⟩,?_⟩,?_⟩)))
   ·dsimp only; rw [hw]; omega
   ·dsimp only; rw [hw]; omega
   ·dsimp only; rw [hw,show (j+1).toNat=j.toNat+1 by omega,ot,bj,show ((j.toNat:Nat):Int)=j by omega]
   ·dsimp only; rw [hw]; omega
  ·have hw:=w1 i0 hi (by omega)
   obtain rfl:j=c.aG.length:=by omega
   refine dp (by omega) (by omega) (os ⟨⟨⟨?_,?_⟩,?_⟩,?_⟩)
   ·dsimp only; rw [hw]; omega
   ·dsimp only; rw [hw]; omega
   ·dsimp only; rw [hw,show (i+1).toNat=i.toNat+1 by omega,ot,hk,show ((i.toNat:Nat):Int)=i by omega,bj,Int.toNat_natCast]
   ·dsimp only; rw [hw]; omega
 ·obtain rfl:i=c.aG.length:=by omega
  rw [hk,Int.toNat_natCast]; rfl
theorem D5 {c:aI} (T:T7 c):T7 (FK c):=by
 obtain ⟨y,e,h1,h2⟩:=X4 (X3 T) T.t (by omega) (by omega)
 rw [Gu T] at e
 obtain rfl:=Option.some.inj e
 have m:=T.m
 have tl:=T.t.tl
 exact ⟨h2,by show c.To.length≤63; omega,T.o,h1.small (by omega) (by omega)⟩
theorem BT {f:aQ} (T:T7 f.aB) (U:T7 f.aH) (ho:f.aA.length≤1048576) (ha:f.ab.length≤1048576):mE f=some (opF f):=by
 unfold mE
 rw [Gu T,aF,Gu U,aF,mr (D5 T).s (D5 U).s ho ha]; rfl
theorem Tw {c d:aI} {f:aQ} (T:T7 c) (U:T7 d) (F:FF c d f):FF (FK c) (FK d) (opF f):=by
 obtain ⟨s,t,X5,oo,⟨len,ok⟩,pos⟩:=F
 have tl:=T.t.tl
 refine ⟨by show FK f.aB=_; rw [s],by show FK f.aH=_; rw [t],X5,oo,⟨len.trans tl.symm,fun a a0 a1 h=>?_⟩,fun a a0 a1=>pos a a0 (by replace a1:a < c.To.length:=a1; omega)⟩
 replace a1:a < c.To.length:=a1
 have k:=ok a a0 (by omega) h
 have k1:=k.1
 show gi f.ab a < d.To.length∧_
 exact ⟨by rw [U.t.tl]; exact k1,k.2.2,k.2.1⟩
structure Nh (l r:aQ) (u k:List Int):Prop where
 u:u.length≤l.aA.length
 o:∀ x∈l.aA,0≤x∧x < r.aA.length∧x < k.length
 a:∀ x∈l.ab,0≤x∧x < r.ab.length
 k:∀ x∈k,0≤x∧x < r.ab.length
structure A7 (a:cU):Prop where
 ls:T7 a.Left.aB
 lt:T7 a.Left.aH
 rs:T7 a.bu.aB
 rt:T7 a.bu.aH
 lo:a.Left.aA.length≤1000
 la:a.Left.ab.length≤1000
 ro:a.bu.aA.length≤1000
 ra:a.bu.ab.length≤1000
 u:a.Unit.length≤1000
 k:a.l9.length≤1000
 p:Nh a.Left a.bu a.Unit a.l9
 q:Nh a.bu a.Left a.l9 a.Unit
theorem A7.small {a:cU} (h:A7 a):AS a:=⟨⟨h.ls.s,h.lt.s,by have:=h.lo; omega,by have:=h.la; omega⟩,⟨h.rs.s,h.rt.s,by have:=h.ro; omega,by have:=h.ra; omega⟩,by have:=h.u; omega,by have:=h.k; omega⟩
theorem RU {a:cU} (h:A7 a):Ok (lE a) A7:=by
 have h1:=h.lo
 have h2:=h.la
 have h3:=h.ro
 have h4:=h.ra
 have h5:=h.u
 have h6:=h.k
 unfold lE
 refine gj (oe (BT h.rs h.rt (by omega) (by omega)) (oe (BT h.ls h.lt (by omega) (by omega)) (oe (fc _ (by omega)) (oe (fc _ (by omega)) (os ?_)))))
 exact ⟨D5 h.rs,D5 h.rt,D5 h.ls,D5 h.lt,h3,h4,h1,h2,h6,h5,⟨h.q.u,h.q.o,h.q.a,h.q.k⟩,⟨h.p.u,h.p.o,h.p.a,h.p.k⟩⟩
section
variable {c d:aI} {f:aQ} (T:T7 c) (U:T7 d) (F:FF c d f)
include T U F
theorem Tx {x:Int} (x0:0≤x) (x1:x < c.aA):idx f.aA x=some (gi f.aA x)∧0≤gi f.aA x∧gi f.aA x < d.aA:=⟨bS x0 (by rw [F.ol]; exact x1),F.oo _ (cy x0 (by rw [F.ol]; exact x1))⟩
theorem Pd {a:Int} (a0:0≤a) (a1:a < c.aG.length):idx f.ab a=some (gi f.ab a)∧fg d (gi f.aA (gi c.aG a)) (gi f.aA (gi c.To a)) (gi f.ab a):=by
 have p:=F.ar.2 a a0 a1
 have k:=F.ar.1.ok a a0 a1 p
 exact ⟨bS a0 (by rw [F.ar.1.len]; exact a1),⟨p,k.1⟩,k.2⟩
theorem LD (x z e due:Int) (e0:0≤e) (e1:e < d.aG.length):Ok (fQ f x z e due) fun l=>l.length≤63∧∀ u∈l,0≤u∧u < c.aG.length:=by
 have cm:=T.m
 unfold fQ
 rw [F.s]
 refine gj (ob (BS T.t.tl (by omega) _ _) fun hm hh=>?_)
 have hl:=hh.1
 refine ol (fun z:List Int×Int=>(0≤z.2∧z.2≤hm.length)∧(z.1.length:Int)≤z.2∧∀ u∈z.1,0≤u∧u < c.aG.length) (fun z=>(hm.length - z.2).toNat) ⟨⟨by show (0:Int)≤0; omega,by show (0:Int)≤_; omega⟩,by show (0:Int)≤0; omega,du⟩ ?_
 rintro ⟨l,i⟩ ⟨⟨i0,i1⟩,LC,hv⟩
 dsimp only at i0 i1 LC hv
 show Ok (pR f e due hm l i) _
 unfold pR
 rw [F.t]
 refine od (fun hi=>?_) fun hi=>os ⟨rfl,os ⟨by omega,hv⟩⟩
 have ku:=((hh.2 _).1 (cy i0 hi)).1
 have ka:=Pd T U F ku.1 ku.2
 have hw:=w1 i0 hi (by omega)
 refine oe (bS i0 hi) (oe ka.1 (oe (zp U.t ka.2.1.1 ka.2.1.2 e0 e1) (oc (fun _=>oe (bS i0 hi) (dp (by omega) (by omega) (os ⟨⟨⟨?_,?_⟩,?_,dw hv ku⟩,?_⟩))) fun _=>os ⟨⟨⟨?_,?_⟩,?_,hv⟩,?_⟩)))
 all_goals (try dsimp only)
 all_goals rw [hw]
 all_goals (try simp only [List.length_append,List.length_singleton])
 all_goals omega
theorem Tz {x z e due:Int} {l:List Int} (h:fQ f x z e due=some l) (e0:0≤e) (e1:e < d.aG.length) {u:Int} (hu:u∈l):0≤u∧u < c.aG.length:=by
 obtain ⟨l',h',k⟩:=LD T U F x z e due e0 e1
 rw [h] at h'
 obtain rfl:=Option.some.inj h'
 exact k.2 u hu
def UP (f:aQ) (y x e:Int):Prop:=(0≤x∧x < f.aB.aA)∧fg f.aH (gi f.aA x) y e∧∀ z h:Int,0≤z→z < f.aB.aA→fg f.aH (gi f.aA z) y h→∃ l,fQ f z x e h=some l∧l.length=1
theorem KL (y x e:Int) (e0:0≤e) (e1:e < d.aG.length):Ok (lQ f y x e) fun b=>b=true→∀ z h:Int,0≤z→z < c.aA→fg d (gi f.aA z) y h→∃ l,fQ f z x e h=some l∧l.length=1:=by
 have cm:=T.m
 have dm:=U.m
 have co:=T.o
 have c0:=T.t.o0
 unfold lQ
 refine gj (ol (fun i:Int=>(0≤i∧i≤c.aA)∧∀ z h:Int,0≤z→z < i→fg d (gi f.aA z) y h→∃ l,fQ f z x e h=some l∧l.length=1) (fun i=>(c.aA - i).toNat) ⟨⟨by omega,by omega⟩,fun z h z0 z1=>by omega⟩ ?_)
 rintro i ⟨⟨i0,i1⟩,hJ⟩
 unfold qQ
 rw [F.s,F.t]
 refine od (fun hi=>?_) fun hi=>os ⟨rfl,os fun _ z h z0 z1=>hJ z h z0 (by omega)⟩
 have ko:=Tx T U F i0 hi
 refine oe ko.1 (ob (BS U.t.tl (by omega) _ _) fun hm hh=>?_)
 have hl:=hh.1
 refine ol (fun q:Int=>(0≤q∧q≤hm.length)∧∀ p:Int,0≤p→p < q→∃ l,fQ f i x e (gi hm p)=some l∧l.length=1) (fun q=>(hm.length - q).toNat) ⟨⟨by omega,by omega⟩,fun p p0 p1=>by omega⟩ ?_
 rintro q ⟨⟨q0,q1⟩,hQ⟩
 unfold qP
 refine od (fun hq=>?_) fun hq=>os ⟨rfl,os ⟨⟨⟨?_,?_⟩,fun z h z0 z1 hz=>?_⟩,?_⟩⟩
 ·refine oe (bS q0 hq) ?_
  obtain ⟨l,el,_⟩:=LD T U F i x e (gi hm q) e0 e1
  refine oe el (oc (fun _=>os fun h=>(by cases h)) fun hb=>os ⟨⟨⟨?_,?_⟩,fun p p0 p1=>?_⟩,?_⟩)
  ·rw [w1 q0 hq (by omega)]; omega
  ·rw [w1 q0 hq (by omega)]; omega
  ·rw [w1 q0 hq (by omega)] at p1
   by_cases ep:p=q
   ·refine ⟨l,by rw [ep]; exact el,?_⟩
    have:(l.length:Int)=1:=by simpa using hb
    omega
   ·exact hQ p p0 (by omega)
  ·dsimp only; rw [w1 q0 hq (by omega)]; omega
 ·rw [w1 i0 hi (by omega)]; omega
 ·rw [w1 i0 hi (by omega)]; omega
 ·rw [w1 i0 hi (by omega)] at z1
  by_cases ez:z=i
  ·subst ez
   obtain ⟨p,p0,p1,ep⟩:=mb ((hh.2 h).2 hz)
   rw [← ep]
   exact hQ p p0 (by omega)
  ·exact hJ z h z0 (by omega) hz
 ·dsimp only; rw [w1 i0 hi (by omega)]; omega
theorem X6 (y:Int):Ok (qR f y) fun r=>r.2.2=true→UP f y r.1 r.2.1:=by
 have cm:=T.m
 have dm:=U.m
 have co:=T.o
 have c0:=T.t.o0
 unfold qR
 refine gj (ol (fun i:Int=>0≤i∧i≤c.aA) (fun i=>(c.aA - i).toNat) ⟨by omega,by omega⟩ ?_)
 rintro i ⟨i0,i1⟩
 unfold tL
 rw [F.s,F.t]
 refine od (fun hi=>?_) fun hi=>os ⟨rfl,os fun h=>(by cases h)⟩
 have ko:=Tx T U F i0 hi
 refine oe ko.1 (ob (BS U.t.tl (by omega) _ _) fun hm hh=>?_)
 have hl:=hh.1
 refine ol (fun q:Int=>0≤q∧q≤hm.length) (fun q=>(hm.length - q).toNat) ⟨by omega,by omega⟩ ?_
 rintro q ⟨q0,q1⟩
 unfold tK
 refine od (fun hq=>?_) fun hq=>os ⟨rfl,os ⟨⟨?_,?_⟩,?_⟩⟩
 ·have ke:=(hh.2 _).1 (cy q0 hq)
  refine oe (bS q0 hq) (ob (KL T U F y i (gi hm q) ke.1.1 ke.1.2) fun b hb=>oc (fun eb=>oe (bS q0 hq) (os fun _=>⟨⟨i0,by rw [F.s]; exact hi⟩,by rw [F.t]; exact ke,?_⟩)) fun _=>os ⟨⟨?_,?_⟩,?_⟩)
  ·rw [F.s,F.t]
   exact hb eb
  ·rw [w1 q0 hq (by omega)]; omega
  ·rw [w1 q0 hq (by omega)]; omega
  ·dsimp only; rw [w1 q0 hq (by omega)]; omega
 ·rw [w1 i0 hi (by omega)]; omega
 ·rw [w1 i0 hi (by omega)]; omega
 ·dsimp only; rw [w1 i0 hi (by omega)]; omega
theorem DC:Ok (jP f) fun r=>r.2=true→A7 r.1:=by
 have cm:=T.m
 have dm:=U.m
 have co:=T.o
 have c0:=T.t.o0
 have d0:=U.t.o0
 have d8:=U.o
 have fs:=F.small T U
 have I0:=F.ol
 have yJ:=F.ar.1.len
 obtain ⟨eS,eT,_⟩:=id F
 unfold jP
 refine gj (ol (fun z:List Int×List Int×Int=>(0≤z.2.2∧z.2.2≤d.aA)∧((z.1.length:Int)=z.2.2∧(z.2.1.length:Int)=z.2.2)∧∀ y:Int,0≤y→y < z.2.2→UP f y (gi z.1 y) (gi z.2.1 y)) (fun z=>(d.aA - z.2.2).toNat) ⟨⟨by show (0:Int)≤0; omega,by show (0:Int)≤_; omega⟩,⟨rfl,rfl⟩,fun y y0 y1=>by dsimp only at y1; omega⟩ ?_)
 rintro ⟨xs,es,y⟩ ⟨⟨y0,y1⟩,⟨hx,he⟩,hU⟩
 dsimp only at y0 y1 hx he hU
 show Ok (pS f xs es y) _
 unfold pS
 rw [eT]
 refine od (fun hy=>ob (X6 T U F y) fun r hr=>oc (fun _=>os fun h=>(by cases h)) fun hb=>dp (by omega) (by omega) (dp (by omega) (by omega) (os ⟨⟨⟨?_,?_⟩,⟨?_,?_⟩,fun p p0 p1=>?_⟩,?_⟩))) fun hy=>os ⟨rfl,?_⟩
 ·dsimp only; rw [w1 y0 hy (by omega)]; omega
 ·dsimp only; rw [w1 y0 hy (by omega)]; omega
 ·dsimp only; rw [w1 y0 hy (by omega),List.length_append,List.length_singleton]; omega
 ·dsimp only; rw [w1 y0 hy (by omega),List.length_append,List.length_singleton]; omega
 ·dsimp only at p1 ⊢
  rw [w1 y0 hy (by omega)] at p1
  rw [ks p0,ks p0]
  by_cases e:p < xs.length
  ·rw [if_pos e,if_pos (by omega)]; exact hU p p0 (by omega)
  ·rw [if_neg e,if_pos (by omega),if_neg (by omega),if_pos (by omega),show p=y by omega]
   exact hr (by simpa using hb)
 ·dsimp only; rw [w1 y0 hy (by omega)]; omega
 have hyd:y=d.aA:=by omega
 subst hyd
 refine ol (fun z:List Int×Int=>(0≤z.2∧z.2≤d.aG.length)∧(z.1.length:Int)=z.2∧∀ u∈z.1,0≤u∧u < c.aG.length) (fun z=>(d.aG.length - z.2).toNat) ⟨⟨by show (0:Int)≤0; omega,by show (0:Int)≤_; omega⟩,rfl,du⟩ ?_
 rintro ⟨Hk,g⟩ ⟨⟨g0,g1⟩,hg,X7⟩
 dsimp only at g0 g1 hg X7
 show Ok (pT f xs es Hk g) _
 unfold pT
 rw [eT]
 refine od (fun xO=>?_) fun xO=>os ⟨rfl,?_⟩
 ·have kf:=U.t.fr g0 xO
  have kt:=U.t.to g0 xO
  obtain ⟨a1,a2,a3⟩:=hU _ kf.1 kf.2
  obtain ⟨b1,b2,b3⟩:=hU _ kt.1 kt.2
  rw [eS] at a1 b1
  rw [eT] at a2 b2
  have kc:=U.t.cell _ g a2.1.1 a2.1.2 g0 xO (by rw [a2.2.2])
  obtain ⟨l,el,Pe⟩:=b3 (gi xs (gi d.aG g)) (gk d.aE (gi es (gi d.aG g)) g) a1.1 (by rw [eS]; exact a1.2) (by rw [eT]; exact ⟨kc.1,kc.2.1.trans a2.2.1,kc.2.2⟩)
  have rg:=Tz T U F el b2.1.1 b2.1.2 (cy (l:=l) (j:=0) (by omega) (by omega))
  refine oe (U.t.iq g0 xO) (oe (U.t.jf g0 xO) (oe (bS kf.1 (by omega)) (oe (bS kt.1 (by omega)) (oe (bS kt.1 (by omega)) (oe (bS kf.1 (by omega)) (oe (zp U.t a2.1.1 a2.1.2 g0 xO) (oe el (oe (bS (by omega) (by omega)) (dp (by omega) (by omega) (os ⟨⟨⟨?_,?_⟩,?_,dw X7 rg⟩,?_⟩))))))))))
  ·dsimp only; rw [w1 g0 xO (by omega)]; omega
  ·dsimp only; rw [w1 g0 xO (by omega)]; omega
  ·dsimp only; rw [w1 g0 xO (by omega),List.length_append,List.length_singleton]; omega
  ·dsimp only; rw [w1 g0 xO (by omega)]; omega
 refine ol (fun z:List Int×Int=>(0≤z.2∧z.2≤c.aA)∧(z.1.length:Int)=z.2∧∀ u∈z.1,0≤u∧u < c.aG.length) (fun z=>(c.aA - z.2).toNat) ⟨⟨by show (0:Int)≤0; omega,by show (0:Int)≤_; omega⟩,rfl,du⟩ ?_
 rintro ⟨us,x⟩ ⟨⟨x0,x1⟩,hu,X8⟩
 dsimp only at x0 x1 hu X8
 show Ok (pU f xs es us x) _
 unfold pU
 rw [eS,eT]
 refine od (fun qv=>?_) fun qv=>os ⟨rfl,?_⟩
 ·have ko:=Tx T U F x0 qv
  obtain ⟨a1,a2,a3⟩:=hU _ ko.2.1 ko.2.2
  have ki:=U.t.id ko.2.1 ko.2.2
  obtain ⟨l,el,Pe⟩:=a3 x (gi d.aJ (gi f.aA x)) x0 (by rw [eS]; exact qv) (by rw [eT]; exact ⟨ki,U.t.xu _ ko.2.1 ko.2.2,U.t.xS _ ko.2.1 ko.2.2⟩)
  have rg:=Tz T U F el a2.1.1 (by rw [← eT]; exact a2.1.2) (cy (l:=l) (j:=0) (by omega) (by omega))
  refine oe ko.1 (oe (bS ko.2.1 (by omega)) (oe (bS ko.2.1 (by omega)) (oe (U.t.nh ko.2.1 ko.2.2) (oe el (oe (bS (by omega) (by omega)) (dp (by omega) (by omega) (os ⟨⟨⟨?_,?_⟩,?_,dw X8 rg⟩,?_⟩)))))))
  ·dsimp only; rw [w1 x0 qv (by omega)]; omega
  ·dsimp only; rw [w1 x0 qv (by omega)]; omega
  ·dsimp only; rw [w1 x0 qv (by omega),List.length_append,List.length_singleton]; omega
  ·dsimp only; rw [w1 x0 qv (by omega)]; omega
 have own:lN f=some f:=by
  unfold lN
  rw [mr fs.s fs.t fs.o fs.a,aF]; rfl
 refine oe own (oe (mr U.s T.s (by omega) (by omega)) (os fun _=>?_))
 refine ⟨by show T7 f.aB; rw [eS]; exact T,by show T7 f.aH; rw [eT]; exact U,U,T,by show f.aA.length≤1000; omega,by show f.ab.length≤1000; omega,by show xs.length≤1000; omega,by show Hk.length≤1000; omega,by show us.length≤1000; omega,by show es.length≤1000; omega,⟨by show us.length≤f.aA.length; omega,fun x hx=>?_,fun x hx=>?_,fun x hx=>?_⟩,⟨by show es.length≤xs.length; omega,fun x hx=>?_,fun x hx=>?_,fun x hx=>?_⟩⟩
 ·have:=F.oo x hx
  exact ⟨this.1,by show x < xs.length; omega,by show x < es.length; omega⟩
 ·obtain ⟨j,j0,j1,rfl⟩:=mb (l:=f.ab) hx
  have:=(Pd T U F j0 (by omega)).2.1
  exact ⟨this.1,by show _ < (Hk.length:Int); omega⟩
 ·obtain ⟨j,j0,j1,rfl⟩:=mb (l:=es) hx
  have:=(hU j j0 (by omega)).2.1.1
  rw [eT] at this
  exact ⟨this.1,by show _ < (Hk.length:Int); omega⟩
 ·obtain ⟨j,j0,j1,rfl⟩:=mb (l:=xs) hx
  have:=(hU j j0 (by omega)).1
  rw [eS] at this
  exact ⟨this.1,by show _ < (f.aA.length:Int); omega,by show _ < (us.length:Int); omega⟩
 ·have:=X7 x hx
  exact ⟨this.1,by show _ < (f.ab.length:Int); omega⟩
 ·have:=X8 x hx
  exact ⟨this.1,by show _ < (f.ab.length:Int); omega⟩
end
section
variable {x:List Int} (B:xU x)
include B
omit B in
theorem TA {c:aI} {f g:aQ} (T:T7 c) (F:FF c c f) (G:FF c c g):Nh f g c.aJ c.aJ:=by
 have h1:=F.ol
 have h2:=F.ar.1.len
 have h3:=G.ol
 have h4:=G.ar.1.len
 have il:=T.t.il
 refine ⟨by omega,fun x hx=>?_,fun x hx=>?_,fun x hx=>?_⟩
 ·have:=F.oo x hx
  omega
 ·obtain ⟨j,j0,j1,rfl⟩:=mb hx
  have:=(Pd T T F j0 (by omega)).2.1
  omega
 ·obtain ⟨j,j0,j1,rfl⟩:=mb hx
  have:=T.t.id j0 (by omega)
  omega
theorem X9 {s:aK} (S:Src x s):Ok (lY s) fun y=>A7 y.1∧Src x y.2:=by
 have hlen:=B.len
 unfold lY
 refine gj (ol (fun z:Int×Int×Int=>(0≤z.1∧z.1≤10)∧(0≤z.2.1∧z.2.1≤x.length)) (fun z=>(10 - z.1).toNat) ⟨⟨by show (0:Int)≤0; omega,by show (0:Int)≤10; omega⟩,S.a0,S.a1⟩ ?_)
 rintro ⟨i,a,h⟩ ⟨⟨i0,i1⟩,a0,a1⟩
 dsimp only at i0 i1 a0 a1
 show Ok (qS s i a h) _
 unfold qS
 have S1:Src x (aK.mk s.Code a h):=S.at_ a0 a1
 refine od (fun hi=>?_) fun hi=>os ⟨rfl,?_⟩
 ·have nxt:∀ {t:aK} {E:Int×Int×Int→Prop} {G:cU×aK→Prop},Src x t→Ok (some (Out.norm (ao (i+1),t.At,t.av):Out (Int×Int×Int) (cU×aK))) (Hj 0 (fun z:Int×Int×Int=>(0≤z.1∧z.1≤10)∧(0≤z.2.1∧z.2.1≤x.length)) (fun z=>(10 - z.1).toNat) (10 - i).toNat E G):=by
   intro t E G St
   refine os ⟨⟨⟨?_,?_⟩,St.a0,St.a1⟩,?_⟩
   ·dsimp only; rw [w1 i0 hi (by omega)]; omega
   ·dsimp only; rw [w1 i0 hi (by omega)]; omega
   ·dsimp only; rw [w1 i0 hi (by omega)]; omega
  refine ob (AT B S1 4 10) fun y hy=>?_
  have T:T7 y.1:=yo hy.1 (by omega) (by omega)
  refine ob (TB B (S.on hy.2) T (by omega) (by omega)) fun w hw=>?_
  obtain ⟨⟨d,U,F,_⟩,S2⟩:=hw
  refine ob (dn B (S.on S2) _) fun z hz=>oc (fun _=>?_) fun _=>?_
  ·refine ob (AT B (S.on hz.2) 3 6) fun y2 CI=>?_
   have T2:T7 y2.1:=yo CI.1 (by omega) (by omega)
   refine ob (ZR B (S.on CI.2) T2) fun v hv=>?_
   obtain ⟨⟨ca,da,Ta,Ua,Fa⟩,S3⟩:=hv
   have So:Src x (aK.mk s.Code v.2.2.At v.2.2.av):=S.on S3
   refine ob (DC Ta Ua Fa) fun r hr=>oc (fun eb=>os ⟨hr eb,So⟩) fun _=>?_
   have Pf:=Fa.small Ta Ua
   refine oe (BT (by rw [Fa.s]; exact Ta) (by rw [Fa.t]; exact Ua) Pf.o Pf.a) (ob (DC (D5 Ta) (D5 Ua) (Tw Ta Ua Fa)) fun r2 Lx=>oc (fun eb=>ob (RU (Lx eb)) fun o ho=>os ⟨ho,So⟩) fun _=>nxt S3)
  ·have So:Src x (aK.mk s.Code z.2.At z.2.av):=S.on hz.2
   refine ob (DC T U F) fun r hr=>oc (fun eb=>os ⟨hr eb,So⟩) fun _=>?_
   have Pf:=F.small T U
   refine oe (BT (by rw [F.s]; exact T) (by rw [F.t]; exact U) Pf.o Pf.a) (ob (DC (D5 T) (D5 U) (Tw T U F)) fun r2 Lx=>oc (fun eb=>ob (RU (Lx eb)) fun o ho=>os ⟨ho,So⟩) fun _=>nxt hz.2)
 ·refine ob (AT B S1 4 10) fun y hy=>?_
  have T:T7 y.1:=yo hy.1 (by omega) (by omega)
  have tm:=T.m
  have to_:=T.o
  have TC:=T.t.il
  have So:Src x (aK.mk s.Code y.2.At y.2.av):=S.on hy.2
  refine ob (xy T) fun f hf=>ob (xy T) fun g hg=>os ⟨?_,So⟩
  have F:=hf.1
  have G:=hg.1
  have h1:=F.ol
  have h2:=F.ar.1.len
  have h3:=G.ol
  have h4:=G.ar.1.len
  exact ⟨by show T7 f.aB; rw [F.s]; exact T,by show T7 f.aH; rw [F.t]; exact T,by show T7 g.aB; rw [G.s]; exact T,by show T7 g.aH; rw [G.t]; exact T,by show f.aA.length≤1000; omega,by show f.ab.length≤1000; omega,by show g.aA.length≤1000; omega,by show g.ab.length≤1000; omega,by show y.1.aJ.length≤1000; omega,by show y.1.aJ.length≤1000; omega,TA T F G,TA T G F⟩
end
end Go.Proofs.YtilhlobfebngdaaGreat
namespace Go.Proofs.YtilhlobfebngdaaGreat
open Go Go.Li
set_option linter.unusedVariables false
set_option linter.unusedSectionVars false
set_option linter.unusedSimpArgs false
theorem Ye:∀ {K l:List Int},K.Nodup→(∀ y∈K,y∈l)→K.length≤l.length:=by
 intro K
 induction K with
 | nil=>intro l _ _; exact Nat.zero_le _
 | cons a K ih=>
  intro l hn hs
  rw [List.nodup_cons] at hn
  have ha:=hs a (by simp)
  have h2:=ih (l:=l.erase a) hn.2 fun y hy=>(List.mem_erase_of_ne (fun e=>hn.1 (by rw [← e]; exact hy))).2 (hs y (List.mem_cons_of_mem _ hy))
  have h3:=List.length_erase_of_mem ha
  have h4:0 < l.length:=List.length_pos_of_mem ha
  rw [List.length_cons]
  omega
theorem LF {l m:List Int} {F:Int→Int} (hn:l.Nodup) (hF:∀ a∈l,F a∈m) (hi:∀ a∈l,∀ b∈l,F a=F b→a=b):l.length≤m.length:=by
 have:(l.map F).Nodup:=by
  rw [List.Nodup,List.pairwise_map]
  exact (List.Pairwise.and_mem.1 hn).imp fun h e=>h.2.2 (hi _ h.1 _ h.2.1 e)
 have h:=Ye this fun y hy=>by
  obtain ⟨a,ha,rfl⟩:=List.mem_map.1 hy
  exact hF a ha
 rwa [List.length_map] at h
theorem RW (c:aI) (f:Int):pH c f=some (decide (0≤f) && decide (f < c.aG.length)):=by
 unfold pH
 by_cases h:f ≥ 0
 ·rw [bb h,cond_true,aF]; rfl
 ·rw [br h,cond_false,aF]; rfl
theorem Eu (c:aI) (f:Int):kH c f=some (decide (0≤f) && decide (f < c.aA)):=by
 unfold kH
 by_cases h:f ≥ 0
 ·rw [bb h,cond_true,aF]; rfl
 ·rw [br h,cond_false,aF]; rfl
section
variable {a:cU} (hs:AS a) (A:Adj a)
include hs A
end
def ri (c:aI) (x y:Int):List Int:=(ns c.aG.length).filter (Hl c x y)
theorem qy {c:aI} {x y h:Int}:h∈ri c x y↔fg c x y h:=by
 unfold ri Hl fg
 rw [List.mem_filter,fj,Bool.and_eq_true,beq_iff_eq,beq_iff_eq]
theorem RX {c:aI} (C:km c) {x y:Int} (x0:0≤x) (x1:x < c.aA) (y0:0≤y) (y1:y < c.aA):sJ c x y=some (ri c x y,0):=by
 have c8:=C.o8
 have s9:∀ z∈[x,y],0≤z∧z < c.aA:=fun z hz=>by
  rcases List.mem_cons.1 hz with rfl | hz
  ·exact ⟨x0,x1⟩
  ·rw [List.mem_singleton.1 hz]; exact ⟨y0,y1⟩
 unfold sJ rB
 rw [JS (xw C),aF,J4 C]
 simp only [Bool.not_true,cond_false]
 rw [within _ _ (by simp) C.o0 (by omega),aF,ou.2 s9]
 show aq (S:=Unit) (gL c x y>>=_)=_
 rw [Yf C,aF]; rfl
end Go.Proofs.YtilhlobfebngdaaGreat
namespace Go.Proofs.YtilhlobfebngdaaGreat
open Go Go.Li
set_option linter.unusedVariables false
set_option linter.unusedSimpArgs false
set_option linter.unusedSectionVars false
section
variable {a b:cU} (ha:AS a) (hb:AS b)
include ha hb
section
variable (A:Adj a) (B:Adj b) (e:a.Left.aH=b.Left.aB)
include A B e
omit ha hb in
omit ha hb in
end
end
section
variable {x:List Int} (B:xU x)
include B
end
end Go.Proofs.YtilhlobfebngdaaGreat
namespace Go.Proofs.YtilhlobfebngdaaGreat
open Go Go.Li
set_option linter.unusedVariables false
set_option linter.unusedSectionVars false
def Hm (m:bV):bT:=bT.mk (AR m.On.aB) m.On m.Unit
def Hn (m:bV):bT:=bT.mk (r5 m.On m.On) m.On m.bz
def kM (m:bV) (u v:Int):Int:=gk m.On.aB.aE u v
def oM (m:bV) (x:Int):Int:=gi m.On.aA x
def aM (m:bV) (u:Int):Int:=gi m.On.ab u
def BU (m:bV) (x:Int):Bool:=(kM m (aM m (gi m.Unit x)) (gi m.bz x) != gi m.On.aB.aJ (oM m x) || kM m (gi m.Unit (oM m x)) (gi m.bz x) != gi m.On.aB.aJ (oM m x)) || kM m (aM m (gi m.bz x)) (gi m.bz x) != kM m (gi m.bz (oM m x)) (gi m.bz x)
def Gv (m:bV):Bool:=!((ns m.On.aB.aA.toNat).any (BU m))
def xN (m:bV):Bool:=ja m.On && (r4 m.On.aB m.On.aH && ((mf (Hm m) && mf (Hn m)) && Gv m))
structure Mon0 (m:bV):Prop where
 fb:ja m.On=true
 e:m.On.aB=m.On.aH
 ub:mf (Hm m)=true
 jb:mf (Hn m)=true
structure Mon (m:bV):Prop extends Mon0 m where
 l1:∀ x:Int,0≤x→x < m.On.aB.aA→kM m (aM m (gi m.Unit x)) (gi m.bz x)=gi m.On.aB.aJ (oM m x)
 l2:∀ x:Int,0≤x→x < m.On.aB.aA→kM m (gi m.Unit (oM m x)) (gi m.bz x)=gi m.On.aB.aJ (oM m x)
 l3:∀ x:Int,0≤x→x < m.On.aB.aA→kM m (aM m (gi m.bz x)) (gi m.bz x)=kM m (gi m.bz (oM m x)) (gi m.bz x)
theorem tk {m:bV} (h:xN m=true):Mon m:=by
 unfold xN Gv at h
 simp only [Bool.and_eq_true,vc,Bool.not_eq_true',ir] at h
 obtain ⟨h1,h2,⟨h3,h4⟩,h5⟩:=h
 have o0:=(jj h1).c.o0
 have key:∀ x:Int,0≤x→x < m.On.aB.aA→BU m x=false:=fun x x0 x1=>h5 x x0 (by omega)
 refine ⟨⟨h1,h2,h3,h4⟩,fun x x0 x1=>?_,fun x x0 x1=>?_,fun x x0 x1=>?_⟩ <;>
 ·have:=key x x0 x1
  unfold BU at this
  simp only [Bool.or_eq_false_iff,bne_eq_false_iff_eq] at this
  first | exact this.1.1 | exact this.1.2 | exact this.2
namespace Mon0
variable {m:bV} (M:Mon0 m)
include M
theorem mc:km m.On.aB:=(jj M.fb).c
theorem Yg {x:Int} (x0:0≤x) (x1:x < m.On.aB.aA):0≤oM m x∧oM m x < m.On.aB.aA:=by
 have:=(jj M.fb).ob x0 x1
 rwa [← M.e] at this
theorem xV {x y u:Int} (h:fg m.On.aB x y u):fg m.On.aB (oM m x) (oM m y) (aM m u):=by
 have:=UN (jj M.fb) h
 rwa [← M.e] at this
theorem mco {x y z u v:Int} (h:fg m.On.aB x y u) (h':fg m.On.aB y z v):aM m (kM m u v)=kM m (aM m u) (aM m v):=by
 have:=Yb (jj M.fb) h h'
 rwa [← M.e] at this
theorem muL:(m.Unit.length:Int)=m.On.aB.aA:=(xx M.ub).pl
theorem mjL:(m.bz.length:Int)=m.On.aB.aA:=(xx M.jb).pl
theorem D6 {x:Int} (x0:0≤x) (x1:x < m.On.aB.aA):fg m.On.aB x (oM m x) (gi m.Unit x):=by
 have N:=xx M.ub
 have o0:=M.mc.o0
 refine ⟨N.cp x0 x1,(N.pf x x0 x1).trans ?_,N.pt x x0 x1⟩
 exact BQ x0 (by show x < ((m.On.aB.aA.toNat:Nat):Int); omega)
theorem D8 {x:Int} (x0:0≤x) (x1:x < m.On.aB.aA):fg m.On.aB (oM m (oM m x)) (oM m x) (gi m.bz x):=by
 have N:=xx M.jb
 have h1:0≤gi m.bz x∧gi m.bz x < m.On.aH.aG.length:=N.cp x0 x1
 have h2:gi m.On.aH.aG (gi m.bz x)=gi (thenS m.On.aA m.On.aA) x:=N.pf x x0 x1
 have h3:gi m.On.aH.To (gi m.bz x)=gi m.On.aA x:=N.pt x x0 x1
 rw [← M.e] at h1 h2 h3
 refine ⟨h1,h2.trans ?_,h3⟩
 exact nr x0 (by rw [(jj M.fb).ol]; exact x1)
theorem muN {x y u:Int} (h:fg m.On.aB x y u):kM m u (gi m.Unit y)=kM m (gi m.Unit x) (aM m u):=by
 have N:gk m.On.aB.aE (gi (ns m.On.aB.aG.length) u) (gi m.Unit (gi m.On.aB.To u))=gk m.On.aB.aE (gi m.Unit (gi m.On.aB.aG u)) (gi m.On.ab u):=(xx M.ub).sq u h.1.1 h.1.2
 rw [BQ h.1.1 h.1.2,h.2.1,h.2.2] at N
 exact N
theorem mjN {x y u:Int} (h:fg m.On.aB x y u):kM m (aM m (aM m u)) (gi m.bz y)=kM m (gi m.bz x) (aM m u):=by
 have N:gk m.On.aH.aE (gi (thenS m.On.ab m.On.ab) u) (gi m.bz (gi m.On.aB.To u))=gk m.On.aH.aE (gi m.bz (gi m.On.aB.aG u)) (gi m.On.ab u):=(xx M.jb).sq u h.1.1 h.1.2
 rw [nr h.1.1 (by rw [(jj M.fb).al]; exact h.1.2),h.2.1,h.2.2,← M.e] at N
 exact N
theorem J8 {x y z w u v t:Int} (h:fg m.On.aB x y u) (h':fg m.On.aB y z v) (h2:fg m.On.aB z w t):kM m (kM m u v) t=kM m u (kM m v t):=Pg M.mc h h' h2
theorem Ph {x y z u v:Int} (h:fg m.On.aB x y u) (h':fg m.On.aB y z v):fg m.On.aB x z (kM m u v):=RV M.mc h h'
end Mon0
structure C9 (m:bV) (x h:Int):Prop where
 x0:0≤x
 x1:x < m.On.aB.aA
 l:fg m.On.aB (oM m x) x h
 un:kM m (gi m.Unit x) h=gi m.On.aB.aJ x
 as9:kM m (aM m h) h=kM m (gi m.bz x) h
def Ni (m:bV) (x h y k g:Int):Prop:=fg m.On.aB x y g∧kM m h g=kM m (aM m g) k
section
variable {m:bV} (M:Mon m)
include M
theorem RY {x:Int} (x0:0≤x) (x1:x < m.On.aB.aA):C9 m (oM m x) (gi m.bz x):=by
 have o:=M.Yg x0 x1
 exact ⟨o.1,o.2,M.D8 x0 x1,M.l2 x x0 x1,M.l3 x x0 x1⟩
theorem UO {x y k f:Int} (K:C9 m y k) (hf:fg m.On.aB x y f):fg m.On.aB (oM m x) y (kM m (aM m f) k):=M.Ph (M.xV hf) K.l
theorem LG {x y k f:Int} (K:C9 m y k) (hf:fg m.On.aB x y f):Ni m (oM m x) (gi m.bz x) y k (kM m (aM m f) k):=by
 have hx:=J7 M.mc hf
 have j:=M.D8 hx.1 hx.2
 have af:=M.xV hf
 have aaf:=M.xV af
 have jy:=M.D8 K.x0 K.x1
 have ak:=M.xV K.l
 refine ⟨UO M K hf,?_⟩
 rw [M.mco af K.l,M.J8 aaf ak K.l,K.as9,← M.J8 aaf jy K.l,M.mjN hf,M.J8 j af K.l]
theorem Ev {x y k f:Int} (K:C9 m y k) (hf:fg m.On.aB x y f):kM m (gi m.Unit x) (kM m (aM m f) k)=f:=by
 have hx:=J7 M.mc hf
 have u:=M.D6 hx.1 hx.2
 have af:=M.xV hf
 have uy:=M.D6 K.x0 K.x1
 rw [← M.J8 u af K.l,← M.muN hf,M.J8 hf uy K.l,K.un]
 exact Yd M.mc hf
theorem Ew {x y k g:Int} (x0:0≤x) (x1:x < m.On.aB.aA) (K:C9 m y k) (hg:Ni m (oM m x) (gi m.bz x) y k g):fg m.On.aB x y (kM m (gi m.Unit x) g)∧kM m (aM m (kM m (gi m.Unit x) g)) k=g:=by
 have u:=M.D6 x0 x1
 have au:=M.xV u
 have ag:=M.xV hg.1
 have j:=M.D8 x0 x1
 refine ⟨M.Ph u hg.1,?_⟩
 rw [M.mco u hg.1,M.J8 au ag K.l,← hg.2,← M.J8 au j hg.1,M.l1 x x0 x1]
 exact Yc M.mc hg.1
end
end Go.Proofs.YtilhlobfebngdaaGreat
namespace Go.Proofs.YtilhlobfebngdaaGreat
open Go Go.Li
set_option linter.unusedVariables false
set_option linter.unusedSectionVars false
set_option linter.unusedSimpArgs false
structure M7 (m:bV):Prop where
 l:j6 m.On
 u:m.Unit.length≤1000
 j:m.bz.length≤1000
structure AU (m:bV):Prop where
 l:j6 m.On
 u:m.Unit.length≤1048576
 j:m.bz.length≤1048576
theorem M7.small {m:bV} (h:M7 m):AU m:=⟨h.l,by have:=h.u; omega,by have:=h.j; omega⟩
theorem Pj {a b:List Int} {y:Int} (h:y∈thenS a b):∃ x∈a,y=gi b x:=by
 obtain ⟨j,j0,j1,rfl⟩:=mb h
 rw [iw] at j1
 exact ⟨_,cy j0 j1,nr j0 j1⟩
section
variable {c:aI} (T:T7 c)
include T
theorem LH:eK c=some (AR c):=by
 have o0:=T.t.o0
 have o8:=T.o
 have m:=T.m
 have hs:=T.s
 have a1:∀ i:Nat,i < c.aA.toNat→eZ c (ns i) (i:Int)=some (.norm (ns i++[(i:Int)],((i+1:Nat):Int))):=fun i hi=>by
  unfold eZ
  rw [bb (by omega),cond_true,cT,eB (by omega) (by omega),aF,cA (by omega)]
 have a2:eZ c (ns c.aA.toNat) (c.aA.toNat:Int)=some (.exit 0 (ns c.aA.toNat,(c.aA.toNat:Int))):=by
  unfold eZ
  rw [br (by omega),cond_false]
 have b1:∀ i:Nat,i < c.aG.length→fA c (ns i) (i:Int)=some (.norm (ns i++[(i:Int)],((i+1:Nat):Int))):=fun i hi=>by
  unfold fA
  rw [bb (by omega),cond_true,cT,eB (by omega) (by omega),aF,cA (by omega)]
 have b2:fA c (ns c.aG.length) (c.aG.length:Int)=some (.exit 2 (ns c.aG.length,(c.aG.length:Int))):=by
  unfold fA
  rw [br (by omega),cond_false]
 unfold eK
 rw [upto (n:=c.aA.toNat) (by omega) a1 a2]
 dsimp only
 rw [upto (n:=c.aG.length) (by omega) b1 b2]
 dsimp only
 rw [mr hs hs (by rw [cT]; omega) (by rw [cT]; omega),aF]; rfl
theorem afj:FF c c (AR c):=by
 obtain ⟨y,e,h,_⟩:=xy T
 rw [LH T] at e
 obtain rfl:=Option.some.inj e
 exact h
theorem UQ {f g:aQ} (F:FF c c f) (G:FF c c g):FF c c (r5 f g):=by
 obtain ⟨s,t,X5,oo,⟨len,ok⟩,pos⟩:=F
 obtain ⟨s',t',ol',oo',⟨aqx,ok'⟩,pos'⟩:=G
 refine ⟨s,t',by show ((thenS _ _).length:Int)=_; rw [iw]; exact X5,fun y hy=>?_,⟨by show (thenS _ _).length=_; rw [iw]; exact len,fun a a0 a1 h=>?_⟩,fun a a0 a1=>?_⟩
 ·obtain ⟨x,hx,rfl⟩:=Pj hy
  have:=oo x hx
  exact oo' _ (cy this.1 (by omega))
 ·have p:=pos a a0 a1
  have k:=ok a a0 a1 p
  have p':=pos' _ p k.1
  have k':=ok' _ p k.1 p'
  have kf:=T.t.fr a0 a1
  have kt:=T.t.to a0 a1
  show gi (thenS f.ab g.ab) a < _∧gi c.aG (gi (thenS f.ab g.ab) a)=gi (thenS f.aA g.aA) (gi c.aG a)∧gi c.To (gi (thenS f.ab g.ab) a)=gi (thenS f.aA g.aA) (gi c.To a)
  rw [nr a0 (by omega),nr kf.1 (by omega),nr kt.1 (by omega)]
  refine ⟨k'.1,k'.2.1.trans ?_,k'.2.2.trans ?_⟩
  ·rw [k.2.1]
  ·rw [k.2.2]
 ·have p:=pos a a0 a1
  have k:=ok a a0 a1 p
  show 0≤gi (thenS f.ab g.ab) a
  rw [nr a0 (by omega)]
  exact pos' _ p k.1
theorem Yh {f:aQ} (F:FF c c f):jO f=some (r5 f f):=by
 have fs:=F.small T T
 have hl:=F.ol
 have al:=F.ar.1.len
 unfold jO jG
 rw [vu _ _ fs.o (fun x hx=>by have:=F.oo x hx; omega),aF,vu _ _ fs.a (fun x hx=>by
  obtain ⟨j,j0,j1,rfl⟩:=mb hx
  have:=(Pd T T F j0 (by omega)).2.1
  omega),aF,mr fs.s fs.t (by rw [iw]; exact fs.o) (by rw [iw]; exact fs.a),aF]; rfl
theorem TD {f:Int} (f0:0≤f) (f1:f < c.aG.length):Ok (gF c f) fun _=>True:=by
 have k:=T.t.fr f0 f1
 unfold gF
 exact gj (oe (T.t.iq f0 f1) (oe (T.t.nh k.1 k.2) (os trivial)))
section
variable {t:aQ} (F:FF c c t) {u j:List Int} (U:CQ c c (AR c) t false u) (J:CQ c c (r5 t t) t false j)
include F U J
theorem Yi:Ok (kO t u j) fun _=>True:=by
 have ul:=U.len
 have jl:=J.len
 have co:=T.o
 have kU:∀ x:Int,0≤x→x < c.aA→fg c x (gi t.aA x) (gi u x):=fun x x0 x1=>by
  rcases U.ok x x0 (by omega) with h | h
  ·refine ⟨h.1,h.2.1.trans ?_,h.2.2⟩
   exact BQ x0 (by have:=T.t.o0; omega)
  ·cases h.2
 have kJ:∀ x:Int,0≤x→x < c.aA→fg c (gi t.aA (gi t.aA x)) (gi t.aA x) (gi j x):=fun x x0 x1=>by
  rcases J.ok x x0 (by omega) with h | h
  ·refine ⟨h.1,h.2.1.trans ?_,h.2.2⟩
   exact nr x0 (by have:=F.ol; omega)
  ·cases h.2
 have kT:∀ x y a:Int,fg c x y a→idx t.ab a=some (gi t.ab a)∧fg c (gi t.aA x) (gi t.aA y) (gi t.ab a):=fun x y a h=>by
  have k:=Pd T T F h.1.1 h.1.2
  rw [h.2.1,h.2.2] at k
  exact k
 have kC:∀ x y z a b:Int,fg c x y a→fg c y z b→0≤gk c.aE a b∧gk c.aE a b < c.aG.length:=fun x y z a b h h'=>(T.t.cell a b h.1.1 h.1.2 h'.1.1 h'.1.2 (by rw [h.2.2,h'.2.1])).1
 unfold kO
 refine gj (ol (fun i:Int=>0≤i∧i≤c.aA) (fun i=>(c.aA - i).toNat) ⟨by omega,T.t.o0⟩ ?_)
 rintro i ⟨i0,i1⟩
 unfold nD
 rw [F.s]
 refine od (fun hi=>?_) fun hi=>os ⟨rfl,os trivial⟩
 have ko:=Tx T T F i0 hi
 have hu:=kU i i0 hi
 have hj:=kJ i i0 hi
 have Ho:=kU _ ko.2.1 ko.2.2
 have lh:=kJ _ ko.2.1 ko.2.2
 have tu:=kT _ _ _ hu
 have tj:=kT _ _ _ hj
 have iu:=bS (l:=u) i0 (by omega)
 have ij:=bS (l:=j) i0 (by omega)
 have iu2:=bS (l:=u) ko.2.1 (by omega)
 have ij2:=bS (l:=j) ko.2.1 (by omega)
 have c1:=kC _ _ _ _ _ tu.2 hj
 have c2:=kC _ _ _ _ _ Ho hj
 refine oe ko.1 (og ?_ fun b=>oc (fun _=>os trivial) fun _=>?_)
 ·refine oe iu (oe tu.1 (oe ij (oe (zp T.t tu.2.1.1 tu.2.1.2 hj.1.1 hj.1.2) (ob (TD T c1.1 c1.2) fun b _=>oc (fun _=>os trivial) fun _=>oe iu2 (oe ij (oe (zp T.t Ho.1.1 Ho.1.2 hj.1.1 hj.1.2) (ob (TD T c2.1 c2.2) fun b _=>os trivial)))))))
 ·refine oe ij (oe tj.1 (oe ij (oe (zp T.t tj.2.1.1 tj.2.1.2 hj.1.1 hj.1.2) (oe ij2 (oe ij (oe (zp T.t lh.1.1 lh.1.2 hj.1.1 hj.1.2) (oc (fun _=>os trivial) fun _=>os ⟨⟨?_,?_⟩,?_⟩)))))))
  all_goals (try dsimp only)
  all_goals rw [w1 i0 hi (by omega)]
  all_goals omega
end
theorem LJ {f g:aQ} (F:FF c c f) (G:FF c c g):Ok (mU f g) fun y=>y.length≤201∧∀ q∈y,CQ c c f g false q:=by
 unfold mU
 exact gj (ob (UR T T F G (m:=201) (by omega) (by omega)) fun y hy=>os ⟨by have:=hy.1; omega,hy.2⟩)
theorem ZS:Ok (sF c) fun y=>∀ m∈y.1,M7 m:=by
 have co:=T.o
 have cm:=T.m
 unfold sF
 refine gj (ob (Nj T T) fun l hl=>od (fun _=>os du) fun LC=>?_)
 refine ol (fun z:List bV×Int=>(0≤z.2∧z.2≤l.length)∧(z.1.length:Int)≤z.2 * 40401∧∀ m∈z.1,M7 m) (fun z=>(l.length - z.2).toNat) ⟨⟨by show (0:Int)≤0; omega,by show (0:Int)≤_; omega⟩,by show ((0:Nat):Int)≤0 * 40401; omega,du⟩ ?_
 rintro ⟨out,i⟩ ⟨⟨i0,i1⟩,ho,hm⟩
 dsimp only at i0 i1 ho hm
 show Ok (rR c l out i) _
 unfold rR
 refine od (fun hi=>oi i0 hi fun t ht=>?_) fun hi=>os ⟨rfl,od (fun _=>os du) fun _=>os hm⟩
 have F:=hl.2.1 t ht
 have fs:=F.small T T
 have own:lN t=some t:=by
  unfold lN
  rw [mr fs.s fs.t fs.o fs.a,aF]; rfl
 refine oe (LH T) (ob (LJ T (afj T) F) fun us hus=>oe (Yh T F) (ob (LJ T (UQ T F F) F) fun js hjs=>og (od (fun _=>os trivial) fun _=>os trivial) fun b=>oc (fun _=>os du) fun _=>?_))
 have h1:=hus.1
 have h2:=hjs.1
 have h3:=hl.1
 refine ol (fun z:List bV×Int=>(0≤z.2∧z.2≤us.length)∧(z.1.length:Int)≤i * 40401+z.2 * 201∧∀ m∈z.1,M7 m) (fun z=>(us.length - z.2).toNat) ⟨⟨by show (0:Int)≤0; omega,by show (0:Int)≤_; omega⟩,by dsimp only; omega,hm⟩ ?_
 rintro ⟨o1,a⟩ ⟨⟨a0,a1⟩,Je,I1⟩
 dsimp only at a0 a1 Je I1
 show Ok (rQ t us js o1 a) _
 unfold rQ
 refine od (fun ha=>?_) fun ha=>os ⟨rfl,os ⟨⟨⟨?_,?_⟩,?_,I1⟩,?_⟩⟩
 ·refine ol (fun z:List bV×Int=>(0≤z.2∧z.2≤js.length)∧(z.1.length:Int)≤i * 40401+a * 201+z.2∧∀ m∈z.1,M7 m) (fun z=>(js.length - z.2).toNat) ⟨⟨by show (0:Int)≤0; omega,by show (0:Int)≤_; omega⟩,by dsimp only; omega,I1⟩ ?_
  rintro ⟨o2,b⟩ ⟨⟨b0,b1⟩,EN,J9⟩
  dsimp only at b0 b1 EN J9
  show Ok (rP t us js a o2 b) _
  unfold rP
  refine od (fun hb=>?_) fun hb=>os ⟨rfl,os ⟨⟨⟨?_,?_⟩,?_,J9⟩,?_⟩⟩
  ·have eu:=jz (l:=us) a0 ha
   have ej:=jz (l:=js) b0 hb
   have hU:=hus.2 _ (kq (l:=us) a0 ha)
   have hJ:=hjs.2 _ (kq (l:=js) b0 hb)
   have hul:=hU.len
   have EW:=hJ.len
   refine oe eu (oe ej (ob (Yi T F hU hJ) fun y _=>oc (fun _=>oe own (oe eu (oe (fc _ (by omega)) (oe ej (oe (fc _ (by omega)) (dp (by omega) (by omega) (os ⟨⟨⟨?_,?_⟩,?_,dw J9 ⟨fs,?_,?_⟩⟩,?_⟩))))))) fun _=>os ⟨⟨⟨?_,?_⟩,?_,J9⟩,?_⟩))
   all_goals (try dsimp only)
   all_goals (try rw [w1 b0 hb (by omega)])
   all_goals (try simp only [List.length_append,List.length_singleton])
   all_goals omega
  ·dsimp only; rw [w1 a0 ha (by omega)]; omega
  ·dsimp only; rw [w1 a0 ha (by omega)]; omega
  ·dsimp only; rw [w1 a0 ha (by omega)]; omega
  ·dsimp only; rw [w1 a0 ha (by omega)]; omega
 ·dsimp only; rw [w1 i0 hi (by omega)]; omega
 ·dsimp only; rw [w1 i0 hi (by omega)]; omega
 ·dsimp only; rw [w1 i0 hi (by omega)]; omega
 ·dsimp only; rw [w1 i0 hi (by omega)]; omega
end
theorem Yj {a:cU} (h:A7 a):Ok (jV a) M7:=by
 have h1:=h.lo
 have h2:=h.la
 have h3:=h.ro
 have h4:=h.ra
 have h5:=h.u
 have h6:=h.k
 have sm:=h.small
 have hu:=h.p.u
 unfold jV
 refine gj (ol (fun z:List Int×Int=>(0≤z.2∧z.2≤a.Unit.length)∧(z.1.length:Int)=z.2) (fun z=>(a.Unit.length - z.2).toNat) ⟨⟨by show (0:Int)≤0; omega,by show (0:Int)≤_; omega⟩,rfl⟩ ?_)
 rintro ⟨l,i⟩ ⟨⟨i0,i1⟩,hl⟩
 dsimp only at i0 i1 hl
 show Ok (sO a l i) _
 unfold sO
 refine od (fun hi=>?_) fun hi=>os ⟨rfl,?_⟩
 ·have k1:=h.p.o _ (cy (l:=a.Left.aA) i0 (by omega))
  have k2:=h.p.k _ (cy (l:=a.l9) k1.1 k1.2.2)
  refine oe (bS i0 (by omega)) (oe (bS k1.1 k1.2.2) (oe (bS k2.1 k2.2) (dp (by omega) (by omega) (os ⟨⟨⟨?_,?_⟩,?_⟩,?_⟩))))
  all_goals (try dsimp only)
  all_goals rw [w1 i0 hi (by omega)]
  all_goals (try simp only [List.length_append,List.length_singleton])
  all_goals omega
 ·have th:jG a.Left a.bu=some (r5 a.Left a.bu):=by
   unfold jG
   rw [vu _ _ sm.l.o (fun x hx=>by have:=h.p.o x hx; omega),aF,vu _ _ sm.l.a (fun x hx=>h.p.a x hx),aF,mr sm.l.s sm.r.t (by rw [iw]; exact sm.l.o) (by rw [iw]; exact sm.l.a),aF]; rfl
  exact oe th (oe (fc _ (by omega)) (os ⟨⟨sm.l.s,sm.r.t,by show (thenS _ _).length≤_; rw [iw]; exact sm.l.o,by show (thenS _ _).length≤_; rw [iw]; exact sm.l.a⟩,h5,by show l.length≤1000; omega⟩))
section
variable {x:List Int} (B:xU x)
include B
theorem Yk {s:aK} (S:Src x s):Ok (qT s) fun y=>M7 y.1∧Src x y.2:=by
 have fin:∀ {t:aK},Src x t→Ok (lY t>>=fun vR=>((bW (aK.mk s.Code vR.2.At vR.2.av) ((2:Int)))>>=fun zg=>(bif (zg.1) == ((0:Int)) then ((lE vR.1)>>=fun Ro=>((jV Ro)>>=fun MY=>(some (Out.ret ((MY,(aK.mk s.Code zg.2.At zg.2.av))):Out Unit (bV×aK))))) else ((jV vR.1)>>=fun MZ=>(some (Out.ret ((MZ,(aK.mk s.Code zg.2.At zg.2.av)))))))) ) (Rt fun y=>M7 y.1∧Src x y.2):=by
  intro t St
  refine ob (X9 B St) fun a ha=>ob (dn B (S.on ha.2) _) fun z hz=>oc (fun _=>ob (RU ha.1) fun b hb=>ob (Yj hb) fun m hm=>os ⟨hm,S.on hz.2⟩) fun _=>ob (Yj ha.1) fun m hm=>os ⟨hm,S.on hz.2⟩
 unfold qT
 refine gj (ob (dn B S _) fun y hy=>oc (fun _=>?_) fun _=>fin (S.on hy.2))
 refine ob (AT B (S.on hy.2) 3 5) fun y2 CI=>?_
 have T:T7 y2.1:=yo CI.1 (by omega) (by omega)
 refine ob (ZS T) fun l hl=>ob (P:=fun g=>g=true→0 < l.1.length) (oc (fun _=>os fun h=>by have:=of_decide_eq_true h; omega) fun _=>os fun h=>(by cases h)) fun g hg=>oc (fun eg=>?_) fun _=>fin (S.on CI.2)
 have h0:=hg eg
 exact ob (dn B (S.on CI.2) _) fun z hz=>oi hz.1.1 (hz.1.2 (by omega)) fun m hm=>os ⟨hl m hm,S.on hz.2⟩
theorem Yl {s:aK} (S:Src x s):Ok (nR s) fun y=>AU y.1∧Src x y.2:=by
 unfold nR
 refine gj (ob (Yk B S) fun y hy=>ob (dn B (S.on hy.2) _) fun z hz=>?_)
 have h1:=hy.1.u
 have h2:=hy.1.j
 have sm:=hy.1.small
 have So:Src x (aK.mk s.Code z.2.At z.2.av):=S.on hz.2
 refine oc (fun _=>od (fun hu=>ob (FM B So _) fun n hn=>oe (bS (by omega) hu) (os ⟨⟨sm.l,sm.u,?_⟩,S.on hn⟩)) fun _=>os ⟨sm,So⟩) fun _=>oc (fun _=>dp (by omega) (by omega) (os ⟨⟨sm.l,?_,sm.j⟩,So⟩)) fun _=>oc (fun _=>ob (US B So) fun f hf=>os ⟨⟨hf.1,sm.u,sm.j⟩,S.on hf.2⟩) fun _=>os ⟨sm,So⟩
 ·show (List.set _ _ _).length≤_
  rw [List.length_set]; exact sm.j
 ·show (_++[(0:Int)]).length≤_
  rw [List.length_append,List.length_singleton]; omega
end
end Go.Proofs.YtilhlobfebngdaaGreat
