/- Adjunctions: units and counits as natural transformations, the laws of triangles; transposing there and back; composites. No condition beside those that each theorem names. -/
import Derived.Test.YtilhlobfebngdaaGreatYk
import Derived.Test.YtilhlobfebngdaaGreatUr
import Derived.Test.YtilhlobfebngdaaGreatYn
import Derived.Test.YtilhlobfebngdaaGreatVw
namespace Go.Proofs.YtilhlobfebngdaaGreat
open Go Go.Li
set_option linter.unusedVariables false
set_option linter.unusedSectionVars false
def B3 (c:aF):aP:=aP.mk c c (ns c.aA.toNat) (ns c.aE.length)
theorem W6 {c:aF} (C:l5 c):jo (B3 c)=true:=by
 have o0:=C.o0
 have hO:∀ y:Int,0≤y→y < c.aA→gi (ns c.aA.toNat) y=y:=fun y y0 y1=>Hf y0 (by omega)
 have hA:∀ a:Int,0≤a→a < c.aE.length→gi (ns c.aE.length) a=a:=fun a a0 a1=>Hf a0 a1
 refine Q9 (f:=B3 c) (Ra C) (Ra C) (by show ((ns c.aA.toNat).length:Int)=c.aA; rw [cN]; omega) (cN _) (fun y hy=>?_) (fun y hy=>fg.1 hy) (fun a a0 a1=>?_) (fun a a0 a1=>?_) (fun y y0 y1=>?_) fun a b a0 a1 b0 b1 e=>?_
 ·have:=fg.1 hy
  show 0≤y∧y < c.aA
  omega
 ·have k:=C.fr a0 a1
  show gi c.aE (gi (ns c.aE.length) a)=gi (ns c.aA.toNat) (gi c.aE a)
  rw [hA a a0 a1,hO _ k.1 k.2]
 ·have k:=C.to a0 a1
  show gi c.To (gi (ns c.aE.length) a)=gi (ns c.aA.toNat) (gi c.To a)
  rw [hA a a0 a1,hO _ k.1 k.2]
 ·have k:=C.id (x:=y) y0 y1
  show gi (ns c.aE.length) (gi c.aH y)=gi c.aH (gi (ns c.aA.toNat) y)
  rw [hA _ k.1 k.2,hO y y0 y1]
 ·have k:=C.cell a b a0 a1 b0 b1 e
  show gi (ns c.aE.length) (gk c.aC a b)=gk c.aC (gi (ns c.aE.length) a) (gi (ns c.aE.length) b)
  rw [hA _ k.1 k.2.1,hA a a0 a1,hA b b0 b1]
theorem Q1 {c:aF} (C:l5 c):kq (B3 c):=by
 have o0:=C.o0
 have o8:=C.o8
 have m:=C.m
 exact ⟨Bd C,Bd C,by show (ns _).length≤_; rw [cN]; omega,by show (ns _).length≤_; rw [cN]; omega⟩
def unT (a:cV):bU:=bU.mk (B3 a.Left.aB) (s9 a.Left a.bw) a.Unit
def coT (a:cV):bU:=bU.mk (s9 a.bw a.Left) (B3 a.Left.aG) a.pr
def tr (a:cV) (x g:Int):Int:=gk a.Left.aB.aC (gi a.Unit x) (gi a.bw.ab g)
def bk (a:cV) (y f:Int):Int:=gk a.Left.aG.aC (gi a.Left.ab f) (gi a.pr y)
structure Adj (a:cV):Prop where
 fb:jo a.Left=true
 gb:jo a.bw=true
 e1:a.Left.aB=a.bw.aG
 e2:a.Left.aG=a.bw.aB
 ub:mr (unT a)=true
 kb:mr (coT a)=true
 t1:∀ x:Int,0≤x→x < a.Left.aB.aA→bk a (gi a.Left.aA x) (gi a.Unit x)=gi a.Left.aG.aH (gi a.Left.aA x)
 t2:∀ y:Int,0≤y→y < a.Left.aG.aA→tr a (gi a.bw.aA y) (gi a.pr y)=gi a.Left.aB.aH (gi a.bw.aA y)
namespace Adj
variable {a:cV} (A:Adj a)
include A
theorem UX {f g:Int} (f0:0≤f) (f1:f < a.Left.aB.aE.length) (g0:0≤g) (g1:g < a.Left.aB.aE.length) (e:gi a.Left.aB.To f=gi a.Left.aB.aE g):gi a.Left.ab (gk a.Left.aB.aC f g)=gk a.Left.aG.aC (gi a.Left.ab f) (gi a.Left.ab g):=(mx A.fb).co f g f0 f1 g0 g1 e
end Adj
section
variable {a b:cV} (A:Adj a) (B:Adj b) (e:a.Left.aG=b.Left.aB)
include A B e
end
end Go.Proofs.YtilhlobfebngdaaGreat
namespace Go.Proofs.YtilhlobfebngdaaGreat
open Go Go.Li
set_option linter.unusedVariables false
set_option linter.unusedSectionVars false
def fh (c:aF) (z x u:Int):Prop:=(0≤u∧u < c.aE.length)∧gi c.aE u=z∧gi c.To u=x
structure Uni (f:aP) (y x e:Int):Prop where
 x0:0≤x
 x1:x < f.aB.aA
 l:fh f.aG (gi f.aA x) y e
 ex:∀ z h:Int,0≤z→z < f.aB.aA→fh f.aG (gi f.aA z) y h→∃ u,fh f.aB z x u∧gk f.aG.aC (gi f.ab u) e=h
 un:∀ z u v:Int,fh f.aB z x u→fh f.aB z x v→gk f.aG.aC (gi f.ab u) e=gk f.aG.aC (gi f.ab v) e→u=v
theorem Up {c:aF} (C:l5 c) {x y z u v:Int} (h:fh c x y u) (h':fh c y z v):fh c x z (gk c.aC u v):=by
 have:=C.cell u v h.1.1 h.1.2 h'.1.1 h'.1.2 (by rw [h.2.2,h'.2.1])
 exact ⟨⟨this.1,this.2.1⟩,this.2.2.1.trans h.2.1,this.2.2.2.trans h'.2.2⟩
theorem aaj {c:aF} (C:l5 c) {x:Int} (x0:0≤x) (x1:x < c.aA):fh c x x (gi c.aH x):=⟨C.id x0 x1,C.yu x x0 x1,C.yS x x0 x1⟩
theorem Xa {f:aP} (F:IN f) {x y u:Int} (h:fh f.aB x y u):fh f.aG (gi f.aA x) (gi f.aA y) (gi f.ab u):=⟨F.ar h.1.1 h.1.2,by rw [F.fr u h.1.1 h.1.2,h.2.1],by rw [F.to u h.1.1 h.1.2,h.2.2]⟩
theorem Rf {c:aF} (C:l5 c) {x y z w u v t:Int} (h:fh c x y u) (h':fh c y z v) (h2:fh c z w t):gk c.aC (gk c.aC u v) t=gk c.aC u (gk c.aC v t):=
 C.assoc u v t h.1.1 h.1.2 h'.1.1 h'.1.2 h2.1.1 h2.1.2 (by rw [h.2.2,h'.2.1]) (by rw [h'.2.2,h2.2.1])
theorem Lv {c:aF} (C:l5 c) {x y u:Int} (h:fh c x y u):0≤x∧x < c.aA:=by have:=C.fr h.1.1 h.1.2; rwa [h.2.1] at this
theorem QV {c:aF} (C:l5 c) {x y u:Int} (h:fh c x y u):gk c.aC u (gi c.aH y)=u:=by have:=C.Jf u h.1.1 h.1.2; rwa [h.2.2] at this
section
variable {f:aP} {xs es IX us:List Int} (hf:jo f=true) (qm:(xs.length:Int)=f.aG.aA) (Ga:(es.length:Int)=f.aG.aA) (zQ:IX.length=f.aG.aE.length) (hul:(us.length:Int)=f.aB.aA)
 (hU:∀ y:Int,0≤y→y < f.aG.aA→Uni f y (gi xs y) (gi es y))
 (hA:∀ g:Int,0≤g→g < f.aG.aE.length→fh f.aB (gi xs (gi f.aG.aE g)) (gi xs (gi f.aG.To g)) (gi IX g)∧gk f.aG.aC (gi f.ab (gi IX g)) (gi es (gi f.aG.To g))=gk f.aG.aC (gi es (gi f.aG.aE g)) g)
 (hS:∀ x:Int,0≤x→x < f.aB.aA→fh f.aB x (gi xs (gi f.aA x)) (gi us x)∧gk f.aG.aC (gi f.ab (gi us x)) (gi es (gi f.aA x))=gi f.aG.aH (gi f.aA x))
include hf qm Ga zQ hul hU hA hS
end
end Go.Proofs.YtilhlobfebngdaaGreat
namespace Go.Proofs.YtilhlobfebngdaaGreat
open Go Go.Li
set_option linter.unusedVariables false
set_option linter.unusedSectionVars false
structure B4 (a:cV):Prop where
 l:kq a.Left
 r:kq a.bw
 u:a.Unit.length≤1048576
 k:a.pr.length≤1048576
theorem W8 {c:aF} (C:l5 c):qB c=some (B3 c):=by
 have o0:=C.o0
 have o8:=C.o8
 have m:=C.m
 have hs:=Bd C
 unfold qB
 rw [Fh o0 (by omega),aD,show cY c=some (c.aE.length:Int) from rfl,aD,Fh (by omega) (by omega),aD,Int.toNat_natCast,Fi hs hs (by rw [cN]; omega) (by rw [cN]; omega),aD]; rfl
theorem Ly (n:Nat):ns (n+1)=ns n++[(n:Int)]:=by simp [ns,List.range_succ]
theorem upto {R S:Type} {k:Nat} {n:Nat} (hn:n≤1048576) {body:List Int×Int→Option (Out (List Int×Int) R)} {f:List Int×Int→Option (Out S R)}
  (h:∀ i:Nat,i < n→body (ns i,(i:Int))=some (.norm (ns i++[(i:Int)],((i+1:Nat):Int)))) (last:body (ns n,(n:Int))=some (.exit k (ns n,(n:Int)))) :
  af (ae k (ah body (([]:List Int),(0:Int)))) f=f (ns n,(n:Int)):=by
 refine gu (ns n) (fun i=>(ns i,(i:Int))) rfl (fun i x hx=>?_) (e:=(ns n,(n:Int))) ?_
 ·obtain ⟨rfl,hi⟩:=dy hx
  rw [h i hi,Ly]
 ·rw [cN]; exact last
theorem W7 {c:aF} (C:l5 c):eJ c=some (B3 c):=by
 have o0:=C.o0
 have o8:=C.o8
 have m:=C.m
 have hs:=Bd C
 have a1:∀ i:Nat,i < c.aA.toNat→eZ c (ns i) (i:Int)=some (.norm (ns i++[(i:Int)],((i+1:Nat):Int))):=fun i hi=>by
  unfold eZ
  rw [au (by omega),cond_true,cN,dL (by omega) (by omega),aD,bR (by omega)]
 have a2:eZ c (ns c.aA.toNat) (c.aA.toNat:Int)=some (.exit 0 (ns c.aA.toNat,(c.aA.toNat:Int))):=by
  unfold eZ
  rw [ay (by omega),cond_false]
 have b1:∀ i:Nat,i < c.aE.length→fA c (ns i) (i:Int)=some (.norm (ns i++[(i:Int)],((i+1:Nat):Int))):=fun i hi=>by
  unfold fA
  rw [au (by omega),cond_true,cN,dL (by omega) (by omega),aD,bR (by omega)]
 have b2:fA c (ns c.aE.length) (c.aE.length:Int)=some (.exit 2 (ns c.aE.length,(c.aE.length:Int))):=by
  unfold fA
  rw [ay (by omega),cond_false]
 unfold eJ
 rw [upto (n:=c.aA.toNat) (by omega) a1 a2]
 dsimp only
 rw [upto (n:=c.aE.length) (by omega) b1 b2]
 dsimp only
 rw [nk hs hs (by rw [cN]; omega) (by rw [cN]; omega),aD]; rfl
theorem IT {t:bU} (hs:Ei t) (fb:jo t.aB=true) (gb:jo t.aG=true) (es:t.aG.aB=t.aB.aB) (et:t.aG.aG=t.aB.aG):gP t.aB t.aG t.bj=some (mr t):=by
 have F:=mx fb
 have G:=mx gb
 have hp:=hs.p
 have gv:=F.ol
 have zQ:=F.al
 have cm:=F.c.m
 unfold gP mr Bf
 rw [fb,gb,es,et,wa.2 rfl,wa.2 rfl]
 simp only [Bool.true_and]
 by_cases e1:(t.bj.length:Int)=t.aB.aB.aA
 ·rw [mq (by omega),cond_false,BZ _ _ (by omega),aD,aD,n5 e1,Bool.true_and]
  cases h:np t.aB.aG.aE.length t.bj with
  | false=>rfl
  | true=>
   rw [Bool.not_true,cond_false,Bool.true_and]
   have zK:=qg.1 h
   have H:THead t:=⟨F,G,fb,gb,es,et,e1,zK⟩
   rw [xd (n:=t.bj.length) (FR t) (fun x bn=>?_) (by unfold oN; rw [ay (by omega),cond_false])]
   ·unfold CP
    cases (ns t.bj.length).any (FR t) with
    | true=>rfl
    | false=>
     rw [cond_false,Bool.not_false,Bool.true_and]
     rw [xd (n:=t.aB.aB.aE.length) (fun a=>!(Ny t.aB t.aG t.bj a)) (fun a bn=>?_) (by unfold oO; rw [ay (by omega),cond_false])]
     ·unfold LH
      cases (ns t.aB.aB.aE.length).any _ <;> rfl
     ·have kf:=F.c.fr (f:=(a:Int)) (by omega) (by omega)
      have kt:=F.c.to (f:=(a:Int)) (by omega) (by omega)
      have ka:=F.ar (a:=(a:Int)) (by omega) (by omega)
      have k1:=H.cp kt.1 kt.2
      have k2:=H.cp kf.1 kf.2
      have k3:=H.ar2 (a:=(a:Int)) (by omega) (by omega)
      unfold oO Ny
      rw [au (by omega),cond_true,F.xc (by omega) (by omega),aD,F.c.jm (by omega) (by omega),aD,H.O7 kt.1 kt.2,aD,F.d.thenS ka.1 ka.2 k1.1 k1.2,aD,F.c.jc (by omega) (by omega),aD,H.O7 kf.1 kf.2,aD,H.VE (by omega) (by omega),aD,F.d.thenS k2.1 k2.2 k3.1 k3.2,aD,bR (by omega)]
      rfl
   ·have kc:=zK _ (dc (l:=t.bj) (j:=(x:Int)) (by omega) (by omega))
    unfold oN
    rw [au (by omega),cond_true,bQ (by omega) (by omega),aD,F.d.jc kc.1 kc.2,aD,F.Au (by omega) (by omega),aD,aD,F.d.jm kc.1 kc.2,aD,G.Au (by omega) (by rw [es]; omega),aD,bR (by omega),qu,zn,aD]
    rfl
 ·rw [qd (by omega),cond_true,aD,cond_true,sa e1]; rfl
section
variable {a:cV} (hs:B4 a)
include hs
omit hs in
end
theorem Nw {x y:Int}:(!(x == y))=(y != x):=by
 by_cases h:x=y
 ·rw [h]; simp
 ·rw [sa h,qd (fun e=>h e.symm)]; rfl
section
variable {a:cV} (hs:B4 a)
include hs
end
end Go.Proofs.YtilhlobfebngdaaGreat
namespace Go.Proofs.YtilhlobfebngdaaGreat
open Go Go.Li
set_option linter.unusedVariables false
set_option linter.unusedSectionVars false
set_option linter.unusedSimpArgs false
theorem O8 {R:List (List Int)} {k:Int} (k0:0≤k) (k3:k < 3) (hl:R.length≤300000) (h3:∀ r∈R,r.length=3):Ok (fU R k) fun y=>y.length=R.length∧∀ i:Int,0≤i→i < R.length→gi y i=gi (gr R i) k:=by
 unfold fU
 refine ie (ol (fun z:List Int×Int=>(0≤z.2∧z.2≤R.length)∧(z.1.length:Int)=z.2∧∀ i:Int,0≤i→i < z.2→gi z.1 i=gi (gr R i) k) (fun z=>(R.length - z.2).toNat) ⟨⟨by show (0:Int)≤0; omega,by show (0:Int)≤_; omega⟩,rfl,fun i i0 i1=>by dsimp only at i1; omega⟩ ?_)
 rintro ⟨l,i⟩ ⟨⟨i0,i1⟩,Nz,hv⟩
 dsimp only at i0 i1 Nz hv
 show Ok (gN R k l i) _
 unfold gN
 refine od (fun hi=>?_) fun hi=>os ⟨rfl,os ⟨by omega,fun j j0 j1=>hv j j0 (by omega)⟩⟩
 have hw:=w1 i0 hi (by omega)
 have h3r:=h3 _ (fy i0 hi)
 refine oe (fx i0 hi) (oe (bQ k0 (by omega)) (dt (by omega) (by omega) (os ⟨⟨⟨?_,?_⟩,?_,fun j j0 j1=>?_⟩,?_⟩)))
 ·dsimp only; rw [hw]; omega
 ·dsimp only; rw [hw]; omega
 ·dsimp only; rw [hw,List.length_append,List.length_singleton]; omega
 ·dsimp only at j1 ⊢
  rw [hw] at j1
  rw [lr j0]
  by_cases e:j < l.length
  ·rw [if_pos e]; exact hv j j0 (by omega)
  ·rw [if_neg e,if_pos (by omega),show j=i by omega]
 ·dsimp only; rw [hw]; omega
theorem aav {R:List (List Int)} (key:List Int) (hl:R.length≤300000) (h3:∀ r∈R,r.length=3):Ok (iO R key) fun y=>key∈R→(0≤y∧y < R.length)∧gr R y=key:=by
 unfold iO
 refine ie (ol (fun z:Int=>(0≤z∧z≤R.length)∧∀ i:Int,0≤i→i < z→gr R i≠key) (fun z=>(R.length - z).toNat) ⟨⟨by omega,by omega⟩,fun i i0 i1=>by omega⟩ ?_)
 rintro i ⟨⟨i0,i1⟩,hn⟩
 unfold tY
 refine od (fun hi=>?_) fun hi=>os ⟨rfl,os fun h=>?_⟩
 ·have hw:=w1 i0 hi (by omega)
  have h3r:=h3 _ (fy i0 hi)
  refine oe (fx i0 hi) (oe (CL _ _ (by omega)) (oc (fun e=>os fun _=>⟨⟨i0,hi⟩,eq_of_beq e⟩) fun e=>os ⟨⟨⟨by rw [hw]; omega,by rw [hw]; omega⟩,fun j j0 j1=>?_⟩,by dsimp only; rw [hw]; omega⟩))
  rw [hw] at j1
  by_cases ej:j=i
  ·rw [ej]
   intro h
   rw [h] at e
   simp at e
  ·exact hn j j0 (by omega)
 ·exfalso
  obtain ⟨j,j0,j1,e⟩:=aaw h
  exact hn j j0 (by omega) e
noncomputable def kh (R:List (List Int)) (key:List Int):Int:=(iO R key).getD (-1)
theorem xa {R:List (List Int)} (key:List Int) (hl:R.length≤300000) (h3:∀ r∈R,r.length=3):iO R key=some (kh R key)∧(key∈R→(0≤kh R key∧kh R key < R.length)∧gr R (kh R key)=key):=by
 obtain ⟨y,h1,h2⟩:=aav key hl h3
 have e:kh R key=y:=by unfold kh; rw [h1]; rfl
 rw [e]
 exact ⟨h1,h2⟩
def Dj (c:aF) (xs:List Int) (i j h:Int):Prop:=((0≤i∧i < xs.length)∧(0≤j∧j < xs.length))∧(0≤h∧h < c.aE.length)∧gi c.aE h=gi xs i∧gi c.To h=gi xs j
structure Fat (c:aF) (xs:List Int) (R:List (List Int)):Prop where
 n:xs.length≤65
 o:∀ x∈xs,0≤x∧x < c.aA
 l:R.length≤300000
 r:∀ r∈R,∃ i j h,r=[i,j,h]∧Dj c xs i j h
 a:∀ i j h,Dj c xs i j h→[i,j,h]∈R
namespace Fat
variable {c:aF} {xs:List Int} {R:List (List Int)} (F:Fat c xs R)
include F
theorem three:∀ r∈R,r.length=3:=fun r hr=>by obtain ⟨i,j,h,rfl,_⟩:=F.r r hr; rfl
theorem Ek {k:Int} (k0:0≤k) (k1:k < R.length):gr R k=[gi (gr R k) 0,gi (gr R k) 1,gi (gr R k) 2]∧Dj c xs (gi (gr R k) 0) (gi (gr R k) 1) (gi (gr R k) 2):=by
 obtain ⟨i,j,h,e,ha⟩:=F.r _ (fy k0 k1)
 rw [e]
 exact ⟨rfl,ha⟩
theorem Uh {i:Int} (i0:0≤i) (i1:i < xs.length):0≤gi xs i∧gi xs i < c.aA:=F.o _ (dc i0 i1)
theorem Hg {i j h:Int} (ha:Dj c xs i j h):(0≤kh R [i,j,h]∧kh R [i,j,h] < R.length)∧gr R (kh R [i,j,h])=[i,j,h]:=(xa _ F.l F.three).2 (F.a i j h ha)
end Fat
structure aax (c:aF) (xs:List Int) (R:List (List Int)) (d:aF):Prop where
 ob:d.aA=xs.length
 fl:d.aE.length=R.length
 tl:d.To.length=R.length
 il:(d.aH.length:Int)=xs.length
 kl:d.aC.length=R.length
 f:∀ k:Int,0≤k→k < R.length→gi d.aE k=gi (gr R k) 0
 t:∀ k:Int,0≤k→k < R.length→gi d.To k=gi (gr R k) 1
 i:∀ x:Int,0≤x→x < xs.length→gi d.aH x=kh R [x,x,gi c.aH (gi xs x)]
 r:∀ r∈d.aC,r.length=R.length
 k:∀ a b:Int,0≤a→a < R.length→0≤b→b < R.length→gk d.aC a b=if gi (gr R a) 1=gi (gr R b) 0 then kh R [gi (gr R a) 0,gi (gr R b) 1,gk c.aC (gi (gr R a) 2) (gi (gr R b) 2)] else -1
theorem aay {c d:aF} {xs:List Int} {R:List (List Int)} (T:T7 c) (F:Fat c xs R) (D:aax c xs R d):Ty d:=by
 have vz:∀ x:Int,0≤x→x < xs.length→Dj c xs x x (gi c.aH (gi xs x)):=fun x x0 x1=>by
  have o:=F.Uh x0 x1
  exact ⟨⟨⟨x0,x1⟩,x0,x1⟩,T.t.id o.1 o.2,T.t.yu _ o.1 o.2,T.t.yS _ o.1 o.2⟩
 have hco:∀ a b:Int,0≤a→a < R.length→0≤b→b < R.length→gi (gr R a) 1=gi (gr R b) 0→Dj c xs (gi (gr R a) 0) (gi (gr R b) 1) (gk c.aC (gi (gr R a) 2) (gi (gr R b) 2)):=fun a b a0 a1 b0 b1 e=>by
  have A:=(F.Ek a0 a1).2
  have B:=(F.Ek b0 b1).2
  have k:=T.t.cell _ _ A.2.1.1 A.2.1.2 B.2.1.1 B.2.1.2 (by rw [A.2.2.2,B.2.2.1,e])
  exact ⟨⟨A.1.1,B.1.2⟩,k.1,k.2.1.trans A.2.2.1,k.2.2.trans B.2.2.2⟩
 have fl:=D.fl
 have e0:∀ i j h:Int,gi [i,j,h] 0=i:=fun _ _ _=>rfl
 have e1:∀ i j h:Int,gi [i,j,h] 1=j:=fun _ _ _=>rfl
 have e2:∀ i j h:Int,gi [i,j,h] 2=h:=fun _ _ _=>rfl
 refine ⟨by rw [D.ob]; omega,fun y hy=>?_,by rw [D.tl,D.fl],fun y hy=>?_,by rw [D.kl,D.fl],fun r hr=>by rw [D.r r hr,D.fl],by rw [D.il,D.ob],fun y hy=>?_,fun x x0 x1=>?_,fun x x0 x1=>?_,fun a b a0 a1 b0 b1 e=>?_,fun a b a0 a1 b0 b1 e=>?_,fun x x0 x1=>?_⟩
 ·obtain ⟨i,i0,i1,rfl⟩:=my hy
  rw [D.f i i0 (by omega),D.ob]
  exact (F.Ek i0 (by omega)).2.1.1
 ·obtain ⟨i,i0,i1,rfl⟩:=my hy
  have:=D.tl
  rw [D.t i i0 (by omega),D.ob]
  exact (F.Ek i0 (by omega)).2.1.2
 ·obtain ⟨i,i0,i1,rfl⟩:=my hy
  have:=D.il
  rw [D.i i i0 (by omega),D.fl]
  exact (F.Hg (vz i i0 (by omega))).1
 ·rw [D.ob] at x1
  have k:=F.Hg (vz x x0 x1)
  rw [D.i x x0 x1,D.f _ k.1.1 k.1.2,k.2]; rfl
 ·rw [D.ob] at x1
  have k:=F.Hg (vz x x0 x1)
  rw [D.i x x0 x1,D.t _ k.1.1 k.1.2,k.2]; rfl
 ·rw [fl] at a1 b1
  rw [D.t a a0 a1,D.f b b0 b1] at e
  have k:=F.Hg (hco a b a0 a1 b0 b1 e)
  rw [D.k a b a0 a1 b0 b1,if_pos e,D.f _ k.1.1 k.1.2,D.t _ k.1.1 k.1.2,k.2,D.f a a0 a1,D.t b b0 b1,fl]
  exact ⟨k.1,rfl,rfl⟩
 ·rw [fl] at a1 b1
  rw [D.t a a0 a1,D.f b b0 b1] at e
  rw [D.k a b a0 a1 b0 b1,if_neg e]
 ·rw [D.ob] at x1
  have o:=F.Uh x0 x1
  have k:=F.Hg (vz x x0 x1)
  rw [D.i x x0 x1,D.k _ _ k.1.1 k.1.2 k.1.1 k.1.2,k.2,e0,e1,e2,if_pos rfl,T.t.uu _ o.1 o.2]
theorem Aw {d:aF} (U:Ty d) {a b:Int} (a0:0≤a) (a1:a < d.aE.length) (b0:0≤b) (b1:b < d.aE.length):eK d a b=some (gk d.aC a b):=by
 unfold eK
 rw [U.ni a0 a1,aD,U.mi a0 a1 b0 b1,aD]; rfl
section
variable {x:List Int} (B:yT x) {s:aJ} (S:Src x s) {c:aF} (T:T7 c)
include B S T
theorem acD:Ok (sZ s c) fun y=>(∃ a b,T7 a∧T7 b∧FF a b y.2.1)∧Src x y.2.2:=by
 have c0:=T.t.o0
 have cm:=T.m
 have co:=T.o
 have hlen:=B.len
 unfold sZ
 refine ie (ol (fun z:List Int×Int=>(0≤z.2∧z.2≤c.aA)∧(z.1.length:Int)=z.2∧∀ y∈z.1,0≤y∧y < c.aA) (fun z=>(c.aA - z.2).toNat) ⟨⟨by show (0:Int)≤0; omega,by show (0:Int)≤_; omega⟩,rfl,ei⟩ ?_)
 rintro ⟨l,i⟩ ⟨⟨i0,i1⟩,hl,hv⟩
 dsimp only at i0 i1 hl hv
 show Ok (sL c l i) _
 unfold sL
 refine od (fun hi=>dt (by omega) (by omega) (os ⟨⟨⟨?_,?_⟩,?_,ew hv ⟨i0,hi⟩⟩,?_⟩)) fun hi=>os ⟨rfl,?_⟩
 ·dsimp only; rw [w1 i0 hi (by omega)]; omega
 ·dsimp only; rw [w1 i0 hi (by omega)]; omega
 ·dsimp only; rw [w1 i0 hi (by omega),List.length_append,List.length_singleton]; omega
 ·dsimp only; rw [w1 i0 hi (by omega)]; omega
 refine ob (dk B S _) fun D2 Rb=>?_
 have n91:=Rb.1.2 (by omega)
 have S0:=S.on (h:=D2.2.an) Rb.2
 refine ol (fun z:List Int×Int×Int×Int=>(0≤z.2.1∧z.2.1≤D2.1)∧((z.1.length:Int)≤c.aA+(D2.1 - z.2.1)∧∀ y∈z.1,0≤y∧y < c.aA)∧(0≤z.2.2.1∧z.2.2.1≤x.length)) (fun z=>z.2.1.toNat) ⟨⟨Rb.1.1,by show D2.1≤D2.1; omega⟩,⟨by show (l.length:Int)≤c.aA+(D2.1 - D2.1); omega,hv⟩,Rb.2.a0,Rb.2.a1⟩ ?_
 rintro ⟨xs,k,at_,ha⟩ ⟨⟨k0,k1⟩,⟨qm,VF⟩,t0,t1⟩
 dsimp only at k0 k1 qm VF t0 t1
 show Ok (sM s c xs k at_ ha) _
 unfold sM
 have S1:Src x (aJ.mk s.Code at_ ha):=S.at_ t0 t1
 refine ob (P:=fun g=>g=true→0 < k∧0 < c.aA) (od (fun h=>os fun h2=>⟨h,of_decide_eq_true h2⟩) fun h=>os fun h2=>(by cases h2)) fun g hg=>oc (fun eg=>?_) fun eg=>os ⟨rfl,?_⟩
 ·obtain ⟨g1,g2⟩:=hg eg
  have hw:aj (k - 1)=k - 1:=eH (by omega) (by omega)
  refine ob (dk B S1 _) fun z hz=>dt (by omega) (by omega) (os ⟨⟨⟨?_,?_⟩,⟨?_,ew VF ⟨hz.1.1,hz.1.2 (by omega)⟩⟩,hz.2.a0,hz.2.a1⟩,?_⟩)
  ·dsimp only; rw [hw]; omega
  ·dsimp only; rw [hw]; omega
  ·dsimp only; rw [hw,List.length_append,List.length_singleton]; omega
  ·dsimp only; rw [hw]; omega
 have aiF:xs.length≤65:=by omega
 refine ol (fun z:List (List Int)×Int=>(0≤z.2∧z.2≤xs.length)∧((z.1.length:Int)≤4095 * z.2∧(∀ r∈z.1,∃ i j h,r=[i,j,h]∧Dj c xs i j h)∧∀ i j h,i < z.2→Dj c xs i j h→[i,j,h]∈z.1)) (fun z=>(xs.length - z.2).toNat) ⟨⟨by show (0:Int)≤0; omega,by show (0:Int)≤_; omega⟩,by show (0:Int)≤4095 * 0; omega,fun r hr=>absurd hr List.not_mem_nil,fun i j h hi ha=>by dsimp only at hi; have:=ha.1.1.1; omega⟩ ?_
 rintro ⟨R,i⟩ ⟨⟨i0,i1⟩,hRl,hRr,hRa⟩
 dsimp only at i0 i1 hRl hRr hRa
 show Ok (sP c xs R i) _
 unfold sP
 refine od (fun hi=>?_) fun hi=>os ⟨rfl,?_⟩
 ·refine ol (fun z:List (List Int)×Int=>(0≤z.2∧z.2≤xs.length)∧((z.1.length:Int)≤4095 * i+63 * z.2∧(∀ r∈z.1,∃ i j h,r=[i,j,h]∧Dj c xs i j h)∧∀ i' j h,i' < i∨(i'=i∧j < z.2)→Dj c xs i' j h→[i',j,h]∈z.1)) (fun z=>(xs.length - z.2).toNat) ⟨⟨by show (0:Int)≤0; omega,by show (0:Int)≤_; omega⟩,by dsimp only; omega,hRr,fun i' j h hh ha=>hRa i' j h (by dsimp only at hh; have:=ha.1.2.1; omega) ha⟩ ?_
  rintro ⟨R1,j⟩ ⟨⟨j0,j1⟩,aiG,Ui,Uj⟩
  dsimp only at j0 j1 aiG Ui Uj
  show Ok (sO c xs i R1 j) _
  unfold sO
  refine od (fun hj=>?_) fun hj=>os ⟨rfl,os ⟨⟨⟨?_,?_⟩,?_,Ui,fun i' j' h hh ha=>Uj i' j' h ?_ ha⟩,?_⟩⟩
  ·refine oe (bQ i0 hi) (oe (bQ j0 hj) (ob (CR T.t.tl (by omega) _ _) fun hm hhm=>?_))
   have Iq:=hhm.1
   refine ol (fun z:List (List Int)×Int=>(0≤z.2∧z.2≤hm.length)∧((z.1.length:Int)≤4095 * i+63 * j+z.2∧(∀ r∈z.1,∃ i j h,r=[i,j,h]∧Dj c xs i j h)∧(∀ i' j' h,i' < i∨(i'=i∧j' < j)→Dj c xs i' j' h→[i',j',h]∈z.1)∧∀ q:Int,0≤q→q < z.2→[i,j,gi hm q]∈z.1)) (fun z=>(hm.length - z.2).toNat) ⟨⟨by show (0:Int)≤0; omega,by show (0:Int)≤_; omega⟩,by dsimp only; omega,Ui,Uj,fun q q0 q1=>by dsimp only at q1; omega⟩ ?_
   rintro ⟨R2,q⟩ ⟨⟨q0,q1⟩,aiH,Uk,Ul,Um⟩
   dsimp only at q0 q1 aiH Uk Ul Um
   show Ok (sN i j hm R2 q) _
   unfold sN
   refine od (fun hq=>oe (bQ q0 hq) (dt (by omega) (by omega) (os ⟨⟨⟨?_,?_⟩,?_,ew Uk ⟨i,j,gi hm q,rfl,⟨⟨⟨i0,hi⟩,j0,hj⟩,(hhm.2 _).1 (dc q0 hq)⟩⟩,fun i' j' h hh ha=>List.mem_append_left _ (Ul i' j' h hh ha),fun p p0 p1=>?_⟩,?_⟩))) fun hq=>os ⟨rfl,os ⟨⟨⟨?_,?_⟩,?_,Uk,fun i' j' h hh ha=>?_⟩,?_⟩⟩
   ·dsimp only; rw [w1 q0 hq (by omega)]; omega
   ·dsimp only; rw [w1 q0 hq (by omega)]; omega
   ·dsimp only; rw [w1 q0 hq (by omega),List.length_append,List.length_singleton]; omega
   ·dsimp only at p1 ⊢
    rw [w1 q0 hq (by omega)] at p1
    by_cases ep:p=q
    ·rw [ep]; simp
    ·exact List.mem_append_left _ (Um p p0 (by omega))
   ·dsimp only; rw [w1 q0 hq (by omega)]; omega
   ·dsimp only; rw [w1 j0 hj (by omega)]; omega
   ·dsimp only; rw [w1 j0 hj (by omega)]; omega
   ·dsimp only; rw [w1 j0 hj (by omega)]; omega
   ·dsimp only at hh ⊢
    rw [w1 j0 hj (by omega)] at hh
    by_cases e:i'=i∧j'=j
    ·obtain ⟨rfl,rfl⟩:=e
     have Oz:=(hhm.2 h).2 ha.2
     obtain ⟨p,p0,p1,ep⟩:=my Oz
     rw [← ep]
     exact Um p p0 (by omega)
    ·exact Ul i' j' h (by omega) ha
   ·dsimp only; rw [w1 j0 hj (by omega)]; omega
  ·dsimp only; rw [w1 i0 hi (by omega)]; omega
  ·dsimp only; rw [w1 i0 hi (by omega)]; omega
  ·dsimp only; rw [w1 i0 hi (by omega)]; omega
  ·dsimp only at hh
   rw [w1 i0 hi (by omega)] at hh
   have:=ha.1.2.2
   omega
  ·dsimp only; rw [w1 i0 hi (by omega)]; omega
 have F:Fat c xs R:=⟨aiF,VF,by omega,hRr,fun i' j h ha=>hRa i' j h (by have:=ha.1.1.2; omega) ha⟩
 have h3:=F.three
 have hR3:=F.l
 refine ob (O8 (k:=0) (by omega) (by omega) F.l h3) fun ys DJ=>ob (O8 (k:=1) (by omega) (by omega) F.l h3) fun zs xk=>?_
 refine ol (fun z:Int×List Int=>(0≤z.1∧z.1≤xs.length)∧(z.2.length:Int)=z.1∧∀ q:Int,0≤q→q < z.1→gi z.2 q=kh R [q,q,gi c.aH (gi xs q)]) (fun z=>(xs.length - z.1).toNat) ⟨⟨by show (0:Int)≤0; omega,by show (0:Int)≤_; omega⟩,rfl,fun q q0 q1=>by dsimp only at q1; omega⟩ ?_
 rintro ⟨q,ids⟩ ⟨⟨q0,q1⟩,aiI,Un⟩
 dsimp only at q0 q1 aiI Un
 show Ok (sQ c xs R q ids) _
 unfold sQ
 refine od (fun hq=>?_) fun hq=>os ⟨rfl,?_⟩
 ·have o:=F.Uh q0 hq
  refine oe (bQ q0 hq) (oe (T.t.ou o.1 o.2) (oe (xa _ F.l h3).1 (dt (by omega) (by omega) (os ⟨⟨⟨?_,?_⟩,?_,fun p p0 p1=>?_⟩,?_⟩))))
  ·dsimp only; rw [w1 q0 hq (by omega)]; omega
  ·dsimp only; rw [w1 q0 hq (by omega)]; omega
  ·dsimp only; rw [w1 q0 hq (by omega),List.length_append,List.length_singleton]; omega
  ·dsimp only at p1 ⊢
   rw [w1 q0 hq (by omega)] at p1
   rw [lr p0]
   by_cases e:p < ids.length
   ·rw [if_pos e]; exact Un p p0 (by omega)
   ·rw [if_neg e,if_pos (by omega),show p=q by omega]
  ·dsimp only; rw [w1 q0 hq (by omega)]; omega
 have KD:∀ K:List (List Int),dT (aF.mk (xs.length:Int) ys zs ids K)=some (decide ((xs.length:Int)≤8) && decide ((R.length:Int)≤40)):=fun K=>by
  unfold dT
  dsimp only
  rw [DJ.1]
  by_cases h8:(xs.length:Int)≤8
  ·rw [au h8,cond_true,aD,Bool.true_and]; rfl
  ·rw [ay h8,cond_false,aD,Bool.false_and]; rfl
 refine ol (fun z:Int×List (List Int)=>(0≤z.1∧z.1≤R.length)∧(z.2.length:Int)=z.1∧(∀ r∈z.2,r.length=R.length)∧∀ a b:Int,0≤a→a < z.1→0≤b→b < R.length→gk z.2 a b=if gi (gr R a) 1=gi (gr R b) 0 then kh R [gi (gr R a) 0,gi (gr R b) 1,gk c.aC (gi (gr R a) 2) (gi (gr R b) 2)] else -1) (fun z=>(R.length - z.1).toNat) ⟨⟨by show (0:Int)≤0; omega,by show (0:Int)≤_; omega⟩,rfl,fun r hr=>absurd hr List.not_mem_nil,fun a b a0 a1=>by dsimp only at a1; omega⟩ ?_
 rintro ⟨a,K⟩ ⟨⟨a0,a1⟩,hKl,VG,hKv⟩
 dsimp only at a0 a1 hKl VG hKv
 show Ok (sS c xs R ys zs ids a K) _
 unfold sS
 refine ob (P:=fun g=>(g=true→a < R.length)∧(g=false→(decide ((xs.length:Int)≤8) && decide ((R.length:Int)≤40))=false∨a=R.length)) (od (fun h=>oe (KD K) (os ⟨fun _=>h,fun h2=>.inl h2⟩)) fun h=>os ⟨fun h2=>(by cases h2),fun _=>.inr (by omega)⟩) fun g hg=>oc (fun eg=>?_) fun eg=>os ⟨rfl,?_⟩
 ·have ha:=hg.1 eg
  refine ol (fun z:List Int×Int=>(0≤z.2∧z.2≤R.length)∧(z.1.length:Int)=z.2∧∀ b:Int,0≤b→b < z.2→gi z.1 b=if gi (gr R a) 1=gi (gr R b) 0 then kh R [gi (gr R a) 0,gi (gr R b) 1,gk c.aC (gi (gr R a) 2) (gi (gr R b) 2)] else -1) (fun z=>(R.length - z.2).toNat) ⟨⟨by show (0:Int)≤0; omega,by show (0:Int)≤_; omega⟩,rfl,fun b b0 b1=>by dsimp only at b1; omega⟩ ?_
  rintro ⟨row,b⟩ ⟨⟨b0,b1⟩,Jm,hrv⟩
  dsimp only at b0 b1 Jm hrv
  show Ok (sR c R a row b) _
  unfold sR
  refine od (fun hb=>?_) fun hb=>os ⟨rfl,dt (by omega) (by omega) (os ⟨⟨⟨?_,?_⟩,?_,ew VG (by omega),fun p b p0 p1 b0 b1=>?_⟩,?_⟩)⟩
  ·have A:=(F.Ek a0 ha).2
   have Bw:=(F.Ek b0 hb).2
   have la:=h3 _ (fy a0 ha)
   have lb:=h3 _ (fy b0 hb)
   have i0':idx (gr R a) 0=some (gi (gr R a) 0):=bQ (by omega) (by omega)
   have i1':idx (gr R a) 1=some (gi (gr R a) 1):=bQ (by omega) (by omega)
   have i2':idx (gr R a) 2=some (gi (gr R a) 2):=bQ (by omega) (by omega)
   have j0':idx (gr R b) 0=some (gi (gr R b) 0):=bQ (by omega) (by omega)
   have j1':idx (gr R b) 1=some (gi (gr R b) 1):=bQ (by omega) (by omega)
   have j2':idx (gr R b) 2=some (gi (gr R b) 2):=bQ (by omega) (by omega)
   have fin:∀ {v:Int},v=(if gi (gr R a) 1=gi (gr R b) 0 then kh R [gi (gr R a) 0,gi (gr R b) 1,gk c.aC (gi (gr R a) 2) (gi (gr R b) 2)] else -1)→∀ {E:List Int×Int→Prop} {G:aF×aP×aJ→Prop},Ok (some (Out.norm (row++[v],aj (b+1)):Out (List Int×Int) (aF×aP×aJ))) (IW 14 (fun z:List Int×Int=>(0≤z.2∧z.2≤R.length)∧(z.1.length:Int)=z.2∧∀ b:Int,0≤b→b < z.2→gi z.1 b=if gi (gr R a) 1=gi (gr R b) 0 then kh R [gi (gr R a) 0,gi (gr R b) 1,gk c.aC (gi (gr R a) 2) (gi (gr R b) 2)] else -1) (fun z=>(R.length - z.2).toNat) (R.length - b).toNat E G):=by
    intro v hv E G
    have hw:=w1 b0 hb (by omega)
    refine os ⟨⟨⟨?_,?_⟩,?_,fun p p0 p1=>?_⟩,?_⟩
    ·dsimp only; rw [hw]; omega
    ·dsimp only; rw [hw]; omega
    ·dsimp only; rw [hw,List.length_append,List.length_singleton]; omega
    ·dsimp only at p1 ⊢
     rw [hw] at p1
     rw [lr p0]
     by_cases e:p < row.length
     ·rw [if_pos e]; exact hrv p p0 (by omega)
     ·rw [if_neg e,if_pos (by omega),show p=b by omega]; exact hv
    ·dsimp only; rw [hw]; omega
   refine oe (fx a0 ha) (oe i1' (oe (fx b0 hb) (oe j0' (oc (fun e=>?_) fun e=>dt (by omega) (by omega) (fin ?_)))))
   ·have e:=eq_of_beq e
    refine oe (fx a0 ha) (oe i0' (oe (fx b0 hb) (oe j1' (oe (fx a0 ha) (oe i2' (oe (fx b0 hb) (oe j2' (oe (Aw T.t A.2.1.1 A.2.1.2 Bw.2.1.1 Bw.2.1.2) (oe (xa _ F.l h3).1 (dt (by omega) (by omega) (fin ?_)))))))))))
    rw [if_pos e]
   ·have e : ¬ gi (gr R a) 1=gi (gr R b) 0:=by simpa using e
    rw [if_neg e]
  ·dsimp only; rw [w1 a0 ha (by omega)]; omega
  ·dsimp only; rw [w1 a0 ha (by omega)]; omega
  ·dsimp only; rw [w1 a0 ha (by omega),List.length_append,List.length_singleton]; omega
  ·dsimp only at p1 ⊢
   rw [w1 a0 ha (by omega)] at p1
   unfold gk
   rw [El p0]
   by_cases e:p < K.length
   ·rw [if_pos e]; exact hKv p b p0 (by omega) b0 b1
   ·rw [if_neg e,show p=a by omega,show a - (K.length:Int)=0 by omega]
    exact hrv b b0 (by omega)
  ·dsimp only; rw [w1 a0 ha (by omega)]; omega
 refine oe (KD K) (oc (fun e=>?_) fun e=>?_)
 ·exact ob (yw T) fun f hf=>os ⟨⟨c,c,T,T,hf.1⟩,S.at_ t0 t1⟩
 ·have e:(decide ((xs.length:Int)≤8) && decide ((R.length:Int)≤40))=true:=by simpa using e
  have haR:a=R.length:=(hg.2 eg).elim (fun h=>by rw [h] at e; cases e) fun h=>h
  rw [Bool.and_eq_true] at e
  have e8:=of_decide_eq_true e.1
  have IG:=of_decide_eq_true e.2
  have D:aax c xs R (aF.mk (xs.length:Int) ys zs ids K):=⟨rfl,DJ.1,xk.1,by show (ids.length:Int)=_; omega,by show K.length=_; omega,DJ.2,xk.2,fun q q0 q1=>Un q q0 (by omega),VG,fun p b p0 p1 b0 b1=>hKv p b p0 (by omega) b0 b1⟩
  have D7:T7 (aF.mk (xs.length:Int) ys zs ids K):=⟨aay T F D,by show ys.length≤63; rw [DJ.1]; omega,by show (xs.length:Int)≤63; omega,⟨by show ys.length≤_; rw [DJ.1]; omega,by show zs.length≤_; rw [xk.1]; omega,by show ids.length≤_; omega,by show K.length≤_; omega,fun r hr=>by rw [VG r hr]; omega⟩⟩
  refine ob (O8 (k:=2) (by omega) (by omega) F.l h3) fun ws VH=>oe (nk D7.s T.s (by omega) (by rw [VH.1]; omega)) (os ⟨⟨_,c,D7,T,rfl,rfl,rfl,VF,⟨?_,fun p p0 p1 _=>?_⟩,fun p p0 p1=>?_⟩,S.at_ t0 t1⟩)
  ·show ws.length=ys.length
   rw [VH.1,DJ.1]
  ·replace p1:p < ys.length:=p1
   rw [DJ.1] at p1
   have A:=(F.Ek p0 p1).2
   show gi ws p < c.aE.length∧gi c.aE (gi ws p)=gi xs (gi ys p)∧gi c.To (gi ws p)=gi xs (gi zs p)
   rw [VH.2 p p0 p1,DJ.2 p p0 p1,xk.2 p p0 p1]
   exact ⟨A.2.1.2,A.2.2.1,A.2.2.2⟩
  ·replace p1:p < ys.length:=p1
   rw [DJ.1] at p1
   have A:=(F.Ek p0 p1).2
   show 0≤gi ws p
   rw [VH.2 p p0 p1]
   exact A.2.1.1
end
end Go.Proofs.YtilhlobfebngdaaGreat
namespace Go.Proofs.YtilhlobfebngdaaGreat
open Go Go.Li
set_option linter.unusedVariables false
set_option linter.unusedSectionVars false
set_option linter.unusedSimpArgs false
theorem aaE {c:aF} (T:T7 c):j7 63 63 c:=⟨T.t.o0,T.o,T.m,T.t.tl,T.t.il,T.t.kl,T.t.kr⟩
theorem HW {c:aF} (T:T7 c):kL c=some (Hh c):=by
 have c1:=T.m
 have c2:=T.t.tl
 have c3:=T.t.il
 have c4:=T.o
 suffices h:Ok (kL c) fun e=>e=Hh c by
  obtain ⟨y,h1,h2⟩:=h
  rw [h1,h2]
 unfold kL
 refine ie (oe (fv _ (by omega)) (oe (fv _ (by omega)) (oe (fv _ (by omega)) ?_)))
 refine ol (fun z:Int×List (List Int)=>(0≤z.1∧z.1≤c.aE.length)∧z.2=cg z.1.toNat fun f=>cg c.aE.length fun g=>gk c.aC g f) (fun z=>(c.aE.length - z.1).toNat) ⟨⟨by show (0:Int)≤0; omega,by show (0:Int)≤_; omega⟩,rfl⟩ ?_
 rintro ⟨i,k⟩ ⟨⟨i0,i1⟩,hk⟩
 dsimp only at i0 i1 hk
 show Ok (nJ c i k) _
 unfold nJ
 have E2:k.length=i.toNat:=by rw [hk,cE]
 refine od (fun hi=>?_) fun hi=>os ⟨rfl,os ?_⟩
 ·refine ol (fun z:List Int×Int=>(0≤z.2∧z.2≤c.aE.length)∧z.1=cg z.2.toNat fun g=>gk c.aC g i) (fun z=>(c.aE.length - z.2).toNat) ⟨⟨by show (0:Int)≤0; omega,by show (0:Int)≤_; omega⟩,rfl⟩ ?_
  rintro ⟨row,j⟩ ⟨⟨j0,j1⟩,bd⟩
  dsimp only at j0 j1 bd
  show Ok (nI c i row j) _
  unfold nI
  have Jm:row.length=j.toNat:=by rw [bd,cE]
  refine od (fun hj=>?_) fun hj=>os ⟨rfl,?_⟩
  ·have hw:=w1 j0 hj (by omega)
   refine oe (T.t.ni j0 hj) (oe (T.t.mi j0 hj i0 hi) (dt (by omega) (by omega) (os ⟨⟨⟨?_,?_⟩,?_⟩,?_⟩)))
   ·dsimp only; rw [hw]; omega
   ·dsimp only; rw [hw]; omega
   ·dsimp only; rw [hw,show (j+1).toNat=j.toNat+1 by omega,j6,bd,show ((j.toNat:Nat):Int)=j by omega]
   ·dsimp only; rw [hw]; omega
  ·have hw:=w1 i0 hi (by omega)
   obtain rfl:j=c.aE.length:=by omega
   refine dt (by omega) (by omega) (os ⟨⟨⟨?_,?_⟩,?_⟩,?_⟩)
   ·dsimp only; rw [hw]; omega
   ·dsimp only; rw [hw]; omega
   ·dsimp only; rw [hw,show (i+1).toNat=i.toNat+1 by omega,j6,hk,show ((i.toNat:Nat):Int)=i by omega,bd,Int.toNat_natCast]
   ·dsimp only; rw [hw]; omega
 ·obtain rfl:i=c.aE.length:=by omega
  rw [hk,Int.toNat_natCast]; rfl
theorem Fj {c:aF} (T:T7 c):T7 (Hh c):=by
 obtain ⟨y,e,h1,h2⟩:=aaF (aaE T) T.t (by omega) (by omega)
 rw [HW T] at e
 obtain rfl:=Option.some.inj e
 have m:=T.m
 have tl:=T.t.tl
 exact ⟨h2,by show c.To.length≤63; omega,T.o,h1.small (by omega) (by omega)⟩
theorem CT {f:aP} (T:T7 f.aB) (U:T7 f.aG) (ho:f.aA.length≤1048576) (ha:f.ab.length≤1048576):mY f=some (opF f):=by
 unfold mY
 rw [HW T,aD,HW U,aD,nk (Fj T).s (Fj U).s ho ha]; rfl
theorem VI {c d:aF} {f:aP} (T:T7 c) (U:T7 d) (F:FF c d f):FF (Hh c) (Hh d) (opF f):=by
 obtain ⟨s,t,ol_,oo,⟨len,ok⟩,pos⟩:=F
 have tl:=T.t.tl
 refine ⟨by show Hh f.aB=_; rw [s],by show Hh f.aG=_; rw [t],ol_,oo,⟨len.trans tl.symm,fun a a0 a1 h=>?_⟩,fun a a0 a1=>pos a a0 (by replace a1:a < c.To.length:=a1; omega)⟩
 replace a1:a < c.To.length:=a1
 have k:=ok a a0 (by omega) h
 have k1:=k.1
 show gi f.ab a < d.To.length∧_
 exact ⟨by rw [U.t.tl]; exact k1,k.2.2,k.2.1⟩
structure O9 (l r:aP) (u k:List Int):Prop where
 u:u.length≤l.aA.length
 o:∀ x∈l.aA,0≤x∧x < r.aA.length∧x < k.length
 a:∀ x∈l.ab,0≤x∧x < r.ab.length
 k:∀ x∈k,0≤x∧x < r.ab.length
structure A7 (a:cV):Prop where
 ls:T7 a.Left.aB
 lt:T7 a.Left.aG
 rs:T7 a.bw.aB
 rt:T7 a.bw.aG
 lo:a.Left.aA.length≤1000
 la:a.Left.ab.length≤1000
 ro:a.bw.aA.length≤1000
 ra:a.bw.ab.length≤1000
 u:a.Unit.length≤1000
 k:a.pr.length≤1000
 p:O9 a.Left a.bw a.Unit a.pr
 q:O9 a.bw a.Left a.pr a.Unit
theorem A7.small {a:cV} (h:A7 a):B4 a:=⟨⟨h.ls.s,h.lt.s,by have:=h.lo; omega,by have:=h.la; omega⟩,⟨h.rs.s,h.rt.s,by have:=h.ro; omega,by have:=h.ra; omega⟩,by have:=h.u; omega,by have:=h.k; omega⟩
theorem Uo {a:cV} (h:A7 a):Ok (lV a) A7:=by
 have h1:=h.lo
 have h2:=h.la
 have h3:=h.ro
 have h4:=h.ra
 have h5:=h.u
 have h6:=h.k
 unfold lV
 refine ie (oe (CT h.rs h.rt (by omega) (by omega)) (oe (CT h.ls h.lt (by omega) (by omega)) (oe (fv _ (by omega)) (oe (fv _ (by omega)) (os ?_)))))
 exact ⟨Fj h.rs,Fj h.rt,Fj h.ls,Fj h.lt,h3,h4,h1,h2,h6,h5,⟨h.q.u,h.q.o,h.q.a,h.q.k⟩,⟨h.p.u,h.p.o,h.p.a,h.p.k⟩⟩
section
variable {c d:aF} {f:aP} (T:T7 c) (U:T7 d) (F:FF c d f)
include T U F
theorem VJ {x:Int} (x0:0≤x) (x1:x < c.aA):idx f.aA x=some (gi f.aA x)∧0≤gi f.aA x∧gi f.aA x < d.aA:=⟨bQ x0 (by rw [F.ol]; exact x1),F.oo _ (dc x0 (by rw [F.ol]; exact x1))⟩
theorem Rc {a:Int} (a0:0≤a) (a1:a < c.aE.length):idx f.ab a=some (gi f.ab a)∧fh d (gi f.aA (gi c.aE a)) (gi f.aA (gi c.To a)) (gi f.ab a):=by
 have p:=F.ar.2 a a0 a1
 have k:=F.ar.1.ok a a0 a1 p
 exact ⟨bQ a0 (by rw [F.ar.1.len]; exact a1),⟨p,k.1⟩,k.2⟩
theorem NB (x z e due:Int) (e0:0≤e) (e1:e < d.aE.length):Ok (fR f x z e due) fun l=>l.length≤63∧∀ u∈l,0≤u∧u < c.aE.length:=by
 have cm:=T.m
 unfold fR
 rw [F.s]
 refine ie (ob (CR T.t.tl (by omega) _ _) fun hm hh=>?_)
 have hl:=hh.1
 refine ol (fun z:List Int×Int=>(0≤z.2∧z.2≤hm.length)∧(z.1.length:Int)≤z.2∧∀ u∈z.1,0≤u∧u < c.aE.length) (fun z=>(hm.length - z.2).toNat) ⟨⟨by show (0:Int)≤0; omega,by show (0:Int)≤_; omega⟩,by show (0:Int)≤0; omega,ei⟩ ?_
 rintro ⟨l,i⟩ ⟨⟨i0,i1⟩,Nz,hv⟩
 dsimp only at i0 i1 Nz hv
 show Ok (qL f e due hm l i) _
 unfold qL
 rw [F.t]
 refine od (fun hi=>?_) fun hi=>os ⟨rfl,os ⟨by omega,hv⟩⟩
 have ku:=((hh.2 _).1 (dc i0 hi)).1
 have ka:=Rc T U F ku.1 ku.2
 have hw:=w1 i0 hi (by omega)
 refine oe (bQ i0 hi) (oe ka.1 (oe (Aw U.t ka.2.1.1 ka.2.1.2 e0 e1) (oc (fun _=>oe (bQ i0 hi) (dt (by omega) (by omega) (os ⟨⟨⟨?_,?_⟩,?_,ew hv ku⟩,?_⟩))) fun _=>os ⟨⟨⟨?_,?_⟩,?_,hv⟩,?_⟩)))
 all_goals (try dsimp only)
 all_goals rw [hw]
 all_goals (try simp only [List.length_append,List.length_singleton])
 all_goals omega
theorem VK {x z e due:Int} {l:List Int} (h:fR f x z e due=some l) (e0:0≤e) (e1:e < d.aE.length) {u:Int} (hu:u∈l):0≤u∧u < c.aE.length:=by
 obtain ⟨l',h',k⟩:=NB T U F x z e due e0 e1
 rw [h] at h'
 obtain rfl:=Option.some.inj h'
 exact k.2 u hu
def UP (f:aP) (y x e:Int):Prop:=(0≤x∧x < f.aB.aA)∧fh f.aG (gi f.aA x) y e∧∀ z h:Int,0≤z→z < f.aB.aA→fh f.aG (gi f.aA z) y h→∃ l,fR f z x e h=some l∧l.length=1
theorem Ms (y x e:Int) (e0:0≤e) (e1:e < d.aE.length):Ok (mJ f y x e) fun b=>b=true→∀ z h:Int,0≤z→z < c.aA→fh d (gi f.aA z) y h→∃ l,fR f z x e h=some l∧l.length=1:=by
 have cm:=T.m
 have dm:=U.m
 have co:=T.o
 have c0:=T.t.o0
 unfold mJ
 refine ie (ol (fun i:Int=>(0≤i∧i≤c.aA)∧∀ z h:Int,0≤z→z < i→fh d (gi f.aA z) y h→∃ l,fR f z x e h=some l∧l.length=1) (fun i=>(c.aA - i).toNat) ⟨⟨by omega,by omega⟩,fun z h z0 z1=>by omega⟩ ?_)
 rintro i ⟨⟨i0,i1⟩,hJ⟩
 unfold rM
 rw [F.s,F.t]
 refine od (fun hi=>?_) fun hi=>os ⟨rfl,os fun _ z h z0 z1=>hJ z h z0 (by omega)⟩
 have ko:=VJ T U F i0 hi
 refine oe ko.1 (ob (CR U.t.tl (by omega) _ _) fun hm hh=>?_)
 have hl:=hh.1
 refine ol (fun q:Int=>(0≤q∧q≤hm.length)∧∀ p:Int,0≤p→p < q→∃ l,fR f i x e (gi hm p)=some l∧l.length=1) (fun q=>(hm.length - q).toNat) ⟨⟨by omega,by omega⟩,fun p p0 p1=>by omega⟩ ?_
 rintro q ⟨⟨q0,q1⟩,hQ⟩
 unfold rL
 refine od (fun hq=>?_) fun hq=>os ⟨rfl,os ⟨⟨⟨?_,?_⟩,fun z h z0 z1 hz=>?_⟩,?_⟩⟩
 ·refine oe (bQ q0 hq) ?_
  obtain ⟨l,el,_⟩:=NB T U F i x e (gi hm q) e0 e1
  refine oe el (oc (fun _=>os fun h=>(by cases h)) fun hb=>os ⟨⟨⟨?_,?_⟩,fun p p0 p1=>?_⟩,?_⟩)
  ·rw [w1 q0 hq (by omega)]; omega
  ·rw [w1 q0 hq (by omega)]; omega
  ·rw [w1 q0 hq (by omega)] at p1
   by_cases ep:p=q
   ·refine ⟨l,by rw [ep]; exact el,?_⟩
    have:(l.length:Int)=1:=by simpa using hb
    omega
   ·exact hQ p p0 (by omega)
  ·dsimp only; rw [w1 q0 hq (by omega)]; omega
 ·rw [w1 i0 hi (by omega)]; omega
 ·rw [w1 i0 hi (by omega)]; omega
 ·rw [w1 i0 hi (by omega)] at z1
  by_cases ez:z=i
  ·subst ez
   obtain ⟨p,p0,p1,ep⟩:=my ((hh.2 h).2 hz)
   rw [← ep]
   exact hQ p p0 (by omega)
  ·exact hJ z h z0 (by omega) hz
 ·dsimp only; rw [w1 i0 hi (by omega)]; omega
theorem aaH (y:Int):Ok (rN f y) fun r=>r.2.2=true→UP f y r.1 r.2.1:=by
 have cm:=T.m
 have dm:=U.m
 have co:=T.o
 have c0:=T.t.o0
 unfold rN
 refine ie (ol (fun i:Int=>0≤i∧i≤c.aA) (fun i=>(c.aA - i).toNat) ⟨by omega,by omega⟩ ?_)
 rintro i ⟨i0,i1⟩
 unfold uA
 rw [F.s,F.t]
 refine od (fun hi=>?_) fun hi=>os ⟨rfl,os fun h=>(by cases h)⟩
 have ko:=VJ T U F i0 hi
 refine oe ko.1 (ob (CR U.t.tl (by omega) _ _) fun hm hh=>?_)
 have hl:=hh.1
 refine ol (fun q:Int=>0≤q∧q≤hm.length) (fun q=>(hm.length - q).toNat) ⟨by omega,by omega⟩ ?_
 rintro q ⟨q0,q1⟩
 unfold tZ
 refine od (fun hq=>?_) fun hq=>os ⟨rfl,os ⟨⟨?_,?_⟩,?_⟩⟩
 ·have ke:=(hh.2 _).1 (dc q0 hq)
  refine oe (bQ q0 hq) (ob (Ms T U F y i (gi hm q) ke.1.1 ke.1.2) fun b hb=>oc (fun eb=>oe (bQ q0 hq) (os fun _=>⟨⟨i0,by rw [F.s]; exact hi⟩,by rw [F.t]; exact ke,?_⟩)) fun _=>os ⟨⟨?_,?_⟩,?_⟩)
  ·rw [F.s,F.t]
   exact hb eb
  ·rw [w1 q0 hq (by omega)]; omega
  ·rw [w1 q0 hq (by omega)]; omega
  ·dsimp only; rw [w1 q0 hq (by omega)]; omega
 ·rw [w1 i0 hi (by omega)]; omega
 ·rw [w1 i0 hi (by omega)]; omega
 ·dsimp only; rw [w1 i0 hi (by omega)]; omega
theorem ET:Ok (kF f) fun r=>r.2=true→A7 r.1:=by
 have cm:=T.m
 have dm:=U.m
 have co:=T.o
 have c0:=T.t.o0
 have d0:=U.t.o0
 have d8:=U.o
 have fs:=F.small T U
 have Km:=F.ol
 have zQ:=F.ar.1.len
 obtain ⟨eS,eT,_⟩:=id F
 unfold kF
 refine ie (ol (fun z:List Int×List Int×Int=>(0≤z.2.2∧z.2.2≤d.aA)∧((z.1.length:Int)=z.2.2∧(z.2.1.length:Int)=z.2.2)∧∀ y:Int,0≤y→y < z.2.2→UP f y (gi z.1 y) (gi z.2.1 y)) (fun z=>(d.aA - z.2.2).toNat) ⟨⟨by show (0:Int)≤0; omega,by show (0:Int)≤_; omega⟩,⟨rfl,rfl⟩,fun y y0 y1=>by dsimp only at y1; omega⟩ ?_)
 rintro ⟨xs,es,y⟩ ⟨⟨y0,y1⟩,⟨hx,he⟩,hU⟩
 dsimp only at y0 y1 hx he hU
 show Ok (qM f xs es y) _
 unfold qM
 rw [eT]
 refine od (fun hy=>ob (aaH T U F y) fun r hr=>oc (fun _=>os fun h=>(by cases h)) fun hb=>dt (by omega) (by omega) (dt (by omega) (by omega) (os ⟨⟨⟨?_,?_⟩,⟨?_,?_⟩,fun p p0 p1=>?_⟩,?_⟩))) fun hy=>os ⟨rfl,?_⟩
 ·dsimp only; rw [w1 y0 hy (by omega)]; omega
 ·dsimp only; rw [w1 y0 hy (by omega)]; omega
 ·dsimp only; rw [w1 y0 hy (by omega),List.length_append,List.length_singleton]; omega
 ·dsimp only; rw [w1 y0 hy (by omega),List.length_append,List.length_singleton]; omega
 ·dsimp only at p1 ⊢
  rw [w1 y0 hy (by omega)] at p1
  rw [lr p0,lr p0]
  by_cases e:p < xs.length
  ·rw [if_pos e,if_pos (by omega)]; exact hU p p0 (by omega)
  ·rw [if_neg e,if_pos (by omega),if_neg (by omega),if_pos (by omega),show p=y by omega]
   exact hr (by simpa using hb)
 ·dsimp only; rw [w1 y0 hy (by omega)]; omega
 have hyd:y=d.aA:=by omega
 subst hyd
 refine ol (fun z:List Int×Int=>(0≤z.2∧z.2≤d.aE.length)∧(z.1.length:Int)=z.2∧∀ u∈z.1,0≤u∧u < c.aE.length) (fun z=>(d.aE.length - z.2).toNat) ⟨⟨by show (0:Int)≤0; omega,by show (0:Int)≤_; omega⟩,rfl,ei⟩ ?_
 rintro ⟨IX,g⟩ ⟨⟨g0,g1⟩,hg,har⟩
 dsimp only at g0 g1 hg har
 show Ok (qN f xs es IX g) _
 unfold qN
 rw [eT]
 refine od (fun yM=>?_) fun yM=>os ⟨rfl,?_⟩
 ·have kf:=U.t.fr g0 yM
  have kt:=U.t.to g0 yM
  obtain ⟨a1,a2,a3⟩:=hU _ kf.1 kf.2
  obtain ⟨b1,b2,b3⟩:=hU _ kt.1 kt.2
  rw [eS] at a1 b1
  rw [eT] at a2 b2
  have kc:=U.t.cell _ g a2.1.1 a2.1.2 g0 yM (by rw [a2.2.2])
  obtain ⟨l,el,hl1⟩:=b3 (gi xs (gi d.aE g)) (gk d.aC (gi es (gi d.aE g)) g) a1.1 (by rw [eS]; exact a1.2) (by rw [eT]; exact ⟨kc.1,kc.2.1.trans a2.2.1,kc.2.2⟩)
  have rg:=VK T U F el b2.1.1 b2.1.2 (dc (l:=l) (j:=0) (by omega) (by omega))
  refine oe (U.t.jc g0 yM) (oe (U.t.jm g0 yM) (oe (bQ kf.1 (by omega)) (oe (bQ kt.1 (by omega)) (oe (bQ kt.1 (by omega)) (oe (bQ kf.1 (by omega)) (oe (Aw U.t a2.1.1 a2.1.2 g0 yM) (oe el (oe (bQ (by omega) (by omega)) (dt (by omega) (by omega) (os ⟨⟨⟨?_,?_⟩,?_,ew har rg⟩,?_⟩))))))))))
  ·dsimp only; rw [w1 g0 yM (by omega)]; omega
  ·dsimp only; rw [w1 g0 yM (by omega)]; omega
  ·dsimp only; rw [w1 g0 yM (by omega),List.length_append,List.length_singleton]; omega
  ·dsimp only; rw [w1 g0 yM (by omega)]; omega
 refine ol (fun z:List Int×Int=>(0≤z.2∧z.2≤c.aA)∧(z.1.length:Int)=z.2∧∀ u∈z.1,0≤u∧u < c.aE.length) (fun z=>(c.aA - z.2).toNat) ⟨⟨by show (0:Int)≤0; omega,by show (0:Int)≤_; omega⟩,rfl,ei⟩ ?_
 rintro ⟨us,x⟩ ⟨⟨x0,x1⟩,hu,hur⟩
 dsimp only at x0 x1 hu hur
 show Ok (qO f xs es us x) _
 unfold qO
 rw [eS,eT]
 refine od (fun qm=>?_) fun qm=>os ⟨rfl,?_⟩
 ·have ko:=VJ T U F x0 qm
  obtain ⟨a1,a2,a3⟩:=hU _ ko.2.1 ko.2.2
  have ki:=U.t.id ko.2.1 ko.2.2
  obtain ⟨l,el,hl1⟩:=a3 x (gi d.aH (gi f.aA x)) x0 (by rw [eS]; exact qm) (by rw [eT]; exact ⟨ki,U.t.yu _ ko.2.1 ko.2.2,U.t.yS _ ko.2.1 ko.2.2⟩)
  have rg:=VK T U F el a2.1.1 (by rw [← eT]; exact a2.1.2) (dc (l:=l) (j:=0) (by omega) (by omega))
  refine oe ko.1 (oe (bQ ko.2.1 (by omega)) (oe (bQ ko.2.1 (by omega)) (oe (U.t.ou ko.2.1 ko.2.2) (oe el (oe (bQ (by omega) (by omega)) (dt (by omega) (by omega) (os ⟨⟨⟨?_,?_⟩,?_,ew hur rg⟩,?_⟩)))))))
  ·dsimp only; rw [w1 x0 qm (by omega)]; omega
  ·dsimp only; rw [w1 x0 qm (by omega)]; omega
  ·dsimp only; rw [w1 x0 qm (by omega),List.length_append,List.length_singleton]; omega
  ·dsimp only; rw [w1 x0 qm (by omega)]; omega
 have own:mE f=some f:=by
  unfold mE
  rw [nk fs.s fs.t fs.o fs.a,aD]; rfl
 refine oe own (oe (nk U.s T.s (by omega) (by omega)) (os fun _=>?_))
 refine ⟨by show T7 f.aB; rw [eS]; exact T,by show T7 f.aG; rw [eT]; exact U,U,T,by show f.aA.length≤1000; omega,by show f.ab.length≤1000; omega,by show xs.length≤1000; omega,by show IX.length≤1000; omega,by show us.length≤1000; omega,by show es.length≤1000; omega,⟨by show us.length≤f.aA.length; omega,fun x hx=>?_,fun x hx=>?_,fun x hx=>?_⟩,⟨by show es.length≤xs.length; omega,fun x hx=>?_,fun x hx=>?_,fun x hx=>?_⟩⟩
 ·have:=F.oo x hx
  exact ⟨this.1,by show x < xs.length; omega,by show x < es.length; omega⟩
 ·obtain ⟨j,j0,j1,rfl⟩:=my (l:=f.ab) hx
  have:=(Rc T U F j0 (by omega)).2.1
  exact ⟨this.1,by show _ < (IX.length:Int); omega⟩
 ·obtain ⟨j,j0,j1,rfl⟩:=my (l:=es) hx
  have:=(hU j j0 (by omega)).2.1.1
  rw [eT] at this
  exact ⟨this.1,by show _ < (IX.length:Int); omega⟩
 ·obtain ⟨j,j0,j1,rfl⟩:=my (l:=xs) hx
  have:=(hU j j0 (by omega)).1
  rw [eS] at this
  exact ⟨this.1,by show _ < (f.aA.length:Int); omega,by show _ < (us.length:Int); omega⟩
 ·have:=har x hx
  exact ⟨this.1,by show _ < (f.ab.length:Int); omega⟩
 ·have:=hur x hx
  exact ⟨this.1,by show _ < (f.ab.length:Int); omega⟩
end
section
variable {x:List Int} (B:yT x)
include B
omit B in
theorem VL {c:aF} {f g:aP} (T:T7 c) (F:FF c c f) (G:FF c c g):O9 f g c.aH c.aH:=by
 have h1:=F.ol
 have h2:=F.ar.1.len
 have h3:=G.ol
 have h4:=G.ar.1.len
 have il:=T.t.il
 refine ⟨by omega,fun x hx=>?_,fun x hx=>?_,fun x hx=>?_⟩
 ·have:=F.oo x hx
  omega
 ·obtain ⟨j,j0,j1,rfl⟩:=my hx
  have:=(Rc T T F j0 (by omega)).2.1
  omega
 ·obtain ⟨j,j0,j1,rfl⟩:=my hx
  have:=T.t.id j0 (by omega)
  omega
theorem aaL {s:aJ} (S:Src x s):Ok (mR s) fun y=>A7 y.1∧Src x y.2:=by
 have hlen:=B.len
 unfold mR
 refine ie (ol (fun z:Int×Int×Int=>(0≤z.1∧z.1≤10)∧(0≤z.2.1∧z.2.1≤x.length)) (fun z=>(10 - z.1).toNat) ⟨⟨by show (0:Int)≤0; omega,by show (0:Int)≤10; omega⟩,S.a0,S.a1⟩ ?_)
 rintro ⟨i,a,h⟩ ⟨⟨i0,i1⟩,a0,a1⟩
 dsimp only at i0 i1 a0 a1
 show Ok (rO s i a h) _
 unfold rO
 have S1:Src x (aJ.mk s.Code a h):=S.at_ a0 a1
 refine od (fun hi=>?_) fun hi=>os ⟨rfl,?_⟩
 ·have nxt:∀ {t:aJ} {E:Int×Int×Int→Prop} {G:cV×aJ→Prop},Src x t→Ok (some (Out.norm (aj (i+1),t.At,t.an):Out (Int×Int×Int) (cV×aJ))) (IW 0 (fun z:Int×Int×Int=>(0≤z.1∧z.1≤10)∧(0≤z.2.1∧z.2.1≤x.length)) (fun z=>(10 - z.1).toNat) (10 - i).toNat E G):=by
   intro t E G St
   refine os ⟨⟨⟨?_,?_⟩,St.a0,St.a1⟩,?_⟩
   ·dsimp only; rw [w1 i0 hi (by omega)]; omega
   ·dsimp only; rw [w1 i0 hi (by omega)]; omega
   ·dsimp only; rw [w1 i0 hi (by omega)]; omega
  refine ob (B5 B S1 4 10) fun y hy=>?_
  have T:T7 y.1:=zo hy.1 (by omega) (by omega)
  refine ob (VM B (S.on hy.2) T (by omega) (by omega)) fun w hw=>?_
  obtain ⟨⟨d,U,F,_⟩,S2⟩:=hw
  refine ob (dk B (S.on S2) _) fun z hz=>oc (fun _=>?_) fun _=>?_
  ·refine ob (B5 B (S.on hz.2) 3 6) fun y2 DO=>?_
   have T2:T7 y2.1:=zo DO.1 (by omega) (by omega)
   refine ob (acD B (S.on DO.2) T2) fun v hv=>?_
   obtain ⟨⟨ca,da,Ta,Ua,Fa⟩,S3⟩:=hv
   have So:Src x (aJ.mk s.Code v.2.2.At v.2.2.an):=S.on S3
   refine ob (ET Ta Ua Fa) fun r hr=>oc (fun eb=>os ⟨hr eb,So⟩) fun _=>?_
   have Re:=Fa.small Ta Ua
   refine oe (CT (by rw [Fa.s]; exact Ta) (by rw [Fa.t]; exact Ua) Re.o Re.a) (ob (ET (Fj Ta) (Fj Ua) (VI Ta Ua Fa)) fun r2 Nn=>oc (fun eb=>ob (Uo (Nn eb)) fun o ho=>os ⟨ho,So⟩) fun _=>nxt S3)
  ·have So:Src x (aJ.mk s.Code z.2.At z.2.an):=S.on hz.2
   refine ob (ET T U F) fun r hr=>oc (fun eb=>os ⟨hr eb,So⟩) fun _=>?_
   have Re:=F.small T U
   refine oe (CT (by rw [F.s]; exact T) (by rw [F.t]; exact U) Re.o Re.a) (ob (ET (Fj T) (Fj U) (VI T U F)) fun r2 Nn=>oc (fun eb=>ob (Uo (Nn eb)) fun o ho=>os ⟨ho,So⟩) fun _=>nxt hz.2)
 ·refine ob (B5 B S1 4 10) fun y hy=>?_
  have T:T7 y.1:=zo hy.1 (by omega) (by omega)
  have tm:=T.m
  have to_:=T.o
  have VN:=T.t.il
  have So:Src x (aJ.mk s.Code y.2.At y.2.an):=S.on hy.2
  refine ob (yw T) fun f hf=>ob (yw T) fun g hg=>os ⟨?_,So⟩
  have F:=hf.1
  have G:=hg.1
  have h1:=F.ol
  have h2:=F.ar.1.len
  have h3:=G.ol
  have h4:=G.ar.1.len
  exact ⟨by show T7 f.aB; rw [F.s]; exact T,by show T7 f.aG; rw [F.t]; exact T,by show T7 g.aB; rw [G.s]; exact T,by show T7 g.aG; rw [G.t]; exact T,by show f.aA.length≤1000; omega,by show f.ab.length≤1000; omega,by show g.aA.length≤1000; omega,by show g.ab.length≤1000; omega,by show y.1.aH.length≤1000; omega,by show y.1.aH.length≤1000; omega,VL T F G,VL T G F⟩
end
end Go.Proofs.YtilhlobfebngdaaGreat
namespace Go.Proofs.YtilhlobfebngdaaGreat
open Go Go.Li
set_option linter.unusedVariables false
set_option linter.unusedSectionVars false
set_option linter.unusedSimpArgs false
theorem Lu (c:aF) (f:Int):nM c f=some (decide (0≤f) && decide (f < c.aE.length)):=by
 unfold nM
 by_cases h:f ≥ 0
 ·rw [au h,cond_true,aD]; rfl
 ·rw [ay h,cond_false,aD]; rfl
theorem CM (c:aF) (f:Int):jO c f=some (decide (0≤f) && decide (f < c.aA)):=by
 unfold jO
 by_cases h:f ≥ 0
 ·rw [au h,cond_true,aD]; rfl
 ·rw [ay h,cond_false,aD]; rfl
section
variable {a:cV} (hs:B4 a) (A:Adj a)
include hs A
end
def rn (c:aF) (x y:Int):List Int:=(ns c.aE.length).filter (G9 c x y)
theorem HS {c:aF} {x y h:Int}:h∈rn c x y↔fh c x y h:=by
 unfold rn G9 fh
 rw [List.mem_filter,fg,Bool.and_eq_true,beq_iff_eq,beq_iff_eq]
end Go.Proofs.YtilhlobfebngdaaGreat
namespace Go.Proofs.YtilhlobfebngdaaGreat
open Go Go.Li
set_option linter.unusedVariables false
set_option linter.unusedSimpArgs false
set_option linter.unusedSectionVars false
theorem Lw (l:List (List Int)) (hl:l.length≤1048576) (hr:∀ r∈l,r.length≤1048576):jP l l=some true:=by
 unfold jP
 rw [mq rfl,cond_false,xd (n:=l.length) (fun _=>false) (y:=false) (fun i bn=>?_) (by unfold pP; rw [ay (by omega),cond_false])]
 ·rw [show (ns l.length).any (fun _=>false)=false from ig.2 fun _ _ _=>rfl]; rfl
 ·unfold pP
  have hm:=hr _ (fy (l:=l) (j:=(i:Int)) (by omega) (by omega))
  rw [au (by omega),cond_true,fx (by omega) (by omega),aD,aD,G8 _ _ (by omega),aD,n5 rfl,bR (by omega)]; rfl
theorem QY {c:aF} (h:gh c):gM c c=some true:=by
 have h1:=h.f
 have h2:=h.t
 have h3:=h.i
 unfold gM
 rw [n5 rfl,cond_true,G8 _ _ (by omega),aD,n5 rfl,cond_true,G8 _ _ (by omega),aD,n5 rfl,cond_true,G8 _ _ (by omega),aD,n5 rfl,cond_true,Lw _ h.k h.r]; rfl
section
variable {a b:cV} (ha:B4 a) (hb:B4 b)
include ha hb
section
variable (A:Adj a) (B:Adj b) (e:a.Left.aG=b.Left.aB)
include A B e
omit ha hb in
omit ha hb in
end
end
section
variable {x:List Int} (B:yT x)
include B
end
end Go.Proofs.YtilhlobfebngdaaGreat
namespace Go.Proofs.YtilhlobfebngdaaGreat
open Go Go.Li
set_option linter.unusedVariables false
set_option linter.unusedSectionVars false
def IP (m:bT):bU:=bU.mk (B3 m.On.aB) m.On m.Unit
def IS (m:bT):bU:=bU.mk (s9 m.On m.On) m.On m.cn
def kM (m:bT) (u v:Int):Int:=gk m.On.aB.aC u v
def oM (m:bT) (x:Int):Int:=gi m.On.aA x
def aM (m:bT) (u:Int):Int:=gi m.On.ab u
def CO (m:bT) (x:Int):Bool:=(kM m (aM m (gi m.Unit x)) (gi m.cn x) != gi m.On.aB.aH (oM m x) || kM m (gi m.Unit (oM m x)) (gi m.cn x) != gi m.On.aB.aH (oM m x)) || kM m (aM m (gi m.cn x)) (gi m.cn x) != kM m (gi m.cn (oM m x)) (gi m.cn x)
def HU (m:bT):Bool:=!((ns m.On.aB.aA.toNat).any (CO m))
def xT (m:bT):Bool:=jo m.On && (s8 m.On.aB m.On.aG && ((mr (IP m) && mr (IS m)) && HU m))
structure Mon0 (m:bT):Prop where
 fb:jo m.On=true
 e:m.On.aB=m.On.aG
 ub:mr (IP m)=true
 jb:mr (IS m)=true
structure Mon (m:bT):Prop extends Mon0 m where
 l1:∀ x:Int,0≤x→x < m.On.aB.aA→kM m (aM m (gi m.Unit x)) (gi m.cn x)=gi m.On.aB.aH (oM m x)
 l2:∀ x:Int,0≤x→x < m.On.aB.aA→kM m (gi m.Unit (oM m x)) (gi m.cn x)=gi m.On.aB.aH (oM m x)
 l3:∀ x:Int,0≤x→x < m.On.aB.aA→kM m (aM m (gi m.cn x)) (gi m.cn x)=kM m (gi m.cn (oM m x)) (gi m.cn x)
theorem B2 {m:bT} (h:xT m=true):Mon m:=by
 unfold xT HU at h
 simp only [Bool.and_eq_true,wa,Bool.not_eq_true',ig] at h
 obtain ⟨h1,h2,⟨h3,h4⟩,h5⟩:=h
 have o0:=(mx h1).c.o0
 have key:∀ x:Int,0≤x→x < m.On.aB.aA→CO m x=false:=fun x x0 x1=>h5 x x0 (by omega)
 refine ⟨⟨h1,h2,h3,h4⟩,fun x x0 x1=>?_,fun x x0 x1=>?_,fun x x0 x1=>?_⟩ <;>
 ·have:=key x x0 x1
  unfold CO at this
  simp only [Bool.or_eq_false_iff,bne_eq_false_iff_eq] at this
  first | exact this.1.1 | exact this.1.2 | exact this.2
namespace Mon0
variable {m:bT} (M:Mon0 m)
include M
theorem mc:l5 m.On.aB:=(mx M.fb).c
theorem VC {x:Int} (x0:0≤x) (x1:x < m.On.aB.aA):0≤oM m x∧oM m x < m.On.aB.aA:=by
 have:=(mx M.fb).ob x0 x1
 rwa [← M.e] at this
theorem Fg {x y u:Int} (h:fh m.On.aB x y u):fh m.On.aB (oM m x) (oM m y) (aM m u):=by
 have:=Xa (mx M.fb) h
 rwa [← M.e] at this
theorem muL:(m.Unit.length:Int)=m.On.aB.aA:=(Em M.ub).pl
theorem mjL:(m.cn.length:Int)=m.On.aB.aA:=(Em M.jb).pl
theorem Ee {x:Int} (x0:0≤x) (x1:x < m.On.aB.aA):fh m.On.aB x (oM m x) (gi m.Unit x):=by
 have N:=Em M.ub
 have o0:=M.mc.o0
 refine ⟨N.cp x0 x1,(N.pf x x0 x1).trans ?_,N.pt x x0 x1⟩
 exact Hf x0 (by show x < ((m.On.aB.aA.toNat:Nat):Int); omega)
theorem G5 {x:Int} (x0:0≤x) (x1:x < m.On.aB.aA):fh m.On.aB (oM m (oM m x)) (oM m x) (gi m.cn x):=by
 have N:=Em M.jb
 have h1:0≤gi m.cn x∧gi m.cn x < m.On.aG.aE.length:=N.cp x0 x1
 have h2:gi m.On.aG.aE (gi m.cn x)=gi (thenS m.On.aA m.On.aA) x:=N.pf x x0 x1
 have h3:gi m.On.aG.To (gi m.cn x)=gi m.On.aA x:=N.pt x x0 x1
 rw [← M.e] at h1 h2 h3
 refine ⟨h1,h2.trans ?_,h3⟩
 exact ta x0 (by rw [(mx M.fb).ol]; exact x1)
theorem muN {x y u:Int} (h:fh m.On.aB x y u):kM m u (gi m.Unit y)=kM m (gi m.Unit x) (aM m u):=by
 have N:gk m.On.aB.aC (gi (ns m.On.aB.aE.length) u) (gi m.Unit (gi m.On.aB.To u))=gk m.On.aB.aC (gi m.Unit (gi m.On.aB.aE u)) (gi m.On.ab u):=(Em M.ub).sq u h.1.1 h.1.2
 rw [Hf h.1.1 h.1.2,h.2.1,h.2.2] at N
 exact N
theorem mas {x y z w u v t:Int} (h:fh m.On.aB x y u) (h':fh m.On.aB y z v) (h2:fh m.On.aB z w t):kM m (kM m u v) t=kM m u (kM m v t):=Rf M.mc h h' h2
theorem Nv {x y z u v:Int} (h:fh m.On.aB x y u) (h':fh m.On.aB y z v):fh m.On.aB x z (kM m u v):=Up M.mc h h'
end Mon0
section
variable {m:bT} (M:Mon m)
include M
end
end Go.Proofs.YtilhlobfebngdaaGreat
namespace Go.Proofs.YtilhlobfebngdaaGreat
open Go Go.Li
set_option linter.unusedVariables false
set_option linter.unusedSectionVars false
set_option linter.unusedSimpArgs false
structure M7 (m:bT):Prop where
 l:kq m.On
 u:m.Unit.length≤1000
 j:m.cn.length≤1000
structure Ed (m:bT):Prop where
 l:kq m.On
 u:m.Unit.length≤1048576
 j:m.cn.length≤1048576
theorem M7.small {m:bT} (h:M7 m):Ed m:=⟨h.l,by have:=h.u; omega,by have:=h.j; omega⟩
theorem Rh {a b:List Int} {y:Int} (h:y∈thenS a b):∃ x∈a,y=gi b x:=by
 obtain ⟨j,j0,j1,rfl⟩:=my h
 rw [jf] at j1
 exact ⟨_,dc j0 j1,ta j0 j1⟩
section
variable {c:aF} (T:T7 c)
include T
theorem NC:eJ c=some (B3 c):=by
 have o0:=T.t.o0
 have o8:=T.o
 have m:=T.m
 have hs:=T.s
 have a1:∀ i:Nat,i < c.aA.toNat→eZ c (ns i) (i:Int)=some (.norm (ns i++[(i:Int)],((i+1:Nat):Int))):=fun i hi=>by
  unfold eZ
  rw [au (by omega),cond_true,cN,dL (by omega) (by omega),aD,bR (by omega)]
 have a2:eZ c (ns c.aA.toNat) (c.aA.toNat:Int)=some (.exit 0 (ns c.aA.toNat,(c.aA.toNat:Int))):=by
  unfold eZ
  rw [ay (by omega),cond_false]
 have b1:∀ i:Nat,i < c.aE.length→fA c (ns i) (i:Int)=some (.norm (ns i++[(i:Int)],((i+1:Nat):Int))):=fun i hi=>by
  unfold fA
  rw [au (by omega),cond_true,cN,dL (by omega) (by omega),aD,bR (by omega)]
 have b2:fA c (ns c.aE.length) (c.aE.length:Int)=some (.exit 2 (ns c.aE.length,(c.aE.length:Int))):=by
  unfold fA
  rw [ay (by omega),cond_false]
 unfold eJ
 rw [upto (n:=c.aA.toNat) (by omega) a1 a2]
 dsimp only
 rw [upto (n:=c.aE.length) (by omega) b1 b2]
 dsimp only
 rw [nk hs hs (by rw [cN]; omega) (by rw [cN]; omega),aD]; rfl
theorem aiJ:FF c c (B3 c):=by
 obtain ⟨y,e,h,_⟩:=yw T
 rw [NC T] at e
 obtain rfl:=Option.some.inj e
 exact h
theorem Xb {f g:aP} (F:FF c c f) (G:FF c c g):FF c c (s9 f g):=by
 obtain ⟨s,t,ol_,oo,⟨len,ok⟩,pos⟩:=F
 obtain ⟨s',t',ol',oo',⟨aui,ok'⟩,pos'⟩:=G
 refine ⟨s,t',by show ((thenS _ _).length:Int)=_; rw [jf]; exact ol_,fun y hy=>?_,⟨by show (thenS _ _).length=_; rw [jf]; exact len,fun a a0 a1 h=>?_⟩,fun a a0 a1=>?_⟩
 ·obtain ⟨x,hx,rfl⟩:=Rh hy
  have:=oo x hx
  exact oo' _ (dc this.1 (by omega))
 ·have p:=pos a a0 a1
  have k:=ok a a0 a1 p
  have p':=pos' _ p k.1
  have k':=ok' _ p k.1 p'
  have kf:=T.t.fr a0 a1
  have kt:=T.t.to a0 a1
  show gi (thenS f.ab g.ab) a < _∧gi c.aE (gi (thenS f.ab g.ab) a)=gi (thenS f.aA g.aA) (gi c.aE a)∧gi c.To (gi (thenS f.ab g.ab) a)=gi (thenS f.aA g.aA) (gi c.To a)
  rw [ta a0 (by omega),ta kf.1 (by omega),ta kt.1 (by omega)]
  refine ⟨k'.1,k'.2.1.trans ?_,k'.2.2.trans ?_⟩
  ·rw [k.2.1]
  ·rw [k.2.2]
 ·have p:=pos a a0 a1
  have k:=ok a a0 a1 p
  show 0≤gi (thenS f.ab g.ab) a
  rw [ta a0 (by omega)]
  exact pos' _ p k.1
theorem aaM {f:aP} (F:FF c c f):kE f=some (s9 f f):=by
 have fs:=F.small T T
 have hl:=F.ol
 have al:=F.ar.1.len
 unfold kE jT
 rw [wz _ _ fs.o (fun x hx=>by have:=F.oo x hx; omega),aD,wz _ _ fs.a (fun x hx=>by
  obtain ⟨j,j0,j1,rfl⟩:=my hx
  have:=(Rc T T F j0 (by omega)).2.1
  omega),aD,nk fs.s fs.t (by rw [jf]; exact fs.o) (by rw [jf]; exact fs.a),aD]; rfl
theorem VO {f:Int} (f0:0≤f) (f1:f < c.aE.length):Ok (gS c f) fun _=>True:=by
 have k:=T.t.fr f0 f1
 unfold gS
 exact ie (oe (T.t.jc f0 f1) (oe (T.t.ou k.1 k.2) (os trivial)))
section
variable {t:aP} (F:FF c c t) {u j:List Int} (U:CQ c c (B3 c) t false u) (J:CQ c c (s9 t t) t false j)
include F U J
theorem aaN:Ok (lD t u j) fun _=>True:=by
 have ul:=U.len
 have jl:=J.len
 have co:=T.o
 have kU:∀ x:Int,0≤x→x < c.aA→fh c x (gi t.aA x) (gi u x):=fun x x0 x1=>by
  rcases U.ok x x0 (by omega) with h | h
  ·refine ⟨h.1,h.2.1.trans ?_,h.2.2⟩
   exact Hf x0 (by have:=T.t.o0; omega)
  ·cases h.2
 have kJ:∀ x:Int,0≤x→x < c.aA→fh c (gi t.aA (gi t.aA x)) (gi t.aA x) (gi j x):=fun x x0 x1=>by
  rcases J.ok x x0 (by omega) with h | h
  ·refine ⟨h.1,h.2.1.trans ?_,h.2.2⟩
   exact ta x0 (by have:=F.ol; omega)
  ·cases h.2
 have kT:∀ x y a:Int,fh c x y a→idx t.ab a=some (gi t.ab a)∧fh c (gi t.aA x) (gi t.aA y) (gi t.ab a):=fun x y a h=>by
  have k:=Rc T T F h.1.1 h.1.2
  rw [h.2.1,h.2.2] at k
  exact k
 have kC:∀ x y z a b:Int,fh c x y a→fh c y z b→0≤gk c.aC a b∧gk c.aC a b < c.aE.length:=fun x y z a b h h'=>(T.t.cell a b h.1.1 h.1.2 h'.1.1 h'.1.2 (by rw [h.2.2,h'.2.1])).1
 unfold lD
 refine ie (ol (fun i:Int=>0≤i∧i≤c.aA) (fun i=>(c.aA - i).toNat) ⟨by omega,T.t.o0⟩ ?_)
 rintro i ⟨i0,i1⟩
 unfold nU
 rw [F.s]
 refine od (fun hi=>?_) fun hi=>os ⟨rfl,os trivial⟩
 have ko:=VJ T T F i0 hi
 have hu:=kU i i0 hi
 have hj:=kJ i i0 hi
 have IK:=kU _ ko.2.1 ko.2.2
 have lz:=kJ _ ko.2.1 ko.2.2
 have tu:=kT _ _ _ hu
 have tj:=kT _ _ _ hj
 have iu:=bQ (l:=u) i0 (by omega)
 have ij:=bQ (l:=j) i0 (by omega)
 have iu2:=bQ (l:=u) ko.2.1 (by omega)
 have ij2:=bQ (l:=j) ko.2.1 (by omega)
 have c1:=kC _ _ _ _ _ tu.2 hj
 have c2:=kC _ _ _ _ _ IK hj
 refine oe ko.1 (og ?_ fun b=>oc (fun _=>os trivial) fun _=>?_)
 ·refine oe iu (oe tu.1 (oe ij (oe (Aw T.t tu.2.1.1 tu.2.1.2 hj.1.1 hj.1.2) (ob (VO T c1.1 c1.2) fun b _=>oc (fun _=>os trivial) fun _=>oe iu2 (oe ij (oe (Aw T.t IK.1.1 IK.1.2 hj.1.1 hj.1.2) (ob (VO T c2.1 c2.2) fun b _=>os trivial)))))))
 ·refine oe ij (oe tj.1 (oe ij (oe (Aw T.t tj.2.1.1 tj.2.1.2 hj.1.1 hj.1.2) (oe ij2 (oe ij (oe (Aw T.t lz.1.1 lz.1.2 hj.1.1 hj.1.2) (oc (fun _=>os trivial) fun _=>os ⟨⟨?_,?_⟩,?_⟩)))))))
  all_goals (try dsimp only)
  all_goals rw [w1 i0 hi (by omega)]
  all_goals omega
end
theorem ND {f g:aP} (F:FF c c f) (G:FF c c g):Ok (nK f g) fun y=>y.length≤201∧∀ q∈y,CQ c c f g false q:=by
 unfold nK
 exact ie (ob (Xc T T F G (m:=201) (by omega) (by omega)) fun y hy=>os ⟨by have:=hy.1; omega,hy.2⟩)
theorem acE:Ok (sY c) fun y=>∀ m∈y.1,M7 m:=by
 have co:=T.o
 have cm:=T.m
 unfold sY
 refine ie (ob (Pa T T) fun l hl=>od (fun _=>os ei) fun Nz=>?_)
 refine ol (fun z:List bT×Int=>(0≤z.2∧z.2≤l.length)∧(z.1.length:Int)≤z.2 * 40401∧∀ m∈z.1,M7 m) (fun z=>(l.length - z.2).toNat) ⟨⟨by show (0:Int)≤0; omega,by show (0:Int)≤_; omega⟩,by show ((0:Nat):Int)≤0 * 40401; omega,ei⟩ ?_
 rintro ⟨out,i⟩ ⟨⟨i0,i1⟩,ho,hm⟩
 dsimp only at i0 i1 ho hm
 show Ok (sK c l out i) _
 unfold sK
 refine od (fun hi=>oi i0 hi fun t ht=>?_) fun hi=>os ⟨rfl,od (fun _=>os ei) fun _=>os hm⟩
 have F:=hl.2.1 t ht
 have fs:=F.small T T
 have own:mE t=some t:=by
  unfold mE
  rw [nk fs.s fs.t fs.o fs.a,aD]; rfl
 refine oe (NC T) (ob (ND T (aiJ T) F) fun us hus=>oe (aaM T F) (ob (ND T (Xb T F F) F) fun js hjs=>og (od (fun _=>os trivial) fun _=>os trivial) fun b=>oc (fun _=>os ei) fun _=>?_))
 have h1:=hus.1
 have h2:=hjs.1
 have h3:=hl.1
 refine ol (fun z:List bT×Int=>(0≤z.2∧z.2≤us.length)∧(z.1.length:Int)≤i * 40401+z.2 * 201∧∀ m∈z.1,M7 m) (fun z=>(us.length - z.2).toNat) ⟨⟨by show (0:Int)≤0; omega,by show (0:Int)≤_; omega⟩,by dsimp only; omega,hm⟩ ?_
 rintro ⟨o1,a⟩ ⟨⟨a0,a1⟩,KE,Kn⟩
 dsimp only at a0 a1 KE Kn
 show Ok (sJ t us js o1 a) _
 unfold sJ
 refine od (fun ha=>?_) fun ha=>os ⟨rfl,os ⟨⟨⟨?_,?_⟩,?_,Kn⟩,?_⟩⟩
 ·refine ol (fun z:List bT×Int=>(0≤z.2∧z.2≤js.length)∧(z.1.length:Int)≤i * 40401+a * 201+z.2∧∀ m∈z.1,M7 m) (fun z=>(js.length - z.2).toNat) ⟨⟨by show (0:Int)≤0; omega,by show (0:Int)≤_; omega⟩,by dsimp only; omega,Kn⟩ ?_
  rintro ⟨o2,b⟩ ⟨⟨b0,b1⟩,Gb,LJ⟩
  dsimp only at b0 b1 Gb LJ
  show Ok (sI t us js a o2 b) _
  unfold sI
  refine od (fun hb=>?_) fun hb=>os ⟨rfl,os ⟨⟨⟨?_,?_⟩,?_,LJ⟩,?_⟩⟩
  ·have eu:=fx (l:=us) a0 ha
   have ej:=fx (l:=js) b0 hb
   have hU:=hus.2 _ (fy (l:=us) a0 ha)
   have hJ:=hjs.2 _ (fy (l:=js) b0 hb)
   have hul:=hU.len
   have Gj:=hJ.len
   refine oe eu (oe ej (ob (aaN T F hU hJ) fun y _=>oc (fun _=>oe own (oe eu (oe (fv _ (by omega)) (oe ej (oe (fv _ (by omega)) (dt (by omega) (by omega) (os ⟨⟨⟨?_,?_⟩,?_,ew LJ ⟨fs,?_,?_⟩⟩,?_⟩))))))) fun _=>os ⟨⟨⟨?_,?_⟩,?_,LJ⟩,?_⟩))
   all_goals (try dsimp only)
   all_goals (try rw [w1 b0 hb (by omega)])
   all_goals (try simp only [List.length_append,List.length_singleton])
   all_goals omega
  ·dsimp only; rw [w1 a0 ha (by omega)]; omega
  ·dsimp only; rw [w1 a0 ha (by omega)]; omega
  ·dsimp only; rw [w1 a0 ha (by omega)]; omega
  ·dsimp only; rw [w1 a0 ha (by omega)]; omega
 ·dsimp only; rw [w1 i0 hi (by omega)]; omega
 ·dsimp only; rw [w1 i0 hi (by omega)]; omega
 ·dsimp only; rw [w1 i0 hi (by omega)]; omega
 ·dsimp only; rw [w1 i0 hi (by omega)]; omega
end
theorem aaO {a:cV} (h:A7 a):Ok (kO a) M7:=by
 have h1:=h.lo
 have h2:=h.la
 have h3:=h.ro
 have h4:=h.ra
 have h5:=h.u
 have h6:=h.k
 have sm:=h.small
 have hu:=h.p.u
 unfold kO
 refine ie (ol (fun z:List Int×Int=>(0≤z.2∧z.2≤a.Unit.length)∧(z.1.length:Int)=z.2) (fun z=>(a.Unit.length - z.2).toNat) ⟨⟨by show (0:Int)≤0; omega,by show (0:Int)≤_; omega⟩,rfl⟩ ?_)
 rintro ⟨l,i⟩ ⟨⟨i0,i1⟩,hl⟩
 dsimp only at i0 i1 hl
 show Ok (tF a l i) _
 unfold tF
 refine od (fun hi=>?_) fun hi=>os ⟨rfl,?_⟩
 ·have k1:=h.p.o _ (dc (l:=a.Left.aA) i0 (by omega))
  have k2:=h.p.k _ (dc (l:=a.pr) k1.1 k1.2.2)
  refine oe (bQ i0 (by omega)) (oe (bQ k1.1 k1.2.2) (oe (bQ k2.1 k2.2) (dt (by omega) (by omega) (os ⟨⟨⟨?_,?_⟩,?_⟩,?_⟩))))
  all_goals (try dsimp only)
  all_goals rw [w1 i0 hi (by omega)]
  all_goals (try simp only [List.length_append,List.length_singleton])
  all_goals omega
 ·have th:jT a.Left a.bw=some (s9 a.Left a.bw):=by
   unfold jT
   rw [wz _ _ sm.l.o (fun x hx=>by have:=h.p.o x hx; omega),aD,wz _ _ sm.l.a (fun x hx=>h.p.a x hx),aD,nk sm.l.s sm.r.t (by rw [jf]; exact sm.l.o) (by rw [jf]; exact sm.l.a),aD]; rfl
  exact oe th (oe (fv _ (by omega)) (os ⟨⟨sm.l.s,sm.r.t,by show (thenS _ _).length≤_; rw [jf]; exact sm.l.o,by show (thenS _ _).length≤_; rw [jf]; exact sm.l.a⟩,h5,by show l.length≤1000; omega⟩))
section
variable {x:List Int} (B:yT x)
include B
theorem aaP {s:aJ} (S:Src x s):Ok (rP s) fun y=>M7 y.1∧Src x y.2:=by
 have fin:∀ {t:aJ},Src x t→Ok (mR t>>=fun wX=>((bY (aJ.mk s.Code wX.2.At wX.2.an) ((2:Int)))>>=fun Ak=>(bif (Ak.1) == ((0:Int)) then ((lV wX.1)>>=fun TP=>((kO TP)>>=fun OQ=>(some (Out.ret ((OQ,(aJ.mk s.Code Ak.2.At Ak.2.an))):Out Unit (bT×aJ))))) else ((kO wX.1)>>=fun OR=>(some (Out.ret ((OR,(aJ.mk s.Code Ak.2.At Ak.2.an)))))))) ) (Rt fun y=>M7 y.1∧Src x y.2):=by
  intro t St
  refine ob (aaL B St) fun a ha=>ob (dk B (S.on ha.2) _) fun z hz=>oc (fun _=>ob (Uo ha.1) fun b hb=>ob (aaO hb) fun m hm=>os ⟨hm,S.on hz.2⟩) fun _=>ob (aaO ha.1) fun m hm=>os ⟨hm,S.on hz.2⟩
 unfold rP
 refine ie (ob (dk B S _) fun y hy=>oc (fun _=>?_) fun _=>fin (S.on hy.2))
 refine ob (B5 B (S.on hy.2) 3 5) fun y2 DO=>?_
 have T:T7 y2.1:=zo DO.1 (by omega) (by omega)
 refine ob (acE T) fun l hl=>ob (P:=fun g=>g=true→0 < l.1.length) (oc (fun _=>os fun h=>by have:=of_decide_eq_true h; omega) fun _=>os fun h=>(by cases h)) fun g hg=>oc (fun eg=>?_) fun _=>fin (S.on DO.2)
 have h0:=hg eg
 exact ob (dk B (S.on DO.2) _) fun z hz=>oi hz.1.1 (hz.1.2 (by omega)) fun m hm=>os ⟨hl m hm,S.on hz.2⟩
theorem aai {s:aJ} (S:Src x s):Ok (oJ s) fun y=>Ed y.1∧Src x y.2:=by
 unfold oJ
 refine ie (ob (aaP B S) fun y hy=>ob (dk B (S.on hy.2) _) fun z hz=>?_)
 have h1:=hy.1.u
 have h2:=hy.1.j
 have sm:=hy.1.small
 have So:Src x (aJ.mk s.Code z.2.At z.2.an):=S.on hz.2
 refine oc (fun _=>od (fun hu=>ob (G7 B So _) fun n hn=>oe (bQ (by omega) hu) (os ⟨⟨sm.l,sm.u,?_⟩,S.on hn⟩)) fun _=>os ⟨sm,So⟩) fun _=>oc (fun _=>dt (by omega) (by omega) (os ⟨⟨sm.l,?_,sm.j⟩,So⟩)) fun _=>oc (fun _=>ob (Xd B So) fun f hf=>os ⟨⟨hf.1,sm.u,sm.j⟩,S.on hf.2⟩) fun _=>os ⟨sm,So⟩
 ·show (List.set _ _ _).length≤_
  rw [List.length_set]; exact sm.j
 ·show (_++[(0:Int)]).length≤_
  rw [List.length_append,List.length_singleton]; omega
end
end Go.Proofs.YtilhlobfebngdaaGreat
namespace Go.Proofs.YtilhlobfebngdaaGreat
open Go Go.Li
set_option linter.unusedVariables false
set_option linter.unusedSectionVars false
set_option linter.unusedSimpArgs false
def Ax (l:List Int):ByteArray:=strOfNums (l.map (fun n=>IntKind.u8.wrap n)++[255])
theorem FQ {l:List Int} (hl:l.length≤1048576):sT [l]=some (Ax l):=by
 unfold sT
 refine (congrArg ak (gu [l] (fun i=>(if i=0 then [] else l.map (fun n=>IntKind.u8.wrap n)++[255],(i:Int))) (e:=(l.map (fun n=>IntKind.u8.wrap n)++[255],1)) rfl ?_ ?_)).trans rfl
 ·intro i y hy
  obtain rfl:i=0:=by have:=cc hy; simp at this; exact this
  obtain rfl:l=y:=by simpa using hy
  show pT [l] [] ((0:Nat):Int)=_
  unfold pT
  have:idx [l] ((0:Nat):Int)=some l:=by rw [ch]; rfl
  rw [au (by simp),cond_true,this,aD]
  refine (gu l (fun i=>((l.take i).map (fun n=>IntKind.u8.wrap n),(i:Int))) (e:=(l.map (fun n=>IntKind.u8.wrap n),(l.length:Int))) rfl ?_ ?_).trans ?_
  ·intro i n hn
   have hi:=cc hn
   have ht:((l.take i).map (fun n=>IntKind.u8.wrap n)).length≤1048576:=by rw [List.length_map,List.length_take]; omega
   show pS l ((l.take i).map (fun n=>IntKind.u8.wrap n)) (i:Int)=_
   unfold pS
   rw [au (by omega),cond_true,ch,hn,aD,dL (by omega) (by omega),aD,bR (by omega),tk hn,List.map_append]; rfl
  ·show pS l _ _=_
   unfold pS
   rw [ay (by omega),cond_false,List.take_length]
  ·have ht:(l.map (fun n=>IntKind.u8.wrap n)).length≤1048576:=by rw [List.length_map]; omega
   show (fits 1 ((l.map (fun n=>IntKind.u8.wrap n)).length+1)>>=_)=_
   rw [dL (by omega) (by omega),aD,bR (by omega)]; rfl
 ·show pT [l] _ _=_
  unfold pT
  rw [ay (by simp),cond_false]; rfl
theorem acF {n:Int} (h0:0≤n) (h1:n < 256):IntKind.u8.wrap n=n:=by
 unfold IntKind.wrap
 have:n % (2 ^ IntKind.u8.bits:Int)=n:=by
  show n % 256=n
  omega
 rw [this]
 rfl
theorem acG {m n:Int} (m0:0≤m) (m1:m < 256) (n0:0≤n) (n1:n < 256) (h:UInt8.ofNat m.toNat=UInt8.ofNat n.toNat):m=n:=by
 have h2:=congrArg UInt8.toNat h
 rw [UInt8.toNat_ofNat',UInt8.toNat_ofNat',Nat.mod_eq_of_lt (by omega),Nat.mod_eq_of_lt (by omega)] at h2
 omega
def HX (l:List Int):Prop:=∀ y∈l,0≤y∧y < 256
theorem aiK:∀ {l k:List Int},HX l→HX k→l.map (fun n=>UInt8.ofNat n.toNat)=k.map (fun n=>UInt8.ofNat n.toNat)→l=k:=by
 intro l
 induction l with
 | nil=>intro k _ _ h; cases k with | nil=>rfl | cons b k=>simp at h
 | cons a l ih=>
  intro k h1 h2 h
  cases k with
  | nil=>simp at h
  | cons b k=>
   rw [List.map_cons,List.map_cons] at h
   injection h with h3 h4
   have ha:=h1 a (by simp)
   have hb:=h2 b (by simp)
   rw [acG ha.1 ha.2 hb.1 hb.2 h3,ih (fun y hy=>h1 y (by simp [hy])) (fun y hy=>h2 y (by simp [hy])) h4]
theorem Uq {l k:List Int} (h1:HX l) (h2:HX k) (h:Ax l=Ax k):l=k:=by
 have wr:∀ {l:List Int},HX l→l.map (fun n=>IntKind.u8.wrap n)=l:=by
  intro l hl
  have:l.map (fun n=>IntKind.u8.wrap n)=l.map id:=List.map_congr_left fun y hy=>acF (hl y hy).1 (hl y hy).2
  rw [this,List.map_id]
 unfold Ax at h
 rw [wr h1,wr h2] at h
 have h3:=congrArg (fun b:ByteArray=>b.data.toList) h
 simp only [strOfNums_data,List.map_append] at h3
 exact aiK h1 h2 (List.append_cancel_right h3)
theorem Ur:∀ {l:List (ByteArray×Int)} {k:ByteArray} {v:Int},(∀ p∈l,p.1≠k)→zD l k v=l++[(k,v)]:=by
 intro l
 induction l with
 | nil=>intro k v _; rfl
 | cons p l ih=>
  intro k v h
  have h1:(p.1 == k)=false:=by
   cases e:(p.1 == k) with
   | false=>rfl
   | true=>exact absurd ((MapKept.bytes_beq _ _).1 e) (h p (by simp))
  unfold zD
  rw [h1,cond_false,ih fun q hq=>h q (by simp [hq])]; rfl
theorem Us {K:Int→ByteArray}:∀ {l:List Int} {j:Int},j∈l→(∀ i∈l,K i=K j→i=j)→vV (l.map fun i=>(K i,i)) (K j)=some j:=by
 intro l
 induction l with
 | nil=>intro j h; cases h
 | cons a l ih=>
  intro j hj hi
  rw [List.map_cons]
  unfold vV
  cases e:(K a == K j) with
  | true=>
   have:=hi a (by simp) ((MapKept.bytes_beq _ _).1 e)
   rw [cond_true]
   show some a=some j
   rw [this]
  | false=>
   have rb:j≠a:=fun h=>by rw [h] at e; rw [(MapKept.bytes_beq _ _).2 rfl] at e; cases e
   rw [cond_false]
   exact ih ((List.mem_cons.1 hj).resolve_left rb) fun i h=>hi i (by simp [h])
structure aar (A:List (List Int)):Prop where
 n:A.length≤300000
 nd:A.Nodup
 l:∀ r∈A,r.length=3
 b:∀ r∈A,HX r
theorem QZ {A:List (List Int)} (nd:A.Nodup) {i j:Int} (i0:0≤i) (i1:i < A.length) (j0:0≤j) (j1:j < A.length) (h:gr A i=gr A j):i=j:=by
 unfold gr at h
 rw [List.getD_eq_getElem?_getD,List.getD_eq_getElem?_getD,List.getElem?_eq_getElem (by omega),List.getElem?_eq_getElem (by omega)] at h
 have h':A[i.toNat]'(by omega)=A[j.toNat]'(by omega):=h
 have k:=List.pairwise_iff_getElem.1 nd
 rcases Nat.lt_trichotomy i.toNat j.toNat with hl | hl | hl
 ·exact absurd h' (k _ _ (by omega) (by omega) hl)
 ·omega
 ·exact absurd h'.symm (k _ _ (by omega) (by omega) hl)
def IV (A:List (List Int)):List (ByteArray×Int):=cg A.length fun i=>(Ax (gr A i),i)
section
variable {A:List (List Int)} (H:aar A)
include H
theorem aaQ {i j:Int} (i0:0≤i) (i1:i < A.length) (j0:0≤j) (j1:j < A.length) (h:Ax (gr A i)=Ax (gr A j)):i=j:=
 QZ H.nd i0 i1 j0 j1 (Uq (H.b _ (fy i0 i1)) (H.b _ (fy j0 j1)) h)
theorem O6:tB A=some (IV A):=by
 have hn:=H.n
 unfold tB
 refine (congrArg ak (gu (ns A.length) (fun i=>(cg i (fun i=>(Ax (gr A i),i)),(i:Int))) (e:=(IV A,(A.length:Int))) rfl ?_ ?_)).trans rfl
 ·intro i x hx
  obtain ⟨rfl,hi⟩:=dy hx
  have hr:=H.l _ (fy (l:=A) (j:=(i:Int)) (by omega) (by omega))
  show mU A (cg i _,(i:Int))=_
  unfold mU
  dsimp only
  rw [au (by omega),cond_true,fx (by omega) (by omega),aD,FQ (by omega),aD,bR (by omega),Ur,j6]
  intro p hp e
  obtain ⟨j,⟨j0,j1⟩,rfl⟩:=nj.1 hp
  have:=aaQ H j0 (by omega) (by omega) (by omega) e
  omega
 ·show mU A (cg _ _,_)=_
  unfold mU
  dsimp only
  rw [cN,ay (by omega),cond_false]; rfl
theorem Q7 {r:List Int} (hr:r∈A):(vV (IV A) (Ax r)).getD 0=kh A r:=by
 obtain ⟨⟨j0,j1⟩,e⟩:=(xa r H.n H.l).2 hr
 have h:vV (IV A) (Ax (gr A (kh A r)))=some (kh A r):=Us (K:=fun i=>Ax (gr A i)) (fg.2 ⟨j0,j1⟩) fun i hi h=>by
  have:=fg.1 hi
  exact aaQ H this.1 this.2 j0 j1 h
 rw [e] at h
 rw [h]; rfl
end
def w9 (A:List (List Int)) (k:Int):List Int:=cg A.length fun i=>gi (gr A i) k
theorem He {A:List (List Int)} {k i:Int} (i0:0≤i) (i1:i < A.length):gi (w9 A k) i=gi (gr A i) k:=sc i0 i1
section
variable {A:List (List Int)} (hn:A.length≤300000) (h3:∀ r∈A,r.length=3) {k:Int} (k0:0≤k) (k3:k < 3)
include hn h3 k0 k3
theorem LF:fU A k=some (w9 A k):=by
 unfold fU
 refine (congrArg ak (u3 A.length (fun i=>gi (gr A i) k) (fun acc i=>(acc,(i:Int))) rfl ?_ ?_)).trans rfl
 ·intro i acc hi ha
  have hr:=h3 _ (fy (l:=A) (j:=(i:Int)) (by omega) (by omega))
  show gN A k acc i=_
  unfold gN
  rw [au (by omega),cond_true,fx (by omega) (by omega),aD,bQ k0 (by omega),aD,dL (by omega) (by omega),aD,bR (by omega)]
 ·intro acc ha
  show gN A k acc _=_
  unfold gN
  rw [ay (by omega),cond_false]
theorem LG:pU A k=some (w9 A k):=by
 unfold pU
 refine (congrArg ak (u3 A.length (fun i=>gi (gr A i) k) (fun acc i=>(acc,(i:Int))) rfl ?_ ?_)).trans rfl
 ·intro i acc hi ha
  have hr:=h3 _ (fy (l:=A) (j:=(i:Int)) (by omega) (by omega))
  show mV A k acc i=_
  unfold mV
  rw [au (by omega),cond_true,fx (by omega) (by omega),aD,bQ k0 (by omega),aD,dL (by omega) (by omega),aD,bR (by omega)]
 ·intro acc ha
  show mV A k acc _=_
  unfold mV
  rw [ay (by omega),cond_false]
end
def ua (c:aF) (G:Int→Int→Int) (f h:Int):Int:=bif gi c.To f == gi c.aE h then G f h else -1
def p3 (c:aF) (G:Int→Int→Int):List (List Int):=cg c.aE.length fun f=>cg c.aE.length fun h=>ua c G f h
theorem set_set {α:Type} (l:List α) (i:Nat) (a b:α):(l.set i a).set i b=l.set i b:=by simp
theorem EU {α:Type} {l:List α} {i:Nat} (h:i < l.length) (a:α):idx (l.set i a) (i:Int)=some a:=by rw [ch,List.getElem?_set_self h]
theorem Q8 {c:aF} {g:Int→Int→Option Int} {G:Int→Int→Int} (hn:c.aE.length≤1000) (ht:c.To.length=c.aE.length)
  (hg:∀ f h:Int,0≤f→f < c.aE.length→0≤h→h < c.aE.length→gi c.To f=gi c.aE h→g f h=some (G f h)) :
  lR c g=some (aF.mk c.aA c.aE c.To c.aH (p3 c G)):=by
 have tl:(p3 c G).length=c.aE.length:=cE _ _
 unfold lR
 rw [show cY c=some (c.aE.length:Int) from rfl,aD,EK (by omega) (by omega),aD]
 refine (congrArg Hu (gu (p3 c G) (fun i=>((i:Int),(p3 c G).take i++List.replicate ((p3 c G).length - i) ([]:List Int))) (e:=((c.aE.length:Int),p3 c G)) (by simp [tl]) ?_ ?_)).trans rfl
 ·intro i row bd
  have hi:=cc bd
  rw [tl] at hi
  have hr:row=cg c.aE.length fun h=>ua c G i h:=by
   have:=ov (fun f=>cg c.aE.length fun h=>ua c G f h) hi
   rw [show (p3 c G)[i]? = _ from this] at bd
   exact (Option.some.inj bd).symm
  have rl:row.length=c.aE.length:=by rw [hr,cE]
  have gv:((p3 c G).take i++List.replicate ((p3 c G).length - i) ([]:List Int)).length=c.aE.length:=by simp [tl]; omega
  have wE:=CJ (p3 c G) ([]:List Int) bd
  have aaR:=get_copy (p3 c G) ([]:List Int) bd
  generalize (p3 c G).take i++List.replicate ((p3 c G).length - i) ([]:List Int)=o at gv wE aaR
  show gY c g (c.aE.length:Int) c.aE.length (i:Int) o=_
  unfold gY
  rw [List.length_replicate,au (by omega),cond_true,EK (by omega) (by omega),aD,ch,aaR,aD,Int.toNat_natCast,EU (by omega),aD]
  refine (gu row (fun j=>((j:Int),o.set i (row.take j++List.replicate (row.length - j) (0:Int)))) (e:=((c.aE.length:Int),o.set i row)) (by simp [rl]) ?_ ?_).trans ?_
  ·intro j v hv
   have hj:=cc hv
   rw [rl] at hj
   have mb:v=ua c G i j:=by
    have:=ov (fun h=>ua c G i h) hj
    rw [hr,show (cg c.aE.length fun h=>ua c G i h)[j]? = _ from this] at hv
    exact (Option.some.inj hv).symm
   have Ga:(row.take j++List.replicate (row.length - j) (0:Int)).length=c.aE.length:=by simp; omega
   have Pb:=CJ row (0:Int) hv
   have VP:=get_copy row (0:Int) hv
   generalize row.take j++List.replicate (row.length - j) (0:Int)=e at Ga Pb VP
   show gX c g (i:Int) (List.replicate c.aE.length (0:Int)) (j:Int) (o.set i e)=_
   unfold gX
   rw [List.length_replicate,au (by omega),cond_true,EU (by omega),aD,ch,VP,aD,bQ (by omega) (by omega),aD,bQ (by omega) (by omega),aD,Int.toNat_natCast,Int.toNat_natCast,set_set,EU (by omega)]
   unfold ua at mb
   by_cases ec:gi c.To i=gi c.aE j
   ·rw [n5 ec] at mb ⊢
    rw [cond_true,aD,hg i j (by omega) (by omega) (by omega) (by omega) ec,aD,EU (by omega),aD,set_set,set_set,bR (by omega)]
    rw [cond_true] at mb
    rw [← mb,Pb]
   ·rw [sa ec] at mb ⊢
    rw [cond_false] at mb
    rw [cond_false,bR (by omega),← mb,Pb]
  ·show gX c g _ _ _ _=_
   unfold gX
   rw [List.length_replicate,ay (by omega),cond_false]
   simp [List.take_of_length_le (Nat.le_of_eq rl),rl]
  ·dsimp only
   rw [wE,bR (by omega)]
 ·show gY c g _ _ _ _=_
  unfold gY
  rw [List.length_replicate,ay (by omega),cond_false]
  simp [List.take_of_length_le (Nat.le_of_eq tl),tl]
end Go.Proofs.YtilhlobfebngdaaGreat
