/- Adjunctions: units and counits as natural transformations, the laws of triangles; transposing there and back; composites. No condition beside those that each theorem names. -/
import Derived.Test.YtcnehblmgfbfoaaGreatYk
import Derived.Test.YtcnehblmgfbfoaaGreatUr
import Derived.Test.YtcnehblmgfbfoaaGreatYn
import Derived.Test.YtcnehblmgfbfoaaGreatVw
set_option linter.unusedVariables false
set_option linter.unusedSectionVars false
set_option linter.unusedSimpArgs false
namespace Go.Proofs.YtcnehblmgfbfoaaGreat
open Go Go.Li
set_option linter.unusedVariables false
set_option linter.unusedSectionVars false
def Ab (c:aH):aS:=aS.mk c c (ns c.aD.toNat) (ns c.aF.length)
theorem NZ {c:aH} (C:gp c):ez (Ab c)=true:=by
 have o0:=C.o0
 have hO:∀ y:Int,0≤y→y < c.aD→gi (ns c.aD.toNat) y=y:=fun y y0 y1=>G5 y0 (by omega)
 have hA:∀ a:Int,0≤a→a < c.aF.length→gi (ns c.aF.length) a=a:=fun a a0 a1=>G5 a0 a1
 refine Ja (f:=Ab c) (Jb C) (Jb C) (by show ((ns c.aD.toNat).length:Int)=c.aD; rw [bS]; omega) (bS _) (fun y hy=>?_) (fun y hy=>cu.1 hy) (fun a a0 a1=>?_) (fun a a0 a1=>?_) (fun y y0 y1=>?_) fun a b a0 a1 b0 b1 e=>?_
 ·have:=cu.1 hy
  show 0≤y∧y < c.aD
  omega
 ·have k:=C.fr a0 a1
  show gi c.aF (gi (ns c.aF.length) a)=gi (ns c.aD.toNat) (gi c.aF a)
  rw [hA a a0 a1,hO _ k.1 k.2]
 ·have k:=C.to a0 a1
  show gi c.To (gi (ns c.aF.length) a)=gi (ns c.aD.toNat) (gi c.To a)
  rw [hA a a0 a1,hO _ k.1 k.2]
 ·have k:=C.id (x:=y) y0 y1
  show gi (ns c.aF.length) (gi c.aG y)=gi c.aG (gi (ns c.aD.toNat) y)
  rw [hA _ k.1 k.2,hO y y0 y1]
 ·have k:=C.cell a b a0 a1 b0 b1 e
  show gi (ns c.aF.length) (gk c.aC a b)=gk c.aC (gi (ns c.aF.length) a) (gi (ns c.aF.length) b)
  rw [hA _ k.1 k.2.1,hA a a0 a1,hA b b0 b1]
theorem I5 {c:aH} (C:gp c):fv (Ab c):=by
 have o0:=C.o0
 have o8:=C.o8
 have m:=C.m
 exact ⟨pX C,pX C,by show (ns _).length≤_; rw [bS]; omega,by show (ns _).length≤_; rw [bS]; omega⟩
namespace Adj
end Adj
end Go.Proofs.YtcnehblmgfbfoaaGreat
namespace Go.Proofs.YtcnehblmgfbfoaaGreat
open Go Go.Li
set_option linter.unusedVariables false
set_option linter.unusedSectionVars false
def cj (c:aH) (z x u:Int):Prop:=(0≤u∧u < c.aF.length)∧gi c.aF u=z∧gi c.To u=x
structure Uni (f:aS) (y x e:Int):Prop where
 x0:0≤x
 x1:x < f.aB.aD
 l:cj f.aE (gi f.aD x) y e
 ex:∀ z h:Int,0≤z→z < f.aB.aD→cj f.aE (gi f.aD z) y h→∃ u,cj f.aB z x u∧gk f.aE.aC (gi f.ab u) e=h
 un:∀ z u v:Int,cj f.aB z x u→cj f.aB z x v→gk f.aE.aC (gi f.ab u) e=gk f.aE.aC (gi f.ab v) e→u=v
theorem Lj {c:aH} (C:gp c) {x y z u v:Int} (h:cj c x y u) (h':cj c y z v):cj c x z (gk c.aC u v):=by
 have:=C.cell u v h.1.1 h.1.2 h'.1.1 h'.1.2 (by rw [h.2.2,h'.2.1])
 exact ⟨⟨this.1,this.2.1⟩,this.2.2.1.trans h.2.1,this.2.2.2.trans h'.2.2⟩
theorem PV {c:aH} (C:gp c) {x:Int} (x0:0≤x) (x1:x < c.aD):cj c x x (gi c.aG x):=⟨C.id x0 x1,C.Fk x x0 x1,C.HZ x x0 x1⟩
theorem N6 {f:aS} (F:Aa f) {x y u:Int} (h:cj f.aB x y u):cj f.aE (gi f.aD x) (gi f.aD y) (gi f.ab u):=⟨F.ar h.1.1 h.1.2,by rw [F.fr u h.1.1 h.1.2,h.2.1],by rw [F.to u h.1.1 h.1.2,h.2.2]⟩
theorem Jc {c:aH} (C:gp c) {x y z w u v t:Int} (h:cj c x y u) (h':cj c y z v) (h2:cj c z w t):gk c.aC (gk c.aC u v) t=gk c.aC u (gk c.aC v t):=
 C.assoc u v t h.1.1 h.1.2 h'.1.1 h'.1.2 h2.1.1 h2.1.2 (by rw [h.2.2,h'.2.1]) (by rw [h'.2.2,h2.2.1])
theorem RE {f:aS} (F:Aa f) {x y z u v:Int} (h:cj f.aB x y u) (h':cj f.aB y z v):gi f.ab (gk f.aB.aC u v)=gk f.aE.aC (gi f.ab u) (gi f.ab v):=F.co u v h.1.1 h.1.2 h'.1.1 h'.1.2 (by rw [h.2.2,h'.2.1])
theorem I4 {c:aH} (C:gp c) {x y u:Int} (h:cj c x y u):0≤x∧x < c.aD:=by have:=C.fr h.1.1 h.1.2; rwa [h.2.1] at this
theorem HX {c:aH} (C:gp c) {x y u:Int} (h:cj c x y u):gk c.aC (gi c.aG x) u=u:=by have:=C.BZ u h.1.1 h.1.2; rwa [h.2.1] at this
theorem HW {c:aH} (C:gp c) {x y u:Int} (h:cj c x y u):gk c.aC u (gi c.aG y)=u:=by have:=C.zC u h.1.1 h.1.2; rwa [h.2.2] at this
section
variable {f:aS} {xs es D1 us:List Int} (hf:ez f=true) (tK:(xs.length:Int)=f.aE.aD) (Cg:(es.length:Int)=f.aE.aD) (uK:D1.length=f.aE.aF.length) (hul:(us.length:Int)=f.aB.aD)
 (hU:∀ y:Int,0≤y→y < f.aE.aD→Uni f y (gi xs y) (gi es y))
 (hA:∀ g:Int,0≤g→g < f.aE.aF.length→cj f.aB (gi xs (gi f.aE.aF g)) (gi xs (gi f.aE.To g)) (gi D1 g)∧gk f.aE.aC (gi f.ab (gi D1 g)) (gi es (gi f.aE.To g))=gk f.aE.aC (gi es (gi f.aE.aF g)) g)
 (hS:∀ x:Int,0≤x→x < f.aB.aD→cj f.aB x (gi xs (gi f.aD x)) (gi us x)∧gk f.aE.aC (gi f.ab (gi us x)) (gi es (gi f.aD x))=gi f.aE.aG (gi f.aD x))
include hf tK Cg uK hul hU hA hS
end
structure Eqv (f:aS):Prop where
 fb:ez f=true
 full:∀ x y b:Int,0≤x→x < f.aB.aD→0≤y→y < f.aB.aD→cj f.aE (gi f.aD x) (gi f.aD y) b→∃ a,cj f.aB x y a∧gi f.ab a=b
 afy:∀ x y a b:Int,cj f.aB x y a→cj f.aB x y b→gi f.ab a=gi f.ab b→a=b
 agY:∀ y:Int,0≤y→y < f.aE.aD→∃ x i j,(0≤x∧x < f.aB.aD)∧cj f.aE (gi f.aD x) y i∧cj f.aE y (gi f.aD x) j∧gk f.aE.aC i j=gi f.aE.aG (gi f.aD x)∧gk f.aE.aC j i=gi f.aE.aG y
end Go.Proofs.YtcnehblmgfbfoaaGreat
namespace Go.Proofs.YtcnehblmgfbfoaaGreat
open Go Go.Li
set_option linter.unusedVariables false
set_option linter.unusedSectionVars false
theorem N1 {c:aH} (C:gp c):mG c=some (Ab c):=by
 have o0:=C.o0
 have o8:=C.o8
 have m:=C.m
 have hs:=pX C
 unfold mG
 rw [yI o0 (by omega),aA,show cE c=some (c.aF.length:Int) from rfl,aA,yI (by omega) (by omega),aA,Int.toNat_natCast,vi hs hs (by rw [bS]; omega) (by rw [bS]; omega),aA]; rfl
theorem DV (n:Nat):ns (n+1)=ns n++[(n:Int)]:=by simp [ns,List.range_succ]
theorem upto {R S:Type} {k:Nat} {n:Nat} (hn:n≤1048576) {body:List Int×Int→Option (Out (List Int×Int) R)} {f:List Int×Int→Option (Out S R)}
  (h:∀ i:Nat,i < n→body (ns i,(i:Int))=some (.norm (ns i++[(i:Int)],((i+1:Nat):Int)))) (last:body (ns n,(n:Int))=some (.exit k (ns n,(n:Int)))) :
  aj (ah k (ai body (([]:List Int),(0:Int)))) f=f (ns n,(n:Int)):=by
 refine bu (ns n) (fun i=>(ns i,(i:Int))) rfl (fun i x hx=>?_) (e:=(ns n,(n:Int))) ?_
 ·obtain ⟨rfl,hi⟩:=ca hx
  rw [h i hi,DV]
 ·rw [bS]; exact last
theorem N0 {c:aH} (C:gp c):kW c=some (Ab c):=by
 have o0:=C.o0
 have o8:=C.o8
 have m:=C.m
 have hs:=pX C
 have a1:∀ i:Nat,i < c.aD.toNat→iW c (ns i) (i:Int)=some (.norm (ns i++[(i:Int)],((i+1:Nat):Int))):=fun i hi=>by
  unfold iW
  rw [aq (by omega),cond_true,bS,cR (by omega) (by omega),aA,bK (by omega)]
 have a2:iW c (ns c.aD.toNat) (c.aD.toNat:Int)=some (.exit 0 (ns c.aD.toNat,(c.aD.toNat:Int))):=by
  unfold iW
  rw [au (by omega),cond_false]
 have b1:∀ i:Nat,i < c.aF.length→iX c (ns i) (i:Int)=some (.norm (ns i++[(i:Int)],((i+1:Nat):Int))):=fun i hi=>by
  unfold iX
  rw [aq (by omega),cond_true,bS,cR (by omega) (by omega),aA,bK (by omega)]
 have b2:iX c (ns c.aF.length) (c.aF.length:Int)=some (.exit 2 (ns c.aF.length,(c.aF.length:Int))):=by
  unfold iX
  rw [au (by omega),cond_false]
 unfold kW
 rw [upto (n:=c.aD.toNat) (by omega) a1 a2]
 dsimp only
 rw [upto (n:=c.aF.length) (by omega) b1 b2]
 dsimp only
 rw [yY hs hs (by rw [bS]; omega) (by rw [bS]; omega),aA]; rfl
theorem BJ {t:bO} (hs:xT t) (fb:ez t.aB=true) (gb:ez t.aE=true) (es:t.aE.aB=t.aB.aB) (et:t.aE.aE=t.aB.aE):eP t.aB t.aE t.bb=some (iu t):=by
 have F:=ik fb
 have G:=ik gb
 have hp:=hs.p
 have dn:=F.ol
 have uK:=F.al
 have cm:=F.c.m
 unfold eP iu u4
 rw [fb,gb,es,et,qH.2 rfl,qH.2 rfl]
 simp only [Bool.true_and]
 by_cases e1:(t.bb.length:Int)=t.aB.aB.aD
 ·rw [ua (by omega),cond_false,vM _ _ (by omega),aA,aA,np e1,Bool.true_and]
  cases h:mi t.aB.aE.aF.length t.bb with
  | false=>rfl
  | true=>
   rw [Bool.not_true,cond_false,Bool.true_and]
   have wV:=nq.1 h
   have H:THead t:=⟨F,G,fb,gb,es,et,e1,wV⟩
   rw [rY (n:=t.bb.length) (zf t) (fun x bj=>?_) (by unfold kX; rw [au (by omega),cond_false])]
   ·unfold wP
    cases (ns t.bb.length).any (zf t) with
    | true=>rfl
    | false=>
     rw [cond_false,Bool.not_false,Bool.true_and]
     rw [rY (n:=t.aB.aB.aF.length) (fun a=>!(FP t.aB t.aE t.bb a)) (fun a bj=>?_) (by unfold kY; rw [au (by omega),cond_false])]
     ·unfold D0
      cases (ns t.aB.aB.aF.length).any _ <;> rfl
     ·have kf:=F.c.fr (f:=(a:Int)) (by omega) (by omega)
      have kt:=F.c.to (f:=(a:Int)) (by omega) (by omega)
      have ka:=F.ar (a:=(a:Int)) (by omega) (by omega)
      have k1:=H.cp kt.1 kt.2
      have k2:=H.cp kf.1 kf.2
      have k3:=H.Uy (a:=(a:Int)) (by omega) (by omega)
      unfold kY FP
      rw [aq (by omega),cond_true,F.rG (by omega) (by omega),aA,F.c.jx (by omega) (by omega),aA,H.G6 kt.1 kt.2,aA,F.d.thenS ka.1 ka.2 k1.1 k1.2,aA,F.c.jk (by omega) (by omega),aA,H.G6 kf.1 kf.2,aA,H.ME (by omega) (by omega),aA,F.d.thenS k2.1 k2.2 k3.1 k3.2,aA,bK (by omega)]
      rfl
   ·have kc:=wV _ (lp (l:=t.bb) (j:=(x:Int)) (by omega) (by omega))
    unfold kX
    rw [aq (by omega),cond_true,cI (by omega) (by omega),aA,F.d.jk kc.1 kc.2,aA,F.uk (by omega) (by omega),aA,aA,F.d.jx kc.1 kc.2,aA,G.uk (by omega) (by rw [es]; omega),aA,bK (by omega),u3,AM,aA]
    rfl
 ·rw [p5 (by omega),cond_true,aA,cond_true,kh e1]; rfl
theorem AL {x y:Int}:(!(x == y))=(y != x):=by
 by_cases h:x=y
 ·rw [h]; simp
 ·rw [kh h,p5 (fun e=>h e.symm)]; rfl
end Go.Proofs.YtcnehblmgfbfoaaGreat
namespace Go.Proofs.YtcnehblmgfbfoaaGreat
open Go Go.Li
set_option linter.unusedVariables false
set_option linter.unusedSectionVars false
set_option linter.unusedSimpArgs false
theorem RC {R:List (List Int)} (key:List Int) (hl:R.length≤300000) (h3:∀ r∈R,r.length=3):Ok (dD R key) fun y=>key∈R→(0≤y∧y < R.length)∧gr R y=key:=by
 unfold dD
 refine P8 (ol (fun z:Int=>(0≤z∧z≤R.length)∧∀ i:Int,0≤i→i < z→gr R i≠key) (fun z=>(R.length - z).toNat) ⟨⟨by omega,by omega⟩,fun i i0 i1=>by omega⟩ ?_)
 rintro i ⟨⟨i0,i1⟩,hn⟩
 unfold kK
 refine od (fun hi=>?_) fun hi=>os ⟨rfl,os fun h=>?_⟩
 ·have hw:=w1 i0 hi (by omega)
  have h3r:=h3 _ (jr i0 hi)
  refine oe (jt i0 hi) (oe (tV _ _ (by omega)) (oc (fun e=>os fun _=>⟨⟨i0,hi⟩,eq_of_beq e⟩) fun e=>os ⟨⟨⟨by rw [hw]; omega,by rw [hw]; omega⟩,fun j j0 j1=>?_⟩,by dsimp only; rw [hw]; omega⟩))
  rw [hw] at j1
  by_cases ej:j=i
  ·rw [ej]
   intro h
   rw [h] at e
   simp at e
  ·exact hn j j0 (by omega)
 ·exfalso
  obtain ⟨j,j0,j1,e⟩:=RD h
  exact hn j j0 (by omega) e
noncomputable def gx (R:List (List Int)) (key:List Int):Int:=(dD R key).getD (-1)
theorem sn {R:List (List Int)} (key:List Int) (hl:R.length≤300000) (h3:∀ r∈R,r.length=3):dD R key=some (gx R key)∧(key∈R→(0≤gx R key∧gx R key < R.length)∧gr R (gx R key)=key):=by
 obtain ⟨y,h1,h2⟩:=RC key hl h3
 have e:gx R key=y:=by unfold gx; rw [h1]; rfl
 rw [e]
 exact ⟨h1,h2⟩
def Uz (c:aH) (xs:List Int) (i j h:Int):Prop:=((0≤i∧i < xs.length)∧(0≤j∧j < xs.length))∧(0≤h∧h < c.aF.length)∧gi c.aF h=gi xs i∧gi c.To h=gi xs j
structure Fat (c:aH) (xs:List Int) (R:List (List Int)):Prop where
 n:xs.length≤65
 o:∀ x∈xs,0≤x∧x < c.aD
 l:R.length≤300000
 r:∀ r∈R,∃ i j h,r=[i,j,h]∧Uz c xs i j h
 a:∀ i j h,Uz c xs i j h→[i,j,h]∈R
namespace Fat
variable {c:aH} {xs:List Int} {R:List (List Int)} (F:Fat c xs R)
include F
theorem three:∀ r∈R,r.length=3:=fun r hr=>by obtain ⟨i,j,h,rfl,_⟩:=F.r r hr; rfl
end Fat
end Go.Proofs.YtcnehblmgfbfoaaGreat
namespace Go.Proofs.YtcnehblmgfbfoaaGreat
open Go Go.Li
set_option linter.unusedVariables false
set_option linter.unusedSectionVars false
set_option linter.unusedSimpArgs false
section
variable {c d:aH} {f:aS} (T:T7 c) (U:T7 d) (F:FF c d f)
include T U F
end
section
variable {x:List Int} (B:Byt x)
include B
omit B in
end
end Go.Proofs.YtcnehblmgfbfoaaGreat
namespace Go.Proofs.YtcnehblmgfbfoaaGreat
open Go Go.Li
set_option linter.unusedVariables false
set_option linter.unusedSectionVars false
set_option linter.unusedSimpArgs false
theorem PS:∀ {K l:List Int},K.Nodup→(∀ y∈K,y∈l)→K.length≤l.length:=by
 intro K
 induction K with
 | nil=>intro l _ _; exact Nat.zero_le _
 | cons a K ih=>
  intro l hn hs
  rw [List.nodup_cons] at hn
  have ha:=hs a (by simp)
  have h2:=ih (l:=l.erase a) hn.2 fun y hy=>(List.mem_erase_of_ne (fun e=>hn.1 (by rw [← e]; exact hy))).2 (hs y (List.mem_cons_of_mem _ hy))
  have h3:=List.length_erase_of_mem ha
  have h4:0 < l.length:=List.length_pos_of_mem ha
  rw [List.length_cons]
  omega
def gh (c:aH) (x y:Int):List Int:=(ns c.aF.length).filter (yA c x y)
theorem pq {c:aH} {x y h:Int}:h∈gh c x y↔cj c x y h:=by
 unfold gh yA cj
 rw [List.mem_filter,cu,Bool.and_eq_true,beq_iff_eq,beq_iff_eq]
end Go.Proofs.YtcnehblmgfbfoaaGreat
namespace Go.Proofs.YtcnehblmgfbfoaaGreat
open Go Go.Li
set_option linter.unusedVariables false
set_option linter.unusedSimpArgs false
set_option linter.unusedSectionVars false
end Go.Proofs.YtcnehblmgfbfoaaGreat
namespace Go.Proofs.YtcnehblmgfbfoaaGreat
open Go Go.Li
set_option linter.unusedVariables false
structure Xu (c:aH) (x y p q:Int):Prop where
 i:cj c x y p
 j:cj c y x q
 ij:gk c.aC p q=gi c.aG x
 ji:gk c.aC q p=gi c.aG y
section
variable {f:aS} {os RF D1:List Int} {js:Int→Int} (E:Eqv f) (dn:(os.length:Int)=f.aE.aD) (qQ:(RF.length:Int)=f.aE.aD) (uK:D1.length=f.aE.aF.length)
 (hO:∀ y:Int,0≤y→y < f.aE.aD→0≤gi os y∧gi os y < f.aB.aD)
 (hI:∀ y:Int,0≤y→y < f.aE.aD→Xu f.aE (gi f.aD (gi os y)) y (gi RF y) (js y))
 (hA:∀ h:Int,0≤h→h < f.aE.aF.length→cj f.aB (gi os (gi f.aE.aF h)) (gi os (gi f.aE.To h)) (gi D1 h)∧gi f.ab (gi D1 h)=gk f.aE.aC (gk f.aE.aC (gi RF (gi f.aE.aF h)) h) (js (gi f.aE.To h)))
include E dn qQ uK hO hI hA
end
end Go.Proofs.YtcnehblmgfbfoaaGreat
namespace Go.Proofs.YtcnehblmgfbfoaaGreat
open Go Go.Li
set_option linter.unusedVariables false
set_option linter.unusedSectionVars false
def BG (m:bB):bO:=bO.mk (Ab m.On.aB) m.On m.Unit
def BI (m:bB):bO:=bO.mk (sb m.On m.On) m.On m.ba
def kM (m:bB) (u v:Int):Int:=gk m.On.aB.aC u v
def oM (m:bB) (x:Int):Int:=gi m.On.aD x
def aM (m:bB) (u:Int):Int:=gi m.On.ab u
def wN (m:bB) (x:Int):Bool:=(kM m (aM m (gi m.Unit x)) (gi m.ba x) != gi m.On.aB.aG (oM m x) || kM m (gi m.Unit (oM m x)) (gi m.ba x) != gi m.On.aB.aG (oM m x)) || kM m (aM m (gi m.ba x)) (gi m.ba x) != kM m (gi m.ba (oM m x)) (gi m.ba x)
def AK (m:bB):Bool:=!((ns m.On.aB.aD.toNat).any (wN m))
def oy (m:bB):Bool:=ez m.On && (oK m.On.aB m.On.aE && ((iu (BG m) && iu (BI m)) && AK m))
structure Mon0 (m:bB):Prop where
 fb:ez m.On=true
 e:m.On.aB=m.On.aE
 ub:iu (BG m)=true
 jb:iu (BI m)=true
structure Mon (m:bB):Prop extends Mon0 m where
 l1:∀ x:Int,0≤x→x < m.On.aB.aD→kM m (aM m (gi m.Unit x)) (gi m.ba x)=gi m.On.aB.aG (oM m x)
 l2:∀ x:Int,0≤x→x < m.On.aB.aD→kM m (gi m.Unit (oM m x)) (gi m.ba x)=gi m.On.aB.aG (oM m x)
 l3:∀ x:Int,0≤x→x < m.On.aB.aD→kM m (aM m (gi m.ba x)) (gi m.ba x)=kM m (gi m.ba (oM m x)) (gi m.ba x)
theorem xF {m:bB} (h:oy m=true):Mon m:=by
 unfold oy AK at h
 simp only [Bool.and_eq_true,qH,Bool.not_eq_true',ei] at h
 obtain ⟨h1,h2,⟨h3,h4⟩,h5⟩:=h
 have o0:=(ik h1).c.o0
 have key:∀ x:Int,0≤x→x < m.On.aB.aD→wN m x=false:=fun x x0 x1=>h5 x x0 (by omega)
 refine ⟨⟨h1,h2,h3,h4⟩,fun x x0 x1=>?_,fun x x0 x1=>?_,fun x x0 x1=>?_⟩ <;>
 ·have:=key x x0 x1
  unfold wN at this
  simp only [Bool.or_eq_false_iff,bne_eq_false_iff_eq] at this
  first | exact this.1.1 | exact this.1.2 | exact this.2
namespace Mon0
variable {m:bB} (M:Mon0 m)
include M
theorem mc:gp m.On.aB:=(ik M.fb).c
theorem Ry {x:Int} (x0:0≤x) (x1:x < m.On.aB.aD):0≤oM m x∧oM m x < m.On.aB.aD:=by
 have:=(ik M.fb).ob x0 x1
 rwa [← M.e] at this
theorem qk {x y u:Int} (h:cj m.On.aB x y u):cj m.On.aB (oM m x) (oM m y) (aM m u):=by
 have:=N6 (ik M.fb) h
 rwa [← M.e] at this
theorem Ue {x y z u v:Int} (h:cj m.On.aB x y u) (h':cj m.On.aB y z v):aM m (kM m u v)=kM m (aM m u) (aM m v):=by
 have:=RE (ik M.fb) h h'
 rwa [← M.e] at this
theorem Ux:(m.Unit.length:Int)=m.On.aB.aD:=(xV M.ub).pl
theorem mjL:(m.ba.length:Int)=m.On.aB.aD:=(xV M.jb).pl
theorem DU {x:Int} (x0:0≤x) (x1:x < m.On.aB.aD):cj m.On.aB x (oM m x) (gi m.Unit x):=by
 have N:=xV M.ub
 have o0:=M.mc.o0
 refine ⟨N.cp x0 x1,(N.pf x x0 x1).trans ?_,N.pt x x0 x1⟩
 exact G5 x0 (by show x < ((m.On.aB.aD.toNat:Nat):Int); omega)
theorem uP {x:Int} (x0:0≤x) (x1:x < m.On.aB.aD):cj m.On.aB (oM m (oM m x)) (oM m x) (gi m.ba x):=by
 have N:=xV M.jb
 have h1:0≤gi m.ba x∧gi m.ba x < m.On.aE.aF.length:=N.cp x0 x1
 have h2:gi m.On.aE.aF (gi m.ba x)=gi (thenS m.On.aD m.On.aD) x:=N.pf x x0 x1
 have h3:gi m.On.aE.To (gi m.ba x)=gi m.On.aD x:=N.pt x x0 x1
 rw [← M.e] at h1 h2 h3
 refine ⟨h1,h2.trans ?_,h3⟩
 exact wQ x0 (by rw [(ik M.fb).ol]; exact x1)
theorem mjN {x y u:Int} (h:cj m.On.aB x y u):kM m (aM m (aM m u)) (gi m.ba y)=kM m (gi m.ba x) (aM m u):=by
 have N:gk m.On.aE.aC (gi (thenS m.On.ab m.On.ab) u) (gi m.ba (gi m.On.aB.To u))=gk m.On.aE.aC (gi m.ba (gi m.On.aB.aF u)) (gi m.On.ab u):=(xV M.jb).sq u h.1.1 h.1.2
 rw [wQ h.1.1 (by rw [(ik M.fb).al]; exact h.1.2),h.2.1,h.2.2,← M.e] at N
 exact N
theorem C6 {x y z w u v t:Int} (h:cj m.On.aB x y u) (h':cj m.On.aB y z v) (h2:cj m.On.aB z w t):kM m (kM m u v) t=kM m u (kM m v t):=Jc M.mc h h' h2
theorem zA {x y z u v:Int} (h:cj m.On.aB x y u) (h':cj m.On.aB y z v):cj m.On.aB x z (kM m u v):=Lj M.mc h h'
end Mon0
structure uN (m:bB) (x h:Int):Prop where
 x0:0≤x
 x1:x < m.On.aB.aD
 l:cj m.On.aB (oM m x) x h
 un:kM m (gi m.Unit x) h=gi m.On.aB.aG x
 UA:kM m (aM m h) h=kM m (gi m.ba x) h
def xA (m:bB) (x h y k g:Int):Prop:=cj m.On.aB x y g∧kM m h g=kM m (aM m g) k
section
variable {m:bB} (M:Mon m)
include M
theorem Df {x:Int} (x0:0≤x) (x1:x < m.On.aB.aD):uN m (oM m x) (gi m.ba x):=by
 have o:=M.Ry x0 x1
 exact ⟨o.1,o.2,M.uP x0 x1,M.l2 x x0 x1,M.l3 x x0 x1⟩
theorem N7 {x y k f:Int} (K:uN m y k) (hf:cj m.On.aB x y f):cj m.On.aB (oM m x) y (kM m (aM m f) k):=M.zA (M.qk hf) K.l
theorem Nz {x y k f:Int} (K:uN m y k) (hf:cj m.On.aB x y f):xA m (oM m x) (gi m.ba x) y k (kM m (aM m f) k):=by
 have hx:=I4 M.mc hf
 have j:=M.uP hx.1 hx.2
 have af:=M.qk hf
 have UB:=M.qk af
 have jy:=M.uP K.x0 K.x1
 have ak:=M.qk K.l
 refine ⟨N7 M K hf,?_⟩
 rw [M.Ue af K.l,M.C6 UB ak K.l,K.UA,← M.C6 UB jy K.l,M.mjN hf,M.C6 j af K.l]
end
end Go.Proofs.YtcnehblmgfbfoaaGreat
namespace Go.Proofs.YtcnehblmgfbfoaaGreat
open Go Go.Li
set_option linter.unusedVariables false
set_option linter.unusedSectionVars false
set_option linter.unusedSimpArgs false
structure M7 (m:bB):Prop where
 l:fv m.On
 u:m.Unit.length≤1000
 j:m.ba.length≤1000
structure mf (m:bB):Prop where
 l:fv m.On
 u:m.Unit.length≤1048576
 j:m.ba.length≤1048576
theorem M7.small {m:bB} (h:M7 m):mf m:=⟨h.l,by have:=h.u; omega,by have:=h.j; omega⟩
section
variable {c:aH} (T:T7 c)
include T
section
variable {t:aS} (F:FF c c t) {u j:List Int} (U:CQ c c (Ab c) t false u) (J:CQ c c (sb t t) t false j)
include F U J
end
end
end Go.Proofs.YtcnehblmgfbfoaaGreat
namespace Go.Proofs.YtcnehblmgfbfoaaGreat
open Go Go.Li
set_option linter.unusedVariables false
set_option linter.unusedSectionVars false
set_option linter.unusedSimpArgs false
def um (l:List Int):ByteArray:=strOfNums (l.map (fun n=>IntKind.u8.wrap n)++[255])
theorem wm {l:List Int} (hl:l.length≤1048576):mI [l]=some (um l):=by
 unfold mI
 refine (congrArg an (bu [l] (fun i=>(if i=0 then [] else l.map (fun n=>IntKind.u8.wrap n)++[255],(i:Int))) (e:=(l.map (fun n=>IntKind.u8.wrap n)++[255],1)) rfl ?_ ?_)).trans rfl
 ·intro i y hy
  obtain rfl:i=0:=by have:=bd hy; simp at this; exact this
  obtain rfl:l=y:=by simpa using hy
  show mA [l] [] ((0:Nat):Int)=_
  unfold mA
  have:idx [l] ((0:Nat):Int)=some l:=by rw [bh]; rfl
  rw [aq (by simp),cond_true,this,aA]
  refine (bu l (fun i=>((l.take i).map (fun n=>IntKind.u8.wrap n),(i:Int))) (e:=(l.map (fun n=>IntKind.u8.wrap n),(l.length:Int))) rfl ?_ ?_).trans ?_
  ·intro i n hn
   have hi:=bd hn
   have ht:((l.take i).map (fun n=>IntKind.u8.wrap n)).length≤1048576:=by rw [List.length_map,List.length_take]; omega
   show lZ l ((l.take i).map (fun n=>IntKind.u8.wrap n)) (i:Int)=_
   unfold lZ
   rw [aq (by omega),cond_true,bh,hn,aA,cR (by omega) (by omega),aA,bK (by omega),ee hn,List.map_append]; rfl
  ·show lZ l _ _=_
   unfold lZ
   rw [au (by omega),cond_false,List.take_length]
  ·have ht:(l.map (fun n=>IntKind.u8.wrap n)).length≤1048576:=by rw [List.length_map]; omega
   show (fits 1 ((l.map (fun n=>IntKind.u8.wrap n)).length+1)>>=_)=_
   rw [cR (by omega) (by omega),aA,bK (by omega)]; rfl
 ·show mA [l] _ _=_
  unfold mA
  rw [au (by simp),cond_false]; rfl
theorem Tv {n:Int} (h0:0≤n) (h1:n < 256):IntKind.u8.wrap n=n:=by
 unfold IntKind.wrap
 have:n % (2 ^ IntKind.u8.bits:Int)=n:=by
  show n % 256=n
  omega
 rw [this]
 rfl
theorem Tw {m n:Int} (m0:0≤m) (m1:m < 256) (n0:0≤n) (n1:n < 256) (h:UInt8.ofNat m.toNat=UInt8.ofNat n.toNat):m=n:=by
 have h2:=congrArg UInt8.toNat h
 rw [UInt8.toNat_ofNat',UInt8.toNat_ofNat',Nat.mod_eq_of_lt (by omega),Nat.mod_eq_of_lt (by omega)] at h2
 omega
def AN (l:List Int):Prop:=∀ y∈l,0≤y∧y < 256
theorem Xv:∀ {l k:List Int},AN l→AN k→l.map (fun n=>UInt8.ofNat n.toNat)=k.map (fun n=>UInt8.ofNat n.toNat)→l=k:=by
 intro l
 induction l with
 | nil=>intro k _ _ h; cases k with | nil=>rfl | cons b k=>simp at h
 | cons a l ih=>
  intro k h1 h2 h
  cases k with
  | nil=>simp at h
  | cons b k=>
   rw [List.map_cons,List.map_cons] at h
   injection h with h3 h4
   have ha:=h1 a (by simp)
   have hb:=h2 b (by simp)
   rw [Tw ha.1 ha.2 hb.1 hb.2 h3,ih (fun y hy=>h1 y (by simp [hy])) (fun y hy=>h2 y (by simp [hy])) h4]
theorem Lk {l k:List Int} (h1:AN l) (h2:AN k) (h:um l=um k):l=k:=by
 have wr:∀ {l:List Int},AN l→l.map (fun n=>IntKind.u8.wrap n)=l:=by
  intro l hl
  have:l.map (fun n=>IntKind.u8.wrap n)=l.map id:=List.map_congr_left fun y hy=>Tv (hl y hy).1 (hl y hy).2
  rw [this,List.map_id]
 unfold um at h
 rw [wr h1,wr h2] at h
 have h3:=congrArg (fun b:ByteArray=>b.data.toList) h
 simp only [strOfNums_data,List.map_append] at h3
 exact Xv h1 h2 (List.append_cancel_right h3)
theorem Ll:∀ {l:List (ByteArray×Int)} {k:ByteArray} {v:Int},(∀ p∈l,p.1≠k)→tG l k v=l++[(k,v)]:=by
 intro l
 induction l with
 | nil=>intro k v _; rfl
 | cons p l ih=>
  intro k v h
  have h1:(p.1 == k)=false:=by
   cases e:(p.1 == k) with
   | false=>rfl
   | true=>exact absurd ((MapKept.bytes_beq _ _).1 e) (h p (by simp))
  unfold tG
  rw [h1,cond_false,ih fun q hq=>h q (by simp [hq])]; rfl
theorem Lm {K:Int→ByteArray}:∀ {l:List Int} {j:Int},j∈l→(∀ i∈l,K i=K j→i=j)→qn (l.map fun i=>(K i,i)) (K j)=some j:=by
 intro l
 induction l with
 | nil=>intro j h; cases h
 | cons a l ih=>
  intro j hj hi
  rw [List.map_cons]
  unfold qn
  cases e:(K a == K j) with
  | true=>
   have:=hi a (by simp) ((MapKept.bytes_beq _ _).1 e)
   rw [cond_true]
   show some a=some j
   rw [this]
  | false=>
   have mz:j≠a:=fun h=>by rw [h] at e; rw [(MapKept.bytes_beq _ _).2 rfl] at e; cases e
   rw [cond_false]
   exact ih ((List.mem_cons.1 hj).resolve_left mz) fun i h=>hi i (by simp [h])
structure Kt (A:List (List Int)):Prop where
 n:A.length≤300000
 nd:A.Nodup
 l:∀ r∈A,r.length=3
 b:∀ r∈A,AN r
theorem Je {A:List (List Int)} (nd:A.Nodup) {i j:Int} (i0:0≤i) (i1:i < A.length) (j0:0≤j) (j1:j < A.length) (h:gr A i=gr A j):i=j:=by
 unfold gr at h
 rw [List.getD_eq_getElem?_getD,List.getD_eq_getElem?_getD,List.getElem?_eq_getElem (by omega),List.getElem?_eq_getElem (by omega)] at h
 have h':A[i.toNat]'(by omega)=A[j.toNat]'(by omega):=h
 have k:=List.pairwise_iff_getElem.1 nd
 rcases Nat.lt_trichotomy i.toNat j.toNat with hl | hl | hl
 ·exact absurd h' (k _ _ (by omega) (by omega) hl)
 ·omega
 ·exact absurd h'.symm (k _ _ (by omega) (by omega) hl)
def rL (A:List (List Int)):List (ByteArray×Int):=br A.length fun i=>(um (gr A i),i)
section
variable {A:List (List Int)} (H:Kt A)
include H
theorem RG {i j:Int} (i0:0≤i) (i1:i < A.length) (j0:0≤j) (j1:j < A.length) (h:um (gr A i)=um (gr A j)):i=j:=
 Je H.nd i0 i1 j0 j1 (Lk (H.b _ (jr i0 i1)) (H.b _ (jr j0 j1)) h)
theorem zB:mB A=some (rL A):=by
 have hn:=H.n
 unfold mB
 refine (congrArg an (bu (ns A.length) (fun i=>(br i (fun i=>(um (gr A i),i)),(i:Int))) (e:=(rL A,(A.length:Int))) rfl ?_ ?_)).trans rfl
 ·intro i x hx
  obtain ⟨rfl,hi⟩:=ca hx
  have hr:=H.l _ (jr (l:=A) (j:=(i:Int)) (by omega) (by omega))
  show jY A (br i _,(i:Int))=_
  unfold jY
  dsimp only
  rw [aq (by omega),cond_true,jt (by omega) (by omega),aA,wm (by omega),aA,bK (by omega),Ll,gn]
  intro p hp e
  obtain ⟨j,⟨j0,j1⟩,rfl⟩:=ze.1 hp
  have:=RG H j0 (by omega) (by omega) (by omega) e
  omega
 ·show jY A (br _ _,_)=_
  unfold jY
  dsimp only
  rw [bS,au (by omega),cond_false]; rfl
theorem Db {r:List Int} (hr:r∈A):(qn (rL A) (um r)).getD 0=gx A r:=by
 obtain ⟨⟨j0,j1⟩,e⟩:=(sn r H.n H.l).2 hr
 have h:qn (rL A) (um (gr A (gx A r)))=some (gx A r):=Lm (K:=fun i=>um (gr A i)) (cu.2 ⟨j0,j1⟩) fun i hi h=>by
  have:=cu.1 hi
  exact RG H this.1 this.2 j0 j1 h
 rw [e] at h
 rw [h]; rfl
theorem P7 {j:Int} (j0:0≤j) (j1:j < A.length):gx A (gr A j)=j:=by
 obtain ⟨⟨k0,k1⟩,e⟩:=(sn (gr A j) H.n H.l).2 (jr j0 j1)
 exact Je H.nd k0 k1 j0 j1 e
end
def nm (A:List (List Int)) (k:Int):List Int:=br A.length fun i=>gi (gr A i) k
theorem o7 {A:List (List Int)} {k i:Int} (i0:0≤i) (i1:i < A.length):gi (nm A k) i=gi (gr A i) k:=tx i0 i1
section
variable {A:List (List Int)} (hn:A.length≤300000) (h3:∀ r∈A,r.length=3) {k:Int} (k0:0≤k) (k3:k < 3)
include hn h3 k0 k3
theorem wk:fU A k=some (nm A k):=by
 unfold fU
 refine (congrArg an (uj A.length (fun i=>gi (gr A i) k) (fun acc i=>(acc,(i:Int))) rfl ?_ ?_)).trans rfl
 ·intro i acc hi ha
  have hr:=h3 _ (jr (l:=A) (j:=(i:Int)) (by omega) (by omega))
  show gR A k acc i=_
  unfold gR
  rw [aq (by omega),cond_true,jt (by omega) (by omega),aA,cI k0 (by omega),aA,cR (by omega) (by omega),aA,bK (by omega)]
 ·intro acc ha
  show gR A k acc _=_
  unfold gR
  rw [au (by omega),cond_false]
theorem wo:jK A k=some (nm A k):=by
 unfold jK
 refine (congrArg an (uj A.length (fun i=>gi (gr A i) k) (fun acc i=>(acc,(i:Int))) rfl ?_ ?_)).trans rfl
 ·intro i acc hi ha
  have hr:=h3 _ (jr (l:=A) (j:=(i:Int)) (by omega) (by omega))
  show jZ A k acc i=_
  unfold jZ
  rw [aq (by omega),cond_true,jt (by omega) (by omega),aA,cI k0 (by omega),aA,cR (by omega) (by omega),aA,bK (by omega)]
 ·intro acc ha
  show jZ A k acc _=_
  unfold jZ
  rw [au (by omega),cond_false]
end
def jw (c:aH) (G:Int→Int→Int) (f h:Int):Int:=bif gi c.To f == gi c.aF h then G f h else -1
def jv (c:aH) (G:Int→Int→Int):List (List Int):=br c.aF.length fun f=>br c.aF.length fun h=>jw c G f h
theorem set_set {α:Type} (l:List α) (i:Nat) (a b:α):(l.set i a).set i b=l.set i b:=by simp
theorem ym {α:Type} {l:List α} {i:Nat} (h:i < l.length) (a:α):idx (l.set i a) (i:Int)=some a:=by rw [bh,List.getElem?_set_self h]
theorem Bo {c:aH} {g:Int→Int→Option Int} {G:Int→Int→Int} (hn:c.aF.length≤1000) (ht:c.To.length=c.aF.length)
  (hg:∀ f h:Int,0≤f→f < c.aF.length→0≤h→h < c.aF.length→gi c.To f=gi c.aF h→g f h=some (G f h)) :
  eS c g=some (aH.mk c.aD c.aF c.To c.aG (jv c G)):=by
 have tl:(jv c G).length=c.aF.length:=bX _ _
 unfold eS
 rw [show cE c=some (c.aF.length:Int) from rfl,aA,wK (by omega) (by omega),aA]
 refine (congrArg Cm (bu (jv c G) (fun i=>((i:Int),(jv c G).take i++List.replicate ((jv c G).length - i) ([]:List Int))) (e:=((c.aF.length:Int),jv c G)) (by simp [tl]) ?_ ?_)).trans rfl
 ·intro i row bo
  have hi:=bd bo
  rw [tl] at hi
  have hr:row=br c.aF.length fun h=>jw c G i h:=by
   have:=rX (fun f=>br c.aF.length fun h=>jw c G f h) hi
   rw [show (jv c G)[i]? = _ from this] at bo
   exact (Option.some.inj bo).symm
  have rl:row.length=c.aF.length:=by rw [hr,bX]
  have dn:((jv c G).take i++List.replicate ((jv c G).length - i) ([]:List Int)).length=c.aF.length:=by simp [tl]; omega
  have xe:=rW (jv c G) ([]:List Int) bo
  have RH:=get_copy (jv c G) ([]:List Int) bo
  generalize (jv c G).take i++List.replicate ((jv c G).length - i) ([]:List Int)=o at dn xe RH
  show eZ c g (c.aF.length:Int) c.aF.length (i:Int) o=_
  unfold eZ
  rw [List.length_replicate,aq (by omega),cond_true,wK (by omega) (by omega),aA,bh,RH,aA,Int.toNat_natCast,ym (by omega),aA]
  refine (bu row (fun j=>((j:Int),o.set i (row.take j++List.replicate (row.length - j) (0:Int)))) (e:=((c.aF.length:Int),o.set i row)) (by simp [rl]) ?_ ?_).trans ?_
  ·intro j v hv
   have hj:=bd hv
   rw [rl] at hj
   have nt:v=jw c G i j:=by
    have:=rX (fun h=>jw c G i h) hj
    rw [hr,show (br c.aF.length fun h=>jw c G i h)[j]? = _ from this] at hv
    exact (Option.some.inj hv).symm
   have Cg:(row.take j++List.replicate (row.length - j) (0:Int)).length=c.aF.length:=by simp; omega
   have G7:=rW row (0:Int) hv
   have MG:=get_copy row (0:Int) hv
   generalize row.take j++List.replicate (row.length - j) (0:Int)=e at Cg G7 MG
   show eY c g (i:Int) (List.replicate c.aF.length (0:Int)) (j:Int) (o.set i e)=_
   unfold eY
   rw [List.length_replicate,aq (by omega),cond_true,ym (by omega),aA,bh,MG,aA,cI (by omega) (by omega),aA,cI (by omega) (by omega),aA,Int.toNat_natCast,Int.toNat_natCast,set_set,ym (by omega)]
   unfold jw at nt
   by_cases ec:gi c.To i=gi c.aF j
   ·rw [np ec] at nt ⊢
    rw [cond_true,aA,hg i j (by omega) (by omega) (by omega) (by omega) ec,aA,ym (by omega),aA,set_set,set_set,bK (by omega)]
    rw [cond_true] at nt
    rw [← nt,G7]
   ·rw [kh ec] at nt ⊢
    rw [cond_false] at nt
    rw [cond_false,bK (by omega),← nt,G7]
  ·show eY c g _ _ _ _=_
   unfold eY
   rw [List.length_replicate,au (by omega),cond_false]
   simp [List.take_of_length_le (Nat.le_of_eq rl),rl]
  ·dsimp only
   rw [xe,bK (by omega)]
 ·show eZ c g _ _ _ _=_
  unfold eZ
  rw [List.length_replicate,au (by omega),cond_false]
  simp [List.take_of_length_le (Nat.le_of_eq tl),tl]
end Go.Proofs.YtcnehblmgfbfoaaGreat
