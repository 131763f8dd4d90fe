/- Whether a functor is an equivalence: both sides test alike, and what the test says. No condition beside those that each theorem names. -/
import Derived.Test.YtcnehblmgfbfoaaGreatTn
import Derived.Test.YtcnehblmgfbfoaaGreatVu
set_option linter.unusedVariables false
set_option linter.unusedSectionVars false
set_option linter.unusedSimpArgs false
namespace Go.Proofs.YtcnehblmgfbfoaaGreat
open Go Go.Li
set_option linter.unusedVariables false
set_option linter.unusedSectionVars false
set_option linter.unusedSimpArgs false
theorem EC {S R:Type} (l:List Int) (p:Int→Bool) (Y:Int→R) {body:Int→Option (Out Int R)} {k:Nat} {f:Int→Option (Out S R)}
  (step:∀ (i:Nat) (g:Int),l[i]? = some g→body (i:Int)=bif p g then some (.ret (Y g)) else some (.norm ((i+1:Nat):Int))) (last:body (l.length:Int)=some (.exit k (l.length:Int))) :
  aj (ag k (ai body (0:Int))) f=match l.find? p with | some g=>some (.ret (Y g)) | none=>f (l.length:Int):=by
 have key:∀ (m:List Int) (i:Nat),l.drop i=m→i≤l.length→ai body (i:Int)=some (match m.find? p with | some g=>.ret (Y g) | none=>.exit k (l.length:Int)):=by
  intro m
  induction m with
  | nil=>
   intro i hd hi
   have:i=l.length:=by have:=congrArg List.length hd; simp at this; omega
   subst this
   exact o7 last
  | cons x m ih=>
   intro i hd hi
   have bo:i < l.length:=by
    rcases Nat.lt_or_ge i l.length with h | h
    ·exact h
    ·rw [List.drop_eq_nil_of_le h] at hd; cases hd
   have hx:l[i]? = some x:=by
    rw [List.drop_eq_getElem_cons bo] at hd
    rw [List.getElem?_eq_getElem bo]; exact congrArg some (List.cons.inj hd).1
   have ie:l.drop (i+1)=m:=by
    rw [List.drop_eq_getElem_cons bo] at hd; exact (List.cons.inj hd).2
   cases hp:p x with
   | true=>rw [List.find?_cons,hp]; exact vh (by rw [step i x hx,hp]; rfl)
   | false=>rw [nk,step i x hx,hp,List.find?_cons,hp]; exact ih (i+1) ie bo
 have h:=key l 0 rfl (Nat.zero_le _)
 cases hf:l.find? p with
 | some g=>rw [hf] at h; exact wi h
 | none=>rw [hf] at h; exact sB h
def ED (l:List Int) (p:Int→Bool):Int:=(l.find? p).getD (-1)
theorem zG {l:List Int} {p:Int→Bool} {body:Int→Option (Out Int Int)} {k:Nat}
  (step:∀ (i:Nat) (g:Int),l[i]? = some g→body (i:Int)=bif p g then some (.ret g) else some (.norm ((i+1:Nat):Int))) (last:body (l.length:Int)=some (.exit k (l.length:Int))) :
  an (S:=Unit) (aj (ag k (ai body (0:Int))) fun _=>some (.ret (-1)))=some (ED l p):=by
 rw [EC l p (fun g=>g) step last]
 unfold ED
 cases l.find? p <;> rfl
theorem Ph {c:aJ} {x y:Int}:∀ g∈du c x y,0≤g:=fun g hg=>(jj.1 hg).1.1
theorem rG (c:aJ) (x y:Int):(du c x y).length≤c.aH.length:=Nat.le_trans (List.length_filter_le _ _) (by rw [cJ]; exact Nat.le_refl _)
def Bm (c:aJ) (f:Int):Int:=ED (du c (gi c.To f) (gi c.aH f)) (GW c f)
def xe (c:aJ) (x y:Int):Int:=ED (du c x y) fun g=>decide (Bm c g ≥ 0)
theorem J0 {c:aJ} (H:gj c):T7 c:=by
 have o8:=H.o8
 have hm:=H.m
 have o0:=H.o0
 have kr:∀ r∈c.aG,r.length=c.aH.length:=fun r hr=>by
  obtain ⟨j,j0,j1,rfl⟩:=J1 hr
  exact H.row j j0 (by have:=H.kl; omega)
 refine ⟨⟨H.o0,H.f,H.tl,H.t,H.kl,kr,H.il,H.i,H.BZ,H.GC,fun f g f0 f1 g0 g1 e=>?_,fun f g f0 f1 g0 g1 e=>H.none f g f0 f1 g0 g1 e,fun x x0 x1=>?_⟩,by omega,by omega,⟨by omega,by have:=H.tl; omega,by have:=H.il; omega,by have:=H.kl; omega,fun r hr=>by have:=kr r hr; omega⟩⟩
 ·have:=H.cell f g f0 f1 g0 g1 e
  exact ⟨⟨this.1,this.2.1⟩,this.2.2⟩
 ·have k:=H.id x0 x1
  have:=H.Ad _ k.1 k.2
  rwa [H.BZ x x0 x1] at this
section
variable {c:aJ} (T:T7 c)
include T
theorem N5 {x y z u v:Int} (h:ch c x y u) (h':ch c y z v):ch c x z (gk c.aG u v):=by
 have:=T.t.cell u v h.1.1 h.1.2 h'.1.1 h'.1.2 (by rw [h.2.2,h'.2.1])
 exact ⟨this.1,by rw [this.2.1,h.2.1],by rw [this.2.2,h'.2.2]⟩
theorem CE (x y:Int):fT c x y=some (du c x y):=by
 have hm:=T.m
 unfold fT
 refine (congrArg an (sW (ns c.aH.length) (xz c x y) (fun acc i=>(acc,(i:Int))) rfl ?_ ?_)).trans rfl
 ·intro i a acc ha r9
  obtain ⟨rfl,hi⟩:=cj ha
  show fW c x y acc i=_
  unfold fW
  have e1:=T.t.fx (f:=(i:Int)) (by omega) (by omega)
  have e3:=T.t.gw (f:=(i:Int)) (by omega) (by omega)
  rw [ao (by omega),cond_true,eB (by omega) (by omega)]
  simp only [e1,e3,aB,bR (show i < 9223372036854775807 by omega)]
  unfold xz
  cases gi c.aH (i:Int) == x with
  | false=>rfl
  | true=>cases gi c.To (i:Int) == y <;> rfl
 ·intro acc
  show fW c x y acc _=_
  unfold fW
  rw [cJ,av (by omega),cond_false]
theorem J2 {x f:Int} (h:ch c x x f):eJ c f=some (gi c.aI x == f):=by
 have k:=T.t.fr h.1.1 h.1.2
 rw [h.2.1] at k
 unfold eJ
 rw [T.t.fx h.1.1 h.1.2,aB,h.2.1,T.t.lg k.1 k.2,aB]; rfl
theorem SJ {f:Int} (f0:0≤f) (f1:f < c.aH.length):nC c f=some (Bm c f):=by
 have hm:=T.m
 unfold nC
 rw [T.t.gw f0 f1,aB,T.t.fx f0 f1,aB,CE T,aB]
 refine zG (l:=du c (gi c.To f) (gi c.aH f)) (p:=GW c f) (fun i g hg=>?_) ?_
 ·have L:=jj.1 (List.mem_of_getElem? hg)
  have hi:=bc hg
  have hl:=rG c (gi c.To f) (gi c.aH f)
  have lf:ch c (gi c.aH f) (gi c.To f) f:=⟨⟨f0,f1⟩,rfl,rfl⟩
  have c1:=N5 T lf L
  have c2:=N5 T L lf
  show iX c f (du c (gi c.To f) (gi c.aH f)) (i:Int)=_
  unfold iX GW
  rw [ao (by omega),cond_true,bf,hg,aB,J3 T.t f0 f1 L.1.1 L.1.2,aB,J2 T c1,aB,aB,J3 T.t L.1.1 L.1.2 f0 f1,aB,J2 T c2,aB,aB,bR (by omega),show (gi c.aI (gi c.aH f) == gk c.aG f g)=(gk c.aG f g == gi c.aI (gi c.aH f)) from Bool.beq_comm,show (gi c.aI (gi c.To f) == gk c.aG g f)=(gk c.aG g f == gi c.aI (gi c.To f)) from Bool.beq_comm]
  cases gk c.aG f g == gi c.aI (gi c.aH f) <;> cases gk c.aG g f == gi c.aI (gi c.To f) <;> rfl
 ·show iX c f (du c (gi c.To f) (gi c.aH f)) _=_
  unfold iX
  rw [av (by omega),cond_false]
theorem SK (x y:Int):oB c x y=some (decide (xe c x y ≥ 0)):=by
 have hm:=T.m
 unfold oB
 rw [CE T,aB]
 refine (congrArg an (EC (S:=Unit) (du c x y) (fun g=>decide (Bm c g ≥ 0)) (fun _=>true) (k:=0) (f:=fun _=>some (.ret false)) (body:=mO c (du c x y)) (fun i g hg=>?_) ?_)).trans ?_
 ·have L:=jj.1 (List.mem_of_getElem? hg)
  have hi:=bc hg
  have hl:=rG c x y
  unfold mO
  rw [ao (by omega),cond_true,bf,hg,aB,SJ T L.1.1 L.1.2,aB,bR (by omega)]
 ·unfold mO
  rw [av (by omega),cond_false]
 ·unfold xe ED
  cases e:(du c x y).find? fun g=>decide (Bm c g ≥ 0) with
  | some g=>rw [show decide ((some g).getD (-1) ≥ 0)=true from ao (Ph g (List.mem_of_find?_eq_some e))]; rfl
  | none=>rfl
end
section
variable {c:aJ} (H:gj c)
include H
theorem SM {f:Int} (f0:0≤f) (f1:f < c.aH.length):jH c f=some (Bm c f):=by
 have hm:=H.m
 have hf:=H.fr f0 f1
 have ht:=H.to f0 f1
 unfold jH
 rw [H.fx f0 f1,aB,H.gw f0 f1,aB,Bb H,aB]
 refine zG (l:=du c (gi c.To f) (gi c.aH f)) (p:=GW c f) (fun i g hg=>?_) ?_
 ·have hr:=(jj.1 (List.mem_of_getElem? hg)).1
  have hi:=bc hg
  have hl:=rG c (gi c.To f) (gi c.aH f)
  show fR c f (gi c.aH f) (gi c.To f) (du c (gi c.To f) (gi c.aH f)) (i:Int)=_
  unfold fR GW
  rw [ao (by omega),cond_true,bf,hg,aB,H.topP.kj f0 f1 hr.1 hr.2,aB,H.lg hf.1 hf.2,aB,H.topP.kj hr.1 hr.2 f0 f1,aB,H.lg ht.1 ht.2,aB,bR (by omega)]
  cases gk c.aG f g == gi c.aI (gi c.aH f) <;> rfl
 ·show fR c f (gi c.aH f) (gi c.To f) (du c (gi c.To f) (gi c.aH f)) _=_
  unfold fR
  rw [av (by omega),cond_false]
theorem SN (x y:Int):hP c x y=some (xe c x y):=by
 have hm:=H.m
 unfold hP
 rw [Bb H,aB]
 refine zG (l:=du c x y) (p:=fun g=>decide (Bm c g ≥ 0)) (fun i g hg=>?_) ?_
 ·have L:=jj.1 (List.mem_of_getElem? hg)
  have hi:=bc hg
  have hl:=rG c x y
  show fE c (du c x y) (i:Int)=_
  unfold fE
  rw [ao (by omega),cond_true,bf,hg,aB,SM H L.1.1 L.1.2,aB,bR (by omega)]
 ·show fE c (du c x y) _=_
  unfold fE
  rw [av (by omega),cond_false]
end
def xf (f:aN):Bool:=(ns f.aA.aE.toNat).any fun x=>(ns f.aA.aE.toNat).any fun y=>(du f.aF (gi f.aE x) (gi f.aE y)).any fun b=>!(hasB (thenS (du f.aA x y) f.ab) b)
def uO (f:aN):Bool:=(ns f.aA.aH.length).any fun a=>(ns a.toNat).any fun b=>(gi f.ab a == gi f.ab b) && (gi f.aA.aH a == gi f.aA.aH b && gi f.aA.To a == gi f.aA.To b)
def xg (f:aN):Bool:=(ns f.aF.aE.toNat).any fun y=>!((ns f.aE.length).any fun x=>decide (xe f.aF (gi f.aE x) y ≥ 0))
def GJ (f:aN):Bool:=!(xf f) && (!(uO f) && !(xg f))
theorem EE {S R:Type} {body:Int→Option (Out Int R)} {k:Nat} {f:Int→Option (Out S R)} (l:List Int) (p:Int→Bool) {y:R}
  (h:∀ (i:Nat) (g:Int),l[i]? = some g→body (i:Int)=bif p g then some (.ret y) else some (.norm ((i+1:Nat):Int))) (last:body (l.length:Int)=some (.exit k (l.length:Int))) :
  aj (ag k (ai body (0:Int))) f=bif l.any p then some (.ret y) else f (l.length:Int):=by
 refine (gh l p (fun i=>(i:Int)) rfl (e:=(l.length:Int)) (y:=y) (fun i g hg hp=>by rw [h i g hg,hp]; rfl) (fun i g hg hp=>by rw [h i g hg,hp]; rfl) last).trans ?_
 cases l.any p <;> rfl
section
variable {a b:aJ} {f:aN} (T:T7 a) (U:T7 b) (F:FF a b f)
include T U F
theorem Pj (x y:Int):∀ u∈du a x y,0≤u∧u < f.ab.length:=fun u hu=>by
 have:=(jj.1 hu).1
 have al:=F.ar.1.len
 omega
theorem Mg:oR f=some (!(xf f)):=by
 obtain rfl:=F.s
 obtain rfl:=F.t
 have o0:=T.t.o0
 have o8:=T.o
 have cm:=T.m
 have dm:=U.m
 unfold oR xf
 rw [ke (n:=f.aA.aE.toNat) (fun x=>(ns f.aA.aE.toNat).any fun y=>(du f.aF (gi f.aE x) (gi f.aE y)).any fun b=>!(hasB (thenS (du f.aA x y) f.ab) b)) (y:=false) (fun i hi=>?_) (by unfold oQ; rw [av (by omega),cond_false])]
 ·cases (ns f.aA.aE.toNat).any _ <;> rfl
 ·unfold oQ
  rw [ao (by omega),cond_true,ke (n:=f.aA.aE.toNat) (fun y=>(du f.aF (gi f.aE i) (gi f.aE y)).any fun b=>!(hasB (thenS (du f.aA i y) f.ab) b)) (y:=false) (fun j hj=>?_) (by unfold oP; rw [av (by omega),cond_false])]
  ·rw [bR (by omega)]
  ·have l1:=rG f.aA (i:Int) (j:Int)
   have l2:=rG f.aF (gi f.aE i) (gi f.aE j)
   unfold oP
   rw [ao (by omega),cond_true,CE T,aB]
   show ((kF (du f.aA i j) f.ab)>>=_)=_
   rw [yo _ _ (by omega) (Pj T U F _ _),aB,(V3 T U F (by omega) (by omega)).1,aB,(V3 T U F (by omega) (by omega)).1,aB,CE U,aB]
   show aj (ag 4 (ai (nB (thenS (du f.aA i j) f.ab) (du f.aF (gi f.aE i) (gi f.aE j))) (0:Int))) _=_
   rw [EE (du f.aF (gi f.aE i) (gi f.aE j)) (fun b=>!(hasB (thenS (du f.aA i j) f.ab) b)) (y:=false) (fun k b hb=>?_) (by unfold nB; rw [av (by omega),cond_false]),bR (by omega)]
   have hk:=bc hb
   unfold nB
   rw [ao (by omega),cond_true,bf,hb,aB,Pd _ _ (by rw [lp]; omega),aB,bR (by omega)]
theorem J4:mN f=some (!(uO f)):=by
 obtain rfl:=F.s
 obtain rfl:=F.t
 have cm:=T.m
 have al:=F.ar.1.len
 unfold mN uO
 rw [ke (n:=f.aA.aH.length) (fun a=>(ns a.toNat).any fun b=>(gi f.ab a == gi f.ab b) && (gi f.aA.aH a == gi f.aA.aH b && gi f.aA.To a == gi f.aA.To b)) (y:=false) (fun a ha=>?_) (by unfold mX; rw [av (by omega),cond_false])]
 ·cases (ns f.aA.aH.length).any _ <;> rfl
 ·unfold mX
  rw [ao (by omega),cond_true,ke (n:=a) (fun b=>(gi f.ab a == gi f.ab b) && (gi f.aA.aH a == gi f.aA.aH b && gi f.aA.To a == gi f.aA.To b)) (y:=false) (fun b hb=>?_) (by unfold mW; rw [av (by omega),cond_false]),bR (by omega)]
  ·rfl
  ·have hp:mM f.aA (a:Int) (b:Int)=some (gi f.aA.aH (a:Int) == gi f.aA.aH (b:Int) && gi f.aA.To (a:Int) == gi f.aA.To (b:Int)):=by
    unfold mM
    rw [T.t.fx (by omega) (by omega),aB,T.t.fx (by omega) (by omega),aB,T.t.gw (by omega) (by omega),aB,T.t.gw (by omega) (by omega),aB]
    cases gi f.aA.aH (a:Int) == gi f.aA.aH (b:Int) <;> rfl
   unfold mW
   rw [ao (by omega),cond_true,hp,aB,(V4 T U F (by omega) (by omega)).1,aB,(V4 T U F (by omega) (by omega)).1,aB,bR (by omega)]
   cases gi f.aA.aH (a:Int) == gi f.aA.aH (b:Int) <;> cases gi f.aA.To (a:Int) == gi f.aA.To (b:Int) <;> cases gi f.ab (a:Int) == gi f.ab (b:Int) <;> rfl
theorem Mh:lB f=some (!(xg f)):=by
 obtain rfl:=F.s
 obtain rfl:=F.t
 have o0:=U.t.o0
 have o8:=U.o
 have so:=T.o
 have ol:=F.ol
 unfold lB xg
 rw [ke (n:=f.aF.aE.toNat) (fun y=>!((ns f.aE.length).any fun x=>decide (xe f.aF (gi f.aE x) y ≥ 0))) (y:=false) (fun i hi=>?_) (by unfold mC; rw [av (by omega),cond_false])]
 ·cases (ns f.aF.aE.toNat).any _ <;> rfl
 ·unfold mC
  rw [ao (by omega),cond_true]
  refine (cw (ns f.aE.length) (fun j=>((ns j).any fun x=>decide (xe f.aF (gi f.aE x) i ≥ 0),(j:Int))) rfl (e:=((ns f.aE.length).any fun x=>decide (xe f.aF (gi f.aE x) i ≥ 0),(f.aE.length:Int))) (fun j x hx=>?_) ?_).trans ?_
  ·obtain ⟨rfl,hj⟩:=cj hx
   show gP f (i:Int) _ (j:Int)=_
   unfold gP
   rw [ao (by omega),cond_true,zH,List.any_append,dE (by omega) (by omega),aB,SK U,aB,bR (by omega)]
   cases (ns j).any _ <;> simp
  ·show gP f (i:Int) _ _=_
   unfold gP
   rw [cJ,av (by omega),cond_false]
  ·dsimp only
   rw [bR (by omega)]
theorem Pk:iG f=some (GJ f):=by
 unfold iG GJ
 rw [Mg T U F,J4 T U F,Mh T U F]
 cases xf f <;> cases uO f <;> cases xg f <;> rfl
end
section
variable {f:aN} (hf:dk f=true)
include hf
theorem Pm (x y:Int):∀ a∈du f.aA x y,0≤a∧a < f.ab.length:=fun a ha=>by
 have F:=bw hf
 have:=(jj.1 ha).1
 have al:=F.al
 omega
theorem Mi:kQ f=some (!(xf f)):=by
 have F:=bw hf
 have C:=F.c
 have D:=F.d
 have o0:=C.o0
 have o8:=C.o8
 have cm:=C.m
 have dm:=D.m
 unfold kQ xf
 rw [ke (n:=f.aA.aE.toNat) (fun x=>(ns f.aA.aE.toNat).any fun y=>(du f.aF (gi f.aE x) (gi f.aE y)).any fun b=>!(hasB (thenS (du f.aA x y) f.ab) b)) (y:=false) (fun i hi=>?_) (by unfold lN; rw [av (by omega),cond_false])]
 ·cases (ns f.aA.aE.toNat).any _ <;> rfl
 ·unfold lN
  rw [ao (by omega),cond_true,ke (n:=f.aA.aE.toNat) (fun y=>(du f.aF (gi f.aE i) (gi f.aE y)).any fun b=>!(hasB (thenS (du f.aA i y) f.ab) b)) (y:=false) (fun j hj=>?_) (by unfold lM; rw [av (by omega),cond_false])]
  ·rw [bR (by omega)]
  ·have l1:=rG f.aA (i:Int) (j:Int)
   have l2:=rG f.aF (gi f.aE i) (gi f.aE j)
   unfold lM
   rw [ao (by omega),cond_true,Bb C,aB]
   show ((nI (du f.aA i j) f.ab)>>=_)=_
   rw [zI _ _ (by omega) (Pm hf _ _),aB,F.qo (by omega) (by omega),aB,F.qo (by omega) (by omega),aB,Bb D,aB]
   show aj (ag 4 (ai (iR (thenS (du f.aA i j) f.ab) (du f.aF (gi f.aE i) (gi f.aE j))) (0:Int))) _=_
   rw [EE (du f.aF (gi f.aE i) (gi f.aE j)) (fun b=>!(hasB (thenS (du f.aA i j) f.ab) b)) (y:=false) (fun k b hb=>?_) (by unfold iR; rw [av (by omega),cond_false]),bR (by omega)]
   have hk:=bc hb
   unfold iR
   rw [ao (by omega),cond_true,bf,hb,aB,Pe _ _ (by rw [lp]; omega),aB,bR (by omega)]
theorem J5:iF f=some (!(uO f)):=by
 have F:=bw hf
 have C:=F.c
 have cm:=C.m
 have al:=F.al
 unfold iF uO
 rw [ke (n:=f.aA.aH.length) (fun a=>(ns a.toNat).any fun b=>(gi f.ab a == gi f.ab b) && (gi f.aA.aH a == gi f.aA.aH b && gi f.aA.To a == gi f.aA.To b)) (y:=false) (fun a ha=>?_) (by unfold jN; rw [av (by omega),cond_false])]
 ·cases (ns f.aA.aH.length).any _ <;> rfl
 ·have hc:A4 f.ab (0:Int) (a:Int)=some (f.ab.take a):=by
   unfold A4
   rw [ao (by omega),cond_true]; simp
  have hl:(f.ab.take a).length=a:=by rw [List.length_take]; omega
  unfold jN
  rw [ao (by omega),cond_true,hc,aB,ke (n:=a) (fun b=>(gi f.ab a == gi f.ab b) && (gi f.aA.aH a == gi f.aA.aH b && gi f.aA.To a == gi f.aA.To b)) (y:=false) (fun b hb=>?_) (by unfold jM; rw [av (by omega),cond_false]),bR (by omega)]
  ·rfl
  ·unfold jM
   rw [ao (by omega),cond_true,F.lj (by omega) (by omega),aB,F.lj (by omega) (by omega),aB,wm C.topP.toHead (by omega) (by omega),aB,wm C.topP.toHead (by omega) (by omega),aB,bR (by omega)]
   cases gi f.ab (a:Int) == gi f.ab (b:Int) <;> rfl
theorem Mj:eV f=some (!(xg f)):=by
 have F:=bw hf
 have D:=F.d
 have o0:=D.o0
 have o8:=D.o8
 have so:=F.c.o8
 have ol:=F.ol
 unfold eV xg
 rw [ke (n:=f.aF.aE.toNat) (fun y=>!((ns f.aE.length).any fun x=>decide (xe f.aF (gi f.aE x) y ≥ 0))) (y:=false) (fun i hi=>?_) (by unfold fL; rw [av (by omega),cond_false])]
 ·cases (ns f.aF.aE.toNat).any _ <;> rfl
 ·unfold fL
  rw [ao (by omega),cond_true]
  refine (Pn (n:=f.aE.length) (fun x=>decide (xe f.aF (gi f.aE x) i ≥ 0)) rfl (fun j hj=>?_) ?_).trans ?_
  ·show dV f (i:Int) (j:Int)=_
   unfold dV
   rw [ao (by omega),cond_true,dE (by omega) (by omega),aB,SN D,aB,bR (by omega)]
  ·show dV f (i:Int) _=_
   unfold dV
   rw [av (by omega),cond_false]
  ·rw [bR (by omega)]
   cases (ns f.aE.length).any _ <;> rfl
theorem Ru:gN f=some (GJ f):=by
 unfold gN GJ
 rw [Mi hf,J5 hf,Mj hf]
 cases xf f <;> cases uO f <;> cases xg f <;> rfl
theorem Rs:iG f=some (GJ f):=Pk (J0 (bw hf).c) (J0 (bw hf).d) (SP (bw hf))
end
end Go.Proofs.YtcnehblmgfbfoaaGreat
