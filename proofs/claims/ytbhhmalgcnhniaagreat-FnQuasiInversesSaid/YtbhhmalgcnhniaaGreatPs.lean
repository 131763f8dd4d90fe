/- Whether a functor is an equivalence: both sides test alike, and what the test says. No condition beside those that each theorem names. -/
import Derived.Test.YtbhhmalgcnhniaaGreatTn
import Derived.Test.YtbhhmalgcnhniaaGreatVu
import Derived.Test.YtbhhmalgcnhniaaGreatYi
namespace Go.Proofs.YtbhhmalgcnhniaaGreat
open Go Go.Li
set_option linter.unusedVariables false
set_option linter.unusedSectionVars false
set_option linter.unusedSimpArgs false
theorem CG {S R:Type} (l:List Int) (p:Int→Bool) (Y:Int→R) {body:Int→Option (Out Int R)} {k:Nat} {f:Int→Option (Out S R)}
  (step:∀ (i:Nat) (g:Int),l[i]? = some g→body (i:Int)=bif p g then some (.ret (Y g)) else some (.norm ((i+1:Nat):Int))) (last:body (l.length:Int)=some (.exit k (l.length:Int))) :
  af (ae k (ag body (0:Int))) f=match l.find? p with | some g=>some (.ret (Y g)) | none=>f (l.length:Int):=by
 have key:∀ (m:List Int) (i:Nat),l.drop i=m→i≤l.length→ag body (i:Int)=some (match m.find? p with | some g=>.ret (Y g) | none=>.exit k (l.length:Int)):=by
  intro m
  induction m with
  | nil=>
   intro i hd hi
   have:i=l.length:=by have:=congrArg List.length hd; simp at this; omega
   subst this
   exact rq last
  | cons x m ih=>
   intro i hd hi
   have bh:i < l.length:=by
    rcases Nat.lt_or_ge i l.length with h | h
    ·exact h
    ·rw [List.drop_eq_nil_of_le h] at hd; cases hd
   have hx:l[i]? = some x:=by
    rw [List.drop_eq_getElem_cons bh] at hd
    rw [List.getElem?_eq_getElem bh]; exact congrArg some (List.cons.inj hd).1
   have iq:l.drop (i+1)=m:=by
    rw [List.drop_eq_getElem_cons bh] at hd; exact (List.cons.inj hd).2
   cases hp:p x with
   | true=>rw [List.find?_cons,hp]; exact x8 (by rw [step i x hx,hp]; rfl)
   | false=>rw [p5,step i x hx,hp,List.find?_cons,hp]; exact ih (i+1) iq bh
 have h:=key l 0 rfl (Nat.zero_le _)
 cases hf:l.find? p with
 | some g=>rw [hf] at h; exact AY h
 | none=>rw [hf] at h; exact vn h
def jd (l:List Int) (p:Int→Bool):Int:=(l.find? p).getD (-1)
theorem vq {l:List Int} {p:Int→Bool} {body:Int→Option (Out Int Int)} {k:Nat}
  (step:∀ (i:Nat) (g:Int),l[i]? = some g→body (i:Int)=bif p g then some (.ret g) else some (.norm ((i+1:Nat):Int))) (last:body (l.length:Int)=some (.exit k (l.length:Int))) :
  ak (S:=Unit) (af (ae k (ag body (0:Int))) fun _=>some (.ret (-1)))=some (jd l p):=by
 rw [CG l p (fun g=>g) step last]
 unfold jd
 cases l.find? p <;> rfl
theorem n5 {l:List Int} {p:Int→Bool} (h0:∀ g∈l,0≤g):(l.any p=true∧jd l p∈l∧p (jd l p)=true∧0≤jd l p)∨(l.any p=false∧jd l p = -1):=by
 unfold jd
 cases h:l.find? p with
 | some g=>
  have h1:=List.mem_of_find?_eq_some h
  have h2:=List.find?_some h
  exact .inl ⟨List.any_eq_true.2 ⟨g,h1,h2⟩,h1,h2,h0 g h1⟩
 | none=>
  refine .inr ⟨?_,rfl⟩
  rw [List.any_eq_false]
  exact fun x hx=>List.find?_eq_none.1 h x hx
theorem r7 {c:aG} {x y:Int}:∀ g∈bp c x y,0≤g:=fun g hg=>(cf.1 hg).1.1
theorem ml (c:aG) (x y:Int):(bp c x y).length≤c.aF.length:=Nat.le_trans (List.length_filter_le _ _) (by rw [cN]; exact Nat.le_refl _)
def mf (c:aG) (f:Int):Int:=jd (bp c (gi c.To f) (gi c.aF f)) (uP c f)
def ie (c:aG) (x y:Int):Int:=jd (bp c x y) fun g=>decide (mf c g ≥ 0)
theorem vT {c:aG} (H:lr c):T7 c:=by
 have o8:=H.o8
 have hm:=H.m
 have o0:=H.o0
 have kr:∀ r∈c.aC,r.length=c.aF.length:=fun r hr=>by
  obtain ⟨j,j0,j1,rfl⟩:=MI hr
  exact H.row j j0 (by have:=H.kl; omega)
 refine ⟨⟨H.o0,H.f,H.tl,H.t,H.kl,kr,H.il,H.i,H.u4,H.wu,fun f g f0 f1 g0 g1 e=>?_,fun f g f0 f1 g0 g1 e=>H.none f g f0 f1 g0 g1 e,fun x x0 x1=>?_⟩,by omega,by omega,⟨by omega,by have:=H.tl; omega,by have:=H.il; omega,by have:=H.kl; omega,fun r hr=>by have:=kr r hr; omega⟩⟩
 ·have:=H.cell f g f0 f1 g0 g1 e
  exact ⟨⟨this.1,this.2.1⟩,this.2.2⟩
 ·have k:=H.id x0 x1
  have:=H.FD _ k.1 k.2
  rwa [H.u4 x x0 x1] at this
section
variable {c:aG} (T:T7 c)
include T
theorem KC {x y z u v:Int} (h:dn c x y u) (h':dn c y z v):dn c x z (gk c.aC u v):=by
 have:=T.t.cell u v h.1.1 h.1.2 h'.1.1 h'.1.2 (by rw [h.2.2,h'.2.1])
 exact ⟨this.1,by rw [this.2.1,h.2.1],by rw [this.2.2,h'.2.2]⟩
theorem BR (x y:Int):eU c x y=some (bp c x y):=by
 have hm:=T.m
 unfold eU
 refine (congrArg ak (Fa (ns c.aF.length) (Ao c x y) (fun acc i=>(acc,(i:Int))) rfl ?_ ?_)).trans rfl
 ·intro i a acc ha Vl
  obtain ⟨rfl,hi⟩:=dg ha
  show iG c x y acc i=_
  unfold iG
  have e1:=T.t.ic (f:=(i:Int)) (by omega) (by omega)
  have e3:=T.t.ig (f:=(i:Int)) (by omega) (by omega)
  rw [ao (by omega),cond_true,cY (by omega) (by omega)]
  simp only [e1,e3,aE,bF (show i < 9223372036854775807 by omega)]
  unfold Ao
  cases gi c.aF (i:Int) == x with
  | false=>rfl
  | true=>cases gi c.To (i:Int) == y <;> rfl
 ·intro acc
  show iG c x y acc _=_
  unfold iG
  rw [cN,ay (by omega),cond_false]
theorem MJ {x f:Int} (h:dn c x x f):iQ c f=some (gi c.aH x == f):=by
 have k:=T.t.fr h.1.1 h.1.2
 rw [h.2.1] at k
 unfold iQ
 rw [T.t.ic h.1.1 h.1.2,aE,h.2.1,T.t.kz k.1 k.2,aE]; rfl
theorem HF {f:Int} (f0:0≤f) (f1:f < c.aF.length):iY c f=some (mf c f):=by
 have hm:=T.m
 unfold iY
 rw [T.t.ig f0 f1,aE,T.t.ic f0 f1,aE,BR T,aE]
 refine vq (l:=bp c (gi c.To f) (gi c.aF f)) (p:=uP c f) (fun i g hg=>?_) ?_
 ·have L:=cf.1 (List.mem_of_getElem? hg)
  have hi:=bb hg
  have hl:=ml c (gi c.To f) (gi c.aF f)
  have lf:dn c (gi c.aF f) (gi c.To f) f:=⟨⟨f0,f1⟩,rfl,rfl⟩
  have c1:=KC T lf L
  have c2:=KC T L lf
  show iS c f (bp c (gi c.To f) (gi c.aF f)) (i:Int)=_
  unfold iS uP
  rw [ao (by omega),cond_true,bu,hg,aE,A6 T.t f0 f1 L.1.1 L.1.2,aE,MJ T c1,aE,aE,A6 T.t L.1.1 L.1.2 f0 f1,aE,MJ T c2,aE,aE,bF (by omega),show (gi c.aH (gi c.aF f) == gk c.aC f g)=(gk c.aC f g == gi c.aH (gi c.aF f)) from Bool.beq_comm,show (gi c.aH (gi c.To f) == gk c.aC g f)=(gk c.aC g f == gi c.aH (gi c.To f)) from Bool.beq_comm]
  cases gk c.aC f g == gi c.aH (gi c.aF f) <;> cases gk c.aC g f == gi c.aH (gi c.To f) <;> rfl
 ·show iS c f (bp c (gi c.To f) (gi c.aF f)) _=_
  unfold iS
  rw [ay (by omega),cond_false]
theorem Vm (x y:Int):oH c x y=some (ie c x y):=by
 have hm:=T.m
 unfold oH
 rw [BR T,aE]
 refine vq (l:=bp c x y) (p:=fun g=>decide (mf c g ≥ 0)) (fun i g hg=>?_) ?_
 ·have L:=cf.1 (List.mem_of_getElem? hg)
  have hi:=bb hg
  have hl:=ml c x y
  show jY c (bp c x y) (i:Int)=_
  unfold jY
  rw [ao (by omega),cond_true,bu,hg,aE,HF T L.1.1 L.1.2,aE,aE,bF (by omega)]
 ·show jY c (bp c x y) _=_
  unfold jY
  rw [ay (by omega),cond_false]
theorem Vn (x y:Int):oG c x y=some (decide (ie c x y ≥ 0)):=by
 have hm:=T.m
 unfold oG
 rw [BR T,aE]
 refine (congrArg ak (CG (S:=Unit) (bp c x y) (fun g=>decide (mf c g ≥ 0)) (fun _=>true) (k:=0) (f:=fun _=>some (.ret false)) (body:=lW c (bp c x y)) (fun i g hg=>?_) ?_)).trans ?_
 ·have L:=cf.1 (List.mem_of_getElem? hg)
  have hi:=bb hg
  have hl:=ml c x y
  unfold lW
  rw [ao (by omega),cond_true,bu,hg,aE,HF T L.1.1 L.1.2,aE,bF (by omega)]
 ·unfold lW
  rw [ay (by omega),cond_false]
 ·unfold ie jd
  cases e:(bp c x y).find? fun g=>decide (mf c g ≥ 0) with
  | some g=>rw [show decide ((some g).getD (-1) ≥ 0)=true from ao (r7 g (List.mem_of_find?_eq_some e))]; rfl
  | none=>rfl
end
section
variable {c:aG} (H:lr c)
include H
theorem MK {f:Int} (f0:0≤f) (f1:f < c.aF.length):dZ c f=some (mf c f):=by
 have hm:=H.m
 have hf:=H.fr f0 f1
 have ht:=H.to f0 f1
 unfold dZ
 rw [H.ic f0 f1,aE,H.ig f0 f1,aE,yt H,aE]
 refine vq (l:=bp c (gi c.To f) (gi c.aF f)) (p:=uP c f) (fun i g hg=>?_) ?_
 ·have hr:=(cf.1 (List.mem_of_getElem? hg)).1
  have hi:=bb hg
  have hl:=ml c (gi c.To f) (gi c.aF f)
  show dF c f (gi c.aF f) (gi c.To f) (bp c (gi c.To f) (gi c.aF f)) (i:Int)=_
  unfold dF uP
  rw [ao (by omega),cond_true,bu,hg,aE,H.tosA.jv f0 f1 hr.1 hr.2,aE,H.kz hf.1 hf.2,aE,H.tosA.jv hr.1 hr.2 f0 f1,aE,H.kz ht.1 ht.2,aE,bF (by omega)]
  cases gk c.aC f g == gi c.aH (gi c.aF f) <;> rfl
 ·show dF c f (gi c.aF f) (gi c.To f) (bp c (gi c.To f) (gi c.aF f)) _=_
  unfold dF
  rw [ay (by omega),cond_false]
theorem ML (x y:Int):fO c x y=some (ie c x y):=by
 have hm:=H.m
 unfold fO
 rw [yt H,aE]
 refine vq (l:=bp c x y) (p:=fun g=>decide (mf c g ≥ 0)) (fun i g hg=>?_) ?_
 ·have L:=cf.1 (List.mem_of_getElem? hg)
  have hi:=bb hg
  have hl:=ml c x y
  show eV c (bp c x y) (i:Int)=_
  unfold eV
  rw [ao (by omega),cond_true,bu,hg,aE,MK H L.1.1 L.1.2,aE,bF (by omega)]
 ·show eV c (bp c x y) _=_
  unfold eV
  rw [ay (by omega),cond_false]
theorem R7 {x y g:Int} (h:dn c x y g) (hi:0≤mf c g):En c x y g (mf c g):=by
 have key:mf c g∈bp c y x∧uP c g (mf c g)=true:=by
  rcases n5 (p:=uP c g) (l:=bp c (gi c.To g) (gi c.aF g)) r7 with ⟨_,h1,h2,_⟩ | ⟨_,h2⟩
  ·exact ⟨by have:mf c g∈bp c (gi c.To g) (gi c.aF g):=h1; rwa [h.2.1,h.2.2] at this,h2⟩
  ·have:mf c g = -1:=h2
   omega
 obtain ⟨h1,h2⟩:=key
 unfold uP at h2
 simp only [Bool.and_eq_true,beq_iff_eq,h.2.1,h.2.2] at h2
 exact ⟨h,cf.1 h1,h2.1,h2.2⟩
theorem Pl {x y g q:Int} (I:En c x y g q):0≤mf c g:=by
 rcases n5 (p:=uP c g) (l:=bp c (gi c.To g) (gi c.aF g)) r7 with ⟨_,_,_,h2⟩ | ⟨h1,_⟩
 ·exact h2
 ·exfalso
  rw [List.any_eq_false] at h1
  refine h1 q (cf.2 ?_) ?_
  ·rw [I.i.2.1,I.i.2.2]; exact I.j
  ·unfold uP; rw [I.i.2.1,I.i.2.2,jr I.ij,jr I.ji]; rfl
theorem Jj {x y:Int} (h:0≤ie c x y):En c x y (ie c x y) (mf c (ie c x y)):=by
 rcases n5 (p:=fun g=>decide (mf c g ≥ 0)) (l:=bp c x y) r7 with ⟨_,h1,h2,_⟩ | ⟨_,h2⟩
 ·exact R7 H (cf.1 h1) (of_decide_eq_true h2)
 ·unfold ie at h; omega
theorem Pm {x y g q:Int} (I:En c x y g q):0≤ie c x y:=by
 rcases n5 (p:=fun g=>decide (mf c g ≥ 0)) (l:=bp c x y) r7 with ⟨_,_,_,h2⟩ | ⟨h1,_⟩
 ·exact h2
 ·exfalso
  rw [List.any_eq_false] at h1
  exact h1 g (cf.2 I.i) (ao (Pl H I))
end
theorem MN {a b:List Int} {y:Int} (h:y∈thenS a b):∃ x∈a,y=gi b x:=by
 obtain ⟨j,j0,j1,rfl⟩:=j7 h
 rw [n7] at j1
 exact ⟨_,eh j0 j1,my j0 j1⟩
theorem MO {a b:List Int} {x:Int} (h:x∈a):gi b x∈thenS a b:=by
 obtain ⟨j,j0,j1,rfl⟩:=j7 h
 rw [← my j0 j1]
 exact eh j0 (by rw [n7]; exact j1)
def wK (f:aJ):Bool:=(ns f.aD.aA.toNat).any fun x=>(ns f.aD.aA.toNat).any fun y=>(bp f.aB (gi f.aA x) (gi f.aA y)).any fun b=>!(hasB (thenS (bp f.aD x y) f.ab) b)
def uQ (f:aJ):Bool:=(ns f.aD.aF.length).any fun a=>(ns a.toNat).any fun b=>(gi f.ab a == gi f.ab b) && (gi f.aD.aF a == gi f.aD.aF b && gi f.aD.To a == gi f.aD.To b)
def s9 (f:aJ):Bool:=(ns f.aB.aA.toNat).any fun y=>!((ns f.aA.length).any fun x=>decide (ie f.aB (gi f.aA x) y ≥ 0))
def Ap (f:aJ):Bool:=!(wK f) && (!(uQ f) && !(s9 f))
theorem HH {S R:Type} {body:Int→Option (Out Int R)} {k:Nat} {f:Int→Option (Out S R)} (l:List Int) (p:Int→Bool) {y:R}
  (h:∀ (i:Nat) (g:Int),l[i]? = some g→body (i:Int)=bif p g then some (.ret y) else some (.norm ((i+1:Nat):Int))) (last:body (l.length:Int)=some (.exit k (l.length:Int))) :
  af (ae k (ag body (0:Int))) f=bif l.any p then some (.ret y) else f (l.length:Int):=by
 refine (jc l p (fun i=>(i:Int)) rfl (e:=(l.length:Int)) (y:=y) (fun i g hg hp=>by rw [h i g hg,hp]; rfl) (fun i g hg hp=>by rw [h i g hg,hp]; rfl) last).trans ?_
 cases l.any p <;> rfl
section
variable {a b:aG} {f:aJ} (T:T7 a) (U:T7 b) (F:FF a b f)
include T U F
theorem R8 (x y:Int):∀ u∈bp a x y,0≤u∧u < f.ab.length:=fun u hu=>by
 have:=(cf.1 hu).1
 have al:=F.ar.1.len
 omega
theorem Pn:pN f=some (!(wK f)):=by
 obtain rfl:=F.s
 obtain rfl:=F.t
 have o0:=T.t.o0
 have o8:=T.o
 have cm:=T.m
 have dm:=U.m
 unfold pN wK
 rw [nr (n:=f.aD.aA.toNat) (fun x=>(ns f.aD.aA.toNat).any fun y=>(bp f.aB (gi f.aA x) (gi f.aA y)).any fun b=>!(hasB (thenS (bp f.aD x y) f.ab) b)) (y:=false) (fun i hi=>?_) (by unfold pM; rw [ay (by omega),cond_false])]
 ·cases (ns f.aD.aA.toNat).any _ <;> rfl
 ·unfold pM
  rw [ao (by omega),cond_true,nr (n:=f.aD.aA.toNat) (fun y=>(bp f.aB (gi f.aA i) (gi f.aA y)).any fun b=>!(hasB (thenS (bp f.aD i y) f.ab) b)) (y:=false) (fun j hj=>?_) (by unfold pL; rw [ay (by omega),cond_false])]
  ·rw [bF (by omega)]
  ·have l1:=ml f.aD (i:Int) (j:Int)
   have l2:=ml f.aB (gi f.aA i) (gi f.aA j)
   unfold pL
   rw [ao (by omega),cond_true,BR T,aE]
   show ((mW (bp f.aD i j) f.ab)>>=_)=_
   rw [MP _ _ (by omega) (R8 T U F _ _),aE,(Vp T U F (by omega) (by omega)).1,aE,(Vp T U F (by omega) (by omega)).1,aE,BR U,aE]
   show af (ae 4 (ag (mP (thenS (bp f.aD i j) f.ab) (bp f.aB (gi f.aA i) (gi f.aA j))) (0:Int))) _=_
   rw [HH (bp f.aB (gi f.aA i) (gi f.aA j)) (fun b=>!(hasB (thenS (bp f.aD i j) f.ab) b)) (y:=false) (fun k b hb=>?_) (by unfold mP; rw [ay (by omega),cond_false]),bF (by omega)]
   have hk:=bb hb
   unfold mP
   rw [ao (by omega),cond_true,bu,hb,aE,R4 _ _ (by rw [n7]; omega),aE,bF (by omega)]
theorem MQ:lV f=some (!(uQ f)):=by
 obtain rfl:=F.s
 obtain rfl:=F.t
 have cm:=T.m
 have al:=F.ar.1.len
 unfold lV uQ
 rw [nr (n:=f.aD.aF.length) (fun a=>(ns a.toNat).any fun b=>(gi f.ab a == gi f.ab b) && (gi f.aD.aF a == gi f.aD.aF b && gi f.aD.To a == gi f.aD.To b)) (y:=false) (fun a ha=>?_) (by unfold mN; rw [ay (by omega),cond_false])]
 ·cases (ns f.aD.aF.length).any _ <;> rfl
 ·unfold mN
  rw [ao (by omega),cond_true,nr (n:=a) (fun b=>(gi f.ab a == gi f.ab b) && (gi f.aD.aF a == gi f.aD.aF b && gi f.aD.To a == gi f.aD.To b)) (y:=false) (fun b hb=>?_) (by unfold mM; rw [ay (by omega),cond_false]),bF (by omega)]
  ·rfl
  ·have hp:lU f.aD (a:Int) (b:Int)=some (gi f.aD.aF (a:Int) == gi f.aD.aF (b:Int) && gi f.aD.To (a:Int) == gi f.aD.To (b:Int)):=by
    unfold lU
    rw [T.t.ic (by omega) (by omega),aE,T.t.ic (by omega) (by omega),aE,T.t.ig (by omega) (by omega),aE,T.t.ig (by omega) (by omega),aE]
    cases gi f.aD.aF (a:Int) == gi f.aD.aF (b:Int) <;> rfl
   unfold mM
   rw [ao (by omega),cond_true,hp,aE,(Vq T U F (by omega) (by omega)).1,aE,(Vq T U F (by omega) (by omega)).1,aE,bF (by omega)]
   cases gi f.aD.aF (a:Int) == gi f.aD.aF (b:Int) <;> cases gi f.aD.To (a:Int) == gi f.aD.To (b:Int) <;> cases gi f.ab (a:Int) == gi f.ab (b:Int) <;> rfl
theorem Po:kN f=some (!(s9 f)):=by
 obtain rfl:=F.s
 obtain rfl:=F.t
 have o0:=U.t.o0
 have o8:=U.o
 have so:=T.o
 have ol:=F.ol
 unfold kN s9
 rw [nr (n:=f.aB.aA.toNat) (fun y=>!((ns f.aA.length).any fun x=>decide (ie f.aB (gi f.aA x) y ≥ 0))) (y:=false) (fun i hi=>?_) (by unfold lK; rw [ay (by omega),cond_false])]
 ·cases (ns f.aB.aA.toNat).any _ <;> rfl
 ·unfold lK
  rw [ao (by omega),cond_true]
  refine (j5 (ns f.aA.length) (fun j=>((ns j).any fun x=>decide (ie f.aB (gi f.aA x) i ≥ 0),(j:Int))) rfl (e:=((ns f.aA.length).any fun x=>decide (ie f.aB (gi f.aA x) i ≥ 0),(f.aA.length:Int))) (fun j x hx=>?_) ?_).trans ?_
  ·obtain ⟨rfl,hj⟩:=dg hx
   show gF f (i:Int) _ (j:Int)=_
   unfold gF
   rw [ao (by omega),cond_true,Pp,List.any_append,bL (by omega) (by omega),aE,Vn U,aE,bF (by omega)]
   cases (ns j).any _ <;> simp
  ·show gF f (i:Int) _ _=_
   unfold gF
   rw [cN,ay (by omega),cond_false]
  ·dsimp only
   rw [bF (by omega)]
theorem Jk:fX f=some (Ap f):=by
 unfold fX Ap
 rw [Pn T U F,MQ T U F,Po T U F]
 cases wK f <;> cases uQ f <;> cases s9 f <;> rfl
end
section
variable {f:aJ} (hf:dw f=true)
include hf
theorem R9 (x y:Int):∀ a∈bp f.aD x y,0≤a∧a < f.ab.length:=fun a ha=>by
 have F:=cn hf
 have:=(cf.1 ha).1
 have al:=F.al
 omega
theorem Pq:kF f=some (!(wK f)):=by
 have F:=cn hf
 have C:=F.c
 have D:=F.d
 have o0:=C.o0
 have o8:=C.o8
 have cm:=C.m
 have dm:=D.m
 unfold kF wK
 rw [nr (n:=f.aD.aA.toNat) (fun x=>(ns f.aD.aA.toNat).any fun y=>(bp f.aB (gi f.aA x) (gi f.aA y)).any fun b=>!(hasB (thenS (bp f.aD x y) f.ab) b)) (y:=false) (fun i hi=>?_) (by unfold kY; rw [ay (by omega),cond_false])]
 ·cases (ns f.aD.aA.toNat).any _ <;> rfl
 ·unfold kY
  rw [ao (by omega),cond_true,nr (n:=f.aD.aA.toNat) (fun y=>(bp f.aB (gi f.aA i) (gi f.aA y)).any fun b=>!(hasB (thenS (bp f.aD i y) f.ab) b)) (y:=false) (fun j hj=>?_) (by unfold kX; rw [ay (by omega),cond_false])]
  ·rw [bF (by omega)]
  ·have l1:=ml f.aD (i:Int) (j:Int)
   have l2:=ml f.aB (gi f.aA i) (gi f.aA j)
   unfold kX
   rw [ao (by omega),cond_true,yt C,aE]
   show ((mY (bp f.aD i j) f.ab)>>=_)=_
   rw [CH _ _ (by omega) (R9 hf _ _),aE,F.uR (by omega) (by omega),aE,F.uR (by omega) (by omega),aE,yt D,aE]
   show af (ae 4 (ag (iN (thenS (bp f.aD i j) f.ab) (bp f.aB (gi f.aA i) (gi f.aA j))) (0:Int))) _=_
   rw [HH (bp f.aB (gi f.aA i) (gi f.aA j)) (fun b=>!(hasB (thenS (bp f.aD i j) f.ab) b)) (y:=false) (fun k b hb=>?_) (by unfold iN; rw [ay (by omega),cond_false]),bF (by omega)]
   have hk:=bb hb
   unfold iN
   rw [ao (by omega),cond_true,bu,hb,aE,R5 _ _ (by rw [n7]; omega),aE,bF (by omega)]
theorem MR:gZ f=some (!(uQ f)):=by
 have F:=cn hf
 have C:=F.c
 have cm:=C.m
 have al:=F.al
 unfold gZ uQ
 rw [nr (n:=f.aD.aF.length) (fun a=>(ns a.toNat).any fun b=>(gi f.ab a == gi f.ab b) && (gi f.aD.aF a == gi f.aD.aF b && gi f.aD.To a == gi f.aD.To b)) (y:=false) (fun a ha=>?_) (by unfold jF; rw [ay (by omega),cond_false])]
 ·cases (ns f.aD.aF.length).any _ <;> rfl
 ·have hc:Ec f.ab (0:Int) (a:Int)=some (f.ab.take a):=by
   unfold Ec
   rw [ao (by omega),cond_true]; simp
  have hl:(f.ab.take a).length=a:=by rw [List.length_take]; omega
  unfold jF
  rw [ao (by omega),cond_true,hc,aE,nr (n:=a) (fun b=>(gi f.ab a == gi f.ab b) && (gi f.aD.aF a == gi f.aD.aF b && gi f.aD.To a == gi f.aD.To b)) (y:=false) (fun b hb=>?_) (by unfold jE; rw [ay (by omega),cond_false]),bF (by omega)]
  ·rfl
  ·unfold jE
   rw [ao (by omega),cond_true,F.ru (by omega) (by omega),aE,F.ru (by omega) (by omega),aE,A3 C.tosA.toHead (by omega) (by omega),aE,A3 C.tosA.toHead (by omega) (by omega),aE,bF (by omega)]
   cases gi f.ab (a:Int) == gi f.ab (b:Int) <;> rfl
theorem Pr:eE f=some (!(s9 f)):=by
 have F:=cn hf
 have D:=F.d
 have o0:=D.o0
 have o8:=D.o8
 have so:=F.c.o8
 have ol:=F.ol
 unfold eE s9
 rw [nr (n:=f.aB.aA.toNat) (fun y=>!((ns f.aA.length).any fun x=>decide (ie f.aB (gi f.aA x) y ≥ 0))) (y:=false) (fun i hi=>?_) (by unfold eZ; rw [ay (by omega),cond_false])]
 ·cases (ns f.aB.aA.toNat).any _ <;> rfl
 ·unfold eZ
  rw [ao (by omega),cond_true]
  refine (Sa (n:=f.aA.length) (fun x=>decide (ie f.aB (gi f.aA x) i ≥ 0)) rfl (fun j hj=>?_) ?_).trans ?_
  ·show dI f (i:Int) (j:Int)=_
   unfold dI
   rw [ao (by omega),cond_true,bL (by omega) (by omega),aE,ML D,aE,bF (by omega)]
  ·show dI f (i:Int) _=_
   unfold dI
   rw [ay (by omega),cond_false]
  ·rw [bF (by omega)]
   cases (ns f.aA.length).any _ <;> rfl
theorem HI:eD f=some (Ap f):=by
 unfold eD Ap
 rw [Pq hf,MR hf,Pr hf]
 cases wK f <;> cases uQ f <;> cases s9 f <;> rfl
theorem MS:fX f=some (Ap f):=Jk (vT (cn hf).c) (vT (cn hf).d) (DN (cn hf))
theorem BS:Ap f=true↔Fb f:=by
 have F:=cn hf
 have C:=F.c
 have D:=F.d
 have o0:=C.o0
 have d0:=D.o0
 have ol:=F.ol
 have al:=F.al
 unfold Ap
 simp only [Bool.and_eq_true,Bool.not_eq_true']
 constructor
 ·rintro ⟨h1,h2,h3⟩
  unfold wK at h1
  unfold uQ at h2
  unfold s9 at h3
  refine ⟨hf,fun x y b x0 x1 y0 y1 hb=>?_,fun x y a b ha hb e=>?_,fun y y0 y1=>?_⟩
  ·have k:=br.1 (br.1 h1 x x0 (by omega)) y y0 (by omega)
   rw [List.any_eq_false] at k
   have:=k b (cf.2 hb)
   simp only [Bool.not_eq_true,Bool.not_eq_false',xu] at this
   obtain ⟨a,ha,e⟩:=MN this
   exact ⟨a,cf.1 ha,e.symm⟩
  ·have key:∀ {a b:Int},dn f.aD x y a→dn f.aD x y b→gi f.ab a=gi f.ab b→b < a→False:=fun {a b} ha hb e hl=>by
    have a0:=ha.1.1
    have b0:=hb.1.1
    have:=br.1 (br.1 h2 a ha.1.1 ha.1.2) b hb.1.1 (by omega)
    rw [jr e,ha.2.1,hb.2.1,ha.2.2,hb.2.2,jr rfl,jr rfl] at this
    cases this
   rcases Int.lt_trichotomy a b with h | h | h
   ·exact (key hb ha e.symm h).elim
   ·exact h
   ·exact (key ha hb e h).elim
  ·have:=br.1 h3 y y0 (by omega)
   simp only [Bool.not_eq_false',List.any_eq_true] at this
   obtain ⟨x,hx,hd⟩:=this
   have hx:=dh.1 hx
   have I:=Jj D (of_decide_eq_true hd)
   exact ⟨x,_,_,⟨hx.1,by omega⟩,I.i,I.j,I.ij,I.ji⟩
 ·intro E
  refine ⟨?_,?_,?_⟩
  ·unfold wK
   rw [br]
   intro x x0 x1
   rw [br]
   intro y y0 y1
   rw [List.any_eq_false]
   intro b hb
   obtain ⟨a,la,e⟩:=E.full x y b x0 (by omega) y0 (by omega) (cf.1 hb)
   have:hasB (thenS (bp f.aD x y) f.ab) b=true:=by
    rw [xu,← e]
    exact MO (cf.2 la)
   rw [this]; simp
  ·unfold uQ
   rw [br]
   intro a a0 a1
   rw [br]
   intro b b0 b1
   cases h:(gi f.ab a == gi f.ab b) && (gi f.aD.aF a == gi f.aD.aF b && gi f.aD.To a == gi f.aD.To b) with
   | false=>rfl
   | true=>
    simp only [Bool.and_eq_true,beq_iff_eq] at h
    have:=E.zW _ _ a b ⟨⟨a0,a1⟩,rfl,rfl⟩ ⟨⟨b0,by omega⟩,h.2.1.symm,h.2.2.symm⟩ h.1
    omega
  ·unfold s9
   rw [br]
   intro y y0 y1
   obtain ⟨x,i,j,hx,h1,h2,h3,h4⟩:=E.Vs y y0 (by omega)
   rw [Bool.not_eq_false',List.any_eq_true]
   exact ⟨x,dh.2 ⟨hx.1,by omega⟩,ao (Pm D ⟨h1,h2,h3,h4⟩)⟩
end
end Go.Proofs.YtbhhmalgcnhniaaGreat
namespace Go.Proofs.YtbhhmalgcnhniaaGreat
open Go Go.Li
set_option linter.unusedVariables false
set_option linter.unusedSectionVars false
set_option linter.unusedSimpArgs false
theorem Jl {S S1 R:Type} (l:List Int) (p:Int→Bool) (st:Nat→S1) (E:Nat→Int→S1) (F:Int→Option (Out S R)) {body:S1→Option (Out S1 R)} {k:Nat} {f:S1→Option (Out S R)} {s0:S1} (h0:st 0=s0)
  (step:∀ (i:Nat) (g:Int),l[i]? = some g→body (st i)=bif p g then some (.exit k (E i g)) else some (.norm (st (i+1)))) (hp:l.any p=true) (hf:∀ i g,f (E i g)=F g) :
  af (ae k (ag body s0)) f=F (jd l p):=by
 have key:∀ (m:List Int) (i:Nat),l.drop i=m→m.any p=true→∃ j,ag body (st i)=some (.exit k (E j (jd m p))):=by
  intro m
  induction m with
  | nil=>intro i _ h; cases h
  | cons x m ih=>
   intro i hd ha
   have bh:i < l.length:=by
    rcases Nat.lt_or_ge i l.length with h | h
    ·exact h
    ·rw [List.drop_eq_nil_of_le h] at hd; cases hd
   have hx:l[i]? = some x:=by
    rw [List.drop_eq_getElem_cons bh] at hd
    rw [List.getElem?_eq_getElem bh]; exact congrArg some (List.cons.inj hd).1
   have iq:l.drop (i+1)=m:=by
    rw [List.drop_eq_getElem_cons bh] at hd; exact (List.cons.inj hd).2
   unfold jd
   cases hq:p x with
   | true=>
    rw [List.find?_cons,hq]
    exact ⟨i,rq (by rw [step i x hx,hq]; rfl)⟩
   | false=>
    rw [List.any_cons,hq,Bool.false_or] at ha
    rw [List.find?_cons,hq]
    obtain ⟨j,hj⟩:=ih (i+1) iq ha
    exact ⟨j,by rw [p5,step i x hx,hq]; exact hj⟩
 obtain ⟨j,hj⟩:=key l 0 rfl hp
 rw [← h0]
 exact (vn hj).trans (hf _ _)
theorem Vt {n:Nat}:∀ g∈ns n,0≤g:=fun g hg=>(dh.1 hg).1
theorem Vu {c:aG} {x y:Int} (h:0≤ie c x y):dn c x y (ie c x y)∧0≤mf c (ie c x y):=by
 rcases n5 (p:=fun g=>decide (mf c g ≥ 0)) (l:=bp c x y) r7 with ⟨_,h1,h2,_⟩ | ⟨_,h2⟩
 ·exact ⟨cf.1 h1,of_decide_eq_true h2⟩
 ·have:ie c x y = -1:=h2
  omega
theorem Vv {c:aG} {x y g:Int} (h:dn c x y g) (hi:0≤mf c g):dn c y x (mf c g):=by
 rcases n5 (p:=uP c g) (l:=bp c (gi c.To g) (gi c.aF g)) r7 with ⟨_,h1,h2,_⟩ | ⟨_,h2⟩
 ·have:mf c g∈bp c (gi c.To g) (gi c.aF g):=h1
  rw [h.2.1,h.2.2] at this
  exact cf.1 this
 ·have:mf c g = -1:=h2
  omega
def pX (f:aJ) (y:Int):Int:=jd (ns f.aA.length) fun x=>decide (ie f.aB (gi f.aA x) y ≥ 0)
def qO (f:aJ):List Int:=bz f.aB.aA.toNat (pX f)
def qI (f:aJ):List Int:=bz f.aB.aA.toNat fun y=>ie f.aB (gi f.aA (pX f y)) y
def qJ (f:aJ) (y:Int):Int:=mf f.aB (gi (qI f) y)
def qM (f:aJ) (h:Int):Int:=gk f.aB.aC (gk f.aB.aC (gi (qI f) (gi f.aB.aF h)) h) (qJ f (gi f.aB.To h))
def qA (f:aJ):List Int:=bz f.aB.aF.length fun h=>jd (bp f.aD (gi (qO f) (gi f.aB.aF h)) (gi (qO f) (gi f.aB.To h))) fun a=>gi f.ab a == qM f h
def qF (f:aJ):aJ:=aJ.mk f.aB f.aD (qO f) (qA f)
section
variable {f:aJ} (ol:(f.aA.length:Int)=f.aD.aA) (hs:s9 f=false)
include ol hs
theorem HJ {y:Int} (y0:0≤y) (y1:y < f.aB.aA):((ns f.aA.length).any fun x=>decide (ie f.aB (gi f.aA x) y ≥ 0))=true:=by
 have:=br.1 hs y y0 (by omega)
 simpa using this
theorem XC {y:Int} (y0:0≤y) (y1:y < f.aB.aA):(0≤pX f y∧pX f y < f.aD.aA)∧0≤ie f.aB (gi f.aA (pX f y)) y:=by
 rcases n5 (p:=fun x=>decide (ie f.aB (gi f.aA x) y ≥ 0)) (l:=ns f.aA.length) Vt with ⟨_,h1,h2,_⟩ | ⟨h1,_⟩
 ·have:=dh.1 h1
  exact ⟨⟨this.1,by unfold pX; omega⟩,of_decide_eq_true h2⟩
 ·rw [HJ ol hs y0 y1] at h1; cases h1
theorem qT {y:Int} (y0:0≤y) (y1:y < f.aB.aA):(0≤gi (qO f) y∧gi (qO f) y < f.aD.aA)∧dn f.aB (gi f.aA (gi (qO f) y)) y (gi (qI f) y)∧dn f.aB y (gi f.aA (gi (qO f) y)) (qJ f y)∧0≤ie f.aB (gi f.aA (gi (qO f) y)) y∧gi (qI f) y=ie f.aB (gi f.aA (gi (qO f) y)) y:=by
 have e1:gi (qO f) y=pX f y:=lq y0 (by omega)
 have e2:gi (qI f) y=ie f.aB (gi f.aA (pX f y)) y:=lq y0 (by omega)
 obtain ⟨h1,h2⟩:=XC ol hs y0 y1
 obtain ⟨h3,h4⟩:=Vu h2
 unfold qJ
 rw [e1,e2]
 exact ⟨h1,h3,Vv h3 h4,h2,rfl⟩
end
theorem yS (f:aJ):(qO f).length=f.aB.aA.toNat:=bJ _ _
theorem A8 (f:aJ):(qI f).length=f.aB.aA.toNat:=bJ _ _
theorem DO (f:aJ):(qA f).length=f.aB.aF.length:=bJ _ _
section
variable {a b:aG} {f:aJ} (T:T7 a) (U:T7 b) (F:FF a b f) (hs:s9 f=false)
include T U F hs
theorem KD {y:Int} (y0:0≤y) (y1:y < f.aB.aA):pO f y=some (pX f y,ie f.aB (gi f.aA (pX f y)) y):=by
 obtain rfl:=F.s
 obtain rfl:=F.t
 have to_:=T.o
 have ol:=F.ol
 have hp:=HJ ol hs y0 y1
 unfold pO
 refine (congrArg ak (CG (S:=Unit) (ns f.aA.length) (fun x=>decide (ie f.aB (gi f.aA x) y ≥ 0)) (fun x=>(x,ie f.aB (gi f.aA x) y)) (k:=0) (f:=fun _=>some (.ret (-1,-1))) (body:=mQ f y) (fun i g hg=>?_) ?_)).trans ?_
 ·obtain ⟨rfl,hi⟩:=dg hg
  unfold mQ
  rw [ao (by omega),cond_true,(Vp T U F (by omega) (by omega)).1,aE,Vm U,aE,bF (by omega)]
 ·unfold mQ
  rw [cN,ay (by omega),cond_false]
 ·unfold pX jd
  cases e:(ns f.aA.length).find? fun x=>decide (ie f.aB (gi f.aA x) y ≥ 0) with
  | some g=>rfl
  | none=>
   exfalso
   obtain ⟨x,hx,hd⟩:=List.any_eq_true.1 hp
   exact List.find?_eq_none.1 e x hx hd
theorem DP:gq (qF f):=by
 obtain rfl:=F.s
 obtain rfl:=F.t
 have uo:=U.o
 have um:=U.m
 exact ⟨U.s,T.s,by show (qO f).length≤_; rw [yS]; omega,by show (qA f).length≤_; rw [DO]; omega⟩
theorem Fc:mE f=some (qF f,qI f):=by
 obtain rfl:=F.s
 obtain rfl:=F.t
 have ol:=F.ol
 have uo:=U.o
 have u0:=U.t.o0
 have um:=U.m
 have sm:=DP T U F hs
 unfold mE
 refine (congrArg ak (j5 (ns f.aB.aA.toNat) (fun i=>(bz i (pX f),bz i (fun y=>ie f.aB (gi f.aA (pX f y)) y),(i:Int))) rfl (e:=(qO f,qI f,(f.aB.aA.toNat:Int))) (fun i x hx=>?_) ?_)).trans ?_
 ·obtain ⟨rfl,hi⟩:=dg hx
  have l1:=bJ i (pX f)
  have l2:=bJ i fun y=>ie f.aB (gi f.aA (pX f y)) y
  rw [gv,gv]
  show jZ f (bz i _) (bz i _) (i:Int)=_
  unfold jZ
  rw [ao (by omega),cond_true,KD T U F hs (by omega) (by omega),aE,cY (by omega) (by omega),aE,cY (by omega) (by omega),aE,bF (by omega)]
 ·show jZ f _ _ _=_
  unfold jZ
  dsimp only
  rw [cN,ay (by omega),cond_false]; rfl
 ·dsimp only
  refine (congrArg ak (j5 (ns f.aB.aF.length) (fun i=>(bz i (fun h=>jd (bp f.aD (gi (qO f) (gi f.aB.aF h)) (gi (qO f) (gi f.aB.To h))) fun a=>gi f.ab a == qM f h),(i:Int))) rfl (e:=(qA f,(f.aB.aF.length:Int))) (fun i x hx=>?_) ?_)).trans ?_
  ·obtain ⟨rfl,hi⟩:=dg hx
   have l1:=bJ i fun h=>jd (bp f.aD (gi (qO f) (gi f.aB.aF h)) (gi (qO f) (gi f.aB.To h))) fun a=>gi f.ab a == qM f h
   rw [gv]
   show kA f (qO f) (qI f) (bz i _) (i:Int)=_
   generalize (bz i fun h=>jd (bp f.aD (gi (qO f) (gi f.aB.aF h)) (gi (qO f) (gi f.aB.To h))) fun a=>gi f.ab a == qM f h)=acc at l1
   have kf:=U.t.fr (f:=(i:Int)) (by omega) (by omega)
   have kt:=U.t.to (f:=(i:Int)) (by omega) (by omega)
   have q1:=qT ol hs kf.1 kf.2
   have q2:=qT ol hs kt.1 kt.2
   have lh:dn f.aB (gi f.aB.aF i) (gi f.aB.To i) (i:Int):=⟨⟨by omega,by omega⟩,rfl,rfl⟩
   have c1:=KC U q1.2.1 lh
   have hb:lL f (gi (qO f) (gi f.aB.aF i)) (gi (qO f) (gi f.aB.To i)) (qM f i)=some (jd (bp f.aD (gi (qO f) (gi f.aB.aF i)) (gi (qO f) (gi f.aB.To i))) fun a=>gi f.ab a == qM f i):=by
    unfold lL
    rw [BR T,aE]
    refine vq (fun j g hg=>?_) ?_
    ·have L:=(cf.1 (List.mem_of_getElem? hg)).1
     have hj:=bb hg
     have hl:=ml f.aD (gi (qO f) (gi f.aB.aF i)) (gi (qO f) (gi f.aB.To i))
     have tm:=T.m
     unfold nX
     rw [ao (by omega),cond_true,bu,hg,aE,(Vq T U F L.1 L.2).1,aE,aE,bF (by omega)]
    ·unfold nX
     rw [ay (by omega),cond_false]
   unfold kA
   rw [ao (by omega),cond_true,U.t.ic (by omega) (by omega),aE,U.t.ig (by omega) (by omega),aE,bL kf.1 (by rw [A8]; omega),aE,A6 U.t q1.2.1.1.1 q1.2.1.1.2 (by omega) (by omega),aE,bL kt.1 (by rw [A8]; omega),aE,HF U q2.2.1.1.1 q2.2.1.1.2,aE,show mf f.aB (gi (qI f) (gi f.aB.To i))=qJ f (gi f.aB.To i) from rfl,A6 U.t c1.1.1 c1.1.2 q2.2.2.1.1.1 q2.2.2.1.1.2,aE,bL kf.1 (by rw [yS]; omega),aE,bL kt.1 (by rw [yS]; omega),aE]
   show lL f (gi (qO f) (gi f.aB.aF i)) (gi (qO f) (gi f.aB.To i)) (qM f i)>>=_=_
   rw [hb,aE,cY (by omega) (by omega),aE,bF (by omega)]
  ·show kA f (qO f) (qI f) _ _=_
   unfold kA
   dsimp only
   rw [cN,ay (by omega),cond_false]; rfl
  ·dsimp only
   rw [show gN f.aB f.aD (qO f) (qA f)=some (qF f) from xy sm.s sm.t sm.o sm.a,aE]; rfl
end
section
variable {f:aJ} (E:Fb f)
include E
theorem sZ:s9 f=false:=by
 have:=(BS E.fb).2 E
 unfold Ap at this
 simp only [Bool.and_eq_true,Bool.not_eq_true'] at this
 exact this.2.2
theorem QR {y:Int} (y0:0≤y) (y1:y < f.aB.aA):En f.aB (gi f.aA (gi (qO f) y)) y (gi (qI f) y) (qJ f y):=by
 have F:=cn E.fb
 have k:=qT F.ol (sZ E) y0 y1
 have:=Jj F.d k.2.2.2.1
 unfold qJ
 rw [k.2.2.2.2]
 exact this
theorem MT {h:Int} (h0:0≤h) (h1:h < f.aB.aF.length):((bp f.aD (gi (qO f) (gi f.aB.aF h)) (gi (qO f) (gi f.aB.To h))).any fun a=>gi f.ab a == qM f h)=true:=by
 have F:=cn E.fb
 have D:=F.d
 have kf:=D.fr h0 h1
 have kt:=D.to h0 h1
 have k1:=qT F.ol (sZ E) kf.1 kf.2
 have k2:=qT F.ol (sZ E) kt.1 kt.2
 have lh:dn f.aB (gi f.aB.aF h) (gi f.aB.To h) h:=⟨⟨h0,h1⟩,rfl,rfl⟩
 have c1:=fh D (fh D k1.2.1 lh) k2.2.2.1
 obtain ⟨u,lu,eu⟩:=E.full _ _ _ k1.1.1 k1.1.2 k2.1.1 k2.1.2 c1
 exact List.any_eq_true.2 ⟨u,cf.2 lu,jr eu⟩
theorem Vw {h:Int} (h0:0≤h) (h1:h < f.aB.aF.length):dn f.aD (gi (qO f) (gi f.aB.aF h)) (gi (qO f) (gi f.aB.To h)) (gi (qA f) h)∧gi f.ab (gi (qA f) h)=gk f.aB.aC (gk f.aB.aC (gi (qI f) (gi f.aB.aF h)) h) (qJ f (gi f.aB.To h)):=by
 have e:gi (qA f) h=jd (bp f.aD (gi (qO f) (gi f.aB.aF h)) (gi (qO f) (gi f.aB.To h))) fun a=>gi f.ab a == qM f h:=lq h0 (by omega)
 rw [e]
 rcases n5 (p:=fun a=>gi f.ab a == qM f h) (l:=bp f.aD (gi (qO f) (gi f.aB.aF h)) (gi (qO f) (gi f.aB.To h))) r7 with ⟨_,k1,k2,_⟩ | ⟨k1,_⟩
 ·exact ⟨cf.1 k1,eq_of_beq k2⟩
 ·rw [MT E h0 h1] at k1; cases k1
theorem KE:((qO f).length:Int)=f.aB.aA:=by have:=(cn E.fb).d.o0; rw [yS]; omega
theorem DQ:((qI f).length:Int)=f.aB.aA:=by have:=(cn E.fb).d.o0; rw [A8]; omega
theorem Ps:∀ y:Int,0≤y→y < f.aB.aA→0≤gi (qO f) y∧gi (qO f) y < f.aD.aA:=fun y y0 y1=>(qT (cn E.fb).ol (sZ E) y0 y1).1
theorem XD:dw (qF f)=true:=A9 E (KE E) (DQ E) (DO f) (Ps E) (fun y y0 y1=>QR E y0 y1) fun h h0 h1=>Vw E h0 h1
theorem XE:Fb (qF f):=MU E (KE E) (DQ E) (DO f) (Ps E) (fun y y0 y1=>QR E y0 y1) fun h h0 h1=>Vw E h0 h1
theorem QS:je (bE.mk (qg (qF f) f) (xz f.aB) (qI f))=true:=MW E (KE E) (DQ E) (DO f) (Ps E) (fun y y0 y1=>QR E y0 y1) fun h h0 h1=>Vw E h0 h1
theorem XF:CI (qg (qF f) f) (qI f)=true:=by
 have D:=(cn E.fb).d
 have il:=DQ E
 unfold CI
 rw [List.all_eq_true]
 intro i hi
 obtain ⟨y,y0,y1,rfl⟩:=j7 hi
 have I:=QR E y0 (by omega)
 show yu f.aB _=true
 unfold yu
 refine List.any_eq_true.2 ⟨qJ f y,dh.2 I.j.1,?_⟩
 unfold Ao uP
 rw [I.i.2.1,I.i.2.2,I.j.2.1,I.j.2.2,jr rfl,jr rfl,jr I.ij,jr I.ji]; rfl
theorem MX:gR (eG.mk f)=some (qF f,qI f):=by
 have F:=cn E.fb
 have C:=F.c
 have D:=F.d
 have hs:=sZ E
 have ol:=F.ol
 have uo:=D.o8
 have u0:=D.o0
 have um:=D.m
 have so:=C.o8
 have sm:=DP (vT C) (vT D) (DN F) hs
 unfold gR
 refine (congrArg ak (j5 (ns f.aB.aA.toNat) (fun i=>(bz i (pX f),bz i (fun y=>ie f.aB (gi f.aA (pX f y)) y),(i:Int))) rfl (e:=(qO f,qI f,(f.aB.aA.toNat:Int))) (fun i x hx=>?_) ?_)).trans ?_
 ·obtain ⟨rfl,hi⟩:=dg hx
  have l1:=bJ i (pX f)
  have l2:=bJ i fun y=>ie f.aB (gi f.aA (pX f y)) y
  rw [gv,gv]
  show eW (eG.mk f) (bz i _) (bz i _) (i:Int)=_
  generalize bz i (pX f)=a1 at l1
  generalize (bz i fun y=>ie f.aB (gi f.aA (pX f y)) y)=a2 at l2
  unfold eW
  dsimp only
  rw [ao (by omega),cond_true]
  refine (Jl (ns f.aA.length) (fun x=>decide (ie f.aB (gi f.aA x) i ≥ 0)) (fun j=>(a1,a2,(j:Int))) (fun j g=>(a1++[g],a2++[ie f.aB (gi f.aA g) i],g)) (fun g=>some (Out.norm (a1++[g],a2++[ie f.aB (gi f.aA g) i],((i+1:Nat):Int)))) rfl (fun j g hg=>?_) (HJ ol hs (by omega) (by omega)) fun j g=>?_).trans ?_
  ·obtain ⟨rfl,hj⟩:=dg hg
   show iV (eG.mk f) (i:Int) a1 a2 (j:Int)=_
   unfold iV
   dsimp only
   rw [ao (by omega),cond_true,F.uR (by omega) (by omega),aE,ML D,aE,cY (by omega) (by omega),aE,cY (by omega) (by omega),aE,bF (by omega)]
  ·dsimp only
   rw [bF (by omega)]
  ·rfl
 ·show eW (eG.mk f) _ _ _=_
  unfold eW
  dsimp only
  rw [cN,ay (by omega),cond_false]; rfl
 ·dsimp only
  refine (congrArg ak (j5 (ns f.aB.aF.length) (fun i=>(bz i (fun h=>jd (bp f.aD (gi (qO f) (gi f.aB.aF h)) (gi (qO f) (gi f.aB.To h))) fun a=>gi f.ab a == qM f h),(i:Int))) rfl (e:=(qA f,(f.aB.aF.length:Int))) (fun i x hx=>?_) ?_)).trans ?_
  ·obtain ⟨rfl,hi⟩:=dg hx
   have l1:=bJ i fun h=>jd (bp f.aD (gi (qO f) (gi f.aB.aF h)) (gi (qO f) (gi f.aB.To h))) fun a=>gi f.ab a == qM f h
   rw [gv]
   show eX (eG.mk f) (qO f) (qI f) (bz i _) (i:Int)=_
   generalize (bz i fun h=>jd (bp f.aD (gi (qO f) (gi f.aB.aF h)) (gi (qO f) (gi f.aB.To h))) fun a=>gi f.ab a == qM f h)=acc at l1
   have kf:=D.fr (f:=(i:Int)) (by omega) (by omega)
   have kt:=D.to (f:=(i:Int)) (by omega) (by omega)
   have q1:=qT ol hs kf.1 kf.2
   have q2:=qT ol hs kt.1 kt.2
   have lh:dn f.aB (gi f.aB.aF i) (gi f.aB.To i) (i:Int):=⟨⟨by omega,by omega⟩,rfl,rfl⟩
   have c1:=fh D q1.2.1 lh
   unfold eX
   dsimp only
   rw [ao (by omega),cond_true,D.ic (by omega) (by omega),aE,D.ig (by omega) (by omega),aE,bL kf.1 (by rw [A8]; omega),aE,D.jv q1.2.1.1.1 q1.2.1.1.2 (by omega) (by omega),aE,bL kt.1 (by rw [A8]; omega),aE,MK D q2.2.1.1.1 q2.2.1.1.2,aE,show mf f.aB (gi (qI f) (gi f.aB.To i))=qJ f (gi f.aB.To i) from rfl,D.jv c1.1.1 c1.1.2 q2.2.2.1.1.1 q2.2.2.1.1.2,aE,bL kf.1 (by rw [yS]; omega),aE,bL kt.1 (by rw [yS]; omega),aE,yt C,aE]
   have hl:=ml f.aD (gi (qO f) (gi f.aB.aF i)) (gi (qO f) (gi f.aB.To i))
   have cm:=C.m
   refine (Jl (bp f.aD (gi (qO f) (gi f.aB.aF i)) (gi (qO f) (gi f.aB.To i))) (fun a=>gi f.ab a == qM f i) (fun j=>(acc,(j:Int))) (fun j g=>(acc++[g],(j:Int))) (fun g=>some (Out.norm (acc++[g],((i+1:Nat):Int)))) rfl (fun j g hg=>?_) (MT E (by omega) (by omega)) fun j g=>?_).trans ?_
   ·have L:=(cf.1 (List.mem_of_getElem? hg)).1
    have hj:=bb hg
    show iW (eG.mk f) (qM f i) (bp f.aD (gi (qO f) (gi f.aB.aF i)) (gi (qO f) (gi f.aB.To i))) acc (j:Int)=_
    unfold iW
    dsimp only
    rw [ao (by omega),cond_true,bu,hg,aE,F.ru L.1 L.2,aE,cY (by omega) (by omega),aE,bF (by omega)]
   ·dsimp only
    rw [bF (by omega)]
   ·rfl
  ·show eX (eG.mk f) (qO f) (qI f) _ _=_
   unfold eX
   dsimp only
   rw [cN,ay (by omega),cond_false]; rfl
  ·dsimp only
   rw [show gB f.aB f.aD (qO f) (qA f)=some (qF f) from r8 sm.s sm.t sm.o sm.a,aE]; rfl
end
end Go.Proofs.YtbhhmalgcnhniaaGreat
namespace Go.Proofs.YtbhhmalgcnhniaaGreat
open Go Go.Li
set_option linter.unusedVariables false
set_option linter.unusedSectionVars false
set_option linter.unusedSimpArgs false
def vz (l:List Int):List (Int×Bool):=l.foldl (fun m k=>qj m k true) []
theorem XG {m:List (Int×Bool)} {k:Int}:(k∈m.map Prod.fst∧(qj m k true).map Prod.fst=m.map Prod.fst)∨(k ∉ m.map Prod.fst∧(qj m k true).map Prod.fst=m.map Prod.fst++[k]):=by
 induction m with
 | nil=>exact .inr ⟨by simp,rfl⟩
 | cons p m ih=>
  unfold qj
  cases h:(p.1 == k) with
  | true=>
   have h':p.1=k:=eq_of_beq h
   exact .inl ⟨by simp [h'],by simp [h']⟩
  | false=>
   have h':k≠p.1:=fun e=>by rw [e,jr rfl] at h; cases h
   rw [cond_false]
   rcases ih with ⟨h1,h2⟩ | ⟨h1,h2⟩
   ·exact .inl ⟨by rw [List.map_cons]; exact List.mem_cons_of_mem _ h1,by rw [List.map_cons,h2,List.map_cons]⟩
   ·exact .inr ⟨by rw [List.map_cons]; exact fun h3=>(List.mem_cons.1 h3).elim h' h1,by rw [List.map_cons,h2,List.map_cons,List.cons_append]⟩
theorem MY:∀ (l:List Int) (m:List (Int×Bool)),(m.map Prod.fst).Nodup→
  (l.foldl (fun m k=>qj m k true) m).length≤m.length+l.length∧((l.foldl (fun m k=>qj m k true) m).length=m.length+l.length↔(m.map Prod.fst++l).Nodup):=by
 intro l
 induction l with
 | nil=>intro m hm; simp [hm]
 | cons k l ih=>
  intro m hm
  rw [List.foldl_cons]
  rcases XG (m:=m) (k:=k) with ⟨h1,h2⟩ | ⟨h1,h2⟩
  ·have hl:(qj m k true).length=m.length:=by have:=congrArg List.length h2; simpa using this
   obtain ⟨i1,i2⟩:=ih (qj m k true) (by rw [h2]; exact hm)
   rw [hl] at i1 i2
   refine ⟨by rw [List.length_cons]; omega,⟨fun h=>by rw [List.length_cons] at h; omega,fun h=>?_⟩⟩
   exfalso
   rw [List.nodup_append] at h
   exact h.2.2 k h1 k (by simp) rfl
  ·have hl:(qj m k true).length=m.length+1:=by have:=congrArg List.length h2; simpa using this
   have hn:((qj m k true).map Prod.fst).Nodup:=by
    rw [h2,List.nodup_append]
    exact ⟨hm,by simp,fun a ha b hb=>by rw [List.mem_singleton.1 hb]; exact fun e=>h1 (e ▸ ha)⟩
   obtain ⟨i1,i2⟩:=ih (qj m k true) hn
   rw [hl] at i1 i2
   rw [List.length_cons]
   refine ⟨by omega,?_⟩
   rw [show m.length+(l.length+1)=m.length+1+l.length by omega,i2,h2,List.append_assoc]; rfl
theorem Pt (l:List Int):(vz l).length=l.length↔l.Nodup:=by
 have:=(MY l [] (by simp)).2
 simpa [vz] using this
theorem MZ {F:Int→Int}:∀ {l:List Int},l.Nodup→(∀ u∈l,∀ v∈l,F u=F v→u=v)→(l.map F).Nodup:=by
 intro l
 induction l with
 | nil=>intro _ _; simp
 | cons a l ih=>
  intro hn hi
  rw [List.nodup_cons] at hn
  rw [List.map_cons,List.nodup_cons]
  refine ⟨fun hm=>?_,ih hn.2 fun u hu v hv=>hi u (by simp [hu]) v (by simp [hv])⟩
  obtain ⟨v,hv,e⟩:=List.mem_map.1 hm
  have:=hi v (by simp [hv]) a (by simp) e
  rw [this] at hv
  exact hn.1 hv
theorem Vx {F:Int→Int}:∀ {l:List Int},(l.map F).Nodup→∀ {u v:Int},u∈l→v∈l→F u=F v→u=v:=by
 intro l
 induction l with
 | nil=>intro _ u v hu; cases hu
 | cons a l ih=>
  intro hn u v hu hv e
  rw [List.map_cons,List.nodup_cons] at hn
  rcases List.mem_cons.1 hu with h1 | h1
  ·rcases List.mem_cons.1 hv with h2 | h2
   ·rw [h1,h2]
   ·exact absurd (List.mem_map.2 ⟨v,h2,by rw [← e,h1]⟩) hn.1
  ·rcases List.mem_cons.1 hv with h2 | h2
   ·exact absurd (List.mem_map.2 ⟨u,h1,by rw [e,h2]⟩) hn.1
   ·exact ih hn.2 h1 h2 e
def wx (f:aJ) (x e z:Int):List Int:=(bp f.aD z x).map fun a=>gk f.aB.aC (gi f.ab a) e
def wi (f:aJ) (x e:Int):Bool:=(ns f.aA.length).any fun z=>((vz (wx f x e z)).length != (bp f.aD z x).length) || ((bp f.aD z x).length != (bp f.aB (gi f.aA z) (gi f.aB.To e)).length)
section
variable {f:aJ} (hf:dw f=true)
include hf
theorem HK {x e:Int} (x0:0≤x) (x1:x < f.aD.aA) (he:dn f.aB (gi f.aA x) (gi f.aB.To e) e):fG f x e=some (!(wi f x e)):=by
 have F:=cn hf
 have C:=F.c
 have D:=F.d
 have cm:=C.m
 have dm:=D.m
 have so:=C.o8
 have ol:=F.ol
 unfold fG wi
 rw [nr (n:=f.aA.length) (fun z=>((vz (wx f x e z)).length != (bp f.aD z x).length) || ((bp f.aD z x).length != (bp f.aB (gi f.aA z) (gi f.aB.To e)).length)) (y:=false) (fun z hz=>?_) (by unfold gE; rw [ay (by omega),cond_false])]
 ·cases (ns f.aA.length).any _ <;> rfl
 ·have hl:=ml f.aD (z:Int) x
  unfold gE
  rw [ao (by omega),cond_true,F.uR (by omega) (by omega),aE,yt C,aE]
  show af (ae 2 (ag (fun s:Int×List (Int×Bool)=>dQ f e (bp f.aD z x) s.1 s.2) ((0:Int),([]:List (Int×Bool))))) _=_
  refine (j5 (bp f.aD z x) (fun j=>((j:Int),vz (((bp f.aD z x).take j).map fun a=>gk f.aB.aC (gi f.ab a) e))) rfl (e:=(((bp f.aD z x).length:Int),vz (wx f x e z))) (fun j a ha=>?_) ?_).trans ?_
  ·have L:=cf.1 (List.mem_of_getElem? ha)
   have hj:=bb ha
   have la:=j8 F L
   show dQ f e (bp f.aD z x) (j:Int) _=_
   unfold dQ
   rw [ao (by omega),cond_true,bu,ha,aE,F.ru L.1.1 L.1.2,aE,D.jv la.1.1 la.1.2 he.1.1 he.1.2,aE,bF (by omega),wg ha]
   unfold vz
   rw [List.map_append,List.foldl_append]; rfl
  ·show dQ f e (bp f.aD z x) _ _=_
   unfold dQ
   rw [ay (by omega),cond_false,List.take_length]; rfl
  ·dsimp only
   rw [D.ig he.1.1 he.1.2,aE,yt D,aE,bF (by omega)]
   show (bif ((vz (wx f x e z)).length:Int) != ((bp f.aD z x).length:Int) then (some (.ret false):Option (Out Int Bool)) else bif ((bp f.aD z x).length:Int) != ((bp f.aB (gi f.aA z) (gi f.aB.To e)).length:Int) then (some (.ret false):Option (Out Int Bool)) else _)=_
   have cast:∀ a b:Nat,((a:Int) != (b:Int))=(a != b):=fun a b=>by
    by_cases h:a=b
    ·rw [h,tk rfl,tk rfl]
    ·rw [sa h,sa fun e=>h (by omega)]
   rw [cast,cast]
   cases (vz (wx f x e z)).length != (bp f.aD z x).length <;> cases (bp f.aD z x).length != (bp f.aB (gi f.aA z) (gi f.aB.To e)).length <;> rfl
theorem HM {x y e:Int} (x0:0≤x) (x1:x < f.aD.aA) (he:dn f.aB (gi f.aA x) y e):wi f x e=false↔Bb f y x e:=by
 have F:=cn hf
 have C:=F.c
 have D:=F.d
 have ol:=F.ol
 have im:∀ z a:Int,dn f.aD z x a→dn f.aB (gi f.aA z) y (gk f.aB.aC (gi f.ab a) e):=fun z a h=>fh D (j8 F h) he
 have YH:∀ z,(bp f.aD z x).Nodup:=fun z=>ya
 have nd2:∀ z,(bp f.aB z y).Nodup:=fun z=>ya
 have il:∀ z,(wx f x e z).length=(bp f.aD z x).length:=fun z=>List.length_map _
 have sub:∀ z,wx f x e z ⊆ bp f.aB (gi f.aA z) y:=fun z v hv=>by
  obtain ⟨a,ha,rfl⟩:=List.mem_map.1 hv
  exact cf.2 (im z a (cf.1 ha))
 have key:∀ z:Int,(((vz (wx f x e z)).length != (bp f.aD z x).length) || ((bp f.aD z x).length != (bp f.aB (gi f.aA z) y).length))=false↔((wx f x e z).Nodup∧(wx f x e z).length=(bp f.aB (gi f.aA z) y).length):=fun z=>by
  rw [Bool.or_eq_false_iff,bne_eq_false_iff_eq,bne_eq_false_iff_eq,← il z,Pt]
 unfold wi
 rw [br,he.2.2]
 constructor
 ·intro h
  refine ⟨x0,x1,he,fun z k z0 z1 hk=>?_,fun z u v hu hv e=>?_⟩
  ·obtain ⟨h1,h2⟩:=(key z).1 (h z z0 (by omega))
   have:k∈wx f x e z:=by
    by_cases hm:k∈wx f x e z
    ·exact hm
    ·exfalso
     have h3:(k :: wx f x e z).Nodup:=List.nodup_cons.2 ⟨hm,h1⟩
     have:=h3.length_le_of_subset (l₂:=bp f.aB (gi f.aA z) y) fun v hv=>by
      rcases List.mem_cons.1 hv with rfl | hv
      ·exact cf.2 hk
      ·exact sub z hv
     rw [List.length_cons] at this
     omega
   obtain ⟨u,hu,eu⟩:=List.mem_map.1 this
   exact ⟨u,cf.1 hu,eu⟩
  ·have hz:=yT C hu
   obtain ⟨h1,_⟩:=(key z).1 (h z hz.1 (by omega))
   exact Vx h1 (cf.2 hu) (cf.2 hv) e
 ·intro U z z0 z1
  refine (key z).2 ⟨?_,?_⟩
  ·unfold wx
   exact MZ (YH z) fun u hu v hv e=>U.un z u v (cf.1 hu) (cf.1 hv) e
  ·have hn:(wx f x e z).Nodup:=by
    unfold wx
    exact MZ (YH z) fun u hu v hv e=>U.un z u v (cf.1 hu) (cf.1 hv) e
   refine Nat.le_antisymm (hn.length_le_of_subset (sub z)) ((nd2 _).length_le_of_subset fun k hk=>?_)
   obtain ⟨u,hu,eu⟩:=U.ex z k z0 (by omega) (cf.1 hk)
   exact List.mem_map.2 ⟨u,cf.2 hu,eu⟩
theorem Vy (y:Int):∃ r,eA f y=some r∧(r.2.2=true→Bb f y r.1 r.2.1)∧((∃ x e,Bb f y x e)→r.2.2=true):=by
 have F:=cn hf
 have C:=F.c
 have D:=F.d
 have so:=C.o8
 have dm:=D.m
 have ol:=F.ol
 have inner:∀ x:Nat,x < f.aA.length→∃ w:Int×Int×Bool,dH f y (x:Int)=(bif (bp f.aB (gi f.aA x) y).any fun e=>!(wi f x e) then some (.ret w) else some (.norm ((x+1:Nat):Int)))∧(((bp f.aB (gi f.aA x) y).any fun e=>!(wi f x e))=true→w.2.2=true∧Bb f y w.1 w.2.1):=fun x hx=>by
  have hl:=ml f.aB (gi f.aA x) y
  unfold dH
  rw [ao (by omega),cond_true,F.uR (by omega) (by omega),aE,yt D,aE]
  have s1:∀ (i:Nat) e,(bp f.aB (gi f.aA x) y)[i]? = some e→(!(wi f x e))=false→dG f (x:Int) (bp f.aB (gi f.aA x) y) (i:Int)=some (.norm ((i+1:Nat):Int)):=fun i e he hp=>by
   have L:=cf.1 (List.mem_of_getElem? he)
   have hi:=bb he
   unfold dG
   rw [ao (by omega),cond_true,bu,he,aE,HK hf (by omega) (by omega) (by rw [L.2.2]; exact L),aE,hp,bF (by omega)]; rfl
  have s2:∀ (i:Nat) e,(bp f.aB (gi f.aA x) y)[i]? = some e→(!(wi f x e))=true→∃ w:Int×Int×Bool,dG f (x:Int) (bp f.aB (gi f.aA x) y) (i:Int)=some (.ret w)∧(w.2.2=true∧Bb f y w.1 w.2.1):=fun i e he hp=>by
   have L:=cf.1 (List.mem_of_getElem? he)
   have hi:=bb he
   refine ⟨((x:Int),e,true),?_,rfl,(HM hf (by omega) (by omega) L).1 (by simpa using hp)⟩
   unfold dG
   rw [ao (by omega),cond_true,bu,he,aE,HK hf (by omega) (by omega) (by rw [L.2.2]; exact L),aE,hp]; rfl
  rcases sz (s0:=(0:Int)) (k:=2) (f:=fun _=>some (Out.norm (R:=Int×Int×Bool) (aj ((x:Int)+1)))) (bp f.aB (gi f.aA x) y) (fun e=>!(wi f x e)) (fun w:Int×Int×Bool=>w.2.2=true∧Bb f y w.1 w.2.1) (fun i=>(i:Int)) rfl (e:=((bp f.aB (gi f.aA x) y).length:Int)) (body:=dG f (x:Int) (bp f.aB (gi f.aA x) y))
   s1 s2 (by unfold dG; rw [ay (by omega),cond_false]) with ⟨h1,w,h2,h3⟩ | ⟨h1,h2⟩
  ·refine ⟨w,?_,fun _=>h3⟩
   rw [h1]
   exact h2
  ·refine ⟨(0,0,false),?_,fun h=>by rw [h1] at h; cases h⟩
   rw [h1]
   refine h2.trans ?_
   rw [bF (by omega)]; rfl
 unfold eA
 have s1:∀ (i:Nat) x,(ns f.aA.length)[i]? = some x→((bp f.aB (gi f.aA x) y).any fun e=>!(wi f x e))=false→dH f y (i:Int)=some (.norm ((i+1:Nat):Int)):=fun i x hx hp=>by
  obtain ⟨rfl,hi⟩:=dg hx
  obtain ⟨w,e1,_⟩:=inner i hi
  rw [e1,hp]; rfl
 have s2:∀ (i:Nat) x,(ns f.aA.length)[i]? = some x→((bp f.aB (gi f.aA x) y).any fun e=>!(wi f x e))=true→∃ w:Int×Int×Bool,dH f y (i:Int)=some (.ret w)∧(w.2.2=true∧Bb f y w.1 w.2.1):=fun i x hx hp=>by
  obtain ⟨rfl,hi⟩:=dg hx
  obtain ⟨w,e1,e2⟩:=inner i hi
  exact ⟨w,by rw [e1,hp]; rfl,e2 hp⟩
 rcases sz (s0:=(0:Int)) (k:=0) (f:=fun _=>some (Out.ret (S:=Unit) ((0:Int),(0:Int),false))) (ns f.aA.length) (fun x=>(bp f.aB (gi f.aA x) y).any fun e=>!(wi f x e)) (fun w:Int×Int×Bool=>w.2.2=true∧Bb f y w.1 w.2.1) (fun i=>(i:Int)) rfl (e:=(f.aA.length:Int)) (body:=dH f y)
  s1 s2 (by unfold dH; rw [cN,ay (by omega),cond_false]) with ⟨h1,w,h2,h3⟩ | ⟨h1,h2⟩
 ·exact ⟨w,by rw [h2]; rfl,fun _=>h3.2,fun _=>h3.1⟩
 ·refine ⟨(0,0,false),by rw [h2]; rfl,fun h=>(by cases h),fun ⟨x,e,U⟩=>?_⟩
  exfalso
  rw [List.any_eq_false] at h1
  have x0:=U.x0
  have x1:=U.x1
  refine h1 x (dh.2 ⟨U.x0,by omega⟩) (List.any_eq_true.2 ⟨e,cf.2 U.l,?_⟩)
  rw [(HM hf U.x0 U.x1 U.l).2 U]; rfl
theorem Cj {x x' e k:Int} (he:dn f.aB (gi f.aA x') (gi f.aB.To e) e):gV f x x' e k=some (jd (bp f.aD x x') fun a=>gk f.aB.aC (gi f.ab a) e == k):=by
 have F:=cn hf
 have C:=F.c
 have D:=F.d
 have cm:=C.m
 unfold gV
 rw [yt C,aE]
 refine vq (l:=bp f.aD x x') (fun i a ha=>?_) ?_
 ·have L:=cf.1 (List.mem_of_getElem? ha)
  have hi:=bb ha
  have hl:=ml f.aD x x'
  have la:=j8 F L
  show fT f e k (bp f.aD x x') (i:Int)=_
  unfold fT
  rw [ao (by omega),cond_true,bu,ha,aE,F.ru L.1.1 L.1.2,aE,D.jv la.1.1 la.1.2 he.1.1 he.1.2,aE,bF (by omega)]
 ·show fT f e k (bp f.aD x x') _=_
  unfold fT
  rw [ay (by omega),cond_false]
end
noncomputable def ua (f:aJ) (y:Int):Int×Int×Bool:=(eA f y).getD (0,0,false)
noncomputable def rO (f:aJ):List Int:=bz f.aB.aA.toNat fun y=>(ua f y).1
noncomputable def rE (f:aJ):List Int:=bz f.aB.aA.toNat fun y=>(ua f y).2.1
noncomputable def rA (f:aJ):List Int:=bz f.aB.aF.length fun g=>jd (bp f.aD (gi (rO f) (gi f.aB.aF g)) (gi (rO f) (gi f.aB.To g))) fun a=>gk f.aB.aC (gi f.ab a) (gi (rE f) (gi f.aB.To g)) == gk f.aB.aC (gi (rE f) (gi f.aB.aF g)) g
noncomputable def rU (f:aJ):List Int:=bz f.aA.length fun x=>jd (bp f.aD x (gi (rO f) (gi f.aA x))) fun a=>gk f.aB.aC (gi f.ab a) (gi (rE f) (gi f.aA x)) == gi f.aB.aH (gi f.aA x)
noncomputable def DR (f:aJ):bX:=bX.mk f (aJ.mk f.aB f.aD (rO f) (rA f)) (rU f) (rE f)
section
variable {f:aJ} (E:Fb f) (fs:gq f)
include E
theorem vU {y:Int} (y0:0≤y) (y1:y < f.aB.aA):eA f y=some (ua f y)∧(ua f y).2.2=true∧Bb f y (gi (rO f) y) (gi (rE f) y):=by
 obtain ⟨r,h1,h2,h3⟩:=Vy E.fb y
 have e:ua f y=r:=by unfold ua; rw [h1]; rfl
 obtain ⟨x,i,j,hx,k1,k2,k3,k4⟩:=E.Vs y y0 y1
 have hr:=h3 ⟨x,i,Sb E hx.1 hx.2 k1 k2 k3 k4⟩
 have e1:gi (rO f) y=(ua f y).1:=lq y0 (by omega)
 have e2:gi (rE f) y=(ua f y).2.1:=lq y0 (by omega)
 rw [e1,e2,e]
 exact ⟨h1,hr,h2 hr⟩
theorem rA9 {g:Int} (g0:0≤g) (g1:g < f.aB.aF.length):dn f.aD (gi (rO f) (gi f.aB.aF g)) (gi (rO f) (gi f.aB.To g)) (gi (rA f) g)∧gk f.aB.aC (gi f.ab (gi (rA f) g)) (gi (rE f) (gi f.aB.To g))=gk f.aB.aC (gi (rE f) (gi f.aB.aF g)) g:=by
 have F:=cn E.fb
 have D:=F.d
 have kf:=D.fr g0 g1
 have kt:=D.to g0 g1
 have U1:=(vU E kf.1 kf.2).2.2
 have U2:=(vU E kt.1 kt.2).2.2
 have lg:dn f.aB (gi f.aB.aF g) (gi f.aB.To g) g:=⟨⟨g0,g1⟩,rfl,rfl⟩
 obtain ⟨u,lu,eu⟩:=U2.ex _ _ U1.x0 U1.x1 (fh D U1.l lg)
 have e:gi (rA f) g=jd (bp f.aD (gi (rO f) (gi f.aB.aF g)) (gi (rO f) (gi f.aB.To g))) fun a=>gk f.aB.aC (gi f.ab a) (gi (rE f) (gi f.aB.To g)) == gk f.aB.aC (gi (rE f) (gi f.aB.aF g)) g:=lq g0 (by omega)
 rw [e]
 rcases n5 (p:=fun a=>gk f.aB.aC (gi f.ab a) (gi (rE f) (gi f.aB.To g)) == gk f.aB.aC (gi (rE f) (gi f.aB.aF g)) g) (l:=bp f.aD (gi (rO f) (gi f.aB.aF g)) (gi (rO f) (gi f.aB.To g))) r7 with ⟨_,k1,k2,_⟩ | ⟨k1,_⟩
 ·exact ⟨cf.1 k1,eq_of_beq k2⟩
 ·rw [List.any_eq_false] at k1
  exact absurd (jr eu) (k1 u (cf.2 lu))
theorem rU9 {x:Int} (x0:0≤x) (x1:x < f.aD.aA):dn f.aD x (gi (rO f) (gi f.aA x)) (gi (rU f) x)∧gk f.aB.aC (gi f.ab (gi (rU f) x)) (gi (rE f) (gi f.aA x))=gi f.aB.aH (gi f.aA x):=by
 have F:=cn E.fb
 have D:=F.d
 have ol:=F.ol
 have ko:=F.ob x0 x1
 have U2:=(vU E ko.1 ko.2).2.2
 obtain ⟨u,lu,eu⟩:=U2.ex _ _ x0 x1 (vV D ko.1 ko.2)
 have e:gi (rU f) x=jd (bp f.aD x (gi (rO f) (gi f.aA x))) fun a=>gk f.aB.aC (gi f.ab a) (gi (rE f) (gi f.aA x)) == gi f.aB.aH (gi f.aA x):=lq x0 (by omega)
 rw [e]
 rcases n5 (p:=fun a=>gk f.aB.aC (gi f.ab a) (gi (rE f) (gi f.aA x)) == gi f.aB.aH (gi f.aA x)) (l:=bp f.aD x (gi (rO f) (gi f.aA x))) r7 with ⟨_,k1,k2,_⟩ | ⟨k1,_⟩
 ·exact ⟨cf.1 k1,eq_of_beq k2⟩
 ·rw [List.any_eq_false] at k1
  exact absurd (jr eu) (k1 u (cf.2 lu))
theorem KF:((rO f).length:Int)=f.aB.aA:=by have:=(cn E.fb).d.o0; unfold rO; rw [bJ]; omega
theorem KG:((rE f).length:Int)=f.aB.aA:=by have:=(cn E.fb).d.o0; unfold rE; rw [bJ]; omega
theorem FH:((rU f).length:Int)=f.aD.aA:=by have:=(cn E.fb).ol; unfold rU; rw [bJ]; exact this
theorem KH:(rA f).length=f.aB.aF.length:=by unfold rA; rw [bJ]
theorem Sd:Adj (DR f):=Se E.fb (KF E) (KG E) (KH E) (FH E) (fun y y0 y1=>(vU E y0 y1).2.2) (fun g g0 g1=>rA9 E g0 g1) fun x x0 x1=>rU9 E x0 x1
include fs
theorem Fe:xA (DR f):=by
 have F:=cn E.fb
 have C:=F.c
 have D:=F.d
 have o8:=D.o8
 have c8:=C.o8
 have dm:=D.m
 have h1:=KF E
 have h2:=KG E
 have h3:=FH E
 have h4:=KH E
 exact ⟨fs,⟨fs.t,fs.s,by show (rO f).length≤_; omega,by show (rA f).length≤_; omega⟩,by show (rU f).length≤_; omega,by show (rE f).length≤_; omega⟩
theorem Vz:gI f=some (DR f,true):=by
 have F:=cn E.fb
 have C:=F.c
 have D:=F.d
 have o0:=D.o0
 have o8:=D.o8
 have so:=C.o8
 have dm:=D.m
 have ol:=F.ol
 have h1:=KF E
 have h2:=KG E
 have h3:=FH E
 have h4:=KH E
 unfold gI
 refine (congrArg ak (j5 (ns f.aB.aA.toNat) (fun i=>(bz i (fun y=>(ua f y).1),bz i (fun y=>(ua f y).2.1),(i:Int))) rfl (e:=(rO f,rE f,(f.aB.aA.toNat:Int))) (fun i x hx=>?_) ?_)).trans ?_
 ·obtain ⟨rfl,hi⟩:=dg hx
  have l1:=bJ i fun y=>(ua f y).1
  have l2:=bJ i fun y=>(ua f y).2.1
  obtain ⟨u1,u2,_⟩:=vU E (y:=(i:Int)) (by omega) (by omega)
  rw [gv,gv]
  show eP f (bz i _) (bz i _) (i:Int)=_
  generalize (bz i fun y=>(ua f y).1)=a1 at l1
  generalize (bz i fun y=>(ua f y).2.1)=a2 at l2
  unfold eP
  rw [ao (by omega),cond_true,u1,aE,u2,show (!true)=false from rfl,cond_false,cY (by omega) (by omega),aE,cY (by omega) (by omega),aE,bF (by omega)]
 ·show eP f _ _ _=_
  unfold eP
  dsimp only
  rw [cN,ay (by omega),cond_false]; rfl
 ·dsimp only
  refine (congrArg ak (j5 (ns f.aB.aF.length) (fun i=>(bz i (fun g=>jd (bp f.aD (gi (rO f) (gi f.aB.aF g)) (gi (rO f) (gi f.aB.To g))) fun a=>gk f.aB.aC (gi f.ab a) (gi (rE f) (gi f.aB.To g)) == gk f.aB.aC (gi (rE f) (gi f.aB.aF g)) g),(i:Int))) rfl (e:=(rA f,(f.aB.aF.length:Int))) (fun i x hx=>?_) ?_)).trans ?_
  ·obtain ⟨rfl,hi⟩:=dg hx
   have l1:=bJ i fun g=>jd (bp f.aD (gi (rO f) (gi f.aB.aF g)) (gi (rO f) (gi f.aB.To g))) fun a=>gk f.aB.aC (gi f.ab a) (gi (rE f) (gi f.aB.To g)) == gk f.aB.aC (gi (rE f) (gi f.aB.aF g)) g
   rw [gv]
   show eQ f (rO f) (rE f) (bz i _) (i:Int)=_
   generalize (bz i fun g=>jd (bp f.aD (gi (rO f) (gi f.aB.aF g)) (gi (rO f) (gi f.aB.To g))) fun a=>gk f.aB.aC (gi f.ab a) (gi (rE f) (gi f.aB.To g)) == gk f.aB.aC (gi (rE f) (gi f.aB.aF g)) g)=acc at l1
   have kf:=D.fr (f:=(i:Int)) (by omega) (by omega)
   have kt:=D.to (f:=(i:Int)) (by omega) (by omega)
   have U1:=(vU E kf.1 kf.2).2.2
   have U2:=(vU E kt.1 kt.2).2.2
   unfold eQ
   rw [ao (by omega),cond_true,D.ic (by omega) (by omega),aE,D.ig (by omega) (by omega),aE,bL kf.1 (by omega),aE,bL (l:=rO f) kt.1 (by omega),aE,bL (l:=rE f) kt.1 (by omega),aE,bL (l:=rE f) kf.1 (by omega),aE,D.jv U1.l.1.1 U1.l.1.2 (by omega) (by omega),aE,Cj E.fb (by rw [U2.l.2.2]; exact U2.l),aE,cY (by omega) (by omega),aE,bF (by omega)]
  ·show eQ f (rO f) (rE f) _ _=_
   unfold eQ
   dsimp only
   rw [cN,ay (by omega),cond_false]; rfl
  ·dsimp only
   refine (congrArg ak (j5 (ns f.aA.length) (fun i=>(bz i (fun x=>jd (bp f.aD x (gi (rO f) (gi f.aA x))) fun a=>gk f.aB.aC (gi f.ab a) (gi (rE f) (gi f.aA x)) == gi f.aB.aH (gi f.aA x)),(i:Int))) rfl (e:=(rU f,(f.aA.length:Int))) (fun i x hx=>?_) ?_)).trans ?_
   ·obtain ⟨rfl,hi⟩:=dg hx
    have l1:=bJ i fun x=>jd (bp f.aD x (gi (rO f) (gi f.aA x))) fun a=>gk f.aB.aC (gi f.ab a) (gi (rE f) (gi f.aA x)) == gi f.aB.aH (gi f.aA x)
    rw [gv]
    show eR f (rO f) (rE f) (bz i _) (i:Int)=_
    generalize (bz i fun x=>jd (bp f.aD x (gi (rO f) (gi f.aA x))) fun a=>gk f.aB.aC (gi f.ab a) (gi (rE f) (gi f.aA x)) == gi f.aB.aH (gi f.aA x))=acc at l1
    have ko:=F.ob (x:=(i:Int)) (by omega) (by omega)
    have U2:=(vU E ko.1 ko.2).2.2
    unfold eR
    rw [ao (by omega),cond_true,F.uR (by omega) (by omega),aE,bL ko.1 (by omega),aE,bL (l:=rE f) ko.1 (by omega),aE,D.kz ko.1 ko.2,aE,Cj E.fb (by rw [U2.l.2.2]; exact U2.l),aE,cY (by omega) (by omega),aE,bF (by omega)]
   ·show eR f (rO f) (rE f) _ _=_
    unfold eR
    dsimp only
    rw [cN,ay (by omega),cond_false]; rfl
   ·have sm:=Fe E fs
    dsimp only
    have c1:fU f=some f:=by
     unfold fU
     rw [r8 fs.s fs.t fs.o fs.a,aE]; rfl
    have c2:fU (DR f).au=some (DR f).au:=by
     unfold fU
     rw [r8 sm.r.s sm.r.t sm.r.o sm.r.a,aE]; rfl
    rw [show gB f.aB f.aD (rO f) (rA f)=some (DR f).au from r8 fs.t fs.s sm.r.o sm.r.a,aE]
    unfold pS
    rw [c1,aE,c2,aE,show fF (rU f)=some (rU f) from DS _ sm.u,aE,show fF (rE f)=some (rE f) from DS _ sm.k,aE]; rfl
end
end Go.Proofs.YtbhhmalgcnhniaaGreat
namespace Go.Proofs.YtbhhmalgcnhniaaGreat
open Go Go.Li
set_option linter.unusedVariables false
set_option linter.unusedSectionVars false
set_option linter.unusedSimpArgs false
def wy:aJ:=aJ.mk (aG.mk 0 [] [] [] []) (aG.mk 0 [] [] [] []) [] []
theorem M0:gq wy:=⟨⟨by simp [wy],by simp [wy],by simp [wy],by simp [wy],by simp [wy]⟩,⟨by simp [wy],by simp [wy],by simp [wy],by simp [wy],by simp [wy]⟩,by simp [wy],by simp [wy]⟩
section
variable {x:List Int} (B:xB x)
include B
theorem XH:Ok (iZ x) gq:=by
 unfold iZ
 refine lj (ob (P:=gq) ?_ fun y hy=>os hy)
 unfold rS
 refine lj (ob (VA B) fun y hy=>?_)
 obtain ⟨s,rfl,S⟩:=hy
 show Ok (bK (aM.mk x s.At s.aw) 4>>=_) _
 refine ob (ei B S.M1 _) fun z hz=>oc (fun _=>ob (Sf B hz.2.M1) fun f hf=>os hf.1) fun _=>ob (HP B hz.2.M1 3 7) fun y2 G0=>?_
 have T2:T7 y2.1:=Eo G0.1 (by omega) (by omega)
 refine ob (XI B G0.2.M1 T2) fun v hv=>ob (ei B hv.2.M1 _) fun w hw=>?_
 obtain ⟨a,b,Ta,Tb,F⟩:=hv.1
 refine oc (fun _=>oe (Jk Ta Tb F) (oc (fun he=>?_) fun _=>os (F.small Ta Tb))) fun _=>os (F.small Ta Tb)
 have hs:s9 v.2.1=false:=by
  unfold Ap at he
  simp only [Bool.and_eq_true,Bool.not_eq_true'] at he
  exact he.2.2
 exact oe (Fc Ta Tb F hs) (os (DP Ta Tb F hs))
end
section
variable {f:aJ} (fs:gq f)
include fs
theorem Jm:iX f=some (bif dw f then (Ap f,0) else (false,1)):=by
 unfold iX rZ
 rw [s6 fs,aE]
 cases hf:dw f with
 | false=>rfl
 | true=>
  simp only [Bool.not_true,cond_false,cond_true]
  rw [HI hf]; rfl
theorem VB:∃ r,gW f=some r∧gX f=some r∧((r.2.2=0∧Fb f∧r=(qF f,qI f,0))∨(r.2.2≠0∧r.1=wy∧r.2.1=[]∧(dw f=true→Ap f=false))):=by
 cases hf:dw f with
 | false=>
  refine ⟨(wy,[],1),?_,?_,.inr ⟨by simp,rfl,rfl,fun h=>(by cases h)⟩⟩
  ·unfold gW
   rw [s6 fs,aE,hf]; rfl
  ·unfold gX
   rw [Bc fs,aE,hf]; rfl
 | true=>
  cases he:Ap f with
  | false=>
   refine ⟨(wy,[],5),?_,?_,.inr ⟨by simp,rfl,rfl,fun _=>rfl⟩⟩
   ·unfold gW
    rw [s6 fs,aE,hf]
    simp only [Bool.not_true,cond_false]
    rw [HI hf,aE,he]; rfl
   ·unfold gX
    rw [Bc fs,aE,hf]
    simp only [Bool.not_true,cond_false]
    rw [MS hf,aE,he]; rfl
  | true=>
   have E:=(BS hf).1 he
   have F:=cn hf
   refine ⟨(qF f,qI f,0),?_,?_,.inl ⟨rfl,E,rfl⟩⟩
   ·unfold gW
    rw [s6 fs,aE,hf]
    simp only [Bool.not_true,cond_false]
    rw [HI hf,aE,he]
    simp only [Bool.not_true,cond_false]
    rw [MX E,aE]; rfl
   ·unfold gX
    rw [Bc fs,aE,hf]
    simp only [Bool.not_true,cond_false]
    rw [MS hf,aE,he]
    simp only [Bool.not_true,cond_false]
    rw [Fc (vT F.c) (vT F.d) (DN F) (sZ E),aE]; rfl
end
theorem Sg {c:aG} (C:lr c) (cs:fg c):jI c=some (xz c,0):=by
 unfold jI
 rw [Hx cs,aE,xC C]
 simp only [Bool.not_true,cond_false]
 rw [Ep C,aE]; rfl
theorem M3 {x0:List Int} (hl:x0.length≤maxLen∧∀ y∈x0,0≤y∧y < 256):jK x0=some true:=by
 unfold jK
 have Ea:sO x0=some (decide ((x0.length:Int) > 4096)):=rfl
 rw [Ea,aE]
 by_cases hb:(x0.length:Int) > 4096
 ·rw [ao hb,cond_true]; rfl
 rw [ay hb,cond_false]
 have BY:xB x0:=⟨by omega,hl.2⟩
 obtain ⟨f,e,fs⟩:=XH BY
 rw [e,aE]
 obtain ⟨r,h1,h2,h3⟩:=VB fs
 rw [h1,aE,h2,aE,Jm fs,aE,tk rfl,cond_false]
 rcases h3 with ⟨h0,E,rfl⟩ | ⟨h0,k1,k2,k3⟩
 ·have F:=cn E.fb
  have C:=F.c
  have D:=F.d
  have sm:=DP (vT C) (vT D) (DN F) (sZ E)
  have dm:=D.m
  have d8:=D.o8
  have il:=DQ E
  have he:=(BS E.fb).2 E
  have hg:=XD E
  have Ul:=(BS hg).2 (XE E)
  have ht:lB (qF f) f=some (qg (qF f) f,0):=by
   unfold lB
   rw [yw [qF f,f] (by simp) (fun c hc=>by
    rcases List.mem_cons.1 hc with rfl | hc
    ·exact sm
    ·rw [List.mem_singleton.1 hc]; exact fs),aE,show [qF f,f].all dw=true by simp [hg,E.fb]]
   simp only [Bool.not_true,cond_false]
   rw [tD sm.t,aE,show sn (qF f).aB f.aD=true from tO.2 rfl]
   simp only [Bool.not_true,cond_false]
   rw [Bd (cn hg).toFHead F.toFHead rfl sm fs,aE]; rfl
  have ts:vW (bE.mk (qg (qF f) f) (xz f.aB) (qI f)):=⟨yx sm fs,Bf D,by show (qI f).length≤_; omega⟩
  dsimp only
  rw [M4 sm,aE]
  rw [show (!true)=false from rfl,cond_false,yb _ _ (by omega),aE,jr rfl,show (!true)=false from rfl,aE,cond_false,tk rfl,cond_false,E.fb,he]
  simp only [cond_true]
  rw [Jm sm,aE,hg,Ul,ht,aE,Sg D fs.t,aE]
  simp only [cond_true,tk (rfl:(0:Int)=0),cond_false,Bool.not_true,aE]
  rw [KJ (QS E) ts.s ts.t,aE,Pu ts,aE,QS E,XF E]
  simp only [tk (rfl:(0:Int)=0),cond_false,Bool.not_true,aE]
  have hr:kH f=some (DR f,0):=by
   unfold kH
   rw [s6 fs,aE,E.fb]
   simp only [Bool.not_true,cond_false]
   rw [Vz E fs,aE]; rfl
  rw [hr,aE]
  have hu:((DR f).Unit.length:Int)=(f.aA.length:Int):=(FH E).trans F.ol.symm
  have acC:lD (DR f)=some true:=by
   unfold lD
   rw [M5 (Fe E fs),aE,VC (Sd E)]; rfl
  dsimp only
  rw [jr (rfl:(0:Int)=0),cond_true,jr hu,cond_true,acC,aE,aE]; rfl
 ·rw [k1,k2,M4 M0,aE,show (!true)=false from rfl,cond_false,yb _ _ (by simp),aE,jr rfl,show (!true)=false from rfl,aE,cond_false,sa h0,cond_true]
  cases hf:dw f with
  | false=>rfl
  | true=>rw [k3 hf]; rfl
end Go.Proofs.YtbhhmalgcnhniaaGreat
