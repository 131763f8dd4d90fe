/- Cones: the list of all cones of a diagram, maps between cones, limits; what is known of them. No condition beside those that each theorem names. -/
import Derived.Test.YtgjbmjjihmfppaaGreatUq
import Derived.Test.YtgjbmjjihmfppaaGreatUr
namespace Go.Proofs.YtgjbmjjihmfppaaGreat
open Go Go.Li
set_option linter.unusedVariables false
set_option linter.unusedSectionVars false
set_option linter.unusedSimpArgs false
def gp (d:aI) (x:Int):aI:=aI.mk d.aC d.aD (List.replicate d.aC.aA.toNat x) (List.replicate d.aC.aE.length (gi d.aD.aH x))
def vW (d:aI) (x:Int):List (List Int):=iz (fun _=>true) (gp d x) d d.aC.aA.toNat []
def ak (d:aI):List aZ:=(ns d.aD.aA.toNat).flatMap fun x=>(vW d x).map fun l=>aZ.mk x l
def CR (d:aI) (p q:aZ) (u:Int):Bool:=(ns q.bb.length).all fun j=>gk d.aD.aB u (gi q.bb j) == gi p.bb j
def gw (d:aI) (p q:aZ):List Int:=((ns d.aD.aE.length).filter (o6 d.aD p.cn q.cn)).filter (CR d p q)
def cf (d:aI) (l:List aZ) (p:aZ):Bool:=l.all fun q=>(gw d q p).length == 1
structure ei (d:aI) (p:aZ):Prop where
 x0:0≤p.cn
 x1:p.cn < d.aD.aA
 l:(p.bb.length:Int)=d.aC.aA
 v:∀ j:Int,0≤j→j < d.aC.aA→(0≤gi p.bb j∧gi p.bb j < d.aD.aE.length)∧gi d.aD.aE (gi p.bb j)=p.cn∧gi d.aD.To (gi p.bb j)=gi d.aA j
 s:∀ a:Int,0≤a→a < d.aC.aE.length→gk d.aD.aB (gi p.bb (gi d.aC.aE a)) (gi d.ab a)=gi p.bb (gi d.aC.To a)
section
variable {d:aI} (hb:cw d=true)
include hb
theorem Dh {x:Int} (x0:0≤x) (x1:x < d.aD.aA):CK (gp d x) d:=by
 have D:=dg hb
 have k:=D.d.id x0 x1
 have kf:=D.d.wh x x0 x1
 have kt:=D.d.xR x x0 x1
 have o0:=D.c.o0
 have hO:∀ y:Int,0≤y→y < d.aC.aA→gi (gp d x).aA y=x:=fun y y0 y1=>xq y0 (by omega)
 have hA:∀ a:Int,0≤a→a < d.aC.aE.length→gi (gp d x).ab a=gi d.aD.aH x:=fun a a0 a1=>xq a0 a1
 have hf:cw (gp d x)=true:=by
  refine Pm (f:=gp d x) (Pk D.c) (Pk D.d) (by show ((List.replicate d.aC.aA.toNat x).length:Int)=d.aC.aA; rw [List.length_replicate]; omega) (List.length_replicate ..) (fun y hy=>?_) (fun y hy=>?_) (fun a a0 a1=>?_) (fun a a0 a1=>?_) (fun y y0 y1=>?_) fun a b a0 a1 b0 b1 e=>?_
  ·rw [(List.mem_replicate.1 hy).2]; exact ⟨x0,x1⟩
  ·rw [(List.mem_replicate.1 hy).2]; exact k
  ·have ka:=D.c.fr a0 a1
   rw [hA a a0 a1]
   exact kf.trans (hO _ ka.1 ka.2).symm
  ·have ka:=D.c.to a0 a1
   rw [hA a a0 a1]
   exact kt.trans (hO _ ka.1 ka.2).symm
  ·have ki:=D.c.id (x:=y) y0 y1
   rw [hO y y0 y1]
   exact hA _ ki.1 ki.2
  ·have kc:=D.c.cell a b a0 a1 b0 b1 e
   rw [hA a a0 a1,hA b b0 b1]
   refine (hA _ kc.1 kc.2.1).trans ?_
   have:=D.d.Dg (gi d.aD.aH x) k.1 k.2
   rw [kf] at this
   exact this.symm
 exact ⟨dg hf,D,hf,hb,rfl,rfl⟩
theorem JF {x:Int} (x0:0≤x) (x1:x < d.aD.aA) {cs:List Int} {a:Int} (a0:0≤a) (a1:a < d.aC.aE.length)
  (hv:(0≤gi cs (gi d.aC.To a)∧gi cs (gi d.aC.To a) < d.aD.aE.length)∧gi d.aD.aE (gi cs (gi d.aC.To a))=x) :
  tb (gp d x) d cs a=(gk d.aD.aB (gi cs (gi d.aC.aE a)) (gi d.ab a) == gi cs (gi d.aC.To a)):=by
 have D:=dg hb
 have h1:gi (gp d x).ab a=gi d.aD.aH x:=xq a0 a1
 have:=D.d.Dg _ hv.1.1 hv.1.2
 rw [hv.2] at this
 unfold tb
 rw [h1]
 show (gk d.aD.aB (gi d.aD.aH x) (gi cs (gi d.aC.To a)) == gk d.aD.aB (gi cs (gi d.aC.aE a)) (gi d.ab a))=_
 rw [this,Bool.eq_iff_iff,beq_iff_eq,beq_iff_eq]
 exact ⟨Eq.symm,Eq.symm⟩
theorem Ha {x:Int} (x0:0≤x) (x1:x < d.aD.aA) {l:List Int} (h:l∈vW d x):ei d (aZ.mk x l):=by
 have D:=dg hb
 have o0:=D.c.o0
 have T:=Dh hb x0 x1
 obtain ⟨h1,h2⟩:=yg T _ _ _ (CQ T) h
 have hl:(l.length:Int)=d.aC.aA:=by simp at h2; omega
 have hv:∀ j:Int,0≤j→j < d.aC.aA→(0≤gi l j∧gi l j < d.aD.aE.length)∧gi d.aD.aE (gi l j)=x∧gi d.aD.To (gi l j)=gi d.aA j:=fun j j0 j1=>by
  have:=h1.v j j0 (by omega)
  rw [show gi (gp d x).aA j=x from xq j0 (by omega)] at this
  exact this
 refine ⟨x0,x1,hl,hv,fun a a0 a1=>?_⟩
 have kf:=D.c.fr a0 a1
 have kt:=D.c.to a0 a1
 have hs:=h1.s a a0 a1 (by have e1:(gp d x).aC=d.aC:=rfl; unfold wi; rw [e1]; split <;> omega)
 rw [JF hb x0 x1 a0 a1 ⟨(hv _ kt.1 kt.2).1,(hv _ kt.1 kt.2).2.1⟩] at hs
 exact beq_iff_eq.1 hs
theorem lj {p:aZ} (h:p∈ak d):ei d p:=by
 have o0:=(dg hb).d.o0
 obtain ⟨x,hx,h⟩:=List.mem_flatMap.1 h
 obtain ⟨l,hl,rfl⟩:=List.mem_map.1 h
 have:=bw.1 hx
 exact Ha hb this.1 (by omega) hl
theorem l4 {p q:aZ} {u:Int}:u∈gw d p q↔((0≤u∧u < d.aD.aE.length)∧gi d.aD.aE u=p.cn∧gi d.aD.To u=q.cn)∧∀ j:Int,0≤j→j < q.bb.length→gk d.aD.aB u (gi q.bb j)=gi p.bb j:=by
 unfold gw CR
 rw [List.mem_filter,List.mem_filter,bw,List.all_eq_true]
 unfold o6
 simp only [Bool.and_eq_true,beq_iff_eq]
 exact ⟨fun ⟨⟨h1,h2⟩,h3⟩=>⟨⟨h1,h2⟩,fun j j0 j1=>h3 j (bw.2 ⟨j0,j1⟩)⟩,fun ⟨⟨h1,h2⟩,h3⟩=>⟨⟨h1,h2⟩,fun j hj=>h3 j (bw.1 hj).1 (bw.1 hj).2⟩⟩
theorem UW {p:aZ} (C:ei d p):gi d.aD.aH p.cn∈gw d p p:=by
 have D:=dg hb
 have k:=D.d.id C.x0 C.x1
 have hl:=C.l
 refine (l4 hb).2 ⟨⟨k,D.d.wh _ C.x0 C.x1,D.d.xR _ C.x0 C.x1⟩,fun j j0 j1=>?_⟩
 have kv:=C.v j j0 (by omega)
 have:=D.d.Dg _ kv.1.1 kv.1.2
 rw [kv.2.1] at this
 exact this
theorem O8 {p:aZ} {l:List aZ} (C:ei d p) (hp:p∈l) (hu:cf d l p=true):gw d p p=[gi d.aD.aH p.cn]:=by
 have h1:=UW hb C
 unfold cf at hu
 have h2:(gw d p p).length=1:=by have:=List.all_eq_true.1 hu p hp; simpa using this
 match h:gw d p p with
 | []=>rw [h] at h1; cases h1
 | [a]=>rw [h] at h1; rw [List.mem_singleton.1 h1]
 | a :: b :: m=>rw [h] at h2; simp at h2
end
end Go.Proofs.YtgjbmjjihmfppaaGreat
namespace Go.Proofs.YtgjbmjjihmfppaaGreat
open Go Go.Li
set_option linter.unusedVariables false
set_option linter.unusedSectionVars false
set_option linter.unusedSimpArgs false
theorem Yu {c:aG} (C:pq c) {f g:Int} (h0:0≤f) (h1:f < c.aE.length) (h2:0≤g) (h3:g < c.aE.length):kU c f g=some (gk c.aB f g):=by
 unfold kU; rw [C.mq h0 h1,aF,C.l8 h0 h1 h2 h3,aF]; rfl
section
variable {d:aI} (hb:cw d=true)
include hb
theorem JN {p q:aZ} (P:ei d p) (Q:ei d q):nQ d p q=some (gw d p q):=by
 have D:=dg hb
 have dm:=D.d.m
 have co:=D.c.o8
 have pl:=P.l
 have ql:=Q.l
 unfold nQ
 rw [Yv D.d,aF]
 unfold gw
 generalize hl:(ns d.aD.aE.length).filter (o6 d.aD p.cn q.cn)=l
 have Cp:∀ b∈l,0≤b∧b < d.aD.aE.length:=by intro b hb; rw [← hl] at hb; exact bw.1 (List.mem_filter.1 hb).1
 have JJ:l.length≤d.aD.aE.length:=by rw [← hl]; exact Nat.le_trans (List.length_filter_le _ _) (by rw [dF]; exact Nat.le_refl _)
 refine (congrArg ao (ud l (CR d p q) (fun acc i=>(acc,(i:Int))) rfl ?_ ?_)).trans rfl
 ·intro i u acc hu Ed
  have hi:=bg hu
  have ku:=Cp u (List.mem_of_getElem? hu)
  show jF d p q l (acc,(i:Int))=_
  unfold jF
  dsimp only
  rw [av (by omega),cond_true,bp,hu,aF,bQ (show i < 9223372036854775807 by omega),dH (by omega) (by omega)]
  refine (Ls (n:=q.bb.length) (fun j=>!(gk d.aD.aB u (gi q.bb j) == gi p.bb j)) rfl (fun j hj=>?_) ?_).trans ?_
  ·unfold oE
   have kq:=Q.v (j:Int) (by omega) (by omega)
   rw [av (by omega),cond_true,cH (by omega) (by omega),aF,D.d.sY ku.1 ku.2 kq.1.1 kq.1.2,aF,cH (by omega) (by omega),aF,bQ (by omega)]
   rfl
  ·unfold oE
   rw [bc (by omega),cond_false]
  ·rw [ni]
   show _=some (Out.norm (if CR d p q u then acc++[u] else acc,((i+1:Nat):Int)))
   unfold CR
   cases (ns q.bb.length).all fun j=>gk d.aD.aB u (gi q.bb j) == gi p.bb j <;> rfl
 ·intro acc
  show jF d p q l (acc,_)=_
  unfold jF
  dsimp only
  rw [bc (by omega),cond_false]
theorem JO {p q:aZ} (P:ei d p) (Q:ei d q):pO d p q=some (gw d p q):=by
 have D:=dg hb
 have dm:=D.d.m
 have co:=D.c.o8
 have pl:=P.l
 have ql:=Q.l
 unfold pO
 rw [Tx D.d,aF]
 unfold gw
 generalize hl:(ns d.aD.aE.length).filter (o6 d.aD p.cn q.cn)=l
 have Cp:∀ b∈l,0≤b∧b < d.aD.aE.length:=by intro b hb; rw [← hl] at hb; exact bw.1 (List.mem_filter.1 hb).1
 have JJ:l.length≤d.aD.aE.length:=by rw [← hl]; exact Nat.le_trans (List.length_filter_le _ _) (by rw [dF]; exact Nat.le_refl _)
 refine (congrArg ao (ud l (CR d p q) (fun acc i=>(acc,(i:Int))) rfl ?_ ?_)).trans rfl
 ·intro i u acc hu Ed
  have hi:=bg hu
  have ku:=Cp u (List.mem_of_getElem? hu)
  show jS d p q l acc (i:Int)=_
  unfold jS
  rw [av (by omega),cond_true,bQ (show i < 9223372036854775807 by omega),dH (by omega) (by omega)]
  have GD:∃ j:Int,aj (fun s:Bool×Int=>jR d p q l (i:Int) s.1 s.2) (true,(0:Int))=some (.exit 2 ((ns p.bb.length).all (fun j=>gk d.aD.aB u (gi q.bb j) == gi p.bb j),j)):=by
   refine G7 (R:=List Int) (k:=2) (n:=p.bb.length) (fun j=>gk d.aD.aB u (gi q.bb j) == gi p.bb j) (fun j hj=>?_) (fun j hj=>?_) ?_
   ·have kq:=Q.v (j:Int) (by omega) (by omega)
    unfold jR
    dsimp only
    rw [av (by omega),cond_true,aF,cond_true,bp,hu,aF,cH (by omega) (by omega),aF,Yu D.d ku.1 ku.2 kq.1.1 kq.1.2,aF,cH (by omega) (by omega),aF,bQ (by omega)]
   ·unfold jR
    dsimp only
    cases decide ((j:Int) < (p.bb.length:Int)) <;> rfl
   ·unfold jR
    dsimp only
    rw [bc (by omega),cond_false]; rfl
  obtain ⟨j,hj⟩:=GD
  rw [um hj]
  show (bif _ then _ else _)=some (Out.norm (if CR d p q u then acc++[u] else acc,((i+1:Nat):Int)))
  unfold CR
  rw [show p.bb.length=q.bb.length by omega,bp,hu]
  cases (ns q.bb.length).all fun j=>gk d.aD.aB u (gi q.bb j) == gi p.bb j <;> rfl
 ·intro acc
  show jS d p q l acc _=_
  unfold jS
  rw [bc (by omega),cond_false]
theorem vl {l:List aZ} (hl:∀ q∈l,ei d q) (hm:l.length≤100000) {p:aZ} (P:ei d p):eE d l p=some (cf d l p):=by
 unfold eE
 refine (congrArg ao (jc l (fun q=>!((gw d q p).length == 1)) (y:=false) (e:=(l.length:Int)) (fun i=>(i:Int)) rfl (fun i q hq hp=>?_) (fun i q hq hp=>?_) ?_)).trans ?_
 ·have hi:=bg hq
  unfold jI
  rw [av (by omega),cond_true,bp,hq,aF,JN hb (hl q (List.mem_of_getElem? hq)) P,aF,bQ (by omega)]
  have h1:(gw d q p).length=1:=by simpa using hp
  rw [h1]; rfl
 ·have hi:=bg hq
  unfold jI
  rw [av (by omega),cond_true,bp,hq,aF,JN hb (hl q (List.mem_of_getElem? hq)) P,aF,bQ (by omega)]
  have h1:(gw d q p).length≠1:=by simpa using hp
  rw [show (((gw d q p).length:Int) != (1:Int))=true by rw [bne_iff_ne]; omega]; rfl
 ·unfold jI
  rw [bc (by omega),cond_false]
 ·unfold cf
  rw [ni]
  cases l.all fun q=>(gw d q p).length == 1 <;> rfl
theorem Lm {l:List aZ} (hl:∀ q∈l,ei d q) (hm:l.length≤100000) {p:aZ} (P:ei d p):iL d l p=some (cf d l p):=by
 unfold iL
 refine (congrArg ao (jc l (fun q=>!((gw d q p).length == 1)) (y:=false) (e:=(l.length:Int)) (fun i=>(i:Int)) rfl (fun i q hq hp=>?_) (fun i q hq hp=>?_) ?_)).trans ?_
 ·have hi:=bg hq
  unfold iN
  rw [av (by omega),cond_true,bp,hq,aF,JO hb (hl q (List.mem_of_getElem? hq)) P,aF,bQ (by omega)]
  have h1:(gw d q p).length=1:=by simpa using hp
  rw [h1]; rfl
 ·have hi:=bg hq
  unfold iN
  rw [av (by omega),cond_true,bp,hq,aF,JO hb (hl q (List.mem_of_getElem? hq)) P,aF,bQ (by omega)]
  have h1:(gw d q p).length≠1:=by simpa using hp
  rw [show (((gw d q p).length:Int) != (1:Int))=true by rw [bne_iff_ne]; omega]; rfl
 ·unfold iN
  rw [bc (by omega),cond_false]
 ·unfold cf
  rw [ni]
  cases l.all fun q=>(gw d q p).length == 1 <;> rfl
theorem UX {x:Int} (x0:0≤x) (x1:x < d.aD.aA):eJ d.aC d.aD x=some (gp d x):=by
 have D:=dg hb
 have o0:=D.c.o0
 have o8:=D.c.o8
 have cm:=D.c.m
 suffices h:Ok (eJ d.aC d.aD x) fun e=>e=gp d x by
  obtain ⟨y,h1,h2⟩:=h
  rw [h1,h2]
 unfold eJ
 refine jy (ol (fun z:List Int×Int=>(0≤z.2∧z.2≤d.aC.aA)∧z.1=List.replicate z.2.toNat x) (fun z=>(d.aC.aA - z.2).toNat) ⟨⟨by show (0:Int)≤0; omega,o0⟩,rfl⟩ ?_)
 rintro ⟨l,i⟩ ⟨⟨i0,i1⟩,hl⟩
 dsimp only at i0 i1 hl
 have JJ:l.length=i.toNat:=by rw [hl,List.length_replicate]
 show Ok (gA d.aC x l i) _
 unfold gA
 refine od (fun hi=>fw (by omega) (by omega) (os ⟨⟨⟨?_,?_⟩,?_⟩,?_⟩)) fun hi=>os ⟨rfl,?_⟩
 all_goals (try dsimp only)
 all_goals (try rw [w1 i0 hi (by omega)])
 ·omega
 ·omega
 ·rw [show (i+1).toNat=i.toNat+1 by omega,List.replicate_succ',hl]
 ·omega
 obtain rfl:i=d.aC.aA:=by omega
 refine ol (fun z:List Int×Int=>(0≤z.2∧z.2≤d.aC.aE.length)∧z.1=List.replicate z.2.toNat (gi d.aD.aH x)) (fun z=>(d.aC.aE.length - z.2).toNat) ⟨⟨by show (0:Int)≤0; omega,by show (0:Int)≤_; omega⟩,rfl⟩ ?_
 rintro ⟨l2,j⟩ ⟨⟨j0,j1⟩,qg⟩
 dsimp only at j0 j1 qg
 have apG:l2.length=j.toNat:=by rw [qg,List.length_replicate]
 show Ok (gB d.aC d.aD x l2 j) _
 unfold gB
 refine od (fun hj=>oe (D.d.p8 x0 x1) (fw (by omega) (by omega) (os ⟨⟨⟨?_,?_⟩,?_⟩,?_⟩))) fun hj=>os ⟨rfl,?_⟩
 all_goals (try dsimp only)
 all_goals (try rw [w1 j0 hj (by omega)])
 ·omega
 ·omega
 ·rw [show (j+1).toNat=j.toNat+1 by omega,List.replicate_succ',qg]
 ·omega
 obtain rfl:j=d.aC.aE.length:=by omega
 refine oe (zf (zN D.c) (zN D.d) (by omega) (by omega)) (os ?_)
 rw [hl,qg]; rfl
def uq (d:aI) (x:Nat):List aZ:=(ns x).flatMap fun x=>(vW d x).map fun l=>aZ.mk x l
theorem Pn:lL d=some ((ak d).take 401):=by
 have D:=dg hb
 have o0:=D.d.o0
 have o8:=D.d.o8
 suffices h:Ok (lL d) fun e=>e=(ak d).take 401 by
  obtain ⟨y,h1,h2⟩:=h
  rw [h1,h2]
 unfold lL
 refine jy (ol (fun z:List aZ×Int=>(0≤z.2∧z.2≤d.aD.aA)∧z.1=(uq d z.2.toNat).take 401) (fun z=>(d.aD.aA - z.2).toNat) ⟨⟨by show (0:Int)≤0; omega,o0⟩,rfl⟩ ?_)
 rintro ⟨out,x⟩ ⟨⟨x0,x1⟩,ho⟩
 dsimp only at x0 x1 ho
 show Ok (oG d (out,x)) _
 unfold oG
 dsimp only
 have gy:out.length≤401:=by rw [ho]; exact List.length_take_le _ _
 by_cases hx:x < d.aD.aA
 ·rw [av hx,cond_true,aF]
  by_cases h4:(out.length:Int)≤400
  ·rw [av h4,cond_true]
   have T:=Dh hb x0 hx
   have hf:=Ys T (cg:=false) (m:=401 - out.length) (by omega) (by omega)
   have hw:an ((401:Int) - (out.length:Int))=((401 - out.length:Nat):Int):=by rw [dW (by omega) (by omega)]; omega
   rw [hw]
   refine oe (UX hb x0 hx) (oe hf ?_)
   generalize hL:(iz (wj false (gp d x)) (gp d x) d (gp d x).aC.aA.toNat []).take (401 - out.length)=L
   have hLl:L.length≤401 - out.length:=by rw [← hL]; exact List.length_take_le _ _
   refine ol (fun z:List aZ×Int=>(0≤z.2∧z.2≤L.length)∧z.1=out++(L.take z.2.toNat).map fun l=>aZ.mk x l) (fun z=>(L.length - z.2).toNat) ⟨⟨by show (0:Int)≤0; omega,by show (0:Int)≤_; omega⟩,by show out=out++_; simp⟩ ?_
   rintro ⟨o2,i⟩ ⟨⟨i0,i1⟩,h2⟩
   dsimp only at i0 i1 h2
   show Ok (oF x L (o2,i)) _
   unfold oF
   dsimp only
   have h2l:o2.length=out.length+i.toNat:=by rw [h2,List.length_append,List.length_map,List.length_take]; omega
   refine od (fun hi=>?_) fun hi=>os ⟨rfl,?_⟩
   ·have hg:L[i.toNat]? = some L[i.toNat]:=List.getElem?_eq_getElem (by omega)
    refine oe (yU i0 hi) (fw (by omega) (by omega) (os ⟨⟨⟨?_,?_⟩,?_⟩,?_⟩))
    all_goals (try dsimp only)
    all_goals (try rw [w1 i0 hi (by omega)])
    ·omega
    ·omega
    ·rw [show (i+1).toNat=i.toNat+1 by omega,List.take_add_one,hg,List.map_append,← List.append_assoc,← h2]; rfl
    ·omega
   ·obtain rfl:i=L.length:=by omega
    refine os ⟨⟨⟨?_,?_⟩,?_⟩,?_⟩
    all_goals (try dsimp only)
    all_goals (try rw [w1 x0 hx (by omega)])
    ·omega
    ·omega
    ·have e1:uq d (x.toNat+1)=uq d x.toNat++(vW d x).map fun l=>aZ.mk x l:=by
      unfold uq
      rw [Dp,List.flatMap_append,show ((x.toNat:Nat):Int)=x by omega]
      simp
     have hA:(uq d x.toNat).length=out.length:=by
      have:=congrArg List.length ho
      rw [List.length_take] at this
      omega
     rw [h2,Int.toNat_natCast,List.take_length,show (x+1).toNat=x.toNat+1 by omega,e1,List.take_append,← ho,← hL,List.map_take,hA]
     rfl
    ·omega
  ·rw [bc h4,cond_false]
   refine os ⟨rfl,os ?_⟩
   have hlen:out.length=401:=by omega
   have hle:401≤(uq d x.toNat).length:=by rw [ho,List.length_take] at hlen; omega
   rw [ho]
   unfold uq at hle ⊢
   unfold ak
   have Yw:∃ r,ns d.aD.aA.toNat=ns x.toNat++r:=by
    refine ⟨(ns d.aD.aA.toNat).drop x.toNat,?_⟩
    have:(ns d.aD.aA.toNat).take x.toNat=ns x.toNat:=by
     unfold ns
     rw [← List.map_take,List.take_range]
     congr 2; omega
    rw [← this,List.take_append_drop]
   obtain ⟨r,hr⟩:=Yw
   rw [hr,List.flatMap_append,List.take_append_of_le_length hle]
   exact rfl
 ·rw [bc hx,cond_false,aF,cond_false]
  obtain rfl:x=d.aD.aA:=by omega
  exact os ⟨rfl,os ho⟩
end
end Go.Proofs.YtgjbmjjihmfppaaGreat
namespace Go.Proofs.YtgjbmjjihmfppaaGreat
open Go Go.Li
set_option linter.unusedVariables false
set_option linter.unusedSectionVars false
set_option linter.unusedSimpArgs false
def Hm7 (d:aI) (x X:Int) (cs:List Int):Prop:=∀ i:Int,0≤i→i≤X→gi d.aD.aE (gi cs i)=x
section
variable {d:aI} (hb:cw d=true) {x:Int} (x0:0≤x) (x1:x < d.aD.aA)
include hb x0 x1
theorem UY {R S:Type} {X:Int} {cs:List Int} (j:B6 (gp d x) cs) (hX:X < d.aC.aA) (hm:Hm7 d x X cs) {A B:Option (Out S R)}:GO 2 1 (aj (fun s=>mV (ρ:=R) d X cs s) (0:Int)) (fun _=>A) (fun _=>B)=bif wL (gp d x) d X cs then A else B:=by
 have D:=dg hb
 have cm:=D.c.m
 have al:=D.al
 have jl:(cs.length:Int)=d.aC.aA:=j.1
 refine (Ls (n:=d.aC.aE.length) (wM (gp d x) d X cs) rfl (fun a ha=>?_) ?_).trans ?_
 ·have a1:(a:Int) < d.aC.aE.length:=by omega
  have kf:=D.c.fr (f:=(a:Int)) (by omega) a1
  have kt:=D.c.to (f:=(a:Int)) (by omega) a1
  have ka:=D.ar (a:=(a:Int)) (by omega) a1
  unfold mV
  rw [av (by omega),cond_true,D.wQ (by omega) a1,aF,D.c.jx (by omega) a1,aF,D.c.kz (by omega) a1,aF,bQ (by omega)]
  have hb7:wM (gp d x) d X cs a=((if gi d.aC.To (a:Int) > gi d.aC.aE (a:Int) then gi d.aC.To (a:Int) else gi d.aC.aE (a:Int)) == X && !(tb (gp d x) d cs a)):=rfl
  rw [hb7]
  by_cases e:(if gi d.aC.To (a:Int) > gi d.aC.aE (a:Int) then gi d.aC.To (a:Int) else gi d.aC.aE (a:Int))=X
  ·have hle:gi d.aC.aE (a:Int)≤X∧gi d.aC.To (a:Int)≤X:=by split at e <;> omega
   have kF:=j.2 _ (fu (l:=cs) kf.1 (by omega))
   have kT:=j.2 _ (fu (l:=cs) kt.1 (by omega))
   rw [uc e,cond_true,cH (l:=cs) kf.1 (by omega),aF,D.d.sY kF.1 kF.2 ka.1 ka.2,aF,cH (l:=cs) kt.1 (by omega),aF,aF,
    JF hb x0 x1 (by omega) a1 ⟨kT,hm _ kt.1 hle.2⟩]
   rfl
  ·rw [o3 e]; rfl
 ·unfold mV
  rw [bc (by omega),cond_false]
 ·unfold wL
  show (bif (ns d.aC.aE.length).any (wM (gp d x) d X cs) then B else A)=bif !((ns d.aC.aE.length).any (wM (gp d x) d X cs)) then A else B
  cases (ns d.aC.aE.length).any (wM (gp d x) d X cs) <;> rfl
section
variable {σ:Type} {fo:List Int→σ→Option (Bool×σ)}
theorem UZ:∀ (k n:Nat) (p cs:List Int) (st:σ),B6 (gp d x) cs→Ee p cs→(∀ i:Int,0≤i→i < p.length→gi d.aD.aE (gi p i)=x)→((p.length+k:Nat):Int)=d.aC.aA→k < n→∀ y,uC fo (iz (fun _=>true) (gp d x) d k p) st=some y→
  ∃ iq,B6 (gp d x) iq∧Ee p iq∧fF fo d x n (p.length:Int) cs st=some (y.1,iq,y.2):=by
 have D:=dg hb
 have T:=Dh hb x0 x1
 have co:=D.c.o8
 have dm:=D.d.m
 intro k
 induction k with
 | zero=>
  intro n p cs st j hp hm hk hn y hy
  obtain ⟨n,rfl⟩ : ∃ i,n=i+1:=⟨n - 1,by omega⟩
  have jl:(cs.length:Int)=d.aC.aA:=j.1
  have e:cs=p:=CL (by omega) fun x x0 x1=>hp x x0 x1
  subst e
  refine ⟨cs,j,fun _ _ _=>rfl,?_⟩
  unfold fF nP
  rw [uc (by omega),cond_true]
  have h1:(fo cs st>>=fun y=>bif !y.1 then some (false,y.2) else some (true,y.2))=some y:=hy
  cases hf:fo cs st with
  | none=>rw [hf] at h1; cases h1
  | some z=>
   rw [hf] at h1
   obtain ⟨b,z⟩:=z
   cases b <;> (cases h1; rfl)
 | succ k ih=>
  intro n p cs st j hp hm hk hn y hy
  obtain ⟨n,rfl⟩ : ∃ i,n=i+1:=⟨n - 1,by omega⟩
  have xX:(p.length:Int) < d.aC.aA:=by omega
  unfold fF nP
  rw [o3 (by omega),cond_false,D.zd (by omega) xX,aF,Yv D.d,aF]
  have ae3:gi (gp d x).aA (p.length:Int)=x:=xq (by omega) (by omega)
  generalize hl:(ns d.aD.aE.length).filter (o6 d.aD x (gi d.aA p.length))=l
  have Cp:∀ b∈l,(0≤b∧b < d.aD.aE.length)∧gi d.aD.aE b=x:=by
   intro b hb
   rw [← hl] at hb
   obtain ⟨h1,h2⟩:=List.mem_filter.1 hb
   unfold o6 at h2
   simp only [Bool.and_eq_true,beq_iff_eq] at h2
   exact ⟨bw.1 h1,h2.1⟩
  have JJ:l.length≤d.aD.aE.length:=by rw [← hl]; exact Nat.le_trans (List.length_filter_le _ _) (by rw [dF]; exact Nat.le_refl _)
  have tV:uC fo ((l.filter (xS (fun _=>true) (gp d x) d p)).flatMap fun b=>iz (fun _=>true) (gp d x) d k (p++[b])) st=some y:=by
   rw [← hl]
   have h2:uC fo ((((ns d.aD.aE.length).filter (o6 d.aD (gi (gp d x).aA p.length) (gi d.aA p.length))).filter (xS (fun _=>true) (gp d x) d p)).flatMap fun b=>iz (fun _=>true) (gp d x) d k (p++[b])) st=some y:=hy
   rw [ae3] at h2
   exact h2
  have key:∀ (m:List Int) (i:Nat) (cs:List Int) (st:σ),l.drop i=m→i≤l.length→B6 (gp d x) cs→Ee p cs→∀ y,uC fo ((m.filter (xS (fun _=>true) (gp d x) d p)).flatMap fun b=>iz (fun _=>true) (gp d x) d k (p++[b])) st=some y→
    ∃ iq,B6 (gp d x) iq∧Ee p iq∧aj (fun s=>kO (fF fo d x n) d p.length l s) ((i:Int),cs,st)=some (bif y.1 then .exit 0 ((l.length:Int),iq,y.2) else .ret (false,iq,y.2)):=by
   intro m
   induction m with
   | nil=>
    intro i cs st hd hi j hp y hy
    obtain rfl:i=l.length:=by have:=congrArg List.length hd; simp at this; omega
    cases hy
    refine ⟨cs,j,hp,mh ?_⟩
    unfold kO
    rw [bc (by omega),cond_false]
   | cons b m Tz=>
    intro i cs st hd hi j hp y hy
    have bn:i < l.length:=by
     rcases Nat.lt_or_ge i l.length with h | h
     ·exact h
     ·rw [List.drop_eq_nil_of_le h] at hd; cases hd
    have hx:l[i]? = some b:=by
     rw [List.drop_eq_getElem_cons bn] at hd
     rw [List.getElem?_eq_getElem bn]; exact congrArg some (List.cons.inj hd).1
    have jd:l.drop (i+1)=m:=by rw [List.drop_eq_getElem_cons bn] at hd; exact (List.cons.inj hd).2
    have tU:=Cp b (List.mem_of_getElem? hx)
    have jl:(cs.length:Int)=d.aC.aA:=j.1
    have j1:B6 (gp d x) (cs.set (p.length:Int).toNat b):=B6.put T j (x:=(p.length:Int)) tU.1.1 tU.1.2
    have su:∀ q:Int,0≤q→gi (cs.set (p.length:Int).toNat b) q=if q=(p.length:Int) then b else gi cs q:=fun q q0=>pg (by omega) (by omega) q0
    have sm:Ee p (cs.set (p.length:Int).toNat b):=fun q q0 q1=>by rw [su q q0,if_neg (by omega)]; exact hp q q0 q1
    have Oi:Ee (p++[b]) (cs.set (p.length:Int).toNat b):=fun q q0 q1=>by
     rw [List.length_append,List.length_singleton] at q1
     rw [su q q0,jf q0]
     by_cases e:q=(p.length:Int)
     ·rw [if_pos e,if_neg (by omega),if_pos e]
     ·rw [if_neg e,if_pos (by omega)]; exact hp q q0 (by omega)
    have hmb:∀ i:Int,0≤i→i < (p++[b]).length→gi d.aD.aE (gi (p++[b]) i)=x:=fun q q0 q1=>by
     rw [List.length_append,List.length_singleton] at q1
     rw [jf q0]
     by_cases e:q < (p.length:Int)
     ·rw [if_pos e]; exact hm q q0 e
     ·rw [if_neg e,if_pos (by omega)]; exact tU.2
    have hmc:Hm7 d x p.length (cs.set (p.length:Int).toNat b):=fun q q0 q1=>by
     rw [Oi q q0 (by rw [List.length_append,List.length_singleton]; omega)]
     exact hmb q q0 (by rw [List.length_append,List.length_singleton]; omega)
    have MA:wL (gp d x) d p.length (cs.set (p.length:Int).toNat b)=wL (gp d x) d p.length (p++[b]):=M6 T fun q q0 q1=>Oi q q0 (by rw [List.length_append,List.length_singleton]; omega)
    have nx:kO (fF fo d x n) d p.length l ((i:Int),cs,st) =
      (bif wL (gp d x) d p.length (p++[b]) then ((fF fo d x n (((p++[b]).length:Nat):Int) (cs.set (p.length:Int).toNat b) st)>>=fun Po=>(bif !(Po.1) then (some (Out.ret (false,Po.2.1,Po.2.2))) else (some (Out.norm (((i+1:Nat):Int),Po.2.1,Po.2.2)))))
       else (some (Out.norm (((i+1:Nat):Int),cs.set (p.length:Int).toNat b,st)))):=by
     unfold kO
     dsimp only
     rw [av (by omega),cond_true,bp,hx,aF,cH (l:=cs) (by omega) (by omega),aF,UY hb x0 x1 j1 xX hmc,MA,bQ (by omega),bQ (by omega),List.length_append,List.length_singleton]
    rw [n5,nx]
    cases hf:wL (gp d x) d p.length (p++[b]) with
    | false=>
     have hq:xS (fun _=>true) (gp d x) d p b=false:=by unfold xS; rw [hf,Bool.and_false]
     rw [List.filter_cons_of_neg (by rw [hq]; decide)] at hy
     exact Tz (i+1) _ st jd (by omega) j1 sm y hy
    | true=>
     have hq:xS (fun _=>true) (gp d x) d p b=true:=by unfold xS; rw [hf]; rfl
     rw [List.filter_cons_of_pos (by rw [hq]),List.flatMap_cons,RW] at hy
     cases hr:uC fo (iz (fun _=>true) (gp d x) d k (p++[b])) st with
     | none=>rw [hr] at hy; cases hy
     | some z=>
      rw [hr,aF] at hy
      obtain ⟨zt,j2,oq,e2⟩:=ih n (p++[b]) _ st j1 Oi hmb (by rw [List.length_append,List.length_singleton]; omega) (by omega) z hr
      have Ta:Ee p zt:=fun q q0 q1=>by rw [oq q q0 (by rw [List.length_append,List.length_singleton]; omega),jf q0,if_pos q1]
      simp only [cond_true]
      rw [e2,aF]
      cases hz:z.1 with
      | false=>
       rw [hz] at hy
       cases hy
       exact ⟨zt,j2,Ta,rfl⟩
      | true=>
       rw [hz] at hy
       exact Tz (i+1) zt z.2 jd (by omega) j2 Ta y hy
  obtain ⟨iq,j',u7,e⟩:=key l 0 cs st rfl (by omega) j hp y tV
  refine ⟨iq,j',u7,?_⟩
  rw [show ((0:Int),cs,st)=(((0:Nat):Int),cs,st) from rfl,e]
  obtain ⟨b,z⟩:=y
  cases b <;> rfl
theorem RX {st:σ} {y:Bool×σ} (hy:uC fo (vW d x) st=some y):rG fo d x st=some y:=by
 have D:=dg hb
 have co:=D.c.o8
 have c0:=D.c.o0
 have ol:=D.ol
 have j0:B6 (gp d x) (List.replicate d.aC.aA.toNat (0:Int)):=by
  refine ⟨by rw [List.length_replicate]; show ((d.aC.aA.toNat:Nat):Int)=d.aC.aA; omega,fun y hy=>?_⟩
  obtain ⟨h1,rfl⟩:=List.mem_replicate.1 hy
  have k:=D.d.id x0 x1
  show 0≤(0:Int)∧(0:Int) < d.aD.aE.length
  omega
 obtain ⟨iq,_,_,e⟩:=UZ hb x0 x1 d.aC.aA.toNat 64 [] _ st j0 (fun i i0 i1=>by simp at i1; omega) (fun i i0 i1=>by simp at i1; omega) (by simp; omega) (by omega) y hy
 unfold rG
 have hn:d.aA.length=d.aC.aA.toNat:=by omega
 rw [Fe (by omega) (by omega),aF,hn]
 have e':fF fo d x 64 (0:Int) (List.replicate d.aC.aA.toNat 0) st=some (y.1,iq,y.2):=e
 rw [e',aF]
 rfl
end
theorem Pp (l:List (List Int)) (hl:∀ c∈l,c.length≤1048576):∀ out:List aZ,out.length≤400→uC (fun a0 a1=>eH a0 a1 x) l out=some (bif decide (out.length+l.length≤400) then (true,out++l.map fun l=>aZ.mk x l) else (false,out++(l.take (401 - out.length)).map fun l=>aZ.mk x l)):=by
 induction l with
 | nil=>intro out ho; rw [av (by simpa using ho)]; show some (true,out)=some (true,out++[]); rw [List.append_nil]
 | cons c l ih=>
  intro out ho
  show (eH c out x>>=fun y=>bif !y.1 then some (false,y.2) else uC (fun a0 a1=>eH a0 a1 x) l y.2)=_
  have h1:eH c out x=some (decide (((out++[aZ.mk x c]).length:Int)≤400),out++[aZ.mk x c]):=by
   unfold eH
   rw [JP c (hl c (by simp)),aF,dH (by omega) (by omega),aF]
   rfl
  rw [h1,aF]
  by_cases h:out.length < 400
  ·rw [av (by rw [List.length_append,List.length_singleton]; omega)]
   simp only [Bool.not_true,cond_false]
   rw [ih (fun c hc=>hl c (by simp [hc])) (out++[aZ.mk x c]) (by rw [List.length_append,List.length_singleton]; omega)]
   have e:(out++[aZ.mk x c]).length+l.length=out.length+(c :: l).length:=by simp; omega
   rw [e]
   by_cases h2:out.length+(c :: l).length≤400
   ·rw [av h2]; simp
   ·rw [bc h2]
    simp only [cond_false]
    rw [show 401 - out.length=(401 - (out++[aZ.mk x c]).length)+1 by simp; omega,List.take_succ_cons]
    simp
  ·have:out.length=400:=by omega
   rw [bc (by rw [List.length_append,List.length_singleton]; omega)]
   rw [bc (by simp; omega),this]
   simp
end
section
variable {d:aI} (hb:cw d=true)
include hb
theorem RY {x:Int} (x0:0≤x) (x1:x < d.aD.aA):∀ c∈vW d x,c.length≤1048576:=fun c hc=>by
 have h:=(Ha hb x0 x1 hc).l
 have:=(dg hb).c.o8
 dsimp only at h
 omega
theorem RZ {x:Nat} (hx:x≤d.aD.aA.toNat):∃ r,ak d=uq d x++r:=by
 refine ⟨((ns d.aD.aA.toNat).drop x).flatMap fun x=>(vW d x).map fun l=>aZ.mk x l,?_⟩
 have:(ns d.aD.aA.toNat).take x=ns x:=by
  unfold ns
  rw [← List.map_take,List.take_range]
  congr 2; omega
 unfold uq ak
 rw [← this,← List.flatMap_append,List.take_append_drop]
theorem xr:fZ d=some (bif decide ((ak d).length≤400) then (ak d,true) else ([],false)):=by
 have D:=dg hb
 have o0:=D.d.o0
 have o8:=D.d.o8
 suffices h:Ok (fZ d) fun e=>e=bif decide ((ak d).length≤400) then (ak d,true) else ([],false) by
  obtain ⟨y,h1,h2⟩:=h
  rw [h1,h2]
 unfold fZ
 refine jy (ol (fun z:Int×List aZ=>(0≤z.1∧z.1≤d.aD.aA)∧(z.2=uq d z.1.toNat∧z.2.length≤400)) (fun z=>(d.aD.aA - z.1).toNat) ⟨⟨by show (0:Int)≤0; omega,o0⟩,rfl,by show 0≤400; omega⟩ ?_)
 rintro ⟨x,out⟩ ⟨⟨x0,x1⟩,ho,hl⟩
 dsimp only at x0 x1 ho hl
 show Ok (oD d (x,out)) _
 unfold oD
 dsimp only
 refine od (fun hx=>?_) fun hx=>os ⟨rfl,os ?_⟩
 ·have e1:uq d (x.toNat+1)=uq d x.toNat++(vW d x).map fun l=>aZ.mk x l:=by
   unfold uq
   rw [Dp,List.flatMap_append,show ((x.toNat:Nat):Int)=x by omega]
   simp
  refine oe (RX hb x0 hx (Pp hb x0 hx (vW d x) (RY hb x0 hx) out hl)) ?_
  by_cases h:out.length+(vW d x).length≤400
  ·rw [av h,cond_true]
   refine os ⟨⟨⟨?_,?_⟩,?_,?_⟩,?_⟩
   all_goals (try dsimp only)
   all_goals (try rw [w1 x0 hx (by omega)])
   ·omega
   ·omega
   ·rw [show (x+1).toNat=x.toNat+1 by omega,e1,ho]
   ·rw [List.length_append,List.length_map]; omega
   ·omega
  ·rw [bc h,cond_false]
   refine os ?_
   obtain ⟨r,hr⟩:=RZ hb (x:=x.toNat+1) (by omega)
   rw [bc (by rw [hr,List.length_append,e1,List.length_append,List.length_map,← ho]; omega)]
   exact rfl
 ·obtain rfl:x=d.aD.aA:=by omega
  have:ak d=out:=ho.symm
  rw [this,av hl]; exact rfl
end
end Go.Proofs.YtgjbmjjihmfppaaGreat
