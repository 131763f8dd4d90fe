/- Cones: the list of all cones of a diagram, maps between cones, limits; what is known of them. No condition beside those that each theorem names. -/
import Derived.Test.YtgjbmjjihmfppaaGreatUq
import Derived.Test.YtgjbmjjihmfppaaGreatUr
namespace Go.Proofs.YtgjbmjjihmfppaaGreat
open Go Go.Li
set_option linter.unusedVariables false
set_option linter.unusedSectionVars false
set_option linter.unusedSimpArgs false
def gj (d:aM) (x:Int):aM:=aM.mk d.aE d.aH (List.replicate d.aE.aA.toNat x) (List.replicate d.aE.aF.length (gi d.aH.aJ x))
def vH (d:aM) (x:Int):List (List Int):=j5 (fun _=>true) (gj d x) d d.aE.aA.toNat []
def cb (d:aM):List bE:=(ns d.aH.aA.toNat).flatMap fun x=>(vH d x).map fun l=>bE.mk x l
def De (d:aM) (p q:bE) (u:Int):Bool:=(ns q.bw.length).all fun j=>gk d.aH.aD u (gi q.bw j) == gi p.bw j
def sb (d:aM) (p q:bE):List Int:=((ns d.aH.aF.length).filter (qj d.aH p.fv q.fv)).filter (De d p q)
def e7 (d:aM) (l:List bE) (p:bE):Bool:=l.all fun q=>(sb d q p).length == 1
structure mq (d:aM) (p:bE):Prop where
 x0:0≤p.fv
 x1:p.fv < d.aH.aA
 l:(p.bw.length:Int)=d.aE.aA
 v:∀ j:Int,0≤j→j < d.aE.aA→(0≤gi p.bw j∧gi p.bw j < d.aH.aF.length)∧gi d.aH.aF (gi p.bw j)=p.fv∧gi d.aH.To (gi p.bw j)=gi d.aA j
 s:∀ a:Int,0≤a→a < d.aE.aF.length→gk d.aH.aD (gi p.bw (gi d.aE.aF a)) (gi d.ab a)=gi p.bw (gi d.aE.To a)
section
variable {d:aM} (hb:ei d=true)
include hb
theorem EN {x:Int} (x0:0≤x) (x1:x < d.aH.aA):Dc (gj d x) d:=by
 have D:=fc hb
 have k:=D.d.id x0 x1
 have kf:=D.d.v7 x x0 x1
 have kt:=D.d.xR x x0 x1
 have o0:=D.c.o0
 have hO:∀ y:Int,0≤y→y < d.aE.aA→gi (gj d x).aA y=x:=fun y y0 y1=>xZ y0 (by omega)
 have hA:∀ a:Int,0≤a→a < d.aE.aF.length→gi (gj d x).ab a=gi d.aH.aJ x:=fun a a0 a1=>xZ a0 a1
 have hf:ei (gj d x)=true:=by
  refine NQ (f:=gj d x) (NP D.c) (NP D.d) (by show ((List.replicate d.aE.aA.toNat x).length:Int)=d.aE.aA; rw [List.length_replicate]; omega) (List.length_replicate ..) (fun y hy=>?_) (fun y hy=>?_) (fun a a0 a1=>?_) (fun a a0 a1=>?_) (fun y y0 y1=>?_) fun a b a0 a1 b0 b1 e=>?_
  ·rw [(List.mem_replicate.1 hy).2]; exact ⟨x0,x1⟩
  ·rw [(List.mem_replicate.1 hy).2]; exact k
  ·have ka:=D.c.fr a0 a1
   rw [hA a a0 a1]
   exact kf.trans (hO _ ka.1 ka.2).symm
  ·have ka:=D.c.to a0 a1
   rw [hA a a0 a1]
   exact kt.trans (hO _ ka.1 ka.2).symm
  ·have ki:=D.c.id (x:=y) y0 y1
   rw [hO y y0 y1]
   exact hA _ ki.1 ki.2
  ·have kc:=D.c.cell a b a0 a1 b0 b1 e
   rw [hA a a0 a1,hA b b0 b1]
   refine (hA _ kc.1 kc.2.1).trans ?_
   have:=D.d.D7 (gi d.aH.aJ x) k.1 k.2
   rw [kf] at this
   exact this.symm
 exact ⟨fc hf,D,hf,hb,rfl,rfl⟩
theorem NR {x:Int} (x0:0≤x) (x1:x < d.aH.aA) {cs:List Int} {a:Int} (a0:0≤a) (a1:a < d.aE.aF.length)
  (hv:(0≤gi cs (gi d.aE.To a)∧gi cs (gi d.aE.To a) < d.aH.aF.length)∧gi d.aH.aF (gi cs (gi d.aE.To a))=x) :
  sk (gj d x) d cs a=(gk d.aH.aD (gi cs (gi d.aE.aF a)) (gi d.ab a) == gi cs (gi d.aE.To a)):=by
 have D:=fc hb
 have h1:gi (gj d x).ab a=gi d.aH.aJ x:=xZ a0 a1
 have:=D.d.D7 _ hv.1.1 hv.1.2
 rw [hv.2] at this
 unfold sk
 rw [h1]
 show (gk d.aH.aD (gi d.aH.aJ x) (gi cs (gi d.aE.To a)) == gk d.aH.aD (gi cs (gi d.aE.aF a)) (gi d.ab a))=_
 rw [this,Bool.eq_iff_iff,beq_iff_eq,beq_iff_eq]
 exact ⟨Eq.symm,Eq.symm⟩
theorem FX {x:Int} (x0:0≤x) (x1:x < d.aH.aA) {l:List Int} (h:l∈vH d x):mq d (bE.mk x l):=by
 have D:=fc hb
 have o0:=D.c.o0
 have T:=EN hb x0 x1
 obtain ⟨h1,h2⟩:=wZ T _ _ _ (BS T) h
 have hl:(l.length:Int)=d.aE.aA:=by simp at h2; omega
 have hv:∀ j:Int,0≤j→j < d.aE.aA→(0≤gi l j∧gi l j < d.aH.aF.length)∧gi d.aH.aF (gi l j)=x∧gi d.aH.To (gi l j)=gi d.aA j:=fun j j0 j1=>by
  have:=h1.v j j0 (by omega)
  rw [show gi (gj d x).aA j=x from xZ j0 (by omega)] at this
  exact this
 refine ⟨x0,x1,hl,hv,fun a a0 a1=>?_⟩
 have kf:=D.c.fr a0 a1
 have kt:=D.c.to a0 a1
 have hs:=h1.s a a0 a1 (by have e1:(gj d x).aE=d.aE:=rfl; unfold wb; rw [e1]; split <;> omega)
 rw [NR hb x0 x1 a0 a1 ⟨(hv _ kt.1 kt.2).1,(hv _ kt.1 kt.2).2.1⟩] at hs
 exact beq_iff_eq.1 hs
theorem uj {p:bE} (h:p∈cb d):mq d p:=by
 have o0:=(fc hb).d.o0
 obtain ⟨x,hx,h⟩:=List.mem_flatMap.1 h
 obtain ⟨l,hl,rfl⟩:=List.mem_map.1 h
 have:=bz.1 hx
 exact FX hb this.1 (by omega) hl
end
end Go.Proofs.YtgjbmjjihmfppaaGreat
namespace Go.Proofs.YtgjbmjjihmfppaaGreat
open Go Go.Li
set_option linter.unusedVariables false
set_option linter.unusedSectionVars false
set_option linter.unusedSimpArgs false
theorem Wt {c:aI} (C:oh c) {f g:Int} (h0:0≤f) (h1:f < c.aF.length) (h2:0≤g) (h3:g < c.aF.length):kI c f g=some (gk c.aD f g):=by
 unfold kI; rw [C.mb h0 h1,aG,C.lg h0 h1 h2 h3,aG]; rfl
section
variable {d:aM} (hb:ei d=true)
include hb
theorem IE {p q:bE} (P:mq d p) (Q:mq d q):nJ d p q=some (sb d p q):=by
 have D:=fc hb
 have dm:=D.d.m
 have co:=D.c.o8
 have pl:=P.l
 have ql:=Q.l
 unfold nJ
 rw [Wu D.d,aG]
 unfold sb
 generalize hl:(ns d.aH.aF.length).filter (qj d.aH p.fv q.fv)=l
 have Bv:∀ b∈l,0≤b∧b < d.aH.aF.length:=by intro b hb; rw [← hl] at hb; exact bz.1 (List.mem_filter.1 hb).1
 have Iz:l.length≤d.aH.aF.length:=by rw [← hl]; exact Nat.le_trans (List.length_filter_le _ _) (by rw [dD]; exact Nat.le_refl _)
 refine (congrArg ak (s8 l (De d p q) (fun acc i=>(acc,(i:Int))) rfl ?_ ?_)).trans rfl
 ·intro i u acc hu Dd
  have hi:=bm hu
  have ku:=Bv u (List.mem_of_getElem? hu)
  show iX d p q l (acc,(i:Int))=_
  unfold iX
  dsimp only
  rw [av (by omega),cond_true,bu,hu,aG,bN (show i < 9223372036854775807 by omega),dF (by omega) (by omega)]
  refine (Kc (n:=q.bw.length) (fun j=>!(gk d.aH.aD u (gi q.bw j) == gi p.bw j)) rfl (fun j hj=>?_) ?_).trans ?_
  ·unfold nY
   have kq:=Q.v (j:Int) (by omega) (by omega)
   rw [av (by omega),cond_true,cB (by omega) (by omega),aG,D.d.rf ku.1 ku.2 kq.1.1 kq.1.2,aG,cB (by omega) (by omega),aG,bN (by omega)]
   rfl
  ·unfold nY
   rw [bd (by omega),cond_false]
  ·rw [mj]
   show _=some (Out.norm (if De d p q u then acc++[u] else acc,((i+1:Nat):Int)))
   unfold De
   cases (ns q.bw.length).all fun j=>gk d.aH.aD u (gi q.bw j) == gi p.bw j <;> rfl
 ·intro acc
  show iX d p q l (acc,_)=_
  unfold iX
  dsimp only
  rw [bd (by omega),cond_false]
theorem IF {p q:bE} (P:mq d p) (Q:mq d q):pL d p q=some (sb d p q):=by
 have D:=fc hb
 have dm:=D.d.m
 have co:=D.c.o8
 have pl:=P.l
 have ql:=Q.l
 unfold pL
 rw [RE D.d,aG]
 unfold sb
 generalize hl:(ns d.aH.aF.length).filter (qj d.aH p.fv q.fv)=l
 have Bv:∀ b∈l,0≤b∧b < d.aH.aF.length:=by intro b hb; rw [← hl] at hb; exact bz.1 (List.mem_filter.1 hb).1
 have Iz:l.length≤d.aH.aF.length:=by rw [← hl]; exact Nat.le_trans (List.length_filter_le _ _) (by rw [dD]; exact Nat.le_refl _)
 refine (congrArg ak (s8 l (De d p q) (fun acc i=>(acc,(i:Int))) rfl ?_ ?_)).trans rfl
 ·intro i u acc hu Dd
  have hi:=bm hu
  have ku:=Bv u (List.mem_of_getElem? hu)
  show jN d p q l acc (i:Int)=_
  unfold jN
  rw [av (by omega),cond_true,bN (show i < 9223372036854775807 by omega),dF (by omega) (by omega)]
  have Fh:∃ j:Int,ai (fun s:Bool×Int=>jM d p q l (i:Int) s.1 s.2) (true,(0:Int))=some (.exit 2 ((ns p.bw.length).all (fun j=>gk d.aH.aD u (gi q.bw j) == gi p.bw j),j)):=by
   refine FQ (R:=List Int) (k:=2) (n:=p.bw.length) (fun j=>gk d.aH.aD u (gi q.bw j) == gi p.bw j) (fun j hj=>?_) (fun j hj=>?_) ?_
   ·have kq:=Q.v (j:Int) (by omega) (by omega)
    unfold jM
    dsimp only
    rw [av (by omega),cond_true,aG,cond_true,bu,hu,aG,cB (by omega) (by omega),aG,Wt D.d ku.1 ku.2 kq.1.1 kq.1.2,aG,cB (by omega) (by omega),aG,bN (by omega)]
   ·unfold jM
    dsimp only
    cases decide ((j:Int) < (p.bw.length:Int)) <;> rfl
   ·unfold jM
    dsimp only
    rw [bd (by omega),cond_false]; rfl
  obtain ⟨j,hj⟩:=Fh
  rw [th hj]
  show (bif _ then _ else _)=some (Out.norm (if De d p q u then acc++[u] else acc,((i+1:Nat):Int)))
  unfold De
  rw [show p.bw.length=q.bw.length by omega,bu,hu]
  cases (ns q.bw.length).all fun j=>gk d.aH.aD u (gi q.bw j) == gi p.bw j <;> rfl
 ·intro acc
  show jN d p q l acc _=_
  unfold jN
  rw [bd (by omega),cond_false]
theorem Cn {l:List bE} (hl:∀ q∈l,mq d q) (hm:l.length≤100000) {p:bE} (P:mq d p):fJ d l p=some (e7 d l p):=by
 unfold fJ
 refine (congrArg ak (jy l (fun q=>!((sb d q p).length == 1)) (y:=false) (e:=(l.length:Int)) (fun i=>(i:Int)) rfl (fun i q hq hp=>?_) (fun i q hq hp=>?_) ?_)).trans ?_
 ·have hi:=bm hq
  unfold jE
  rw [av (by omega),cond_true,bu,hq,aG,IE hb (hl q (List.mem_of_getElem? hq)) P,aG,bN (by omega)]
  have h1:(sb d q p).length=1:=by simpa using hp
  rw [h1]; rfl
 ·have hi:=bm hq
  unfold jE
  rw [av (by omega),cond_true,bu,hq,aG,IE hb (hl q (List.mem_of_getElem? hq)) P,aG,bN (by omega)]
  have h1:(sb d q p).length≠1:=by simpa using hp
  rw [show (((sb d q p).length:Int) != (1:Int))=true by rw [bne_iff_ne]; omega]; rfl
 ·unfold jE
  rw [bd (by omega),cond_false]
 ·unfold e7
  rw [mj]
  cases l.all fun q=>(sb d q p).length == 1 <;> rfl
theorem Kd {l:List bE} (hl:∀ q∈l,mq d q) (hm:l.length≤100000) {p:bE} (P:mq d p):iC d l p=some (e7 d l p):=by
 unfold iC
 refine (congrArg ak (jy l (fun q=>!((sb d q p).length == 1)) (y:=false) (e:=(l.length:Int)) (fun i=>(i:Int)) rfl (fun i q hq hp=>?_) (fun i q hq hp=>?_) ?_)).trans ?_
 ·have hi:=bm hq
  unfold iF
  rw [av (by omega),cond_true,bu,hq,aG,IF hb (hl q (List.mem_of_getElem? hq)) P,aG,bN (by omega)]
  have h1:(sb d q p).length=1:=by simpa using hp
  rw [h1]; rfl
 ·have hi:=bm hq
  unfold iF
  rw [av (by omega),cond_true,bu,hq,aG,IF hb (hl q (List.mem_of_getElem? hq)) P,aG,bN (by omega)]
  have h1:(sb d q p).length≠1:=by simpa using hp
  rw [show (((sb d q p).length:Int) != (1:Int))=true by rw [bne_iff_ne]; omega]; rfl
 ·unfold iF
  rw [bd (by omega),cond_false]
 ·unfold e7
  rw [mj]
  cases l.all fun q=>(sb d q p).length == 1 <;> rfl
theorem SY {x:Int} (x0:0≤x) (x1:x < d.aH.aA):eH d.aE d.aH x=some (gj d x):=by
 have D:=fc hb
 have o0:=D.c.o0
 have o8:=D.c.o8
 have cm:=D.c.m
 suffices h:Ok (eH d.aE d.aH x) fun e=>e=gj d x by
  obtain ⟨y,h1,h2⟩:=h
  rw [h1,h2]
 unfold eH
 refine jk (ol (fun z:List Int×Int=>(0≤z.2∧z.2≤d.aE.aA)∧z.1=List.replicate z.2.toNat x) (fun z=>(d.aE.aA - z.2).toNat) ⟨⟨by show (0:Int)≤0; omega,o0⟩,rfl⟩ ?_)
 rintro ⟨l,i⟩ ⟨⟨i0,i1⟩,hl⟩
 dsimp only at i0 i1 hl
 have Iz:l.length=i.toNat:=by rw [hl,List.length_replicate]
 show Ok (gB d.aE x l i) _
 unfold gB
 refine od (fun hi=>fg (by omega) (by omega) (os ⟨⟨⟨?_,?_⟩,?_⟩,?_⟩)) fun hi=>os ⟨rfl,?_⟩
 all_goals (try dsimp only)
 all_goals (try rw [w1 i0 hi (by omega)])
 ·omega
 ·omega
 ·rw [show (i+1).toNat=i.toNat+1 by omega,List.replicate_succ',hl]
 ·omega
 obtain rfl:i=d.aE.aA:=by omega
 refine ol (fun z:List Int×Int=>(0≤z.2∧z.2≤d.aE.aF.length)∧z.1=List.replicate z.2.toNat (gi d.aH.aJ x)) (fun z=>(d.aE.aF.length - z.2).toNat) ⟨⟨by show (0:Int)≤0; omega,by show (0:Int)≤_; omega⟩,rfl⟩ ?_
 rintro ⟨l2,j⟩ ⟨⟨j0,j1⟩,pj⟩
 dsimp only at j0 j1 pj
 have anb:l2.length=j.toNat:=by rw [pj,List.length_replicate]
 show Ok (gC d.aE d.aH x l2 j) _
 unfold gC
 refine od (fun hj=>oe (D.d.oK x0 x1) (fg (by omega) (by omega) (os ⟨⟨⟨?_,?_⟩,?_⟩,?_⟩))) fun hj=>os ⟨rfl,?_⟩
 all_goals (try dsimp only)
 all_goals (try rw [w1 j0 hj (by omega)])
 ·omega
 ·omega
 ·rw [show (j+1).toNat=j.toNat+1 by omega,List.replicate_succ',pj]
 ·omega
 obtain rfl:j=d.aE.aF.length:=by omega
 refine oe (x6 (yG D.c) (yG D.d) (by omega) (by omega)) (os ?_)
 rw [hl,pj]; rfl
def tj (d:aM) (x:Nat):List bE:=(ns x).flatMap fun x=>(vH d x).map fun l=>bE.mk x l
theorem NS:lB d=some ((cb d).take 401):=by
 have D:=fc hb
 have o0:=D.d.o0
 have o8:=D.d.o8
 suffices h:Ok (lB d) fun e=>e=(cb d).take 401 by
  obtain ⟨y,h1,h2⟩:=h
  rw [h1,h2]
 unfold lB
 refine jk (ol (fun z:List bE×Int=>(0≤z.2∧z.2≤d.aH.aA)∧z.1=(tj d z.2.toNat).take 401) (fun z=>(d.aH.aA - z.2).toNat) ⟨⟨by show (0:Int)≤0; omega,o0⟩,rfl⟩ ?_)
 rintro ⟨out,x⟩ ⟨⟨x0,x1⟩,ho⟩
 dsimp only at x0 x1 ho
 show Ok (oA d (out,x)) _
 unfold oA
 dsimp only
 have gn:out.length≤401:=by rw [ho]; exact List.length_take_le _ _
 by_cases hx:x < d.aH.aA
 ·rw [av hx,cond_true,aG]
  by_cases h4:(out.length:Int)≤400
  ·rw [av h4,cond_true]
   have T:=EN hb x0 hx
   have hf:=Wr T (cj:=false) (m:=401 - out.length) (by omega) (by omega)
   have hw:aj ((401:Int) - (out.length:Int))=((401 - out.length:Nat):Int):=by rw [dK (by omega) (by omega)]; omega
   rw [hw]
   refine oe (SY hb x0 hx) (oe hf ?_)
   generalize hL:(j5 (ve false (gj d x)) (gj d x) d (gj d x).aE.aA.toNat []).take (401 - out.length)=L
   have hLl:L.length≤401 - out.length:=by rw [← hL]; exact List.length_take_le _ _
   refine ol (fun z:List bE×Int=>(0≤z.2∧z.2≤L.length)∧z.1=out++(L.take z.2.toNat).map fun l=>bE.mk x l) (fun z=>(L.length - z.2).toNat) ⟨⟨by show (0:Int)≤0; omega,by show (0:Int)≤_; omega⟩,by show out=out++_; simp⟩ ?_
   rintro ⟨o2,i⟩ ⟨⟨i0,i1⟩,h2⟩
   dsimp only at i0 i1 h2
   show Ok (nZ x L (o2,i)) _
   unfold nZ
   dsimp only
   have h2l:o2.length=out.length+i.toNat:=by rw [h2,List.length_append,List.length_map,List.length_take]; omega
   refine od (fun hi=>?_) fun hi=>os ⟨rfl,?_⟩
   ·have hg:L[i.toNat]? = some L[i.toNat]:=List.getElem?_eq_getElem (by omega)
    refine oe (vY i0 hi) (fg (by omega) (by omega) (os ⟨⟨⟨?_,?_⟩,?_⟩,?_⟩))
    all_goals (try dsimp only)
    all_goals (try rw [w1 i0 hi (by omega)])
    ·omega
    ·omega
    ·rw [show (i+1).toNat=i.toNat+1 by omega,List.take_add_one,hg,List.map_append,← List.append_assoc,← h2]; rfl
    ·omega
   ·obtain rfl:i=L.length:=by omega
    refine os ⟨⟨⟨?_,?_⟩,?_⟩,?_⟩
    all_goals (try dsimp only)
    all_goals (try rw [w1 x0 hx (by omega)])
    ·omega
    ·omega
    ·have e1:tj d (x.toNat+1)=tj d x.toNat++(vH d x).map fun l=>bE.mk x l:=by
      unfold tj
      rw [Co,List.flatMap_append,show ((x.toNat:Nat):Int)=x by omega]
      simp
     have hA:(tj d x.toNat).length=out.length:=by
      have:=congrArg List.length ho
      rw [List.length_take] at this
      omega
     rw [h2,Int.toNat_natCast,List.take_length,show (x+1).toNat=x.toNat+1 by omega,e1,List.take_append,← ho,← hL,List.map_take,hA]
     rfl
    ·omega
  ·rw [bd h4,cond_false]
   refine os ⟨rfl,os ?_⟩
   have hlen:out.length=401:=by omega
   have hle:401≤(tj d x.toNat).length:=by rw [ho,List.length_take] at hlen; omega
   rw [ho]
   unfold tj at hle ⊢
   unfold cb
   have Wv:∃ r,ns d.aH.aA.toNat=ns x.toNat++r:=by
    refine ⟨(ns d.aH.aA.toNat).drop x.toNat,?_⟩
    have:(ns d.aH.aA.toNat).take x.toNat=ns x.toNat:=by
     unfold ns
     rw [← List.map_take,List.take_range]
     congr 2; omega
    rw [← this,List.take_append_drop]
   obtain ⟨r,hr⟩:=Wv
   rw [hr,List.flatMap_append,List.take_append_of_le_length hle]
   exact rfl
 ·rw [bd hx,cond_false,aG,cond_false]
  obtain rfl:x=d.aH.aA:=by omega
  exact os ⟨rfl,os ho⟩
end
end Go.Proofs.YtgjbmjjihmfppaaGreat
namespace Go.Proofs.YtgjbmjjihmfppaaGreat
open Go Go.Li
set_option linter.unusedVariables false
set_option linter.unusedSectionVars false
set_option linter.unusedSimpArgs false
def Zs (d:aM) (x X:Int) (cs:List Int):Prop:=∀ i:Int,0≤i→i≤X→gi d.aH.aF (gi cs i)=x
section
variable {d:aM} (hb:ei d=true) {x:Int} (x0:0≤x) (x1:x < d.aH.aA)
include hb x0 x1
theorem SZ {R S:Type} {X:Int} {cs:List Int} (j:AT (gj d x) cs) (hX:X < d.aE.aA) (hm:Zs d x X cs) {A B:Option (Out S R)}:Fx 2 1 (ai (fun s=>mL (ρ:=R) d X cs s) (0:Int)) (fun _=>A) (fun _=>B)=bif wA (gj d x) d X cs then A else B:=by
 have D:=fc hb
 have cm:=D.c.m
 have al:=D.al
 have jl:(cs.length:Int)=d.aE.aA:=j.1
 refine (Kc (n:=d.aE.aF.length) (wB (gj d x) d X cs) rfl (fun a ha=>?_) ?_).trans ?_
 ·have a1:(a:Int) < d.aE.aF.length:=by omega
  have kf:=D.c.fr (f:=(a:Int)) (by omega) a1
  have kt:=D.c.to (f:=(a:Int)) (by omega) a1
  have ka:=D.ar (a:=(a:Int)) (by omega) a1
  unfold mL
  rw [av (by omega),cond_true,D.uY (by omega) a1,aG,D.c.ja (by omega) a1,aG,D.c.je (by omega) a1,aG,bN (by omega)]
  have hb7:wB (gj d x) d X cs a=((if gi d.aE.To (a:Int) > gi d.aE.aF (a:Int) then gi d.aE.To (a:Int) else gi d.aE.aF (a:Int)) == X && !(sk (gj d x) d cs a)):=rfl
  rw [hb7]
  by_cases e:(if gi d.aE.To (a:Int) > gi d.aE.aF (a:Int) then gi d.aE.To (a:Int) else gi d.aE.aF (a:Int))=X
  ·have hle:gi d.aE.aF (a:Int)≤X∧gi d.aE.To (a:Int)≤X:=by split at e <;> omega
   have kF:=j.2 _ (ep (l:=cs) kf.1 (by omega))
   have kT:=j.2 _ (ep (l:=cs) kt.1 (by omega))
   rw [xN e,cond_true,cB (l:=cs) kf.1 (by omega),aG,D.d.rf kF.1 kF.2 ka.1 ka.2,aG,cB (l:=cs) kt.1 (by omega),aG,aG,
    NR hb x0 x1 (by omega) a1 ⟨kT,hm _ kt.1 hle.2⟩]
   rfl
  ·rw [r9 e]; rfl
 ·unfold mL
  rw [bd (by omega),cond_false]
 ·unfold wA
  show (bif (ns d.aE.aF.length).any (wB (gj d x) d X cs) then B else A)=bif !((ns d.aE.aF.length).any (wB (gj d x) d X cs)) then A else B
  cases (ns d.aE.aF.length).any (wB (gj d x) d X cs) <;> rfl
section
variable {σ:Type} {fo:List Int→σ→Option (Bool×σ)}
theorem S0:∀ (k n:Nat) (p cs:List Int) (st:σ),AT (gj d x) cs→Df p cs→(∀ i:Int,0≤i→i < p.length→gi d.aH.aF (gi p i)=x)→((p.length+k:Nat):Int)=d.aE.aA→k < n→∀ y,tC fo (j5 (fun _=>true) (gj d x) d k p) st=some y→
  ∃ gy,AT (gj d x) gy∧Df p gy∧fD fo d x n (p.length:Int) cs st=some (y.1,gy,y.2):=by
 have D:=fc hb
 have T:=EN hb x0 x1
 have co:=D.c.o8
 have dm:=D.d.m
 intro k
 induction k with
 | zero=>
  intro n p cs st j hp hm hk hn y hy
  obtain ⟨n,rfl⟩ : ∃ i,n=i+1:=⟨n - 1,by omega⟩
  have jl:(cs.length:Int)=d.aE.aA:=j.1
  have e:cs=p:=NT (by omega) fun x x0 x1=>hp x x0 x1
  subst e
  refine ⟨cs,j,fun _ _ _=>rfl,?_⟩
  unfold fD nI
  rw [xN (by omega),cond_true]
  have h1:(fo cs st>>=fun y=>bif !y.1 then some (false,y.2) else some (true,y.2))=some y:=hy
  cases hf:fo cs st with
  | none=>rw [hf] at h1; cases h1
  | some z=>
   rw [hf] at h1
   obtain ⟨b,z⟩:=z
   cases b <;> (cases h1; rfl)
 | succ k ih=>
  intro n p cs st j hp hm hk hn y hy
  obtain ⟨n,rfl⟩ : ∃ i,n=i+1:=⟨n - 1,by omega⟩
  have xX:(p.length:Int) < d.aE.aA:=by omega
  unfold fD nI
  rw [r9 (by omega),cond_false,D.wz (by omega) xX,aG,Wu D.d,aG]
  have acX:gi (gj d x).aA (p.length:Int)=x:=xZ (by omega) (by omega)
  generalize hl:(ns d.aH.aF.length).filter (qj d.aH x (gi d.aA p.length))=l
  have Bv:∀ b∈l,(0≤b∧b < d.aH.aF.length)∧gi d.aH.aF b=x:=by
   intro b hb
   rw [← hl] at hb
   obtain ⟨h1,h2⟩:=List.mem_filter.1 hb
   unfold qj at h2
   simp only [Bool.and_eq_true,beq_iff_eq] at h2
   exact ⟨bz.1 h1,h2.1⟩
  have Iz:l.length≤d.aH.aF.length:=by rw [← hl]; exact Nat.le_trans (List.length_filter_le _ _) (by rw [dD]; exact Nat.le_refl _)
  have sW:tC fo ((l.filter (yF (fun _=>true) (gj d x) d p)).flatMap fun b=>j5 (fun _=>true) (gj d x) d k (p++[b])) st=some y:=by
   rw [← hl]
   have h2:tC fo ((((ns d.aH.aF.length).filter (qj d.aH (gi (gj d x).aA p.length) (gi d.aA p.length))).filter (yF (fun _=>true) (gj d x) d p)).flatMap fun b=>j5 (fun _=>true) (gj d x) d k (p++[b])) st=some y:=hy
   rw [acX] at h2
   exact h2
  have key:∀ (m:List Int) (i:Nat) (cs:List Int) (st:σ),l.drop i=m→i≤l.length→AT (gj d x) cs→Df p cs→∀ y,tC fo ((m.filter (yF (fun _=>true) (gj d x) d p)).flatMap fun b=>j5 (fun _=>true) (gj d x) d k (p++[b])) st=some y→
    ∃ gy,AT (gj d x) gy∧Df p gy∧ai (fun s=>kE (fD fo d x n) d p.length l s) ((i:Int),cs,st)=some (bif y.1 then .exit 0 ((l.length:Int),gy,y.2) else .ret (false,gy,y.2)):=by
   intro m
   induction m with
   | nil=>
    intro i cs st hd hi j hp y hy
    obtain rfl:i=l.length:=by have:=congrArg List.length hd; simp at this; omega
    cases hy
    refine ⟨cs,j,hp,lv ?_⟩
    unfold kE
    rw [bd (by omega),cond_false]
   | cons b m RF=>
    intro i cs st hd hi j hp y hy
    have bj:i < l.length:=by
     rcases Nat.lt_or_ge i l.length with h | h
     ·exact h
     ·rw [List.drop_eq_nil_of_le h] at hd; cases hd
    have hx:l[i]? = some b:=by
     rw [List.drop_eq_getElem_cons bj] at hd
     rw [List.getElem?_eq_getElem bj]; exact congrArg some (List.cons.inj hd).1
    have iz:l.drop (i+1)=m:=by rw [List.drop_eq_getElem_cons bj] at hd; exact (List.cons.inj hd).2
    have sU:=Bv b (List.mem_of_getElem? hx)
    have jl:(cs.length:Int)=d.aE.aA:=j.1
    have j1:AT (gj d x) (cs.set (p.length:Int).toNat b):=AT.put T j (x:=(p.length:Int)) sU.1.1 sU.1.2
    have r4:∀ q:Int,0≤q→gi (cs.set (p.length:Int).toNat b) q=if q=(p.length:Int) then b else gi cs q:=fun q q0=>n8 (by omega) (by omega) q0
    have ry:Df p (cs.set (p.length:Int).toNat b):=fun q q0 q1=>by rw [r4 q q0,if_neg (by omega)]; exact hp q q0 q1
    have Ww:Df (p++[b]) (cs.set (p.length:Int).toNat b):=fun q q0 q1=>by
     rw [List.length_append,List.length_singleton] at q1
     rw [r4 q q0,jz q0]
     by_cases e:q=(p.length:Int)
     ·rw [if_pos e,if_neg (by omega),if_pos e]
     ·rw [if_neg e,if_pos (by omega)]; exact hp q q0 (by omega)
    have Zt:∀ i:Int,0≤i→i < (p++[b]).length→gi d.aH.aF (gi (p++[b]) i)=x:=fun q q0 q1=>by
     rw [List.length_append,List.length_singleton] at q1
     rw [jz q0]
     by_cases e:q < (p.length:Int)
     ·rw [if_pos e]; exact hm q q0 e
     ·rw [if_neg e,if_pos (by omega)]; exact sU.2
    have hmc:Zs d x p.length (cs.set (p.length:Int).toNat b):=fun q q0 q1=>by
     rw [Ww q q0 (by rw [List.length_append,List.length_singleton]; omega)]
     exact Zt q q0 (by rw [List.length_append,List.length_singleton]; omega)
    have K4:wA (gj d x) d p.length (cs.set (p.length:Int).toNat b)=wA (gj d x) d p.length (p++[b]):=LB T fun q q0 q1=>Ww q q0 (by rw [List.length_append,List.length_singleton]; omega)
    have nx:kE (fD fo d x n) d p.length l ((i:Int),cs,st) =
      (bif wA (gj d x) d p.length (p++[b]) then ((fD fo d x n (((p++[b]).length:Nat):Int) (cs.set (p.length:Int).toNat b) st)>>=fun NU=>(bif !(NU.1) then (some (Out.ret (false,NU.2.1,NU.2.2))) else (some (Out.norm (((i+1:Nat):Int),NU.2.1,NU.2.2)))))
       else (some (Out.norm (((i+1:Nat):Int),cs.set (p.length:Int).toNat b,st)))):=by
     unfold kE
     dsimp only
     rw [av (by omega),cond_true,bu,hx,aG,cB (l:=cs) (by omega) (by omega),aG,SZ hb x0 x1 j1 xX hmc,K4,bN (by omega),bN (by omega),List.length_append,List.length_singleton]
    rw [nk,nx]
    cases hf:wA (gj d x) d p.length (p++[b]) with
    | false=>
     have hq:yF (fun _=>true) (gj d x) d p b=false:=by unfold yF; rw [hf,Bool.and_false]
     rw [List.filter_cons_of_neg (by rw [hq]; decide)] at hy
     exact RF (i+1) _ st iz (by omega) j1 ry y hy
    | true=>
     have hq:yF (fun _=>true) (gj d x) d p b=true:=by unfold yF; rw [hf]; rfl
     rw [List.filter_cons_of_pos (by rw [hq]),List.flatMap_cons,Qe] at hy
     cases hr:tC fo (j5 (fun _=>true) (gj d x) d k (p++[b])) st with
     | none=>rw [hr] at hy; cases hy
     | some z=>
      rw [hr,aG] at hy
      obtain ⟨yn,j2,nr,e2⟩:=ih n (p++[b]) _ st j1 Ww Zt (by rw [List.length_append,List.length_singleton]; omega) (by omega) z hr
      have Zu:Df p yn:=fun q q0 q1=>by rw [nr q q0 (by rw [List.length_append,List.length_singleton]; omega),jz q0,if_pos q1]
      simp only [cond_true]
      rw [e2,aG]
      cases hz:z.1 with
      | false=>
       rw [hz] at hy
       cases hy
       exact ⟨yn,j2,Zu,rfl⟩
      | true=>
       rw [hz] at hy
       exact RF (i+1) yn z.2 iz (by omega) j2 Zu y hy
  obtain ⟨gy,j',wE,e⟩:=key l 0 cs st rfl (by omega) j hp y sW
  refine ⟨gy,j',wE,?_⟩
  rw [show ((0:Int),cs,st)=(((0:Nat):Int),cs,st) from rfl,e]
  obtain ⟨b,z⟩:=y
  cases b <;> rfl
theorem Qf {st:σ} {y:Bool×σ} (hy:tC fo (vH d x) st=some y):rC fo d x st=some y:=by
 have D:=fc hb
 have co:=D.c.o8
 have c0:=D.c.o0
 have ol:=D.ol
 have j0:AT (gj d x) (List.replicate d.aE.aA.toNat (0:Int)):=by
  refine ⟨by rw [List.length_replicate]; show ((d.aE.aA.toNat:Nat):Int)=d.aE.aA; omega,fun y hy=>?_⟩
  obtain ⟨h1,rfl⟩:=List.mem_replicate.1 hy
  have k:=D.d.id x0 x1
  show 0≤(0:Int)∧(0:Int) < d.aH.aF.length
  omega
 obtain ⟨gy,_,_,e⟩:=S0 hb x0 x1 d.aE.aA.toNat 64 [] _ st j0 (fun i i0 i1=>by simp at i1; omega) (fun i i0 i1=>by simp at i1; omega) (by simp; omega) (by omega) y hy
 unfold rC
 have hn:d.aA.length=d.aE.aA.toNat:=by omega
 rw [Gk (by omega) (by omega),aG,hn]
 have e':fD fo d x 64 (0:Int) (List.replicate d.aE.aA.toNat 0) st=some (y.1,gy,y.2):=e
 rw [e',aG]
 rfl
end
theorem NW (l:List (List Int)) (hl:∀ c∈l,c.length≤1048576):∀ out:List bE,out.length≤400→tC (fun a0 a1=>eA a0 a1 x) l out=some (bif decide (out.length+l.length≤400) then (true,out++l.map fun l=>bE.mk x l) else (false,out++(l.take (401 - out.length)).map fun l=>bE.mk x l)):=by
 induction l with
 | nil=>intro out ho; rw [av (by simpa using ho)]; show some (true,out)=some (true,out++[]); rw [List.append_nil]
 | cons c l ih=>
  intro out ho
  show (eA c out x>>=fun y=>bif !y.1 then some (false,y.2) else tC (fun a0 a1=>eA a0 a1 x) l y.2)=_
  have h1:eA c out x=some (decide (((out++[bE.mk x c]).length:Int)≤400),out++[bE.mk x c]):=by
   unfold eA
   rw [IG c (hl c (by simp)),aG,dF (by omega) (by omega),aG]
   rfl
  rw [h1,aG]
  by_cases h:out.length < 400
  ·rw [av (by rw [List.length_append,List.length_singleton]; omega)]
   simp only [Bool.not_true,cond_false]
   rw [ih (fun c hc=>hl c (by simp [hc])) (out++[bE.mk x c]) (by rw [List.length_append,List.length_singleton]; omega)]
   have e:(out++[bE.mk x c]).length+l.length=out.length+(c :: l).length:=by simp; omega
   rw [e]
   by_cases h2:out.length+(c :: l).length≤400
   ·rw [av h2]; simp
   ·rw [bd h2]
    simp only [cond_false]
    rw [show 401 - out.length=(401 - (out++[bE.mk x c]).length)+1 by simp; omega,List.take_succ_cons]
    simp
  ·have:out.length=400:=by omega
   rw [bd (by rw [List.length_append,List.length_singleton]; omega)]
   rw [bd (by simp; omega),this]
   simp
end
section
variable {d:aM} (hb:ei d=true)
include hb
theorem Qh {x:Int} (x0:0≤x) (x1:x < d.aH.aA):∀ c∈vH d x,c.length≤1048576:=fun c hc=>by
 have h:=(FX hb x0 x1 hc).l
 have:=(fc hb).c.o8
 dsimp only at h
 omega
theorem Qi {x:Nat} (hx:x≤d.aH.aA.toNat):∃ r,cb d=tj d x++r:=by
 refine ⟨((ns d.aH.aA.toNat).drop x).flatMap fun x=>(vH d x).map fun l=>bE.mk x l,?_⟩
 have:(ns d.aH.aA.toNat).take x=ns x:=by
  unfold ns
  rw [← List.map_take,List.take_range]
  congr 2; omega
 unfold tj cb
 rw [← this,← List.flatMap_append,List.take_append_drop]
theorem yC:fH d=some (bif decide ((cb d).length≤400) then (cb d,true) else ([],false)):=by
 have D:=fc hb
 have o0:=D.d.o0
 have o8:=D.d.o8
 suffices h:Ok (fH d) fun e=>e=bif decide ((cb d).length≤400) then (cb d,true) else ([],false) by
  obtain ⟨y,h1,h2⟩:=h
  rw [h1,h2]
 unfold fH
 refine jk (ol (fun z:Int×List bE=>(0≤z.1∧z.1≤d.aH.aA)∧(z.2=tj d z.1.toNat∧z.2.length≤400)) (fun z=>(d.aH.aA - z.1).toNat) ⟨⟨by show (0:Int)≤0; omega,o0⟩,rfl,by show 0≤400; omega⟩ ?_)
 rintro ⟨x,out⟩ ⟨⟨x0,x1⟩,ho,hl⟩
 dsimp only at x0 x1 ho hl
 show Ok (nX d (x,out)) _
 unfold nX
 dsimp only
 refine od (fun hx=>?_) fun hx=>os ⟨rfl,os ?_⟩
 ·have e1:tj d (x.toNat+1)=tj d x.toNat++(vH d x).map fun l=>bE.mk x l:=by
   unfold tj
   rw [Co,List.flatMap_append,show ((x.toNat:Nat):Int)=x by omega]
   simp
  refine oe (Qf hb x0 hx (NW hb x0 hx (vH d x) (Qh hb x0 hx) out hl)) ?_
  by_cases h:out.length+(vH d x).length≤400
  ·rw [av h,cond_true]
   refine os ⟨⟨⟨?_,?_⟩,?_,?_⟩,?_⟩
   all_goals (try dsimp only)
   all_goals (try rw [w1 x0 hx (by omega)])
   ·omega
   ·omega
   ·rw [show (x+1).toNat=x.toNat+1 by omega,e1,ho]
   ·rw [List.length_append,List.length_map]; omega
   ·omega
  ·rw [bd h,cond_false]
   refine os ?_
   obtain ⟨r,hr⟩:=Qi hb (x:=x.toNat+1) (by omega)
   rw [bd (by rw [hr,List.length_append,e1,List.length_append,List.length_map,← ho]; omega)]
   exact rfl
 ·obtain rfl:x=d.aH.aA:=by omega
  have:cb d=out:=ho.symm
  rw [this,av hl]; exact rfl
end
end Go.Proofs.YtgjbmjjihmfppaaGreat
