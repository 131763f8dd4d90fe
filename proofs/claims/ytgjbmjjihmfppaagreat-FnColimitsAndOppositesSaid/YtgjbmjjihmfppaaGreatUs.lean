/- Cones: the list of all cones of a diagram, maps between cones, limits; what is known of them. No condition beside those that each theorem names. -/
import Derived.Test.YtgjbmjjihmfppaaGreatUq
import Derived.Test.YtgjbmjjihmfppaaGreatUr
namespace Go.Proofs.YtgjbmjjihmfppaaGreat
open Go Go.Li
set_option linter.unusedVariables false
set_option linter.unusedSectionVars false
set_option linter.unusedSimpArgs false
def ig (d:aI) (x:Int):aI:=aI.mk d.aC d.aE (List.replicate d.aC.aA.toNat x) (List.replicate d.aC.aD.length (gi d.aE.aH x))
def wD (d:aI) (x:Int):List (List Int):=ks (fun _=>true) (ig d x) d d.aC.aA.toNat []
def ao (d:aI):List bG:=(ns d.aE.aA.toNat).flatMap fun x=>(wD d x).map fun l=>bG.mk x l
def DS (d:aI) (p q:bG) (u:Int):Bool:=(ns q.br.length).all fun j=>gk d.aE.aB u (gi q.br j) == gi p.br j
def sP (d:aI) (p q:bG):List Int:=((ns d.aE.aD.length).filter (rf d.aE p.dy q.dy)).filter (DS d p q)
def er (d:aI) (l:List bG) (p:bG):Bool:=l.all fun q=>(sP d q p).length == 1
structure j7 (d:aI) (p:bG):Prop where
 x0:0≤p.dy
 x1:p.dy < d.aE.aA
 l:(p.br.length:Int)=d.aC.aA
 v:∀ j:Int,0≤j→j < d.aC.aA→(0≤gi p.br j∧gi p.br j < d.aE.aD.length)∧gi d.aE.aD (gi p.br j)=p.dy∧gi d.aE.To (gi p.br j)=gi d.aA j
 s:∀ a:Int,0≤a→a < d.aC.aD.length→gk d.aE.aB (gi p.br (gi d.aC.aD a)) (gi d.ab a)=gi p.br (gi d.aC.To a)
section
variable {d:aI} (hb:bx d=true)
include hb
theorem FK {x:Int} (x0:0≤x) (x1:x < d.aE.aA):DQ (ig d x) d:=by
 have D:=dh hb
 have k:=D.d.id x0 x1
 have kf:=D.d.vx x x0 x1
 have kt:=D.d.wZ x x0 x1
 have o0:=D.c.o0
 have hO:∀ y:Int,0≤y→y < d.aC.aA→gi (ig d x).aA y=x:=fun y y0 y1=>yL y0 (by omega)
 have hA:∀ a:Int,0≤a→a < d.aC.aD.length→gi (ig d x).ab a=gi d.aE.aH x:=fun a a0 a1=>yL a0 a1
 have hf:bx (ig d x)=true:=by
  refine Jv (f:=ig d x) (ET D.c) (ET D.d) (by show ((List.replicate d.aC.aA.toNat x).length:Int)=d.aC.aA; rw [List.length_replicate]; omega) (List.length_replicate ..) (fun y hy=>?_) (fun y hy=>?_) (fun a a0 a1=>?_) (fun a a0 a1=>?_) (fun y y0 y1=>?_) fun a b a0 a1 b0 b1 e=>?_
  ·rw [(List.mem_replicate.1 hy).2]; exact ⟨x0,x1⟩
  ·rw [(List.mem_replicate.1 hy).2]; exact k
  ·have ka:=D.c.fr a0 a1
   rw [hA a a0 a1]
   exact kf.trans (hO _ ka.1 ka.2).symm
  ·have ka:=D.c.to a0 a1
   rw [hA a a0 a1]
   exact kt.trans (hO _ ka.1 ka.2).symm
  ·have ki:=D.c.id (x:=y) y0 y1
   rw [hO y y0 y1]
   exact hA _ ki.1 ki.2
  ·have kc:=D.c.cell a b a0 a1 b0 b1 e
   rw [hA a a0 a1,hA b b0 b1]
   refine (hA _ kc.1 kc.2.1).trans ?_
   have:=D.d.A7 (gi d.aE.aH x) k.1 k.2
   rw [kf] at this
   exact this.symm
 exact ⟨dh hf,D,hf,hb,rfl,rfl⟩
theorem OV {x:Int} (x0:0≤x) (x1:x < d.aE.aA) {cs:List Int} {a:Int} (a0:0≤a) (a1:a < d.aC.aD.length)
  (hv:(0≤gi cs (gi d.aC.To a)∧gi cs (gi d.aC.To a) < d.aE.aD.length)∧gi d.aE.aD (gi cs (gi d.aC.To a))=x) :
  sX (ig d x) d cs a=(gk d.aE.aB (gi cs (gi d.aC.aD a)) (gi d.ab a) == gi cs (gi d.aC.To a)):=by
 have D:=dh hb
 have h1:gi (ig d x).ab a=gi d.aE.aH x:=yL a0 a1
 have:=D.d.A7 _ hv.1.1 hv.1.2
 rw [hv.2] at this
 unfold sX
 rw [h1]
 show (gk d.aE.aB (gi d.aE.aH x) (gi cs (gi d.aC.To a)) == gk d.aE.aB (gi cs (gi d.aC.aD a)) (gi d.ab a))=_
 rw [this,Bool.eq_iff_iff,beq_iff_eq,beq_iff_eq]
 exact ⟨Eq.symm,Eq.symm⟩
theorem GM {x:Int} (x0:0≤x) (x1:x < d.aE.aA) {l:List Int} (h:l∈wD d x):j7 d (bG.mk x l):=by
 have D:=dh hb
 have o0:=D.c.o0
 have T:=FK hb x0 x1
 obtain ⟨h1,h2⟩:=xP T _ _ _ (Cr T) h
 have hl:(l.length:Int)=d.aC.aA:=by simp at h2; omega
 have hv:∀ j:Int,0≤j→j < d.aC.aA→(0≤gi l j∧gi l j < d.aE.aD.length)∧gi d.aE.aD (gi l j)=x∧gi d.aE.To (gi l j)=gi d.aA j:=fun j j0 j1=>by
  have:=h1.v j j0 (by omega)
  rw [show gi (ig d x).aA j=x from yL j0 (by omega)] at this
  exact this
 refine ⟨x0,x1,hl,hv,fun a a0 a1=>?_⟩
 have kf:=D.c.fr a0 a1
 have kt:=D.c.to a0 a1
 have hs:=h1.s a a0 a1 (by have e1:(ig d x).aC=d.aC:=rfl; unfold w5; rw [e1]; split <;> omega)
 rw [OV hb x0 x1 a0 a1 ⟨(hv _ kt.1 kt.2).1,(hv _ kt.1 kt.2).2.1⟩] at hs
 exact beq_iff_eq.1 hs
theorem ta {p:bG} (h:p∈ao d):j7 d p:=by
 have o0:=(dh hb).d.o0
 obtain ⟨x,hx,h⟩:=List.mem_flatMap.1 h
 obtain ⟨l,hl,rfl⟩:=List.mem_map.1 h
 have:=ca.1 hx
 exact GM hb this.1 (by omega) hl
end
end Go.Proofs.YtgjbmjjihmfppaaGreat
namespace Go.Proofs.YtgjbmjjihmfppaaGreat
open Go Go.Li
set_option linter.unusedVariables false
set_option linter.unusedSectionVars false
set_option linter.unusedSimpArgs false
theorem XR {c:aG} (C:nm c) {f g:Int} (h0:0≤f) (h1:f < c.aD.length) (h2:0≤g) (h3:g < c.aD.length):lB c f g=some (gk c.aB f g):=by
 unfold lB; rw [C.mm h0 h1,aF,C.l8 h0 h1 h2 h3,aF]; rfl
section
variable {d:aI} (hb:bx d=true)
include hb
theorem Jw {p q:bG} (P:j7 d p) (Q:j7 d q):nW d p q=some (sP d p q):=by
 have D:=dh hb
 have dm:=D.d.m
 have co:=D.c.o8
 have pl:=P.l
 have ql:=Q.l
 unfold nW
 rw [XS D.d,aF]
 unfold sP
 generalize hl:(ns d.aE.aD.length).filter (rf d.aE p.dy q.dy)=l
 have B3:∀ b∈l,0≤b∧b < d.aE.aD.length:=by intro b hb; rw [← hl] at hb; exact ca.1 (List.mem_filter.1 hb).1
 have Jq:l.length≤d.aE.aD.length:=by rw [← hl]; exact Nat.le_trans (List.length_filter_le _ _) (by rw [dM]; exact Nat.le_refl _)
 refine (congrArg ak (tK l (DS d p q) (fun acc i=>(acc,(i:Int))) rfl ?_ ?_)).trans rfl
 ·intro i u acc hu DR
  have hi:=bj hu
  have ku:=B3 u (List.mem_of_getElem? hu)
  show jM d p q l (acc,(i:Int))=_
  unfold jM
  dsimp only
  rw [av (by omega),cond_true,bu,hu,aF,bR (show i < 9223372036854775807 by omega),dK (by omega) (by omega)]
  refine (K1 (n:=q.br.length) (fun j=>!(gk d.aE.aB u (gi q.br j) == gi p.br j)) rfl (fun j hj=>?_) ?_).trans ?_
  ·unfold oL
   have kq:=Q.v (j:Int) (by omega) (by omega)
   rw [av (by omega),cond_true,cH (by omega) (by omega),aF,D.d.r8 ku.1 ku.2 kq.1.1 kq.1.2,aF,cH (by omega) (by omega),aF,bR (by omega)]
   rfl
  ·unfold oL
   rw [aX (by omega),cond_false]
  ·rw [nj]
   show _=some (Out.norm (if DS d p q u then acc++[u] else acc,((i+1:Nat):Int)))
   unfold DS
   cases (ns q.br.length).all fun j=>gk d.aE.aB u (gi q.br j) == gi p.br j <;> rfl
 ·intro acc
  show jM d p q l (acc,_)=_
  unfold jM
  dsimp only
  rw [aX (by omega),cond_false]
theorem Jx {p q:bG} (P:j7 d p) (Q:j7 d q):pT d p q=some (sP d p q):=by
 have D:=dh hb
 have dm:=D.d.m
 have co:=D.c.o8
 have pl:=P.l
 have ql:=Q.l
 unfold pT
 rw [SY D.d,aF]
 unfold sP
 generalize hl:(ns d.aE.aD.length).filter (rf d.aE p.dy q.dy)=l
 have B3:∀ b∈l,0≤b∧b < d.aE.aD.length:=by intro b hb; rw [← hl] at hb; exact ca.1 (List.mem_filter.1 hb).1
 have Jq:l.length≤d.aE.aD.length:=by rw [← hl]; exact Nat.le_trans (List.length_filter_le _ _) (by rw [dM]; exact Nat.le_refl _)
 refine (congrArg ak (tK l (DS d p q) (fun acc i=>(acc,(i:Int))) rfl ?_ ?_)).trans rfl
 ·intro i u acc hu DR
  have hi:=bj hu
  have ku:=B3 u (List.mem_of_getElem? hu)
  show jZ d p q l acc (i:Int)=_
  unfold jZ
  rw [av (by omega),cond_true,bR (show i < 9223372036854775807 by omega),dK (by omega) (by omega)]
  have Gf:∃ j:Int,ai (fun s:Bool×Int=>jY d p q l (i:Int) s.1 s.2) (true,(0:Int))=some (.exit 2 ((ns p.br.length).all (fun j=>gk d.aE.aB u (gi q.br j) == gi p.br j),j)):=by
   refine GI (R:=List Int) (k:=2) (n:=p.br.length) (fun j=>gk d.aE.aB u (gi q.br j) == gi p.br j) (fun j hj=>?_) (fun j hj=>?_) ?_
   ·have kq:=Q.v (j:Int) (by omega) (by omega)
    unfold jY
    dsimp only
    rw [av (by omega),cond_true,aF,cond_true,bu,hu,aF,cH (by omega) (by omega),aF,XR D.d ku.1 ku.2 kq.1.1 kq.1.2,aF,cH (by omega) (by omega),aF,bR (by omega)]
   ·unfold jY
    dsimp only
    cases decide ((j:Int) < (p.br.length:Int)) <;> rfl
   ·unfold jY
    dsimp only
    rw [aX (by omega),cond_false]; rfl
  obtain ⟨j,hj⟩:=Gf
  rw [tU hj]
  show (bif _ then _ else _)=some (Out.norm (if DS d p q u then acc++[u] else acc,((i+1:Nat):Int)))
  unfold DS
  rw [show p.br.length=q.br.length by omega,bu,hu]
  cases (ns q.br.length).all fun j=>gk d.aE.aB u (gi q.br j) == gi p.br j <;> rfl
 ·intro acc
  show jZ d p q l acc _=_
  unfold jZ
  rw [aX (by omega),cond_false]
theorem we {l:List bG} (hl:∀ q∈l,j7 d q) (hm:l.length≤100000) {p:bG} (P:j7 d p):eH d l p=some (er d l p):=by
 unfold eH
 refine (congrArg ak (jr l (fun q=>!((sP d q p).length == 1)) (y:=false) (e:=(l.length:Int)) (fun i=>(i:Int)) rfl (fun i q hq hp=>?_) (fun i q hq hp=>?_) ?_)).trans ?_
 ·have hi:=bj hq
  unfold jP
  rw [av (by omega),cond_true,bu,hq,aF,Jw hb (hl q (List.mem_of_getElem? hq)) P,aF,bR (by omega)]
  have h1:(sP d q p).length=1:=by simpa using hp
  rw [h1]; rfl
 ·have hi:=bj hq
  unfold jP
  rw [av (by omega),cond_true,bu,hq,aF,Jw hb (hl q (List.mem_of_getElem? hq)) P,aF,bR (by omega)]
  have h1:(sP d q p).length≠1:=by simpa using hp
  rw [show (((sP d q p).length:Int) != (1:Int))=true by rw [bne_iff_ne]; omega]; rfl
 ·unfold jP
  rw [aX (by omega),cond_false]
 ·unfold er
  rw [nj]
  cases l.all fun q=>(sP d q p).length == 1 <;> rfl
theorem K2 {l:List bG} (hl:∀ q∈l,j7 d q) (hm:l.length≤100000) {p:bG} (P:j7 d p):iP d l p=some (er d l p):=by
 unfold iP
 refine (congrArg ak (jr l (fun q=>!((sP d q p).length == 1)) (y:=false) (e:=(l.length:Int)) (fun i=>(i:Int)) rfl (fun i q hq hp=>?_) (fun i q hq hp=>?_) ?_)).trans ?_
 ·have hi:=bj hq
  unfold iS
  rw [av (by omega),cond_true,bu,hq,aF,Jx hb (hl q (List.mem_of_getElem? hq)) P,aF,bR (by omega)]
  have h1:(sP d q p).length=1:=by simpa using hp
  rw [h1]; rfl
 ·have hi:=bj hq
  unfold iS
  rw [av (by omega),cond_true,bu,hq,aF,Jx hb (hl q (List.mem_of_getElem? hq)) P,aF,bR (by omega)]
  have h1:(sP d q p).length≠1:=by simpa using hp
  rw [show (((sP d q p).length:Int) != (1:Int))=true by rw [bne_iff_ne]; omega]; rfl
 ·unfold iS
  rw [aX (by omega),cond_false]
 ·unfold er
  rw [nj]
  cases l.all fun q=>(sP d q p).length == 1 <;> rfl
theorem Ug {x:Int} (x0:0≤x) (x1:x < d.aE.aA):eJ d.aC d.aE x=some (ig d x):=by
 have D:=dh hb
 have o0:=D.c.o0
 have o8:=D.c.o8
 have cm:=D.c.m
 suffices h:Ok (eJ d.aC d.aE x) fun e=>e=ig d x by
  obtain ⟨y,h1,h2⟩:=h
  rw [h1,h2]
 unfold eJ
 refine jo (ol (fun z:List Int×Int=>(0≤z.2∧z.2≤d.aC.aA)∧z.1=List.replicate z.2.toNat x) (fun z=>(d.aC.aA - z.2).toNat) ⟨⟨by show (0:Int)≤0; omega,o0⟩,rfl⟩ ?_)
 rintro ⟨l,i⟩ ⟨⟨i0,i1⟩,hl⟩
 dsimp only at i0 i1 hl
 have Jq:l.length=i.toNat:=by rw [hl,List.length_replicate]
 show Ok (gF d.aC x l i) _
 unfold gF
 refine od (fun hi=>fk (by omega) (by omega) (os ⟨⟨⟨?_,?_⟩,?_⟩,?_⟩)) fun hi=>os ⟨rfl,?_⟩
 all_goals (try dsimp only)
 all_goals (try rw [w1 i0 hi (by omega)])
 ·omega
 ·omega
 ·rw [show (i+1).toNat=i.toNat+1 by omega,List.replicate_succ',hl]
 ·omega
 obtain rfl:i=d.aC.aA:=by omega
 refine ol (fun z:List Int×Int=>(0≤z.2∧z.2≤d.aC.aD.length)∧z.1=List.replicate z.2.toNat (gi d.aE.aH x)) (fun z=>(d.aC.aD.length - z.2).toNat) ⟨⟨by show (0:Int)≤0; omega,by show (0:Int)≤_; omega⟩,rfl⟩ ?_
 rintro ⟨l2,j⟩ ⟨⟨j0,j1⟩,qf⟩
 dsimp only at j0 j1 qf
 have aoP:l2.length=j.toNat:=by rw [qf,List.length_replicate]
 show Ok (gG d.aC d.aE x l2 j) _
 unfold gG
 refine od (fun hj=>oe (D.d.p9 x0 x1) (fk (by omega) (by omega) (os ⟨⟨⟨?_,?_⟩,?_⟩,?_⟩))) fun hj=>os ⟨rfl,?_⟩
 all_goals (try dsimp only)
 all_goals (try rw [w1 j0 hj (by omega)])
 ·omega
 ·omega
 ·rw [show (j+1).toNat=j.toNat+1 by omega,List.replicate_succ',qf]
 ·omega
 obtain rfl:j=d.aC.aD.length:=by omega
 refine oe (wi (zq D.c) (zq D.d) (by omega) (by omega)) (os ?_)
 rw [hl,qf]; rfl
def tV (d:aI) (x:Nat):List bG:=(ns x).flatMap fun x=>(wD d x).map fun l=>bG.mk x l
theorem OX:lU d=some ((ao d).take 401):=by
 have D:=dh hb
 have o0:=D.d.o0
 have o8:=D.d.o8
 suffices h:Ok (lU d) fun e=>e=(ao d).take 401 by
  obtain ⟨y,h1,h2⟩:=h
  rw [h1,h2]
 unfold lU
 refine jo (ol (fun z:List bG×Int=>(0≤z.2∧z.2≤d.aE.aA)∧z.1=(tV d z.2.toNat).take 401) (fun z=>(d.aE.aA - z.2).toNat) ⟨⟨by show (0:Int)≤0; omega,o0⟩,rfl⟩ ?_)
 rintro ⟨out,x⟩ ⟨⟨x0,x1⟩,ho⟩
 dsimp only at x0 x1 ho
 show Ok (oN d (out,x)) _
 unfold oN
 dsimp only
 have ij:out.length≤401:=by rw [ho]; exact List.length_take_le _ _
 by_cases hx:x < d.aE.aA
 ·rw [av hx,cond_true,aF]
  by_cases h4:(out.length:Int)≤400
  ·rw [av h4,cond_true]
   have T:=FK hb x0 hx
   have hf:=XP T (cj:=false) (m:=401 - out.length) (by omega) (by omega)
   have hw:aj ((401:Int) - (out.length:Int))=((401 - out.length:Nat):Int):=by rw [dV (by omega) (by omega)]; omega
   rw [hw]
   refine oe (Ug hb x0 hx) (oe hf ?_)
   generalize hL:(ks (vM false (ig d x)) (ig d x) d (ig d x).aC.aA.toNat []).take (401 - out.length)=L
   have hLl:L.length≤401 - out.length:=by rw [← hL]; exact List.length_take_le _ _
   refine ol (fun z:List bG×Int=>(0≤z.2∧z.2≤L.length)∧z.1=out++(L.take z.2.toNat).map fun l=>bG.mk x l) (fun z=>(L.length - z.2).toNat) ⟨⟨by show (0:Int)≤0; omega,by show (0:Int)≤_; omega⟩,by show out=out++_; simp⟩ ?_
   rintro ⟨o2,i⟩ ⟨⟨i0,i1⟩,h2⟩
   dsimp only at i0 i1 h2
   show Ok (oM x L (o2,i)) _
   unfold oM
   dsimp only
   have h2l:o2.length=out.length+i.toNat:=by rw [h2,List.length_append,List.length_map,List.length_take]; omega
   refine od (fun hi=>?_) fun hi=>os ⟨rfl,?_⟩
   ·have hg:L[i.toNat]? = some L[i.toNat]:=List.getElem?_eq_getElem (by omega)
    refine oe (wX i0 hi) (fk (by omega) (by omega) (os ⟨⟨⟨?_,?_⟩,?_⟩,?_⟩))
    all_goals (try dsimp only)
    all_goals (try rw [w1 i0 hi (by omega)])
    ·omega
    ·omega
    ·rw [show (i+1).toNat=i.toNat+1 by omega,List.take_add_one,hg,List.map_append,← List.append_assoc,← h2]; rfl
    ·omega
   ·obtain rfl:i=L.length:=by omega
    refine os ⟨⟨⟨?_,?_⟩,?_⟩,?_⟩
    all_goals (try dsimp only)
    all_goals (try rw [w1 x0 hx (by omega)])
    ·omega
    ·omega
    ·have e1:tV d (x.toNat+1)=tV d x.toNat++(wD d x).map fun l=>bG.mk x l:=by
      unfold tV
      rw [CZ,List.flatMap_append,show ((x.toNat:Nat):Int)=x by omega]
      simp
     have hA:(tV d x.toNat).length=out.length:=by
      have:=congrArg List.length ho
      rw [List.length_take] at this
      omega
     rw [h2,Int.toNat_natCast,List.take_length,show (x+1).toNat=x.toNat+1 by omega,e1,List.take_append,← ho,← hL,List.map_take,hA]
     rfl
    ·omega
  ·rw [aX h4,cond_false]
   refine os ⟨rfl,os ?_⟩
   have hlen:out.length=401:=by omega
   have hle:401≤(tV d x.toNat).length:=by rw [ho,List.length_take] at hlen; omega
   rw [ho]
   unfold tV at hle ⊢
   unfold ao
   have XT:∃ r,ns d.aE.aA.toNat=ns x.toNat++r:=by
    refine ⟨(ns d.aE.aA.toNat).drop x.toNat,?_⟩
    have:(ns d.aE.aA.toNat).take x.toNat=ns x.toNat:=by
     unfold ns
     rw [← List.map_take,List.take_range]
     congr 2; omega
    rw [← this,List.take_append_drop]
   obtain ⟨r,hr⟩:=XT
   rw [hr,List.flatMap_append,List.take_append_of_le_length hle]
   exact rfl
 ·rw [aX hx,cond_false,aF,cond_false]
  obtain rfl:x=d.aE.aA:=by omega
  exact os ⟨rfl,os ho⟩
end
end Go.Proofs.YtgjbmjjihmfppaaGreat
namespace Go.Proofs.YtgjbmjjihmfppaaGreat
open Go Go.Li
set_option linter.unusedVariables false
set_option linter.unusedSectionVars false
set_option linter.unusedSimpArgs false
def Hm7 (d:aI) (x X:Int) (cs:List Int):Prop:=∀ i:Int,0≤i→i≤X→gi d.aE.aD (gi cs i)=x
section
variable {d:aI} (hb:bx d=true) {x:Int} (x0:0≤x) (x1:x < d.aE.aA)
include hb x0 x1
theorem Uh {R S:Type} {X:Int} {cs:List Int} (j:BJ (ig d x) cs) (hX:X < d.aC.aA) (hm:Hm7 d x X cs) {A B:Option (Out S R)}:Gr 2 1 (ai (fun s=>nA (ρ:=R) d X cs s) (0:Int)) (fun _=>A) (fun _=>B)=bif xn (ig d x) d X cs then A else B:=by
 have D:=dh hb
 have cm:=D.c.m
 have al:=D.al
 have jl:(cs.length:Int)=d.aC.aA:=j.1
 refine (K1 (n:=d.aC.aD.length) (xp (ig d x) d X cs) rfl (fun a ha=>?_) ?_).trans ?_
 ·have a1:(a:Int) < d.aC.aD.length:=by omega
  have kf:=D.c.fr (f:=(a:Int)) (by omega) a1
  have kt:=D.c.to (f:=(a:Int)) (by omega) a1
  have ka:=D.ar (a:=(a:Int)) (by omega) a1
  unfold nA
  rw [av (by omega),cond_true,D.wj (by omega) a1,aF,D.c.js (by omega) a1,aF,D.c.j3 (by omega) a1,aF,bR (by omega)]
  have hb7:xp (ig d x) d X cs a=((if gi d.aC.To (a:Int) > gi d.aC.aD (a:Int) then gi d.aC.To (a:Int) else gi d.aC.aD (a:Int)) == X && !(sX (ig d x) d cs a)):=rfl
  rw [hb7]
  by_cases e:(if gi d.aC.To (a:Int) > gi d.aC.aD (a:Int) then gi d.aC.To (a:Int) else gi d.aC.aD (a:Int))=X
  ·have hle:gi d.aC.aD (a:Int)≤X∧gi d.aC.To (a:Int)≤X:=by split at e <;> omega
   have kF:=j.2 _ (fj (l:=cs) kf.1 (by omega))
   have kT:=j.2 _ (fj (l:=cs) kt.1 (by omega))
   rw [yA e,cond_true,cH (l:=cs) kf.1 (by omega),aF,D.d.r8 kF.1 kF.2 ka.1 ka.2,aF,cH (l:=cs) kt.1 (by omega),aF,aF,
    OV hb x0 x1 (by omega) a1 ⟨kT,hm _ kt.1 hle.2⟩]
   rfl
  ·rw [sy e]; rfl
 ·unfold nA
  rw [aX (by omega),cond_false]
 ·unfold xn
  show (bif (ns d.aC.aD.length).any (xp (ig d x) d X cs) then B else A)=bif !((ns d.aC.aD.length).any (xp (ig d x) d X cs)) then A else B
  cases (ns d.aC.aD.length).any (xp (ig d x) d X cs) <;> rfl
section
variable {σ:Type} {fo:List Int→σ→Option (Bool×σ)}
theorem Ui:∀ (k n:Nat) (p cs:List Int) (st:σ),BJ (ig d x) cs→DU p cs→(∀ i:Int,0≤i→i < p.length→gi d.aE.aD (gi p i)=x)→((p.length+k:Nat):Int)=d.aC.aA→k < n→∀ y,ue fo (ks (fun _=>true) (ig d x) d k p) st=some y→
  ∃ gy,BJ (ig d x) gy∧DU p gy∧fJ fo d x n (p.length:Int) cs st=some (y.1,gy,y.2):=by
 have D:=dh hb
 have T:=FK hb x0 x1
 have co:=D.c.o8
 have dm:=D.d.m
 intro k
 induction k with
 | zero=>
  intro n p cs st j hp hm hk hn y hy
  obtain ⟨n,rfl⟩ : ∃ i,n=i+1:=⟨n - 1,by omega⟩
  have jl:(cs.length:Int)=d.aC.aA:=j.1
  have e:cs=p:=Jy (by omega) fun x x0 x1=>hp x x0 x1
  subst e
  refine ⟨cs,j,fun _ _ _=>rfl,?_⟩
  unfold fJ nV
  rw [yA (by omega),cond_true]
  have h1:(fo cs st>>=fun y=>bif !y.1 then some (false,y.2) else some (true,y.2))=some y:=hy
  cases hf:fo cs st with
  | none=>rw [hf] at h1; cases h1
  | some z=>
   rw [hf] at h1
   obtain ⟨b,z⟩:=z
   cases b <;> (cases h1; rfl)
 | succ k ih=>
  intro n p cs st j hp hm hk hn y hy
  obtain ⟨n,rfl⟩ : ∃ i,n=i+1:=⟨n - 1,by omega⟩
  have xX:(p.length:Int) < d.aC.aA:=by omega
  unfold fJ nV
  rw [sy (by omega),cond_false,D.yJ (by omega) xX,aF,XS D.d,aF]
  have aeq:gi (ig d x).aA (p.length:Int)=x:=yL (by omega) (by omega)
  generalize hl:(ns d.aE.aD.length).filter (rf d.aE x (gi d.aA p.length))=l
  have B3:∀ b∈l,(0≤b∧b < d.aE.aD.length)∧gi d.aE.aD b=x:=by
   intro b hb
   rw [← hl] at hb
   obtain ⟨h1,h2⟩:=List.mem_filter.1 hb
   unfold rf at h2
   simp only [Bool.and_eq_true,beq_iff_eq] at h2
   exact ⟨ca.1 h1,h2.1⟩
  have Jq:l.length≤d.aE.aD.length:=by rw [← hl]; exact Nat.le_trans (List.length_filter_le _ _) (by rw [dM]; exact Nat.le_refl _)
  have tE:ue fo ((l.filter (zp (fun _=>true) (ig d x) d p)).flatMap fun b=>ks (fun _=>true) (ig d x) d k (p++[b])) st=some y:=by
   rw [← hl]
   have h2:ue fo ((((ns d.aE.aD.length).filter (rf d.aE (gi (ig d x).aA p.length) (gi d.aA p.length))).filter (zp (fun _=>true) (ig d x) d p)).flatMap fun b=>ks (fun _=>true) (ig d x) d k (p++[b])) st=some y:=hy
   rw [aeq] at h2
   exact h2
  have key:∀ (m:List Int) (i:Nat) (cs:List Int) (st:σ),l.drop i=m→i≤l.length→BJ (ig d x) cs→DU p cs→∀ y,ue fo ((m.filter (zp (fun _=>true) (ig d x) d p)).flatMap fun b=>ks (fun _=>true) (ig d x) d k (p++[b])) st=some y→
    ∃ gy,BJ (ig d x) gy∧DU p gy∧ai (fun s=>kY (fJ fo d x n) d p.length l s) ((i:Int),cs,st)=some (bif y.1 then .exit 0 ((l.length:Int),gy,y.2) else .ret (false,gy,y.2)):=by
   intro m
   induction m with
   | nil=>
    intro i cs st hd hi j hp y hy
    obtain rfl:i=l.length:=by have:=congrArg List.length hd; simp at this; omega
    cases hy
    refine ⟨cs,j,hp,ml ?_⟩
    unfold kY
    rw [aX (by omega),cond_false]
   | cons b m SZ=>
    intro i cs st hd hi j hp y hy
    have bm:i < l.length:=by
     rcases Nat.lt_or_ge i l.length with h | h
     ·exact h
     ·rw [List.drop_eq_nil_of_le h] at hd; cases hd
    have hx:l[i]? = some b:=by
     rw [List.drop_eq_getElem_cons bm] at hd
     rw [List.getElem?_eq_getElem bm]; exact congrArg some (List.cons.inj hd).1
    have jh:l.drop (i+1)=m:=by rw [List.drop_eq_getElem_cons bm] at hd; exact (List.cons.inj hd).2
    have tD:=B3 b (List.mem_of_getElem? hx)
    have jl:(cs.length:Int)=d.aC.aA:=j.1
    have j1:BJ (ig d x) (cs.set (p.length:Int).toNat b):=BJ.put T j (x:=(p.length:Int)) tD.1.1 tD.1.2
    have sn:∀ q:Int,0≤q→gi (cs.set (p.length:Int).toNat b) q=if q=(p.length:Int) then b else gi cs q:=fun q q0=>mw (by omega) (by omega) q0
    have sf:DU p (cs.set (p.length:Int).toNat b):=fun q q0 q1=>by rw [sn q q0,if_neg (by omega)]; exact hp q q0 q1
    have NS:DU (p++[b]) (cs.set (p.length:Int).toNat b):=fun q q0 q1=>by
     rw [List.length_append,List.length_singleton] at q1
     rw [sn q q0,km q0]
     by_cases e:q=(p.length:Int)
     ·rw [if_pos e,if_neg (by omega),if_pos e]
     ·rw [if_neg e,if_pos (by omega)]; exact hp q q0 (by omega)
    have hmb:∀ i:Int,0≤i→i < (p++[b]).length→gi d.aE.aD (gi (p++[b]) i)=x:=fun q q0 q1=>by
     rw [List.length_append,List.length_singleton] at q1
     rw [km q0]
     by_cases e:q < (p.length:Int)
     ·rw [if_pos e]; exact hm q q0 e
     ·rw [if_neg e,if_pos (by omega)]; exact tD.2
    have hmc:Hm7 d x p.length (cs.set (p.length:Int).toNat b):=fun q q0 q1=>by
     rw [NS q q0 (by rw [List.length_append,List.length_singleton]; omega)]
     exact hmb q q0 (by rw [List.length_append,List.length_singleton]; omega)
    have Mc:xn (ig d x) d p.length (cs.set (p.length:Int).toNat b)=xn (ig d x) d p.length (p++[b]):=MI T fun q q0 q1=>NS q q0 (by rw [List.length_append,List.length_singleton]; omega)
    have nx:kY (fJ fo d x n) d p.length l ((i:Int),cs,st) =
      (bif xn (ig d x) d p.length (p++[b]) then ((fJ fo d x n (((p++[b]).length:Nat):Int) (cs.set (p.length:Int).toNat b) st)>>=fun OY=>(bif !(OY.1) then (some (Out.ret (false,OY.2.1,OY.2.2))) else (some (Out.norm (((i+1:Nat):Int),OY.2.1,OY.2.2)))))
       else (some (Out.norm (((i+1:Nat):Int),cs.set (p.length:Int).toNat b,st)))):=by
     unfold kY
     dsimp only
     rw [av (by omega),cond_true,bu,hx,aF,cH (l:=cs) (by omega) (by omega),aF,Uh hb x0 x1 j1 xX hmc,Mc,bR (by omega),bR (by omega),List.length_append,List.length_singleton]
    rw [oh,nx]
    cases hf:xn (ig d x) d p.length (p++[b]) with
    | false=>
     have hq:zp (fun _=>true) (ig d x) d p b=false:=by unfold zp; rw [hf,Bool.and_false]
     rw [List.filter_cons_of_neg (by rw [hq]; decide)] at hy
     exact SZ (i+1) _ st jh (by omega) j1 sf y hy
    | true=>
     have hq:zp (fun _=>true) (ig d x) d p b=true:=by unfold zp; rw [hf]; rfl
     rw [List.filter_cons_of_pos (by rw [hq]),List.flatMap_cons,Rk] at hy
     cases hr:ue fo (ks (fun _=>true) (ig d x) d k (p++[b])) st with
     | none=>rw [hr] at hy; cases hy
     | some z=>
      rw [hr,aF] at hy
      obtain ⟨y4,j2,ox,e2⟩:=ih n (p++[b]) _ st j1 NS hmb (by rw [List.length_append,List.length_singleton]; omega) (by omega) z hr
      have Su:DU p y4:=fun q q0 q1=>by rw [ox q q0 (by rw [List.length_append,List.length_singleton]; omega),km q0,if_pos q1]
      simp only [cond_true]
      rw [e2,aF]
      cases hz:z.1 with
      | false=>
       rw [hz] at hy
       cases hy
       exact ⟨y4,j2,Su,rfl⟩
      | true=>
       rw [hz] at hy
       exact SZ (i+1) y4 z.2 jh (by omega) j2 Su y hy
  obtain ⟨gy,j',uL,e⟩:=key l 0 cs st rfl (by omega) j hp y tE
  refine ⟨gy,j',uL,?_⟩
  rw [show ((0:Int),cs,st)=(((0:Nat):Int),cs,st) from rfl,e]
  obtain ⟨b,z⟩:=y
  cases b <;> rfl
theorem Rm {st:σ} {y:Bool×σ} (hy:ue fo (wD d x) st=some y):rB fo d x st=some y:=by
 have D:=dh hb
 have co:=D.c.o8
 have c0:=D.c.o0
 have ol:=D.ol
 have j0:BJ (ig d x) (List.replicate d.aC.aA.toNat (0:Int)):=by
  refine ⟨by rw [List.length_replicate]; show ((d.aC.aA.toNat:Nat):Int)=d.aC.aA; omega,fun y hy=>?_⟩
  obtain ⟨h1,rfl⟩:=List.mem_replicate.1 hy
  have k:=D.d.id x0 x1
  show 0≤(0:Int)∧(0:Int) < d.aE.aD.length
  omega
 obtain ⟨gy,_,_,e⟩:=Ui hb x0 x1 d.aC.aA.toNat 64 [] _ st j0 (fun i i0 i1=>by simp at i1; omega) (fun i i0 i1=>by simp at i1; omega) (by simp; omega) (by omega) y hy
 unfold rB
 have hn:d.aA.length=d.aC.aA.toNat:=by omega
 rw [CO (by omega) (by omega),aF,hn]
 have e':fJ fo d x 64 (0:Int) (List.replicate d.aC.aA.toNat 0) st=some (y.1,gy,y.2):=e
 rw [e',aF]
 rfl
end
theorem OZ (l:List (List Int)) (hl:∀ c∈l,c.length≤1048576):∀ out:List bG,out.length≤400→ue (fun a0 a1=>eG a0 a1 x) l out=some (bif decide (out.length+l.length≤400) then (true,out++l.map fun l=>bG.mk x l) else (false,out++(l.take (401 - out.length)).map fun l=>bG.mk x l)):=by
 induction l with
 | nil=>intro out ho; rw [av (by simpa using ho)]; show some (true,out)=some (true,out++[]); rw [List.append_nil]
 | cons c l ih=>
  intro out ho
  show (eG c out x>>=fun y=>bif !y.1 then some (false,y.2) else ue (fun a0 a1=>eG a0 a1 x) l y.2)=_
  have h1:eG c out x=some (decide (((out++[bG.mk x c]).length:Int)≤400),out++[bG.mk x c]):=by
   unfold eG
   rw [Aj c (hl c (by simp)),aF,dK (by omega) (by omega),aF]
   rfl
  rw [h1,aF]
  by_cases h:out.length < 400
  ·rw [av (by rw [List.length_append,List.length_singleton]; omega)]
   simp only [Bool.not_true,cond_false]
   rw [ih (fun c hc=>hl c (by simp [hc])) (out++[bG.mk x c]) (by rw [List.length_append,List.length_singleton]; omega)]
   have e:(out++[bG.mk x c]).length+l.length=out.length+(c :: l).length:=by simp; omega
   rw [e]
   by_cases h2:out.length+(c :: l).length≤400
   ·rw [av h2]; simp
   ·rw [aX h2]
    simp only [cond_false]
    rw [show 401 - out.length=(401 - (out++[bG.mk x c]).length)+1 by simp; omega,List.take_succ_cons]
    simp
  ·have:out.length=400:=by omega
   rw [aX (by rw [List.length_append,List.length_singleton]; omega)]
   rw [aX (by simp; omega),this]
   simp
end
section
variable {d:aI} (hb:bx d=true)
include hb
theorem Ro {x:Int} (x0:0≤x) (x1:x < d.aE.aA):∀ c∈wD d x,c.length≤1048576:=fun c hc=>by
 have h:=(GM hb x0 x1 hc).l
 have:=(dh hb).c.o8
 dsimp only at h
 omega
theorem Rp {x:Nat} (hx:x≤d.aE.aA.toNat):∃ r,ao d=tV d x++r:=by
 refine ⟨((ns d.aE.aA.toNat).drop x).flatMap fun x=>(wD d x).map fun l=>bG.mk x l,?_⟩
 have:(ns d.aE.aA.toNat).take x=ns x:=by
  unfold ns
  rw [← List.map_take,List.take_range]
  congr 2; omega
 unfold tV ao
 rw [← this,← List.flatMap_append,List.take_append_drop]
theorem sm:iM d=some (bif decide ((ao d).length≤400) then (ao d,true) else ([],false)):=by
 have D:=dh hb
 have o0:=D.d.o0
 have o8:=D.d.o8
 suffices h:Ok (iM d) fun e=>e=bif decide ((ao d).length≤400) then (ao d,true) else ([],false) by
  obtain ⟨y,h1,h2⟩:=h
  rw [h1,h2]
 unfold iM
 refine jo (ol (fun z:Int×List bG=>(0≤z.1∧z.1≤d.aE.aA)∧(z.2=tV d z.1.toNat∧z.2.length≤400)) (fun z=>(d.aE.aA - z.1).toNat) ⟨⟨by show (0:Int)≤0; omega,o0⟩,rfl,by show 0≤400; omega⟩ ?_)
 rintro ⟨x,out⟩ ⟨⟨x0,x1⟩,ho,hl⟩
 dsimp only at x0 x1 ho hl
 show Ok (oJ d (x,out)) _
 unfold oJ
 dsimp only
 refine od (fun hx=>?_) fun hx=>os ⟨rfl,os ?_⟩
 ·have e1:tV d (x.toNat+1)=tV d x.toNat++(wD d x).map fun l=>bG.mk x l:=by
   unfold tV
   rw [CZ,List.flatMap_append,show ((x.toNat:Nat):Int)=x by omega]
   simp
  refine oe (Rm hb x0 hx (OZ hb x0 hx (wD d x) (Ro hb x0 hx) out hl)) ?_
  by_cases h:out.length+(wD d x).length≤400
  ·rw [av h,cond_true]
   refine os ⟨⟨⟨?_,?_⟩,?_,?_⟩,?_⟩
   all_goals (try dsimp only)
   all_goals (try rw [w1 x0 hx (by omega)])
   ·omega
   ·omega
   ·rw [show (x+1).toNat=x.toNat+1 by omega,e1,ho]
   ·rw [List.length_append,List.length_map]; omega
   ·omega
  ·rw [aX h,cond_false]
   refine os ?_
   obtain ⟨r,hr⟩:=Rp hb (x:=x.toNat+1) (by omega)
   rw [aX (by rw [hr,List.length_append,e1,List.length_append,List.length_map,← ho]; omega)]
   exact rfl
 ·obtain rfl:x=d.aE.aA:=by omega
  have:ao d=out:=ho.symm
  rw [this,av hl]; exact rfl
end
end Go.Proofs.YtgjbmjjihmfppaaGreat
