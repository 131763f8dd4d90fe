/- Cones: the list of all cones of a diagram, maps between cones, limits; what is known of them. No condition beside those that each theorem names. -/
import Derived.Test.YtgjbmjjihmfppaaGreatUq
import Derived.Test.YtgjbmjjihmfppaaGreatUr
namespace Go.Proofs.YtgjbmjjihmfppaaGreat
open Go Go.Li
set_option linter.unusedVariables false
set_option linter.unusedSectionVars false
set_option linter.unusedSimpArgs false
def gq (d:aN) (x:Int):aN:=aN.mk d.aH d.aI (List.replicate d.aH.aA.toNat x) (List.replicate d.aH.aD.length (gi d.aI.aJ x))
def u5 (d:aN) (x:Int):List (List Int):=kn (fun _=>true) (gq d x) d d.aH.aA.toNat []
def eh (d:aN):List bD:=(ns d.aI.aA.toNat).flatMap fun x=>(u5 d x).map fun l=>bD.mk x l
def A3 (d:aN) (p q:bD) (u:Int):Bool:=(ns q.cf.length).all fun j=>gk d.aI.aB u (gi q.cf j) == gi p.cf j
def mz (d:aN) (p q:bD):List Int:=((ns d.aI.aD.length).filter (qv d.aI p.ef q.ef)).filter (A3 d p q)
def kp (d:aN) (l:List bD) (p:bD):Bool:=l.all fun q=>(mz d q p).length == 1
structure qY (d:aN) (p:bD):Prop where
 x0:0≤p.ef
 x1:p.ef < d.aI.aA
 l:(p.cf.length:Int)=d.aH.aA
 v:∀ j:Int,0≤j→j < d.aH.aA→(0≤gi p.cf j∧gi p.cf j < d.aI.aD.length)∧gi d.aI.aD (gi p.cf j)=p.ef∧gi d.aI.To (gi p.cf j)=gi d.aA j
 s:∀ a:Int,0≤a→a < d.aH.aD.length→gk d.aI.aB (gi p.cf (gi d.aH.aD a)) (gi d.aj a)=gi p.cf (gi d.aH.To a)
section
variable {d:aN} (hb:jm d=true)
include hb
theorem DX {x:Int} (x0:0≤x) (x1:x < d.aI.aA):Ck (gq d x) d:=by
 have D:=js hb
 have k:=D.d.id x0 x1
 have kf:=D.d.uD x x0 x1
 have kt:=D.d.vp x x0 x1
 have o0:=D.c.o0
 have hO:∀ y:Int,0≤y→y < d.aH.aA→gi (gq d x).aA y=x:=fun y y0 y1=>xq y0 (by omega)
 have hA:∀ a:Int,0≤a→a < d.aH.aD.length→gi (gq d x).aj a=gi d.aI.aJ x:=fun a a0 a1=>xq a0 a1
 have hf:jm (gq d x)=true:=by
  refine MH (f:=gq d x) (Dj D.c) (Dj D.d) (by show ((List.replicate d.aH.aA.toNat x).length:Int)=d.aH.aA; rw [List.length_replicate]; omega) (List.length_replicate ..) (fun y hy=>?_) (fun y hy=>?_) (fun a a0 a1=>?_) (fun a a0 a1=>?_) (fun y y0 y1=>?_) fun a b a0 a1 b0 b1 e=>?_
  ·rw [(List.mem_replicate.1 hy).2]; exact ⟨x0,x1⟩
  ·rw [(List.mem_replicate.1 hy).2]; exact k
  ·have ka:=D.c.fr a0 a1
   rw [hA a a0 a1]
   exact kf.trans (hO _ ka.1 ka.2).symm
  ·have ka:=D.c.to a0 a1
   rw [hA a a0 a1]
   exact kt.trans (hO _ ka.1 ka.2).symm
  ·have ki:=D.c.id (x:=y) y0 y1
   rw [hO y y0 y1]
   exact hA _ ki.1 ki.2
  ·have kc:=D.c.cell a b a0 a1 b0 b1 e
   rw [hA a a0 a1,hA b b0 b1]
   refine (hA _ kc.1 kc.2.1).trans ?_
   have:=D.d.zM (gi d.aI.aJ x) k.1 k.2
   rw [kf] at this
   exact this.symm
 exact ⟨js hf,D,hf,hb,rfl,rfl⟩
theorem MJ {x:Int} (x0:0≤x) (x1:x < d.aI.aA) {cs:List Int} {a:Int} (a0:0≤a) (a1:a < d.aH.aD.length)
  (hv:(0≤gi cs (gi d.aH.To a)∧gi cs (gi d.aH.To a) < d.aI.aD.length)∧gi d.aI.aD (gi cs (gi d.aH.To a))=x) :
  rR (gq d x) d cs a=(gk d.aI.aB (gi cs (gi d.aH.aD a)) (gi d.aj a) == gi cs (gi d.aH.To a)):=by
 have D:=js hb
 have h1:gi (gq d x).aj a=gi d.aI.aJ x:=xq a0 a1
 have:=D.d.zM _ hv.1.1 hv.1.2
 rw [hv.2] at this
 unfold rR
 rw [h1]
 show (gk d.aI.aB (gi d.aI.aJ x) (gi cs (gi d.aH.To a)) == gk d.aI.aB (gi cs (gi d.aH.aD a)) (gi d.aj a))=_
 rw [this,Bool.eq_iff_iff,beq_iff_eq,beq_iff_eq]
 exact ⟨Eq.symm,Eq.symm⟩
theorem EK {x:Int} (x0:0≤x) (x1:x < d.aI.aA) {l:List Int} (h:l∈u5 d x):qY d (bD.mk x l):=by
 have D:=js hb
 have o0:=D.c.o0
 have T:=DX hb x0 x1
 obtain ⟨h1,h2⟩:=wg T _ _ _ (AZ T) h
 have hl:(l.length:Int)=d.aH.aA:=by simp at h2; omega
 have hv:∀ j:Int,0≤j→j < d.aH.aA→(0≤gi l j∧gi l j < d.aI.aD.length)∧gi d.aI.aD (gi l j)=x∧gi d.aI.To (gi l j)=gi d.aA j:=fun j j0 j1=>by
  have:=h1.v j j0 (by omega)
  rw [show gi (gq d x).aA j=x from xq j0 (by omega)] at this
  exact this
 refine ⟨x0,x1,hl,hv,fun a a0 a1=>?_⟩
 have kf:=D.c.fr a0 a1
 have kt:=D.c.to a0 a1
 have hs:=h1.s a a0 a1 (by have e1:(gq d x).aH=d.aH:=rfl; unfold vr; rw [e1]; split <;> omega)
 rw [MJ hb x0 x1 a0 a1 ⟨(hv _ kt.1 kt.2).1,(hv _ kt.1 kt.2).2.1⟩] at hs
 exact beq_iff_eq.1 hs
theorem wi {p:bD} (h:p∈eh d):qY d p:=by
 have o0:=(js hb).d.o0
 obtain ⟨x,hx,h⟩:=List.mem_flatMap.1 h
 obtain ⟨l,hl,rfl⟩:=List.mem_map.1 h
 have:=bu.1 hx
 exact EK hb this.1 (by omega) hl
theorem Pg {p q:bD} {u:Int}:u∈mz d p q↔((0≤u∧u < d.aI.aD.length)∧gi d.aI.aD u=p.ef∧gi d.aI.To u=q.ef)∧∀ j:Int,0≤j→j < q.cf.length→gk d.aI.aB u (gi q.cf j)=gi p.cf j:=by
 unfold mz A3
 rw [List.mem_filter,List.mem_filter,bu,List.all_eq_true]
 unfold qv
 simp only [Bool.and_eq_true,beq_iff_eq]
 exact ⟨fun ⟨⟨h1,h2⟩,h3⟩=>⟨⟨h1,h2⟩,fun j j0 j1=>h3 j (bu.2 ⟨j0,j1⟩)⟩,fun ⟨⟨h1,h2⟩,h3⟩=>⟨⟨h1,h2⟩,fun j hj=>h3 j (bu.1 hj).1 (bu.1 hj).2⟩⟩
theorem R3 {p:bD} (C:qY d p):gi d.aI.aJ p.ef∈mz d p p:=by
 have D:=js hb
 have k:=D.d.id C.x0 C.x1
 have hl:=C.l
 refine (Pg hb).2 ⟨⟨k,D.d.uD _ C.x0 C.x1,D.d.vp _ C.x0 C.x1⟩,fun j j0 j1=>?_⟩
 have kv:=C.v j j0 (by omega)
 have:=D.d.zM _ kv.1.1 kv.1.2
 rw [kv.2.1] at this
 exact this
theorem VN {p:bD} {l:List bD} (C:qY d p) (hp:p∈l) (hu:kp d l p=true):mz d p p=[gi d.aI.aJ p.ef]:=by
 have h1:=R3 hb C
 unfold kp at hu
 have h2:(mz d p p).length=1:=by have:=List.all_eq_true.1 hu p hp; simpa using this
 match h:mz d p p with
 | []=>rw [h] at h1; cases h1
 | [a]=>rw [h] at h1; rw [List.mem_singleton.1 h1]
 | a :: b :: m=>rw [h] at h2; simp at h2
end
end Go.Proofs.YtgjbmjjihmfppaaGreat
namespace Go.Proofs.YtgjbmjjihmfppaaGreat
open Go Go.Li
set_option linter.unusedVariables false
set_option linter.unusedSectionVars false
set_option linter.unusedSimpArgs false
theorem VO {c:aG} (C:nb c) {f g:Int} (h0:0≤f) (h1:f < c.aD.length) (h2:0≤g) (h3:g < c.aD.length):oB c f g=some (gk c.aB f g):=by
 unfold oB; rw [C.mh h0 h1,aF,C.ly h0 h1 h2 h3,aF]; rfl
section
variable {d:aN} (hb:jm d=true)
include hb
theorem Cm {p q:bD} (P:qY d p) (Q:qY d q):jX d p q=some (mz d p q):=by
 have D:=js hb
 have dm:=D.d.m
 have co:=D.c.o8
 have pl:=P.l
 have ql:=Q.l
 unfold jX
 rw [VP D.d,aF]
 unfold mz
 generalize hl:(ns d.aI.aD.length).filter (qv d.aI p.ef q.ef)=l
 have AI:∀ b∈l,0≤b∧b < d.aI.aD.length:=by intro b hb; rw [← hl] at hb; exact bu.1 (List.mem_filter.1 hb).1
 have He:l.length≤d.aI.aD.length:=by rw [← hl]; exact Nat.le_trans (List.length_filter_le _ _) (by rw [cQ]; exact Nat.le_refl _)
 refine (congrArg an (si l (A3 d p q) (fun acc i=>(acc,(i:Int))) rfl ?_ ?_)).trans rfl
 ·intro i u acc hu DV
  have hi:=ca hu
  have ku:=AI u (List.mem_of_getElem? hu)
  show gZ d p q l (acc,(i:Int))=_
  unfold gZ
  dsimp only
  rw [ay (by omega),cond_true,dw,hu,aF,bH (show i < 9223372036854775807 by omega),cV (by omega) (by omega)]
  refine (IT (n:=q.cf.length) (fun j=>!(gk d.aI.aB u (gi q.cf j) == gi p.cf j)) rfl (fun j hj=>?_) ?_).trans ?_
  ·unfold mQ
   have kq:=Q.v (j:Int) (by omega) (by omega)
   rw [ay (by omega),cond_true,bR (by omega) (by omega),aF,D.d.qX ku.1 ku.2 kq.1.1 kq.1.2,aF,bR (by omega) (by omega),aF,bH (by omega)]
   rfl
  ·unfold mQ
   rw [bm (by omega),cond_false]
  ·rw [n5]
   show _=some (Out.norm (if A3 d p q u then acc++[u] else acc,((i+1:Nat):Int)))
   unfold A3
   cases (ns q.cf.length).all fun j=>gk d.aI.aB u (gi q.cf j) == gi p.cf j <;> rfl
 ·intro acc
  show gZ d p q l (acc,_)=_
  unfold gZ
  dsimp only
  rw [bm (by omega),cond_false]
theorem Hk {p q:bD} (P:qY d p) (Q:qY d q):oC d p q=some (mz d p q):=by
 have D:=js hb
 have dm:=D.d.m
 have co:=D.c.o8
 have pl:=P.l
 have ql:=Q.l
 unfold oC
 rw [QM D.d,aF]
 unfold mz
 generalize hl:(ns d.aI.aD.length).filter (qv d.aI p.ef q.ef)=l
 have AI:∀ b∈l,0≤b∧b < d.aI.aD.length:=by intro b hb; rw [← hl] at hb; exact bu.1 (List.mem_filter.1 hb).1
 have He:l.length≤d.aI.aD.length:=by rw [← hl]; exact Nat.le_trans (List.length_filter_le _ _) (by rw [cQ]; exact Nat.le_refl _)
 refine (congrArg an (si l (A3 d p q) (fun acc i=>(acc,(i:Int))) rfl ?_ ?_)).trans rfl
 ·intro i u acc hu DV
  have hi:=ca hu
  have ku:=AI u (List.mem_of_getElem? hu)
  show iQ d p q l acc (i:Int)=_
  unfold iQ
  rw [ay (by omega),cond_true,bH (show i < 9223372036854775807 by omega),cV (by omega) (by omega)]
  have Gk:∃ j:Int,ah (fun s:Bool×Int=>iP d p q l (i:Int) s.1 s.2) (true,(0:Int))=some (.exit 2 ((ns p.cf.length).all (fun j=>gk d.aI.aB u (gi q.cf j) == gi p.cf j),j)):=by
   refine EG (R:=List Int) (k:=2) (n:=p.cf.length) (fun j=>gk d.aI.aB u (gi q.cf j) == gi p.cf j) (fun j hj=>?_) (fun j hj=>?_) ?_
   ·have kq:=Q.v (j:Int) (by omega) (by omega)
    unfold iP
    dsimp only
    rw [ay (by omega),cond_true,aF,cond_true,dw,hu,aF,bR (by omega) (by omega),aF,VO D.d ku.1 ku.2 kq.1.1 kq.1.2,aF,bR (by omega) (by omega),aF,bH (by omega)]
   ·unfold iP
    dsimp only
    cases decide ((j:Int) < (p.cf.length:Int)) <;> rfl
   ·unfold iP
    dsimp only
    rw [bm (by omega),cond_false]; rfl
  obtain ⟨j,hj⟩:=Gk
  rw [sB hj]
  show (bif _ then _ else _)=some (Out.norm (if A3 d p q u then acc++[u] else acc,((i+1:Nat):Int)))
  unfold A3
  rw [show p.cf.length=q.cf.length by omega,dw,hu]
  cases (ns q.cf.length).all fun j=>gk d.aI.aB u (gi q.cf j) == gi p.cf j <;> rfl
 ·intro acc
  show iQ d p q l acc _=_
  unfold iQ
  rw [bm (by omega),cond_false]
theorem IU {l:List bD} (hl:∀ q∈l,qY d q) (hm:l.length≤100000) {p:bD} (P:qY d p):hJ d l p=some (kp d l p):=by
 unfold hJ
 refine (congrArg an (mc l (fun q=>!((mz d q p).length == 1)) (y:=false) (e:=(l.length:Int)) (fun i=>(i:Int)) rfl (fun i q hq hp=>?_) (fun i q hq hp=>?_) ?_)).trans ?_
 ·have hi:=ca hq
  unfold iE
  rw [ay (by omega),cond_true,dw,hq,aF,Cm hb (hl q (List.mem_of_getElem? hq)) P,aF,bH (by omega)]
  have h1:(mz d q p).length=1:=by simpa using hp
  rw [h1]; rfl
 ·have hi:=ca hq
  unfold iE
  rw [ay (by omega),cond_true,dw,hq,aF,Cm hb (hl q (List.mem_of_getElem? hq)) P,aF,bH (by omega)]
  have h1:(mz d q p).length≠1:=by simpa using hp
  rw [show (((mz d q p).length:Int) != (1:Int))=true by rw [bne_iff_ne]; omega]; rfl
 ·unfold iE
  rw [bm (by omega),cond_false]
 ·unfold kp
  rw [n5]
  cases l.all fun q=>(mz d q p).length == 1 <;> rfl
theorem R4 {l:List bD} (hl:∀ q∈l,qY d q) (hm:l.length≤100000) {p:bD} (P:qY d p):iY d l p=some (kp d l p):=by
 unfold iY
 refine (congrArg an (mc l (fun q=>!((mz d q p).length == 1)) (y:=false) (e:=(l.length:Int)) (fun i=>(i:Int)) rfl (fun i q hq hp=>?_) (fun i q hq hp=>?_) ?_)).trans ?_
 ·have hi:=ca hq
  unfold gL
  rw [ay (by omega),cond_true,dw,hq,aF,Hk hb (hl q (List.mem_of_getElem? hq)) P,aF,bH (by omega)]
  have h1:(mz d q p).length=1:=by simpa using hp
  rw [h1]; rfl
 ·have hi:=ca hq
  unfold gL
  rw [ay (by omega),cond_true,dw,hq,aF,Hk hb (hl q (List.mem_of_getElem? hq)) P,aF,bH (by omega)]
  have h1:(mz d q p).length≠1:=by simpa using hp
  rw [show (((mz d q p).length:Int) != (1:Int))=true by rw [bne_iff_ne]; omega]; rfl
 ·unfold gL
  rw [bm (by omega),cond_false]
 ·unfold kp
  rw [n5]
  cases l.all fun q=>(mz d q p).length == 1 <;> rfl
theorem R5 {x:Int} (x0:0≤x) (x1:x < d.aI.aA):dP d.aH d.aI x=some (gq d x):=by
 have D:=js hb
 have o0:=D.c.o0
 have o8:=D.c.o8
 have cm:=D.c.m
 suffices h:Ok (dP d.aH d.aI x) fun e=>e=gq d x by
  obtain ⟨y,h1,h2⟩:=h
  rw [h1,h2]
 unfold dP
 refine jr (ol (fun z:List Int×Int=>(0≤z.2∧z.2≤d.aH.aA)∧z.1=List.replicate z.2.toNat x) (fun z=>(d.aH.aA - z.2).toNat) ⟨⟨by show (0:Int)≤0; omega,o0⟩,rfl⟩ ?_)
 rintro ⟨l,i⟩ ⟨⟨i0,i1⟩,hl⟩
 dsimp only at i0 i1 hl
 have He:l.length=i.toNat:=by rw [hl,List.length_replicate]
 show Ok (fD d.aH x l i) _
 unfold fD
 refine od (fun hi=>fi (by omega) (by omega) (os ⟨⟨⟨?_,?_⟩,?_⟩,?_⟩)) fun hi=>os ⟨rfl,?_⟩
 all_goals (try dsimp only)
 all_goals (try rw [w1 i0 hi (by omega)])
 ·omega
 ·omega
 ·rw [show (i+1).toNat=i.toNat+1 by omega,List.replicate_succ',hl]
 ·omega
 obtain rfl:i=d.aH.aA:=by omega
 refine ol (fun z:List Int×Int=>(0≤z.2∧z.2≤d.aH.aD.length)∧z.1=List.replicate z.2.toNat (gi d.aI.aJ x)) (fun z=>(d.aH.aD.length - z.2).toNat) ⟨⟨by show (0:Int)≤0; omega,by show (0:Int)≤_; omega⟩,rfl⟩ ?_
 rintro ⟨l2,j⟩ ⟨⟨j0,j1⟩,nu⟩
 dsimp only at j0 j1 nu
 have al8:l2.length=j.toNat:=by rw [nu,List.length_replicate]
 show Ok (fE d.aH d.aI x l2 j) _
 unfold fE
 refine od (fun hj=>oe (D.d.pg x0 x1) (fi (by omega) (by omega) (os ⟨⟨⟨?_,?_⟩,?_⟩,?_⟩))) fun hj=>os ⟨rfl,?_⟩
 all_goals (try dsimp only)
 all_goals (try rw [w1 j0 hj (by omega)])
 ·omega
 ·omega
 ·rw [show (j+1).toNat=j.toNat+1 by omega,List.replicate_succ',nu]
 ·omega
 obtain rfl:j=d.aH.aD.length:=by omega
 refine oe (xp (xY D.c) (xY D.d) (by omega) (by omega)) (os ?_)
 rw [hl,nu]; rfl
def sD (d:aN) (x:Nat):List bD:=(ns x).flatMap fun x=>(u5 d x).map fun l=>bD.mk x l
theorem MK:jZ d=some ((eh d).take 401):=by
 have D:=js hb
 have o0:=D.d.o0
 have o8:=D.d.o8
 suffices h:Ok (jZ d) fun e=>e=(eh d).take 401 by
  obtain ⟨y,h1,h2⟩:=h
  rw [h1,h2]
 unfold jZ
 refine jr (ol (fun z:List bD×Int=>(0≤z.2∧z.2≤d.aI.aA)∧z.1=(sD d z.2.toNat).take 401) (fun z=>(d.aI.aA - z.2).toNat) ⟨⟨by show (0:Int)≤0; omega,o0⟩,rfl⟩ ?_)
 rintro ⟨out,x⟩ ⟨⟨x0,x1⟩,ho⟩
 dsimp only at x0 x1 ho
 show Ok (mT d (out,x)) _
 unfold mT
 dsimp only
 have fw:out.length≤401:=by rw [ho]; exact List.length_take_le _ _
 by_cases hx:x < d.aI.aA
 ·rw [ay hx,cond_true,aF]
  by_cases h4:(out.length:Int)≤400
  ·rw [ay h4,cond_true]
   have T:=DX hb x0 hx
   have hf:=VL T (cn:=false) (m:=401 - out.length) (by omega) (by omega)
   have hw:ai ((401:Int) - (out.length:Int))=((401 - out.length:Nat):Int):=by rw [cW (by omega) (by omega)]; omega
   rw [hw]
   refine oe (R5 hb x0 hx) (oe hf ?_)
   generalize hL:(kn (uE false (gq d x)) (gq d x) d (gq d x).aH.aA.toNat []).take (401 - out.length)=L
   have hLl:L.length≤401 - out.length:=by rw [← hL]; exact List.length_take_le _ _
   refine ol (fun z:List bD×Int=>(0≤z.2∧z.2≤L.length)∧z.1=out++(L.take z.2.toNat).map fun l=>bD.mk x l) (fun z=>(L.length - z.2).toNat) ⟨⟨by show (0:Int)≤0; omega,by show (0:Int)≤_; omega⟩,by show out=out++_; simp⟩ ?_
   rintro ⟨o2,i⟩ ⟨⟨i0,i1⟩,h2⟩
   dsimp only at i0 i1 h2
   show Ok (mS x L (o2,i)) _
   unfold mS
   dsimp only
   have h2l:o2.length=out.length+i.toNat:=by rw [h2,List.length_append,List.length_map,List.length_take]; omega
   refine od (fun hi=>?_) fun hi=>os ⟨rfl,?_⟩
   ·have hg:L[i.toNat]? = some L[i.toNat]:=List.getElem?_eq_getElem (by omega)
    refine oe (vm i0 hi) (fi (by omega) (by omega) (os ⟨⟨⟨?_,?_⟩,?_⟩,?_⟩))
    all_goals (try dsimp only)
    all_goals (try rw [w1 i0 hi (by omega)])
    ·omega
    ·omega
    ·rw [show (i+1).toNat=i.toNat+1 by omega,List.take_add_one,hg,List.map_append,← List.append_assoc,← h2]; rfl
    ·omega
   ·obtain rfl:i=L.length:=by omega
    refine os ⟨⟨⟨?_,?_⟩,?_⟩,?_⟩
    all_goals (try dsimp only)
    all_goals (try rw [w1 x0 hx (by omega)])
    ·omega
    ·omega
    ·have e1:sD d (x.toNat+1)=sD d x.toNat++(u5 d x).map fun l=>bD.mk x l:=by
      unfold sD
      rw [BC,List.flatMap_append,show ((x.toNat:Nat):Int)=x by omega]
      simp
     have hA:(sD d x.toNat).length=out.length:=by
      have:=congrArg List.length ho
      rw [List.length_take] at this
      omega
     rw [h2,Int.toNat_natCast,List.take_length,show (x+1).toNat=x.toNat+1 by omega,e1,List.take_append,← ho,← hL,List.map_take,hA]
     rfl
    ·omega
  ·rw [bm h4,cond_false]
   refine os ⟨rfl,os ?_⟩
   have hlen:out.length=401:=by omega
   have hle:401≤(sD d x.toNat).length:=by rw [ho,List.length_take] at hlen; omega
   rw [ho]
   unfold sD at hle ⊢
   unfold eh
   have VR:∃ r,ns d.aI.aA.toNat=ns x.toNat++r:=by
    refine ⟨(ns d.aI.aA.toNat).drop x.toNat,?_⟩
    have:(ns d.aI.aA.toNat).take x.toNat=ns x.toNat:=by
     unfold ns
     rw [← List.map_take,List.take_range]
     congr 2; omega
    rw [← this,List.take_append_drop]
   obtain ⟨r,hr⟩:=VR
   rw [hr,List.flatMap_append,List.take_append_of_le_length hle]
   exact rfl
 ·rw [bm hx,cond_false,aF,cond_false]
  obtain rfl:x=d.aI.aA:=by omega
  exact os ⟨rfl,os ho⟩
end
end Go.Proofs.YtgjbmjjihmfppaaGreat
namespace Go.Proofs.YtgjbmjjihmfppaaGreat
open Go Go.Li
set_option linter.unusedVariables false
set_option linter.unusedSectionVars false
set_option linter.unusedSimpArgs false
def Yx (d:aN) (x X:Int) (cs:List Int):Prop:=∀ i:Int,0≤i→i≤X→gi d.aI.aD (gi cs i)=x
section
variable {d:aN} (hb:jm d=true) {x:Int} (x0:0≤x) (x1:x < d.aI.aA)
include hb x0 x1
theorem R6 {R S:Type} {X:Int} {cs:List Int} (j:Ah (gq d x) cs) (hX:X < d.aH.aA) (hm:Yx d x X cs) {A B:Option (Out S R)}:Ev 2 1 (ah (fun s=>lC (ρ:=R) d X cs s) (0:Int)) (fun _=>A) (fun _=>B)=bif vD (gq d x) d X cs then A else B:=by
 have D:=js hb
 have cm:=D.c.m
 have al:=D.al
 have jl:(cs.length:Int)=d.aH.aA:=j.1
 refine (IT (n:=d.aH.aD.length) (vE (gq d x) d X cs) rfl (fun a ha=>?_) ?_).trans ?_
 ·have a1:(a:Int) < d.aH.aD.length:=by omega
  have kf:=D.c.fr (f:=(a:Int)) (by omega) a1
  have kt:=D.c.to (f:=(a:Int)) (by omega) a1
  have ka:=D.ar (a:=(a:Int)) (by omega) a1
  unfold lC
  rw [ay (by omega),cond_true,D.uj (by omega) a1,aF,D.c.jd (by omega) a1,aF,D.c.jh (by omega) a1,aF,bH (by omega)]
  have hb7:vE (gq d x) d X cs a=((if gi d.aH.To (a:Int) > gi d.aH.aD (a:Int) then gi d.aH.To (a:Int) else gi d.aH.aD (a:Int)) == X && !(rR (gq d x) d cs a)):=rfl
  rw [hb7]
  by_cases e:(if gi d.aH.To (a:Int) > gi d.aH.aD (a:Int) then gi d.aH.To (a:Int) else gi d.aH.aD (a:Int))=X
  ·have hle:gi d.aH.aD (a:Int)≤X∧gi d.aH.To (a:Int)≤X:=by split at e <;> omega
   have kF:=j.2 _ (gn (l:=cs) kf.1 (by omega))
   have kT:=j.2 _ (gn (l:=cs) kt.1 (by omega))
   rw [yn e,cond_true,bR (l:=cs) kf.1 (by omega),aF,D.d.qX kF.1 kF.2 ka.1 ka.2,aF,bR (l:=cs) kt.1 (by omega),aF,aF,
    MJ hb x0 x1 (by omega) a1 ⟨kT,hm _ kt.1 hle.2⟩]
   rfl
  ·rw [sZ e]; rfl
 ·unfold lC
  rw [bm (by omega),cond_false]
 ·unfold vD
  show (bif (ns d.aH.aD.length).any (vE (gq d x) d X cs) then B else A)=bif !((ns d.aH.aD.length).any (vE (gq d x) d X cs)) then A else B
  cases (ns d.aH.aD.length).any (vE (gq d x) d X cs) <;> rfl
section
variable {σ:Type} {fo:List Int→σ→Option (Bool×σ)}
theorem R7:∀ (k n:Nat) (p cs:List Int) (st:σ),Ah (gq d x) cs→Cn p cs→(∀ i:Int,0≤i→i < p.length→gi d.aI.aD (gi p i)=x)→((p.length+k:Nat):Int)=d.aH.aA→k < n→∀ y,sK fo (kn (fun _=>true) (gq d x) d k p) st=some y→
  ∃ gy,Ah (gq d x) gy∧Cn p gy∧eJ fo d x n (p.length:Int) cs st=some (y.1,gy,y.2):=by
 have D:=js hb
 have T:=DX hb x0 x1
 have co:=D.c.o8
 have dm:=D.d.m
 intro k
 induction k with
 | zero=>
  intro n p cs st j hp hm hk hn y hy
  obtain ⟨n,rfl⟩ : ∃ i,n=i+1:=⟨n - 1,by omega⟩
  have jl:(cs.length:Int)=d.aH.aA:=j.1
  have e:cs=p:=Hl (by omega) fun x x0 x1=>hp x x0 x1
  subst e
  refine ⟨cs,j,fun _ _ _=>rfl,?_⟩
  unfold eJ mC
  rw [yn (by omega),cond_true]
  have h1:(fo cs st>>=fun y=>bif !y.1 then some (false,y.2) else some (true,y.2))=some y:=hy
  cases hf:fo cs st with
  | none=>rw [hf] at h1; cases h1
  | some z=>
   rw [hf] at h1
   obtain ⟨b,z⟩:=z
   cases b <;> (cases h1; rfl)
 | succ k ih=>
  intro n p cs st j hp hm hk hn y hy
  obtain ⟨n,rfl⟩ : ∃ i,n=i+1:=⟨n - 1,by omega⟩
  have xX:(p.length:Int) < d.aH.aA:=by omega
  unfold eJ mC
  rw [sZ (by omega),cond_false,D.yo (by omega) xX,aF,VP D.d,aF]
  have ab1:gi (gq d x).aA (p.length:Int)=x:=xq (by omega) (by omega)
  generalize hl:(ns d.aI.aD.length).filter (qv d.aI x (gi d.aA p.length))=l
  have AI:∀ b∈l,(0≤b∧b < d.aI.aD.length)∧gi d.aI.aD b=x:=by
   intro b hb
   rw [← hl] at hb
   obtain ⟨h1,h2⟩:=List.mem_filter.1 hb
   unfold qv at h2
   simp only [Bool.and_eq_true,beq_iff_eq] at h2
   exact ⟨bu.1 h1,h2.1⟩
  have He:l.length≤d.aI.aD.length:=by rw [← hl]; exact Nat.le_trans (List.length_filter_le _ _) (by rw [cQ]; exact Nat.le_refl _)
  have sd:sK fo ((l.filter (xW (fun _=>true) (gq d x) d p)).flatMap fun b=>kn (fun _=>true) (gq d x) d k (p++[b])) st=some y:=by
   rw [← hl]
   have h2:sK fo ((((ns d.aI.aD.length).filter (qv d.aI (gi (gq d x).aA p.length) (gi d.aA p.length))).filter (xW (fun _=>true) (gq d x) d p)).flatMap fun b=>kn (fun _=>true) (gq d x) d k (p++[b])) st=some y:=hy
   rw [ab1] at h2
   exact h2
  have key:∀ (m:List Int) (i:Nat) (cs:List Int) (st:σ),l.drop i=m→i≤l.length→Ah (gq d x) cs→Cn p cs→∀ y,sK fo ((m.filter (xW (fun _=>true) (gq d x) d p)).flatMap fun b=>kn (fun _=>true) (gq d x) d k (p++[b])) st=some y→
    ∃ gy,Ah (gq d x) gy∧Cn p gy∧ah (fun s=>jG (eJ fo d x n) d p.length l s) ((i:Int),cs,st)=some (bif y.1 then .exit 0 ((l.length:Int),gy,y.2) else .ret (false,gy,y.2)):=by
   intro m
   induction m with
   | nil=>
    intro i cs st hd hi j hp y hy
    obtain rfl:i=l.length:=by have:=congrArg List.length hd; simp at this; omega
    cases hy
    refine ⟨cs,j,hp,mb ?_⟩
    unfold jG
    rw [bm (by omega),cond_false]
   | cons b m QN=>
    intro i cs st hd hi j hp y hy
    have bc:i < l.length:=by
     rcases Nat.lt_or_ge i l.length with h | h
     ·exact h
     ·rw [List.drop_eq_nil_of_le h] at hd; cases hd
    have hx:l[i]? = some b:=by
     rw [List.drop_eq_getElem_cons bc] at hd
     rw [List.getElem?_eq_getElem bc]; exact congrArg some (List.cons.inj hd).1
    have ib:l.drop (i+1)=m:=by rw [List.drop_eq_getElem_cons bc] at hd; exact (List.cons.inj hd).2
    have r9:=AI b (List.mem_of_getElem? hx)
    have jl:(cs.length:Int)=d.aH.aA:=j.1
    have j1:Ah (gq d x) (cs.set (p.length:Int).toNat b):=Ah.put T j (x:=(p.length:Int)) r9.1.1 r9.1.2
    have rE:∀ q:Int,0≤q→gi (cs.set (p.length:Int).toNat b) q=if q=(p.length:Int) then b else gi cs q:=fun q q0=>mg (by omega) (by omega) q0
    have rv:Cn p (cs.set (p.length:Int).toNat b):=fun q q0 q1=>by rw [rE q q0,if_neg (by omega)]; exact hp q q0 q1
    have VS:Cn (p++[b]) (cs.set (p.length:Int).toNat b):=fun q q0 q1=>by
     rw [List.length_append,List.length_singleton] at q1
     rw [rE q q0,j9 q0]
     by_cases e:q=(p.length:Int)
     ·rw [if_pos e,if_neg (by omega),if_pos e]
     ·rw [if_neg e,if_pos (by omega)]; exact hp q q0 (by omega)
    have Yy:∀ i:Int,0≤i→i < (p++[b]).length→gi d.aI.aD (gi (p++[b]) i)=x:=fun q q0 q1=>by
     rw [List.length_append,List.length_singleton] at q1
     rw [j9 q0]
     by_cases e:q < (p.length:Int)
     ·rw [if_pos e]; exact hm q q0 e
     ·rw [if_neg e,if_pos (by omega)]; exact r9.2
    have hmc:Yx d x p.length (cs.set (p.length:Int).toNat b):=fun q q0 q1=>by
     rw [VS q q0 (by rw [List.length_append,List.length_singleton]; omega)]
     exact Yy q q0 (by rw [List.length_append,List.length_singleton]; omega)
    have JP:vD (gq d x) d p.length (cs.set (p.length:Int).toNat b)=vD (gq d x) d p.length (p++[b]):=Kh T fun q q0 q1=>VS q q0 (by rw [List.length_append,List.length_singleton]; omega)
    have nx:jG (eJ fo d x n) d p.length l ((i:Int),cs,st) =
      (bif vD (gq d x) d p.length (p++[b]) then ((eJ fo d x n (((p++[b]).length:Nat):Int) (cs.set (p.length:Int).toNat b) st)>>=fun ML=>(bif !(ML.1) then (some (Out.ret (false,ML.2.1,ML.2.2))) else (some (Out.norm (((i+1:Nat):Int),ML.2.1,ML.2.2)))))
       else (some (Out.norm (((i+1:Nat):Int),cs.set (p.length:Int).toNat b,st)))):=by
     unfold jG
     dsimp only
     rw [ay (by omega),cond_true,dw,hx,aF,bR (l:=cs) (by omega) (by omega),aF,R6 hb x0 x1 j1 xX hmc,JP,bH (by omega),bH (by omega),List.length_append,List.length_singleton]
    rw [oh,nx]
    cases hf:vD (gq d x) d p.length (p++[b]) with
    | false=>
     have hq:xW (fun _=>true) (gq d x) d p b=false:=by unfold xW; rw [hf,Bool.and_false]
     rw [List.filter_cons_of_neg (by rw [hq]; decide)] at hy
     exact QN (i+1) _ st ib (by omega) j1 rv y hy
    | true=>
     have hq:xW (fun _=>true) (gq d x) d p b=true:=by unfold xW; rw [hf]; rfl
     rw [List.filter_cons_of_pos (by rw [hq]),List.flatMap_cons,Ph] at hy
     cases hr:sK fo (kn (fun _=>true) (gq d x) d k (p++[b])) st with
     | none=>rw [hr] at hy; cases hy
     | some z=>
      rw [hr,aF] at hy
      obtain ⟨xL,j2,nh,e2⟩:=ih n (p++[b]) _ st j1 VS Yy (by rw [List.length_append,List.length_singleton]; omega) (by omega) z hr
      have Yz:Cn p xL:=fun q q0 q1=>by rw [nh q q0 (by rw [List.length_append,List.length_singleton]; omega),j9 q0,if_pos q1]
      simp only [cond_true]
      rw [e2,aF]
      cases hz:z.1 with
      | false=>
       rw [hz] at hy
       cases hy
       exact ⟨xL,j2,Yz,rfl⟩
      | true=>
       rw [hz] at hy
       exact QN (i+1) xL z.2 ib (by omega) j2 Yz y hy
  obtain ⟨gy,j',ux,e⟩:=key l 0 cs st rfl (by omega) j hp y sd
  refine ⟨gy,j',ux,?_⟩
  rw [show ((0:Int),cs,st)=(((0:Nat):Int),cs,st) from rfl,e]
  obtain ⟨b,z⟩:=y
  cases b <;> rfl
theorem Pj {st:σ} {y:Bool×σ} (hy:sK fo (u5 d x) st=some y):pJ fo d x st=some y:=by
 have D:=js hb
 have co:=D.c.o8
 have c0:=D.c.o0
 have ol:=D.ol
 have j0:Ah (gq d x) (List.replicate d.aH.aA.toNat (0:Int)):=by
  refine ⟨by rw [List.length_replicate]; show ((d.aH.aA.toNat:Nat):Int)=d.aH.aA; omega,fun y hy=>?_⟩
  obtain ⟨h1,rfl⟩:=List.mem_replicate.1 hy
  have k:=D.d.id x0 x1
  show 0≤(0:Int)∧(0:Int) < d.aI.aD.length
  omega
 obtain ⟨gy,_,_,e⟩:=R7 hb x0 x1 d.aH.aA.toNat 64 [] _ st j0 (fun i i0 i1=>by simp at i1; omega) (fun i i0 i1=>by simp at i1; omega) (by simp; omega) (by omega) y hy
 unfold pJ
 have hn:d.aA.length=d.aH.aA.toNat:=by omega
 rw [Df (by omega) (by omega),aF,hn]
 have e':eJ fo d x 64 (0:Int) (List.replicate d.aH.aA.toNat 0) st=some (y.1,gy,y.2):=e
 rw [e',aF]
 rfl
end
theorem MN (l:List (List Int)) (hl:∀ c∈l,c.length≤1048576):∀ out:List bD,out.length≤400→sK (fun a0 a1=>dK a0 a1 x) l out=some (bif decide (out.length+l.length≤400) then (true,out++l.map fun l=>bD.mk x l) else (false,out++(l.take (401 - out.length)).map fun l=>bD.mk x l)):=by
 induction l with
 | nil=>intro out ho; rw [ay (by simpa using ho)]; show some (true,out)=some (true,out++[]); rw [List.append_nil]
 | cons c l ih=>
  intro out ho
  show (dK c out x>>=fun y=>bif !y.1 then some (false,y.2) else sK (fun a0 a1=>dK a0 a1 x) l y.2)=_
  have h1:dK c out x=some (decide (((out++[bD.mk x c]).length:Int)≤400),out++[bD.mk x c]):=by
   unfold dK
   rw [yP c (hl c (by simp)),aF,cV (by omega) (by omega),aF]
   rfl
  rw [h1,aF]
  by_cases h:out.length < 400
  ·rw [ay (by rw [List.length_append,List.length_singleton]; omega)]
   simp only [Bool.not_true,cond_false]
   rw [ih (fun c hc=>hl c (by simp [hc])) (out++[bD.mk x c]) (by rw [List.length_append,List.length_singleton]; omega)]
   have e:(out++[bD.mk x c]).length+l.length=out.length+(c :: l).length:=by simp; omega
   rw [e]
   by_cases h2:out.length+(c :: l).length≤400
   ·rw [ay h2]; simp
   ·rw [bm h2]
    simp only [cond_false]
    rw [show 401 - out.length=(401 - (out++[bD.mk x c]).length)+1 by simp; omega,List.take_succ_cons]
    simp
  ·have:out.length=400:=by omega
   rw [bm (by rw [List.length_append,List.length_singleton]; omega)]
   rw [bm (by simp; omega),this]
   simp
end
section
variable {d:aN} (hb:jm d=true)
include hb
theorem Pk {x:Int} (x0:0≤x) (x1:x < d.aI.aA):∀ c∈u5 d x,c.length≤1048576:=fun c hc=>by
 have h:=(EK hb x0 x1 hc).l
 have:=(js hb).c.o8
 dsimp only at h
 omega
theorem Pl {x:Nat} (hx:x≤d.aI.aA.toNat):∃ r,eh d=sD d x++r:=by
 refine ⟨((ns d.aI.aA.toNat).drop x).flatMap fun x=>(u5 d x).map fun l=>bD.mk x l,?_⟩
 have:(ns d.aI.aA.toNat).take x=ns x:=by
  unfold ns
  rw [← List.map_take,List.take_range]
  congr 2; omega
 unfold sD eh
 rw [← this,← List.flatMap_append,List.take_append_drop]
theorem EL:iJ d=some (bif decide ((eh d).length≤400) then (eh d,true) else ([],false)):=by
 have D:=js hb
 have o0:=D.d.o0
 have o8:=D.d.o8
 suffices h:Ok (iJ d) fun e=>e=bif decide ((eh d).length≤400) then (eh d,true) else ([],false) by
  obtain ⟨y,h1,h2⟩:=h
  rw [h1,h2]
 unfold iJ
 refine jr (ol (fun z:Int×List bD=>(0≤z.1∧z.1≤d.aI.aA)∧(z.2=sD d z.1.toNat∧z.2.length≤400)) (fun z=>(d.aI.aA - z.1).toNat) ⟨⟨by show (0:Int)≤0; omega,o0⟩,rfl,by show 0≤400; omega⟩ ?_)
 rintro ⟨x,out⟩ ⟨⟨x0,x1⟩,ho,hl⟩
 dsimp only at x0 x1 ho hl
 show Ok (mP d (x,out)) _
 unfold mP
 dsimp only
 refine od (fun hx=>?_) fun hx=>os ⟨rfl,os ?_⟩
 ·have e1:sD d (x.toNat+1)=sD d x.toNat++(u5 d x).map fun l=>bD.mk x l:=by
   unfold sD
   rw [BC,List.flatMap_append,show ((x.toNat:Nat):Int)=x by omega]
   simp
  refine oe (Pj hb x0 hx (MN hb x0 hx (u5 d x) (Pk hb x0 hx) out hl)) ?_
  by_cases h:out.length+(u5 d x).length≤400
  ·rw [ay h,cond_true]
   refine os ⟨⟨⟨?_,?_⟩,?_,?_⟩,?_⟩
   all_goals (try dsimp only)
   all_goals (try rw [w1 x0 hx (by omega)])
   ·omega
   ·omega
   ·rw [show (x+1).toNat=x.toNat+1 by omega,e1,ho]
   ·rw [List.length_append,List.length_map]; omega
   ·omega
  ·rw [bm h,cond_false]
   refine os ?_
   obtain ⟨r,hr⟩:=Pl hb (x:=x.toNat+1) (by omega)
   rw [bm (by rw [hr,List.length_append,e1,List.length_append,List.length_map,← ho]; omega)]
   exact rfl
 ·obtain rfl:x=d.aI.aA:=by omega
  have:eh d=out:=ho.symm
  rw [this,ay hl]; exact rfl
end
end Go.Proofs.YtgjbmjjihmfppaaGreat
