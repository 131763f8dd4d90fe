/- Cones: the list of all cones of a diagram, maps between cones, limits; what is known of them. No condition beside those that each theorem names. -/
import Derived.Test.YtbmchcnkbonmkaaGreatUq
import Derived.Test.YtbmchcnkbonmkaaGreatUr
namespace Go.Proofs.YtbmchcnkbonmkaaGreat
open Go Go.Li
set_option linter.unusedVariables false
set_option linter.unusedSectionVars false
set_option linter.unusedSimpArgs false
def gw (d:aJ) (x:Int):aJ:=aJ.mk d.aE d.aF (List.replicate d.aE.aA.toNat x) (List.replicate d.aE.aC.length (gi d.aF.aH x))
def wJ (d:aJ) (x:Int):List (List Int):=km (fun _=>true) (gw d x) d d.aE.aA.toNat []
def ef (d:aJ):List bD:=(ns d.aF.aA.toNat).flatMap fun x=>(wJ d x).map fun l=>bD.mk x l
def CK (d:aJ) (p q:bD) (u:Int):Bool:=(ns q.ay.length).all fun j=>gk d.aF.aB u (gi q.ay j) == gi p.ay j
def kh (d:aJ) (p q:bD):List Int:=((ns d.aF.aC.length).filter (p8 d.aF p.da q.da)).filter (CK d p q)
def jw (d:aJ) (l:List bD) (p:bD):Bool:=l.all fun q=>(kh d q p).length == 1
structure ox (d:aJ) (p:bD):Prop where
 x0:0≤p.da
 x1:p.da < d.aF.aA
 l:(p.ay.length:Int)=d.aE.aA
 v:∀ j:Int,0≤j→j < d.aE.aA→(0≤gi p.ay j∧gi p.ay j < d.aF.aC.length)∧gi d.aF.aC (gi p.ay j)=p.da∧gi d.aF.To (gi p.ay j)=gi d.aA j
 s:∀ a:Int,0≤a→a < d.aE.aC.length→gk d.aF.aB (gi p.ay (gi d.aE.aC a)) (gi d.ah a)=gi p.ay (gi d.aE.To a)
section
variable {d:aJ} (hb:fk d=true)
include hb
theorem F7 {x:Int} (x0:0≤x) (x1:x < d.aF.aA):D6 (gw d x) d:=by
 have D:=dq hb
 have k:=D.d.id x0 x1
 have kf:=D.d.uK x x0 x1
 have kt:=D.d.vL x x0 x1
 have o0:=D.c.o0
 have hO:∀ y:Int,0≤y→y < d.aE.aA→gi (gw d x).aA y=x:=fun y y0 y1=>za y0 (by omega)
 have hA:∀ a:Int,0≤a→a < d.aE.aC.length→gi (gw d x).ah a=gi d.aF.aH x:=fun a a0 a1=>za a0 a1
 have hf:fk (gw d x)=true:=by
  refine E4 (f:=gw d x) (w6 D.c) (w6 D.d) (by show ((List.replicate d.aE.aA.toNat x).length:Int)=d.aE.aA; rw [List.length_replicate]; omega) (List.length_replicate ..) (fun y hy=>?_) (fun y hy=>?_) (fun a a0 a1=>?_) (fun a a0 a1=>?_) (fun y y0 y1=>?_) fun a b a0 a1 b0 b1 e=>?_
  ·rw [(List.mem_replicate.1 hy).2]; exact ⟨x0,x1⟩
  ·rw [(List.mem_replicate.1 hy).2]; exact k
  ·have ka:=D.c.fr a0 a1
   rw [hA a a0 a1]
   exact kf.trans (hO _ ka.1 ka.2).symm
  ·have ka:=D.c.to a0 a1
   rw [hA a a0 a1]
   exact kt.trans (hO _ ka.1 ka.2).symm
  ·have ki:=D.c.id (x:=y) y0 y1
   rw [hO y y0 y1]
   exact hA _ ki.1 ki.2
  ·have kc:=D.c.cell a b a0 a1 b0 b1 e
   rw [hA a a0 a1,hA b b0 b1]
   refine (hA _ kc.1 kc.2.1).trans ?_
   have:=D.d.vN (gi d.aF.aH x) k.1 k.2
   rw [kf] at this
   exact this.symm
 exact ⟨dq hf,D,hf,hb,rfl,rfl⟩
theorem Pm {x:Int} (x0:0≤x) (x1:x < d.aF.aA) {cs:List Int} {a:Int} (a0:0≤a) (a1:a < d.aE.aC.length)
  (hv:(0≤gi cs (gi d.aE.To a)∧gi cs (gi d.aE.To a) < d.aF.aC.length)∧gi d.aF.aC (gi cs (gi d.aE.To a))=x) :
  tC (gw d x) d cs a=(gk d.aF.aB (gi cs (gi d.aE.aC a)) (gi d.ah a) == gi cs (gi d.aE.To a)):=by
 have D:=dq hb
 have h1:gi (gw d x).ah a=gi d.aF.aH x:=za a0 a1
 have:=D.d.vN _ hv.1.1 hv.1.2
 rw [hv.2] at this
 unfold tC
 rw [h1]
 show (gk d.aF.aB (gi d.aF.aH x) (gi cs (gi d.aE.To a)) == gk d.aF.aB (gi cs (gi d.aE.aC a)) (gi d.ah a))=_
 rw [this,Bool.eq_iff_iff,beq_iff_eq,beq_iff_eq]
 exact ⟨Eq.symm,Eq.symm⟩
theorem G7 {x:Int} (x0:0≤x) (x1:x < d.aF.aA) {l:List Int} (h:l∈wJ d x):ox d (bD.mk x l):=by
 have D:=dq hb
 have o0:=D.c.o0
 have T:=F7 hb x0 x1
 obtain ⟨h1,h2⟩:=xS T _ _ _ (CJ T) h
 have hl:(l.length:Int)=d.aE.aA:=by simp at h2; omega
 have hv:∀ j:Int,0≤j→j < d.aE.aA→(0≤gi l j∧gi l j < d.aF.aC.length)∧gi d.aF.aC (gi l j)=x∧gi d.aF.To (gi l j)=gi d.aA j:=fun j j0 j1=>by
  have:=h1.v j j0 (by omega)
  rw [show gi (gw d x).aA j=x from za j0 (by omega)] at this
  exact this
 refine ⟨x0,x1,hl,hv,fun a a0 a1=>?_⟩
 have kf:=D.c.fr a0 a1
 have kt:=D.c.to a0 a1
 have hs:=h1.s a a0 a1 (by have e1:(gw d x).aE=d.aE:=rfl; unfold w9; rw [e1]; split <;> omega)
 rw [Pm hb x0 x1 a0 a1 ⟨(hv _ kt.1 kt.2).1,(hv _ kt.1 kt.2).2.1⟩] at hs
 exact beq_iff_eq.1 hs
theorem wA {p:bD} (h:p∈ef d):ox d p:=by
 have o0:=(dq hb).d.o0
 obtain ⟨x,hx,h⟩:=List.mem_flatMap.1 h
 obtain ⟨l,hl,rfl⟩:=List.mem_map.1 h
 have:=bp.1 hx
 exact G7 hb this.1 (by omega) hl
theorem Ju {p q:bD} {u:Int}:u∈kh d p q↔((0≤u∧u < d.aF.aC.length)∧gi d.aF.aC u=p.da∧gi d.aF.To u=q.da)∧∀ j:Int,0≤j→j < q.ay.length→gk d.aF.aB u (gi q.ay j)=gi p.ay j:=by
 unfold kh CK
 rw [List.mem_filter,List.mem_filter,bp,List.all_eq_true]
 unfold p8
 simp only [Bool.and_eq_true,beq_iff_eq]
 exact ⟨fun ⟨⟨h1,h2⟩,h3⟩=>⟨⟨h1,h2⟩,fun j j0 j1=>h3 j (bp.2 ⟨j0,j1⟩)⟩,fun ⟨⟨h1,h2⟩,h3⟩=>⟨⟨h1,h2⟩,fun j hj=>h3 j (bp.1 hj).1 (bp.1 hj).2⟩⟩
theorem U3 {p:bD} (C:ox d p):gi d.aF.aH p.da∈kh d p p:=by
 have D:=dq hb
 have k:=D.d.id C.x0 C.x1
 have hl:=C.l
 refine (Ju hb).2 ⟨⟨k,D.d.uK _ C.x0 C.x1,D.d.vL _ C.x0 C.x1⟩,fun j j0 j1=>?_⟩
 have kv:=C.v j j0 (by omega)
 have:=D.d.vN _ kv.1.1 kv.1.2
 rw [kv.2.1] at this
 exact this
theorem Yf {p:bD} {l:List bD} (C:ox d p) (hp:p∈l) (hu:jw d l p=true):kh d p p=[gi d.aF.aH p.da]:=by
 have h1:=U3 hb C
 unfold jw at hu
 have h2:(kh d p p).length=1:=by have:=List.all_eq_true.1 hu p hp; simpa using this
 match h:kh d p p with
 | []=>rw [h] at h1; cases h1
 | [a]=>rw [h] at h1; rw [List.mem_singleton.1 h1]
 | a :: b :: m=>rw [h] at h2; simp at h2
end
end Go.Proofs.YtbmchcnkbonmkaaGreat
namespace Go.Proofs.YtbmchcnkbonmkaaGreat
open Go Go.Li
set_option linter.unusedVariables false
set_option linter.unusedSectionVars false
set_option linter.unusedSimpArgs false
theorem JC {c:aG} (C:mc c) {f g:Int} (h0:0≤f) (h1:f < c.aC.length) (h2:0≤g) (h3:g < c.aC.length):gO c f g=some (gk c.aB f g):=by
 unfold gO; rw [C.mm h0 h1,aD,C.l5 h0 h1 h2 h3,aD]; rfl
section
variable {d:aJ} (hb:fk d=true)
include hb
theorem JG {p q:bD} (P:ox d p) (Q:ox d q):oB d p q=some (kh d p q):=by
 have D:=dq hb
 have dm:=D.d.m
 have co:=D.c.o8
 have pl:=P.l
 have ql:=Q.l
 unfold oB
 rw [RR D.d,aD]
 unfold kh
 generalize hl:(ns d.aF.aC.length).filter (p8 d.aF p.da q.da)=l
 have Cj:∀ b∈l,0≤b∧b < d.aF.aC.length:=by intro b hb; rw [← hl] at hb; exact bp.1 (List.mem_filter.1 hb).1
 have CF:l.length≤d.aF.aC.length:=by rw [← hl]; exact Nat.le_trans (List.length_filter_le _ _) (by rw [bZ]; exact Nat.le_refl _)
 refine (congrArg ak (tX l (CK d p q) (fun acc i=>(acc,(i:Int))) rfl ?_ ?_)).trans rfl
 ·intro i u acc hu F5
  have hi:=bd hu
  have ku:=Cj u (List.mem_of_getElem? hu)
  show jL d p q l (acc,(i:Int))=_
  unfold jL
  dsimp only
  rw [aq (by omega),cond_true,bx,hu,aD,bH (show i < 9223372036854775807 by omega),cN (by omega) (by omega)]
  refine (Lq (n:=q.ay.length) (fun j=>!(gk d.aF.aB u (gi q.ay j) == gi p.ay j)) rfl (fun j hj=>?_) ?_).trans ?_
  ·unfold oJ
   have kq:=Q.v (j:Int) (by omega) (by omega)
   rw [aq (by omega),cond_true,bI (by omega) (by omega),aD,D.d.q9 ku.1 ku.2 kq.1.1 kq.1.2,aD,bI (by omega) (by omega),aD,bH (by omega)]
   rfl
  ·unfold oJ
   rw [ba (by omega),cond_false]
  ·rw [ov]
   show _=some (Out.norm (if CK d p q u then acc++[u] else acc,((i+1:Nat):Int)))
   unfold CK
   cases (ns q.ay.length).all fun j=>gk d.aF.aB u (gi q.ay j) == gi p.ay j <;> rfl
 ·intro acc
  show jL d p q l (acc,_)=_
  unfold jL
  dsimp only
  rw [ba (by omega),cond_false]
theorem JH {p q:bD} (P:ox d p) (Q:ox d q):pP d p q=some (kh d p q):=by
 have D:=dq hb
 have dm:=D.d.m
 have co:=D.c.o8
 have pl:=P.l
 have ql:=Q.l
 unfold pP
 rw [E5 D.d,aD]
 unfold kh
 generalize hl:(ns d.aF.aC.length).filter (p8 d.aF p.da q.da)=l
 have Cj:∀ b∈l,0≤b∧b < d.aF.aC.length:=by intro b hb; rw [← hl] at hb; exact bp.1 (List.mem_filter.1 hb).1
 have CF:l.length≤d.aF.aC.length:=by rw [← hl]; exact Nat.le_trans (List.length_filter_le _ _) (by rw [bZ]; exact Nat.le_refl _)
 refine (congrArg ak (tX l (CK d p q) (fun acc i=>(acc,(i:Int))) rfl ?_ ?_)).trans rfl
 ·intro i u acc hu F5
  have hi:=bd hu
  have ku:=Cj u (List.mem_of_getElem? hu)
  show jY d p q l acc (i:Int)=_
  unfold jY
  rw [aq (by omega),cond_true,bH (show i < 9223372036854775807 by omega),cN (by omega) (by omega)]
  have Iy:∃ j:Int,af (fun s:Bool×Int=>jX d p q l (i:Int) s.1 s.2) (true,(0:Int))=some (.exit 2 ((ns p.ay.length).all (fun j=>gk d.aF.aB u (gi q.ay j) == gi p.ay j),j)):=by
   refine G3 (R:=List Int) (k:=2) (n:=p.ay.length) (fun j=>gk d.aF.aB u (gi q.ay j) == gi p.ay j) (fun j hj=>?_) (fun j hj=>?_) ?_
   ·have kq:=Q.v (j:Int) (by omega) (by omega)
    unfold jX
    dsimp only
    rw [aq (by omega),cond_true,aD,cond_true,bx,hu,aD,bI (by omega) (by omega),aD,JC D.d ku.1 ku.2 kq.1.1 kq.1.2,aD,bI (by omega) (by omega),aD,bH (by omega)]
   ·unfold jX
    dsimp only
    cases decide ((j:Int) < (p.ay.length:Int)) <;> rfl
   ·unfold jX
    dsimp only
    rw [ba (by omega),cond_false]; rfl
  obtain ⟨j,hj⟩:=Iy
  rw [uh hj]
  show (bif _ then _ else _)=some (Out.norm (if CK d p q u then acc++[u] else acc,((i+1:Nat):Int)))
  unfold CK
  rw [show p.ay.length=q.ay.length by omega,bx,hu]
  cases (ns q.ay.length).all fun j=>gk d.aF.aB u (gi q.ay j) == gi p.ay j <;> rfl
 ·intro acc
  show jY d p q l acc _=_
  unfold jY
  rw [ba (by omega),cond_false]
theorem Lr {l:List bD} (hl:∀ q∈l,ox d q) (hm:l.length≤100000) {p:bD} (P:ox d p):jM d l p=some (jw d l p):=by
 unfold jM
 refine (congrArg ak (l4 l (fun q=>!((kh d q p).length == 1)) (y:=false) (e:=(l.length:Int)) (fun i=>(i:Int)) rfl (fun i q hq hp=>?_) (fun i q hq hp=>?_) ?_)).trans ?_
 ·have hi:=bd hq
  unfold jO
  rw [aq (by omega),cond_true,bx,hq,aD,JG hb (hl q (List.mem_of_getElem? hq)) P,aD,bH (by omega)]
  have h1:(kh d q p).length=1:=by simpa using hp
  rw [h1]; rfl
 ·have hi:=bd hq
  unfold jO
  rw [aq (by omega),cond_true,bx,hq,aD,JG hb (hl q (List.mem_of_getElem? hq)) P,aD,bH (by omega)]
  have h1:(kh d q p).length≠1:=by simpa using hp
  rw [show (((kh d q p).length:Int) != (1:Int))=true by rw [bne_iff_ne]; omega]; rfl
 ·unfold jO
  rw [ba (by omega),cond_false]
 ·unfold jw
  rw [ov]
  cases l.all fun q=>(kh d q p).length == 1 <;> rfl
theorem U4 {l:List bD} (hl:∀ q∈l,ox d q) (hm:l.length≤100000) {p:bD} (P:ox d p):kG d l p=some (jw d l p):=by
 unfold kG
 refine (congrArg ak (l4 l (fun q=>!((kh d q p).length == 1)) (y:=false) (e:=(l.length:Int)) (fun i=>(i:Int)) rfl (fun i q hq hp=>?_) (fun i q hq hp=>?_) ?_)).trans ?_
 ·have hi:=bd hq
  unfold iE
  rw [aq (by omega),cond_true,bx,hq,aD,JH hb (hl q (List.mem_of_getElem? hq)) P,aD,bH (by omega)]
  have h1:(kh d q p).length=1:=by simpa using hp
  rw [h1]; rfl
 ·have hi:=bd hq
  unfold iE
  rw [aq (by omega),cond_true,bx,hq,aD,JH hb (hl q (List.mem_of_getElem? hq)) P,aD,bH (by omega)]
  have h1:(kh d q p).length≠1:=by simpa using hp
  rw [show (((kh d q p).length:Int) != (1:Int))=true by rw [bne_iff_ne]; omega]; rfl
 ·unfold iE
  rw [ba (by omega),cond_false]
 ·unfold jw
  rw [ov]
  cases l.all fun q=>(kh d q p).length == 1 <;> rfl
theorem Lj {x:Int} (x0:0≤x) (x1:x < d.aF.aA):dF d.aE d.aF x=some (gw d x):=by
 have D:=dq hb
 have o0:=D.c.o0
 have o8:=D.c.o8
 have cm:=D.c.m
 suffices h:Ok (dF d.aE d.aF x) fun e=>e=gw d x by
  obtain ⟨y,h1,h2⟩:=h
  rw [h1,h2]
 unfold dF
 refine jb (ol (fun z:List Int×Int=>(0≤z.2∧z.2≤d.aE.aA)∧z.1=List.replicate z.2.toNat x) (fun z=>(d.aE.aA - z.2).toNat) ⟨⟨by show (0:Int)≤0; omega,o0⟩,rfl⟩ ?_)
 rintro ⟨l,i⟩ ⟨⟨i0,i1⟩,hl⟩
 dsimp only at i0 i1 hl
 have CF:l.length=i.toNat:=by rw [hl,List.length_replicate]
 show Ok (fR d.aE x l i) _
 unfold fR
 refine od (fun hi=>ew (by omega) (by omega) (os ⟨⟨⟨?_,?_⟩,?_⟩,?_⟩)) fun hi=>os ⟨rfl,?_⟩
 all_goals (try dsimp only)
 all_goals (try rw [w1 i0 hi (by omega)])
 ·omega
 ·omega
 ·rw [show (i+1).toNat=i.toNat+1 by omega,List.replicate_succ',hl]
 ·omega
 obtain rfl:i=d.aE.aA:=by omega
 refine ol (fun z:List Int×Int=>(0≤z.2∧z.2≤d.aE.aC.length)∧z.1=List.replicate z.2.toNat (gi d.aF.aH x)) (fun z=>(d.aE.aC.length - z.2).toNat) ⟨⟨by show (0:Int)≤0; omega,by show (0:Int)≤_; omega⟩,rfl⟩ ?_
 rintro ⟨l2,j⟩ ⟨⟨j0,j1⟩,sX⟩
 dsimp only at j0 j1 sX
 have aph:l2.length=j.toNat:=by rw [sX,List.length_replicate]
 show Ok (fS d.aE d.aF x l2 j) _
 unfold fS
 refine od (fun hj=>oe (D.d.qw x0 x1) (ew (by omega) (by omega) (os ⟨⟨⟨?_,?_⟩,?_⟩,?_⟩))) fun hj=>os ⟨rfl,?_⟩
 all_goals (try dsimp only)
 all_goals (try rw [w1 j0 hj (by omega)])
 ·omega
 ·omega
 ·rw [show (j+1).toNat=j.toNat+1 by omega,List.replicate_succ',sX]
 ·omega
 obtain rfl:j=d.aE.aC.length:=by omega
 refine oe (yZ (w7 D.c) (w7 D.d) (by omega) (by omega)) (os ?_)
 rw [hl,sX]; rfl
def uj (d:aJ) (x:Nat):List bD:=(ns x).flatMap fun x=>(wJ d x).map fun l=>bD.mk x l
theorem Pn:lK d=some ((ef d).take 401):=by
 have D:=dq hb
 have o0:=D.d.o0
 have o8:=D.d.o8
 suffices h:Ok (lK d) fun e=>e=(ef d).take 401 by
  obtain ⟨y,h1,h2⟩:=h
  rw [h1,h2]
 unfold lK
 refine jb (ol (fun z:List bD×Int=>(0≤z.2∧z.2≤d.aF.aA)∧z.1=(uj d z.2.toNat).take 401) (fun z=>(d.aF.aA - z.2).toNat) ⟨⟨by show (0:Int)≤0; omega,o0⟩,rfl⟩ ?_)
 rintro ⟨out,x⟩ ⟨⟨x0,x1⟩,ho⟩
 dsimp only at x0 x1 ho
 show Ok (oM d (out,x)) _
 unfold oM
 dsimp only
 have gp:out.length≤401:=by rw [ho]; exact List.length_take_le _ _
 by_cases hx:x < d.aF.aA
 ·rw [aq hx,cond_true,aD]
  by_cases h4:(out.length:Int)≤400
  ·rw [aq h4,cond_true]
   have T:=F7 hb x0 hx
   have hf:=Yx T (b9:=false) (m:=401 - out.length) (by omega) (by omega)
   have hw:aj ((401:Int) - (out.length:Int))=((401 - out.length:Nat):Int):=by rw [cV (by omega) (by omega)]; omega
   rw [hw]
   refine oe (Lj hb x0 hx) (oe hf ?_)
   generalize hL:(km (v8 false (gw d x)) (gw d x) d (gw d x).aE.aA.toNat []).take (401 - out.length)=L
   have hLl:L.length≤401 - out.length:=by rw [← hL]; exact List.length_take_le _ _
   refine ol (fun z:List bD×Int=>(0≤z.2∧z.2≤L.length)∧z.1=out++(L.take z.2.toNat).map fun l=>bD.mk x l) (fun z=>(L.length - z.2).toNat) ⟨⟨by show (0:Int)≤0; omega,by show (0:Int)≤_; omega⟩,by show out=out++_; simp⟩ ?_
   rintro ⟨o2,i⟩ ⟨⟨i0,i1⟩,h2⟩
   dsimp only at i0 i1 h2
   show Ok (oL x L (o2,i)) _
   unfold oL
   dsimp only
   have h2l:o2.length=out.length+i.toNat:=by rw [h2,List.length_append,List.length_map,List.length_take]; omega
   refine od (fun hi=>?_) fun hi=>os ⟨rfl,?_⟩
   ·have hg:L[i.toNat]? = some L[i.toNat]:=List.getElem?_eq_getElem (by omega)
    refine oe (uJ i0 hi) (ew (by omega) (by omega) (os ⟨⟨⟨?_,?_⟩,?_⟩,?_⟩))
    all_goals (try dsimp only)
    all_goals (try rw [w1 i0 hi (by omega)])
    ·omega
    ·omega
    ·rw [show (i+1).toNat=i.toNat+1 by omega,List.take_add_one,hg,List.map_append,← List.append_assoc,← h2]; rfl
    ·omega
   ·obtain rfl:i=L.length:=by omega
    refine os ⟨⟨⟨?_,?_⟩,?_⟩,?_⟩
    all_goals (try dsimp only)
    all_goals (try rw [w1 x0 hx (by omega)])
    ·omega
    ·omega
    ·have e1:uj d (x.toNat+1)=uj d x.toNat++(wJ d x).map fun l=>bD.mk x l:=by
      unfold uj
      rw [AF,List.flatMap_append,show ((x.toNat:Nat):Int)=x by omega]
      simp
     have hA:(uj d x.toNat).length=out.length:=by
      have:=congrArg List.length ho
      rw [List.length_take] at this
      omega
     rw [h2,Int.toNat_natCast,List.take_length,show (x+1).toNat=x.toNat+1 by omega,e1,List.take_append,← ho,← hL,List.map_take,hA]
     rfl
    ·omega
  ·rw [ba h4,cond_false]
   refine os ⟨rfl,os ?_⟩
   have hlen:out.length=401:=by omega
   have hle:401≤(uj d x.toNat).length:=by rw [ho,List.length_take] at hlen; omega
   rw [ho]
   unfold uj at hle ⊢
   unfold ef
   have Yz:∃ r,ns d.aF.aA.toNat=ns x.toNat++r:=by
    refine ⟨(ns d.aF.aA.toNat).drop x.toNat,?_⟩
    have:(ns d.aF.aA.toNat).take x.toNat=ns x.toNat:=by
     unfold ns
     rw [← List.map_take,List.take_range]
     congr 2; omega
    rw [← this,List.take_append_drop]
   obtain ⟨r,hr⟩:=Yz
   rw [hr,List.flatMap_append,List.take_append_of_le_length hle]
   exact rfl
 ·rw [ba hx,cond_false,aD,cond_false]
  obtain rfl:x=d.aF.aA:=by omega
  exact os ⟨rfl,os ho⟩
end
end Go.Proofs.YtbmchcnkbonmkaaGreat
namespace Go.Proofs.YtbmchcnkbonmkaaGreat
open Go Go.Li
set_option linter.unusedVariables false
set_option linter.unusedSectionVars false
set_option linter.unusedSimpArgs false
def Hm7 (d:aJ) (x X:Int) (cs:List Int):Prop:=∀ i:Int,0≤i→i≤X→gi d.aF.aC (gi cs i)=x
section
variable {d:aJ} (hb:fk d=true) {x:Int} (x0:0≤x) (x1:x < d.aF.aA)
include hb x0 x1
theorem U5 {R S:Type} {X:Int} {cs:List Int} (j:BX (gw d x) cs) (hX:X < d.aE.aA) (hm:Hm7 d x X cs) {A B:Option (Out S R)}:GL 2 1 (af (fun s=>mV (ρ:=R) d X cs s) (0:Int)) (fun _=>A) (fun _=>B)=bif xt (gw d x) d X cs then A else B:=by
 have D:=dq hb
 have cm:=D.c.m
 have al:=D.al
 have jl:(cs.length:Int)=d.aE.aA:=j.1
 refine (Lq (n:=d.aE.aC.length) (xu (gw d x) d X cs) rfl (fun a ha=>?_) ?_).trans ?_
 ·have a1:(a:Int) < d.aE.aC.length:=by omega
  have kf:=D.c.fr (f:=(a:Int)) (by omega) a1
  have kt:=D.c.to (f:=(a:Int)) (by omega) a1
  have ka:=D.ar (a:=(a:Int)) (by omega) a1
  unfold mV
  rw [aq (by omega),cond_true,D.uz (by omega) a1,aD,D.c.ji (by omega) a1,aD,D.c.jj (by omega) a1,aD,bH (by omega)]
  have hb7:xu (gw d x) d X cs a=((if gi d.aE.To (a:Int) > gi d.aE.aC (a:Int) then gi d.aE.To (a:Int) else gi d.aE.aC (a:Int)) == X && !(tC (gw d x) d cs a)):=rfl
  rw [hb7]
  by_cases e:(if gi d.aE.To (a:Int) > gi d.aE.aC (a:Int) then gi d.aE.To (a:Int) else gi d.aE.aC (a:Int))=X
  ·have hle:gi d.aE.aC (a:Int)≤X∧gi d.aE.To (a:Int)≤X:=by split at e <;> omega
   have kF:=j.2 _ (fj (l:=cs) kf.1 (by omega))
   have kT:=j.2 _ (fj (l:=cs) kt.1 (by omega))
   rw [yS e,cond_true,bI (l:=cs) kf.1 (by omega),aD,D.d.q9 kF.1 kF.2 ka.1 ka.2,aD,bI (l:=cs) kt.1 (by omega),aD,aD,
    Pm hb x0 x1 (by omega) a1 ⟨kT,hm _ kt.1 hle.2⟩]
   rfl
  ·rw [tV e]; rfl
 ·unfold mV
  rw [ba (by omega),cond_false]
 ·unfold xt
  show (bif (ns d.aE.aC.length).any (xu (gw d x) d X cs) then B else A)=bif !((ns d.aE.aC.length).any (xu (gw d x) d X cs)) then A else B
  cases (ns d.aE.aC.length).any (xu (gw d x) d X cs) <;> rfl
section
variable {σ:Type} {fo:List Int→σ→Option (Bool×σ)}
theorem U6:∀ (k n:Nat) (p cs:List Int) (st:σ),BX (gw d x) cs→D7 p cs→(∀ i:Int,0≤i→i < p.length→gi d.aF.aC (gi p i)=x)→((p.length+k:Nat):Int)=d.aE.aA→k < n→∀ y,uB fo (km (fun _=>true) (gw d x) d k p) st=some y→
  ∃ iz,BX (gw d x) iz∧D7 p iz∧fB fo d x n (p.length:Int) cs st=some (y.1,iz,y.2):=by
 have D:=dq hb
 have T:=F7 hb x0 x1
 have co:=D.c.o8
 have dm:=D.d.m
 intro k
 induction k with
 | zero=>
  intro n p cs st j hp hm hk hn y hy
  obtain ⟨n,rfl⟩ : ∃ i,n=i+1:=⟨n - 1,by omega⟩
  have jl:(cs.length:Int)=d.aE.aA:=j.1
  have e:cs=p:=AE (by omega) fun x x0 x1=>hp x x0 x1
  subst e
  refine ⟨cs,j,fun _ _ _=>rfl,?_⟩
  unfold fB oA
  rw [yS (by omega),cond_true]
  have h1:(fo cs st>>=fun y=>bif !y.1 then some (false,y.2) else some (true,y.2))=some y:=hy
  cases hf:fo cs st with
  | none=>rw [hf] at h1; cases h1
  | some z=>
   rw [hf] at h1
   obtain ⟨b,z⟩:=z
   cases b <;> (cases h1; rfl)
 | succ k ih=>
  intro n p cs st j hp hm hk hn y hy
  obtain ⟨n,rfl⟩ : ∃ i,n=i+1:=⟨n - 1,by omega⟩
  have xX:(p.length:Int) < d.aE.aA:=by omega
  unfold fB oA
  rw [tV (by omega),cond_false,D.Aa (by omega) xX,aD,RR D.d,aD]
  have ae1:gi (gw d x).aA (p.length:Int)=x:=za (by omega) (by omega)
  generalize hl:(ns d.aF.aC.length).filter (p8 d.aF x (gi d.aA p.length))=l
  have Cj:∀ b∈l,(0≤b∧b < d.aF.aC.length)∧gi d.aF.aC b=x:=by
   intro b hb
   rw [← hl] at hb
   obtain ⟨h1,h2⟩:=List.mem_filter.1 hb
   unfold p8 at h2
   simp only [Bool.and_eq_true,beq_iff_eq] at h2
   exact ⟨bp.1 h1,h2.1⟩
  have CF:l.length≤d.aF.aC.length:=by rw [← hl]; exact Nat.le_trans (List.length_filter_le _ _) (by rw [bZ]; exact Nat.le_refl _)
  have tT:uB fo ((l.filter (zK (fun _=>true) (gw d x) d p)).flatMap fun b=>km (fun _=>true) (gw d x) d k (p++[b])) st=some y:=by
   rw [← hl]
   have h2:uB fo ((((ns d.aF.aC.length).filter (p8 d.aF (gi (gw d x).aA p.length) (gi d.aA p.length))).filter (zK (fun _=>true) (gw d x) d p)).flatMap fun b=>km (fun _=>true) (gw d x) d k (p++[b])) st=some y:=hy
   rw [ae1] at h2
   exact h2
  have key:∀ (m:List Int) (i:Nat) (cs:List Int) (st:σ),l.drop i=m→i≤l.length→BX (gw d x) cs→D7 p cs→∀ y,uB fo ((m.filter (zK (fun _=>true) (gw d x) d p)).flatMap fun b=>km (fun _=>true) (gw d x) d k (p++[b])) st=some y→
    ∃ iz,BX (gw d x) iz∧D7 p iz∧af (fun s=>kQ (fB fo d x n) d p.length l s) ((i:Int),cs,st)=some (bif y.1 then .exit 0 ((l.length:Int),iz,y.2) else .ret (false,iz,y.2)):=by
   intro m
   induction m with
   | nil=>
    intro i cs st hd hi j hp y hy
    obtain rfl:i=l.length:=by have:=congrArg List.length hd; simp at this; omega
    cases hy
    refine ⟨cs,j,hp,mj ?_⟩
    unfold kQ
    rw [ba (by omega),cond_false]
   | cons b m Tu=>
    intro i cs st hd hi j hp y hy
    have bc:i < l.length:=by
     rcases Nat.lt_or_ge i l.length with h | h
     ·exact h
     ·rw [List.drop_eq_nil_of_le h] at hd; cases hd
    have hx:l[i]? = some b:=by
     rw [List.drop_eq_getElem_cons bc] at hd
     rw [List.getElem?_eq_getElem bc]; exact congrArg some (List.cons.inj hd).1
    have jk:l.drop (i+1)=m:=by rw [List.drop_eq_getElem_cons bc] at hd; exact (List.cons.inj hd).2
    have s6:=Cj b (List.mem_of_getElem? hx)
    have jl:(cs.length:Int)=d.aE.aA:=j.1
    have j1:BX (gw d x) (cs.set (p.length:Int).toNat b):=BX.put T j (x:=(p.length:Int)) s6.1.1 s6.1.2
    have tc:∀ q:Int,0≤q→gi (cs.set (p.length:Int).toNat b) q=if q=(p.length:Int) then b else gi cs q:=fun q q0=>iy (by omega) (by omega) q0
    have tJ:D7 p (cs.set (p.length:Int).toNat b):=fun q q0 q1=>by rw [tc q q0,if_neg (by omega)]; exact hp q q0 q1
    have YA:D7 (p++[b]) (cs.set (p.length:Int).toNat b):=fun q q0 q1=>by
     rw [List.length_append,List.length_singleton] at q1
     rw [tc q q0,j7 q0]
     by_cases e:q=(p.length:Int)
     ·rw [if_pos e,if_neg (by omega),if_pos e]
     ·rw [if_neg e,if_pos (by omega)]; exact hp q q0 (by omega)
    have hmb:∀ i:Int,0≤i→i < (p++[b]).length→gi d.aF.aC (gi (p++[b]) i)=x:=fun q q0 q1=>by
     rw [List.length_append,List.length_singleton] at q1
     rw [j7 q0]
     by_cases e:q < (p.length:Int)
     ·rw [if_pos e]; exact hm q q0 e
     ·rw [if_neg e,if_pos (by omega)]; exact s6.2
    have hmc:Hm7 d x p.length (cs.set (p.length:Int).toNat b):=fun q q0 q1=>by
     rw [YA q q0 (by rw [List.length_append,List.length_singleton]; omega)]
     exact hmb q q0 (by rw [List.length_append,List.length_singleton]; omega)
    have Mu:xt (gw d x) d p.length (cs.set (p.length:Int).toNat b)=xt (gw d x) d p.length (p++[b]):=M4 T fun q q0 q1=>YA q q0 (by rw [List.length_append,List.length_singleton]; omega)
    have nx:kQ (fB fo d x n) d p.length l ((i:Int),cs,st) =
      (bif xt (gw d x) d p.length (p++[b]) then ((fB fo d x n (((p++[b]).length:Nat):Int) (cs.set (p.length:Int).toNat b) st)>>=fun Po=>(bif !(Po.1) then (some (Out.ret (false,Po.2.1,Po.2.2))) else (some (Out.norm (((i+1:Nat):Int),Po.2.1,Po.2.2)))))
       else (some (Out.norm (((i+1:Nat):Int),cs.set (p.length:Int).toNat b,st)))):=by
     unfold kQ
     dsimp only
     rw [aq (by omega),cond_true,bx,hx,aD,bI (l:=cs) (by omega) (by omega),aD,U5 hb x0 x1 j1 xX hmc,Mu,bH (by omega),bH (by omega),List.length_append,List.length_singleton]
    rw [o4,nx]
    cases hf:xt (gw d x) d p.length (p++[b]) with
    | false=>
     have hq:zK (fun _=>true) (gw d x) d p b=false:=by unfold zK; rw [hf,Bool.and_false]
     rw [List.filter_cons_of_neg (by rw [hq]; decide)] at hy
     exact Tu (i+1) _ st jk (by omega) j1 tJ y hy
    | true=>
     have hq:zK (fun _=>true) (gw d x) d p b=true:=by unfold zK; rw [hf]; rfl
     rw [List.filter_cons_of_pos (by rw [hq]),List.flatMap_cons,R0] at hy
     cases hr:uB fo (km (fun _=>true) (gw d x) d k (p++[b])) st with
     | none=>rw [hr] at hy; cases hy
     | some z=>
      rw [hr,aD] at hy
      obtain ⟨zt,j2,o9,e2⟩:=ih n (p++[b]) _ st j1 YA hmb (by rw [List.length_append,List.length_singleton]; omega) (by omega) z hr
      have hp3:D7 p zt:=fun q q0 q1=>by rw [o9 q q0 (by rw [List.length_append,List.length_singleton]; omega),j7 q0,if_pos q1]
      simp only [cond_true]
      rw [e2,aD]
      cases hz:z.1 with
      | false=>
       rw [hz] at hy
       cases hy
       exact ⟨zt,j2,hp3,rfl⟩
      | true=>
       rw [hz] at hy
       exact Tu (i+1) zt z.2 jk (by omega) j2 hp3 y hy
  obtain ⟨iz,j',xy,e⟩:=key l 0 cs st rfl (by omega) j hp y tT
  refine ⟨iz,j',xy,?_⟩
  rw [show ((0:Int),cs,st)=(((0:Nat):Int),cs,st) from rfl,e]
  obtain ⟨b,z⟩:=y
  cases b <;> rfl
theorem R1 {st:σ} {y:Bool×σ} (hy:uB fo (wJ d x) st=some y):rB fo d x st=some y:=by
 have D:=dq hb
 have co:=D.c.o8
 have c0:=D.c.o0
 have ol:=D.ol
 have j0:BX (gw d x) (List.replicate d.aE.aA.toNat (0:Int)):=by
  refine ⟨by rw [List.length_replicate]; show ((d.aE.aA.toNat:Nat):Int)=d.aE.aA; omega,fun y hy=>?_⟩
  obtain ⟨h1,rfl⟩:=List.mem_replicate.1 hy
  have k:=D.d.id x0 x1
  show 0≤(0:Int)∧(0:Int) < d.aF.aC.length
  omega
 obtain ⟨iz,_,_,e⟩:=U6 hb x0 x1 d.aE.aA.toNat 64 [] _ st j0 (fun i i0 i1=>by simp at i1; omega) (fun i i0 i1=>by simp at i1; omega) (by simp; omega) (by omega) y hy
 unfold rB
 have hn:d.aA.length=d.aE.aA.toNat:=by omega
 rw [zF (by omega) (by omega),aD,hn]
 have e':fB fo d x 64 (0:Int) (List.replicate d.aE.aA.toNat 0) st=some (y.1,iz,y.2):=e
 rw [e',aD]
 rfl
end
theorem Pp (l:List (List Int)) (hl:∀ c∈l,c.length≤1048576):∀ out:List bD,out.length≤400→uB (fun a0 a1=>dK a0 a1 x) l out=some (bif decide (out.length+l.length≤400) then (true,out++l.map fun l=>bD.mk x l) else (false,out++(l.take (401 - out.length)).map fun l=>bD.mk x l)):=by
 induction l with
 | nil=>intro out ho; rw [aq (by simpa using ho)]; show some (true,out)=some (true,out++[]); rw [List.append_nil]
 | cons c l ih=>
  intro out ho
  show (dK c out x>>=fun y=>bif !y.1 then some (false,y.2) else uB (fun a0 a1=>dK a0 a1 x) l y.2)=_
  have h1:dK c out x=some (decide (((out++[bD.mk x c]).length:Int)≤400),out++[bD.mk x c]):=by
   unfold dK
   rw [AI c (hl c (by simp)),aD,cN (by omega) (by omega),aD]
   rfl
  rw [h1,aD]
  by_cases h:out.length < 400
  ·rw [aq (by rw [List.length_append,List.length_singleton]; omega)]
   simp only [Bool.not_true,cond_false]
   rw [ih (fun c hc=>hl c (by simp [hc])) (out++[bD.mk x c]) (by rw [List.length_append,List.length_singleton]; omega)]
   have e:(out++[bD.mk x c]).length+l.length=out.length+(c :: l).length:=by simp; omega
   rw [e]
   by_cases h2:out.length+(c :: l).length≤400
   ·rw [aq h2]; simp
   ·rw [ba h2]
    simp only [cond_false]
    rw [show 401 - out.length=(401 - (out++[bD.mk x c]).length)+1 by simp; omega,List.take_succ_cons]
    simp
  ·have:out.length=400:=by omega
   rw [ba (by rw [List.length_append,List.length_singleton]; omega)]
   rw [ba (by simp; omega),this]
   simp
end
section
variable {d:aJ} (hb:fk d=true)
include hb
theorem R2 {x:Int} (x0:0≤x) (x1:x < d.aF.aA):∀ c∈wJ d x,c.length≤1048576:=fun c hc=>by
 have h:=(G7 hb x0 x1 hc).l
 have:=(dq hb).c.o8
 dsimp only at h
 omega
theorem R3 {x:Nat} (hx:x≤d.aF.aA.toNat):∃ r,ef d=uj d x++r:=by
 refine ⟨((ns d.aF.aA.toNat).drop x).flatMap fun x=>(wJ d x).map fun l=>bD.mk x l,?_⟩
 have:(ns d.aF.aA.toNat).take x=ns x:=by
  unfold ns
  rw [← List.map_take,List.take_range]
  congr 2; omega
 unfold uj ef
 rw [← this,← List.flatMap_append,List.take_append_drop]
theorem CI:gZ d=some (bif decide ((ef d).length≤400) then (ef d,true) else ([],false)):=by
 have D:=dq hb
 have o0:=D.d.o0
 have o8:=D.d.o8
 suffices h:Ok (gZ d) fun e=>e=bif decide ((ef d).length≤400) then (ef d,true) else ([],false) by
  obtain ⟨y,h1,h2⟩:=h
  rw [h1,h2]
 unfold gZ
 refine jb (ol (fun z:Int×List bD=>(0≤z.1∧z.1≤d.aF.aA)∧(z.2=uj d z.1.toNat∧z.2.length≤400)) (fun z=>(d.aF.aA - z.1).toNat) ⟨⟨by show (0:Int)≤0; omega,o0⟩,rfl,by show 0≤400; omega⟩ ?_)
 rintro ⟨x,out⟩ ⟨⟨x0,x1⟩,ho,hl⟩
 dsimp only at x0 x1 ho hl
 show Ok (oI d (x,out)) _
 unfold oI
 dsimp only
 refine od (fun hx=>?_) fun hx=>os ⟨rfl,os ?_⟩
 ·have e1:uj d (x.toNat+1)=uj d x.toNat++(wJ d x).map fun l=>bD.mk x l:=by
   unfold uj
   rw [AF,List.flatMap_append,show ((x.toNat:Nat):Int)=x by omega]
   simp
  refine oe (R1 hb x0 hx (Pp hb x0 hx (wJ d x) (R2 hb x0 hx) out hl)) ?_
  by_cases h:out.length+(wJ d x).length≤400
  ·rw [aq h,cond_true]
   refine os ⟨⟨⟨?_,?_⟩,?_,?_⟩,?_⟩
   all_goals (try dsimp only)
   all_goals (try rw [w1 x0 hx (by omega)])
   ·omega
   ·omega
   ·rw [show (x+1).toNat=x.toNat+1 by omega,e1,ho]
   ·rw [List.length_append,List.length_map]; omega
   ·omega
  ·rw [ba h,cond_false]
   refine os ?_
   obtain ⟨r,hr⟩:=R3 hb (x:=x.toNat+1) (by omega)
   rw [ba (by rw [hr,List.length_append,e1,List.length_append,List.length_map,← ho]; omega)]
   exact rfl
 ·obtain rfl:x=d.aF.aA:=by omega
  have:ef d=out:=ho.symm
  rw [this,aq hl]; exact rfl
end
end Go.Proofs.YtbmchcnkbonmkaaGreat
