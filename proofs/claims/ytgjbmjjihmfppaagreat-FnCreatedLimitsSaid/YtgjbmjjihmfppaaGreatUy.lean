/- The image of a cone under a functor is a cone of the image of the diagram. No condition beside those that each theorem names. -/
import Derived.Test.YtgjbmjjihmfppaaGreatUs
import Derived.Test.YtgjbmjjihmfppaaGreatUw
import Derived.Test.YtgjbmjjihmfppaaGreatPj
namespace Go.Proofs.YtgjbmjjihmfppaaGreat
open Go Go.Li
set_option linter.unusedVariables false
set_option linter.unusedSectionVars false
set_option linter.unusedSimpArgs false
def dv (f:aI) (p:aZ):aZ:=aZ.mk (gi f.aA p.cn) (thenS p.bb f.ab)
theorem sZ {d f:aI} (hd:cw d=true) (hf:cw f=true) (e:d.aD=f.aC) {p:aZ} (P:ei d p):ei (aw d f) (dv f p):=by
 have D:=dg hd
 have F:=dg hf
 have pl:=P.l
 have ol:=D.ol
 have al:=D.al
 have hL:∀ j:Int,0≤j→j < d.aC.aA→gi (thenS p.bb f.ab) j=gi f.ab (gi p.bb j):=fun j j0 j1=>mi j0 (by omega)
 have hv:∀ j:Int,0≤j→j < d.aC.aA→(0≤gi p.bb j∧gi p.bb j < f.aC.aE.length)∧gi f.aC.aE (gi p.bb j)=p.cn∧gi f.aC.To (gi p.bb j)=gi d.aA j:=fun j j0 j1=>by rw [← e]; exact P.v j j0 j1
 have ka:=F.ob (x:=p.cn) P.x0 (by rw [← e]; exact P.x1)
 refine ⟨ka.1,ka.2,by show ((thenS p.bb f.ab).length:Int)=_; rw [o7]; exact pl,fun j j0 j1=>?_,fun a a0 a1=>?_⟩
 ·replace j1:j < d.aC.aA:=j1
  have k:=hv j j0 j1
  have kr:=F.ar k.1.1 k.1.2
  show (0≤gi (thenS p.bb f.ab) j∧gi (thenS p.bb f.ab) j < f.aD.aE.length)∧gi f.aD.aE (gi (thenS p.bb f.ab) j)=gi f.aA p.cn∧gi f.aD.To (gi (thenS p.bb f.ab) j)=gi (thenS d.aA f.aA) j
  rw [hL j j0 j1,F.fr _ k.1.1 k.1.2,F.to _ k.1.1 k.1.2,k.2.1,k.2.2,mi j0 (by omega)]
  exact ⟨kr,rfl,rfl⟩
 ·replace a1:a < d.aC.aE.length:=a1
  have kf:=D.c.fr a0 a1
  have kt:=D.c.to a0 a1
  have k:=hv _ kf.1 kf.2
  have kA:=D.ar a0 a1
  have hs:=P.s a a0 a1
  show gk f.aD.aB (gi (thenS p.bb f.ab) (gi d.aC.aE a)) (gi (thenS d.ab f.ab) a)=gi (thenS p.bb f.ab) (gi d.aC.To a)
  rw [hL _ kf.1 kf.2,hL _ kt.1 kt.2,mi a0 (by omega),← F.co _ _ k.1.1 k.1.2 kA.1 (by rw [← e]; exact kA.2) (by rw [k.2.2,← e,D.fr a a0 a1]),← hs,e]
end Go.Proofs.YtgjbmjjihmfppaaGreat
namespace Go.Proofs.YtgjbmjjihmfppaaGreat
open Go Go.Li
set_option linter.unusedVariables false
set_option linter.unusedSectionVars false
set_option linter.unusedSimpArgs false
def M7 (d f:aI):Bool×Int:=bif decide ((ak d).length≤400) && decide ((ak (aw d f)).length≤400) then
 (match (ak d).find? (cf d (ak d)) with | some p=>(cf (aw d f) (ak (aw d f)) (dv f p),0) | none=>(false,4)) else (false,3)
def Hv (d f:aI):Bool×Int:=bif cw d && cw f then (bif tG d.aD f.aC then M7 d f else (false,5)) else (false,1)
section
variable {d f:aI} (hd:cw d=true) (hf:cw f=true) (e:d.aD=f.aC)
include hd hf e
theorem Lt {p:aZ} (P:ei d p):p.bb.length≤1048576∧∀ x∈p.bb,0≤x∧x < f.ab.length:=by
 have D:=dg hd
 have F:=dg hf
 have pl:=P.l
 have o8:=D.c.o8
 refine ⟨by omega,fun x hx=>?_⟩
 obtain ⟨i,hi,rfl⟩:=List.mem_iff_getElem.1 hx
 replace hi:i < p.bb.length:=hi
 have:=(P.v (i:Int) (by omega) (by omega)).1
 unfold gi at this
 rw [List.getD_eq_getElem?_getD,Int.toNat_natCast,List.getElem?_eq_getElem hi,e] at this
 rw [F.al]
 exact this
theorem Gb {p:aZ} (P:ei d p):kQ p f=some (dv f p):=by
 have F:=dg hf
 obtain ⟨h1,h2⟩:=Lt hd hf e P
 unfold kQ
 rw [F.zd P.x0 (by rw [← e]; exact P.x1),aF,Ea _ _ h1 h2,aF]; rfl
theorem UP {p:aZ} (P:ei d p):nS p f=some (dv f p):=by
 have F:=dg hf
 obtain ⟨h1,h2⟩:=Lt hd hf e P
 unfold nS
 rw [F.zd P.x0 (by rw [← e]; exact P.x1),aF,CT _ _ h1 h2,aF]; rfl
theorem R0 (h:(ak d).length≤400) {m:List aZ}:kD (eB.mk d (aw d f) f (ak d) m)=some ((ak d).filter (cf d (ak d))):=by
 have hC:∀ q∈ak d,ei d q:=fun q hq=>lj hd hq
 unfold kD
 generalize hl:ak d=l at h hC ⊢
 refine (congrArg ao (l6 l (fun i=>((l.take i).filter (cf d l),(i:Int))) rfl (fun i p hp=>?_) (e:=(l.filter (cf d l),(l.length:Int))) ?_)).trans rfl
 ·have hi:=bg hp
  show fW (eB.mk d (aw d f) f l m) ((l.take i).filter (cf d l),(i:Int))=_
  unfold fW
  dsimp only
  have GD:((l.take i).filter (cf d l)).length≤400:=Nat.le_trans (List.length_filter_le _ _) (by rw [List.length_take]; omega)
  rw [av (by omega),cond_true,bp,hp,aF,vl hd hC (by omega) (hC p (List.mem_of_getElem? hp)),aF,bQ (by omega),dH (by omega) (by omega)]
  have e1:(l.take (i+1)).filter (cf d l)=(l.take i).filter (cf d l)++(if cf d l p then [p] else []):=by
   rw [List.take_add_one,hp,List.filter_append]
   congr 1
   show List.filter (cf d l) [p]=_
   rw [List.filter_cons]
   cases cf d l p <;> rfl
  rw [e1]
  cases cf d l p with
  | false=>rw [if_neg (by decide),List.append_nil]; rfl
  | true=>rfl
 ·show fW (eB.mk d (aw d f) f l m) ((l.take l.length).filter (cf d l),(l.length:Int))=_
  unfold fW
  dsimp only
  rw [bc (by omega),cond_false,List.take_length]
end
theorem Pq {d f:aI} (ds:fg d) (fs:fg f):lX d f=some (Hv d f):=by
 unfold lX qB kP Hv M7
 have hsm:∀ c∈[d,f],fg c:=fun c hc=>by
  rcases List.mem_cons.1 hc with rfl | hc
  ·exact ds
  ·rw [List.mem_singleton.1 hc]; exact fs
 rw [z7 [d,f] (by simp) hsm,aF]
 have dw:[d,f].all cw=(cw d && cw f):=by simp
 rw [dw]
 cases hb:cw d && cw f with
 | false=>rfl
 | true=>
  rw [Bool.and_eq_true] at hb
  obtain ⟨hd,hf⟩:=hb
  simp only [Bool.not_true,cond_false,cond_true]
  rw [z6 ds.t,aF]
  cases hs:tG d.aD f.aC with
  | false=>rfl
  | true=>
   have e:=wK.1 hs
   have he:=n9 hd hf e
   simp only [Bool.not_true,cond_false,cond_true]
   unfold mI
   rw [CO (dg hd).toFHead (dg hf).toFHead e ds fs,aF,xr hd,aF,xr he,aF]
   by_cases h1:(ak d).length≤400
   ·rw [av h1]
    by_cases h2:(ak (aw d f)).length≤400
    ·rw [av h2]
     simp only [cond_true,Bool.and_self]
     show ao (S:=Unit) (ao (S:=Unit) (lH (eB.mk d (aw d f) f (ak d) (ak (aw d f)))>>=fun zG=>(bif !(zG.2) then (some (Out.ret (false,(4:Int)))) else (some (Out.ret (zG.1,(0:Int))))))>>=fun nn=>(some (Out.ret ((nn.1,nn.2)))))=_
     unfold lH
     rw [R0 hd hf e h1,aF]
     have hh:((ak d).filter (cf d (ak d))).head? = (ak d).find? (cf d (ak d)):=List.head?_filter ..
     cases hF:(ak d).filter (cf d (ak d)) with
     | nil=>rw [hF] at hh; rw [← hh]; rfl
     | cons p l=>
      rw [hF] at hh
      rw [← hh]
      have hp:p∈ak d:=(List.mem_filter.1 (by rw [hF]; simp)).1
      have P:=lj hd hp
      rw [show (((p :: l).length:Int) == (0:Int))=false by rw [beq_eq_false_iff_ne]; simp; omega,cond_false,show idx (p :: l) (0:Int)=some p from rfl,aF]
      unfold fH
      rw [Gb hd hf e P,aF,vl he (fun q hq=>lj he hq) (by omega) (sZ hd hf e P),aF]
      rfl
    ·rw [bc h2]; rfl
   ·rw [bc h1]; rfl
end Go.Proofs.YtgjbmjjihmfppaaGreat
namespace Go.Proofs.YtgjbmjjihmfppaaGreat
open Go Go.Li
set_option linter.unusedVariables false
set_option linter.unusedSectionVars false
set_option linter.unusedSimpArgs false
section
variable {d:aI} (hb:cw d=true)
include hb
end
section
variable {x:List Int} (B:AI x) {s:aK} (S:Src x s)
include B S
theorem Yl:Ok (mD s) fun y=>(fg y.1∧fg y.2.1)∧Src x y.2.2:=by
 unfold mD
 refine jy (ob (Z7 B S) fun d hd=>ob (fh B (S.on hd.2) _) fun n hn=>?_)
 have S1:Src x (aK.mk s.Code n.2.At n.2.au):=S.on hn.2
 refine oc (fun _=>ob (Ge B S1) fun f hf=>os ⟨⟨hd.1,hf.1⟩,S.on hf.2⟩) fun _=>oe (CP hd.1) (oc (fun _=>ob (Ge B S1) fun f hf=>os ⟨⟨hd.1,hf.1⟩,S.on hf.2⟩) fun hz=>?_)
 have F:=dg (show cw d.1=true by simpa using hz)
 have T:=Ym F.d
 refine ob (fh B S1 _) fun m hm=>oc (fun _=>ob (AJ T) fun f hf=>os ⟨⟨hd.1,hf.1.small T T⟩,S.on hm.2⟩) fun _=>ob (JI B (S.on hm.2)) fun c hc=>ob (Gc T hc.1) fun b _=>?_
 have S2:Src x (aK.mk s.Code c.2.At c.2.au):=S.on hc.2
 have fin:Ok (jB (aK.mk s.Code c.2.At c.2.au) d.1.aD 4 10) fun y=>fg y.1∧Src x y.2:=(Tw B S2 T (by omega) (by omega)).mono fun y hy=>by
  obtain ⟨⟨e,U,F2,_⟩,S3⟩:=hy
  exact ⟨F2.small T U,S3⟩
 exact oc (fun _=>ob (Ht T hc.1) fun l hl=>od (fun hp=>ob (fh B S2 _) fun u hu=>oi hu.1.1 (hu.1.2 (by omega)) fun g hg=>os ⟨⟨hd.1,(hl.2.1 g hg).small T hc.1⟩,S.on hu.2⟩) fun _=>ob fin fun g hg=>os ⟨⟨hd.1,hg.1⟩,S.on hg.2⟩) fun _=>ob fin fun g hg=>os ⟨⟨hd.1,hg.1⟩,S.on hg.2⟩
end
end Go.Proofs.YtgjbmjjihmfppaaGreat
