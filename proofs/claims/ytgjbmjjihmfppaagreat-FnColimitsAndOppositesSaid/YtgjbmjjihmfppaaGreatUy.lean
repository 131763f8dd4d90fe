/- The image of a cone under a functor is a cone of the image of the diagram. No condition beside those that each theorem names. -/
import Derived.Test.YtgjbmjjihmfppaaGreatUs
import Derived.Test.YtgjbmjjihmfppaaGreatUw
import Derived.Test.YtgjbmjjihmfppaaGreatPj
namespace Go.Proofs.YtgjbmjjihmfppaaGreat
open Go Go.Li
set_option linter.unusedVariables false
set_option linter.unusedSectionVars false
set_option linter.unusedSimpArgs false
def rz (f:aI) (p:bG):bG:=bG.mk (gi f.aA p.dy) (thenS p.br f.ab)
theorem yI {d f:aI} (hd:bx d=true) (hf:bx f=true) (e:d.aE=f.aC) {p:bG} (P:j7 d p):j7 (bb d f) (rz f p):=by
 have D:=dh hd
 have F:=dh hf
 have pl:=P.l
 have ol:=D.ol
 have al:=D.al
 have hL:∀ j:Int,0≤j→j < d.aC.aA→gi (thenS p.br f.ab) j=gi f.ab (gi p.br j):=fun j j0 j1=>yM j0 (by omega)
 have hv:∀ j:Int,0≤j→j < d.aC.aA→(0≤gi p.br j∧gi p.br j < f.aC.aD.length)∧gi f.aC.aD (gi p.br j)=p.dy∧gi f.aC.To (gi p.br j)=gi d.aA j:=fun j j0 j1=>by rw [← e]; exact P.v j j0 j1
 have ka:=F.ob (x:=p.dy) P.x0 (by rw [← e]; exact P.x1)
 refine ⟨ka.1,ka.2,by show ((thenS p.br f.ab).length:Int)=_; rw [tM]; exact pl,fun j j0 j1=>?_,fun a a0 a1=>?_⟩
 ·replace j1:j < d.aC.aA:=j1
  have k:=hv j j0 j1
  have kr:=F.ar k.1.1 k.1.2
  show (0≤gi (thenS p.br f.ab) j∧gi (thenS p.br f.ab) j < f.aE.aD.length)∧gi f.aE.aD (gi (thenS p.br f.ab) j)=gi f.aA p.dy∧gi f.aE.To (gi (thenS p.br f.ab) j)=gi (thenS d.aA f.aA) j
  rw [hL j j0 j1,F.fr _ k.1.1 k.1.2,F.to _ k.1.1 k.1.2,k.2.1,k.2.2,yM j0 (by omega)]
  exact ⟨kr,rfl,rfl⟩
 ·replace a1:a < d.aC.aD.length:=a1
  have kf:=D.c.fr a0 a1
  have kt:=D.c.to a0 a1
  have k:=hv _ kf.1 kf.2
  have kA:=D.ar a0 a1
  have hs:=P.s a a0 a1
  show gk f.aE.aB (gi (thenS p.br f.ab) (gi d.aC.aD a)) (gi (thenS d.ab f.ab) a)=gi (thenS p.br f.ab) (gi d.aC.To a)
  rw [hL _ kf.1 kf.2,hL _ kt.1 kt.2,yM a0 (by omega),← F.co _ _ k.1.1 k.1.2 kA.1 (by rw [← e]; exact kA.2) (by rw [k.2.2,← e,D.fr a a0 a1]),← hs,e]
end Go.Proofs.YtgjbmjjihmfppaaGreat
namespace Go.Proofs.YtgjbmjjihmfppaaGreat
open Go Go.Li
set_option linter.unusedVariables false
set_option linter.unusedSectionVars false
set_option linter.unusedSimpArgs false
def uq (d f:aI):Bool×Int:=bif decide ((ao d).length≤400) && decide ((ao (bb d f)).length≤400) then
 (match (ao d).find? (er d (ao d)) with | some p=>(er (bb d f) (ao (bb d f)) (rz f p),0) | none=>(false,4)) else (false,3)
def G9 (d f:aI):Bool×Int:=bif bx d && bx f then (bif o7 d.aE f.aC then uq d f else (false,5)) else (false,1)
section
variable {d f:aI} (hd:bx d=true) (hf:bx f=true) (e:d.aE=f.aC)
include hd hf e
theorem K3 {p:bG} (P:j7 d p):p.br.length≤1048576∧∀ x∈p.br,0≤x∧x < f.ab.length:=by
 have D:=dh hd
 have F:=dh hf
 have pl:=P.l
 have o8:=D.c.o8
 refine ⟨by omega,fun x hx=>?_⟩
 obtain ⟨i,hi,rfl⟩:=List.mem_iff_getElem.1 hx
 replace hi:i < p.br.length:=hi
 have:=(P.v (i:Int) (by omega) (by omega)).1
 unfold gi at this
 rw [List.getD_eq_getElem?_getD,Int.toNat_natCast,List.getElem?_eq_getElem hi,e] at this
 rw [F.al]
 exact this
theorem FC {p:bG} (P:j7 d p):kZ p f=some (rz f p):=by
 have F:=dh hf
 obtain ⟨h1,h2⟩:=K3 hd hf e P
 unfold kZ
 rw [F.yJ P.x0 (by rw [← e]; exact P.x1),aF,DO _ _ h1 h2,aF]; rfl
theorem Uj {p:bG} (P:j7 d p):nY p f=some (rz f p):=by
 have F:=dh hf
 obtain ⟨h1,h2⟩:=K3 hd hf e P
 unfold nY
 rw [F.yJ P.x0 (by rw [← e]; exact P.x1),aF,Cs _ _ h1 h2,aF]; rfl
theorem Jk (h:(ao d).length≤400) {m:List bG}:kM (dZ.mk d (bb d f) f (ao d) m)=some ((ao d).filter (er d (ao d))):=by
 have hC:∀ q∈ao d,j7 d q:=fun q hq=>ta hd hq
 unfold kM
 generalize hl:ao d=l at h hC ⊢
 refine (congrArg ak (pq l (fun i=>((l.take i).filter (er d l),(i:Int))) rfl (fun i p hp=>?_) (e:=(l.filter (er d l),(l.length:Int))) ?_)).trans rfl
 ·have hi:=bj hp
  show gA (dZ.mk d (bb d f) f l m) ((l.take i).filter (er d l),(i:Int))=_
  unfold gA
  dsimp only
  have Gf:((l.take i).filter (er d l)).length≤400:=Nat.le_trans (List.length_filter_le _ _) (by rw [List.length_take]; omega)
  rw [av (by omega),cond_true,bu,hp,aF,we hd hC (by omega) (hC p (List.mem_of_getElem? hp)),aF,bR (by omega),dK (by omega) (by omega)]
  have e1:(l.take (i+1)).filter (er d l)=(l.take i).filter (er d l)++(if er d l p then [p] else []):=by
   rw [List.take_add_one,hp,List.filter_append]
   congr 1
   show List.filter (er d l) [p]=_
   rw [List.filter_cons]
   cases er d l p <;> rfl
  rw [e1]
  cases er d l p with
  | false=>rw [if_neg (by decide),List.append_nil]; rfl
  | true=>rfl
 ·show gA (dZ.mk d (bb d f) f l m) ((l.take l.length).filter (er d l),(l.length:Int))=_
  unfold gA
  dsimp only
  rw [aX (by omega),cond_false,List.take_length]
end
theorem OJ {d f:aI} (ds:dj d) (fs:dj f):mE d f=some (G9 d f):=by
 unfold mE jA fM G9 uq
 have hsm:∀ c∈[d,f],dj c:=fun c hc=>by
  rcases List.mem_cons.1 hc with rfl | hc
  ·exact ds
  ·rw [List.mem_singleton.1 hc]; exact fs
 rw [wC [d,f] (by simp) hsm,aF]
 have du:[d,f].all bx=(bx d && bx f):=by simp
 rw [du]
 cases hb:bx d && bx f with
 | false=>rfl
 | true=>
  rw [Bool.and_eq_true] at hb
  obtain ⟨hd,hf⟩:=hb
  simp only [Bool.not_true,cond_false,cond_true]
  rw [wB ds.t,aF]
  cases hs:o7 d.aE f.aC with
  | false=>rfl
  | true=>
   have e:=sN.1 hs
   have he:=sO hd hf e
   simp only [Bool.not_true,cond_false,cond_true]
   unfold jL
   rw [zn (dh hd).toFHead (dh hf).toFHead e ds fs,aF,sm hd,aF,sm he,aF]
   by_cases h1:(ao d).length≤400
   ·rw [av h1]
    by_cases h2:(ao (bb d f)).length≤400
    ·rw [av h2]
     simp only [cond_true,Bool.and_self]
     show ak (S:=Unit) (ak (S:=Unit) (fL (dZ.mk d (bb d f) f (ao d) (ao (bb d f)))>>=fun vq=>(bif !(vq.2) then (some (Out.ret (false,(4:Int)))) else (some (Out.ret (vq.1,(0:Int))))))>>=fun lh=>(some (Out.ret ((lh.1,lh.2)))))=_
     unfold fL
     rw [Jk hd hf e h1,aF]
     have hh:((ao d).filter (er d (ao d))).head? = (ao d).find? (er d (ao d)):=List.head?_filter ..
     cases hF:(ao d).filter (er d (ao d)) with
     | nil=>rw [hF] at hh; rw [← hh]; rfl
     | cons p l=>
      rw [hF] at hh
      rw [← hh]
      have hp:p∈ao d:=(List.mem_filter.1 (by rw [hF]; simp)).1
      have P:=ta hd hp
      rw [show (((p :: l).length:Int) == (0:Int))=false by rw [beq_eq_false_iff_ne]; simp; omega,cond_false,show idx (p :: l) (0:Int)=some p from rfl,aF]
      unfold fN
      rw [FC hd hf e P,aF,we he (fun q hq=>ta he hq) (by omega) (yI hd hf e P),aF]
      rfl
    ·rw [aX h2]; rfl
   ·rw [aX h1]; rfl
theorem OH {d f:aI} (hd:bx d=true) (hf:bx f=true) (e:d.aE=f.aC):jS d (bb d f) f=some (uq d f):=by
 have he:=sO hd hf e
 suffices h:Ok (jS d (bb d f) f) fun y=>y=uq d f by
  obtain ⟨y,h1,h2⟩:=h
  rw [h1,h2]
 unfold jS qW uq
 rw [Jz hd,aF,Jz he,aF]
 by_cases h1:(ao d).length≤400
 ·rw [av h1]
  by_cases h2:(ao (bb d f)).length≤400
  ·rw [av h2]
   simp only [cond_true,Bool.and_self]
   have hC:∀ q∈ao d,j7 d q:=fun q hq=>ta hd hq
   generalize hl:ao d=l at h1 hC ⊢
   refine jo (ol (fun i:Int=>(0≤i∧i≤l.length)∧(l.take i.toNat).find? (er d l)=none) (fun i=>(l.length - i).toNat) ⟨⟨by show (0:Int)≤0; omega,by show (0:Int)≤_; omega⟩,rfl⟩ ?_)
   rintro i ⟨⟨i0,i1⟩,hn⟩
   show Ok (oO d (bb d f) f (l,ao (bb d f),0) i) _
   unfold oO
   dsimp only
   refine od (fun hi=>oe (wX i0 hi) (oe (K2 hd hC (by omega) (hC _ (List.getElem_mem _))) ?_)) fun hi=>os ⟨rfl,os ?_⟩
   ·have hg:l[i.toNat]? = some l[i.toNat]:=List.getElem?_eq_getElem (by omega)
    have e1:(l.take (i.toNat+1)).find? (er d l)=if er d l l[i.toNat] then some l[i.toNat] else none:=by
     rw [List.take_add_one,hg,List.find?_append,hn]
     show List.find? (er d l) [l[i.toNat]]=_
     rw [List.find?_cons]
     cases er d l l[i.toNat] <;> rfl
    cases hu:er d l l[i.toNat] with
    | true=>
     rw [hu] at e1
     have e2:l.find? (er d l)=some l[i.toNat]:=by
      have h9:(l.take (i.toNat+1)++l.drop (i.toNat+1)).find? (er d l)=some l[i.toNat]:=by rw [List.find?_append,e1]; rfl
      rwa [List.take_append_drop] at h9
     have P:=hC _ (List.getElem_mem (l:=l) (n:=i.toNat) (by omega))
     rw [cond_true,e2]
     exact oe (wX i0 hi) (oe (Uj hd hf e P) (oe (K2 he (fun q hq=>ta he hq) (by omega) (yI hd hf e P)) (os rfl)))
    | false=>
     rw [hu] at e1
     rw [cond_false]
     refine os ⟨⟨⟨?_,?_⟩,?_⟩,?_⟩
     all_goals (try dsimp only)
     all_goals rw [w1 i0 hi (by omega)]
     ·omega
     ·omega
     ·rw [show (i+1).toNat=i.toNat+1 by omega,e1]; rfl
     ·omega
   ·obtain rfl:i=l.length:=by omega
    rw [Int.toNat_natCast,List.take_length] at hn
    rw [hn]; rfl
  ·rw [aX h2]; exact ⟨_,rfl,rfl⟩
 ·rw [aX h1]; exact ⟨_,rfl,rfl⟩
end Go.Proofs.YtgjbmjjihmfppaaGreat
namespace Go.Proofs.YtgjbmjjihmfppaaGreat
open Go Go.Li
set_option linter.unusedVariables false
set_option linter.unusedSectionVars false
set_option linter.unusedSimpArgs false
section
variable {d:aI} (hb:bx d=true)
include hb
end
section
variable {x:List Int} (B:Ah x) {s:aK} (S:Src x s)
include B S
theorem XD:Ok (mL s) fun y=>(dj y.1∧dj y.2.1)∧Src x y.2.2:=by
 unfold mL
 refine jo (ob (Zu B S) fun d hd=>ob (ew B (S.on hd.2) _) fun n hn=>?_)
 have S1:Src x (aK.mk s.Code n.2.At n.2.aq):=S.on hn.2
 refine oc (fun _=>ob (FG B S1) fun f hf=>os ⟨⟨hd.1,hf.1⟩,S.on hf.2⟩) fun _=>oe (Cp hd.1) (oc (fun _=>ob (FG B S1) fun f hf=>os ⟨⟨hd.1,hf.1⟩,S.on hf.2⟩) fun hz=>?_)
 have F:=dh (show bx d.1=true by simpa using hz)
 have T:=XJ F.d
 refine ob (ew B S1 _) fun m hm=>oc (fun _=>ob (Ai T) fun f hf=>os ⟨⟨hd.1,hf.1.small T T⟩,S.on hm.2⟩) fun _=>ob (Jp B (S.on hm.2)) fun c hc=>ob (FD T hc.1) fun b _=>?_
 have S2:Src x (aK.mk s.Code c.2.At c.2.aq):=S.on hc.2
 have fin:Ok (jH (aK.mk s.Code c.2.At c.2.aq) d.1.aE 4 10) fun y=>dj y.1∧Src x y.2:=(SX B S2 T (by omega) (by omega)).mono fun y hy=>by
  obtain ⟨⟨e,U,F2,_⟩,S3⟩:=hy
  exact ⟨F2.small T U,S3⟩
 exact oc (fun _=>ob (Ha T hc.1) fun l hl=>od (fun hp=>ob (ew B S2 _) fun u hu=>oi hu.1.1 (hu.1.2 (by omega)) fun g hg=>os ⟨⟨hd.1,(hl.2.1 g hg).small T hc.1⟩,S.on hu.2⟩) fun _=>ob fin fun g hg=>os ⟨⟨hd.1,hg.1⟩,S.on hg.2⟩) fun _=>ob fin fun g hg=>os ⟨⟨hd.1,hg.1⟩,S.on hg.2⟩
end
end Go.Proofs.YtgjbmjjihmfppaaGreat
