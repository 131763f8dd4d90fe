/- The first limit, cones and colimits: program and reference. No condition beside those that each theorem names. -/
import Derived.Test.YtgjbmjjihmfppaaGreatUs
import Derived.Test.YtgjbmjjihmfppaaGreatYn
namespace Go.Proofs.YtgjbmjjihmfppaaGreat
open Go Go.Li
set_option linter.unusedVariables false
set_option linter.unusedSectionVars false
set_option linter.unusedSimpArgs false
def zC:bD:=bD.mk 0 []
def nt (d:aN):bD×Int:=bif decide ((eh d).length≤400) then (match (eh d).find? (kp d (eh d)) with | some p=>(p,0) | none=>(zC,4)) else (zC,3)
section
variable {d:aN} (hb:jm d=true)
include hb
theorem HP:oS d 1=some (bif decide ((eh d).length≤400) then (((eh d).find? (kp d (eh d))).toList,true) else ([],false)):=by
 unfold oS
 rw [EL hb,aF]
 by_cases h:(eh d).length≤400
 ·rw [ay h]
  simp only [cond_true,Bool.not_true,cond_false]
  have hC:∀ q∈eh d,qY d q:=fun q hq=>wi hb hq
  generalize hl:eh d=l at h hC ⊢
  refine (congrArg an (rz l (fun i=>(((l.take i).find? (kp d l)).toList,(i:Int))) rfl (fun i p hp=>?_) (e:=((l.find? (kp d l)).toList,(l.length:Int))) ?_)).trans rfl
  ·have hi:=ca hp
   show jH d 1 l (((l.take i).find? (kp d l)).toList,(i:Int))=_
   unfold jH
   dsimp only
   rw [ay (by omega),cond_true,dw,hp,aF,IU hb hC (by omega) (hC p (List.mem_of_getElem? hp)),bH (by omega)]
   have e1:(l.take (i+1)).find? (kp d l)=((l.take i).find? (kp d l)).or (if kp d l p then some p else none):=by
    rw [List.take_add_one,hp,List.find?_append]
    congr 1
    show List.find? (kp d l) [p]=_
    rw [List.find?_cons]
    cases kp d l p <;> rfl
   rw [e1]
   cases (l.take i).find? (kp d l) with
   | some q=>rfl
   | none=>
    cases kp d l p with
    | false=>rfl
    | true=>
     show (fits 32 (0+1)>>=fun _=>_)=_
     rw [cV (by omega) (by omega)]; rfl
  ·show jH d 1 l (((l.take l.length).find? (kp d l)).toList,(l.length:Int))=_
   unfold jH
   dsimp only
   rw [bm (by omega),cond_false,List.take_length]
 ·rw [bm h]; rfl
theorem EM:nO d=some (nt d):=by
 unfold nO nt
 rw [HP hb,aF]
 by_cases h:(eh d).length≤400
 ·rw [ay h]
  simp only [cond_true]
  cases (eh d).find? (kp d (eh d)) <;> rfl
 ·rw [bm h]; rfl
theorem Pm:oA d=some (bif decide ((eh d).length≤400) then (eh d,0) else ([],3)):=by
 unfold oA
 rw [MK hb,aF]
 by_cases h:(eh d).length≤400
 ·rw [List.take_of_length_le (by omega),bm (by omega),ay h]; rfl
 ·rw [ay (by rw [List.length_take]; omega),bm h]; rfl
theorem MO:kA d=some (nt d):=by
 suffices h:Ok (kA d) fun e=>e=nt d by
  obtain ⟨y,h1,h2⟩:=h
  rw [h1,h2]
 unfold kA nt
 refine jr (oe (Pm hb) ?_)
 by_cases h:(eh d).length≤400
 ·rw [ay h]
  simp only [cond_true]
  have hC:∀ q∈eh d,qY d q:=fun q hq=>wi hb hq
  generalize hl:eh d=l at h hC ⊢
  refine ol (fun i:Int=>(0≤i∧i≤l.length)∧(l.take i.toNat).find? (kp d l)=none) (fun i=>(l.length - i).toNat) ⟨⟨by show (0:Int)≤0; omega,by show (0:Int)≤_; omega⟩,rfl⟩ ?_
  rintro i ⟨⟨i0,i1⟩,hn⟩
  show Ok (mU d (l,0) i) _
  unfold mU
  dsimp only
  refine od (fun hi=>oe (vm i0 hi) (oe (R4 hb hC (by omega) (hC _ (List.getElem_mem _))) ?_)) fun hi=>os ⟨rfl,os ?_⟩
  ·have hg:l[i.toNat]? = some l[i.toNat]:=List.getElem?_eq_getElem (by omega)
   have e1:(l.take (i.toNat+1)).find? (kp d l)=if kp d l l[i.toNat] then some l[i.toNat] else none:=by
    rw [List.take_add_one,hg,List.find?_append,hn]
    show List.find? (kp d l) [l[i.toNat]]=_
    rw [List.find?_cons]
    cases kp d l l[i.toNat] <;> rfl
   cases hu:kp d l l[i.toNat] with
   | true=>
    rw [hu] at e1
    have e2:l.find? (kp d l)=some l[i.toNat]:=by
     have h9:(l.take (i.toNat+1)++l.drop (i.toNat+1)).find? (kp d l)=some l[i.toNat]:=by rw [List.find?_append,e1]; rfl
     rwa [List.take_append_drop] at h9
    rw [cond_true,e2]
    exact oe (vm i0 hi) (os rfl)
   | false=>
    rw [hu] at e1
    rw [cond_false]
    refine os ⟨⟨⟨?_,?_⟩,?_⟩,?_⟩
    all_goals (try dsimp only)
    all_goals rw [w1 i0 hi (by omega)]
    ·omega
    ·omega
    ·rw [show (i+1).toNat=i.toNat+1 by omega,e1]; rfl
    ·omega
  ·obtain rfl:i=l.length:=by omega
   rw [Int.toNat_natCast,List.take_length] at hn
   rw [hn]; rfl
 ·rw [bm h]
  exact os rfl
theorem Ki {p:bD} (P:qY d p):oU d p=some true:=by
 have D:=js hb
 have o8:=D.d.o8
 have c8:=D.c.o8
 have dm:=D.d.m
 have cm:=D.c.m
 have al:=D.al
 have ol:=D.ol
 have tl:=D.d.tl
 obtain ⟨x0,x1,pl,hv,hs⟩:=P
 have VT:eB p.ef 0 (ai (d.aI.aA - 1))=some true:=by
  unfold eB
  rw [cW (by omega) (by omega),ay (show (0:Int)≤p.ef from x0)]
  first | (rw [ay (show p.ef≤d.aI.aA - 1 by omega)]; rfl) | (simp; omega)
 have hw:eE p.cf (d.aI.aD.length:Int)=some true:=by
  unfold eE
  refine (congrArg an (rz p.cf (fun i=>(i:Int)) rfl (fun i a ha=>?_) (e:=(p.cf.length:Int)) ?_)).trans rfl
  ·have hi:=ca ha
   have k:=hv (i:Int) (by omega) (by omega)
   unfold gQ
   rw [ay (by omega),cond_true,bR (by omega) (by omega),aF,bH (by omega)]
   have:eB (gi p.cf i) 0 (ai ((d.aI.aD.length:Int) - 1))=some true:=by
    unfold eB
    rw [cW (by omega) (by omega),ay (show (0:Int)≤gi p.cf i from k.1.1)]
    first | (rw [ay (show gi p.cf i≤(d.aI.aD.length:Int) - 1 by omega)]; rfl) | (simp; omega)
   rw [this]; rfl
  ·unfold gQ
   rw [bm (by omega),cond_false]
 unfold oU
 rw [VT,aF]
 simp only [Bool.not_true,cond_false]
 rw [show ((p.cf.length:Int) != (d.aA.length:Int))=false by rw [bne_eq_false_iff_eq]; omega,cond_false]
 rw [show cL d.aI=some (d.aI.aD.length:Int) from rfl,aF,hw,aF]
 simp only [Bool.not_true,aF,cond_false]
 have h0:∀ {β:Type} (f:Int→Option (Out Unit Bool)),ag (ae 0 (ah (lH d p) (0:Int))) f=f (p.cf.length:Int):=fun {β} f=>
  rz p.cf (fun i=>(i:Int)) rfl (fun i a ha=>by
   have hi:=ca ha
   have k:=hv (i:Int) (by omega) (by omega)
   unfold lH
   rw [ay (by omega),cond_true,bR (by omega) (by omega),aF]
   have he:dN d.aI (gi p.cf i)=some (qM.mk p.ef (gi d.aA i)):=by
    unfold dN
    rw [D.d.jd k.1.1 k.1.2,aF,D.d.jh k.1.1 k.1.2,aF,k.2.1,k.2.2]; rfl
   rw [he,aF,D.yo (by omega) (by omega),aF,bH (by omega)]
   simp) (e:=(p.cf.length:Int)) (by unfold lH; rw [bm (by omega),cond_false])
 have h1:∀ {β:Type} (f:Int→Option (Out Unit Bool)),ag (ae 2 (ah (lJ d p) (0:Int))) f=f (d.aj.length:Int):=fun {β} f=>
  rz d.aj (fun i=>(i:Int)) rfl (fun i a ha=>by
   have hi:=ca ha
   have a1:(i:Int) < d.aH.aD.length:=by omega
   have kf:=D.c.fr (f:=(i:Int)) (by omega) a1
   have kt:=D.c.to (f:=(i:Int)) (by omega) a1
   have ka:=D.ar (a:=(i:Int)) (by omega) a1
   have kF:=hv _ kf.1 kf.2
   unfold lJ
   rw [ay (by omega),cond_true,D.uj (by omega) a1,aF,D.c.jd (by omega) a1,aF,bR (l:=p.cf) kf.1 (by omega),aF,D.d.qX kF.1.1 kF.1.2 ka.1 ka.2,aF,D.c.jh (by omega) a1,aF,bR (l:=p.cf) kt.1 (by omega),aF,hs _ (by omega) a1,bH (by omega)]
   simp) (e:=(d.aj.length:Int)) (by unfold lJ; rw [bm (by omega),cond_false])
 rw [h0 (β:=Unit),h1 (β:=Unit)]
 rfl
end
theorem MP {c:aG} (C:nb c):jW c=some (uF c):=by
 have c1:=C.m
 have c2:=C.tl
 have c3:=C.il
 have c4:=C.o8
 have ht:fF (aG.mk c.aA c.To c.aD c.aJ []) (fun a0 a1=>dU a0 a1 c)=some (uF c):=by
  suffices h:Ok (fF (aG.mk c.aA c.To c.aD c.aJ []) (fun a0 a1=>dU a0 a1 c)) fun e=>e=uF c by
   obtain ⟨y,h1,h2⟩:=h
   rw [h1,h2]
  unfold fF
  rw [show cL (aG.mk c.aA c.To c.aD c.aJ [])=some (c.aD.length:Int) from by show some (c.To.length:Int)=_; rw [c2],aF,Df (by omega) (by omega),aF]
  have aX:∀ f:Int,0≤f→f < c.aD.length→(dy c.aD.length fun g=>gk c.aB g f).length=c.aD.length:=fun f _ _=>bS _ _
  obtain ⟨y,h1,h2⟩ : Ok (ag (ae 0 (ah (fun s=>eI (aG.mk c.aA c.To c.aD c.aJ []) (fun a0 a1=>dU a0 a1 c) (c.aD.length:Int) c.aD.length s.1 s.2) ((0:Int),List.replicate c.aD.length ([]:List Int)))) (fun (s:Int×List (List Int))=>(some (Out.norm (aG.mk c.aA c.To c.aD c.aJ s.2)):Option (Out aG aG)))) (fun o=>o=Out.norm (uF c)):=by
   refine ol (fun z:Int×List (List Int)=>(0≤z.1∧z.1≤c.aD.length)∧z.2.length=c.aD.length∧∀ f:Int,0≤f→f < z.1→gr z.2 f=dy c.aD.length fun g=>gk c.aB g f) (fun z=>(c.aD.length - z.1).toNat) ⟨⟨by show (0:Int)≤0; omega,by show (0:Int)≤_; omega⟩,List.length_replicate,fun f f0 f1=>by dsimp only at f1; omega⟩ ?_
   rintro ⟨f,K⟩ ⟨⟨f0,f1⟩,hK,hR⟩
   dsimp only at f0 f1 hK hR
   show Ok (eI _ _ _ _ f K) _
   unfold eI
   rw [List.length_replicate]
   refine od (fun hf=>?_) fun hf=>os ⟨rfl,os ?_⟩
   ·rw [Df (by omega) (by omega),aF]
    generalize hn:List.replicate c.aD.length (0:Int)=e0
    have LJ:e0.length=c.aD.length:=by rw [← hn,List.length_replicate]
    have Gn:∀ (K:List (List Int)) (v:List Int),K.length=c.aD.length→gr (K.set f.toNat v) f=v:=fun K v hK=>by
     have:=Hm (cl:=K) (y:=f.toNat) (q:=v) f.toNat
     rw [show ((f.toNat:Nat):Int)=f by omega] at this
     rw [this,if_pos ⟨rfl,by omega⟩]
    have oy:∀ (K:List (List Int)) (v:List Int) (g:Int),0≤g→g≠f→gr (K.set f.toNat v) g=gr K g:=fun K v g g0 ks=>by
     have:=Hm (cl:=K) (y:=f.toNat) (q:=v) g.toNat
     rw [show ((g.toNat:Nat):Int)=g by omega] at this
     rw [this,if_neg (by omega)]
    refine oe (nr f0 (by omega)) (oe (nr f0 (by rw [List.length_set]; omega)) ?_)
    rw [Gn K e0 hK]
    refine ol (fun z:Int×List (List Int)=>(0≤z.1∧z.1≤c.aD.length)∧(z.2.length=c.aD.length∧(gr z.2 f).length=c.aD.length)∧(∀ g:Int,0≤g→g < f→gr z.2 g=dy c.aD.length fun h=>gk c.aB h g)∧∀ g:Int,0≤g→g < z.1→gi (gr z.2 f) g=gk c.aB g f) (fun z=>(c.aD.length - z.1).toNat)
     ⟨⟨by show (0:Int)≤0; omega,by show (0:Int)≤_; omega⟩,⟨by show (K.set _ _).length=_; rw [List.length_set]; exact hK,by show (gr (K.set _ _) f).length=_; rw [Gn K e0 hK]; exact LJ⟩,fun g g0 g1=>by show gr (K.set _ _) g=_; rw [oy K e0 g g0 (by omega)]; exact hR g g0 g1,fun g g0 g1=>by dsimp only at g1; omega⟩ ?_
    rintro ⟨g,M⟩ ⟨⟨g0,g1⟩,⟨hM,QP⟩,VU,VV⟩
    dsimp only at g0 g1 hM QP VU VV
    show Ok (iV _ _ f e0 g M) _
    unfold iV
    rw [LJ]
    refine od (fun hg=>?_) fun hg=>os ⟨rfl,?_⟩
    ·have iT:idx (aG.mk c.aA c.To c.aD c.aJ []).To f=some (gi c.aD f):=C.jd f0 hf
     have iF:idx (aG.mk c.aA c.To c.aD c.aJ []).aD g=some (gi c.To g):=C.jh g0 hg
     refine oe (nr f0 (by omega)) (oe (bR g0 (by omega)) (oe iT (oe iF ?_)))
     have fin:∀ v:Int,v=gk c.aB g f→∀ R:List Int,R.length=c.aD.length→(∀ h:Int,0≤h→h < c.aD.length→gi R h=if h=g then v else gi (gr M f) h)→∀ M':List (List Int),M'.length=c.aD.length→gr M' f=R→(∀ h:Int,0≤h→h < f→gr M' h=gr M h)→
       (((0:Int)≤ai (g+1)∧ai (g+1)≤c.aD.length)∧(M'.length=c.aD.length∧(gr M' f).length=c.aD.length)∧(∀ h:Int,0≤h→h < f→gr M' h=dy c.aD.length fun k=>gk c.aB k h)∧∀ h:Int,0≤h→h < ai (g+1)→gi (gr M' f) h=gk c.aB h f)∧(c.aD.length - ai (g+1)).toNat < (c.aD.length - g).toNat:=by
      intro v hv R hRl hRg M' hM' VW ab2
      rw [w1 g0 hg (by omega)]
      refine ⟨⟨⟨by omega,by omega⟩,⟨hM',by rw [VW]; exact hRl⟩,fun h h0 h1=>(ab2 h h0 h1).trans (VU h h0 h1),fun h h0 h1=>?_⟩,by omega⟩
      rw [VW,hRg h h0 (by omega)]
      by_cases e:h=g
      ·rw [if_pos e,e,hv]
      ·rw [if_neg e]; exact VV h h0 (by omega)
     refine oc (fun e=>?_) fun e=>os (fin (-1) ?_ ((gr M f).set g.toNat (-1)) (by rw [List.length_set]; exact QP) (fun h h0 h1=>mg g0 (by omega) h0) _ (by rw [List.length_set]; exact hM) (Gn M _ hM) fun h h0 h1=>oy M _ h h0 (by omega))
     ·have e':gi c.To g=gi c.aD f:=(beq_iff_eq.1 e).symm
      have k:=C.cell g f g0 hg f0 hf e'
      refine oe (nr f0 (by rw [List.length_set]; omega)) ?_
      have Ik:dU f g c=some (gk c.aB g f):=by
       unfold dU
       rw [C.qX g0 hg f0 hf,aF]; rfl
      refine oe Ik ?_
      rw [Gn M _ hM]
      refine oe (bR g0 (by rw [List.length_set]; omega)) (os (fin (gk c.aB g f) rfl (((gr M f).set g.toNat (-1)).set g.toNat (gk c.aB g f)) (by rw [List.length_set,List.length_set]; exact QP) (fun h h0 h1=>?_) _ (by rw [List.length_set,List.length_set]; exact hM) (Gn _ _ (by rw [List.length_set]; exact hM)) fun h h0 h1=>?_))
      ·rw [mg g0 (by rw [List.length_set]; omega) h0,mg g0 (by omega) h0]
       by_cases e:h=g
       ·rw [if_pos e,if_pos e]
       ·rw [if_neg e,if_neg e,if_neg e]
      ·rw [oy _ _ h h0 (by omega),oy M _ h h0 (by omega)]
     ·exact (C.none g f g0 hg f0 hf fun h=>by rw [h] at e; simp at e).symm
    ·obtain rfl:g=c.aD.length:=by omega
     refine os ⟨⟨⟨?_,?_⟩,hM,fun h h0 h1=>?_⟩,?_⟩
     all_goals (try dsimp only at h1 ⊢)
     all_goals (try rw [w1 f0 hf (by omega)])
     ·omega
     ·omega
     ·rw [w1 f0 hf (by omega)] at h1
      by_cases e:h=f
      ·subst e
       exact Hl (by rw [QP,bS]) fun k k0 k1=>by
        rw [bS] at k1
        rw [VV k k0 k1,sC k0 k1]
      ·exact VU h h0 (by omega)
     ·show ((c.aD.length:Int) - (f+1)).toNat < ((c.aD.length:Int) - f).toNat; omega
   ·obtain rfl:f=c.aD.length:=by omega
    have:K=Dl c:=VX (by rw [hK]; unfold Dl; rw [bS]) fun k k0 k1=>by
     unfold Dl at k1 ⊢
     rw [bS] at k1
     rw [hR k k0 k1,tA k0 k1]
    rw [this]; rfl
  refine ⟨uF c,?_,rfl⟩
  have h3:ag (ae 0 (ah (fun s=>eI (aG.mk c.aA c.To c.aD c.aJ []) (fun a0 a1=>dU a0 a1 c) (c.aD.length:Int) c.aD.length s.1 s.2) ((0:Int),List.replicate c.aD.length ([]:List Int)))) (fun (s:Int×List (List Int))=>(some (Out.norm (aG.mk c.aA c.To c.aD c.aJ s.2)):Option (Out aG aG)))=some (Out.norm (uF c)):=by rw [h1,h2]
  exact (congrArg (DD (R:=aG)) (by exact h3)).trans rfl
 unfold jW
 rw [yP c.To (by omega),aF,yP c.aD (by omega),aF,yP c.aJ (by omega),aF,ht,aF]
 rfl
theorem DY {f:aN} (h:jm f=true):eN f=some (o5 f):=by
 have F:=js h
 have hs:=A0 F
 unfold eN
 rw [MP F.c,aF,MP F.d,aF,HQ (zO F.c) (zO F.d) hs.o hs.a]; rfl
end Go.Proofs.YtgjbmjjihmfppaaGreat
namespace Go.Proofs.YtgjbmjjihmfppaaGreat
open Go Go.Li
set_option linter.unusedVariables false
set_option linter.unusedSectionVars false
set_option linter.unusedSimpArgs false
section
variable {d:aN} (hb:jm d=true)
include hb
theorem EN {l:List bD} (hl:∀ p∈l,qY d p) (hm:l.length≤1000):kB (gJ.mk d) l=some 0:=by
 unfold kB
 refine (congrArg an (rz l (fun i=>(i:Int)) rfl (fun i p hp=>?_) (e:=(l.length:Int)) ?_)).trans rfl
 ·have hi:=ca hp
  unfold mV
  rw [ay (by omega),cond_true,dw,hp,aF,show dD=some () from rfl,aF,Ki hb (hl p (List.mem_of_getElem? hp)),aF,bH (by omega)]
  rfl
 ·unfold mV
  rw [bm (by omega),cond_false]
theorem Hn (h:(eh d).length≤400) {p:bD} (P:qY d p):jI (gJ.mk d) p=some (kp d (eh d) p,0):=by
 unfold jI
 rw [EN hb (l:=[p]) (fun q hq=>by rw [List.mem_singleton.1 hq]; exact P) (by simp),aF,uT rfl,cond_false,show dD=some () from rfl,aF,EL hb,aF,ay h,cond_true]
 simp only [Bool.not_true,cond_false,aF]
 rw [IU hb (fun q hq=>wi hb hq) (by omega) P,aF]
 rfl
theorem R8 (h:(eh d).length≤400) {p:bD} (hp:p∈eh d) (hu:kp d (eh d) p=true):lL (gJ.mk d) p p=some (gi d.aI.aJ p.ef,0):=by
 have P:=wi hb hp
 unfold lL
 rw [EN hb (l:=[p,p]) (fun q hq=>(show q=p by simpa using hq) ▸ P) (by simp),aF,uT rfl,cond_false,Hn hb h P,aF,uT rfl,cond_false,hu]
 simp only [Bool.not_true,cond_false]
 rw [show dD=some () from rfl,aF,Cm hb P P,aF,VN hb P hp hu]
 rfl
end
theorem Pn {d:aN} {p:bD} (h:nt d=(p,0)):(eh d).length≤400∧p∈eh d∧kp d (eh d) p=true:=by
 unfold nt at h
 by_cases hl:(eh d).length≤400
 ·rw [ay hl,cond_true] at h
  cases hf:(eh d).find? (kp d (eh d)) with
  | none=>rw [hf] at h; cases h
  | some q=>rw [hf] at h; cases h; exact ⟨hl,List.mem_of_find?_eq_some hf,List.find?_some hf⟩
 ·rw [bm hl,cond_false] at h; cases h
theorem MQ {d:aN} (hs:qj d):lD d=some (bif jm d then nt (o5 d) else (zC,1)):=by
 unfold lD
 rw [tB hs,aF]
 cases hb:jm d with
 | false=>rfl
 | true=>
  unfold fU
  rw [DY hb]
  simp only [Bool.not_true,cond_false,aF]
  rw [show (an (S:=Unit) (some (Out.ret (o5 d))):Option aN)=some (o5 d) from rfl,aF,show dD=some () from rfl,aF,EM (Hj hb),aF]
  rfl
theorem MR {d:aN} (hs:qj d):lG d=some (bif jm d then nt (o5 d) else (zC,1)):=by
 unfold lG
 rw [MS hs,aF]
 cases hb:jm d with
 | false=>rfl
 | true=>
  simp only [Bool.not_true,cond_false]
  rw [R2 hb,aF,MO (Hj hb),aF]
  rfl
theorem R9 {d:aN} (hs:qj d):oD d=some (bif jm d then nt d else (zC,1)):=by
 unfold oD
 rw [tB hs,aF]
 cases hb:jm d with
 | false=>rfl
 | true=>
  simp only [Bool.not_true,cond_false]
  rw [EM hb,aF]
  rfl
theorem Kj {p:bD} (h:p.cf.length≤1048576):iR p p=some true:=by
 unfold iR
 rw [show (p.ef == p.ef)=true by simp,cond_true,Xt _ _ (by omega),aF,aF]
 simp; rfl
theorem Dm {d:aN} (hb:jm d=true):(nt d).1.cf.length≤1048576:=by
 unfold nt
 have h0:zC.cf.length≤1048576:=by show 0≤_; omega
 by_cases hl:(eh d).length≤400
 ·rw [ay hl,cond_true]
  cases hf:(eh d).find? (kp d (eh d)) with
  | none=>exact h0
  | some q=>
   have:=(wi hb (List.mem_of_find?_eq_some hf)).l
   have h8:=(js hb).c.o8
   show q.cf.length≤_
   omega
 ·rw [bm hl,cond_false]; exact h0
theorem BD {x:List (List Int)} {n:Nat} (hn:n≤4) (h:Sq n x) (c:((ns n).all fun i=>(gi (gr x i) i == 1) && (ns n).all fun j=>(ns n).all fun k=>!((gi (gr x i) j == 1) && (gi (gr x j) k == 1)) || (gi (gr x i) k == 1))=true):Ok (cK x) fun c=>ju n (4 * n) c∧Ty c:=by
 rw [List.all_eq_true] at c
 refine uV hn h (fun i i0 i1=>?_) (fun i j k i0 i1 j0 j1 k0 k1 h1 h2=>?_)
 ·have:=c i (bu.2 ⟨i0,i1⟩)
  rw [Bool.and_eq_true,beq_iff_eq] at this
  exact this.1
 ·have:=c i (bu.2 ⟨i0,i1⟩)
  rw [Bool.and_eq_true,List.all_eq_true] at this
  have:=this.2 j (bu.2 ⟨j0,j1⟩)
  rw [List.all_eq_true] at this
  have:=this k (bu.2 ⟨k0,k1⟩)
  rw [h1,h2] at this
  simpa using this
theorem uk {a b:Nat} {c:aG} (h:ju a b c∧Ty c) (ha:a≤63) (hb:b≤63):T7 c:=⟨h.2,by have:=h.1.m; omega,by have:=h.1.o; omega,h.1.small (by omega) (by omega)⟩
theorem VY:Ok lX T7:=by
 unfold lX
 exact jr (ob Dn fun c hc=>os (uk hc (by omega) (by omega)))
section
variable {x:List Int} (B:Ai x) {s:aL} (S:Src x s)
include B S
theorem Sa:Ok (mB s) fun y=>T7 y.1∧Src x y.2:=by
 unfold mB
 refine jr (ob (fh B S _) fun y hy=>?_)
 have T:Src x (aL.mk s.Code y.2.At y.2.au):=S.on hy.2
 have hd:∀ (k:Nat) (u v:Int),[(0:Int),0][k]? = some u→[(1:Int),1][k]? = some v→0≤u∧u < v∧v < 2:=fun k u v hu hv=>by
  rcases k with _ | _ | k <;> simp at hu hv <;> omega
 have p3:Ok (cK [[(1:Int),1,1],[0,1,0],[0,0,1]]) fun c=>ju 3 (4 * 3) c∧Ty c:=BD (n:=3) (by omega) ⟨rfl,by simp⟩ (by decide)
 refine oc (fun _=>ob (BD (n:=0) (by omega) ⟨rfl,by simp⟩ (by decide)) fun c hc=>os ⟨uk hc (by omega) (by omega),T⟩) fun _=>oc (fun _=>ob VY fun c hc=>os ⟨hc,T⟩) fun _=>
  oc (fun _=>ob (BD (n:=2) (by omega) ⟨rfl,by simp⟩ (by decide)) fun c hc=>os ⟨uk hc (by omega) (by omega),T⟩) fun _=>
  oc (fun _=>ob (Ok.and (BE (n:=2) (f:=[0,0]) (t:=[1,1]) ⟨rfl,by decide,hd⟩ (by omega) (by omega)) (BF (n:=2) (.inl rfl) rfl (by decide) hd)) fun c hc=>os ⟨uk hc (by omega) (by omega),T⟩) fun _=>
  oc (fun _=>ob p3 fun c hc=>ob (VZ hc.1 hc.2 (by omega) (by omega)) fun e he=>os ⟨uk he (by omega) (by omega),T⟩) fun _=>
  oc (fun _=>ob p3 fun c hc=>os ⟨uk hc (by omega) (by omega),T⟩) fun _=>
  oc (fun _=>ob (zP B T) fun m hm=>?_) fun _=>
  oc (fun _=>ob (BD (n:=2) (by omega) ⟨rfl,by simp⟩ (by decide)) fun c hc=>os ⟨uk hc (by omega) (by omega),T⟩) fun _=>ob (Dp B T 3 5) fun c hc=>os ⟨BG hc.1 (by omega) (by omega),S.on hc.2⟩
 obtain ⟨⟨n,n0,n1,hq,hr,h0⟩,S2⟩:=hm
 exact ob (wh n0 n1 hq hr h0) fun c hc=>os ⟨uk hc (by omega) (by omega),S.on S2⟩
theorem Po:Ok (lB s) fun y=>T7 y.1∧Src x y.2:=by
 unfold lB
 refine jr (ob (fh B S _) fun y hy=>?_)
 have T:Src x (aL.mk s.Code y.2.At y.2.au):=S.on hy.2
 exact oc (fun _=>ob (BD (n:=4) (by omega) ⟨rfl,by simp⟩ (by decide)) fun c hc=>os ⟨uk hc (by omega) (by omega),T⟩) fun _=>
  oc (fun _=>ob (BD (n:=3) (by omega) ⟨rfl,by simp⟩ (by decide)) fun c hc=>os ⟨uk hc (by omega) (by omega),T⟩) fun _=>
  oc (fun _=>ob IV fun c hc=>os ⟨uk hc (by omega) (by omega),T⟩) fun _=>ob (Dp B T 4 12) fun c hc=>os ⟨BG hc.1 (by omega) (by omega),S.on hc.2⟩
theorem MT:Ok (kI s) fun y=>qj y.1∧Src x y.2:=by
 unfold kI
 refine jr (ol (fun z:Int×Int×Int=>(0≤z.1∧z.1≤8)∧Src x (aL.mk s.Code z.2.1 z.2.2)) (fun z=>(8 - z.1).toNat) ⟨⟨by show (0:Int)≤0; omega,by show (0:Int)≤8; omega⟩,S⟩ ?_)
 rintro ⟨i,a,h⟩ ⟨⟨i0,i1⟩,T⟩
 dsimp only at i0 i1 T
 show Ok (kP s i a h) _
 unfold kP
 refine od (fun hi=>ob (Sa B T) fun y hy=>ob (Po B (S.on hy.2)) fun z hz=>ob (IW hy.1 hz.1) fun b _=>?_) fun hi=>os ⟨rfl,?_⟩
 ·have S2:Src x (aL.mk s.Code z.2.At z.2.au):=S.on hz.2
  have nx:∀ t:aL,Src x t→(0≤ai (i+1)∧ai (i+1)≤8)∧(8 - ai (i+1)).toNat < (8 - i).toNat:=fun t _=>by rw [cW (by omega) (by omega)]; omega
  refine oc (fun _=>ob (Kk hy.1 hz.1) fun l hl=>od (fun hp=>ob (fh B S2 _) fun u hu=>oi hu.1.1 (hu.1.2 (by omega)) fun g hg=>os ⟨(hl.2.1 g hg).small hy.1 hz.1,S.on hu.2⟩) fun _=>os ⟨⟨(nx _ S2).1,S2⟩,(nx _ S2).2⟩) fun _=>os ⟨⟨(nx _ S2).1,S2⟩,(nx _ S2).2⟩
 ·exact ob VY fun c hc=>ob (A4 hc) fun f hf=>os ⟨hf.1.small hc hc,T⟩
theorem Xu:Ok (kQ s) fun y=>qj y.1∧Src x y.2:=by
 unfold kQ
 refine jr (ob (fh B S _) fun y hy=>oc (fun _=>ob (Sb B (S.on hy.2)) fun f hf=>os ⟨hf.1,S.on hf.2⟩) fun _=>ob (MT B (S.on hy.2)) fun f hf=>os ⟨hf.1,S.on hf.2⟩)
end
theorem V0 {x:List Int} (B:Ai x):Ok (iL x) qj:=by
 unfold iL
 refine jr (ob (V1 B) fun y hy=>?_)
 obtain ⟨s,rfl,S⟩:=hy
 show Ok (kQ (aL.mk x s.At s.au)>>=_) _
 exact ob (Xu B S.on') fun f hf=>os hf.1
theorem O9 {x0:List Int} (hl:x0.length≤maxLen∧∀ y∈x0,0≤y∧y < 256):iZ x0=some true:=by
 unfold iZ
 have DJ:qB x0=some (decide ((x0.length:Int) > 4096)):=rfl
 rw [DJ,aF]
 by_cases hb:(x0.length:Int) > 4096
 ·rw [ay hb,cond_true]; rfl
 rw [bm hb,cond_false]
 obtain ⟨d,e,hs⟩:=V0 (x:=x0) ⟨by omega,hl.2⟩
 rw [e,aF,MQ hs,aF,MR hs,aF]
 cases hf:jm d with
 | false=>
  simp only [cond_false]
  rw [uT rfl,cond_false,Kj (by show 0≤_; omega)]
  simp only [aF,Bool.not_true,cond_false]
  rw [show ((zC,(1:Int)).2 == (1:Int))=true from rfl,cond_true]
  unfold oN
  rw [tB hs,hf]; rfl
 | true=>
  have ho:=Hj hf
  have hos:=A0 (js ho)
  simp only [cond_true]
  rw [uT rfl,cond_false,Kj (Dm ho)]
  simp only [aF,Bool.not_true,cond_false]
  have ks:((nt (o5 d)).2 == (1:Int))=false:=by
   unfold nt
   by_cases h:(eh (o5 d)).length≤400
   ·rw [ay h,cond_true]
    cases (eh (o5 d)).find? (kp (o5 d) (eh (o5 d))) <;> rfl
   ·rw [bm h]; rfl
  rw [ks,cond_false]
  have h1:gM d=some (o5 d,0):=by
   unfold gM
   rw [tB hs,aF,hf]
   simp only [Bool.not_true,cond_false]
   rw [DY hf,aF]; rfl
  rw [h1,aF]
  dsimp only
  rw [R9 hos,aF,ho,cond_true,uT rfl,cond_false,uT rfl,cond_false,Kj (Dm ho)]
  simp only [aF,Bool.not_true,cond_false]
  cases hz:(nt (o5 d)).2 != (0:Int) with
  | true=>rfl
  | false=>
   have Gt:nt (o5 d)=((nt (o5 d)).1,0):=by
    have:(nt (o5 d)).2=0:=by simpa using hz
    rw [← this]
   obtain ⟨hlen,hp,hu⟩:=Pn Gt
   have P:=wi ho hp
   have YA:fU d=some (o5 d):=by
    unfold fU
    rw [DY hf,aF]; rfl
   have h2:lK d (nt (o5 d)).1=some (true,0):=by
    unfold lK
    rw [tB hs,aF,hf]
    simp only [Bool.not_true,cond_false]
    rw [YA,aF,Hn ho hlen P,aF,hu]; rfl
   have h3:gH d (nt (o5 d)).1 (nt (o5 d)).1=some (gi (o5 d).aI.aJ (nt (o5 d)).1.ef,0):=by
    unfold gH
    rw [tB hs,aF,hf]
    simp only [Bool.not_true,cond_false]
    rw [YA,aF,R8 ho hlen hp hu,aF]; rfl
   have h4:idx d.aI.aJ (nt (o5 d)).1.ef=some (gi (o5 d).aI.aJ (nt (o5 d)).1.ef):=(js hf).d.pg P.x0 P.x1
   rw [cond_false,h2,aF,h3,aF]
   simp only [show ((0:Int) == 0)=true from rfl,cond_true]
   rw [h4]
   simp only [aF]
   rw [show (gi (o5 d).aI.aJ (nt (o5 d)).1.ef == gi (o5 d).aI.aJ (nt (o5 d)).1.ef)=true by simp]
   rfl
end Go.Proofs.YtgjbmjjihmfppaaGreat
