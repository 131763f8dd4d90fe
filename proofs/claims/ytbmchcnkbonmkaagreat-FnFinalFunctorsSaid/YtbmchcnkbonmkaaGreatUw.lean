/- The first limit, cones and colimits: program and reference. No condition beside those that each theorem names. -/
import Derived.Test.YtbmchcnkbonmkaaGreatUs
import Derived.Test.YtbmchcnkbonmkaaGreatYn
namespace Go.Proofs.YtbmchcnkbonmkaaGreat
open Go Go.Li
set_option linter.unusedVariables false
set_option linter.unusedSectionVars false
set_option linter.unusedSimpArgs false
def zC:bD:=bD.mk 0 []
def uA (d:aJ):bD×Int:=bif decide ((ef d).length≤400) then (match (ef d).find? (jw d (ef d)) with | some p=>(p,0) | none=>(zC,4)) else (zC,3)
section
variable {d:aJ} (hb:fk d=true)
include hb
theorem Ke:qG d 1=some (bif decide ((ef d).length≤400) then (((ef d).find? (jw d (ef d))).toList,true) else ([],false)):=by
 unfold qG
 rw [CI hb,aD]
 by_cases h:(ef d).length≤400
 ·rw [aq h]
  simp only [cond_true,Bool.not_true,cond_false]
  have hC:∀ q∈ef d,ox d q:=fun q hq=>wA hb hq
  generalize hl:ef d=l at h hC ⊢
  refine (congrArg ak (jo l (fun i=>(((l.take i).find? (jw d l)).toList,(i:Int))) rfl (fun i p hp=>?_) (e:=((l.find? (jw d l)).toList,(l.length:Int))) ?_)).trans rfl
  ·have hi:=bd hp
   show kR d 1 l (((l.take i).find? (jw d l)).toList,(i:Int))=_
   unfold kR
   dsimp only
   rw [aq (by omega),cond_true,bx,hp,aD,Lr hb hC (by omega) (hC p (List.mem_of_getElem? hp)),bH (by omega)]
   have e1:(l.take (i+1)).find? (jw d l)=((l.take i).find? (jw d l)).or (if jw d l p then some p else none):=by
    rw [List.take_add_one,hp,List.find?_append]
    congr 1
    show List.find? (jw d l) [p]=_
    rw [List.find?_cons]
    cases jw d l p <;> rfl
   rw [e1]
   cases (l.take i).find? (jw d l) with
   | some q=>rfl
   | none=>
    cases jw d l p with
    | false=>rfl
    | true=>
     show (fits 32 (0+1)>>=fun _=>_)=_
     rw [cN (by omega) (by omega)]; rfl
  ·show kR d 1 l (((l.take l.length).find? (jw d l)).toList,(l.length:Int))=_
   unfold kR
   dsimp only
   rw [ba (by omega),cond_false,List.take_length]
 ·rw [ba h]; rfl
theorem Pq:qT d=some (uA d):=by
 unfold qT uA
 rw [Ke hb,aD]
 by_cases h:(ef d).length≤400
 ·rw [aq h]
  simp only [cond_true]
  cases (ef d).find? (jw d (ef d)) <;> rfl
 ·rw [ba h]; rfl
theorem R4:pO d=some (bif decide ((ef d).length≤400) then (ef d,0) else ([],3)):=by
 unfold pO
 rw [Pn hb,aD]
 by_cases h:(ef d).length≤400
 ·rw [List.take_of_length_le (by omega),ba (by omega),aq h]; rfl
 ·rw [aq (by rw [List.length_take]; omega),ba h]; rfl
theorem Pr:lL d=some (uA d):=by
 suffices h:Ok (lL d) fun e=>e=uA d by
  obtain ⟨y,h1,h2⟩:=h
  rw [h1,h2]
 unfold lL uA
 refine jb (oe (R4 hb) ?_)
 by_cases h:(ef d).length≤400
 ·rw [aq h]
  simp only [cond_true]
  have hC:∀ q∈ef d,ox d q:=fun q hq=>wA hb hq
  generalize hl:ef d=l at h hC ⊢
  refine ol (fun i:Int=>(0≤i∧i≤l.length)∧(l.take i.toNat).find? (jw d l)=none) (fun i=>(l.length - i).toNat) ⟨⟨by show (0:Int)≤0; omega,by show (0:Int)≤_; omega⟩,rfl⟩ ?_
  rintro i ⟨⟨i0,i1⟩,hn⟩
  show Ok (oN d (l,0) i) _
  unfold oN
  dsimp only
  refine od (fun hi=>oe (uJ i0 hi) (oe (U4 hb hC (by omega) (hC _ (List.getElem_mem _))) ?_)) fun hi=>os ⟨rfl,os ?_⟩
  ·have hg:l[i.toNat]? = some l[i.toNat]:=List.getElem?_eq_getElem (by omega)
   have e1:(l.take (i.toNat+1)).find? (jw d l)=if jw d l l[i.toNat] then some l[i.toNat] else none:=by
    rw [List.take_add_one,hg,List.find?_append,hn]
    show List.find? (jw d l) [l[i.toNat]]=_
    rw [List.find?_cons]
    cases jw d l l[i.toNat] <;> rfl
   cases hu:jw d l l[i.toNat] with
   | true=>
    rw [hu] at e1
    have e2:l.find? (jw d l)=some l[i.toNat]:=by
     have h9:(l.take (i.toNat+1)++l.drop (i.toNat+1)).find? (jw d l)=some l[i.toNat]:=by rw [List.find?_append,e1]; rfl
     rwa [List.take_append_drop] at h9
    rw [cond_true,e2]
    exact oe (uJ i0 hi) (os rfl)
   | false=>
    rw [hu] at e1
    rw [cond_false]
    refine os ⟨⟨⟨?_,?_⟩,?_⟩,?_⟩
    all_goals (try dsimp only)
    all_goals rw [w1 i0 hi (by omega)]
    ·omega
    ·omega
    ·rw [show (i+1).toNat=i.toNat+1 by omega,e1]; rfl
    ·omega
  ·obtain rfl:i=l.length:=by omega
   rw [Int.toNat_natCast,List.take_length] at hn
   rw [hn]; rfl
 ·rw [ba h]
  exact os rfl
theorem M5 {p:bD} (P:ox d p):qI d p=some true:=by
 have D:=dq hb
 have o8:=D.d.o8
 have c8:=D.c.o8
 have dm:=D.d.m
 have cm:=D.c.m
 have al:=D.al
 have ol:=D.ol
 have tl:=D.d.tl
 obtain ⟨x0,x1,pl,hv,hs⟩:=P
 have E3:eM p.da 0 (aj (d.aF.aA - 1))=some true:=by
  unfold eM
  rw [cV (by omega) (by omega),aq (show (0:Int)≤p.da from x0)]
  first | (rw [aq (show p.da≤d.aF.aA - 1 by omega)]; rfl) | (simp; omega)
 have hw:eW p.ay (d.aF.aC.length:Int)=some true:=by
  unfold eW
  refine (congrArg ak (jo p.ay (fun i=>(i:Int)) rfl (fun i a ha=>?_) (e:=(p.ay.length:Int)) ?_)).trans rfl
  ·have hi:=bd ha
   have k:=hv (i:Int) (by omega) (by omega)
   unfold iN
   rw [aq (by omega),cond_true,bI (by omega) (by omega),aD,bH (by omega)]
   have:eM (gi p.ay i) 0 (aj ((d.aF.aC.length:Int) - 1))=some true:=by
    unfold eM
    rw [cV (by omega) (by omega),aq (show (0:Int)≤gi p.ay i from k.1.1)]
    first | (rw [aq (show gi p.ay i≤(d.aF.aC.length:Int) - 1 by omega)]; rfl) | (simp; omega)
   rw [this]; rfl
  ·unfold iN
   rw [ba (by omega),cond_false]
 unfold qI
 rw [E3,aD]
 simp only [Bool.not_true,cond_false]
 rw [show ((p.ay.length:Int) != (d.aA.length:Int))=false by rw [bne_eq_false_iff_eq]; omega,cond_false]
 rw [show cH d.aF=some (d.aF.aC.length:Int) from rfl,aD,hw,aD]
 simp only [Bool.not_true,aD,cond_false]
 have h0:∀ {β:Type} (f:Int→Option (Out Unit Bool)),ae (ab 0 (af (mZ d p) (0:Int))) f=f (p.ay.length:Int):=fun {β} f=>
  jo p.ay (fun i=>(i:Int)) rfl (fun i a ha=>by
   have hi:=bd ha
   have k:=hv (i:Int) (by omega) (by omega)
   unfold mZ
   rw [aq (by omega),cond_true,bI (by omega) (by omega),aD]
   have he:dT d.aF (gi p.ay i)=some (sM.mk p.da (gi d.aA i)):=by
    unfold dT
    rw [D.d.ji k.1.1 k.1.2,aD,D.d.jj k.1.1 k.1.2,aD,k.2.1,k.2.2]; rfl
   rw [he,aD,D.Aa (by omega) (by omega),aD,bH (by omega)]
   simp) (e:=(p.ay.length:Int)) (by unfold mZ; rw [ba (by omega),cond_false])
 have h1:∀ {β:Type} (f:Int→Option (Out Unit Bool)),ae (ab 2 (af (nA d p) (0:Int))) f=f (d.ah.length:Int):=fun {β} f=>
  jo d.ah (fun i=>(i:Int)) rfl (fun i a ha=>by
   have hi:=bd ha
   have a1:(i:Int) < d.aE.aC.length:=by omega
   have kf:=D.c.fr (f:=(i:Int)) (by omega) a1
   have kt:=D.c.to (f:=(i:Int)) (by omega) a1
   have ka:=D.ar (a:=(i:Int)) (by omega) a1
   have kF:=hv _ kf.1 kf.2
   unfold nA
   rw [aq (by omega),cond_true,D.uz (by omega) a1,aD,D.c.ji (by omega) a1,aD,bI (l:=p.ay) kf.1 (by omega),aD,D.d.q9 kF.1.1 kF.1.2 ka.1 ka.2,aD,D.c.jj (by omega) a1,aD,bI (l:=p.ay) kt.1 (by omega),aD,hs _ (by omega) a1,bH (by omega)]
   simp) (e:=(d.ah.length:Int)) (by unfold nA; rw [ba (by omega),cond_false])
 rw [h0 (β:=Unit),h1 (β:=Unit)]
 rfl
end
theorem Ps {c:aG} (C:mc c):lH c=some (sU c):=by
 have c1:=C.m
 have c2:=C.tl
 have c3:=C.il
 have c4:=C.o8
 have ht:fU (aG.mk c.aA c.To c.aC c.aH []) (fun a0 a1=>eB a0 a1 c)=some (sU c):=by
  suffices h:Ok (fU (aG.mk c.aA c.To c.aC c.aH []) (fun a0 a1=>eB a0 a1 c)) fun e=>e=sU c by
   obtain ⟨y,h1,h2⟩:=h
   rw [h1,h2]
  unfold fU
  rw [show cH (aG.mk c.aA c.To c.aC c.aH [])=some (c.aC.length:Int) from by show some (c.To.length:Int)=_; rw [c2],aD,zF (by omega) (by omega),aD]
  have bg:∀ f:Int,0≤f→f < c.aC.length→(db c.aC.length fun g=>gk c.aB g f).length=c.aC.length:=fun f _ _=>bL _ _
  obtain ⟨y,h1,h2⟩ : Ok (ae (ab 0 (af (fun s=>fA (aG.mk c.aA c.To c.aC c.aH []) (fun a0 a1=>eB a0 a1 c) (c.aC.length:Int) c.aC.length s.1 s.2) ((0:Int),List.replicate c.aC.length ([]:List Int)))) (fun (s:Int×List (List Int))=>(some (Out.norm (aG.mk c.aA c.To c.aC c.aH s.2)):Option (Out aG aG)))) (fun o=>o=Out.norm (sU c)):=by
   refine ol (fun z:Int×List (List Int)=>(0≤z.1∧z.1≤c.aC.length)∧z.2.length=c.aC.length∧∀ f:Int,0≤f→f < z.1→gr z.2 f=db c.aC.length fun g=>gk c.aB g f) (fun z=>(c.aC.length - z.1).toNat) ⟨⟨by show (0:Int)≤0; omega,by show (0:Int)≤_; omega⟩,List.length_replicate,fun f f0 f1=>by dsimp only at f1; omega⟩ ?_
   rintro ⟨f,K⟩ ⟨⟨f0,f1⟩,hK,hR⟩
   dsimp only at f0 f1 hK hR
   show Ok (fA _ _ _ _ f K) _
   unfold fA
   rw [List.length_replicate]
   refine od (fun hf=>?_) fun hf=>os ⟨rfl,os ?_⟩
   ·rw [zF (by omega) (by omega),aD]
    generalize hn:List.replicate c.aC.length (0:Int)=e0
    have Og:e0.length=c.aC.length:=by rw [← hn,List.length_replicate]
    have IC:∀ (K:List (List Int)) (v:List Int),K.length=c.aC.length→gr (K.set f.toNat v) f=v:=fun K v hK=>by
     have:=JI (cl:=K) (y:=f.toNat) (q:=v) f.toNat
     rw [show ((f.toNat:Nat):Int)=f by omega] at this
     rw [this,if_pos ⟨rfl,by omega⟩]
    have pg:∀ (K:List (List Int)) (v:List Int) (g:Int),0≤g→g≠f→gr (K.set f.toNat v) g=gr K g:=fun K v g g0 jx=>by
     have:=JI (cl:=K) (y:=f.toNat) (q:=v) g.toNat
     rw [show ((g.toNat:Nat):Int)=g by omega] at this
     rw [this,if_neg (by omega)]
    refine oe (l8 f0 (by omega)) (oe (l8 f0 (by rw [List.length_set]; omega)) ?_)
    rw [IC K e0 hK]
    refine ol (fun z:Int×List (List Int)=>(0≤z.1∧z.1≤c.aC.length)∧(z.2.length=c.aC.length∧(gr z.2 f).length=c.aC.length)∧(∀ g:Int,0≤g→g < f→gr z.2 g=db c.aC.length fun h=>gk c.aB h g)∧∀ g:Int,0≤g→g < z.1→gi (gr z.2 f) g=gk c.aB g f) (fun z=>(c.aC.length - z.1).toNat)
     ⟨⟨by show (0:Int)≤0; omega,by show (0:Int)≤_; omega⟩,⟨by show (K.set _ _).length=_; rw [List.length_set]; exact hK,by show (gr (K.set _ _) f).length=_; rw [IC K e0 hK]; exact Og⟩,fun g g0 g1=>by show gr (K.set _ _) g=_; rw [pg K e0 g g0 (by omega)]; exact hR g g0 g1,fun g g0 g1=>by dsimp only at g1; omega⟩ ?_
    rintro ⟨g,M⟩ ⟨⟨g0,g1⟩,⟨hM,Tw⟩,YB,YC⟩
    dsimp only at g0 g1 hM Tw YB YC
    show Ok (kD _ _ f e0 g M) _
    unfold kD
    rw [Og]
    refine od (fun hg=>?_) fun hg=>os ⟨rfl,?_⟩
    ·have iT:idx (aG.mk c.aA c.To c.aC c.aH []).To f=some (gi c.aC f):=C.ji f0 hf
     have iF:idx (aG.mk c.aA c.To c.aC c.aH []).aC g=some (gi c.To g):=C.jj g0 hg
     refine oe (l8 f0 (by omega)) (oe (bI g0 (by omega)) (oe iT (oe iF ?_)))
     have fin:∀ v:Int,v=gk c.aB g f→∀ R:List Int,R.length=c.aC.length→(∀ h:Int,0≤h→h < c.aC.length→gi R h=if h=g then v else gi (gr M f) h)→∀ M':List (List Int),M'.length=c.aC.length→gr M' f=R→(∀ h:Int,0≤h→h < f→gr M' h=gr M h)→
       (((0:Int)≤aj (g+1)∧aj (g+1)≤c.aC.length)∧(M'.length=c.aC.length∧(gr M' f).length=c.aC.length)∧(∀ h:Int,0≤h→h < f→gr M' h=db c.aC.length fun k=>gk c.aB k h)∧∀ h:Int,0≤h→h < aj (g+1)→gi (gr M' f) h=gk c.aB h f)∧(c.aC.length - aj (g+1)).toNat < (c.aC.length - g).toNat:=by
      intro v hv R hRl hRg M' hM' YD ae2
      rw [w1 g0 hg (by omega)]
      refine ⟨⟨⟨by omega,by omega⟩,⟨hM',by rw [YD]; exact hRl⟩,fun h h0 h1=>(ae2 h h0 h1).trans (YB h h0 h1),fun h h0 h1=>?_⟩,by omega⟩
      rw [YD,hRg h h0 (by omega)]
      by_cases e:h=g
      ·rw [if_pos e,e,hv]
      ·rw [if_neg e]; exact YC h h0 (by omega)
     refine oc (fun e=>?_) fun e=>os (fin (-1) ?_ ((gr M f).set g.toNat (-1)) (by rw [List.length_set]; exact Tw) (fun h h0 h1=>iy g0 (by omega) h0) _ (by rw [List.length_set]; exact hM) (IC M _ hM) fun h h0 h1=>pg M _ h h0 (by omega))
     ·have e':gi c.To g=gi c.aC f:=(beq_iff_eq.1 e).symm
      have k:=C.cell g f g0 hg f0 hf e'
      refine oe (l8 f0 (by rw [List.length_set]; omega)) ?_
      have KG:eB f g c=some (gk c.aB g f):=by
       unfold eB
       rw [C.q9 g0 hg f0 hf,aD]; rfl
      refine oe KG ?_
      rw [IC M _ hM]
      refine oe (bI g0 (by rw [List.length_set]; omega)) (os (fin (gk c.aB g f) rfl (((gr M f).set g.toNat (-1)).set g.toNat (gk c.aB g f)) (by rw [List.length_set,List.length_set]; exact Tw) (fun h h0 h1=>?_) _ (by rw [List.length_set,List.length_set]; exact hM) (IC _ _ (by rw [List.length_set]; exact hM)) fun h h0 h1=>?_))
      ·rw [iy g0 (by rw [List.length_set]; omega) h0,iy g0 (by omega) h0]
       by_cases e:h=g
       ·rw [if_pos e,if_pos e]
       ·rw [if_neg e,if_neg e,if_neg e]
      ·rw [pg _ _ h h0 (by omega),pg M _ h h0 (by omega)]
     ·exact (C.none g f g0 hg f0 hf fun h=>by rw [h] at e; simp at e).symm
    ·obtain rfl:g=c.aC.length:=by omega
     refine os ⟨⟨⟨?_,?_⟩,hM,fun h h0 h1=>?_⟩,?_⟩
     all_goals (try dsimp only at h1 ⊢)
     all_goals (try rw [w1 f0 hf (by omega)])
     ·omega
     ·omega
     ·rw [w1 f0 hf (by omega)] at h1
      by_cases e:h=f
      ·subst e
       exact AE (by rw [Tw,bL]) fun k k0 k1=>by
        rw [bL] at k1
        rw [YC k k0 k1,qh k0 k1]
      ·exact YB h h0 (by omega)
     ·show ((c.aC.length:Int) - (f+1)).toNat < ((c.aC.length:Int) - f).toNat; omega
   ·obtain rfl:f=c.aC.length:=by omega
    have:K=xD c:=O5 (by rw [hK]; unfold xD; rw [bL]) fun k k0 k1=>by
     unfold xD at k1 ⊢
     rw [bL] at k1
     rw [hR k k0 k1,ui k0 k1]
    rw [this]; rfl
  refine ⟨sU c,?_,rfl⟩
  have h3:ae (ab 0 (af (fun s=>fA (aG.mk c.aA c.To c.aC c.aH []) (fun a0 a1=>eB a0 a1 c) (c.aC.length:Int) c.aC.length s.1 s.2) ((0:Int),List.replicate c.aC.length ([]:List Int)))) (fun (s:Int×List (List Int))=>(some (Out.norm (aG.mk c.aA c.To c.aC c.aH s.2)):Option (Out aG aG)))=some (Out.norm (sU c)):=by rw [h1,h2]
  exact (congrArg (Fu (R:=aG)) (by exact h3)).trans rfl
 unfold lH
 rw [AI c.To (by omega),aD,AI c.aC (by omega),aD,AI c.aH (by omega),aD,ht,aD]
 rfl
theorem C6 {f:aJ} (h:fk f=true):eE f=some (pw f):=by
 have F:=dq h
 have hs:=zI F
 unfold eE
 rw [Ps F.c,aD,Ps F.d,aD,DD (BD F.c) (BD F.d) hs.o hs.a]; rfl
end Go.Proofs.YtbmchcnkbonmkaaGreat
namespace Go.Proofs.YtbmchcnkbonmkaaGreat
open Go Go.Li
set_option linter.unusedVariables false
set_option linter.unusedSectionVars false
set_option linter.unusedSimpArgs false
theorem RS {d:aJ} {p:bD} (h:uA d=(p,0)):(ef d).length≤400∧p∈ef d∧jw d (ef d) p=true:=by
 unfold uA at h
 by_cases hl:(ef d).length≤400
 ·rw [aq hl,cond_true] at h
  cases hf:(ef d).find? (jw d (ef d)) with
  | none=>rw [hf] at h; cases h
  | some q=>rw [hf] at h; cases h; exact ⟨hl,List.mem_of_find?_eq_some hf,List.find?_some hf⟩
 ·rw [ba hl,cond_false] at h; cases h
theorem MZ {d:aJ} (hb:fk d=true):(uA d).1.ay.length≤1048576:=by
 unfold uA
 have h0:zC.ay.length≤1048576:=by show 0≤_; omega
 by_cases hl:(ef d).length≤400
 ·rw [aq hl,cond_true]
  cases hf:(ef d).find? (jw d (ef d)) with
  | none=>exact h0
  | some q=>
   have:=(wA hb (List.mem_of_find?_eq_some hf)).l
   have h8:=(dq hb).c.o8
   show q.ay.length≤_
   omega
 ·rw [ba hl,cond_false]; exact h0
section
variable {x:List Int} (B:AH x) {s:aM} (S:Src x s)
include B S
end
end Go.Proofs.YtbmchcnkbonmkaaGreat
namespace Go.Proofs.YtbmchcnkbonmkaaGreat
open Go Go.Li
set_option linter.unusedVariables false
set_option linter.unusedSectionVars false
set_option linter.unusedSimpArgs false
section
variable {d:aJ} (hb:fk d=true)
include hb
theorem G0 {l:List bD} (hl:∀ p∈l,ox d p) (hm:l.length≤1000):oC (lD.mk d) l=some 0:=by
 unfold oC
 refine (congrArg ak (jo l (fun i=>(i:Int)) rfl (fun i p hp=>?_) (e:=(l.length:Int)) ?_)).trans rfl
 ·have hi:=bd hp
  unfold oO
  rw [aq (by omega),cond_true,bx,hp,aD,show dE=some () from rfl,aD,M5 hb (hl p (List.mem_of_getElem? hp)),aD,bH (by omega)]
  rfl
 ·unfold oO
  rw [ba (by omega),cond_false]
theorem RU (h:(ef d).length≤400) {p:bD} (P:ox d p):iQ (lD.mk d) p=some (jw d (ef d) p,0):=by
 unfold iQ
 rw [G0 hb (l:=[p]) (fun q hq=>by rw [List.mem_singleton.1 hq]; exact P) (by simp),aD,xp rfl,cond_false,show dE=some () from rfl,aD,CI hb,aD,aq h,cond_true]
 simp only [Bool.not_true,cond_false,aD]
 rw [Lr hb (fun q hq=>wA hb hq) (by omega) P,aD]
 rfl
end
theorem ZT {p:bD} (h:p.ay.length≤1048576):lW p p=some true:=by
 unfold lW
 rw [show (p.da == p.da)=true by simp,cond_true,ZW _ _ (by omega),aD,aD]
 simp; rfl
theorem Pc {d:aJ} (hs:tB d):mW d=some (bif fk d then uA (pw d) else (zC,1)):=by
 unfold mW
 rw [tb hs,aD]
 cases hb:fk d with
 | false=>rfl
 | true=>
  unfold iO
  rw [C6 hb]
  simp only [Bool.not_true,cond_false,aD]
  rw [show (ak (S:=Unit) (some (Out.ret (pw d))):Option aJ)=some (pw d) from rfl,aD,show dE=some () from rfl,aD,Pq (vQ hb),aD]
  rfl
theorem Pd {d:aJ} (hs:tB d):mY d=some (bif fk d then uA (pw d) else (zC,1)):=by
 unfold mY
 rw [CH hs,aD]
 cases hb:fk d with
 | false=>rfl
 | true=>
  simp only [Bool.not_true,cond_false]
  rw [U2 hb,aD,Pr (vQ hb),aD]
  rfl
end Go.Proofs.YtbmchcnkbonmkaaGreat
