/- The image of a cone under a functor is a cone of the image of the diagram. No condition beside those that each theorem names. -/
import Derived.Test.YtgjbmjjihmfppaaGreatUs
import Derived.Test.YtgjbmjjihmfppaaGreatUw
import Derived.Test.YtgjbmjjihmfppaaGreatPj
namespace Go.Proofs.YtgjbmjjihmfppaaGreat
open Go Go.Li
set_option linter.unusedVariables false
set_option linter.unusedSectionVars false
set_option linter.unusedSimpArgs false
def Ar (f:aM) (p:bE):bE:=bE.mk (gi f.aA p.fv) (thenS p.bw f.ab)
theorem Db {d f:aM} (hd:ei d=true) (hf:ei f=true) (e:d.aH=f.aE) {p:bE} (P:mq d p):mq (jm d f) (Ar f p):=by
 have D:=fc hd
 have F:=fc hf
 have pl:=P.l
 have ol:=D.ol
 have al:=D.al
 have hL:∀ j:Int,0≤j→j < d.aE.aA→gi (thenS p.bw f.ab) j=gi f.ab (gi p.bw j):=fun j j0 j1=>x7 j0 (by omega)
 have hv:∀ j:Int,0≤j→j < d.aE.aA→(0≤gi p.bw j∧gi p.bw j < f.aE.aF.length)∧gi f.aE.aF (gi p.bw j)=p.fv∧gi f.aE.To (gi p.bw j)=gi d.aA j:=fun j j0 j1=>by rw [← e]; exact P.v j j0 j1
 have ka:=F.ob (x:=p.fv) P.x0 (by rw [← e]; exact P.x1)
 refine ⟨ka.1,ka.2,by show ((thenS p.bw f.ab).length:Int)=_; rw [ta]; exact pl,fun j j0 j1=>?_,fun a a0 a1=>?_⟩
 ·replace j1:j < d.aE.aA:=j1
  have k:=hv j j0 j1
  have kr:=F.ar k.1.1 k.1.2
  show (0≤gi (thenS p.bw f.ab) j∧gi (thenS p.bw f.ab) j < f.aH.aF.length)∧gi f.aH.aF (gi (thenS p.bw f.ab) j)=gi f.aA p.fv∧gi f.aH.To (gi (thenS p.bw f.ab) j)=gi (thenS d.aA f.aA) j
  rw [hL j j0 j1,F.fr _ k.1.1 k.1.2,F.to _ k.1.1 k.1.2,k.2.1,k.2.2,x7 j0 (by omega)]
  exact ⟨kr,rfl,rfl⟩
 ·replace a1:a < d.aE.aF.length:=a1
  have kf:=D.c.fr a0 a1
  have kt:=D.c.to a0 a1
  have k:=hv _ kf.1 kf.2
  have kA:=D.ar a0 a1
  have hs:=P.s a a0 a1
  show gk f.aH.aD (gi (thenS p.bw f.ab) (gi d.aE.aF a)) (gi (thenS d.ab f.ab) a)=gi (thenS p.bw f.ab) (gi d.aE.To a)
  rw [hL _ kf.1 kf.2,hL _ kt.1 kt.2,x7 a0 (by omega),← F.co _ _ k.1.1 k.1.2 kA.1 (by rw [← e]; exact kA.2) (by rw [k.2.2,← e,D.fr a a0 a1]),← hs,e]
end Go.Proofs.YtgjbmjjihmfppaaGreat
namespace Go.Proofs.YtgjbmjjihmfppaaGreat
open Go Go.Li
set_option linter.unusedVariables false
set_option linter.unusedSectionVars false
set_option linter.unusedSimpArgs false
def yD (d f:aM):Bool×Int:=bif decide ((cb d).length≤400) && decide ((cb (jm d f)).length≤400) then
 (match (cb d).find? (e7 d (cb d)) with | some p=>(e7 (jm d f) (cb (jm d f)) (Ar f p),0) | none=>(false,4)) else (false,3)
def sa (d f:aM):Bool×Int:=bif ei d && ei f then (bif tH d.aH f.aE then yD d f else (false,5)) else (false,1)
section
variable {d f:aM} (hd:ei d=true) (hf:ei f=true) (e:d.aH=f.aE)
include hd hf e
theorem Ke {p:bE} (P:mq d p):p.bw.length≤1048576∧∀ x∈p.bw,0≤x∧x < f.ab.length:=by
 have D:=fc hd
 have F:=fc hf
 have pl:=P.l
 have o8:=D.c.o8
 refine ⟨by omega,fun x hx=>?_⟩
 obtain ⟨i,hi,rfl⟩:=List.mem_iff_getElem.1 hx
 replace hi:i < p.bw.length:=hi
 have:=(P.v (i:Int) (by omega) (by omega)).1
 unfold gi at this
 rw [List.getD_eq_getElem?_getD,Int.toNat_natCast,List.getElem?_eq_getElem hi,e] at this
 rw [F.al]
 exact this
theorem J7 {p:bE} (P:mq d p):kG p f=some (Ar f p):=by
 have F:=fc hf
 obtain ⟨h1,h2⟩:=Ke hd hf e P
 unfold kG
 rw [F.wz P.x0 (by rw [← e]; exact P.x1),aG,C9 _ _ h1 h2,aG]; rfl
theorem S4 {p:bE} (P:mq d p):nL p f=some (Ar f p):=by
 have F:=fc hf
 obtain ⟨h1,h2⟩:=Ke hd hf e P
 unfold nL
 rw [F.wz P.x0 (by rw [← e]; exact P.x1),aG,BT _ _ h1 h2,aG]; rfl
theorem Qj (h:(cb d).length≤400) {m:List bE}:jT (iY.mk d (jm d f) f (cb d) m)=some ((cb d).filter (e7 d (cb d))):=by
 have hC:∀ q∈cb d,mq d q:=fun q hq=>uj hd hq
 unfold jT
 generalize hl:cb d=l at h hC ⊢
 refine (congrArg ak (n7 l (fun i=>((l.take i).filter (e7 d l),(i:Int))) rfl (fun i p hp=>?_) (e:=(l.filter (e7 d l),(l.length:Int))) ?_)).trans rfl
 ·have hi:=bm hp
  show fV (iY.mk d (jm d f) f l m) ((l.take i).filter (e7 d l),(i:Int))=_
  unfold fV
  dsimp only
  have Fh:((l.take i).filter (e7 d l)).length≤400:=Nat.le_trans (List.length_filter_le _ _) (by rw [List.length_take]; omega)
  rw [av (by omega),cond_true,bu,hp,aG,Cn hd hC (by omega) (hC p (List.mem_of_getElem? hp)),aG,bN (by omega),dF (by omega) (by omega)]
  have e1:(l.take (i+1)).filter (e7 d l)=(l.take i).filter (e7 d l)++(if e7 d l p then [p] else []):=by
   rw [List.take_add_one,hp,List.filter_append]
   congr 1
   show List.filter (e7 d l) [p]=_
   rw [List.filter_cons]
   cases e7 d l p <;> rfl
  rw [e1]
  cases e7 d l p with
  | false=>rw [if_neg (by decide),List.append_nil]; rfl
  | true=>rfl
 ·show fV (iY.mk d (jm d f) f l m) ((l.take l.length).filter (e7 d l),(l.length:Int))=_
  unfold fV
  dsimp only
  rw [bd (by omega),cond_false,List.take_length]
end
theorem NI {d f:aM} (ds:ik d) (fs:ik f):lK d f=some (sa d f):=by
 unfold lK pX pW sa yD
 have hsm:∀ c∈[d,f],ik c:=fun c hc=>by
  rcases List.mem_cons.1 hc with rfl | hc
  ·exact ds
  ·rw [List.mem_singleton.1 hc]; exact fs
 rw [CJ [d,f] (by simp) hsm,aG]
 have dw:[d,f].all ei=(ei d && ei f):=by simp
 rw [dw]
 cases hb:ei d && ei f with
 | false=>rfl
 | true=>
  rw [Bool.and_eq_true] at hb
  obtain ⟨hd,hf⟩:=hb
  simp only [Bool.not_true,cond_false,cond_true]
  rw [yT ds.t,aG]
  cases hs:tH d.aH f.aE with
  | false=>rfl
  | true=>
   have e:=xW.1 hs
   have he:=Da hd hf e
   simp only [Bool.not_true,cond_false,cond_true]
   unfold pA
   rw [FP (fc hd).toFHead (fc hf).toFHead e ds fs,aG,yC hd,aG,yC he,aG]
   by_cases h1:(cb d).length≤400
   ·rw [av h1]
    by_cases h2:(cb (jm d f)).length≤400
    ·rw [av h2]
     simp only [cond_true,Bool.and_self]
     show ak (S:=Unit) (ak (S:=Unit) (kX (iY.mk d (jm d f) f (cb d) (cb (jm d f)))>>=fun CI=>(bif !(CI.2) then (some (Out.ret (false,(4:Int)))) else (some (Out.ret (CI.1,(0:Int))))))>>=fun pr=>(some (Out.ret ((pr.1,pr.2)))))=_
     unfold kX
     rw [Qj hd hf e h1,aG]
     have hh:((cb d).filter (e7 d (cb d))).head? = (cb d).find? (e7 d (cb d)):=List.head?_filter ..
     cases hF:(cb d).filter (e7 d (cb d)) with
     | nil=>rw [hF] at hh; rw [← hh]; rfl
     | cons p l=>
      rw [hF] at hh
      rw [← hh]
      have hp:p∈cb d:=(List.mem_filter.1 (by rw [hF]; simp)).1
      have P:=uj hd hp
      rw [show (((p :: l).length:Int) == (0:Int))=false by rw [beq_eq_false_iff_ne]; simp; omega,cond_false,show idx (p :: l) (0:Int)=some p from rfl,aG]
      unfold lW
      rw [J7 hd hf e P,aG,Cn he (fun q hq=>uj he hq) (by omega) (Db hd hf e P),aG]
      rfl
    ·rw [bd h2]; rfl
   ·rw [bd h1]; rfl
theorem NJ {d f:aM} (ds:ik d) (fs:ik f):lM d f=some (sa d f):=by
 unfold lM qV sa
 rw [BR ds,aG,BR fs,aG]
 cases hd:ei d with
 | false=>rfl
 | true=>
  cases hf:ei f with
  | false=>rfl
  | true=>
   simp only [Bool.not_true,cond_false,cond_true,aG,Bool.and_self]
   rw [Ja ds.t,aG]
   cases hs:tH d.aH f.aE with
   | false=>rfl
   | true=>
    have e:=xW.1 hs
    have he:=Da hd hf e
    simp only [Bool.not_true,cond_false,cond_true]
    rw [NX (fc hd).toFHead (fc hf).toFHead e ds fs,aG]
    show ak (S:=Unit) (jG d (jm d f) f>>=fun Ie=>(some (Out.ret ((Ie.1,Ie.2)))))=_
    have key:jG d (jm d f) f=some (yD d f):=by
     suffices h:Ok (jG d (jm d f) f) fun y=>y=yD d f by
      obtain ⟨y,h1,h2⟩:=h
      rw [h1,h2]
     unfold jG qX yD
     rw [IH hd,aG,IH he,aG]
     by_cases h1:(cb d).length≤400
     ·rw [av h1]
      by_cases h2:(cb (jm d f)).length≤400
      ·rw [av h2]
       simp only [cond_true,Bool.and_self]
       have hC:∀ q∈cb d,mq d q:=fun q hq=>uj hd hq
       generalize hl:cb d=l at h1 hC ⊢
       refine jk (ol (fun i:Int=>(0≤i∧i≤l.length)∧(l.take i.toNat).find? (e7 d l)=none) (fun i=>(l.length - i).toNat) ⟨⟨by show (0:Int)≤0; omega,by show (0:Int)≤_; omega⟩,rfl⟩ ?_)
       rintro i ⟨⟨i0,i1⟩,hn⟩
       show Ok (oB d (jm d f) f (l,cb (jm d f),0) i) _
       unfold oB
       dsimp only
       refine od (fun hi=>oe (vY i0 hi) (oe (Kd hd hC (by omega) (hC _ (List.getElem_mem _))) ?_)) fun hi=>os ⟨rfl,os ?_⟩
       ·have hg:l[i.toNat]? = some l[i.toNat]:=List.getElem?_eq_getElem (by omega)
        have e1:(l.take (i.toNat+1)).find? (e7 d l)=if e7 d l l[i.toNat] then some l[i.toNat] else none:=by
         rw [List.take_add_one,hg,List.find?_append,hn]
         show List.find? (e7 d l) [l[i.toNat]]=_
         rw [List.find?_cons]
         cases e7 d l l[i.toNat] <;> rfl
        cases hu:e7 d l l[i.toNat] with
        | true=>
         rw [hu] at e1
         have e2:l.find? (e7 d l)=some l[i.toNat]:=by
          have h9:(l.take (i.toNat+1)++l.drop (i.toNat+1)).find? (e7 d l)=some l[i.toNat]:=by rw [List.find?_append,e1]; rfl
          rwa [List.take_append_drop] at h9
         have P:=hC _ (List.getElem_mem (l:=l) (n:=i.toNat) (by omega))
         rw [cond_true,e2]
         exact oe (vY i0 hi) (oe (S4 hd hf e P) (oe (Kd he (fun q hq=>uj he hq) (by omega) (Db hd hf e P)) (os rfl)))
        | false=>
         rw [hu] at e1
         rw [cond_false]
         refine os ⟨⟨⟨?_,?_⟩,?_⟩,?_⟩
         all_goals (try dsimp only)
         all_goals rw [w1 i0 hi (by omega)]
         ·omega
         ·omega
         ·rw [show (i+1).toNat=i.toNat+1 by omega,e1]; rfl
         ·omega
       ·obtain rfl:i=l.length:=by omega
        rw [Int.toNat_natCast,List.take_length] at hn
        rw [hn]; rfl
      ·rw [bd h2]; exact ⟨_,rfl,rfl⟩
     ·rw [bd h1]; exact ⟨_,rfl,rfl⟩
    rw [key]; rfl
end Go.Proofs.YtgjbmjjihmfppaaGreat
namespace Go.Proofs.YtgjbmjjihmfppaaGreat
open Go Go.Li
set_option linter.unusedVariables false
set_option linter.unusedSectionVars false
set_option linter.unusedSimpArgs false
section
variable {d:aM} (hb:ei d=true)
include hb
theorem NG {l:List bE} (hl:∀ p∈l,mq d p) (hm:l.length≤1000):nM (qE.mk d) l=some 0:=by
 unfold nM
 refine (congrArg ak (n7 l (fun i=>(i:Int)) rfl (fun i p hp=>?_) (e:=(l.length:Int)) ?_)).trans rfl
 ·have hi:=bm hp
  unfold oC
  rw [av (by omega),cond_true,bu,hp,aG,show fK=some () from rfl,aG,Ea hb (hl p (List.mem_of_getElem? hp)),aG,bN (by omega)]
  rfl
 ·unfold oC
  rw [bd (by omega),cond_false]
theorem NH (h:(cb d).length≤400) {p:bE} (P:mq d p):mP (qE.mk d) p=some (e7 d (cb d) p,0):=by
 unfold mP
 rw [NG hb (l:=[p]) (fun q hq=>by rw [List.mem_singleton.1 hq]; exact P) (by simp),aG,yS rfl,cond_false,show fK=some () from rfl,aG,yC hb,aG,av h,cond_true]
 simp only [Bool.not_true,cond_false,aG]
 rw [Cn hb (fun q hq=>uj hb hq) (by omega) P,aG]
 rfl
end
section
variable {x:List Int} (B:zw x) {s:aK} (S:Src x s)
include B S
theorem Wi:Ok (lS s) fun y=>(ik y.1∧ik y.2.1)∧Src x y.2.2:=by
 unfold lS
 refine jk (ob (Ya B S) fun d hd=>ob (ed B (S.on hd.2) _) fun n hn=>?_)
 have S1:Src x (aK.mk s.Code n.2.At n.2.ao):=S.on hn.2
 refine oc (fun _=>ob (EK B S1) fun f hf=>os ⟨⟨hd.1,hf.1⟩,S.on hf.2⟩) fun _=>oe (BR hd.1) (oc (fun _=>ob (EK B S1) fun f hf=>os ⟨⟨hd.1,hf.1⟩,S.on hf.2⟩) fun hz=>?_)
 have F:=fc (show ei d.1=true by simpa using hz)
 have T:=Wj F.d
 refine ob (ed B S1 _) fun m hm=>oc (fun _=>ob (zy T) fun f hf=>os ⟨⟨hd.1,hf.1.small T T⟩,S.on hm.2⟩) fun _=>ob (Iy B (S.on hm.2)) fun c hc=>ob (EJ T hc.1) fun b _=>?_
 have S2:Src x (aK.mk s.Code c.2.At c.2.ao):=S.on hc.2
 have fin:Ok (iS (aK.mk s.Code c.2.At c.2.ao) d.1.aH 4 10) fun y=>ik y.1∧Src x y.2:=(RD B S2 T (by omega) (by omega)).mono fun y hy=>by
  obtain ⟨⟨e,U,F2,_⟩,S3⟩:=hy
  exact ⟨F2.small T U,S3⟩
 exact oc (fun _=>ob (Gl T hc.1) fun l hl=>od (fun hp=>ob (ed B S2 _) fun u hu=>oi hu.1.1 (hu.1.2 (by omega)) fun g hg=>os ⟨⟨hd.1,(hl.2.1 g hg).small T hc.1⟩,S.on hu.2⟩) fun _=>ob fin fun g hg=>os ⟨⟨hd.1,hg.1⟩,S.on hg.2⟩) fun _=>ob fin fun g hg=>os ⟨⟨hd.1,hg.1⟩,S.on hg.2⟩
end
theorem P8 {x:List Int} (B:zw x):Ok (jB x) fun y=>ik y.1∧ik y.2:=by
 unfold jB
 refine jk (ob (Wl B) fun y hy=>?_)
 obtain ⟨s,rfl,S⟩:=hy
 show Ok (lS (aK.mk x s.At s.ao)>>=_) _
 exact ob (Wi B S.on') fun f hf=>os hf.1
theorem P5 {x0:List Int} (hl:x0.length≤maxLen∧∀ y∈x0,0≤y∧y < 256):jU x0=some true:=by
 unfold jU
 have Ez:rX x0=some (decide ((x0.length:Int) > 4096)):=rfl
 rw [Ez,aG]
 by_cases hb:(x0.length:Int) > 4096
 ·rw [av hb,cond_true]; rfl
 rw [bd hb,cond_false]
 obtain ⟨⟨d,f⟩,e,ds,fs⟩:=P8 (x:=x0) ⟨by omega,hl.2⟩
 dsimp only at ds fs
 rw [e,aG]
 dsimp only
 rw [NI ds fs,aG,NJ ds fs,aG,yS rfl,cond_false,show ((sa d f).1 == (sa d f).1)=true by simp]
 simp only [Bool.not_true,aG,cond_false]
 cases hd:ei d with
 | false=>unfold sa; rw [hd]; rfl
 | true=>
  cases hf:ei f with
  | false=>unfold sa; rw [hd,hf]; rfl
  | true=>
   cases hs:tH d.aH f.aE with
   | false=>unfold sa; rw [hd,hf,hs]; rfl
   | true=>
    have et:=xW.1 hs
    have he:=Da hd hf et
    by_cases h1:(cb d).length≤400
    ·by_cases h2:(cb (jm d f)).length≤400
     ·have hk:sa d f=(match (cb d).find? (e7 d (cb d)) with | some p=>(e7 (jm d f) (cb (jm d f)) (Ar f p),0) | none=>(false,4)):=by
       unfold sa yD; rw [hd,hf,hs,av h1,av h2]; rfl
      have J6:Iw d=(match (cb d).find? (e7 d (cb d)) with | some p=>(p,0) | none=>(zC,4)):=by
       unfold Iw; rw [av h1]; rfl
      cases Eb:(cb d).find? (e7 d (cb d)) with
      | none=>
       rw [Eb] at hk J6
       dsimp only at hk J6
       rw [hk,J4 ds,aG,hd,cond_true,J6]; rfl
      | some p=>
       rw [Eb] at hk J6
       dsimp only at hk J6
       have hp:p∈cb d:=List.mem_of_find?_eq_some Eb
       have P:=uj hd hp
       have Q:=Db hd hf et P
       rw [hk,J4 ds,aG,hd,cond_true,J6]
       have ha:fI [d,f]=some true:=by
        rw [CJ [d,f] (by simp) (fun c hc=>by
         rcases List.mem_cons.1 hc with rfl | hc
         ·exact ds
         ·rw [List.mem_singleton.1 hc]; exact fs)]
        simp [hd,hf]
       have hi:kK d p f=some (Ar f p,0):=by
        unfold kK
        rw [ha,aG,Ea hd P]
        simp only [Bool.not_true,cond_false,aG]
        rw [yT ds.t,aG,hs]
        simp only [Bool.not_true,aG,cond_false]
        rw [J7 hd hf et P,aG]; rfl
       have ht:iD d f=some (jm d f,0):=by
        unfold iD
        rw [ha,aG]
        simp only [Bool.not_true,cond_false]
        rw [yT ds.t,aG,hs]
        simp only [Bool.not_true,cond_false]
        rw [FP (fc hd).toFHead (fc hf).toFHead et ds fs,aG]; rfl
       have hL:mA (jm d f) (Ar f p)=some (e7 (jm d f) (cb (jm d f)) (Ar f p),0):=by
        unfold mA
        rw [yB (NK (fc he)),aG,he]
        simp only [Bool.not_true,cond_false]
        rw [show qY=some () from rfl,aG,NH he h2 Q,aG]; rfl
       have hw:aj (aj ((0:Int)+0)+0)=0:=rfl
       show (ak (S:=Unit) (kK d p f>>=fun Ig=>iD d f>>=fun Ih=>mA Ih.1 Ig.1>>=fun Ii=>((bif (aj (aj (Ig.2+Ih.2)+Ii.2)) == ((0:Int)) then (some ((Ii.1) == (e7 (jm d f) (cb (jm d f)) (Ar f p)))) else (some (false))))>>=fun PV=>(some (Out.ret (PV)))))=some true
       rw [hi,aG,ht,aG]
       dsimp only
       rw [hL,aG]
       dsimp only
       rw [hw]
       simp
       rfl
     ·have hk:sa d f=(false,3):=by unfold sa yD; rw [hd,hf,hs,av h1,bd h2]; rfl
      rw [hk]; rfl
    ·have hk:sa d f=(false,3):=by unfold sa yD; rw [hd,hf,hs,bd h1]; rfl
     rw [hk]; rfl
end Go.Proofs.YtgjbmjjihmfppaaGreat
