/- Natural maps that are drawn. No condition beside those that each theorem names. -/
import Derived.Test.YtcnehblmgfbfoaaGreatVp
import Derived.Test.YtcnehblmgfbfoaaGreatVj
set_option linter.unusedVariables false
set_option linter.unusedSectionVars false
set_option linter.unusedSimpArgs false
namespace Go.Proofs.YtcnehblmgfbfoaaGreat
open Go Go.Li
def Jn {S1 R:Type} (P:S1→Prop):Out S1 R→Prop
 | .norm s=>P s
 | _=>False
theorem ojn {S S1 R:Type} {t:Nat} {s0:S1} {m:Option (Out S1 R)} {f:S1→Option (Out S R)} {Q:Out S R→Prop} {P:S1→Prop} (hm:Ok m (Jn P)) (h:∀ s,P s→Ok (f s) Q):Ok (jn t s0 m f) Q:=by
 obtain ⟨o,rfl,ho⟩:=hm
 cases o with
 | norm s=>exact h s ho
 | _=>exact ho.elim
theorem TM {f:aK} (hs:ib f) (F:SF f):Sh f:=
 ⟨F.cat,hs.c,F.sl,fun x x0 x1=>by have:=F.s x x0 x1; omega,F.al,F.act⟩
section
variable {x:List Int} (B:Fe x)
include B
theorem aal {s:aL} (S:Src x s) {size:Int} (z0:0≤size) (z1:size≤100):Ok (mY s size) fun y=>o4 y.1∧Src x y.2:=by
 unfold mY
 refine ly (ob (YU B S z0 z1) fun p hp=>ob (db B (S.on (h:=p.2.2.aj) hp.2.2) _) fun u hu=>?_)
 have hf:=hp.1
 refine ojn (P:=fun z=>ib (aK.mk (aH.mk z.1 z.2.1 z.2.2.1 z.2.2.2.1 z.2.2.2.2.1) z.2.2.2.2.2.1 z.2.2.2.2.2.2)) (oc (fun _=>os hf) fun _=>os hp.2.1) ?_
 rintro ⟨g0,g1,g2,g3,g4,g5,g6⟩ hg
 dsimp only at hg ⊢
 generalize ND:aK.mk (aH.mk g0 g1 g2 g3 g4) g5 g6=g at hg
 refine oe (DM hf hg) ?_
 have CJ:=hu.2
 refine ojn (P:=fun z=>(0≤z.1∧z.1≤x.length)∧o4 (bX.mk (aK.mk (aH.mk z.2.2.1 z.2.2.2.1 z.2.2.2.2.1 z.2.2.2.2.2.1 z.2.2.2.2.2.2.1) z.2.2.2.2.2.2.2.1 z.2.2.2.2.2.2.2.2.1) (aK.mk (aH.mk z.2.2.2.2.2.2.2.2.2.1 z.2.2.2.2.2.2.2.2.2.2.1 z.2.2.2.2.2.2.2.2.2.2.2.1 z.2.2.2.2.2.2.2.2.2.2.2.2.1 z.2.2.2.2.2.2.2.2.2.2.2.2.2.1) z.2.2.2.2.2.2.2.2.2.2.2.2.2.2.1 z.2.2.2.2.2.2.2.2.2.2.2.2.2.2.2.1) z.2.2.2.2.2.2.2.2.2.2.2.2.2.2.2.2)) (oc (fun hb=>?_) fun _=>?_) ?_
 ·simp only [Bool.and_eq_true,x9] at hb
  have F:=zA hb.1
  have G:=zA hb.2.1
  have Fs:=TM hf F
  have self:∀ {a h:Int},0≤a→a≤x.length→Ok (iX p.1>>=fun y=>iY p.1 p.1 y>>=fun z=>some (Out.norm (a,h,z.aF.aC.aD,z.aF.aC.aG,z.aF.aC.To,z.aF.aC.aI,z.aF.aC.aB,z.aF.aP,z.aF.aO,z.aM.aC.aD,z.aM.aC.aG,z.aM.aC.To,z.aM.aC.aI,z.aM.aC.aB,z.aM.aP,z.aM.aO,z.cD):Out _ (bX×aL))) (Jn fun z=>(0≤z.1∧z.1≤x.length)∧o4 (bX.mk (aK.mk (aH.mk z.2.2.1 z.2.2.2.1 z.2.2.2.2.1 z.2.2.2.2.2.1 z.2.2.2.2.2.2.1) z.2.2.2.2.2.2.2.1 z.2.2.2.2.2.2.2.2.1) (aK.mk (aH.mk z.2.2.2.2.2.2.2.2.2.1 z.2.2.2.2.2.2.2.2.2.2.1 z.2.2.2.2.2.2.2.2.2.2.2.1 z.2.2.2.2.2.2.2.2.2.2.2.2.1 z.2.2.2.2.2.2.2.2.2.2.2.2.2.1) z.2.2.2.2.2.2.2.2.2.2.2.2.2.2.1 z.2.2.2.2.2.2.2.2.2.2.2.2.2.2.2.1) z.2.2.2.2.2.2.2.2.2.2.2.2.2.2.2.2)):=by
   intro a h a0 a1
   have TN:=Kk F
   exact oe (Sp Fs) (oe (M7 hf hf TN.1 TN.2) (os ⟨⟨a0,a1⟩,hf,hf,TN.1,TN.2⟩))
  refine oe (UX Fs) (od (fun hc=>?_) fun _=>?_)
  ·subst ND
   refine ob (YY (f:=p.1) ⟨Fs,TM hg G,hb.2.2.symm,F.one⟩ (by omega) (by omega) (by omega)) fun l hl=>od (fun P8=>?_) fun _=>?_
   ·refine ob (db B (S.on (h:=u.2.aj) CJ) _) fun v hv=>oi hv.1.1 (hv.1.2 (by omega)) fun q hq=>?_
    have PJ:=PS.small Fs (hl.2 q hq)
    refine oc (fun _=>self hv.2.a0 hv.2.a1) fun _=>os ⟨⟨hv.2.a0,hv.2.a1⟩,hf,hg,PJ.1,PJ.2⟩
   ·exact oc (fun _=>self CJ.a0 CJ.a1) fun _=>os ⟨⟨CJ.a0,CJ.a1⟩,hf,hg,by simp,jo⟩
  ·subst ND
   exact oc (fun _=>self CJ.a0 CJ.a1) fun _=>os ⟨⟨CJ.a0,CJ.a1⟩,hf,hg,by simp,jo⟩
 ·subst ND
  exact os ⟨⟨CJ.a0,CJ.a1⟩,hf,hg,by simp,jo⟩
 ·rintro ⟨a,h,m0,m1,m2,m3,m4,m5,m6,m7,m8,m9,m10,m11,m12,m13,ps⟩ ⟨⟨a0,a1⟩,hm⟩
  dsimp only at a0 a1 hm ⊢
  have hk:=hm.k
  have hr:=hm.r
  dsimp only at hk hr
  refine ob (db B (S.at_ (h:=h) a0 a1) _) fun v hv=>?_
  have T:=S.on (h:=v.2.aj) hv.2
  refine oc (fun _=>od (fun P8=>?_) fun _=>os ⟨hm,T⟩) fun _=>os ⟨hm,T⟩
  refine oe (vW ps hk hr) (ob (db B T _) fun i hi=>?_)
  have EH:=hi.1.2 (by omega)
  have YJ:=hr _ (j6 hi.1.1 EH)
  refine oe (cb hi.1.1 EH) (od (fun hr0=>?_) fun _=>?_)
  ·refine oe (cb hi.1.1 EH) (oe (cb hi.1.1 EH) (ob (db B (S.on (h:=i.2.aj) hi.2) _) fun j hj=>ob (db B (S.on (h:=j.2.aj) hj.2) _) fun k CI=>ob (db B (S.on (h:=k.2.aj) CI.2) _) fun n hn=>?_))
   obtain ⟨q,eq⟩:=afA n.1
   exact oe eq (oe (bQ hj.1.1 (hj.1.2 (by omega))) (os ⟨⟨hm.s,hm.t,by dsimp only; rw [List.length_set]; exact hk,tF hr (by rw [List.length_set]; exact YJ)⟩,S.on hn.2⟩))
  ·exact oe (cb hi.1.1 EH) (os ⟨⟨hm.s,hm.t,by dsimp only; rw [List.length_set]; exact hk,tF hr (by simp)⟩,S.on hi.2⟩)
end
end Go.Proofs.YtcnehblmgfbfoaaGreat
