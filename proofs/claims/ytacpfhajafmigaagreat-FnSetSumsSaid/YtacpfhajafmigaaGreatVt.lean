/- Natural maps that are drawn. No condition beside those that each theorem names. -/
import Derived.Test.YtacpfhajafmigaaGreatVp
import Derived.Test.YtacpfhajafmigaaGreatVs
namespace Go.Proofs.YtacpfhajafmigaaGreat
open Go Go.Li
def Jn {S1 R:Type} (P:S1→Prop):Out S1 R→Prop
 | .norm s=>P s
 | _=>False
theorem ojn {S S1 R:Type} {t:Nat} {s0:S1} {m:Option (Out S1 R)} {f:S1→Option (Out S R)} {Q:Out S R→Prop} {P:S1→Prop} (hm:Ok m (Jn P)) (h:∀ s,P s→Ok (f s) Q):Ok (jn t s0 m f) Q:=by
 obtain ⟨o,rfl,ho⟩:=hm
 cases o with
 | norm s=>exact h s ho
 | _=>exact ho.elim
theorem sh_of {f:aF} (hs:SFSmall f) (F:SF f):Sh f:=
 ⟨F.cat,hs.c,F.sl,fun x x0 x1=>by have:=F.s x x0 x1; omega,F.al,F.act⟩
section
variable {x:List Int} (B:Byt x)
include B
theorem map19 {s:aL} (S:Src x s) {size:Int} (z0:0≤size) (z1:size≤100):Ok (jV s size) fun y=>SMSmall y.1∧Src x y.2:=by
 unfold jV
 refine orr (ob (pair19 B S z0 z1) fun p hp=>ob (nextOk B (S.on (h:=p.2.2.Hash) hp.2.2) _) fun u hu=>?_)
 have hf:=hp.1
 refine ojn (P:=fun z=>SFSmall (aF.mk (aI.mk z.1 z.2.1 z.2.2.1 z.2.2.2.1 z.2.2.2.2.1) z.2.2.2.2.2.1 z.2.2.2.2.2.2)) (oc (fun _=>os hf) fun _=>os hp.2.1) ?_
 rintro ⟨g0,g1,g2,g3,g4,g5,g6⟩ hg
 dsimp only at hg ⊢
 generalize hgg:aF.mk (aI.mk g0 g1 g2 g3 g4) g5 g6=g at hg
 refine oe (specBetween hf hg) ?_
 have hu2:=hu.2
 refine ojn (P:=fun z=>(0≤z.1∧z.1≤x.length)∧SMSmall (aZ.mk (aF.mk (aI.mk z.2.2.1 z.2.2.2.1 z.2.2.2.2.1 z.2.2.2.2.2.1 z.2.2.2.2.2.2.1) z.2.2.2.2.2.2.2.1 z.2.2.2.2.2.2.2.2.1) (aF.mk (aI.mk z.2.2.2.2.2.2.2.2.2.1 z.2.2.2.2.2.2.2.2.2.2.1 z.2.2.2.2.2.2.2.2.2.2.2.1 z.2.2.2.2.2.2.2.2.2.2.2.2.1 z.2.2.2.2.2.2.2.2.2.2.2.2.2.1) z.2.2.2.2.2.2.2.2.2.2.2.2.2.2.1 z.2.2.2.2.2.2.2.2.2.2.2.2.2.2.2.1) z.2.2.2.2.2.2.2.2.2.2.2.2.2.2.2.2)) (oc (fun hb=>?_) fun _=>?_) ?_
 ·simp only [Bool.and_eq_true,sameB_eq] at hb
  have F:=sf_of hb.1
  have G:=sf_of hb.2.1
  have Fs:=sh_of hf F
  have self:∀ {a h:Int},0≤a→a≤x.length→Ok (gN p.1>>=fun y=>eI p.1 p.1 y>>=fun z=>some (Out.norm (a,h,z.aK.aA.aH,z.aK.aA.aG,z.aK.aA.To,z.aK.aA.aO,z.aK.aA.aE,z.aK.aM,z.aK.aN,z.aQ.aA.aH,z.aQ.aA.aG,z.aQ.aA.To,z.aQ.aA.aO,z.aQ.aA.aE,z.aQ.aM,z.aQ.aN,z.bN):Out _ (aZ×aL))) (Jn fun z=>(0≤z.1∧z.1≤x.length)∧SMSmall (aZ.mk (aF.mk (aI.mk z.2.2.1 z.2.2.2.1 z.2.2.2.2.1 z.2.2.2.2.2.1 z.2.2.2.2.2.2.1) z.2.2.2.2.2.2.2.1 z.2.2.2.2.2.2.2.2.1) (aF.mk (aI.mk z.2.2.2.2.2.2.2.2.2.1 z.2.2.2.2.2.2.2.2.2.2.1 z.2.2.2.2.2.2.2.2.2.2.2.1 z.2.2.2.2.2.2.2.2.2.2.2.2.1 z.2.2.2.2.2.2.2.2.2.2.2.2.2.1) z.2.2.2.2.2.2.2.2.2.2.2.2.2.2.1 z.2.2.2.2.2.2.2.2.2.2.2.2.2.2.2.1) z.2.2.2.2.2.2.2.2.2.2.2.2.2.2.2.2)):=by
   intro a h a0 a1
   have hsp:=selfP_small F
   exact oe (specSelf Fs) (oe (specSetMap hf hf hsp.1 hsp.2) (os ⟨⟨a0,a1⟩,hf,hf,hsp.1,hsp.2⟩))
  refine oe (countOk Fs) (od (fun hc=>?_) fun _=>?_)
  ·subst hgg
   refine ob (mapsOk (f:=p.1) ⟨Fs,sh_of hg G,hb.2.2.symm,F.one⟩ (by omega) (by omega) (by omega)) fun l hl=>od (fun hpos=>?_) fun _=>?_
   ·refine ob (nextOk B (S.on (h:=u.2.Hash) hu2) _) fun v hv=>oi hv.1.1 (hv.1.2 (by omega)) fun q hq=>?_
    have hqs:=PS.small Fs (hl.2 q hq)
    refine oc (fun _=>self hv.2.a0 hv.2.a1) fun _=>os ⟨⟨hv.2.a0,hv.2.a1⟩,hf,hg,hqs.1,hqs.2⟩
   ·exact oc (fun _=>self hu2.a0 hu2.a1) fun _=>os ⟨⟨hu2.a0,hu2.a1⟩,hf,hg,by simp,nil_all⟩
  ·subst hgg
   exact oc (fun _=>self hu2.a0 hu2.a1) fun _=>os ⟨⟨hu2.a0,hu2.a1⟩,hf,hg,by simp,nil_all⟩
 ·subst hgg
  exact os ⟨⟨hu2.a0,hu2.a1⟩,hf,hg,by simp,nil_all⟩
 ·rintro ⟨a,h,m0,m1,m2,m3,m4,m5,m6,m7,m8,m9,m10,m11,m12,m13,ps⟩ ⟨⟨a0,a1⟩,hm⟩
  dsimp only at a0 a1 hm ⊢
  have hk:=hm.k
  have hr:=hm.r
  dsimp only at hk hr
  refine ob (nextOk B (S.at_ (h:=h) a0 a1) _) fun v hv=>?_
  have T:=S.on (h:=v.2.Hash) hv.2
  refine oc (fun _=>od (fun hpos=>?_) fun _=>os ⟨hm,T⟩) fun _=>os ⟨hm,T⟩
  refine oe (specOwn2 ps hk hr) (ob (nextOk B T _) fun i hi=>?_)
  have hi1:=hi.1.2 (by omega)
  have hrg:=hr _ (gr_mem hi.1.1 hi1)
  refine oe (idx_gr hi.1.1 hi1) (od (fun hr0=>?_) fun _=>?_)
  ·refine oe (idx_gr hi.1.1 hi1) (oe (idx_gr hi.1.1 hi1) (ob (nextOk B (S.on (h:=i.2.Hash) hi.2) _) fun j hj=>ob (nextOk B (S.on (h:=j.2.Hash) hj.2) _) fun k hk2=>ob (nextOk B (S.on (h:=k.2.Hash) hk2.2) _) fun n hn=>?_))
   obtain ⟨q,eq⟩:=quo5 n.1
   exact oe eq (oe (bS hj.1.1 (hj.1.2 (by omega))) (os ⟨⟨hm.s,hm.t,by dsimp only; rw [List.length_set]; exact hk,set_all hr (by rw [List.length_set]; exact hrg)⟩,S.on hn.2⟩))
  ·exact oe (idx_gr hi.1.1 hi1) (os ⟨⟨hm.s,hm.t,by dsimp only; rw [List.length_set]; exact hk,set_all hr (by simp)⟩,S.on hi.2⟩)
end
end Go.Proofs.YtacpfhajafmigaaGreat
