/- Natural maps that are drawn; the law of SetMaps, on plain data. No condition beside those that each theorem names. -/
import Derived.Test.YtjfahghkjblgjaaGreatVp
import Derived.Test.YtjfahghkjblgjaaGreatVq
namespace Go.Proofs.YtjfahghkjblgjaaGreat
open Go Go.Li
def Jn {S1 R:Type} (P:S1→Prop):Out S1 R→Prop
 | .norm s=>P s
 | _=>False
theorem ojn {S S1 R:Type} {t:Nat} {s0:S1} {m:Option (Out S1 R)} {f:S1→Option (Out S R)} {Q:Out S R→Prop} {P:S1→Prop} (hm:Ok m (Jn P)) (h:∀ s,P s→Ok (f s) Q):Ok (jn t s0 m f) Q:=by
 obtain ⟨o,rfl,ho⟩:=hm
 cases o with
 | norm s=>exact h s ho
 | _=>exact ho.elim
theorem sh_of {f:MSetFunctor} (hs:SFSmall f) (F:SF f):Sh f:=
 ⟨F.cat,hs.c,F.sl,fun x x0 x1=>by have:=F.s x x0 x1; omega,F.al,F.act⟩
section
variable {x:List Int} (B:Byt x)
include B
theorem map19 {s:ML01Source} (S:Src x s) {size:Int} (z0:0≤size) (z1:size≤100):Ok (spec_l19Map s size) fun y=>SMSmall y.1∧Src x y.2:=by
 unfold spec_l19Map
 refine orr (ob (pair19 B S z0 z1) fun p hp=>ob (nextOk B (S.on (h:=p.2.2.Hash) hp.2.2) _) fun u hu=>?_)
 have hf:=hp.1
 refine ojn (P:=fun z=>SFSmall (MSetFunctor.mk (MCategory.mk z.1 z.2.1 z.2.2.1 z.2.2.2.1 z.2.2.2.2.1) z.2.2.2.2.2.1 z.2.2.2.2.2.2)) (oc (fun _=>os hf) fun _=>os hp.2.1) ?_
 rintro ⟨g0,g1,g2,g3,g4,g5,g6⟩ hg
 dsimp only at hg ⊢
 generalize hgg:MSetFunctor.mk (MCategory.mk g0 g1 g2 g3 g4) g5 g6=g at hg
 refine oe (specBetween hf hg) ?_
 have hu2:=hu.2
 refine ojn (P:=fun z=>(0≤z.1∧z.1≤x.length)∧SMSmall (MSetMap.mk (MSetFunctor.mk (MCategory.mk z.2.2.1 z.2.2.2.1 z.2.2.2.2.1 z.2.2.2.2.2.1 z.2.2.2.2.2.2.1) z.2.2.2.2.2.2.2.1 z.2.2.2.2.2.2.2.2.1) (MSetFunctor.mk (MCategory.mk z.2.2.2.2.2.2.2.2.2.1 z.2.2.2.2.2.2.2.2.2.2.1 z.2.2.2.2.2.2.2.2.2.2.2.1 z.2.2.2.2.2.2.2.2.2.2.2.2.1 z.2.2.2.2.2.2.2.2.2.2.2.2.2.1) z.2.2.2.2.2.2.2.2.2.2.2.2.2.2.1 z.2.2.2.2.2.2.2.2.2.2.2.2.2.2.2.1) z.2.2.2.2.2.2.2.2.2.2.2.2.2.2.2.2)) (oc (fun hb=>?_) fun _=>?_) ?_
 ·simp only [Bool.and_eq_true,sameB_eq] at hb
  have F:=sf_of hb.1
  have G:=sf_of hb.2.1
  have Fs:=sh_of hf F
  have self:∀ {a h:Int},0≤a→a≤x.length→Ok (spec_l19Self p.1>>=fun y=>spec_l19Make p.1 p.1 y>>=fun z=>some (Out.norm (a,h,z.Source.Shape.Objects,z.Source.Shape.From,z.Source.Shape.To,z.Source.Shape.Identity,z.Source.Shape.Composites,z.Source.Sizes,z.Source.Actions,z.Target.Shape.Objects,z.Target.Shape.From,z.Target.Shape.To,z.Target.Shape.Identity,z.Target.Shape.Composites,z.Target.Sizes,z.Target.Actions,z.Parts):Out _ (MSetMap×ML01Source))) (Jn fun z=>(0≤z.1∧z.1≤x.length)∧SMSmall (MSetMap.mk (MSetFunctor.mk (MCategory.mk z.2.2.1 z.2.2.2.1 z.2.2.2.2.1 z.2.2.2.2.2.1 z.2.2.2.2.2.2.1) z.2.2.2.2.2.2.2.1 z.2.2.2.2.2.2.2.2.1) (MSetFunctor.mk (MCategory.mk z.2.2.2.2.2.2.2.2.2.1 z.2.2.2.2.2.2.2.2.2.2.1 z.2.2.2.2.2.2.2.2.2.2.2.1 z.2.2.2.2.2.2.2.2.2.2.2.2.1 z.2.2.2.2.2.2.2.2.2.2.2.2.2.1) z.2.2.2.2.2.2.2.2.2.2.2.2.2.2.1 z.2.2.2.2.2.2.2.2.2.2.2.2.2.2.2.1) z.2.2.2.2.2.2.2.2.2.2.2.2.2.2.2.2)):=by
   intro a h a0 a1
   have hsp:=selfP_small F
   exact oe (specSelf Fs) (oe (specSetMap hf hf hsp.1 hsp.2) (os ⟨⟨a0,a1⟩,hf,hf,hsp.1,hsp.2⟩))
  refine oe (countOk Fs) (od (fun hc=>?_) fun _=>?_)
  ·subst hgg
   refine ob (mapsOk (f:=p.1) ⟨Fs,sh_of hg G,hb.2.2.symm,F.one⟩ (by omega) (by omega) (by omega)) fun l hl=>od (fun hpos=>?_) fun _=>?_
   ·refine ob (nextOk B (S.on (h:=u.2.Hash) hu2) _) fun v hv=>oi hv.1.1 (hv.1.2 (by omega)) fun q hq=>?_
    have hqs:=PS.small Fs (hl.2 q hq)
    refine oc (fun _=>self hv.2.a0 hv.2.a1) fun _=>os ⟨⟨hv.2.a0,hv.2.a1⟩,hf,hg,hqs.1,hqs.2⟩
   ·exact oc (fun _=>self hu2.a0 hu2.a1) fun _=>os ⟨⟨hu2.a0,hu2.a1⟩,hf,hg,by simp,nil_all⟩
  ·subst hgg
   exact oc (fun _=>self hu2.a0 hu2.a1) fun _=>os ⟨⟨hu2.a0,hu2.a1⟩,hf,hg,by simp,nil_all⟩
 ·subst hgg
  exact os ⟨⟨hu2.a0,hu2.a1⟩,hf,hg,by simp,nil_all⟩
 ·rintro ⟨a,h,m0,m1,m2,m3,m4,m5,m6,m7,m8,m9,m10,m11,m12,m13,ps⟩ ⟨⟨a0,a1⟩,hm⟩
  dsimp only at a0 a1 hm ⊢
  have hk:=hm.k
  have hr:=hm.r
  dsimp only at hk hr
  refine ob (nextOk B (S.at_ (h:=h) a0 a1) _) fun v hv=>?_
  have T:=S.on (h:=v.2.Hash) hv.2
  refine oc (fun _=>od (fun hpos=>?_) fun _=>os ⟨hm,T⟩) fun _=>os ⟨hm,T⟩
  refine oe (specOwn2 ps hk hr) (ob (nextOk B T _) fun i hi=>?_)
  have hi1:=hi.1.2 (by omega)
  have hrg:=hr _ (gr_mem hi.1.1 hi1)
  refine oe (idx_gr hi.1.1 hi1) (od (fun hr0=>?_) fun _=>?_)
  ·refine oe (idx_gr hi.1.1 hi1) (oe (idx_gr hi.1.1 hi1) (ob (nextOk B (S.on (h:=i.2.Hash) hi.2) _) fun j hj=>ob (nextOk B (S.on (h:=j.2.Hash) hj.2) _) fun k hk2=>ob (nextOk B (S.on (h:=k.2.Hash) hk2.2) _) fun n hn=>?_))
   obtain ⟨q,eq⟩:=quo5 n.1
   exact oe eq (oe (idx_gi hj.1.1 (hj.1.2 (by omega))) (os ⟨⟨hm.s,hm.t,by dsimp only; rw [List.length_set]; exact hk,set_all hr (by rw [List.length_set]; exact hrg)⟩,S.on hn.2⟩))
  ·exact oe (idx_gr hi.1.1 hi1) (os ⟨⟨hm.s,hm.t,by dsimp only; rw [List.length_set]; exact hk,set_all hr (by simp)⟩,S.on hi.2⟩)
theorem drawThen:Ok (spec_DrawThenSetMaps x) fun y=>SMSmall y.1∧SMSmall y.2:=by
 unfold spec_DrawThenSetMaps
 refine orr (ob (fromOk B) fun y hy=>?_)
 obtain ⟨s,rfl,S⟩:=hy
 have S':∀ {t:ML01Source} {h:Int},Src x t→Src x (ML01Source.mk x t.At h):=fun T=>⟨rfl,T.a0,T.a1⟩
 show Ok (spec_l19Map (ML01Source.mk x s.At s.Hash) 4>>=_) _
 refine ob (map19 B (S' S) (by omega) (by omega)) fun m hm=>oe (specIsM hm.1) (oc (fun hb=>?_) fun _=>?_)
 ·have M:=sm_of hb
  have Ts:=sh_of hm.1.t M.tgt
  refine ob (nextOk B (S' hm.2) _) fun u hu=>od (fun _=>?_) fun _=>?_
  ·refine ob (some19 B (S' hu.2) M.src.cat hm.1.s.c (by omega) (by omega)) fun g hg=>?_
   have self:∀ {R:Type},Ok (spec_l19Self m.1.Target>>=fun y=>spec_l19Make m.1.Target m.1.Target y>>=fun z=>some (Out.ret (m.1,z):Out Unit (MSetMap×MSetMap))) (Rt fun y=>SMSmall y.1∧SMSmall y.2):=by
    intro _
    have hsp:=selfP_small M.tgt
    exact oe (specSelf Ts) (oe (specSetMap hm.1.t hm.1.t hsp.1 hsp.2) (os ⟨hm.1,hm.1.t,hm.1.t,hsp.1,hsp.2⟩))
   refine oe (countOk Ts) (od (fun hc=>?_) fun _=>self (R:=Unit))
   have hsame:g.1.Shape=m.1.Target.Shape:=by rw [hg.1.2.1,M.same]
   refine ob (mapsOk (f:=m.1.Target) ⟨Ts,hg.1.1,hsame,M.tgt.one⟩ (by omega) (by omega) (by omega)) fun l hl=>od (fun hpos=>?_) fun _=>self (R:=Unit)
   refine ob (nextOk B (S' hg.2) _) fun v hv=>oi hv.1.1 (hv.1.2 (by omega)) fun q hq=>?_
   have hqs:=PS.small Ts (hl.2 q hq)
   exact oe (specSetMap hm.1.t hg.1.1.sm hqs.1 hqs.2) (os ⟨hm.1,hm.1.t,hg.1.1.sm,hqs.1,hqs.2⟩)
  ·exact ob (map19 B (S' hu.2) (by omega) (by omega)) fun n hn=>os ⟨hm.1,hn.1⟩
 ·exact ob (map19 B (S' hm.2) (by omega) (by omega)) fun n hn=>os ⟨hm.1,hn.1⟩
end
theorem setmaps_law {x0:List Int} (hl:x0.length≤maxLen∧∀ y∈x0,0≤y∧y < 256):laws_FnSetMaps x0=some true:=by
 unfold laws_FnSetMaps
 have hbig:laws_big x0=some (decide ((x0.length:Int) > 4096)):=rfl
 rw [hbig,some_bind']
 by_cases hb:(x0.length:Int) > 4096
 ·rw [decT hb,cond_true]; rfl
 rw [decF hb,cond_false]
 obtain ⟨⟨s,t⟩,e,hs,ht⟩:=drawThen (x:=x0) ⟨by omega,hl.2⟩
 dsimp only at hs ht
 obtain ⟨h1,h2,h3⟩:=thenRs hs ht
 rw [e,some_bind']
 dsimp only
 rw [h1,some_bind',h2,some_bind',bneF rfl,cond_false,same9M h3,some_bind',some_bind']
 simp only [Bool.not_true,cond_false]
 unfold thenR at h3 ⊢
 cases b1:smB s with
 | false=>rfl
 | true=>
  cases b2:smB t with
  | false=>rfl
  | true=>
   cases b3:sameFB s.Target t.Source with
   | false=>rfl
   | true=>
    rw [b1,b2,b3] at h3
    simp only [Bool.and_self,if_true] at h3 ⊢
    have M:=sm_of b1
    have T:=sm_of b2
    have E:=sameFB_eq.1 b3
    have fB:sfB s.Source=true:=by unfold smB smShapeB at b1; simp only [Bool.and_eq_true] at b1; exact b1.1.1
    have gB:sfB s.Target=true:=by unfold smB smShapeB at b1; simp only [Bool.and_eq_true] at b1; exact b1.1.2.1
    have tB:sfB t.Target=true:=by unfold smB smShapeB at b2; simp only [Bool.and_eq_true] at b2; exact b2.1.2.1
    have hsp:=selfP_small M.src
    have hi:SMSmall (MSetMap.mk s.Source s.Source (selfP s.Source)):=⟨hs.s,hs.s,hsp.1,hsp.2⟩
    have k:thenR (MSetMap.mk s.Source s.Source (selfP s.Source)) s=(s,0):=by
     unfold thenR
     rw [self_nat fB,b1,sameFB_eq.2 rfl]
     simp only [Bool.and_self,if_true,self_then M]
    obtain ⟨k1,_,_⟩:=thenRs hi hs
    rw [k] at k1
    have hun:impl_IsSetMap (MSetMap.mk s.Source t.Target (thenP s.Parts t.Parts))=some true:=by
     unfold impl_IsSetMap
     rw [implIsM h3,some_bind',then_nat M T E fB tB]; rfl
    rw [bneF rfl,cond_false,implIdentity hs.s fB,some_bind']
    dsimp only
    rw [k1,some_bind']
    dsimp only
    rw [show w64 (0+0)=0 from w64_id (by omega) (by omega),bneF rfl,cond_false,same9M hs,some_bind',Bool.not_true,cond_false,hun,some_bind',some_bind',Bool.not_true,cond_false]
    have al:=M.src.al
    have m40:=M.src.cat.m
    refine (congrArg retM (for_all (ns s.Source.Shape.From.length) (fun i=>(i:Int)) rfl (fun i y hy=>?_) (e:=(s.Source.Shape.From.length:Int)) ?_)).trans rfl
    ·obtain ⟨rfl,hi'⟩:=ns_get hy
     have i0:(0:Int)≤i:=by omega
     have i1:(i:Int) < s.Source.Shape.From.length:=by omega
     have hfr:=M.src.cat.fr i0 i1
     have hto:=M.src.cat.to i0 i1
     have hsx:=M.src.s _ hfr.1 hfr.2
     show laws_FnSetMaps_L0 (s,t) i=_
     unfold laws_FnSetMaps_L0
     dsimp only
     rw [decT (by omega),cond_true,M.src.cat.idxF i0 i1,some_bind',M.src.cat.idxT i0 i1,some_bind']
     refine (for_all (ns (gi s.Source.Sizes (gi s.Source.Shape.From i)).toNat) (fun i=>(i:Int)) rfl (fun j z hz=>?_) (e:=gi s.Source.Sizes (gi s.Source.Shape.From i)) ?_).trans ?_
     ·obtain ⟨rfl,hj⟩:=ns_get hz
      have j0:(0:Int)≤j:=by omega
      have j1:(j:Int) < gi s.Source.Sizes (gi s.Source.Shape.From i):=by omega
      have im:=M.img hfr.1 hfr.2 j0 j1
      have act:=M.src.img i0 i1 j0 j1
      have nat:=M.nat i j i0 i1 j0 j1
      have sh:=M.same
      have p2:=M.part _ hto.1 hto.2
      unfold laws_FnSetMaps_L1
      dsimp only
      rw [M.src.idxS hfr.1 hfr.2,some_bind',decT j1,cond_true,implAct hs.s fB i0 i1 j0 j1,some_bind',M.idxP hfr.1 hfr.2,some_bind',M.at_ hfr.1 hfr.2 j0 j1,some_bind',implAct hs.t gB i0 (by rw [sh]; exact i1) im.1 (by rw [sh]; exact im.2),some_bind']
      dsimp only
      rw [show w64 (0+0)=0 from w64_id (by omega) (by omega),bneF rfl,cond_false,decF (by omega),cond_false,M.src.idxS hto.1 hto.2,some_bind',decF (by omega),cond_false,M.idxP hto.1 hto.2,some_bind',idx_gi act.1 (by omega),some_bind',nat,bneF rfl,some_bind',cond_false,w64_nat (by omega)]
     ·rw [ns_length]
      unfold laws_FnSetMaps_L1
      try dsimp only
      rw [M.src.idxS hfr.1 hfr.2,some_bind',decF (by omega),cond_false,show (((gi s.Source.Sizes (gi s.Source.Shape.From i)).toNat:Nat):Int)=gi s.Source.Sizes (gi s.Source.Shape.From i) by omega]
     ·try dsimp only
      rw [w64_nat (by omega)]
    ·rw [ns_length]
     show laws_FnSetMaps_L0 (s,t) _=_
     unfold laws_FnSetMaps_L0
     dsimp only
     rw [decF (by omega),cond_false]
end Go.Proofs.YtjfahghkjblgjaaGreat
