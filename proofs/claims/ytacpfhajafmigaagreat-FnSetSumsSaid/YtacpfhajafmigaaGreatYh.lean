/- The law of SetSums, on plain data. No condition beside those that each theorem names. -/
import Derived.Test.YtacpfhajafmigaaGreatVt
import Derived.Test.YtacpfhajafmigaaGreatYb
import Derived.Test.YtacpfhajafmigaaGreatYe
namespace Go.Proofs.YtacpfhajafmigaaGreat
open Go Go.Li
section
variable {x:List Int} (B:Byt x)
include B
theorem to21 {s:aL} (S:Src x s):Ok (oC s) fun y=>SMSmall y.1∧SMSmall y.2.1∧Src x y.2.2:=by
 have hc:s.Code=x:=S.1
 have S':∀ {t:aL} {h:Int},Src x t→Src x (aL.mk s.Code t.At h):=fun T=>⟨hc,T.a0,T.a1⟩
 unfold oC
 refine orr (ob (map19 B S (by omega) (by omega)) fun m hm=>oe (specIsM hm.1) (oc (fun _=>?_) fun hb=>?_))
 ·exact ob (map19 B (S' hm.2) (by omega) (by omega)) fun n hn=>os ⟨hm.1,hn.1,S' hn.2⟩
 ·have M:=sm_of (show smB m.1=true by simpa using hb)
  have Ts:=sh_of hm.1.t M.tgt
  refine ob (nextOk B (S' hm.2) _) fun u hu=>oc (fun _=>?_) fun _=>?_
  ·exact ob (map19 B (S' hu.2) (by omega) (by omega)) fun n hn=>os ⟨hm.1,hn.1,S' hn.2⟩
  ·refine ob (some19 B (S' hu.2) M.src.cat hm.1.s.c (by omega) (by omega)) fun g hg=>?_
   refine oe (countOk hg.1.1) (od (fun hc'=>?_) fun _=>os ⟨hm.1,hm.1,S' hg.2⟩)
   have hsame:m.1.aQ.aA=g.1.aA:=by rw [hg.1.2.1,M.same]
   refine ob (mapsOk (f:=g.1) ⟨hg.1.1,Ts,hsame,hg.1.2.2⟩ (by omega) (by omega) (by omega)) fun l hl=>od (fun hpos=>?_) fun _=>os ⟨hm.1,hm.1,S' hg.2⟩
   refine ob (nextOk B (S' hg.2) _) fun v hv=>oi hv.1.1 (hv.1.2 (by omega)) fun q hq=>?_
   have hqs:=PS.small hg.1.1 (hl.2 q hq)
   exact oe (specSetMap hg.1.1.sm hm.1.t hqs.1 hqs.2) (os ⟨hm.1,⟨hg.1.1.sm,hm.1.t,hqs.1,hqs.2⟩,S' hv.2⟩)
theorem drawCop:Ok (fO x) fun y=>SMSmall y.1∧SMSmall y.2:=by
 unfold fO
 refine orr (ob (fromOk B) fun y hy=>?_)
 obtain ⟨s,rfl,S⟩:=hy
 show Ok (oC (aL.mk x s.At s.Hash)>>=_) _
 exact ob (to21 B ⟨rfl,S.a0,S.a1⟩) fun y hy=>os ⟨hy.1,hy.2.1⟩
end
theorem setsums_law {x0:List Int} (hl:x0.length≤maxLen∧∀ y∈x0,0≤y∧y < 256):lK x0=some true:=by
 unfold lK
 have hbig:pS x0=some (decide ((x0.length:Int) > 4096)):=rfl
 rw [hbig,aD]
 by_cases hb:(x0.length:Int) > 4096
 ·rw [decT hb,cond_true]; rfl
 rw [decF hb,cond_false]
 obtain ⟨⟨s,t⟩,ed,hs,ht⟩:=drawCop (x:=x0) ⟨by omega,hl.2⟩
 dsimp only at hs ht
 have h1:=implCop hs ht
 have h2:=specCop hs ht
 have h3:SMSmall (copR s t).1:=by
  unfold copR
  split
  ·rename_i hb
   rw [Bool.and_eq_true] at hb
   split
   ·rename_i hc
    split
    ·exact copSmall hs ht hb.1 hb.2 (sameFB_eq.1 hc).symm
    ·exact zeroSM_small
   ·exact zeroSM_small
  ·exact zeroSM_small
 rw [ed,aD]
 dsimp only
 rw [h1,aD,h2,aD,bneF rfl,cond_false,same9M h3,aD,aD]
 simp only [Bool.not_true,cond_false]
 unfold copR at h3 ⊢
 cases S:smB s with
 | false=>rfl
 | true=>
  cases T:smB t with
  | false=>rfl
  | true=>
   cases b3:sameFB s.aQ t.aQ with
   | false=>rfl
   | true=>
    cases b4:inS 17 (sumS s.aK t.aK) with
    | false=>rfl
    | true=>
     rw [S,T,b3,b4] at h3
     simp only [Bool.and_self,if_true] at h3 ⊢
     have E:t.aQ=s.aQ:=(sameFB_eq.1 b3).symm
     have M:=sm_of S
     have N:=sm_of T
     have e:=cop_shape S T E
     have fB:=smB_src S
     have gB:=smB_src T
     have hw:=(fitB_iff hs.s ht.s fB gB e).1 b4
     have Tb:=sum_sf fB gB e hw
     have hsm:=sum_small hs.s ht.s fB gB e
     have hsp:=selfP_small M.src
     have hli:SMSmall (aZ.mk s.aK (sumF s.aK t.aK) (selfP s.aK)):=⟨hs.s,hsm,hsp.1,hsp.2⟩
     have inl:=inl_nat fB gB e hw
     have inr:=inr_nat fB gB e hw
     have cop:=cop_nat S T E hw
     have hri:SMSmall (aZ.mk t.aK (sumF s.aK t.aK) (inrP s.aK t.aK)):=by
      have o8:=M.src.cat.o8
      have sl:=M.src.sl
      have Ns:=N.src.s
      rw [e] at Ns
      refine ⟨ht.s,hsm,by show (inrP s.aK t.aK).length≤_; unfold inrP; rw [cQ]; omega,fun y hy=>?_⟩
      obtain ⟨x,hx,rfl⟩:=mapI_mem.1 (show y∈inrP s.aK t.aK from hy)
      have:=Ns x hx.1 (by omega)
      rw [shS_len,dD]
      omega
     have k1:eO (aZ.mk s.aK (sumF s.aK t.aK) (selfP s.aK)) (aZ.mk (sumF s.aK t.aK) s.aQ (copP s t))=some (s,0):=by
      rw [(implThenRs hli h3).1]
      unfold thenR
      rw [inl,cop,sameFB_eq.2 rfl]
      simp only [Bool.and_self,if_true,cop_l S T E]
     have k2:eO (aZ.mk t.aK (sumF s.aK t.aK) (inrP s.aK t.aK)) (aZ.mk (sumF s.aK t.aK) s.aQ (copP s t))=some (t,0):=by
      rw [(implThenRs hri h3).1]
      unfold thenR
      rw [inr,cop,sameFB_eq.2 rfl]
      simp only [Bool.and_self,if_true,cop_r S T E,← E]
     obtain ⟨yf,ef,zf,Jf,kf,pf,nf,jf,mf,df⟩:=setComps M.src hs.s fB
     obtain ⟨yg,eg,zg,Jg,kg,pg,ng,jg,mg,dg⟩:=setComps N.src ht.s gB
     obtain ⟨yt,et,zt,Jt,kt,pt,nt,jt,mt,dt⟩:=setComps (sf_of Tb) hsm Tb
     have hk:=comps_sum fB gB e hw jt mt dt jf mf df jg mg dg
     have kb:kt≤1048576:=by
      obtain ⟨r,hn,rfl,hm⟩:=dt
      have hsub:r ⊆ mapI (offI (sumF s.aK t.aK) (sumF s.aK t.aK).aM.length).toNat (rt Jt):=fun y hy=>(hm y).1 hy
      have h1:=hn.length_le_of_subset hsub
      rw [cQ] at h1
      have T':=sf_of Tb
      have sl:=T'.sl
      have o8:=T'.cat.o8
      have h2:=offI_bd T' (i:=(sumF s.aK t.aK).aM.length) (by omega)
      omega
     rw [bneF rfl,cond_false,implSum hs.s ht.s fB gB e hw,aD]
     dsimp only
     rw [k1,aD,k2,aD,ef,aD,eg,aD,et,aD]
     dsimp only
     rw [zf,zg,zt,show w64 (w64 (w64 (w64 (w64 (0+0)+0)+0)+0)+0)=0 from by decide,show ((0:Int) == 0)=true from rfl,cond_true,same9M hs,aD,cond_true,same9M ht,aD,cond_true,nf,ng,nt,dJ (by omega) (by omega),aD,show ((kf:Int)+kg)=kt by omega,beq_self_eq_true]
     rfl
end Go.Proofs.YtacpfhajafmigaaGreat
