/- Composites side by side answer as the reference says, and agree with the two ways round. No condition beside those that each theorem names. -/
import Derived.Test.YtkhdhnpokfibjaaGreatYn
set_option linter.unusedVariables false
set_option linter.unusedSimpArgs false
set_option linter.unusedSectionVars false
namespace Go.Proofs.YtkhdhnpokfibjaaGreat
open Go Go.Li
set_option linter.unusedVariables false
theorem same9F7 {f:aN} (h:FSmall f):kY f f=some true:=by
 unfold kY
 have h1:=h.o
 have h2:=h.a
 rw [same9C h.s,aH,cond_true,same9C h.t,aH,cond_true,likeI _ _ (by omega),aH,beq_self_eq_true,cond_true,likeI _ _ (by omega),aH,beq_self_eq_true]
 rfl
theorem same9T7 {m:aM} (h:TSmall m):gR m m=some true:=by
 unfold gR
 have h1:=h.p
 rw [same9F7 h.s,aH,cond_true,same9F7 h.t,aH,cond_true,likeI _ _ (by omega),aH,beq_self_eq_true]
 rfl
def zeroT:aM:=(aM.mk (aN.mk (aI.mk ((0:Int)) ([]) ([]) ([]) ([])) (aI.mk ((0:Int)) ([]) ([]) ([]) ([])) ([]) ([])) (aN.mk (aI.mk ((0:Int)) ([]) ([]) ([]) ([])) (aI.mk ((0:Int)) ([]) ([]) ([]) ([])) ([]) ([])) ([]))
theorem zeroT_small:TSmall zeroT:=by
 have c:CatSmall (aI.mk ((0:Int)) ([]) ([]) ([]) ([])):=⟨by decide,by decide,by decide,by decide,nil_all⟩
 have f:FSmall (aN.mk (aI.mk ((0:Int)) ([]) ([]) ([]) ([])) (aI.mk ((0:Int)) ([]) ([]) ([]) ([])) ([]) ([])):=⟨c,c,by decide,by decide⟩
 exact ⟨f,f,by decide⟩
def horR (s t:aM):aM×Int:=bif natB s && natB t then (bif sameB s.aA.aB t.aA.aA then (horT s t,0) else (zeroT,5)) else (zeroT,1)
theorem horR_small {s t:aM} (hs:TSmall s) (ht:TSmall t):TSmall (horR s t).1:=by
 unfold horR
 cases natB s && natB t with
 | false=>exact zeroT_small
 | true=>
  cases sameB s.aA.aB t.aA.aA with
  | false=>exact zeroT_small
  | true=>exact horT_small hs ht
section
variable {t:aM} {g:aN} (ts:TSmall t) (gs:FSmall g) (ht:natB t=true) (hg:funB g=true) (e:t.aA.aB=g.aA)
include ts gs ht hg e
theorem specBehind:mH t g=some (behT t g):=by
 have N:=nat_of ht
 have G:=fun_of hg
 unfold mH
 rw [specThenF N.f.toFHead G.toFHead e ts.s gs,aH,specThenF N.g.toFHead G.toFHead (N.et.trans e) ts.t gs,aH,specThenL _ _ ts.p (beh_fit ht hg e),aH,specMake7 (thenF_small ts.s gs) (thenF_small ts.t gs) (by rw [thenS_len]; exact ts.p),aH]; rfl
theorem implBehind:iI t g=some (behT t g,0):=by
 have N:=nat_of ht
 have G:=fun_of hg
 unfold iI
 rw [implIs7 ts,aH,ht,Bool.not_true,cond_false,implIsFun gs,aH,hg,Bool.not_true,aH,cond_false,implSameCat gs.s,aH,sameB_eq.2 e.symm,Bool.not_true,cond_false,
  implThenF N.f.toFHead G.toFHead e ts.s gs,aH,implThenF N.g.toFHead G.toFHead (N.et.trans e) ts.t gs,aH,implThen _ _ ts.p (beh_fit ht hg e),aH,implMake7 (thenF_small ts.s gs) (thenF_small ts.t gs) (by rw [thenS_len]; exact ts.p),aH]; rfl
end
section
variable {t:aM} {f:aN} (fs:FSmall f) (ts:TSmall t) (hf:funB f=true) (ht:natB t=true) (e:f.aB=t.aA.aA)
include fs ts hf ht e
theorem specBefore:mI f t=some (befT f t):=by
 have N:=nat_of ht
 have F:=fun_of hf
 unfold mI
 rw [specThenF F.toFHead N.f.toFHead e fs ts.s,aH,specThenF F.toFHead N.g.toFHead (e.trans N.es.symm) fs ts.t,aH,specThenL _ _ fs.o (bef_fit hf ht e),aH,specMake7 (thenF_small fs ts.s) (thenF_small fs ts.t) (by rw [thenS_len]; exact fs.o),aH]; rfl
theorem implBefore:iJ f t=some (befT f t,0):=by
 have N:=nat_of ht
 have F:=fun_of hf
 unfold iJ
 rw [implIsFun fs,aH,hf,Bool.not_true,cond_false,implIs7 ts,aH,ht,Bool.not_true,aH,cond_false,implSameCat fs.t,aH,sameB_eq.2 e,Bool.not_true,cond_false,
  implThenF F.toFHead N.f.toFHead e fs ts.s,aH,implThenF F.toFHead N.g.toFHead (e.trans N.es.symm) fs ts.t,aH,implThen _ _ fs.o (bef_fit hf ht e),aH,implMake7 (thenF_small fs ts.s) (thenF_small fs ts.t) (by rw [thenS_len]; exact fs.o),aH]; rfl
end
theorem all2 {s t:aM}:([s,t].all natB)=(natB s && natB t):=by simp
theorem implThenT {s t:aM} (ss:TSmall s) (ts:TSmall t) (hs:natB s=true) (ht:natB t=true) (e:s.aB=t.aA):fV s t=some (thnT s t,0):=by
 have N:=nat_of hs
 obtain ⟨h1,h2,h3⟩:=thn_fit hs ht e
 unfold fV
 rw [implAreNat _ (by simp) (fun c hc=>by rcases List.mem_cons.1 hc with rfl | hc; exact ss; rw [List.mem_singleton.1 hc]; exact ts),aH,all2,hs,ht,Bool.and_self,Bool.not_true,cond_false,implSameF' ss.t,aH,sameF_eq.2 e,Bool.not_true,cond_false,
  implComposed N.f.d h1 ss.p h2 h3,aH,implMake7 ss.s ts.t (by rw [cmpS_len]; exact ss.p),aH]; rfl
theorem implIdT {f:aN} (fs:FSmall f) (hf:funB f=true):gB f=some (idT f,0):=by
 unfold gB
 rw [implIsFun fs,aH,hf,Bool.not_true,cond_false,implThen _ _ fs.o (id_fit (fun_of hf)),aH,implMake7 fs fs (by rw [thenS_len]; exact fs.o),aH]; rfl
section
variable {s t:aM} (ss:TSmall s) (ts:TSmall t)
include ss ts
theorem specHor:gQ s t=some (horR s t):=by
 unfold gQ horR
 rw [specIs7 ss,aH]
 cases hs:natB s with
 | false=>rfl
 | true=>
  rw [Bool.not_true,cond_false,specIs7 ts,aH,aH]
  cases ht:natB t with
  | false=>rfl
  | true=>
   rw [Bool.not_true,cond_false,specSameCat ss.s.t,aH]
   cases hc:sameB s.aA.aB t.aA.aA with
   | false=>rfl
   | true=>
    have e:=sameB_eq.1 hc
    have S:=nat_of hs
    have N:=nat_of ht
    have b1:=behT_nat hs N.fb e
    have b2:=befT_nat S.gb ht (S.et.trans e)
    obtain ⟨h1,h2,h3⟩:=thn_fit b1 b2 rfl
    rw [Bool.not_true,cond_false,specBehind ss ts.s hs N.fb e,aH,specBefore ss.t ts S.gb ht (S.et.trans e),aH,specComposed N.f.d h1 (behT_small ss ts.s).p h2 h3,aH,
     specMake7 (behT_small ss ts.s).s (befT_small ss.t ts).t (by rw [cmpS_len]; exact (behT_small ss ts.s).p),aH]
    rfl
theorem implHor:fU s t=some (horR s t):=by
 unfold fU horR
 rw [implAreNat _ (by simp) (fun c hc=>by rcases List.mem_cons.1 hc with rfl | hc; exact ss; rw [List.mem_singleton.1 hc]; exact ts),aH,all2]
 cases hs:natB s with
 | false=>rfl
 | true=>
  cases ht:natB t with
  | false=>rfl
  | true=>
   rw [Bool.and_self,Bool.not_true,cond_false,implSameCat ss.s.t,aH]
   cases hc:sameB s.aA.aB t.aA.aA with
   | false=>rfl
   | true=>
    have e:=sameB_eq.1 hc
    have S:=nat_of hs
    have N:=nat_of ht
    have e2:=S.et.trans e
    have b1:=behT_nat hs N.fb e
    have b2:=befT_nat S.gb ht e2
    obtain ⟨h1,h2,h3⟩:=thn_fit b1 b2 rfl
    have q1:=(behT_small ss ts.s).p
    rw [Bool.not_true,cond_false,implThenF S.f.toFHead N.f.toFHead e ss.s ts.s,aH,implThenF S.g.toFHead N.g.toFHead (e2.trans N.es.symm) ss.t ts.t,aH,implThen _ _ ss.p (beh_fit hs N.fb e),aH,implThen _ _ ss.t.o (bef_fit S.gb ht e2),aH,
     implComposed (d:=t.aA.aB) (a:=thenS s.Components t.aA.Arrows) (b:=thenS s.aB.aD t.Components) N.f.d h1 q1 h2 h3,aH,implMake7 (thenF_small ss.s ts.s) (thenF_small ss.t ts.t) (by rw [cmpS_len]; exact q1),aH]
    rfl
end
section
variable {s t:aM} (hs:natB s=true) (ht:natB t=true) (e:s.aA.aB=t.aA.aA)
include hs ht e
theorem hor_other:thnT (befT s.aA t) (behT s t.aB)=horT s t:=by
 have S:=nat_of hs
 have N:=nat_of ht
 have sp:=S.pl
 have so:=S.f.ol
 have sgo:=S.g.ol
 rw [S.es] at sgo
 suffices h:cmpS t.aA.aB (thenS s.aA.aD t.Components) (thenS s.Components t.aB.Arrows)=cmpS t.aA.aB (thenS s.Components t.aA.Arrows) (thenS s.aB.aD t.Components) by
  show aM.mk (thenF s.aA t.aA) (thenF s.aB t.aB) (cmpS t.aA.aB (thenS s.aA.aD t.Components) (thenS s.Components t.aB.Arrows))=aM.mk (thenF s.aA t.aA) (thenF s.aB t.aB) _
  rw [h]
 refine gi_ext (by rw [cmpS_len,cmpS_len,thenS_len,thenS_len]; omega) fun x x0 x1=>?_
 rw [cmpS_len,thenS_len] at x1
 have x2:x < s.aA.aA.aD:=by omega
 have k:=S.cp x0 x2
 have e0:=e
 rw [cmpS_at x0 (by rw [thenS_len]; omega),cmpS_at x0 (by rw [thenS_len]; omega),thenS_at x0 (by omega),thenS_at x0 (by omega),thenS_at x0 (by omega),thenS_at x0 (by omega),← S.pf x x0 x2,← S.pt x x0 x2,e]
 exact (N.sq _ k.1 (by rw [← e]; exact k.2)).symm
theorem hor_id:horT s (idT t.aA)=behT s t.aA:=by
 have S:=nat_of hs
 have N:=nat_of ht
 have sp:=S.pl
 have sgo:=S.g.ol
 rw [S.es] at sgo
 suffices h:cmpS t.aA.aB (thenS s.Components t.aA.Arrows) (thenS s.aB.aD (thenS t.aA.aD t.aA.aB.aJ))=thenS s.Components t.aA.Arrows by
  show aM.mk (thenF s.aA t.aA) (thenF s.aB t.aA) (cmpS t.aA.aB (thenS s.Components t.aA.Arrows) (thenS s.aB.aD (thenS t.aA.aD t.aA.aB.aJ)))=aM.mk (thenF s.aA t.aA) (thenF s.aB t.aA) _
  rw [h]
 refine gi_ext (cmpS_len _ _ _) fun x x0 x1=>?_
 rw [thenS_len] at x1
 have x2:x < s.aA.aA.aD:=by omega
 have k:=S.cp x0 x2
 rw [e] at k
 have o2:=S.ob2 x0 x2
 rw [e] at o2
 have a2:=N.f.ar k.1 k.2
 have o3:=N.f.ol
 rw [cmpS_at x0 (by rw [thenS_len]; omega),thenS_at x0 (by omega),thenS_at x0 (by omega),thenS_at o2.1 (by omega),← S.pt x x0 x2,e,← N.f.to _ k.1 k.2]
 exact N.f.d.unitR _ a2.1 a2.2
end
theorem interchange_law {x0:List Int} (hl:x0.length≤maxLen∧∀ y∈x0,0≤y∧y < 256):jX x0=some true:=by
 unfold jX
 have hbig:qT x0=some (decide ((x0.length:Int) > 4096)):=rfl
 rw [hbig,aH]
 by_cases hb:(x0.length:Int) > 4096
 ·rw [decT hb,cond_true]; rfl
 rw [decF hb,cond_false]
 obtain ⟨⟨s,t⟩,e,ss,ts⟩:=drawHor (x:=x0) ⟨by omega,hl.2⟩
 dsimp only at ss ts
 rw [e,aH]
 dsimp only
 rw [implHor ss ts,aH,specHor ss ts,aH,bneF rfl,cond_false,same9T7 (horR_small ss ts),aH,aH,Bool.not_true,cond_false]
 cases hs:natB s with
 | false=>unfold horR; rw [hs]; rfl
 | true=>
  cases ht:natB t with
  | false=>unfold horR; rw [hs,ht]; rfl
  | true=>
   cases hc:sameB s.aA.aB t.aA.aA with
   | false=>unfold horR; rw [hs,ht,hc]; rfl
   | true=>
    have er:horR s t=(horT s t,0):=by unfold horR; rw [hs,ht,hc]; rfl
    have e:=sameB_eq.1 hc
    have S:=nat_of hs
    have N:=nat_of ht
    have e2:=S.et.trans e
    have e3:=e.trans N.es.symm
    have si:=idT_small (f:=t.aA) ts.s
    have hi:=idT_nat N.fb
    have ei:horR s (idT t.aA)=(horT s (idT t.aA),0):=by
     unfold horR
     rw [hs,hi,show sameB s.aA.aB (idT t.aA).aA.aA=true from hc]; rfl
    rw [er]
    dsimp only
    rw [bneF rfl,cond_false,implBehind ss ts.s hs N.fb e,aH,implBefore ss.t ts S.gb ht e2,aH]
    dsimp only
    rw [implThenT (behT_small ss ts.s) (befT_small ss.t ts) (behT_nat hs N.fb e) (befT_nat S.gb ht e2) rfl,aH,implBefore ss.s ts S.fb ht e,aH,implBehind ss ts.t hs N.gb e3,aH]
    dsimp only
    rw [implThenT (befT_small ss.s ts) (behT_small ss ts.t) (befT_nat S.fb ht e) (behT_nat hs N.gb e3) rfl,aH,implIdT ts.s N.fb,aH]
    dsimp only
    rw [implHor ss si,aH,ei]
    dsimp only
    rw [hor_other hs ht e,hor_id hs ht e,show thnT (behT s t.aA) (befT s.aB t)=horT s t from rfl,show w64 (w64 (w64 (w64 (w64 (w64 (w64 (0+0)+0)+0)+0)+0)+0)+0)=0 from by decide,show ((0:Int) == 0)=true from rfl,cond_true,same9T7 (horT_small ss ts),aH,cond_true,aH,cond_true,same9T7 (behT_small ss ts.s)]
    rfl
end Go.Proofs.YtkhdhnpokfibjaaGreat
