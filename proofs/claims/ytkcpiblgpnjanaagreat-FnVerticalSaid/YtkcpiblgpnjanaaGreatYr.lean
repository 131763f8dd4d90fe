/- Composites of transformations: associative, identities are units; the reference's draw of two that fit. No condition beside those that each theorem names. -/
import Derived.Test.YtkcpiblgpnjanaaGreatYn
namespace Go.Proofs.YtkcpiblgpnjanaaGreat
open Go Go.Li
set_option linter.unusedVariables false
set_option linter.unusedSectionVars false
set_option linter.unusedSimpArgs false
theorem Ti {s:aP} (hs:gu s=true):vZ (Oo s.aA) s=s:=by
 have S:=rn hs
 have sp:=S.pl
 have so:=S.f.ol
 suffices h:l8 s.aA.aC (thenS s.aA.aE s.aA.aC.aJ) s.ag=s.ag by
  show aP.mk s.aA s.aC (l8 s.aA.aC (thenS s.aA.aE s.aA.aC.aJ) s.ag)=s
  rw [h]
 refine Ee (by rw [nt,sH]; omega) fun x x0 x1=>?_
 have x2:x < s.aA.aA.aE:=by omega
 have k:=S.cp x0 x2
 have h:=S.f.d.Ge _ k.1 k.2
 rw [S.pf x x0 x2] at h
 rw [wM x0 (by rw [sH]; omega),Il x0 (by omega)]
 exact h
section
variable {s t v:aP} (hs:gu s=true) (ht:gu t=true) (hv:gu v=true) (e:s.aC=t.aA) (e2:t.aC=v.aA)
include hs ht hv e e2
theorem Oe:vZ (vZ s t) v=vZ s (vZ t v):=by
 have S:=rn hs
 have T:=rn ht
 have V:=rn hv
 have sp:=S.pl
 have tp:=T.pl
 have vp:=V.pl
 have eD:t.aA.aC=s.aA.aC:=by rw [← e,S.et]
 have eC:t.aA.aA=s.aA.aA:=by rw [← e,S.es]
 have vD:v.aA.aC=s.aA.aC:=by rw [← e2,T.et,eD]
 have vC:v.aA.aA=s.aA.aA:=by rw [← e2,T.es,eC]
 rw [eC] at tp
 rw [vC] at vp
 suffices h:l8 s.aA.aC (l8 s.aA.aC s.ag t.ag) v.ag=l8 s.aA.aC s.ag (l8 t.aA.aC t.ag v.ag) by
  show aP.mk s.aA v.aC (l8 s.aA.aC (l8 s.aA.aC s.ag t.ag) v.ag)=aP.mk s.aA v.aC _
  rw [h]; rfl
 rw [eD]
 refine Ee (by rw [nt,nt,nt]) fun x x0 x1=>?_
 rw [nt] at x1
 have x2:x < s.aA.aA.aE:=by omega
 have ks:=S.cp x0 x2
 have kt:=T.cp x0 (by rw [eC]; exact x2)
 have kv:=V.cp x0 (by rw [vC]; exact x2)
 rw [eD] at kt
 rw [vD] at kv
 have h1:=S.pt x x0 x2
 have h2:=T.pf x x0 (by rw [eC]; exact x2)
 have h3:=T.pt x x0 (by rw [eC]; exact x2)
 have h4:=V.pf x x0 (by rw [vC]; exact x2)
 rw [eD] at h2 h3
 rw [vD] at h4
 rw [wM x0 (by rw [nt]; omega),wM x0 (by omega),wM x0 (by omega),wM x0 (by omega)]
 exact S.f.d.assoc _ _ _ ks.1 ks.2 kt.1 kt.2 kv.1 kv.2 (by rw [h1,h2,e]) (by rw [h3,h4,e2])
end
end Go.Proofs.YtkcpiblgpnjanaaGreat
namespace Go.Proofs.YtkcpiblgpnjanaaGreat
open Go Go.Li
set_option linter.unusedVariables false
set_option linter.unusedSectionVars false
set_option linter.unusedSimpArgs false
theorem Oc {x:List Int} (B:BK x):Ok (fV x) fun y=>iw y.1∧iw y.2:=by
 unfold fV
 refine j7 (ob (Wo B) fun y hy=>?_)
 obtain ⟨s,rfl,S⟩:=hy
 show Ok (jQ (aL.mk x s.At s.av)>>=_) _
 refine ob (ET B S.JX) fun t ht=>oe (EN ht.1) (oc (fun _=>ob (ET B ht.2.JX) fun w hw=>os ⟨ht.1,hw.1⟩) fun e=>?_)
 have N:=rn (show gu t.1=true by simpa using e)
 have G:=N.g
 have gs:=ht.1.t
 have T:=tb N.f.c
 have U:=tb N.f.d
 have co:=T.o
 have Gf:FF t.1.aA.aA t.1.aA.aC t.1.aC:=by
  have:=IB G
  rwa [N.es,N.et] at this
 have Gt:FT t.1.aA.aA t.1.aA.aC t.1.aC.aE t.1.aC.ae:=by
  have:=Ow G
  rwa [N.es,N.et] at this
 have sl:(thenS t.1.aC.aE t.1.aC.aC.aJ).length≤1048576:=by rw [sH]; exact gs.o
 have self:∀ {Q:aP×aP→Prop},Q (t.1,aP.mk t.1.aC t.1.aC (thenS t.1.aC.aE t.1.aC.aC.aJ))→Ok (jP t.1.aC>>=fun y=>(gM t.1.aC t.1.aC y)>>=fun z=>some (Out.ret (S:=Unit) (t.1,z))) (Rt Q):=fun h=>oe (Sa U Gf gs) (oe (yx gs gs sl) (os h))
 have sm:iw t.1∧iw (aP.mk t.1.aC t.1.aC (thenS t.1.aC.aE t.1.aC.aC.aJ)):=⟨ht.1,⟨gs,gs,sl⟩⟩
 refine ob (dt B ht.2.JX _) fun z hz=>oc (fun _=>ob (ET B hz.2.JX) fun w hw=>os ⟨ht.1,hw.1⟩) fun _=>ob (ES T U) fun b _=>oc (fun _=>?_) fun _=>self sm
 refine ob (Gg T U) fun l hl=>ob (dt B hz.2.JX _) fun u hu=>oi hu.1.1 (hu.1.2 (by have:=hl.2.2 _ _ Gt; omega)) fun g hg=>?_
 have H:=hl.2.1 g hg
 have hs:=H.small T U
 refine ob (Ov T U Gf H (by omega) (by omega)) fun p hp=>od (fun h0=>ob (dt B hu.2.JX _) fun v hv=>oi hv.1.1 (hv.1.2 (by omega)) fun q hq=>?_) fun _=>self sm
 have ql:q.length≤1048576:=by have:=hp.2 q hq; omega
 exact oe (yx gs hs ql) (os ⟨ht.1,⟨gs,hs,ql⟩⟩)
theorem JY {f:aN} (h:ie f):lD f f=some true:=by
 unfold lD
 have h1:=h.o
 have h2:=h.a
 rw [N6 h.s,aH,cond_true,N6 h.t,aH,cond_true,Ch _ _ (by omega),aH,beq_self_eq_true,cond_true,Ch _ _ (by omega),aH,beq_self_eq_true]
 rfl
theorem EL {m:aP} (h:iw m):iP m m=some true:=by
 unfold iP
 have h1:=h.p
 rw [JY h.s,aH,cond_true,JY h.t,aH,cond_true,Ch _ _ (by omega),aH,beq_self_eq_true]
 rfl
def LQ:aP:=(aP.mk (aN.mk (aI.mk ((0:Int)) ([]) ([]) ([]) ([])) (aI.mk ((0:Int)) ([]) ([]) ([]) ([])) ([]) ([])) (aN.mk (aI.mk ((0:Int)) ([]) ([]) ([]) ([])) (aI.mk ((0:Int)) ([]) ([]) ([]) ([])) ([]) ([])) ([]))
theorem CF:iw LQ:=by
 have c:fu (aI.mk ((0:Int)) ([]) ([]) ([]) ([])):=⟨by decide,by decide,by decide,by decide,gn⟩
 have f:ie (aN.mk (aI.mk ((0:Int)) ([]) ([]) ([]) ([])) (aI.mk ((0:Int)) ([]) ([]) ([]) ([])) ([]) ([])):=⟨c,c,by decide,by decide⟩
 exact ⟨f,f,by decide⟩
theorem LR {s t:aP}:([s,t].all gu)=(gu s && gu t):=by simp
theorem vQ {s t:aP} (ss:iw s) (ts:iw t) (hs:gu s=true) (ht:gu t=true) (e:s.aC=t.aA):dN s t=some (vZ s t,0):=by
 have N:=rn hs
 obtain ⟨h1,h2,h3⟩:=JS hs ht e
 unfold dN
 rw [wH _ (by simp) (fun c hc=>by rcases List.mem_cons.1 hc with rfl | hc; exact ss; rw [List.mem_singleton.1 hc]; exact ts),aH,LR,hs,ht,Bool.and_self,Bool.not_true,cond_false,Ei ss.t,aH,Al.2 e,Bool.not_true,cond_false,
  Iv N.f.d h1 ss.p h2 h3,aH,FP ss.s ts.t (by rw [nt]; exact ss.p),aH]; rfl
theorem Th {f:aN} (fs:ie f) (hf:j8 f=true):fZ f=some (Oo f,0):=by
 unfold fZ
 rw [BR fs,aH,hf,Bool.not_true,cond_false,Qw _ _ fs.o (Oq (rq hf)),aH,FP fs fs (by rw [sH]; exact fs.o),aH]; rfl
def xC (s t:aP):aP×Int:=bif gu s && gu t then (bif vw s.aC t.aA then (vZ s t,0) else (LQ,5)) else (LQ,1)
theorem Lz {s t:aP} (hs:iw s) (ht:iw t):iw (xC s t).1:=by
 unfold xC
 cases gu s && gu t with
 | false=>exact CF
 | true=>
  cases vw s.aC t.aA with
  | false=>exact CF
  | true=>exact uI hs ht
theorem LS {f g:aN} (h:ie f):oY f g=some (vw f g):=by
 have h1:=h.o
 have h2:=h.a
 unfold oY
 rw [vr h.s,aH,vr h.t,aH,xx _ _ (by omega),aH,xx _ _ (by omega),aH,jv,rV,jv,rV,jv,rV]; rfl
section
variable {s t:aP} (ss:iw s) (ts:iw t)
include ss ts
theorem Ly:gS s t=some (xC s t):=by
 unfold gS xC
 rw [EN ss,aH]
 cases hs:gu s with
 | false=>rfl
 | true=>
  rw [Bool.not_true,cond_false,EN ts,aH,aH]
  cases ht:gu t with
  | false=>rfl
  | true=>
   rw [Bool.not_true,cond_false,LS ss.t,aH]
   cases hc:vw s.aC t.aA with
   | false=>rfl
   | true=>
    obtain ⟨h1,h2,h3⟩:=JS hs ht (Al.1 hc)
    rw [Bool.not_true,cond_false,Iw (rn hs).f.d h1 ss.p h2 h3,aH,yx ss.s ts.t (by rw [nt]; exact ss.p),aH]
    rfl
theorem Lx:dN s t=some (xC s t):=by
 unfold xC
 cases hs:gu s with
 | false=>
  unfold dN
  rw [wH _ (by simp) (fun c hc=>by rcases List.mem_cons.1 hc with rfl | hc; exact ss; rw [List.mem_singleton.1 hc]; exact ts),aH,LR,hs]; rfl
 | true=>
  cases ht:gu t with
  | false=>
   unfold dN
   rw [wH _ (by simp) (fun c hc=>by rcases List.mem_cons.1 hc with rfl | hc; exact ss; rw [List.mem_singleton.1 hc]; exact ts),aH,LR,hs,ht]; rfl
  | true=>
   cases hc:vw s.aC t.aA with
   | false=>
    unfold dN
    rw [wH _ (by simp) (fun c hc=>by rcases List.mem_cons.1 hc with rfl | hc; exact ss; rw [List.mem_singleton.1 hc]; exact ts),aH,LR,hs,ht,Bool.and_self,Bool.not_true,cond_false,Ei ss.t,aH,hc]; rfl
   | true=>exact vQ ss ts hs ht (Al.1 hc)
end
end Go.Proofs.YtkcpiblgpnjanaaGreat
