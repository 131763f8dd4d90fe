/- Functors: what the reference's and the program's looks at them give. No condition beside those that each theorem names. -/
import Derived.Test.YtkcpiblgpnjanaaGreatVj
namespace Go.Proofs.YtkcpiblgpnjanaaGreat
open Go Go.Li
set_option linter.unusedVariables false
structure dv (f:aL):Prop where
 s:gj f.aB
 t:gj f.aE
 o:f.aC.length≤1048576
 a:f.af.length≤1048576
def Am (f:aL):Bool:=sU f.aB && (sU f.aE && ((((f.aC.length:Int) == f.aB.aC) && (f.af.length == f.aB.aG.length)) && (p9 f.aE.aC f.aC && p9 f.aE.aG.length f.af)))
def zi (f:aL) (a:Int):Bool:=(gi f.aE.aG (gi f.af a) != gi f.aC (gi f.aB.aG a)) || (gi f.aE.To (gi f.af a) != gi f.aC (gi f.aB.To a))
def Cj (f:aL) (x:Int):Bool:=gi f.af (gi f.aB.aJ x) != gi f.aE.aJ (gi f.aC x)
def vE (f:aL) (a b:Int):Bool:=(gi f.aB.To a == gi f.aB.aG b) && (gi f.af (gk f.aB.aF a b) != gk f.aE.aF (gi f.af a) (gi f.af b))
def An (f:aL):Bool:=!((ns f.aB.aG.length).any (zi f))
def Ij (f:aL):Bool:=!((ns f.aB.aC.toNat).any (Cj f)) && !((ns f.aB.aG.length).any fun a=>(ns f.aB.aG.length).any (vE f a))
def ig (f:aL):Bool:=Am f && (An f && Ij f)
structure FHead (f:aL):Prop where
 c:rN f.aB
 d:rN f.aE
 ol:(f.aC.length:Int)=f.aB.aC
 al:f.af.length=f.aB.aG.length
 oo:∀ y∈f.aC,0≤y∧y < f.aE.aC
 aa:∀ y∈f.af,0≤y∧y < f.aE.aG.length
theorem Qu {f:aL} (h:Am f=true):FHead f:=by
 unfold Am at h
 simp only [Bool.and_eq_true,beq_iff_eq,sk] at h
 obtain ⟨h1,h2,⟨h3,h4⟩,h5,h6⟩:=h
 exact ⟨zd h1,zd h2,h3,h4,h5,h6⟩
namespace FHead
variable {f:aL} (H:FHead f)
include H
theorem wg {x:Int} (h0:0≤x) (h1:x < f.aB.aC):idx f.aC x=some (gi f.aC x):=cT h0 (by rw [H.ol]; exact h1)
theorem uV {a:Int} (h0:0≤a) (h1:a < f.aB.aG.length):idx f.af a=some (gi f.af a):=cT h0 (by rw [H.al]; exact h1)
theorem ob {x:Int} (h0:0≤x) (h1:x < f.aB.aC):0≤gi f.aC x∧gi f.aC x < f.aE.aC:=H.oo _ (er h0 (by rw [H.ol]; exact h1))
theorem ar {a:Int} (h0:0≤a) (h1:a < f.aB.aG.length):0≤gi f.af a∧gi f.af a < f.aE.aG.length:=H.aa _ (er h0 (by rw [H.al]; exact h1))
end FHead
structure Lp (f:aL):Prop extends FHead f where
 fr:∀ a:Int,0≤a→a < f.aB.aG.length→gi f.aE.aG (gi f.af a)=gi f.aC (gi f.aB.aG a)
 to:∀ a:Int,0≤a→a < f.aB.aG.length→gi f.aE.To (gi f.af a)=gi f.aC (gi f.aB.To a)
theorem Ik {f:aL} (h1:Am f=true) (h2:An f=true):Lp f:=by
 unfold An at h2
 rw [Bool.not_eq_true',ie] at h2
 refine { Qu h1 with fr:=fun a a0 a1=>?_,to:=fun a a0 a1=>?_ } <;>
 ·have:=h2 a a0 a1
  unfold zi at this
  simp only [Bool.or_eq_false_iff,bne_eq_false_iff_eq] at this
  first | exact this.1 | exact this.2
structure H7 (f:aL):Prop extends Lp f where
 un:∀ x:Int,0≤x→x < f.aB.aC→gi f.af (gi f.aB.aJ x)=gi f.aE.aJ (gi f.aC x)
 co:∀ a b:Int,0≤a→a < f.aB.aG.length→0≤b→b < f.aB.aG.length→gi f.aB.To a=gi f.aB.aG b→gi f.af (gk f.aB.aF a b)=gk f.aE.aF (gi f.af a) (gi f.af b)
theorem tC {f:aL} (h:ig f=true):H7 f:=by
 unfold ig Ij at h
 simp only [Bool.and_eq_true,Bool.not_eq_true'] at h
 obtain ⟨h1,h2,h3,h4⟩:=h
 have E:=Ik h1 h2
 have ho:=E.c.o0
 rw [ie] at h3 h4
 refine { E with un:=fun x x0 x1=>?_,co:=fun a b a0 a1 b0 b1 e=>?_ }
 ·have:=h3 x x0 (by omega)
  unfold Cj at this
  simpa using this
 ·have:=(ie.1 (h4 a a0 a1)) b b0 b1
  unfold vE at this
  simpa [e] using this
theorem BM {f:aL} (hs:dv f):mV f=some (ig f):=by
 have ho:=hs.o
 have ha:=hs.a
 unfold mV ig Am
 rw [Ns hs.s,aH]
 cases h1:sU f.aB with
 | false=>rfl
 | true=>
  have C:=zd h1
  rw [Ns hs.t,aH]
  cases h2:sU f.aE with
  | false=>rfl
  | true=>
   have T:=zd h2
   simp only [Bool.not_true,cond_false,Bool.true_and]
   by_cases e1:(f.aC.length:Int)=f.aB.aC
   ·rw [tn e1,cond_false,vl e1,Bool.true_and]
    by_cases e2:f.af.length=f.aB.aG.length
    ·rw [tn (by omega),aH,cond_false,Ce _ _ (by omega),aH,vl e2,Bool.true_and]
     cases h3:p9 f.aE.aC f.aC with
     | false=>rfl
     | true=>
      rw [Ce _ _ (by omega),aH]
      cases h4:p9 f.aE.aG.length f.af with
      | false=>rfl
      | true=>
       have H:FHead f:=⟨C,T,e1,e2,sk.1 h3,sk.1 h4⟩
       have cm:=C.m
       have co:=C.o8
       simp only [Bool.not_true,cond_false,aH,Bool.and_self,Bool.true_and]
       rw [yz (n:=f.aB.aG.length) (zi f) (fun a bc=>?_) (by unfold pS; rw [bn (by omega),cond_false])]
       ·unfold An
        cases h5:(ns f.aB.aG.length).any (zi f) with
        | true=>rfl
        | false=>
         rw [cond_false,Bool.not_false,Bool.true_and]
         rw [yz (n:=f.aB.aC.toNat) (Cj f) (fun x bc=>?_) (by unfold pT; rw [bn (by omega),cond_false])]
         ·unfold Ij
          cases h6:(ns f.aB.aC.toNat).any (Cj f) with
          | true=>rfl
          | false=>
           rw [cond_false,Bool.not_false,Bool.true_and]
           have E:Lp f:=Ik (by unfold Am; simp [h1,h2,h3,h4,e1,e2]) (by unfold An; rw [h5]; rfl)
           rw [yz (n:=f.aB.aG.length) (fun a=>(ns f.aB.aG.length).any (vE f a)) (fun a bc=>?_) (by unfold pV; rw [bn (by omega),cond_false])]
           ·cases (ns f.aB.aG.length).any fun a=>(ns f.aB.aG.length).any (vE f a) <;> rfl
           ·unfold pV
            rw [aX (by omega),cond_true]
            rw [yz (n:=f.aB.aG.length) (vE f a) (fun b hb=>?_) (by unfold pU; rw [bn (by omega),cond_false])]
            ·rw [cA (by omega)]
            ·unfold pU
             rw [aX (by omega),cond_true,C.jc (by omega) (by omega),aH,C.iz (by omega) (by omega),aH]
             unfold vE
             by_cases e:gi f.aB.To a=gi f.aB.aG b
             ·have k:=C.cell a b (by omega) (by omega) (by omega) (by omega) e
              have ka:=H.ar (a:=(a:Int)) (by omega) (by omega)
              have kb:=H.ar (a:=(b:Int)) (by omega) (by omega)
              rw [vl e,cond_true,C.nj (by omega) (by omega),aH,C.l9 (by omega) (by omega) (by omega) (by omega),aH,H.uV k.1 k.2.1,aH,H.uV (by omega) (by omega),aH,T.nj ka.1 ka.2,aH,H.uV (by omega) (by omega),aH,T.l9 ka.1 ka.2 kb.1 kb.2,aH,aH,Bool.true_and,cA (by omega)]; rfl
             ·rw [sT e,cond_false,aH,Bool.false_and,cA (by omega)]; rfl
         ·have kx:=H.ob (x:=(x:Int)) (by omega) (by omega)
          have ki:=C.id (x:=(x:Int)) (by omega) (by omega)
          unfold pT
          rw [aX (by omega),cond_true,C.ot (by omega) (by omega),aH,H.uV ki.1 ki.2,aH,H.wg (by omega) (by omega),aH,T.ot kx.1 kx.2,aH,cA (by omega)]
          rfl
       ·have ka:=H.ar (a:=(a:Int)) (by omega) (by omega)
        have kf:=C.fr (f:=(a:Int)) (by omega) (by omega)
        have kt:=C.to (f:=(a:Int)) (by omega) (by omega)
        unfold pS
        rw [aX (by omega),cond_true,H.uV (by omega) (by omega),aH,T.iz ka.1 ka.2,aH,C.iz (by omega) (by omega),aH,H.wg kf.1 kf.2,aH,aH,T.jc ka.1 ka.2,aH,C.jc (by omega) (by omega),aH,H.wg kt.1 kt.2,aH,cA (by omega),nk,zf,aH]
        rfl
    ·rw [rS (by omega),aH,cond_true,sT e2]; rfl
   ·rw [rS e1,cond_true,aH,cond_true,sT e1]; rfl
theorem NY {f:aL} (hs:dv f) (C:rN f.aB) (T:rN f.aE):kR f=some (((((f.aC.length:Int) == f.aB.aC) && (f.af.length == f.aB.aG.length)) && (p9 f.aE.aC f.aC && p9 f.aE.aG.length f.af)) && (An f && Ij f)):=by
 have ho:=hs.o
 have ha:=hs.a
 have cm:=C.m
 have co:=C.o8
 have tm:=T.m
 have to:=T.o8
 have t0:=T.o0
 unfold kR
 by_cases e1:(f.aC.length:Int)=f.aB.aC
 ·rw [tn e1,cond_false,vl e1,Bool.true_and]
  rw [show dY f.aB=some (f.aB.aG.length:Int) from rfl,aH]
  by_cases e2:f.af.length=f.aB.aG.length
  ·rw [tn (by omega),cond_false,within _ _ (by omega) (by omega) (by omega),aH,vl e2,Bool.true_and]
   cases h3:p9 f.aE.aC f.aC with
   | false=>rfl
   | true=>
    rw [Bool.not_true,cond_false,show dY f.aE=some (f.aE.aG.length:Int) from rfl,aH,within _ _ (by omega) (by omega) (by omega),aH]
    cases h4:p9 f.aE.aG.length f.af with
    | false=>rfl
    | true=>
     have H:FHead f:=⟨C,T,e1,e2,sk.1 h3,sk.1 h4⟩
     have il:=C.il
     have kl:=C.kl
     simp only [Bool.not_true,cond_false,aH,Bool.and_self,Bool.true_and]
     rw [yz (n:=f.aB.aG.length) (zi f) (fun a bc=>?_) (by unfold lD; rw [bn (by omega),cond_false])]
     ·unfold An
      cases h5:(ns f.aB.aG.length).any (zi f) with
      | true=>rfl
      | false=>
       rw [cond_false,Bool.not_false,Bool.true_and]
       rw [yz (n:=f.aB.aC.toNat) (Cj f) (fun x bc=>?_) (by unfold lE; rw [bn (by omega),cond_false])]
       ·unfold Ij
        cases h6:(ns f.aB.aC.toNat).any (Cj f) with
        | true=>rfl
        | false=>
         rw [cond_false,Bool.not_false,Bool.true_and]
         rw [yz (n:=f.aB.aG.length) (fun a=>(ns f.aB.aG.length).any (vE f a)) (fun a bc=>?_) (by unfold lG; rw [bn (by omega),cond_false])]
         ·cases (ns f.aB.aG.length).any fun a=>(ns f.aB.aG.length).any (vE f a) <;> rfl
         ·unfold lG
          have hr:=C.row (a:Int) (by omega) (by omega)
          rw [aX (by omega),cond_true,C.nj (by omega) (by omega),aH]
          rw [yz (n:=f.aB.aG.length) (vE f a) (fun b hb=>?_) (by unfold lF; rw [bn (by omega),cond_false])]
          ·rw [cA (by omega)]
          ·unfold lF
           rw [aX (by omega),cond_true,C.l9 (by omega) (by omega) (by omega) (by omega),aH]
           unfold vE
           by_cases e:gi f.aB.To a=gi f.aB.aG b
           ·have k:=C.cell a b (by omega) (by omega) (by omega) (by omega) e
            have ka:=H.ar (a:=(a:Int)) (by omega) (by omega)
            have kb:=H.ar (a:=(b:Int)) (by omega) (by omega)
            rw [vl e,aX (show gk f.aB.aF a b ≥ 0 from k.1),cond_true,H.uV k.1 k.2.1,aH,H.uV (by omega) (by omega),aH,H.uV (by omega) (by omega),aH,T.qf ka.1 ka.2 kb.1 kb.2,aH,aH,Bool.true_and,cA (by omega)]; rfl
           ·have:=C.none a b (by omega) (by omega) (by omega) (by omega) e
            rw [sT e,bn (show ¬ gk f.aB.aF a b ≥ 0 by omega),cond_false,aH,Bool.false_and,cA (by omega)]; rfl
       ·have kx:=H.ob (x:=(x:Int)) (by omega) (by omega)
        have ki:=C.id (x:=(x:Int)) (by omega) (by omega)
        unfold lE
        rw [aX (by omega),cond_true,C.ot (by omega) (by omega),aH,H.uV ki.1 ki.2,aH,H.wg (by omega) (by omega),aH,T.ot kx.1 kx.2,aH,cA (by omega)]
        rfl
     ·have ka:=H.ar (a:=(a:Int)) (by omega) (by omega)
      have kf:=C.fr (f:=(a:Int)) (by omega) (by omega)
      have kt:=C.to (f:=(a:Int)) (by omega) (by omega)
      unfold lD
      rw [aX (by omega),cond_true,H.uV (by omega) (by omega),aH,T.iz ka.1 ka.2,aH,C.iz (by omega) (by omega),aH,H.wg kf.1 kf.2,aH,T.jc ka.1 ka.2,aH,C.jc (by omega) (by omega),aH,H.wg kt.1 kt.2,aH,cA (by omega),nk,zf,aH]
      rfl
  ·rw [rS (by omega),cond_true,sT e2]; rfl
 ·rw [rS e1,cond_true,sT e1]; rfl
theorem IL (l:List aI) (hl:l.length≤1048576) (hs:∀ c∈l,gj c):kI l=some (l.all sU):=by
 unfold kI
 refine (congrArg ao (kh l (fun c=>!sU c) (fun i=>(i:Int)) rfl ?_ ?_ (e:=(l.length:Int)) (y:=false) ?_)).trans ?_
 ·intro i x hx hp
  have hi:=b9 hx
  unfold jF
  rw [aX (by omega),cond_true,ca,hx,aH,Nu (hs x (List.mem_of_getElem? hx)),aH,show (!sU x)=false from hp,cond_false,cA (by omega)]
 ·intro i x hx hp
  have hi:=b9 hx
  unfold jF
  rw [aX (by omega),cond_true,ca,hx,aH,Nu (hs x (List.mem_of_getElem? hx)),aH,show (!sU x)=true from hp,cond_true]
 ·unfold jF
  rw [bn (by omega),cond_false]
 ·rw [pr]
  cases l.all sU <;> rfl
theorem BS {f:aL} (hs:dv f):gE f=some (ig f):=by
 unfold gE ig Am
 rw [IL _ (by simp) (by intro c hc; simp at hc; rcases hc with rfl | rfl; exact hs.s; exact hs.t),aH]
 simp only [List.all_cons,List.all_nil,Bool.and_true]
 cases h1:sU f.aB with
 | false=>rfl
 | true=>
  cases h2:sU f.aE with
  | false=>rfl
  | true=>
   rw [Bool.true_and,cond_true,NY hs (zd h1) (zd h2)]
   rfl
theorem yA (l:List aL) (hl:l.length≤1048576) (hs:∀ c∈l,dv c):kC l=some (l.all ig):=by
 unfold kC
 refine (congrArg ao (kh l (fun c=>!ig c) (fun i=>(i:Int)) rfl ?_ ?_ (e:=(l.length:Int)) (y:=false) ?_)).trans ?_
 ·intro i x hx hp
  have hi:=b9 hx
  unfold kE
  rw [aX (by omega),cond_true,ca,hx,aH,BS (hs x (List.mem_of_getElem? hx)),aH,show (!ig x)=false from hp,cond_false,cA (by omega)]
 ·intro i x hx hp
  have hi:=b9 hx
  unfold kE
  rw [aX (by omega),cond_true,ca,hx,aH,BS (hs x (List.mem_of_getElem? hx)),aH,show (!ig x)=true from hp,cond_true]
 ·unfold kE
  rw [bn (by omega),cond_false]
 ·rw [pr]
  cases l.all ig <;> rfl
theorem BN (l:List Int) (hl:l.length≤1048576):fQ l=some l:=by
 unfold fQ
 rw [dZ (by simp; omega) (by simp; omega),aH]; rfl
theorem IN {c d:aI} {o a:List Int} (hc:gj c) (hd:gj d) (ho:o.length≤1048576) (ha:a.length≤1048576):pC c d o a=some (aL.mk c d o a):=by
 unfold pC
 rw [HU hc,aH,HU hd,aH,BN o ho,aH,BN a ha,aH]; rfl
theorem Db {c d:aI} {o a:List Int} (hc:gj c) (hd:gj d) (ho:o.length≤1048576) (ha:a.length≤1048576):kX c d o a=some (aL.mk c d o a):=by
 unfold kX
 rw [xE hc,aH,xE hd,aH,jh o ho,aH,jh a ha,aH]; rfl
theorem FK {f:aL} (h:dv f):jK f=some f:=by
 unfold jK
 rw [IN h.s h.t h.o h.a,aH]; rfl
theorem yi (a b:List Int):(thenS a b).length=a.length:=by unfold thenS; rw [dA]
section
variable {f g:aL} (F:FHead f) (G:FHead g) (e:f.aE=g.aB)
include F G e
end
def F8 (f g:aL):Bool:=j9 f.aB g.aB && (j9 f.aE g.aE && ((f.aC == g.aC) && (f.af == g.af)))
theorem Qv {f g:aL}:F8 f g=true↔f=g:=by
 unfold F8
 simp only [Bool.and_eq_true,sW,beq_iff_eq]
 constructor
 ·rintro ⟨h1,h2,h3,h4⟩
  obtain ⟨_,_,_,_⟩:=f
  obtain ⟨_,_,_,_⟩:=g
  cases h1; cases h2; cases h3; cases h4; rfl
 ·rintro rfl; exact ⟨rfl,rfl,rfl,rfl⟩
theorem Lq {f g:aL} (h:dv f):lL f g=some (F8 f g):=by
 have ho:=h.o
 have ha:=h.a
 unfold lL F8
 rw [vC h.s,aH,vC h.t,aH,tN _ _ (by omega),aH,tN _ _ (by omega),aH,nk,vm,nk,vm,nk,vm]; rfl
theorem xG {f g:aL} (h:dv f):gI f g=some (j9 f.aB g.aB && j9 f.aE g.aE):=by
 unfold gI
 rw [vC h.s,aH,vC h.t,aH,nk,vm]; rfl
theorem H4 {f g:aL} (h:dv f):lH f g=some (j9 f.aB g.aB && j9 f.aE g.aE):=by
 unfold lH
 rw [CA h.s,aH,CA h.t]
 cases j9 f.aB g.aB <;> rfl
end Go.Proofs.YtkcpiblgpnjanaaGreat
namespace Go.Proofs.YtkcpiblgpnjanaaGreat
open Go Go.Li
set_option linter.unusedVariables false
structure tD (m:aV):Prop where
 s:dv m.aB
 t:dv m.aE
 p:m.au.length≤1048576
def yk (t:aV):Bool:=ig t.aB && (ig t.aE && ((j9 t.aB.aB t.aE.aB && j9 t.aB.aE t.aE.aE) && (((t.au.length:Int) == t.aB.aB.aC) && p9 t.aB.aE.aG.length t.au)))
def EI (t:aV) (x:Int):Bool:=(gi t.aB.aE.aG (gi t.au x) != gi t.aB.aC x) || (gi t.aB.aE.To (gi t.au x) != gi t.aE.aC x)
def sF (f g:aL) (p:List Int) (a:Int):Bool:=gk f.aE.aF (gi f.af a) (gi p (gi f.aB.To a)) == gk f.aE.aF (gi p (gi f.aB.aG a)) (gi g.af a)
def Il (t:aV):Bool:=!((ns t.aB.aB.aG.length).any fun a=>!(sF t.aB t.aE t.au a))
def Ao (t:aV):Bool:=!((ns t.au.length).any (EI t))
def kn (t:aV):Bool:=(yk t && Ao t) && Il t
structure THead (t:aV):Prop where
 f:H7 t.aB
 g:H7 t.aE
 fb:ig t.aB=true
 gb:ig t.aE=true
 es:t.aE.aB=t.aB.aB
 et:t.aE.aE=t.aB.aE
 pl:(t.au.length:Int)=t.aB.aB.aC
 pp:∀ y∈t.au,0≤y∧y < t.aB.aE.aG.length
theorem Im {t:aV} (h:yk t=true):THead t:=by
 unfold yk at h
 simp only [Bool.and_eq_true,beq_iff_eq,sk,sW] at h
 obtain ⟨h1,h2,⟨h3,h4⟩,h5,h6⟩:=h
 exact ⟨tC h1,tC h2,h1,h2,h3.symm,h4.symm,h5,h6⟩
namespace THead
variable {t:aV} (H:THead t)
include H
theorem W8 {x:Int} (h0:0≤x) (h1:x < t.aB.aB.aC):idx t.au x=some (gi t.au x):=cT h0 (by rw [H.pl]; exact h1)
theorem cp {x:Int} (h0:0≤x) (h1:x < t.aB.aB.aC):0≤gi t.au x∧gi t.au x < t.aB.aE.aG.length:=H.pp _ (er h0 (by rw [H.pl]; exact h1))
theorem Y8 {a:Int} (h0:0≤a) (h1:a < t.aB.aB.aG.length):0≤gi t.aE.af a∧gi t.aE.af a < t.aB.aE.aG.length:=by have:=H.g.ar (a:=a) h0 (by rw [H.es]; exact h1); rwa [H.et] at this
theorem X3 {a:Int} (h0:0≤a) (h1:a < t.aB.aB.aG.length):idx t.aE.af a=some (gi t.aE.af a):=H.g.uV h0 (by rw [H.es]; exact h1)
end THead
structure RJ (t:aV):Prop extends THead t where
 pf:∀ x:Int,0≤x→x < t.aB.aB.aC→gi t.aB.aE.aG (gi t.au x)=gi t.aB.aC x
 pt:∀ x:Int,0≤x→x < t.aB.aB.aC→gi t.aB.aE.To (gi t.au x)=gi t.aE.aC x
theorem Qw {t:aV} (h1:yk t=true) (h2:Ao t=true):RJ t:=by
 have H:=Im h1
 have hl:=H.pl
 unfold Ao at h2
 rw [Bool.not_eq_true',ie] at h2
 refine { H with pf:=fun a a0 a1=>?_,pt:=fun a a0 a1=>?_ } <;>
 ·have:=h2 a a0 (by omega)
  unfold EI at this
  simp only [Bool.or_eq_false_iff,bne_eq_false_iff_eq] at this
  first | exact this.1 | exact this.2
structure adC (t:aV):Prop extends RJ t where
 sq:∀ a:Int,0≤a→a < t.aB.aB.aG.length→gk t.aB.aE.aF (gi t.aB.af a) (gi t.au (gi t.aB.aB.To a))=gk t.aB.aE.aF (gi t.au (gi t.aB.aB.aG a)) (gi t.aE.af a)
theorem sZ {t:aV} (h:kn t=true):adC t:=by
 unfold kn at h
 simp only [Bool.and_eq_true] at h
 obtain ⟨⟨h1,h2⟩,h3⟩:=h
 unfold Il at h3
 rw [Bool.not_eq_true',ie] at h3
 refine { Qw h1 h2 with sq:=fun a a0 a1=>?_ }
 have:=h3 a a0 a1
 unfold sF at this
 simpa using this
theorem NJ {t:aV} (fb:ig t.aB=true) (gb:ig t.aE=true) (es:t.aE.aB=t.aB.aB) (et:t.aE.aE=t.aB.aE) (pl:(t.au.length:Int)=t.aB.aB.aC) (pp:∀ y∈t.au,0≤y∧y < t.aB.aE.aG.length)
  (pf:∀ x:Int,0≤x→x < t.aB.aB.aC→gi t.aB.aE.aG (gi t.au x)=gi t.aB.aC x) (pt:∀ x:Int,0≤x→x < t.aB.aB.aC→gi t.aB.aE.To (gi t.au x)=gi t.aE.aC x)
  (sq:∀ a:Int,0≤a→a < t.aB.aB.aG.length→gk t.aB.aE.aF (gi t.aB.af a) (gi t.au (gi t.aB.aB.To a))=gk t.aB.aE.aF (gi t.au (gi t.aB.aB.aG a)) (gi t.aE.af a)):kn t=true:=by
 unfold kn yk Ao Il
 simp only [Bool.and_eq_true,Bool.not_eq_true',beq_iff_eq,sk,sW,fb,gb,true_and]
 refine ⟨⟨⟨⟨es.symm,et.symm⟩,pl,pp⟩,?_⟩,?_⟩
 ·rw [ie]
  intro x x0 x1
  unfold EI
  rw [pf x x0 (by omega),pt x x0 (by omega)]; simp
 ·rw [ie]
  intro a a0 a1
  unfold sF
  rw [sq a a0 a1]; simp
theorem BR {t:aV} (H:THead t) {a:Int} (a0:0≤a) (a1:a < t.aB.aB.aG.length):iB t.aB t.aE t.au a=some (sF t.aB t.aE t.au a):=by
 have F:=H.f
 have kf:=F.c.fr a0 a1
 have kt:=F.c.to a0 a1
 have ka:=F.ar a0 a1
 have k1:=H.cp kt.1 kt.2
 have k2:=H.cp kf.1 kf.2
 have k3:=H.Y8 a0 a1
 unfold iB sF
 rw [F.uV a0 a1,aH,F.c.jc a0 a1,aH,H.W8 kt.1 kt.2,aH,F.d.qf ka.1 ka.2 k1.1 k1.2,aH,F.c.iz a0 a1,aH,H.W8 kf.1 kf.2,aH,H.X3 a0 a1,aH,F.d.qf k2.1 k2.2 k3.1 k3.2,aH]
 rfl
theorem W9 {n k:Nat} {A0:Int→Option (Out Int Int)} {p:Int→Bool} (a0:∀ a:Nat,a < n→A0 a=bif !(p a) then some (.ret (a:Int)) else some (.norm ((a+1:Nat):Int))) (a3:A0 n=some (.exit k (n:Int))) :
  ∃ y,ao (S:=Unit) (ah (ae k (ai A0 (0:Int))) fun _=>some (.ret (-1:Int)))=some y∧decide (y < 0) = !((ns n).any fun a=>!(p a)):=by
 have hx:∀ i:Nat,i < n→((!(p i))=false∧A0 i=some (.norm ((i+1:Nat):Int)))∨((!(p i))=true∧∃ y,A0 i=some (.ret y)∧0≤y):=by
  intro i hi
  rw [a0 i hi]
  cases p i with
  | true=>exact .inl ⟨rfl,rfl⟩
  | false=>exact .inr ⟨rfl,_,rfl,by omega⟩
 rcases acE (S:=Unit) (f:=fun _=>some (.ret (-1:Int))) (n:=n) (fun a=>!(p a)) (fun y:Int=>0≤y) hx a3 with ⟨h1,h2⟩ | ⟨h1,y,h2,h3⟩
 ·rw [h1,h2]; exact ⟨_,rfl,aX (by decide)⟩
 ·rw [h1,h2]; exact ⟨y,rfl,bn (by omega)⟩
theorem Lr {t:aV} (H:THead t):∃ y,kS t (fun a0 a1 a2 a3=>iB a0 a1 a2 a3)=some y∧decide (y < 0)=Il t:=by
 have cm:=H.f.c.m
 have al:=H.f.al
 unfold kS Il
 refine W9 (n:=t.aB.aB.aG.length) (fun a ha=>?_) (by unfold lK; rw [bn (by omega),cond_false])
 unfold lK
 show (bif decide ((a:Int) < (t.aB.af.length:Int)) then (iB t.aB t.aE t.au a>>=_) else _)=_
 rw [aX (by omega),cond_true,BR H (by omega) (by omega),aH,cA (by omega)]
theorem Ch {t:aV} (hs:tD t):eG t=some (kn t):=by
 have hp:=hs.p
 unfold eG
 have key:fZ t=some (yk t && Ao t):=by
  unfold fZ yk
  rw [yA _ (by simp) (by intro c hc; simp at hc; rcases hc with rfl | rfl; exact hs.s; exact hs.t),aH]
  simp only [List.all_cons,List.all_nil,Bool.and_true]
  cases h1:ig t.aB with
  | false=>rfl
  | true=>
   have F:=tC h1
   cases h2:ig t.aE with
   | false=>rfl
   | true=>
    have G:=tC h2
    have dm:=F.d.m
    simp only [Bool.true_and,Bool.not_true,cond_false]
    rw [xG hs.s,aH]
    cases h3:j9 t.aB.aB t.aE.aB && j9 t.aB.aE t.aE.aE with
    | false=>rfl
    | true=>
     have h4:=h3
     simp only [Bool.and_eq_true,sW] at h4
     rw [Bool.not_true,cond_false]
     by_cases e1:(t.au.length:Int)=t.aB.aB.aC
     ·rw [tn e1,cond_false,show dY t.aB.aE=some (t.aB.aE.aG.length:Int) from rfl,aH,within _ _ (by omega) (by omega) (by omega),aH,aH,vl e1,Bool.true_and,Bool.true_and]
      cases h:p9 t.aB.aE.aG.length t.au with
      | false=>rfl
      | true=>
       rw [Bool.not_true,cond_false,Bool.true_and]
       have H8:=sk.1 h
       rw [yz (n:=t.au.length) (EI t) (fun x bc=>?_) (by unfold gZ; rw [bn (by omega),cond_false])]
       ·unfold Ao
        cases (ns t.au.length).any (EI t) <;> rfl
       ·have kc:=H8 _ (er (l:=t.au) (j:=(x:Int)) (by omega) (by omega))
        unfold gZ
        rw [aX (by omega),cond_true,cT (by omega) (by omega),aH,show eX t.aB.aE (gi t.au x)=some (rH.mk (gi t.aB.aE.aG (gi t.au x)) (gi t.aB.aE.To (gi t.au x))) by unfold eX; rw [F.d.iz kc.1 kc.2,aH,F.d.jc kc.1 kc.2,aH]; rfl,aH,F.wg (by omega) (by omega),aH,G.wg (by omega) (by rw [← h4.1]; omega),aH,cA (by omega)]
        unfold EI
        rw [Bool.not_and]
        rfl
     ·rw [rS e1,cond_true,aH,cond_true,sT e1]; rfl
 rw [key,aH]
 unfold kn
 cases h1:yk t with
 | false=>rfl
 | true=>
  cases h2:Ao t with
  | false=>rfl
  | true=>
   obtain ⟨y,e1,e2⟩:=Lr (Im h1)
   simp only [Bool.and_self,cond_true]
   rw [e1,aH,e2]; rfl
theorem Ls (l:List aV) (hl:l.length≤1048576) (hs:∀ c∈l,tD c):mB l=some (l.all kn):=by
 unfold mB
 refine (congrArg ao (kh l (fun c=>!kn c) (fun i=>(i:Int)) rfl ?_ ?_ (e:=(l.length:Int)) (y:=false) ?_)).trans ?_
 ·intro i x hx hp
  have hi:=b9 hx
  unfold kL
  rw [aX (by omega),cond_true,ca,hx,aH,Ch (hs x (List.mem_of_getElem? hx)),aH,show (!kn x)=false from hp,cond_false,cA (by omega)]
 ·intro i x hx hp
  have hi:=b9 hx
  unfold kL
  rw [aX (by omega),cond_true,ca,hx,aH,Ch (hs x (List.mem_of_getElem? hx)),aH,show (!kn x)=true from hp,cond_true]
 ·unfold kL
  rw [bn (by omega),cond_false]
 ·rw [pr]
  cases l.all kn <;> rfl
theorem BO {f g:aL} {p:List Int} (hf:dv f) (hg:dv g) (hp:p.length≤1048576):gB f g p=some (aV.mk f g p):=by
 unfold gB
 rw [FK hf,aH,FK hg,aH,BN p hp,aH]; rfl
def vu (d:aI) (a b:List Int):List Int:=ew a.length fun i=>gk d.aF (gi a i) (gi b i)
theorem C8 (d:aI) (a b:List Int):(vu d a b).length=a.length:=by unfold vu; rw [dA]
theorem SN {d:aI} {a b:List Int} {x:Int} (h0:0≤x) (h1:x < a.length):gi (vu d a b) x=gk d.aF (gi a x) (gi b x):=sm h0 h1
theorem Io {d:aI} (C:rN d) {a b:List Int} (hl:b.length=a.length) (ha:a.length≤1048576) (h1:∀ y∈a,0≤y∧y < d.aG.length) (h2:∀ y∈b,0≤y∧y < d.aG.length):iW d a b=some (vu d a b):=by
 unfold iW
 rw [Cc (by omega) (by omega),aH]
 have py:(vu d a b).length=a.length:=C8 _ _ _
 refine (congrArg ao (td (ns a.length) (fun i=>((i:Int),(vu d a b).take i++List.replicate (a.length - i) (0:Int))) (by simp) ?_ (e:=((a.length:Int),vu d a b)) ?_)).trans rfl
 ·intro i x hx
  obtain ⟨rfl,hi⟩:=fh hx
  have hg:(vu d a b)[i]? = some (gk d.aF (gi a i) (gi b i)):=nv _ hi
  have k1:=h1 _ (er (l:=a) (j:=(i:Int)) (by omega) (by omega))
  have k2:=h2 _ (er (l:=b) (j:=(i:Int)) (by omega) (by omega))
  have hc:=CZ (vu d a b) (0:Int) hg
  have Fy:=get_copy (vu d a b) (0:Int) hg
  rw [py] at hc Fy
  show fG d a b (i:Int) _=_
  unfold fG
  rw [aX (by omega),cond_true,cT (by omega) (by omega),aH,cT (by omega) (by omega),aH,C.qf k1.1 k1.2 k2.1 k2.2,aH,ca,Fy,aH,cA (by omega),Int.toNat_natCast,hc]
 ·rw [dQ]
  show fG d a b _ _=_
  unfold fG
  rw [bn (by omega),cond_false,Nat.sub_self,List.take_of_length_le (by omega)]
  simp
end Go.Proofs.YtkcpiblgpnjanaaGreat
namespace Go.Proofs.YtkcpiblgpnjanaaGreat
open Go Go.Li
set_option linter.unusedVariables false
def WB (s t:aV):aV:=aV.mk s.aB t.aE (vu s.aB.aE s.au t.au)
def WC (f:aL):aV:=aV.mk f f (thenS f.aC f.aE.aJ)
theorem NM {f:aL} (hf:dv f):tD (WC f):=⟨hf,hf,by show (thenS _ _).length≤_; rw [yi]; exact hf.o⟩
section
variable {t:aV} {g:aL} (ht:kn t=true) (hg:ig g=true) (e:t.aB.aE=g.aB)
include ht hg e
omit hg e in
end
section
variable {t:aV} {f:aL} (hf:ig f=true) (ht:kn t=true) (e:f.aE=t.aB.aB)
include hf ht e
end
section
variable {s t:aV} (hs:kn s=true) (ht:kn t=true) (e:s.aE=t.aB)
include hs ht e
theorem S0:t.au.length=s.au.length∧(∀ y∈s.au,0≤y∧y < s.aB.aE.aG.length)∧∀ y∈t.au,0≤y∧y < s.aB.aE.aG.length:=by
 have S:=sZ hs
 have N:=sZ ht
 have h1:=S.pl
 have h2:=N.pl
 rw [← e,S.es] at h2
 refine ⟨by omega,S.pp,fun y hy=>?_⟩
 have:=N.pp y hy
 rw [← e,S.et] at this
 exact this
end
theorem Xa {f:aL} (F:H7 f):∀ x∈f.aC,0≤x∧x < f.aE.aJ.length:=by
 have h:=F.d.il
 intro x hx
 have:=F.oo x hx
 omega
end Go.Proofs.YtkcpiblgpnjanaaGreat
