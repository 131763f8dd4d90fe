/- Functors: what the reference's and the program's looks at them give. No condition beside those that each theorem names. -/
import Derived.Test.YtbhhmalgcnhniaaGreatVj
namespace Go.Proofs.YtbhhmalgcnhniaaGreat
open Go Go.Li
set_option linter.unusedVariables false
structure gq (f:aJ):Prop where
 s:fg f.aD
 t:fg f.aB
 o:f.aA.length≤1048576
 a:f.ab.length≤1048576
def vC (f:aJ):Bool:=ou f.aD && (ou f.aB && ((((f.aA.length:Int) == f.aD.aA) && (f.ab.length == f.aD.aF.length)) && (ot f.aB.aA f.aA && ot f.aB.aF.length f.ab)))
def xG (f:aJ) (a:Int):Bool:=(gi f.aB.aF (gi f.ab a) != gi f.aA (gi f.aD.aF a)) || (gi f.aB.To (gi f.ab a) != gi f.aA (gi f.aD.To a))
def z8 (f:aJ) (x:Int):Bool:=gi f.ab (gi f.aD.aH x) != gi f.aB.aH (gi f.aA x)
def uT (f:aJ) (a b:Int):Bool:=(gi f.aD.To a == gi f.aD.aF b) && (gi f.ab (gk f.aD.aC a b) != gk f.aB.aC (gi f.ab a) (gi f.ab b))
def ye (f:aJ):Bool:=!((ns f.aD.aF.length).any (xG f))
def Ev (f:aJ):Bool:=!((ns f.aD.aA.toNat).any (z8 f)) && !((ns f.aD.aF.length).any fun a=>(ns f.aD.aF.length).any (uT f a))
def dw (f:aJ):Bool:=vC f && (ye f && Ev f)
structure FHead (f:aJ):Prop where
 c:lr f.aD
 d:lr f.aB
 ol:(f.aA.length:Int)=f.aD.aA
 al:f.ab.length=f.aD.aF.length
 oo:∀ y∈f.aA,0≤y∧y < f.aB.aA
 aa:∀ y∈f.ab,0≤y∧y < f.aB.aF.length
theorem PX {f:aJ} (h:vC f=true):FHead f:=by
 unfold vC at h
 simp only [Bool.and_eq_true,beq_iff_eq,pd] at h
 obtain ⟨h1,h2,⟨h3,h4⟩,h5,h6⟩:=h
 exact ⟨xr h1,xr h2,h3,h4,h5,h6⟩
namespace FHead
variable {f:aJ} (H:FHead f)
include H
theorem uR {x:Int} (h0:0≤x) (h1:x < f.aD.aA):idx f.aA x=some (gi f.aA x):=bL h0 (by rw [H.ol]; exact h1)
theorem ru {a:Int} (h0:0≤a) (h1:a < f.aD.aF.length):idx f.ab a=some (gi f.ab a):=bL h0 (by rw [H.al]; exact h1)
theorem ob {x:Int} (h0:0≤x) (h1:x < f.aD.aA):0≤gi f.aA x∧gi f.aA x < f.aB.aA:=H.oo _ (eh h0 (by rw [H.ol]; exact h1))
theorem ar {a:Int} (h0:0≤a) (h1:a < f.aD.aF.length):0≤gi f.ab a∧gi f.ab a < f.aB.aF.length:=H.aa _ (eh h0 (by rw [H.al]; exact h1))
end FHead
structure KV (f:aJ):Prop extends FHead f where
 fr:∀ a:Int,0≤a→a < f.aD.aF.length→gi f.aB.aF (gi f.ab a)=gi f.aA (gi f.aD.aF a)
 to:∀ a:Int,0≤a→a < f.aD.aF.length→gi f.aB.To (gi f.ab a)=gi f.aA (gi f.aD.To a)
theorem H6 {f:aJ} (h1:vC f=true) (h2:ye f=true):KV f:=by
 unfold ye at h2
 rw [Bool.not_eq_true',br] at h2
 refine { PX h1 with fr:=fun a a0 a1=>?_,to:=fun a a0 a1=>?_ } <;>
 ·have:=h2 a a0 a1
  unfold xG at this
  simp only [Bool.or_eq_false_iff,bne_eq_false_iff_eq] at this
  first | exact this.1 | exact this.2
structure Cm (f:aJ):Prop extends KV f where
 un:∀ x:Int,0≤x→x < f.aD.aA→gi f.ab (gi f.aD.aH x)=gi f.aB.aH (gi f.aA x)
 co:∀ a b:Int,0≤a→a < f.aD.aF.length→0≤b→b < f.aD.aF.length→gi f.aD.To a=gi f.aD.aF b→gi f.ab (gk f.aD.aC a b)=gk f.aB.aC (gi f.ab a) (gi f.ab b)
theorem cn {f:aJ} (h:dw f=true):Cm f:=by
 unfold dw Ev at h
 simp only [Bool.and_eq_true,Bool.not_eq_true'] at h
 obtain ⟨h1,h2,h3,h4⟩:=h
 have E:=H6 h1 h2
 have ho:=E.c.o0
 rw [br] at h3 h4
 refine { E with un:=fun x x0 x1=>?_,co:=fun a b a0 a1 b0 b1 e=>?_ }
 ·have:=h3 x x0 (by omega)
  unfold z8 at this
  simpa using this
 ·have:=(br.1 (h4 a a0 a1)) b b0 b1
  unfold uT at this
  simpa [e] using this
theorem DU {f:aJ} (h1:ou f.aD=true) (h2:ou f.aB=true) (ol:(f.aA.length:Int)=f.aD.aA) (al:f.ab.length=f.aD.aF.length) (oo:∀ y∈f.aA,0≤y∧y < f.aB.aA) (aa:∀ y∈f.ab,0≤y∧y < f.aB.aF.length)
  (fr:∀ a:Int,0≤a→a < f.aD.aF.length→gi f.aB.aF (gi f.ab a)=gi f.aA (gi f.aD.aF a)) (to:∀ a:Int,0≤a→a < f.aD.aF.length→gi f.aB.To (gi f.ab a)=gi f.aA (gi f.aD.To a))
  (un:∀ x:Int,0≤x→x < f.aD.aA→gi f.ab (gi f.aD.aH x)=gi f.aB.aH (gi f.aA x))
  (co:∀ a b:Int,0≤a→a < f.aD.aF.length→0≤b→b < f.aD.aF.length→gi f.aD.To a=gi f.aD.aF b→gi f.ab (gk f.aD.aC a b)=gk f.aB.aC (gi f.ab a) (gi f.ab b)):dw f=true:=by
 have C:=xr h1
 have hc:=C.o0
 unfold dw vC ye Ev
 simp only [Bool.and_eq_true,Bool.not_eq_true',beq_iff_eq,pd,h1,h2,true_and]
 refine ⟨⟨⟨ol,al⟩,oo,aa⟩,?_,?_,?_⟩
 ·rw [br]
  intro a a0 a1
  unfold xG
  rw [fr a a0 a1,to a a0 a1]; simp
 ·rw [br]
  intro x x0 x1
  unfold z8
  rw [un x x0 (by omega)]; simp
 ·rw [br]
  intro a a0 a1
  rw [br]
  intro b b0 b1
  unfold uT
  by_cases e:gi f.aD.To a=gi f.aD.aF b
  ·rw [co a b a0 a1 b0 b1 e]; simp
  ·simp [e]
theorem Bc {f:aJ} (hs:gq f):rQ f=some (dw f):=by
 have ho:=hs.o
 have ha:=hs.a
 unfold rQ dw vC
 rw [MG hs.s,aE]
 cases h1:ou f.aD with
 | false=>rfl
 | true=>
  have C:=xr h1
  rw [MG hs.t,aE]
  cases h2:ou f.aB with
  | false=>rfl
  | true=>
   have T:=xr h2
   simp only [Bool.not_true,cond_false,Bool.true_and]
   by_cases e1:(f.aA.length:Int)=f.aD.aA
   ·rw [tk e1,cond_false,jr e1,Bool.true_and]
    by_cases e2:f.ab.length=f.aD.aF.length
    ·rw [tk (by omega),aE,cond_false,BP _ _ (by omega),aE,jr e2,Bool.true_and]
     cases h3:ot f.aB.aA f.aA with
     | false=>rfl
     | true=>
      rw [BP _ _ (by omega),aE]
      cases h4:ot f.aB.aF.length f.ab with
      | false=>rfl
      | true=>
       have H:FHead f:=⟨C,T,e1,e2,pd.1 h3,pd.1 h4⟩
       have cm:=C.m
       have co:=C.o8
       simp only [Bool.not_true,cond_false,aE,Bool.and_self,Bool.true_and]
       rw [nr (n:=f.aD.aF.length) (xG f) (fun a bh=>?_) (by unfold rD; rw [ay (by omega),cond_false])]
       ·unfold ye
        cases h5:(ns f.aD.aF.length).any (xG f) with
        | true=>rfl
        | false=>
         rw [cond_false,Bool.not_false,Bool.true_and]
         rw [nr (n:=f.aD.aA.toNat) (z8 f) (fun x bh=>?_) (by unfold rF; rw [ay (by omega),cond_false])]
         ·unfold Ev
          cases h6:(ns f.aD.aA.toNat).any (z8 f) with
          | true=>rfl
          | false=>
           rw [cond_false,Bool.not_false,Bool.true_and]
           have E:KV f:=H6 (by unfold vC; simp [h1,h2,h3,h4,e1,e2]) (by unfold ye; rw [h5]; rfl)
           rw [nr (n:=f.aD.aF.length) (fun a=>(ns f.aD.aF.length).any (uT f a)) (fun a bh=>?_) (by unfold rH; rw [ay (by omega),cond_false])]
           ·cases (ns f.aD.aF.length).any fun a=>(ns f.aD.aF.length).any (uT f a) <;> rfl
           ·unfold rH
            rw [ao (by omega),cond_true]
            rw [nr (n:=f.aD.aF.length) (uT f a) (fun b hb=>?_) (by unfold rG; rw [ay (by omega),cond_false])]
            ·rw [bF (by omega)]
            ·unfold rG
             rw [ao (by omega),cond_true,C.ig (by omega) (by omega),aE,C.ic (by omega) (by omega),aE]
             unfold uT
             by_cases e:gi f.aD.To a=gi f.aD.aF b
             ·have k:=C.cell a b (by omega) (by omega) (by omega) (by omega) e
              have ka:=H.ar (a:=(a:Int)) (by omega) (by omega)
              have kb:=H.ar (a:=(b:Int)) (by omega) (by omega)
              rw [jr e,cond_true,C.nq (by omega) (by omega),aE,C.me (by omega) (by omega) (by omega) (by omega),aE,H.ru k.1 k.2.1,aE,H.ru (by omega) (by omega),aE,T.nq ka.1 ka.2,aE,H.ru (by omega) (by omega),aE,T.me ka.1 ka.2 kb.1 kb.2,aE,aE,Bool.true_and,bF (by omega)]; rfl
             ·rw [vo e,cond_false,aE,Bool.false_and,bF (by omega)]; rfl
         ·have kx:=H.ob (x:=(x:Int)) (by omega) (by omega)
          have ki:=C.id (x:=(x:Int)) (by omega) (by omega)
          unfold rF
          rw [ao (by omega),cond_true,C.kz (by omega) (by omega),aE,H.ru ki.1 ki.2,aE,H.uR (by omega) (by omega),aE,T.kz kx.1 kx.2,aE,bF (by omega)]
          rfl
       ·have ka:=H.ar (a:=(a:Int)) (by omega) (by omega)
        have kf:=C.fr (f:=(a:Int)) (by omega) (by omega)
        have kt:=C.to (f:=(a:Int)) (by omega) (by omega)
        unfold rD
        rw [ao (by omega),cond_true,H.ru (by omega) (by omega),aE,T.ic ka.1 ka.2,aE,C.ic (by omega) (by omega),aE,H.uR kf.1 kf.2,aE,aE,T.ig ka.1 ka.2,aE,C.ig (by omega) (by omega),aE,H.uR kt.1 kt.2,aE,bF (by omega),rb,yU,aE]
        rfl
    ·rw [sa (by omega),aE,cond_true,vo e2]; rfl
   ·rw [sa e1,cond_true,aE,cond_true,vo e1]; rfl
theorem No {f:aJ} (hs:gq f) (C:lr f.aD) (T:lr f.aB):lA f=some (((((f.aA.length:Int) == f.aD.aA) && (f.ab.length == f.aD.aF.length)) && (ot f.aB.aA f.aA && ot f.aB.aF.length f.ab)) && (ye f && Ev f)):=by
 have ho:=hs.o
 have ha:=hs.a
 have cm:=C.m
 have co:=C.o8
 have tm:=T.m
 have to:=T.o8
 have t0:=T.o0
 unfold lA
 by_cases e1:(f.aA.length:Int)=f.aD.aA
 ·rw [tk e1,cond_false,jr e1,Bool.true_and]
  rw [show cX f.aD=some (f.aD.aF.length:Int) from rfl,aE]
  by_cases e2:f.ab.length=f.aD.aF.length
  ·rw [tk (by omega),cond_false,within _ _ (by omega) (by omega) (by omega),aE,jr e2,Bool.true_and]
   cases h3:ot f.aB.aA f.aA with
   | false=>rfl
   | true=>
    rw [Bool.not_true,cond_false,show cX f.aB=some (f.aB.aF.length:Int) from rfl,aE,within _ _ (by omega) (by omega) (by omega),aE]
    cases h4:ot f.aB.aF.length f.ab with
    | false=>rfl
    | true=>
     have H:FHead f:=⟨C,T,e1,e2,pd.1 h3,pd.1 h4⟩
     have il:=C.il
     have kl:=C.kl
     simp only [Bool.not_true,cond_false,aE,Bool.and_self,Bool.true_and]
     rw [nr (n:=f.aD.aF.length) (xG f) (fun a bh=>?_) (by unfold lX; rw [ay (by omega),cond_false])]
     ·unfold ye
      cases h5:(ns f.aD.aF.length).any (xG f) with
      | true=>rfl
      | false=>
       rw [cond_false,Bool.not_false,Bool.true_and]
       rw [nr (n:=f.aD.aA.toNat) (z8 f) (fun x bh=>?_) (by unfold lY; rw [ay (by omega),cond_false])]
       ·unfold Ev
        cases h6:(ns f.aD.aA.toNat).any (z8 f) with
        | true=>rfl
        | false=>
         rw [cond_false,Bool.not_false,Bool.true_and]
         rw [nr (n:=f.aD.aF.length) (fun a=>(ns f.aD.aF.length).any (uT f a)) (fun a bh=>?_) (by unfold mA; rw [ay (by omega),cond_false])]
         ·cases (ns f.aD.aF.length).any fun a=>(ns f.aD.aF.length).any (uT f a) <;> rfl
         ·unfold mA
          have hr:=C.row (a:Int) (by omega) (by omega)
          rw [ao (by omega),cond_true,C.nq (by omega) (by omega),aE]
          rw [nr (n:=f.aD.aF.length) (uT f a) (fun b hb=>?_) (by unfold lZ; rw [ay (by omega),cond_false])]
          ·rw [bF (by omega)]
          ·unfold lZ
           rw [ao (by omega),cond_true,C.me (by omega) (by omega) (by omega) (by omega),aE]
           unfold uT
           by_cases e:gi f.aD.To a=gi f.aD.aF b
           ·have k:=C.cell a b (by omega) (by omega) (by omega) (by omega) e
            have ka:=H.ar (a:=(a:Int)) (by omega) (by omega)
            have kb:=H.ar (a:=(b:Int)) (by omega) (by omega)
            rw [jr e,ao (show gk f.aD.aC a b ≥ 0 from k.1),cond_true,H.ru k.1 k.2.1,aE,H.ru (by omega) (by omega),aE,H.ru (by omega) (by omega),aE,T.jv ka.1 ka.2 kb.1 kb.2,aE,aE,Bool.true_and,bF (by omega)]; rfl
           ·have:=C.none a b (by omega) (by omega) (by omega) (by omega) e
            rw [vo e,ay (show ¬ gk f.aD.aC a b ≥ 0 by omega),cond_false,aE,Bool.false_and,bF (by omega)]; rfl
       ·have kx:=H.ob (x:=(x:Int)) (by omega) (by omega)
        have ki:=C.id (x:=(x:Int)) (by omega) (by omega)
        unfold lY
        rw [ao (by omega),cond_true,C.kz (by omega) (by omega),aE,H.ru ki.1 ki.2,aE,H.uR (by omega) (by omega),aE,T.kz kx.1 kx.2,aE,bF (by omega)]
        rfl
     ·have ka:=H.ar (a:=(a:Int)) (by omega) (by omega)
      have kf:=C.fr (f:=(a:Int)) (by omega) (by omega)
      have kt:=C.to (f:=(a:Int)) (by omega) (by omega)
      unfold lX
      rw [ao (by omega),cond_true,H.ru (by omega) (by omega),aE,T.ic ka.1 ka.2,aE,C.ic (by omega) (by omega),aE,H.uR kf.1 kf.2,aE,T.ig ka.1 ka.2,aE,C.ig (by omega) (by omega),aE,H.uR kt.1 kt.2,aE,bF (by omega),rb,yU,aE]
      rfl
  ·rw [sa (by omega),cond_true,vo e2]; rfl
 ·rw [sa e1,cond_true,vo e1]; rfl
theorem MP (a b:List Int) (ha:a.length≤1048576) (hb:∀ x∈a,0≤x∧x < b.length):mW a b=some (thenS a b):=by
 unfold mW
 refine (congrArg ak (vp a.length (fun i=>gi b (gi a i)) (fun acc i=>(acc,(i:Int))) rfl ?_ ?_)).trans rfl
 ·intro i acc hi Vl
  have hm:=hb _ (eh (l:=a) (j:=(i:Int)) (by omega) (by omega))
  show kM a b acc i=_
  unfold kM
  rw [ao (by omega),cond_true,bL (by omega) (by omega),aE,bL hm.1 hm.2,aE,cY (by omega) (by omega),aE,bF (by omega)]
 ·intro acc _
  show kM a b acc _=_
  unfold kM
  rw [ay (by omega),cond_false]
theorem Iv (l:List aG) (hl:l.length≤1048576) (hs:∀ c∈l,fg c):kO l=some (l.all ou):=by
 unfold kO
 refine (congrArg ak (jc l (fun c=>!ou c) (fun i=>(i:Int)) rfl ?_ ?_ (e:=(l.length:Int)) (y:=false) ?_)).trans ?_
 ·intro i x hx hp
  have hi:=bb hx
  unfold jB
  rw [ao (by omega),cond_true,bu,hx,aE,Hx (hs x (List.mem_of_getElem? hx)),aE,show (!ou x)=false from hp,cond_false,bF (by omega)]
 ·intro i x hx hp
  have hi:=bb hx
  unfold jB
  rw [ao (by omega),cond_true,bu,hx,aE,Hx (hs x (List.mem_of_getElem? hx)),aE,show (!ou x)=true from hp,cond_true]
 ·unfold jB
  rw [ay (by omega),cond_false]
 ·rw [n8]
  cases l.all ou <;> rfl
theorem s6 {f:aJ} (hs:gq f):eK f=some (dw f):=by
 unfold eK dw vC
 rw [Iv _ (by simp) (by intro c hc; simp at hc; rcases hc with rfl | rfl; exact hs.s; exact hs.t),aE]
 simp only [List.all_cons,List.all_nil,Bool.and_true]
 cases h1:ou f.aD with
 | false=>rfl
 | true=>
  cases h2:ou f.aB with
  | false=>rfl
  | true=>
   rw [Bool.true_and,cond_true,No hs (xr h1) (xr h2)]
   rfl
theorem yw (l:List aJ) (hl:l.length≤1048576) (hs:∀ c∈l,gq c):iK l=some (l.all dw):=by
 unfold iK
 refine (congrArg ak (jc l (fun c=>!dw c) (fun i=>(i:Int)) rfl ?_ ?_ (e:=(l.length:Int)) (y:=false) ?_)).trans ?_
 ·intro i x hx hp
  have hi:=bb hx
  unfold kG
  rw [ao (by omega),cond_true,bu,hx,aE,s6 (hs x (List.mem_of_getElem? hx)),aE,show (!dw x)=false from hp,cond_false,bF (by omega)]
 ·intro i x hx hp
  have hi:=bb hx
  unfold kG
  rw [ao (by omega),cond_true,bu,hx,aE,s6 (hs x (List.mem_of_getElem? hx)),aE,show (!dw x)=true from hp,cond_true]
 ·unfold kG
  rw [ay (by omega),cond_false]
 ·rw [n8]
  cases l.all dw <;> rfl
theorem DS (l:List Int) (hl:l.length≤1048576):fF l=some l:=by
 unfold fF
 rw [cY (by simp; omega) (by simp; omega),aE]; rfl
theorem r8 {c d:aG} {o a:List Int} (hc:fg c) (hd:fg d) (ho:o.length≤1048576) (ha:a.length≤1048576):gB c d o a=some (aJ.mk c d o a):=by
 unfold gB
 rw [HE hc,aE,HE hd,aE,DS o ho,aE,DS a ha,aE]; rfl
theorem xy {c d:aG} {o a:List Int} (hc:fg c) (hd:fg d) (ho:o.length≤1048576) (ha:a.length≤1048576):gN c d o a=some (aJ.mk c d o a):=by
 unfold gN
 rw [xx hc,aE,xx hd,aE,j3 o ho,aE,j3 a ha,aE]; rfl
def qg (f g:aJ):aJ:=aJ.mk f.aD g.aB (thenS f.aA g.aA) (thenS f.ab g.ab)
theorem n7 (a b:List Int):(thenS a b).length=a.length:=by unfold thenS; rw [bJ]
theorem yx {f g:aJ} (hf:gq f) (hg:gq g):gq (qg f g):=⟨hf.s,hg.t,by show (thenS _ _).length≤_; rw [n7]; exact hf.o,by show (thenS _ _).length≤_; rw [n7]; exact hf.a⟩
section
variable {f g:aJ} (F:FHead f) (G:FHead g) (e:f.aB=g.aD)
include F G e
theorem Fi:(∀ x∈f.aA,0≤x∧x < g.aA.length)∧∀ x∈f.ab,0≤x∧x < g.ab.length:=by
 have h1:=G.ol
 have h2:=G.al
 rw [← e] at h1 h2
 exact ⟨fun x hx=>⟨(F.oo x hx).1,by have:=(F.oo x hx).2; omega⟩,fun x hx=>⟨(F.aa x hx).1,by have:=(F.aa x hx).2; omega⟩⟩
theorem Bd (hf:gq f) (hg:gq g):gY f g=some (qg f g):=by
 obtain ⟨h1,h2⟩:=Fi F G e
 unfold gY
 rw [CH _ _ hf.o h1,aE,CH _ _ hf.a h2,aE,r8 hf.s hg.t (by rw [n7]; exact hf.o) (by rw [n7]; exact hf.a),aE]; rfl
end
theorem CK {f g:aJ} (hf:dw f=true) (hg:dw g=true) (e:f.aB=g.aD):dw (qg f g)=true:=by
 have F:=cn hf
 have G:=cn hg
 have h1:ou f.aD=true:=by unfold dw vC at hf; simp only [Bool.and_eq_true] at hf; exact hf.1.1
 have h2:ou g.aB=true:=by unfold dw vC at hg; simp only [Bool.and_eq_true] at hg; exact hg.1.2.1
 have go:∀ x:Int,0≤x→x < f.aD.aA→gi (thenS f.aA g.aA) x=gi g.aA (gi f.aA x):=fun x x0 x1=>my x0 (by rw [F.ol]; exact x1)
 have ga:∀ a:Int,0≤a→a < f.aD.aF.length→gi (thenS f.ab g.ab) a=gi g.ab (gi f.ab a):=fun a a0 a1=>my a0 (by rw [F.al]; exact a1)
 have ob:∀ x:Int,0≤x→x < f.aD.aA→0≤gi f.aA x∧gi f.aA x < g.aD.aA:=fun x x0 x1=>by rw [← e]; exact F.ob x0 x1
 have ar:∀ a:Int,0≤a→a < f.aD.aF.length→0≤gi f.ab a∧gi f.ab a < g.aD.aF.length:=fun a a0 a1=>by rw [← e]; exact F.ar a0 a1
 obtain ⟨t1,t2⟩:=Fi F.toFHead G.toFHead e
 refine DU (f:=qg f g) h1 h2 ?_ ?_ ?_ ?_ ?_ ?_ ?_ ?_
 ·show ((thenS _ _).length:Int)=_; rw [n7]; exact F.ol
 ·show (thenS _ _).length=_; rw [n7]; exact F.al
 ·exact fun y hy=>Fh t1 G.oo hy
 ·exact fun y hy=>Fh t2 G.aa hy
 ·intro a a0 a1
  have kf:=F.c.fr a0 a1
  show gi g.aB.aF (gi (thenS f.ab g.ab) a)=gi (thenS f.aA g.aA) (gi f.aD.aF a)
  rw [ga a a0 a1,go _ kf.1 kf.2,G.fr _ (ar a a0 a1).1 (ar a a0 a1).2,← e,F.fr a a0 a1]
 ·intro a a0 a1
  have kf:=F.c.to a0 a1
  show gi g.aB.To (gi (thenS f.ab g.ab) a)=gi (thenS f.aA g.aA) (gi f.aD.To a)
  rw [ga a a0 a1,go _ kf.1 kf.2,G.to _ (ar a a0 a1).1 (ar a a0 a1).2,← e,F.to a a0 a1]
 ·intro x x0 x1
  have ki:=F.c.id x0 x1
  show gi (thenS f.ab g.ab) (gi f.aD.aH x)=gi g.aB.aH (gi (thenS f.aA g.aA) x)
  rw [ga _ ki.1 ki.2,go x x0 x1,F.un x x0 x1,← G.un _ (ob x x0 x1).1 (ob x x0 x1).2,e]
 ·intro a b a0 a1 b0 b1 h
  have k:=F.c.cell a b a0 a1 b0 b1 h
  show gi (thenS f.ab g.ab) (gk f.aD.aC a b)=gk g.aB.aC (gi (thenS f.ab g.ab) a) (gi (thenS f.ab g.ab) b)
  rw [ga _ k.1 k.2.1,ga a a0 a1,ga b b0 b1,F.co a b a0 a1 b0 b1 h,← G.co _ _ (ar a a0 a1).1 (ar a a0 a1).2 (ar b b0 b1).1 (ar b b0 b1).2 (by rw [← e,F.to a a0 a1,F.fr b b0 b1]; exact congrArg (gi f.aA) h),e]
theorem H7 {f g:aJ} (h:gq f):jC f g=some (sn f.aD g.aD && sn f.aB g.aB):=by
 unfold jC
 rw [tD h.s,aE,tD h.t,aE,rb,CJ]; rfl
end Go.Proofs.YtbhhmalgcnhniaaGreat
namespace Go.Proofs.YtbhhmalgcnhniaaGreat
open Go Go.Li
set_option linter.unusedVariables false
structure vW (m:bE):Prop where
 s:gq m.aD
 t:gq m.aB
 p:m.ba.length≤1048576
def yf (t:bE):Bool:=dw t.aD && (dw t.aB && ((sn t.aD.aD t.aB.aD && sn t.aD.aB t.aB.aB) && (((t.ba.length:Int) == t.aD.aD.aA) && ot t.aD.aB.aF.length t.ba)))
def Ew (t:bE) (x:Int):Bool:=(gi t.aD.aB.aF (gi t.ba x) != gi t.aD.aA x) || (gi t.aD.aB.To (gi t.ba x) != gi t.aB.aA x)
def Np (f g:aJ) (p:List Int) (a:Int):Bool:=gk f.aB.aC (gi f.ab a) (gi p (gi f.aD.To a)) == gk f.aB.aC (gi p (gi f.aD.aF a)) (gi g.ab a)
def H8 (t:bE):Bool:=!((ns t.aD.aD.aF.length).any fun a=>!(Np t.aD t.aB t.ba a))
def Aa (t:bE):Bool:=!((ns t.ba.length).any (Ew t))
def je (t:bE):Bool:=(yf t && Aa t) && H8 t
structure THead (t:bE):Prop where
 f:Cm t.aD
 g:Cm t.aB
 fb:dw t.aD=true
 gb:dw t.aB=true
 es:t.aB.aD=t.aD.aD
 et:t.aB.aB=t.aD.aB
 pl:(t.ba.length:Int)=t.aD.aD.aA
 pp:∀ y∈t.ba,0≤y∧y < t.aD.aB.aF.length
theorem H9 {t:bE} (h:yf t=true):THead t:=by
 unfold yf at h
 simp only [Bool.and_eq_true,beq_iff_eq,pd,tO] at h
 obtain ⟨h1,h2,⟨h3,h4⟩,h5,h6⟩:=h
 exact ⟨cn h1,cn h2,h1,h2,h3.symm,h4.symm,h5,h6⟩
namespace THead
variable {t:bE} (H:THead t)
include H
theorem Wy {x:Int} (h0:0≤x) (h1:x < t.aD.aD.aA):idx t.ba x=some (gi t.ba x):=bL h0 (by rw [H.pl]; exact h1)
theorem cp {x:Int} (h0:0≤x) (h1:x < t.aD.aD.aA):0≤gi t.ba x∧gi t.ba x < t.aD.aB.aF.length:=H.pp _ (eh h0 (by rw [H.pl]; exact h1))
theorem ar2 {a:Int} (h0:0≤a) (h1:a < t.aD.aD.aF.length):0≤gi t.aB.ab a∧gi t.aB.ab a < t.aD.aB.aF.length:=by have:=H.g.ar (a:=a) h0 (by rw [H.es]; exact h1); rwa [H.et] at this
theorem XL {a:Int} (h0:0≤a) (h1:a < t.aD.aD.aF.length):idx t.aB.ab a=some (gi t.aB.ab a):=H.g.ru h0 (by rw [H.es]; exact h1)
end THead
structure Q8 (t:bE):Prop extends THead t where
 pf:∀ x:Int,0≤x→x < t.aD.aD.aA→gi t.aD.aB.aF (gi t.ba x)=gi t.aD.aA x
 pt:∀ x:Int,0≤x→x < t.aD.aD.aA→gi t.aD.aB.To (gi t.ba x)=gi t.aB.aA x
theorem PY {t:bE} (h1:yf t=true) (h2:Aa t=true):Q8 t:=by
 have H:=H9 h1
 have hl:=H.pl
 unfold Aa at h2
 rw [Bool.not_eq_true',br] at h2
 refine { H with pf:=fun a a0 a1=>?_,pt:=fun a a0 a1=>?_ } <;>
 ·have:=h2 a a0 (by omega)
  unfold Ew at this
  simp only [Bool.or_eq_false_iff,bne_eq_false_iff_eq] at this
  first | exact this.1 | exact this.2
structure adS (t:bE):Prop extends Q8 t where
 sq:∀ a:Int,0≤a→a < t.aD.aD.aF.length→gk t.aD.aB.aC (gi t.aD.ab a) (gi t.ba (gi t.aD.aD.To a))=gk t.aD.aB.aC (gi t.ba (gi t.aD.aD.aF a)) (gi t.aB.ab a)
theorem yV {t:bE} (h:je t=true):adS t:=by
 unfold je at h
 simp only [Bool.and_eq_true] at h
 obtain ⟨⟨h1,h2⟩,h3⟩:=h
 unfold H8 at h3
 rw [Bool.not_eq_true',br] at h3
 refine { PY h1 h2 with sq:=fun a a0 a1=>?_ }
 have:=h3 a a0 a1
 unfold Np at this
 simpa using this
theorem HU {t:bE} (fb:dw t.aD=true) (gb:dw t.aB=true) (es:t.aB.aD=t.aD.aD) (et:t.aB.aB=t.aD.aB) (pl:(t.ba.length:Int)=t.aD.aD.aA) (pp:∀ y∈t.ba,0≤y∧y < t.aD.aB.aF.length)
  (pf:∀ x:Int,0≤x→x < t.aD.aD.aA→gi t.aD.aB.aF (gi t.ba x)=gi t.aD.aA x) (pt:∀ x:Int,0≤x→x < t.aD.aD.aA→gi t.aD.aB.To (gi t.ba x)=gi t.aB.aA x)
  (sq:∀ a:Int,0≤a→a < t.aD.aD.aF.length→gk t.aD.aB.aC (gi t.aD.ab a) (gi t.ba (gi t.aD.aD.To a))=gk t.aD.aB.aC (gi t.ba (gi t.aD.aD.aF a)) (gi t.aB.ab a)):je t=true:=by
 unfold je yf Aa H8
 simp only [Bool.and_eq_true,Bool.not_eq_true',beq_iff_eq,pd,tO,fb,gb,true_and]
 refine ⟨⟨⟨⟨es.symm,et.symm⟩,pl,pp⟩,?_⟩,?_⟩
 ·rw [br]
  intro x x0 x1
  unfold Ew
  rw [pf x x0 (by omega),pt x x0 (by omega)]; simp
 ·rw [br]
  intro a a0 a1
  unfold Np
  rw [sq a a0 a1]; simp
theorem Ia {t:bE} (H:THead t) {a:Int} (a0:0≤a) (a1:a < t.aD.aD.aF.length):jG t.aD t.aB t.ba a=some (Np t.aD t.aB t.ba a):=by
 have F:=H.f
 have kf:=F.c.fr a0 a1
 have kt:=F.c.to a0 a1
 have ka:=F.ar a0 a1
 have k1:=H.cp kt.1 kt.2
 have k2:=H.cp kf.1 kf.2
 have k3:=H.ar2 a0 a1
 unfold jG Np
 rw [F.ru a0 a1,aE,F.c.ig a0 a1,aE,H.Wy kt.1 kt.2,aE,F.d.jv ka.1 ka.2 k1.1 k1.2,aE,F.c.ic a0 a1,aE,H.Wy kf.1 kf.2,aE,H.XL a0 a1,aE,F.d.jv k2.1 k2.2 k3.1 k3.2,aE]
 rfl
theorem Wz {n k:Nat} {A0:Int→Option (Out Int Int)} {p:Int→Bool} (a0:∀ a:Nat,a < n→A0 a=bif !(p a) then some (.ret (a:Int)) else some (.norm ((a+1:Nat):Int))) (a3:A0 n=some (.exit k (n:Int))) :
  ∃ y,ak (S:=Unit) (af (ae k (ag A0 (0:Int))) fun _=>some (.ret (-1:Int)))=some y∧decide (y < 0) = !((ns n).any fun a=>!(p a)):=by
 have hx:∀ i:Nat,i < n→((!(p i))=false∧A0 i=some (.norm ((i+1:Nat):Int)))∨((!(p i))=true∧∃ y,A0 i=some (.ret y)∧0≤y):=by
  intro i hi
  rw [a0 i hi]
  cases p i with
  | true=>exact .inl ⟨rfl,rfl⟩
  | false=>exact .inr ⟨rfl,_,rfl,by omega⟩
 rcases acE (S:=Unit) (f:=fun _=>some (.ret (-1:Int))) (n:=n) (fun a=>!(p a)) (fun y:Int=>0≤y) hx a3 with ⟨h1,h2⟩ | ⟨h1,y,h2,h3⟩
 ·rw [h1,h2]; exact ⟨_,rfl,ao (by decide)⟩
 ·rw [h1,h2]; exact ⟨y,rfl,ay (by omega)⟩
theorem KW {t:bE} (H:THead t):∃ y,lC t (fun a0 a1 a2 a3=>jG a0 a1 a2 a3)=some y∧decide (y < 0)=H8 t:=by
 have cm:=H.f.c.m
 have al:=H.f.al
 unfold lC H8
 refine Wz (n:=t.aD.aD.aF.length) (fun a ha=>?_) (by unfold mC; rw [ay (by omega),cond_false])
 unfold mC
 show (bif decide ((a:Int) < (t.aD.ab.length:Int)) then (jG t.aD t.aB t.ba a>>=_) else _)=_
 rw [ao (by omega),cond_true,Ia H (by omega) (by omega),aE,bF (by omega)]
theorem BU {t:bE} (hs:vW t):dV t=some (je t):=by
 have hp:=hs.p
 unfold dV
 have key:fW t=some (yf t && Aa t):=by
  unfold fW yf
  rw [yw _ (by simp) (by intro c hc; simp at hc; rcases hc with rfl | rfl; exact hs.s; exact hs.t),aE]
  simp only [List.all_cons,List.all_nil,Bool.and_true]
  cases h1:dw t.aD with
  | false=>rfl
  | true=>
   have F:=cn h1
   cases h2:dw t.aB with
   | false=>rfl
   | true=>
    have G:=cn h2
    have dm:=F.d.m
    simp only [Bool.true_and,Bool.not_true,cond_false]
    rw [H7 hs.s,aE]
    cases h3:sn t.aD.aD t.aB.aD && sn t.aD.aB t.aB.aB with
    | false=>rfl
    | true=>
     have h4:=h3
     simp only [Bool.and_eq_true,tO] at h4
     rw [Bool.not_true,cond_false]
     by_cases e1:(t.ba.length:Int)=t.aD.aD.aA
     ·rw [tk e1,cond_false,show cX t.aD.aB=some (t.aD.aB.aF.length:Int) from rfl,aE,within _ _ (by omega) (by omega) (by omega),aE,aE,jr e1,Bool.true_and,Bool.true_and]
      cases h:ot t.aD.aB.aF.length t.ba with
      | false=>rfl
      | true=>
       rw [Bool.not_true,cond_false,Bool.true_and]
       have ES:=pd.1 h
       rw [nr (n:=t.ba.length) (Ew t) (fun x bh=>?_) (by unfold gU; rw [ay (by omega),cond_false])]
       ·unfold Aa
        cases (ns t.ba.length).any (Ew t) <;> rfl
       ·have kc:=ES _ (eh (l:=t.ba) (j:=(x:Int)) (by omega) (by omega))
        unfold gU
        rw [ao (by omega),cond_true,bL (by omega) (by omega),aE,show dW t.aD.aB (gi t.ba x)=some (sY.mk (gi t.aD.aB.aF (gi t.ba x)) (gi t.aD.aB.To (gi t.ba x))) by unfold dW; rw [F.d.ic kc.1 kc.2,aE,F.d.ig kc.1 kc.2,aE]; rfl,aE,F.uR (by omega) (by omega),aE,G.uR (by omega) (by rw [← h4.1]; omega),aE,bF (by omega)]
        unfold Ew
        rw [Bool.not_and]
        rfl
     ·rw [sa e1,cond_true,aE,cond_true,vo e1]; rfl
 rw [key,aE]
 unfold je
 cases h1:yf t with
 | false=>rfl
 | true=>
  cases h2:Aa t with
  | false=>rfl
  | true=>
   obtain ⟨y,e1,e2⟩:=KW (H9 h1)
   simp only [Bool.and_self,cond_true]
   rw [e1,aE,e2]; rfl
theorem KQ (l:List bE) (hl:l.length≤1048576) (hs:∀ c∈l,vW c):kS l=some (l.all je):=by
 unfold kS
 refine (congrArg ak (jc l (fun c=>!je c) (fun i=>(i:Int)) rfl ?_ ?_ (e:=(l.length:Int)) (y:=false) ?_)).trans ?_
 ·intro i x hx hp
  have hi:=bb hx
  unfold kR
  rw [ao (by omega),cond_true,bu,hx,aE,BU (hs x (List.mem_of_getElem? hx)),aE,show (!je x)=false from hp,cond_false,bF (by omega)]
 ·intro i x hx hp
  have hi:=bb hx
  unfold kR
  rw [ao (by omega),cond_true,bu,hx,aE,BU (hs x (List.mem_of_getElem? hx)),aE,show (!je x)=true from hp,cond_true]
 ·unfold kR
  rw [ay (by omega),cond_false]
 ·rw [n8]
  cases l.all je <;> rfl
end Go.Proofs.YtbhhmalgcnhniaaGreat
namespace Go.Proofs.YtbhhmalgcnhniaaGreat
open Go Go.Li
set_option linter.unusedVariables false
section
variable {t:bE} {g:aJ} (ht:je t=true) (hg:dw g=true) (e:t.aD.aB=g.aD)
include ht hg e
omit hg e in
end
section
variable {t:bE} {f:aJ} (hf:dw f=true) (ht:je t=true) (e:f.aB=t.aD.aD)
include hf ht e
end
section
variable {s t:bE} (hs:je s=true) (ht:je t=true) (e:s.aB=t.aD)
include hs ht e
end
end Go.Proofs.YtbhhmalgcnhniaaGreat
