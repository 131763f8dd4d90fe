/- Functors: what the reference's and the program's looks at them give. No condition beside those that each theorem names. -/
import Derived.Test.YtcnehblmgfbfoaaGreatVj
set_option linter.unusedVariables false
set_option linter.unusedSectionVars false
set_option linter.unusedSimpArgs false
namespace Go.Proofs.YtcnehblmgfbfoaaGreat
open Go Go.Li
set_option linter.unusedVariables false
structure fq (f:aN):Prop where
 s:ew f.aA
 t:ew f.aF
 o:f.aE.length≤1048576
 a:f.ab.length≤1048576
def sN (f:aN):Bool:=l9 f.aA && (l9 f.aF && ((((f.aE.length:Int) == f.aA.aE) && (f.ab.length == f.aA.aH.length)) && (na f.aF.aE f.aE && na f.aF.aH.length f.ab)))
def uS (f:aN) (a:Int):Bool:=(gi f.aF.aH (gi f.ab a) != gi f.aE (gi f.aA.aH a)) || (gi f.aF.To (gi f.ab a) != gi f.aE (gi f.aA.To a))
def xm (f:aN) (x:Int):Bool:=gi f.ab (gi f.aA.aI x) != gi f.aF.aI (gi f.aE x)
def sh (f:aN) (a b:Int):Bool:=(gi f.aA.To a == gi f.aA.aH b) && (gi f.ab (gk f.aA.aG a b) != gk f.aF.aG (gi f.ab a) (gi f.ab b))
def vo (f:aN):Bool:=!((ns f.aA.aH.length).any (uS f))
def BD (f:aN):Bool:=!((ns f.aA.aE.toNat).any (xm f)) && !((ns f.aA.aH.length).any fun a=>(ns f.aA.aH.length).any (sh f a))
def dk (f:aN):Bool:=sN f && (vo f && BD f)
structure FHead (f:aN):Prop where
 c:gj f.aA
 d:gj f.aF
 ol:(f.aE.length:Int)=f.aA.aE
 al:f.ab.length=f.aA.aH.length
 oo:∀ y∈f.aE,0≤y∧y < f.aF.aE
 aa:∀ y∈f.ab,0≤y∧y < f.aF.aH.length
theorem M0 {f:aN} (h:sN f=true):FHead f:=by
 unfold sN at h
 simp only [Bool.and_eq_true,beq_iff_eq,mr] at h
 obtain ⟨h1,h2,⟨h3,h4⟩,h5,h6⟩:=h
 exact ⟨uK h1,uK h2,h3,h4,h5,h6⟩
namespace FHead
variable {f:aN} (H:FHead f)
include H
theorem qo {x:Int} (h0:0≤x) (h1:x < f.aA.aE):idx f.aE x=some (gi f.aE x):=dE h0 (by rw [H.ol]; exact h1)
theorem lj {a:Int} (h0:0≤a) (h1:a < f.aA.aH.length):idx f.ab a=some (gi f.ab a):=dE h0 (by rw [H.al]; exact h1)
theorem ob {x:Int} (h0:0≤x) (h1:x < f.aA.aE):0≤gi f.aE x∧gi f.aE x < f.aF.aE:=H.oo _ (ks h0 (by rw [H.ol]; exact h1))
theorem ar {a:Int} (h0:0≤a) (h1:a < f.aA.aH.length):0≤gi f.ab a∧gi f.ab a < f.aF.aH.length:=H.aa _ (ks h0 (by rw [H.al]; exact h1))
end FHead
structure Ip (f:aN):Prop extends FHead f where
 fr:∀ a:Int,0≤a→a < f.aA.aH.length→gi f.aF.aH (gi f.ab a)=gi f.aE (gi f.aA.aH a)
 to:∀ a:Int,0≤a→a < f.aA.aH.length→gi f.aF.To (gi f.ab a)=gi f.aE (gi f.aA.To a)
theorem Fc {f:aN} (h1:sN f=true) (h2:vo f=true):Ip f:=by
 unfold vo at h2
 rw [Bool.not_eq_true',dn] at h2
 refine { M0 h1 with fr:=fun a a0 a1=>?_,to:=fun a a0 a1=>?_ } <;>
 ·have:=h2 a a0 a1
  unfold uS at this
  simp only [Bool.or_eq_false_iff,bne_eq_false_iff_eq] at this
  first | exact this.1 | exact this.2
structure xH (f:aN):Prop extends Ip f where
 un:∀ x:Int,0≤x→x < f.aA.aE→gi f.ab (gi f.aA.aI x)=gi f.aF.aI (gi f.aE x)
 co:∀ a b:Int,0≤a→a < f.aA.aH.length→0≤b→b < f.aA.aH.length→gi f.aA.To a=gi f.aA.aH b→gi f.ab (gk f.aA.aG a b)=gk f.aF.aG (gi f.ab a) (gi f.ab b)
theorem bw {f:aN} (h:dk f=true):xH f:=by
 unfold dk BD at h
 simp only [Bool.and_eq_true,Bool.not_eq_true'] at h
 obtain ⟨h1,h2,h3,h4⟩:=h
 have E:=Fc h1 h2
 have ho:=E.c.o0
 rw [dn] at h3 h4
 refine { E with un:=fun x x0 x1=>?_,co:=fun a b a0 a1 b0 b1 e=>?_ }
 ·have:=h3 x x0 (by omega)
  unfold xm at this
  simpa using this
 ·have:=(dn.1 (h4 a a0 a1)) b b0 b1
  unfold sh at this
  simpa [e] using this
theorem D2 {f:aN} (h1:l9 f.aA=true) (h2:l9 f.aF=true) (ol:(f.aE.length:Int)=f.aA.aE) (al:f.ab.length=f.aA.aH.length) (oo:∀ y∈f.aE,0≤y∧y < f.aF.aE) (aa:∀ y∈f.ab,0≤y∧y < f.aF.aH.length)
  (fr:∀ a:Int,0≤a→a < f.aA.aH.length→gi f.aF.aH (gi f.ab a)=gi f.aE (gi f.aA.aH a)) (to:∀ a:Int,0≤a→a < f.aA.aH.length→gi f.aF.To (gi f.ab a)=gi f.aE (gi f.aA.To a))
  (un:∀ x:Int,0≤x→x < f.aA.aE→gi f.ab (gi f.aA.aI x)=gi f.aF.aI (gi f.aE x))
  (co:∀ a b:Int,0≤a→a < f.aA.aH.length→0≤b→b < f.aA.aH.length→gi f.aA.To a=gi f.aA.aH b→gi f.ab (gk f.aA.aG a b)=gk f.aF.aG (gi f.ab a) (gi f.ab b)):dk f=true:=by
 have C:=uK h1
 have hc:=C.o0
 unfold dk sN vo BD
 simp only [Bool.and_eq_true,Bool.not_eq_true',beq_iff_eq,mr,h1,h2,true_and]
 refine ⟨⟨⟨ol,al⟩,oo,aa⟩,?_,?_,?_⟩
 ·rw [dn]
  intro a a0 a1
  unfold uS
  rw [fr a a0 a1,to a a0 a1]; simp
 ·rw [dn]
  intro x x0 x1
  unfold xm
  rw [un x x0 (by omega)]; simp
 ·rw [dn]
  intro a a0 a1
  rw [dn]
  intro b b0 b1
  unfold sh
  by_cases e:gi f.aA.To a=gi f.aA.aH b
  ·rw [co a b a0 a1 b0 b1 e]; simp
  ·simp [e]
theorem yt {f:aN} (hs:fq f):nP f=some (dk f):=by
 have ho:=hs.o
 have ha:=hs.a
 unfold nP dk sN
 rw [JX hs.s,aB]
 cases h1:l9 f.aA with
 | false=>rfl
 | true=>
  have C:=uK h1
  rw [JX hs.t,aB]
  cases h2:l9 f.aF with
  | false=>rfl
  | true=>
   have T:=uK h2
   simp only [Bool.not_true,cond_false,Bool.true_and]
   by_cases e1:(f.aE.length:Int)=f.aA.aE
   ·rw [sa e1,cond_false,o5 e1,Bool.true_and]
    by_cases e2:f.ab.length=f.aA.aH.length
    ·rw [sa (by omega),aB,cond_false,wj _ _ (by omega),aB,o5 e2,Bool.true_and]
     cases h3:na f.aF.aE f.aE with
     | false=>rfl
     | true=>
      rw [wj _ _ (by omega),aB]
      cases h4:na f.aF.aH.length f.ab with
      | false=>rfl
      | true=>
       have H:FHead f:=⟨C,T,e1,e2,mr.1 h3,mr.1 h4⟩
       have cm:=C.m
       have co:=C.o8
       simp only [Bool.not_true,cond_false,aB,Bool.and_self,Bool.true_and]
       rw [ke (n:=f.aA.aH.length) (uS f) (fun a bo=>?_) (by unfold pA; rw [av (by omega),cond_false])]
       ·unfold vo
        cases h5:(ns f.aA.aH.length).any (uS f) with
        | true=>rfl
        | false=>
         rw [cond_false,Bool.not_false,Bool.true_and]
         rw [ke (n:=f.aA.aE.toNat) (xm f) (fun x bo=>?_) (by unfold pB; rw [av (by omega),cond_false])]
         ·unfold BD
          cases h6:(ns f.aA.aE.toNat).any (xm f) with
          | true=>rfl
          | false=>
           rw [cond_false,Bool.not_false,Bool.true_and]
           have E:Ip f:=Fc (by unfold sN; simp [h1,h2,h3,h4,e1,e2]) (by unfold vo; rw [h5]; rfl)
           rw [ke (n:=f.aA.aH.length) (fun a=>(ns f.aA.aH.length).any (sh f a)) (fun a bo=>?_) (by unfold pD; rw [av (by omega),cond_false])]
           ·cases (ns f.aA.aH.length).any fun a=>(ns f.aA.aH.length).any (sh f a) <;> rfl
           ·unfold pD
            rw [ao (by omega),cond_true]
            rw [ke (n:=f.aA.aH.length) (sh f a) (fun b hb=>?_) (by unfold pC; rw [av (by omega),cond_false])]
            ·rw [bR (by omega)]
            ·unfold pC
             rw [ao (by omega),cond_true,C.gw (by omega) (by omega),aB,C.fx (by omega) (by omega),aB]
             unfold sh
             by_cases e:gi f.aA.To a=gi f.aA.aH b
             ·have k:=C.cell a b (by omega) (by omega) (by omega) (by omega) e
              have ka:=H.ar (a:=(a:Int)) (by omega) (by omega)
              have kb:=H.ar (a:=(b:Int)) (by omega) (by omega)
              rw [o5 e,cond_true,C.qt (by omega) (by omega),aB,C.qu (by omega) (by omega) (by omega) (by omega),aB,H.lj k.1 k.2.1,aB,H.lj (by omega) (by omega),aB,T.qt ka.1 ka.2,aB,H.lj (by omega) (by omega),aB,T.qu ka.1 ka.2 kb.1 kb.2,aB,aB,Bool.true_and,bR (by omega)]; rfl
             ·rw [kz e,cond_false,aB,Bool.false_and,bR (by omega)]; rfl
         ·have kx:=H.ob (x:=(x:Int)) (by omega) (by omega)
          have ki:=C.id (x:=(x:Int)) (by omega) (by omega)
          unfold pB
          rw [ao (by omega),cond_true,C.lg (by omega) (by omega),aB,H.lj ki.1 ki.2,aB,H.qo (by omega) (by omega),aB,T.lg kx.1 kx.2,aB,bR (by omega)]
          rfl
       ·have ka:=H.ar (a:=(a:Int)) (by omega) (by omega)
        have kf:=C.fr (f:=(a:Int)) (by omega) (by omega)
        have kt:=C.to (f:=(a:Int)) (by omega) (by omega)
        unfold pA
        rw [ao (by omega),cond_true,H.lj (by omega) (by omega),aB,T.fx ka.1 ka.2,aB,C.fx (by omega) (by omega),aB,H.qo kf.1 kf.2,aB,aB,T.gw ka.1 ka.2,aB,C.gw (by omega) (by omega),aB,H.qo kt.1 kt.2,aB,bR (by omega),vl,Bv,aB]
        rfl
    ·rw [qq (by omega),aB,cond_true,kz e2]; rfl
   ·rw [qq e1,cond_true,aB,cond_true,kz e1]; rfl
theorem Ku {f:aN} (hs:fq f) (C:gj f.aA) (T:gj f.aF):lQ f=some (((((f.aE.length:Int) == f.aA.aE) && (f.ab.length == f.aA.aH.length)) && (na f.aF.aE f.aE && na f.aF.aH.length f.ab)) && (vo f && BD f)):=by
 have ho:=hs.o
 have ha:=hs.a
 have cm:=C.m
 have co:=C.o8
 have tm:=T.m
 have to:=T.o8
 have t0:=T.o0
 unfold lQ
 by_cases e1:(f.aE.length:Int)=f.aA.aE
 ·rw [sa e1,cond_false,o5 e1,Bool.true_and]
  rw [show dD f.aA=some (f.aA.aH.length:Int) from rfl,aB]
  by_cases e2:f.ab.length=f.aA.aH.length
  ·rw [sa (by omega),cond_false,within _ _ (by omega) (by omega) (by omega),aB,o5 e2,Bool.true_and]
   cases h3:na f.aF.aE f.aE with
   | false=>rfl
   | true=>
    rw [Bool.not_true,cond_false,show dD f.aF=some (f.aF.aH.length:Int) from rfl,aB,within _ _ (by omega) (by omega) (by omega),aB]
    cases h4:na f.aF.aH.length f.ab with
    | false=>rfl
    | true=>
     have H:FHead f:=⟨C,T,e1,e2,mr.1 h3,mr.1 h4⟩
     have il:=C.il
     have kl:=C.kl
     simp only [Bool.not_true,cond_false,aB,Bool.and_self,Bool.true_and]
     rw [ke (n:=f.aA.aH.length) (uS f) (fun a bo=>?_) (by unfold mP; rw [av (by omega),cond_false])]
     ·unfold vo
      cases h5:(ns f.aA.aH.length).any (uS f) with
      | true=>rfl
      | false=>
       rw [cond_false,Bool.not_false,Bool.true_and]
       rw [ke (n:=f.aA.aE.toNat) (xm f) (fun x bo=>?_) (by unfold mQ; rw [av (by omega),cond_false])]
       ·unfold BD
        cases h6:(ns f.aA.aE.toNat).any (xm f) with
        | true=>rfl
        | false=>
         rw [cond_false,Bool.not_false,Bool.true_and]
         rw [ke (n:=f.aA.aH.length) (fun a=>(ns f.aA.aH.length).any (sh f a)) (fun a bo=>?_) (by unfold mS; rw [av (by omega),cond_false])]
         ·cases (ns f.aA.aH.length).any fun a=>(ns f.aA.aH.length).any (sh f a) <;> rfl
         ·unfold mS
          have hr:=C.row (a:Int) (by omega) (by omega)
          rw [ao (by omega),cond_true,C.qt (by omega) (by omega),aB]
          rw [ke (n:=f.aA.aH.length) (sh f a) (fun b hb=>?_) (by unfold mR; rw [av (by omega),cond_false])]
          ·rw [bR (by omega)]
          ·unfold mR
           rw [ao (by omega),cond_true,C.qu (by omega) (by omega) (by omega) (by omega),aB]
           unfold sh
           by_cases e:gi f.aA.To a=gi f.aA.aH b
           ·have k:=C.cell a b (by omega) (by omega) (by omega) (by omega) e
            have ka:=H.ar (a:=(a:Int)) (by omega) (by omega)
            have kb:=H.ar (a:=(b:Int)) (by omega) (by omega)
            rw [o5 e,ao (show gk f.aA.aG a b ≥ 0 from k.1),cond_true,H.lj k.1 k.2.1,aB,H.lj (by omega) (by omega),aB,H.lj (by omega) (by omega),aB,T.kj ka.1 ka.2 kb.1 kb.2,aB,aB,Bool.true_and,bR (by omega)]; rfl
           ·have:=C.none a b (by omega) (by omega) (by omega) (by omega) e
            rw [kz e,av (show ¬ gk f.aA.aG a b ≥ 0 by omega),cond_false,aB,Bool.false_and,bR (by omega)]; rfl
       ·have kx:=H.ob (x:=(x:Int)) (by omega) (by omega)
        have ki:=C.id (x:=(x:Int)) (by omega) (by omega)
        unfold mQ
        rw [ao (by omega),cond_true,C.lg (by omega) (by omega),aB,H.lj ki.1 ki.2,aB,H.qo (by omega) (by omega),aB,T.lg kx.1 kx.2,aB,bR (by omega)]
        rfl
     ·have ka:=H.ar (a:=(a:Int)) (by omega) (by omega)
      have kf:=C.fr (f:=(a:Int)) (by omega) (by omega)
      have kt:=C.to (f:=(a:Int)) (by omega) (by omega)
      unfold mP
      rw [ao (by omega),cond_true,H.lj (by omega) (by omega),aB,T.fx ka.1 ka.2,aB,C.fx (by omega) (by omega),aB,H.qo kf.1 kf.2,aB,T.gw ka.1 ka.2,aB,C.gw (by omega) (by omega),aB,H.qo kt.1 kt.2,aB,bR (by omega),vl,Bv,aB]
      rfl
  ·rw [qq (by omega),cond_true,kz e2]; rfl
 ·rw [qq e1,cond_true,kz e1]; rfl
theorem yo (a b:List Int) (ha:a.length≤1048576) (hb:∀ x∈a,0≤x∧x < b.length):kF a b=some (thenS a b):=by
 unfold kF
 refine (congrArg an (uN a.length (fun i=>gi b (gi a i)) (fun acc i=>(acc,(i:Int))) rfl ?_ ?_)).trans rfl
 ·intro i acc hi r9
  have hm:=hb _ (ks (l:=a) (j:=(i:Int)) (by omega) (by omega))
  show lA a b acc i=_
  unfold lA
  rw [ao (by omega),cond_true,dE (by omega) (by omega),aB,dE hm.1 hm.2,aB,eB (by omega) (by omega),aB,bR (by omega)]
 ·intro acc _
  show lA a b acc _=_
  unfold lA
  rw [av (by omega),cond_false]
theorem FN (l:List aJ) (hl:l.length≤1048576) (hs:∀ c∈l,ew c):lC l=some (l.all l9):=by
 unfold lC
 refine (congrArg an (gh l (fun c=>!l9 c) (fun i=>(i:Int)) rfl ?_ ?_ (e:=(l.length:Int)) (y:=false) ?_)).trans ?_
 ·intro i x hx hp
  have hi:=bc hx
  unfold jF
  rw [ao (by omega),cond_true,bf,hx,aB,JY (hs x (List.mem_of_getElem? hx)),aB,show (!l9 x)=false from hp,cond_false,bR (by omega)]
 ·intro i x hx hp
  have hi:=bc hx
  unfold jF
  rw [ao (by omega),cond_true,bf,hx,aB,JY (hs x (List.mem_of_getElem? hx)),aB,show (!l9 x)=true from hp,cond_true]
 ·unfold jF
  rw [av (by omega),cond_false]
 ·rw [lq]
  cases l.all l9 <;> rfl
theorem Cn {f:aN} (hs:fq f):iQ f=some (dk f):=by
 unfold iQ dk sN
 rw [FN _ (by simp) (by intro c hc; simp at hc; rcases hc with rfl | rfl; exact hs.s; exact hs.t),aB]
 simp only [List.all_cons,List.all_nil,Bool.and_true]
 cases h1:l9 f.aA with
 | false=>rfl
 | true=>
  cases h2:l9 f.aF with
  | false=>rfl
  | true=>
   rw [Bool.true_and,cond_true,Ku hs (uK h1) (uK h2)]
   rfl
theorem zm (l:List aN) (hl:l.length≤1048576) (hs:∀ c∈l,fq c):kH l=some (l.all dk):=by
 unfold kH
 refine (congrArg an (gh l (fun c=>!dk c) (fun i=>(i:Int)) rfl ?_ ?_ (e:=(l.length:Int)) (y:=false) ?_)).trans ?_
 ·intro i x hx hp
  have hi:=bc hx
  unfold kO
  rw [ao (by omega),cond_true,bf,hx,aB,Cn (hs x (List.mem_of_getElem? hx)),aB,show (!dk x)=false from hp,cond_false,bR (by omega)]
 ·intro i x hx hp
  have hi:=bc hx
  unfold kO
  rw [ao (by omega),cond_true,bf,hx,aB,Cn (hs x (List.mem_of_getElem? hx)),aB,show (!dk x)=true from hp,cond_true]
 ·unfold kO
  rw [av (by omega),cond_false]
 ·rw [lq]
  cases l.all dk <;> rfl
theorem Al (l:List Int) (hl:l.length≤1048576):gM l=some l:=by
 unfold gM
 rw [eB (by simp; omega) (by simp; omega),aB]; rfl
theorem sJ {c d:aJ} {o a:List Int} (hc:ew c) (hd:ew d) (ho:o.length≤1048576) (ha:a.length≤1048576):kI c d o a=some (aN.mk c d o a):=by
 unfold kI
 rw [EB hc,aB,EB hd,aB,Al o ho,aB,Al a ha,aB]; rfl
theorem zA {c d:aJ} {o a:List Int} (hc:ew c) (hd:ew d) (ho:o.length≤1048576) (ha:a.length≤1048576):mA c d o a=some (aN.mk c d o a):=by
 unfold mA
 rw [EA hc,aB,EA hd,aB,qp o ho,aB,qp a ha,aB]; rfl
theorem Jj {f:aN} (h:fq f):lS f=some f:=by
 unfold lS
 rw [sJ h.s h.t h.o h.a,aB]; rfl
def mb (f g:aN):aN:=aN.mk f.aA g.aF (thenS f.aE g.aE) (thenS f.ab g.ab)
theorem lp (a b:List Int):(thenS a b).length=a.length:=by unfold thenS; rw [cX]
theorem qX {f g:aN} (hf:fq f) (hg:fq g):fq (mb f g):=⟨hf.s,hg.t,by show (thenS _ _).length≤_; rw [lp]; exact hf.o,by show (thenS _ _).length≤_; rw [lp]; exact hf.a⟩
section
variable {f g:aN} (F:FHead f) (G:FHead g) (e:f.aF=g.aA)
include F G e
theorem yz:(∀ x∈f.aE,0≤x∧x < g.aE.length)∧∀ x∈f.ab,0≤x∧x < g.ab.length:=by
 have h1:=G.ol
 have h2:=G.al
 rw [← e] at h1 h2
 exact ⟨fun x hx=>⟨(F.oo x hx).1,by have:=(F.oo x hx).2; omega⟩,fun x hx=>⟨(F.aa x hx).1,by have:=(F.aa x hx).2; omega⟩⟩
theorem yg (hf:fq f) (hg:fq g):fY f g=some (mb f g):=by
 obtain ⟨h1,h2⟩:=yz F G e
 unfold fY
 rw [zI _ _ hf.o h1,aB,zI _ _ hf.a h2,aB,sJ hf.s hg.t (by rw [lp]; exact hf.o) (by rw [lp]; exact hf.a),aB]; rfl
theorem u9 (hf:fq f) (hg:fq g):gR f g=some (mb f g):=by
 obtain ⟨h1,h2⟩:=yz F G e
 unfold gR
 rw [yo _ _ hf.o h1,aB,yo _ _ hf.a h2,aB,zA hf.s hg.t (by rw [lp]; exact hf.o) (by rw [lp]; exact hf.a),aB]; rfl
end
theorem uz {f g:aN} (hf:dk f=true) (hg:dk g=true) (e:f.aF=g.aA):dk (mb f g)=true:=by
 have F:=bw hf
 have G:=bw hg
 have h1:l9 f.aA=true:=by unfold dk sN at hf; simp only [Bool.and_eq_true] at hf; exact hf.1.1
 have h2:l9 g.aF=true:=by unfold dk sN at hg; simp only [Bool.and_eq_true] at hg; exact hg.1.2.1
 have go:∀ x:Int,0≤x→x < f.aA.aE→gi (thenS f.aE g.aE) x=gi g.aE (gi f.aE x):=fun x x0 x1=>ko x0 (by rw [F.ol]; exact x1)
 have ga:∀ a:Int,0≤a→a < f.aA.aH.length→gi (thenS f.ab g.ab) a=gi g.ab (gi f.ab a):=fun a a0 a1=>ko a0 (by rw [F.al]; exact a1)
 have ob:∀ x:Int,0≤x→x < f.aA.aE→0≤gi f.aE x∧gi f.aE x < g.aA.aE:=fun x x0 x1=>by rw [← e]; exact F.ob x0 x1
 have ar:∀ a:Int,0≤a→a < f.aA.aH.length→0≤gi f.ab a∧gi f.ab a < g.aA.aH.length:=fun a a0 a1=>by rw [← e]; exact F.ar a0 a1
 obtain ⟨t1,t2⟩:=yz F.toFHead G.toFHead e
 refine D2 (f:=mb f g) h1 h2 ?_ ?_ ?_ ?_ ?_ ?_ ?_ ?_
 ·show ((thenS _ _).length:Int)=_; rw [lp]; exact F.ol
 ·show (thenS _ _).length=_; rw [lp]; exact F.al
 ·exact fun y hy=>Cc t1 G.oo hy
 ·exact fun y hy=>Cc t2 G.aa hy
 ·intro a a0 a1
  have kf:=F.c.fr a0 a1
  show gi g.aF.aH (gi (thenS f.ab g.ab) a)=gi (thenS f.aE g.aE) (gi f.aA.aH a)
  rw [ga a a0 a1,go _ kf.1 kf.2,G.fr _ (ar a a0 a1).1 (ar a a0 a1).2,← e,F.fr a a0 a1]
 ·intro a a0 a1
  have kf:=F.c.to a0 a1
  show gi g.aF.To (gi (thenS f.ab g.ab) a)=gi (thenS f.aE g.aE) (gi f.aA.To a)
  rw [ga a a0 a1,go _ kf.1 kf.2,G.to _ (ar a a0 a1).1 (ar a a0 a1).2,← e,F.to a a0 a1]
 ·intro x x0 x1
  have ki:=F.c.id x0 x1
  show gi (thenS f.ab g.ab) (gi f.aA.aI x)=gi g.aF.aI (gi (thenS f.aE g.aE) x)
  rw [ga _ ki.1 ki.2,go x x0 x1,F.un x x0 x1,← G.un _ (ob x x0 x1).1 (ob x x0 x1).2,e]
 ·intro a b a0 a1 b0 b1 h
  have k:=F.c.cell a b a0 a1 b0 b1 h
  show gi (thenS f.ab g.ab) (gk f.aA.aG a b)=gk g.aF.aG (gi (thenS f.ab g.ab) a) (gi (thenS f.ab g.ab) b)
  rw [ga _ k.1 k.2.1,ga a a0 a1,ga b b0 b1,F.co a b a0 a1 b0 b1 h,← G.co _ _ (ar a a0 a1).1 (ar a a0 a1).2 (ar b b0 b1).1 (ar b b0 b1).2 (by rw [← e,F.to a a0 a1,F.fr b b0 b1]; exact congrArg (gi f.aE) h),e]
theorem Fe {f g:aN} (h:fq f):jG f g=some (jv f.aA g.aA && jv f.aF g.aF):=by
 unfold jG
 rw [sM h.s,aB,sM h.t,aB,vl,ML]; rfl
end Go.Proofs.YtcnehblmgfbfoaaGreat
namespace Go.Proofs.YtcnehblmgfbfoaaGreat
open Go Go.Li
set_option linter.unusedVariables false
structure se (m:bY):Prop where
 s:fq m.aA
 t:fq m.aF
 p:m.aX.length≤1048576
def tP (t:bY):Bool:=dk t.aA && (dk t.aF && ((jv t.aA.aA t.aF.aA && jv t.aA.aF t.aF.aF) && (((t.aX.length:Int) == t.aA.aA.aE) && na t.aA.aF.aH.length t.aX)))
def yu (t:bY) (x:Int):Bool:=(gi t.aA.aF.aH (gi t.aX x) != gi t.aA.aE x) || (gi t.aA.aF.To (gi t.aX x) != gi t.aF.aE x)
def E5 (f g:aN) (p:List Int) (a:Int):Bool:=gk f.aF.aG (gi f.ab a) (gi p (gi f.aA.To a)) == gk f.aF.aG (gi p (gi f.aA.aH a)) (gi g.ab a)
def Bz (t:bY):Bool:=!((ns t.aA.aA.aH.length).any fun a=>!(E5 t.aA t.aF t.aX a))
def vn (t:bY):Bool:=!((ns t.aX.length).any (yu t))
def dx (t:bY):Bool:=(tP t && vn t) && Bz t
structure THead (t:bY):Prop where
 f:xH t.aA
 g:xH t.aF
 fb:dk t.aA=true
 gb:dk t.aF=true
 es:t.aF.aA=t.aA.aA
 et:t.aF.aF=t.aA.aF
 pl:(t.aX.length:Int)=t.aA.aA.aE
 pp:∀ y∈t.aX,0≤y∧y < t.aA.aF.aH.length
theorem Ff {t:bY} (h:tP t=true):THead t:=by
 unfold tP at h
 simp only [Bool.and_eq_true,beq_iff_eq,mr,ib] at h
 obtain ⟨h1,h2,⟨h3,h4⟩,h5,h6⟩:=h
 exact ⟨bw h1,bw h2,h1,h2,h3.symm,h4.symm,h5,h6⟩
namespace THead
variable {t:bY} (H:THead t)
include H
theorem Ih {x:Int} (h0:0≤x) (h1:x < t.aA.aA.aE):idx t.aX x=some (gi t.aX x):=dE h0 (by rw [H.pl]; exact h1)
theorem cp {x:Int} (h0:0≤x) (h1:x < t.aA.aA.aE):0≤gi t.aX x∧gi t.aX x < t.aA.aF.aH.length:=H.pp _ (ks h0 (by rw [H.pl]; exact h1))
theorem V7 {a:Int} (h0:0≤a) (h1:a < t.aA.aA.aH.length):0≤gi t.aF.ab a∧gi t.aF.ab a < t.aA.aF.aH.length:=by have:=H.g.ar (a:=a) h0 (by rw [H.es]; exact h1); rwa [H.et] at this
theorem Ob {a:Int} (h0:0≤a) (h1:a < t.aA.aA.aH.length):idx t.aF.ab a=some (gi t.aF.ab a):=H.g.lj h0 (by rw [H.es]; exact h1)
end THead
structure Ol (t:bY):Prop extends THead t where
 pf:∀ x:Int,0≤x→x < t.aA.aA.aE→gi t.aA.aF.aH (gi t.aX x)=gi t.aA.aE x
 pt:∀ x:Int,0≤x→x < t.aA.aA.aE→gi t.aA.aF.To (gi t.aX x)=gi t.aF.aE x
theorem M1 {t:bY} (h1:tP t=true) (h2:vn t=true):Ol t:=by
 have H:=Ff h1
 have hl:=H.pl
 unfold vn at h2
 rw [Bool.not_eq_true',dn] at h2
 refine { H with pf:=fun a a0 a1=>?_,pt:=fun a a0 a1=>?_ } <;>
 ·have:=h2 a a0 (by omega)
  unfold yu at this
  simp only [Bool.or_eq_false_iff,bne_eq_false_iff_eq] at this
  first | exact this.1 | exact this.2
structure Z8 (t:bY):Prop extends Ol t where
 sq:∀ a:Int,0≤a→a < t.aA.aA.aH.length→gk t.aA.aF.aG (gi t.aA.ab a) (gi t.aX (gi t.aA.aA.To a))=gk t.aA.aF.aG (gi t.aX (gi t.aA.aA.aH a)) (gi t.aF.ab a)
theorem kq {t:bY} (h:dx t=true):Z8 t:=by
 unfold dx at h
 simp only [Bool.and_eq_true] at h
 obtain ⟨⟨h1,h2⟩,h3⟩:=h
 unfold Bz at h3
 rw [Bool.not_eq_true',dn] at h3
 refine { M1 h1 h2 with sq:=fun a a0 a1=>?_ }
 have:=h3 a a0 a1
 unfold E5 at this
 simpa using this
theorem Rl {t:bY} (fb:dk t.aA=true) (gb:dk t.aF=true) (es:t.aF.aA=t.aA.aA) (et:t.aF.aF=t.aA.aF) (pl:(t.aX.length:Int)=t.aA.aA.aE) (pp:∀ y∈t.aX,0≤y∧y < t.aA.aF.aH.length)
  (pf:∀ x:Int,0≤x→x < t.aA.aA.aE→gi t.aA.aF.aH (gi t.aX x)=gi t.aA.aE x) (pt:∀ x:Int,0≤x→x < t.aA.aA.aE→gi t.aA.aF.To (gi t.aX x)=gi t.aF.aE x)
  (sq:∀ a:Int,0≤a→a < t.aA.aA.aH.length→gk t.aA.aF.aG (gi t.aA.ab a) (gi t.aX (gi t.aA.aA.To a))=gk t.aA.aF.aG (gi t.aX (gi t.aA.aA.aH a)) (gi t.aF.ab a)):dx t=true:=by
 unfold dx tP vn Bz
 simp only [Bool.and_eq_true,Bool.not_eq_true',beq_iff_eq,mr,ib,fb,gb,true_and]
 refine ⟨⟨⟨⟨es.symm,et.symm⟩,pl,pp⟩,?_⟩,?_⟩
 ·rw [dn]
  intro x x0 x1
  unfold yu
  rw [pf x x0 (by omega),pt x x0 (by omega)]; simp
 ·rw [dn]
  intro a a0 a1
  unfold E5
  rw [sq a a0 a1]; simp
theorem Fg {t:bY} (H:THead t) {a:Int} (a0:0≤a) (a1:a < t.aA.aA.aH.length):jJ t.aA t.aF t.aX a=some (E5 t.aA t.aF t.aX a):=by
 have F:=H.f
 have kf:=F.c.fr a0 a1
 have kt:=F.c.to a0 a1
 have ka:=F.ar a0 a1
 have k1:=H.cp kt.1 kt.2
 have k2:=H.cp kf.1 kf.2
 have k3:=H.V7 a0 a1
 unfold jJ E5
 rw [F.lj a0 a1,aB,F.c.gw a0 a1,aB,H.Ih kt.1 kt.2,aB,F.d.kj ka.1 ka.2 k1.1 k1.2,aB,F.c.fx a0 a1,aB,H.Ih kf.1 kf.2,aB,H.Ob a0 a1,aB,F.d.kj k2.1 k2.2 k3.1 k3.2,aB]
 rfl
theorem Tw {n k:Nat} {A0:Int→Option (Out Int Int)} {p:Int→Bool} (a0:∀ a:Nat,a < n→A0 a=bif !(p a) then some (.ret (a:Int)) else some (.norm ((a+1:Nat):Int))) (a3:A0 n=some (.exit k (n:Int))) :
  ∃ y,an (S:=Unit) (aj (ag k (ai A0 (0:Int))) fun _=>some (.ret (-1:Int)))=some y∧decide (y < 0) = !((ns n).any fun a=>!(p a)):=by
 have hx:∀ i:Nat,i < n→((!(p i))=false∧A0 i=some (.norm ((i+1:Nat):Int)))∨((!(p i))=true∧∃ y,A0 i=some (.ret y)∧0≤y):=by
  intro i hi
  rw [a0 i hi]
  cases p i with
  | true=>exact .inl ⟨rfl,rfl⟩
  | false=>exact .inr ⟨rfl,_,rfl,by omega⟩
 rcases YR (S:=Unit) (f:=fun _=>some (.ret (-1:Int))) (n:=n) (fun a=>!(p a)) (fun y:Int=>0≤y) hx a3 with ⟨h1,h2⟩ | ⟨h1,y,h2,h3⟩
 ·rw [h1,h2]; exact ⟨_,rfl,ao (by decide)⟩
 ·rw [h1,h2]; exact ⟨y,rfl,av (by omega)⟩
theorem Iq {t:bY} (H:THead t):∃ y,lR t (fun a0 a1 a2 a3=>jJ a0 a1 a2 a3)=some y∧decide (y < 0)=Bz t:=by
 have cm:=H.f.c.m
 have al:=H.f.al
 unfold lR Bz
 refine Tw (n:=t.aA.aA.aH.length) (fun a ha=>?_) (by unfold mT; rw [av (by omega),cond_false])
 unfold mT
 show (bif decide ((a:Int) < (t.aA.ab.length:Int)) then (jJ t.aA t.aF t.aX a>>=_) else _)=_
 rw [ao (by omega),cond_true,Fg H (by omega) (by omega),aB,bR (by omega)]
theorem G2 {t:bY} (hs:se t):fQ t=some (dx t):=by
 have hp:=hs.p
 unfold fQ
 have key:gB t=some (tP t && vn t):=by
  unfold gB tP
  rw [zm _ (by simp) (by intro c hc; simp at hc; rcases hc with rfl | rfl; exact hs.s; exact hs.t),aB]
  simp only [List.all_cons,List.all_nil,Bool.and_true]
  cases h1:dk t.aA with
  | false=>rfl
  | true=>
   have F:=bw h1
   cases h2:dk t.aF with
   | false=>rfl
   | true=>
    have G:=bw h2
    have dm:=F.d.m
    simp only [Bool.true_and,Bool.not_true,cond_false]
    rw [Fe hs.s,aB]
    cases h3:jv t.aA.aA t.aF.aA && jv t.aA.aF t.aF.aF with
    | false=>rfl
    | true=>
     have h4:=h3
     simp only [Bool.and_eq_true,ib] at h4
     rw [Bool.not_true,cond_false]
     by_cases e1:(t.aX.length:Int)=t.aA.aA.aE
     ·rw [sa e1,cond_false,show dD t.aA.aF=some (t.aA.aF.aH.length:Int) from rfl,aB,within _ _ (by omega) (by omega) (by omega),aB,aB,o5 e1,Bool.true_and,Bool.true_and]
      cases h:na t.aA.aF.aH.length t.aX with
      | false=>rfl
      | true=>
       rw [Bool.not_true,cond_false,Bool.true_and]
       have xr:=mr.1 h
       rw [ke (n:=t.aX.length) (yu t) (fun x bo=>?_) (by unfold gY; rw [av (by omega),cond_false])]
       ·unfold vn
        cases (ns t.aX.length).any (yu t) <;> rfl
       ·have kc:=xr _ (ks (l:=t.aX) (j:=(x:Int)) (by omega) (by omega))
        unfold gY
        rw [ao (by omega),cond_true,dE (by omega) (by omega),aB,show eC t.aA.aF (gi t.aX x)=some (pV.mk (gi t.aA.aF.aH (gi t.aX x)) (gi t.aA.aF.To (gi t.aX x))) by unfold eC; rw [F.d.fx kc.1 kc.2,aB,F.d.gw kc.1 kc.2,aB]; rfl,aB,F.qo (by omega) (by omega),aB,G.qo (by omega) (by rw [← h4.1]; omega),aB,bR (by omega)]
        unfold yu
        rw [Bool.not_and]
        rfl
     ·rw [qq e1,cond_true,aB,cond_true,kz e1]; rfl
 rw [key,aB]
 unfold dx
 cases h1:tP t with
 | false=>rfl
 | true=>
  cases h2:vn t with
  | false=>rfl
  | true=>
   obtain ⟨y,e1,e2⟩:=Iq (Ff h1)
   simp only [Bool.and_self,cond_true]
   rw [e1,aB,e2]; rfl
theorem Ii (l:List bY) (hl:l.length≤1048576) (hs:∀ c∈l,se c):lF l=some (l.all dx):=by
 unfold lF
 refine (congrArg an (gh l (fun c=>!dx c) (fun i=>(i:Int)) rfl ?_ ?_ (e:=(l.length:Int)) (y:=false) ?_)).trans ?_
 ·intro i x hx hp
  have hi:=bc hx
  unfold lE
  rw [ao (by omega),cond_true,bf,hx,aB,G2 (hs x (List.mem_of_getElem? hx)),aB,show (!dx x)=false from hp,cond_false,bR (by omega)]
 ·intro i x hx hp
  have hi:=bc hx
  unfold lE
  rw [ao (by omega),cond_true,bf,hx,aB,G2 (hs x (List.mem_of_getElem? hx)),aB,show (!dx x)=true from hp,cond_true]
 ·unfold lE
  rw [av (by omega),cond_false]
 ·rw [lq]
  cases l.all dx <;> rfl
end Go.Proofs.YtcnehblmgfbfoaaGreat
namespace Go.Proofs.YtcnehblmgfbfoaaGreat
open Go Go.Li
set_option linter.unusedVariables false
section
variable {t:bY} {g:aN} (ht:dx t=true) (hg:dk g=true) (e:t.aA.aF=g.aA)
include ht hg e
omit hg e in
end
section
variable {t:bY} {f:aN} (hf:dk f=true) (ht:dx t=true) (e:f.aF=t.aA.aA)
include hf ht e
end
section
variable {s t:bY} (hs:dx s=true) (ht:dx t=true) (e:s.aF=t.aA)
include hs ht e
end
end Go.Proofs.YtcnehblmgfbfoaaGreat
