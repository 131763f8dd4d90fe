/- Functors: what the reference's and the program's looks at them give. No condition beside those that each theorem names. -/
import Derived.Test.YtjdkifckhidlbaaGreatVj
namespace Go.Proofs.YtjdkifckhidlbaaGreat
open Go Go.Li
set_option linter.unusedVariables false
structure ji (f:aP):Prop where
 s:fv f.aE
 t:fv f.aH
 o:f.aA.length≤1048576
 a:f.ae.length≤1048576
def uJ (f:aP):Bool:=ov f.aE && (ov f.aH && ((((f.aA.length:Int) == f.aE.aA) && (f.ae.length == f.aE.aG.length)) && (n4 f.aH.aA f.aA && n4 f.aH.aG.length f.ae)))
def wG (f:aP) (a:Int):Bool:=(gi f.aH.aG (gi f.ae a) != gi f.aA (gi f.aE.aG a)) || (gi f.aH.To (gi f.ae a) != gi f.aA (gi f.aE.To a))
def yV (f:aP) (x:Int):Bool:=gi f.ae (gi f.aE.aJ x) != gi f.aH.aJ (gi f.aA x)
def tQ (f:aP) (a b:Int):Bool:=(gi f.aE.To a == gi f.aE.aG b) && (gi f.ae (gk f.aE.aB a b) != gk f.aH.aB (gi f.ae a) (gi f.ae b))
def xd (f:aP):Bool:=!((ns f.aE.aG.length).any (wG f))
def C4 (f:aP):Bool:=!((ns f.aE.aA.toNat).any (yV f)) && !((ns f.aE.aG.length).any fun a=>(ns f.aE.aG.length).any (tQ f a))
def gj (f:aP):Bool:=uJ f && (xd f && C4 f)
structure FHead (f:aP):Prop where
 c:nq f.aE
 d:nq f.aH
 ol:(f.aA.length:Int)=f.aE.aA
 al:f.ae.length=f.aE.aG.length
 oo:∀ y∈f.aA,0≤y∧y < f.aH.aA
 aa:∀ y∈f.ae,0≤y∧y < f.aH.aG.length
theorem NT {f:aP} (h:uJ f=true):FHead f:=by
 unfold uJ at h
 simp only [Bool.and_eq_true,beq_iff_eq,n7] at h
 obtain ⟨h1,h2,⟨h3,h4⟩,h5,h6⟩:=h
 exact ⟨wB h1,wB h2,h3,h4,h5,h6⟩
namespace FHead
variable {f:aP} (H:FHead f)
include H
theorem tO {x:Int} (h0:0≤x) (h1:x < f.aE.aA):idx f.aA x=some (gi f.aA x):=cF h0 (by rw [H.ol]; exact h1)
theorem rL {a:Int} (h0:0≤a) (h1:a < f.aE.aG.length):idx f.ae a=some (gi f.ae a):=cF h0 (by rw [H.al]; exact h1)
theorem ob {x:Int} (h0:0≤x) (h1:x < f.aE.aA):0≤gi f.aA x∧gi f.aA x < f.aH.aA:=H.oo _ (ec h0 (by rw [H.ol]; exact h1))
theorem ar {a:Int} (h0:0≤a) (h1:a < f.aE.aG.length):0≤gi f.ae a∧gi f.ae a < f.aH.aG.length:=H.aa _ (ec h0 (by rw [H.al]; exact h1))
end FHead
structure Jm (f:aP):Prop extends FHead f where
 fr:∀ a:Int,0≤a→a < f.aE.aG.length→gi f.aH.aG (gi f.ae a)=gi f.aA (gi f.aE.aG a)
 to:∀ a:Int,0≤a→a < f.aE.aG.length→gi f.aH.To (gi f.ae a)=gi f.aA (gi f.aE.To a)
theorem GD {f:aP} (h1:uJ f=true) (h2:xd f=true):Jm f:=by
 unfold xd at h2
 rw [Bool.not_eq_true',fi] at h2
 refine { NT h1 with fr:=fun a a0 a1=>?_,to:=fun a a0 a1=>?_ } <;>
 ·have:=h2 a a0 a1
  unfold wG at this
  simp only [Bool.or_eq_false_iff,bne_eq_false_iff_eq] at this
  first | exact this.1 | exact this.2
structure Gq (f:aP):Prop extends Jm f where
 un:∀ x:Int,0≤x→x < f.aE.aA→gi f.ae (gi f.aE.aJ x)=gi f.aH.aJ (gi f.aA x)
 co:∀ a b:Int,0≤a→a < f.aE.aG.length→0≤b→b < f.aE.aG.length→gi f.aE.To a=gi f.aE.aG b→gi f.ae (gk f.aE.aB a b)=gk f.aH.aB (gi f.ae a) (gi f.ae b)
theorem dj {f:aP} (h:gj f=true):Gq f:=by
 unfold gj C4 at h
 simp only [Bool.and_eq_true,Bool.not_eq_true'] at h
 obtain ⟨h1,h2,h3,h4⟩:=h
 have E:=GD h1 h2
 have ho:=E.c.o0
 rw [fi] at h3 h4
 refine { E with un:=fun x x0 x1=>?_,co:=fun a b a0 a1 b0 b1 e=>?_ }
 ·have:=h3 x x0 (by omega)
  unfold yV at this
  simpa using this
 ·have:=(fi.1 (h4 a a0 a1)) b b0 b1
  unfold tQ at this
  simpa [e] using this
theorem KZ {f:aP} (h1:ov f.aE=true) (h2:ov f.aH=true) (ol:(f.aA.length:Int)=f.aE.aA) (al:f.ae.length=f.aE.aG.length) (oo:∀ y∈f.aA,0≤y∧y < f.aH.aA) (aa:∀ y∈f.ae,0≤y∧y < f.aH.aG.length)
  (fr:∀ a:Int,0≤a→a < f.aE.aG.length→gi f.aH.aG (gi f.ae a)=gi f.aA (gi f.aE.aG a)) (to:∀ a:Int,0≤a→a < f.aE.aG.length→gi f.aH.To (gi f.ae a)=gi f.aA (gi f.aE.To a))
  (un:∀ x:Int,0≤x→x < f.aE.aA→gi f.ae (gi f.aE.aJ x)=gi f.aH.aJ (gi f.aA x))
  (co:∀ a b:Int,0≤a→a < f.aE.aG.length→0≤b→b < f.aE.aG.length→gi f.aE.To a=gi f.aE.aG b→gi f.ae (gk f.aE.aB a b)=gk f.aH.aB (gi f.ae a) (gi f.ae b)):gj f=true:=by
 have C:=wB h1
 have hc:=C.o0
 unfold gj uJ xd C4
 simp only [Bool.and_eq_true,Bool.not_eq_true',beq_iff_eq,n7,h1,h2,true_and]
 refine ⟨⟨⟨ol,al⟩,oo,aa⟩,?_,?_,?_⟩
 ·rw [fi]
  intro a a0 a1
  unfold wG
  rw [fr a a0 a1,to a a0 a1]; simp
 ·rw [fi]
  intro x x0 x1
  unfold yV
  rw [un x x0 (by omega)]; simp
 ·rw [fi]
  intro a a0 a1
  rw [fi]
  intro b b0 b1
  unfold tQ
  by_cases e:gi f.aE.To a=gi f.aE.aG b
  ·rw [co a b a0 a1 b0 b1 e]; simp
  ·simp [e]
theorem DM {f:aP} (hs:ji f):oC f=some (gj f):=by
 have ho:=hs.o
 have ha:=hs.a
 unfold oC gj uJ
 rw [KU hs.s,aF]
 cases h1:ov f.aE with
 | false=>rfl
 | true=>
  have C:=wB h1
  rw [KU hs.t,aF]
  cases h2:ov f.aH with
  | false=>rfl
  | true=>
   have T:=wB h2
   simp only [Bool.not_true,cond_false,Bool.true_and]
   by_cases e1:(f.aA.length:Int)=f.aE.aA
   ·rw [ou e1,cond_false,sN e1,Bool.true_and]
    by_cases e2:f.ae.length=f.aE.aG.length
    ·rw [ou (by omega),aF,cond_false,xR _ _ (by omega),aF,sN e2,Bool.true_and]
     cases h3:n4 f.aH.aA f.aA with
     | false=>rfl
     | true=>
      rw [xR _ _ (by omega),aF]
      cases h4:n4 f.aH.aG.length f.ae with
      | false=>rfl
      | true=>
       have H:FHead f:=⟨C,T,e1,e2,n7.1 h3,n7.1 h4⟩
       have cm:=C.m
       have co:=C.o8
       simp only [Bool.not_true,cond_false,aF,Bool.and_self,Bool.true_and]
       rw [sn (n:=f.aE.aG.length) (wG f) (fun a bh=>?_) (by unfold pG; rw [bj (by omega),cond_false])]
       ·unfold xd
        cases h5:(ns f.aE.aG.length).any (wG f) with
        | true=>rfl
        | false=>
         rw [cond_false,Bool.not_false,Bool.true_and]
         rw [sn (n:=f.aE.aA.toNat) (yV f) (fun x bh=>?_) (by unfold pH; rw [bj (by omega),cond_false])]
         ·unfold C4
          cases h6:(ns f.aE.aA.toNat).any (yV f) with
          | true=>rfl
          | false=>
           rw [cond_false,Bool.not_false,Bool.true_and]
           have E:Jm f:=GD (by unfold uJ; simp [h1,h2,h3,h4,e1,e2]) (by unfold xd; rw [h5]; rfl)
           rw [sn (n:=f.aE.aG.length) (fun a=>(ns f.aE.aG.length).any (tQ f a)) (fun a bh=>?_) (by unfold pJ; rw [bj (by omega),cond_false])]
           ·cases (ns f.aE.aG.length).any fun a=>(ns f.aE.aG.length).any (tQ f a) <;> rfl
           ·unfold pJ
            rw [aX (by omega),cond_true]
            rw [sn (n:=f.aE.aG.length) (tQ f a) (fun b hb=>?_) (by unfold pI; rw [bj (by omega),cond_false])]
            ·rw [cH (by omega)]
            ·unfold pI
             rw [aX (by omega),cond_true,C.j3 (by omega) (by omega),aF,C.iy (by omega) (by omega),aF]
             unfold tQ
             by_cases e:gi f.aE.To a=gi f.aE.aG b
             ·have k:=C.cell a b (by omega) (by omega) (by omega) (by omega) e
              have ka:=H.ar (a:=(a:Int)) (by omega) (by omega)
              have kb:=H.ar (a:=(b:Int)) (by omega) (by omega)
              rw [sN e,cond_true,C.me (by omega) (by omega),aF,C.l3 (by omega) (by omega) (by omega) (by omega),aF,H.rL k.1 k.2.1,aF,H.rL (by omega) (by omega),aF,T.me ka.1 ka.2,aF,H.rL (by omega) (by omega),aF,T.l3 ka.1 ka.2 kb.1 kb.2,aF,aF,Bool.true_and,cH (by omega)]; rfl
             ·rw [r5 e,cond_false,aF,Bool.false_and,cH (by omega)]; rfl
         ·have kx:=H.ob (x:=(x:Int)) (by omega) (by omega)
          have ki:=C.id (x:=(x:Int)) (by omega) (by omega)
          unfold pH
          rw [aX (by omega),cond_true,C.mr (by omega) (by omega),aF,H.rL ki.1 ki.2,aF,H.tO (by omega) (by omega),aF,T.mr kx.1 kx.2,aF,cH (by omega)]
          rfl
       ·have ka:=H.ar (a:=(a:Int)) (by omega) (by omega)
        have kf:=C.fr (f:=(a:Int)) (by omega) (by omega)
        have kt:=C.to (f:=(a:Int)) (by omega) (by omega)
        unfold pG
        rw [aX (by omega),cond_true,H.rL (by omega) (by omega),aF,T.iy ka.1 ka.2,aF,C.iy (by omega) (by omega),aF,H.tO kf.1 kf.2,aF,aF,T.j3 ka.1 ka.2,aF,C.j3 (by omega) (by omega),aF,H.tO kt.1 kt.2,aF,cH (by omega),p3,vI,aF]
        rfl
    ·rw [p8 (by omega),aF,cond_true,r5 e2]; rfl
   ·rw [p8 e1,cond_true,aF,cond_true,r5 e1]; rfl
theorem Lo {f:aP} (hs:ji f) (C:nq f.aE) (T:nq f.aH):jS f=some (((((f.aA.length:Int) == f.aE.aA) && (f.ae.length == f.aE.aG.length)) && (n4 f.aH.aA f.aA && n4 f.aH.aG.length f.ae)) && (xd f && C4 f)):=by
 have ho:=hs.o
 have ha:=hs.a
 have cm:=C.m
 have co:=C.o8
 have tm:=T.m
 have to:=T.o8
 have t0:=T.o0
 unfold jS
 by_cases e1:(f.aA.length:Int)=f.aE.aA
 ·rw [ou e1,cond_false,sN e1,Bool.true_and]
  rw [show cX f.aE=some (f.aE.aG.length:Int) from rfl,aF]
  by_cases e2:f.ae.length=f.aE.aG.length
  ·rw [ou (by omega),cond_false,within _ _ (by omega) (by omega) (by omega),aF,sN e2,Bool.true_and]
   cases h3:n4 f.aH.aA f.aA with
   | false=>rfl
   | true=>
    rw [Bool.not_true,cond_false,show cX f.aH=some (f.aH.aG.length:Int) from rfl,aF,within _ _ (by omega) (by omega) (by omega),aF]
    cases h4:n4 f.aH.aG.length f.ae with
    | false=>rfl
    | true=>
     have H:FHead f:=⟨C,T,e1,e2,n7.1 h3,n7.1 h4⟩
     have il:=C.il
     have kl:=C.kl
     simp only [Bool.not_true,cond_false,aF,Bool.and_self,Bool.true_and]
     rw [sn (n:=f.aE.aG.length) (wG f) (fun a bh=>?_) (by unfold kF; rw [bj (by omega),cond_false])]
     ·unfold xd
      cases h5:(ns f.aE.aG.length).any (wG f) with
      | true=>rfl
      | false=>
       rw [cond_false,Bool.not_false,Bool.true_and]
       rw [sn (n:=f.aE.aA.toNat) (yV f) (fun x bh=>?_) (by unfold kG; rw [bj (by omega),cond_false])]
       ·unfold C4
        cases h6:(ns f.aE.aA.toNat).any (yV f) with
        | true=>rfl
        | false=>
         rw [cond_false,Bool.not_false,Bool.true_and]
         rw [sn (n:=f.aE.aG.length) (fun a=>(ns f.aE.aG.length).any (tQ f a)) (fun a bh=>?_) (by unfold kI; rw [bj (by omega),cond_false])]
         ·cases (ns f.aE.aG.length).any fun a=>(ns f.aE.aG.length).any (tQ f a) <;> rfl
         ·unfold kI
          have hr:=C.row (a:Int) (by omega) (by omega)
          rw [aX (by omega),cond_true,C.me (by omega) (by omega),aF]
          rw [sn (n:=f.aE.aG.length) (tQ f a) (fun b hb=>?_) (by unfold kH; rw [bj (by omega),cond_false])]
          ·rw [cH (by omega)]
          ·unfold kH
           rw [aX (by omega),cond_true,C.l3 (by omega) (by omega) (by omega) (by omega),aF]
           unfold tQ
           by_cases e:gi f.aE.To a=gi f.aE.aG b
           ·have k:=C.cell a b (by omega) (by omega) (by omega) (by omega) e
            have ka:=H.ar (a:=(a:Int)) (by omega) (by omega)
            have kb:=H.ar (a:=(b:Int)) (by omega) (by omega)
            rw [sN e,aX (show gk f.aE.aB a b ≥ 0 from k.1),cond_true,H.rL k.1 k.2.1,aF,H.rL (by omega) (by omega),aF,H.rL (by omega) (by omega),aF,T.np ka.1 ka.2 kb.1 kb.2,aF,aF,Bool.true_and,cH (by omega)]; rfl
           ·have:=C.none a b (by omega) (by omega) (by omega) (by omega) e
            rw [r5 e,bj (show ¬ gk f.aE.aB a b ≥ 0 by omega),cond_false,aF,Bool.false_and,cH (by omega)]; rfl
       ·have kx:=H.ob (x:=(x:Int)) (by omega) (by omega)
        have ki:=C.id (x:=(x:Int)) (by omega) (by omega)
        unfold kG
        rw [aX (by omega),cond_true,C.mr (by omega) (by omega),aF,H.rL ki.1 ki.2,aF,H.tO (by omega) (by omega),aF,T.mr kx.1 kx.2,aF,cH (by omega)]
        rfl
     ·have ka:=H.ar (a:=(a:Int)) (by omega) (by omega)
      have kf:=C.fr (f:=(a:Int)) (by omega) (by omega)
      have kt:=C.to (f:=(a:Int)) (by omega) (by omega)
      unfold kF
      rw [aX (by omega),cond_true,H.rL (by omega) (by omega),aF,T.iy ka.1 ka.2,aF,C.iy (by omega) (by omega),aF,H.tO kf.1 kf.2,aF,T.j3 ka.1 ka.2,aF,C.j3 (by omega) (by omega),aF,H.tO kt.1 kt.2,aF,cH (by omega),p3,vI,aF]
      rfl
  ·rw [p8 (by omega),cond_true,r5 e2]; rfl
 ·rw [p8 e1,cond_true,r5 e1]; rfl
theorem DV (a b:List Int) (ha:a.length≤1048576) (hb:∀ x∈a,0≤x∧x < b.length):lG a b=some (thenS a b):=by
 unfold lG
 refine (congrArg ao (ux a.length (fun i=>gi b (gi a i)) (fun acc i=>(acc,(i:Int))) rfl ?_ ?_)).trans rfl
 ·intro i acc hi aaT
  have hm:=hb _ (ec (l:=a) (j:=(i:Int)) (by omega) (by omega))
  show jI a b acc i=_
  unfold jI
  rw [aX (by omega),cond_true,cF (by omega) (by omega),aF,cF hm.1 hm.2,aF,dQ (by omega) (by omega),aF,cH (by omega)]
 ·intro acc _
  show jI a b acc _=_
  unfold jI
  rw [bj (by omega),cond_false]
theorem G5 (l:List aI) (hl:l.length≤1048576) (hs:∀ c∈l,fv c):jJ l=some (l.all ov):=by
 unfold jJ
 refine (congrArg ao (kn l (fun c=>!ov c) (fun i=>(i:Int)) rfl ?_ ?_ (e:=(l.length:Int)) (y:=false) ?_)).trans ?_
 ·intro i x hx hp
  have hi:=cb hx
  unfold iA
  rw [aX (by omega),cond_true,cy,hx,aF,Ge (hs x (List.mem_of_getElem? hx)),aF,show (!ov x)=false from hp,cond_false,cH (by omega)]
 ·intro i x hx hp
  have hi:=cb hx
  unfold iA
  rw [aX (by omega),cond_true,cy,hx,aF,Ge (hs x (List.mem_of_getElem? hx)),aF,show (!ov x)=true from hp,cond_true]
 ·unfold iA
  rw [bj (by omega),cond_false]
 ·rw [n8]
  cases l.all ov <;> rfl
theorem DW {f:aP} (hs:ji f):gV f=some (gj f):=by
 unfold gV gj uJ
 rw [G5 _ (by simp) (by intro c hc; simp at hc; rcases hc with rfl | rfl; exact hs.s; exact hs.t),aF]
 simp only [List.all_cons,List.all_nil,Bool.and_true]
 cases h1:ov f.aE with
 | false=>rfl
 | true=>
  cases h2:ov f.aH with
  | false=>rfl
  | true=>
   rw [Bool.true_and,cond_true,Lo hs (wB h1) (wB h2)]
   rfl
theorem A8 (l:List aP) (hl:l.length≤1048576) (hs:∀ c∈l,ji c):jC l=some (l.all gj):=by
 unfold jC
 refine (congrArg ao (kn l (fun c=>!gj c) (fun i=>(i:Int)) rfl ?_ ?_ (e:=(l.length:Int)) (y:=false) ?_)).trans ?_
 ·intro i x hx hp
  have hi:=cb hx
  unfold jE
  rw [aX (by omega),cond_true,cy,hx,aF,DW (hs x (List.mem_of_getElem? hx)),aF,show (!gj x)=false from hp,cond_false,cH (by omega)]
 ·intro i x hx hp
  have hi:=cb hx
  unfold jE
  rw [aX (by omega),cond_true,cy,hx,aF,DW (hs x (List.mem_of_getElem? hx)),aF,show (!gj x)=true from hp,cond_true]
 ·unfold jE
  rw [bj (by omega),cond_false]
 ·rw [n8]
  cases l.all gj <;> rfl
theorem Lp (l:List Int) (hl:l.length≤1048576):gW l=some l:=by
 unfold gW
 rw [dQ (by simp; omega) (by simp; omega),aF]; rfl
theorem A5 {c d:aI} {o a:List Int} (hc:fv c) (hd:fv d) (ho:o.length≤1048576) (ha:a.length≤1048576):lM c d o a=some (aP.mk c d o a):=by
 unfold lM
 rw [Gl hc,aF,Gl hd,aF,Lp o ho,aF,Lp a ha,aF]; rfl
theorem rq {c d:aI} {o a:List Int} (hc:fv c) (hd:fv d) (ho:o.length≤1048576) (ha:a.length≤1048576):fD c d o a=some (aP.mk c d o a):=by
 unfold fD
 rw [wD hc,aF,wD hd,aF,fw o ho,aF,fw a ha,aF]; rfl
def tN (f g:aP):aP:=aP.mk f.aE g.aH (thenS f.aA g.aA) (thenS f.ae g.ae)
theorem qy (a b:List Int):(thenS a b).length=a.length:=by unfold thenS; rw [cR]
theorem A6 {f g:aP} (hf:ji f) (hg:ji g):ji (tN f g):=⟨hf.s,hg.t,by show (thenS _ _).length≤_; rw [qy]; exact hf.o,by show (thenS _ _).length≤_; rw [qy]; exact hf.a⟩
section
variable {f g:aP} (F:FHead f) (G:FHead g) (e:f.aH=g.aE)
include F G e
theorem Aa:(∀ x∈f.aA,0≤x∧x < g.aA.length)∧∀ x∈f.ae,0≤x∧x < g.ae.length:=by
 have h1:=G.ol
 have h2:=G.al
 rw [← e] at h1 h2
 exact ⟨fun x hx=>⟨(F.oo x hx).1,by have:=(F.oo x hx).2; omega⟩,fun x hx=>⟨(F.aa x hx).1,by have:=(F.aa x hx).2; omega⟩⟩
theorem DO (hf:ji f) (hg:ji g):iF f g=some (tN f g):=by
 obtain ⟨h1,h2⟩:=Aa F G e
 unfold iF
 rw [Gm _ _ hf.o h1,aF,Gm _ _ hf.a h2,aF,A5 hf.s hg.t (by rw [qy]; exact hf.o) (by rw [qy]; exact hf.a),aF]; rfl
theorem DN (hf:ji f) (hg:ji g):jZ f g=some (tN f g):=by
 obtain ⟨h1,h2⟩:=Aa F G e
 unfold jZ
 rw [DV _ _ hf.o h1,aF,DV _ _ hf.a h2,aF,rq hf.s hg.t (by rw [qy]; exact hf.o) (by rw [qy]; exact hf.a),aF]; rfl
end
theorem Gr {f g:aP} (hf:gj f=true) (hg:gj g=true) (e:f.aH=g.aE):gj (tN f g)=true:=by
 have F:=dj hf
 have G:=dj hg
 have h1:ov f.aE=true:=by unfold gj uJ at hf; simp only [Bool.and_eq_true] at hf; exact hf.1.1
 have h2:ov g.aH=true:=by unfold gj uJ at hg; simp only [Bool.and_eq_true] at hg; exact hg.1.2.1
 have go:∀ x:Int,0≤x→x < f.aE.aA→gi (thenS f.aA g.aA) x=gi g.aA (gi f.aA x):=fun x x0 x1=>r6 x0 (by rw [F.ol]; exact x1)
 have ga:∀ a:Int,0≤a→a < f.aE.aG.length→gi (thenS f.ae g.ae) a=gi g.ae (gi f.ae a):=fun a a0 a1=>r6 a0 (by rw [F.al]; exact a1)
 have ob:∀ x:Int,0≤x→x < f.aE.aA→0≤gi f.aA x∧gi f.aA x < g.aE.aA:=fun x x0 x1=>by rw [← e]; exact F.ob x0 x1
 have ar:∀ a:Int,0≤a→a < f.aE.aG.length→0≤gi f.ae a∧gi f.ae a < g.aE.aG.length:=fun a a0 a1=>by rw [← e]; exact F.ar a0 a1
 obtain ⟨t1,t2⟩:=Aa F.toFHead G.toFHead e
 refine KZ (f:=tN f g) h1 h2 ?_ ?_ ?_ ?_ ?_ ?_ ?_ ?_
 ·show ((thenS _ _).length:Int)=_; rw [qy]; exact F.ol
 ·show (thenS _ _).length=_; rw [qy]; exact F.al
 ·exact fun y hy=>DS t1 G.oo hy
 ·exact fun y hy=>DS t2 G.aa hy
 ·intro a a0 a1
  have kf:=F.c.fr a0 a1
  show gi g.aH.aG (gi (thenS f.ae g.ae) a)=gi (thenS f.aA g.aA) (gi f.aE.aG a)
  rw [ga a a0 a1,go _ kf.1 kf.2,G.fr _ (ar a a0 a1).1 (ar a a0 a1).2,← e,F.fr a a0 a1]
 ·intro a a0 a1
  have kf:=F.c.to a0 a1
  show gi g.aH.To (gi (thenS f.ae g.ae) a)=gi (thenS f.aA g.aA) (gi f.aE.To a)
  rw [ga a a0 a1,go _ kf.1 kf.2,G.to _ (ar a a0 a1).1 (ar a a0 a1).2,← e,F.to a a0 a1]
 ·intro x x0 x1
  have ki:=F.c.id x0 x1
  show gi (thenS f.ae g.ae) (gi f.aE.aJ x)=gi g.aH.aJ (gi (thenS f.aA g.aA) x)
  rw [ga _ ki.1 ki.2,go x x0 x1,F.un x x0 x1,← G.un _ (ob x x0 x1).1 (ob x x0 x1).2,e]
 ·intro a b a0 a1 b0 b1 h
  have k:=F.c.cell a b a0 a1 b0 b1 h
  show gi (thenS f.ae g.ae) (gk f.aE.aB a b)=gk g.aH.aB (gi (thenS f.ae g.ae) a) (gi (thenS f.ae g.ae) b)
  rw [ga _ k.1 k.2.1,ga a a0 a1,ga b b0 b1,F.co a b a0 a1 b0 b1 h,← G.co _ _ (ar a a0 a1).1 (ar a a0 a1).2 (ar b b0 b1).1 (ar b b0 b1).2 (by rw [← e,F.to a a0 a1,F.fr b b0 b1]; exact congrArg (gi f.aA) h),e]
theorem GF {f g:aP} (h:ji f):iB f g=some (mz f.aE g.aE && mz f.aH g.aH):=by
 unfold iB
 rw [uH h.s,aF,uH h.t,aF,p3,BC]; rfl
end Go.Proofs.YtjdkifckhidlbaaGreat
namespace Go.Proofs.YtjdkifckhidlbaaGreat
open Go Go.Li
set_option linter.unusedVariables false
structure zW (m:cD):Prop where
 s:ji m.aE
 t:ji m.aH
 p:m.bc.length≤1048576
def w9 (t:cD):Bool:=gj t.aE && (gj t.aH && ((mz t.aE.aE t.aH.aE && mz t.aE.aH t.aH.aH) && (((t.bc.length:Int) == t.aE.aE.aA) && n4 t.aE.aH.aG.length t.bc)))
def BF (t:cD) (x:Int):Bool:=(gi t.aE.aH.aG (gi t.bc x) != gi t.aE.aA x) || (gi t.aE.aH.To (gi t.bc x) != gi t.aH.aA x)
def HS (f g:aP) (p:List Int) (a:Int):Bool:=gk f.aH.aB (gi f.ae a) (gi p (gi f.aE.To a)) == gk f.aH.aB (gi p (gi f.aE.aG a)) (gi g.ae a)
def Gp (t:cD):Bool:=!((ns t.aE.aE.aG.length).any fun a=>!(HS t.aE t.aH t.bc a))
def yQ (t:cD):Bool:=!((ns t.bc.length).any (BF t))
def lh (t:cD):Bool:=(w9 t && yQ t) && Gp t
structure THead (t:cD):Prop where
 f:Gq t.aE
 g:Gq t.aH
 fb:gj t.aE=true
 gb:gj t.aH=true
 es:t.aH.aE=t.aE.aE
 et:t.aH.aH=t.aE.aH
 pl:(t.bc.length:Int)=t.aE.aE.aA
 pp:∀ y∈t.bc,0≤y∧y < t.aE.aH.aG.length
theorem GG {t:cD} (h:w9 t=true):THead t:=by
 unfold w9 at h
 simp only [Bool.and_eq_true,beq_iff_eq,n7,l4] at h
 obtain ⟨h1,h2,⟨h3,h4⟩,h5,h6⟩:=h
 exact ⟨dj h1,dj h2,h1,h2,h3.symm,h4.symm,h5,h6⟩
namespace THead
variable {t:cD} (H:THead t)
include H
theorem Je {x:Int} (h0:0≤x) (h1:x < t.aE.aE.aA):idx t.bc x=some (gi t.bc x):=cF h0 (by rw [H.pl]; exact h1)
theorem cp {x:Int} (h0:0≤x) (h1:x < t.aE.aE.aA):0≤gi t.bc x∧gi t.bc x < t.aE.aH.aG.length:=H.pp _ (ec h0 (by rw [H.pl]; exact h1))
theorem WT {a:Int} (h0:0≤a) (h1:a < t.aE.aE.aG.length):0≤gi t.aH.ae a∧gi t.aH.ae a < t.aE.aH.aG.length:=by have:=H.g.ar (a:=a) h0 (by rw [H.es]; exact h1); rwa [H.et] at this
theorem OS {a:Int} (h0:0≤a) (h1:a < t.aE.aE.aG.length):idx t.aH.ae a=some (gi t.aH.ae a):=H.g.rL h0 (by rw [H.es]; exact h1)
end THead
structure O8 (t:cD):Prop extends THead t where
 pf:∀ x:Int,0≤x→x < t.aE.aE.aA→gi t.aE.aH.aG (gi t.bc x)=gi t.aE.aA x
 pt:∀ x:Int,0≤x→x < t.aE.aE.aA→gi t.aE.aH.To (gi t.bc x)=gi t.aH.aA x
theorem NU {t:cD} (h1:w9 t=true) (h2:yQ t=true):O8 t:=by
 have H:=GG h1
 have hl:=H.pl
 unfold yQ at h2
 rw [Bool.not_eq_true',fi] at h2
 refine { H with pf:=fun a a0 a1=>?_,pt:=fun a a0 a1=>?_ } <;>
 ·have:=h2 a a0 (by omega)
  unfold BF at this
  simp only [Bool.or_eq_false_iff,bne_eq_false_iff_eq] at this
  first | exact this.1 | exact this.2
structure abW (t:cD):Prop extends O8 t where
 sq:∀ a:Int,0≤a→a < t.aE.aE.aG.length→gk t.aE.aH.aB (gi t.aE.ae a) (gi t.bc (gi t.aE.aE.To a))=gk t.aE.aH.aB (gi t.bc (gi t.aE.aE.aG a)) (gi t.aH.ae a)
theorem rB {t:cD} (h:lh t=true):abW t:=by
 unfold lh at h
 simp only [Bool.and_eq_true] at h
 obtain ⟨⟨h1,h2⟩,h3⟩:=h
 unfold Gp at h3
 rw [Bool.not_eq_true',fi] at h3
 refine { NU h1 h2 with sq:=fun a a0 a1=>?_ }
 have:=h3 a a0 a1
 unfold HS at this
 simpa using this
theorem GH {t:cD} (H:THead t) {a:Int} (a0:0≤a) (a1:a < t.aE.aE.aG.length):iE t.aE t.aH t.bc a=some (HS t.aE t.aH t.bc a):=by
 have F:=H.f
 have kf:=F.c.fr a0 a1
 have kt:=F.c.to a0 a1
 have ka:=F.ar a0 a1
 have k1:=H.cp kt.1 kt.2
 have k2:=H.cp kf.1 kf.2
 have k3:=H.WT a0 a1
 unfold iE HS
 rw [F.rL a0 a1,aF,F.c.j3 a0 a1,aF,H.Je kt.1 kt.2,aF,F.d.np ka.1 ka.2 k1.1 k1.2,aF,F.c.iy a0 a1,aF,H.Je kf.1 kf.2,aF,H.OS a0 a1,aF,F.d.np k2.1 k2.2 k3.1 k3.2,aF]
 rfl
theorem Us {n k:Nat} {A0:Int→Option (Out Int Int)} {p:Int→Bool} (a0:∀ a:Nat,a < n→A0 a=bif !(p a) then some (.ret (a:Int)) else some (.norm ((a+1:Nat):Int))) (a3:A0 n=some (.exit k (n:Int))) :
  ∃ y,ao (S:=Unit) (ah (af k (aj A0 (0:Int))) fun _=>some (.ret (-1:Int)))=some y∧decide (y < 0) = !((ns n).any fun a=>!(p a)):=by
 have hx:∀ i:Nat,i < n→((!(p i))=false∧A0 i=some (.norm ((i+1:Nat):Int)))∨((!(p i))=true∧∃ y,A0 i=some (.ret y)∧0≤y):=by
  intro i hi
  rw [a0 i hi]
  cases p i with
  | true=>exact .inl ⟨rfl,rfl⟩
  | false=>exact .inr ⟨rfl,_,rfl,by omega⟩
 rcases aaM (S:=Unit) (f:=fun _=>some (.ret (-1:Int))) (n:=n) (fun a=>!(p a)) (fun y:Int=>0≤y) hx a3 with ⟨h1,h2⟩ | ⟨h1,y,h2,h3⟩
 ·rw [h1,h2]; exact ⟨_,rfl,aX (by decide)⟩
 ·rw [h1,h2]; exact ⟨y,rfl,bj (by omega)⟩
theorem Jn {t:cD} (H:THead t):∃ y,jT t (fun a0 a1 a2 a3=>iE a0 a1 a2 a3)=some y∧decide (y < 0)=Gp t:=by
 have cm:=H.f.c.m
 have al:=H.f.al
 unfold jT Gp
 refine Us (n:=t.aE.aE.aG.length) (fun a ha=>?_) (by unfold kJ; rw [bj (by omega),cond_false])
 unfold kJ
 show (bif decide ((a:Int) < (t.aE.ae.length:Int)) then (iE t.aE t.aH t.bc a>>=_) else _)=_
 rw [aX (by omega),cond_true,GH H (by omega) (by omega),aF,cH (by omega)]
theorem H0 {t:cD} (hs:zW t):eW t=some (lh t):=by
 have hp:=hs.p
 unfold eW
 have key:fL t=some (w9 t && yQ t):=by
  unfold fL w9
  rw [A8 _ (by simp) (by intro c hc; simp at hc; rcases hc with rfl | rfl; exact hs.s; exact hs.t),aF]
  simp only [List.all_cons,List.all_nil,Bool.and_true]
  cases h1:gj t.aE with
  | false=>rfl
  | true=>
   have F:=dj h1
   cases h2:gj t.aH with
   | false=>rfl
   | true=>
    have G:=dj h2
    have dm:=F.d.m
    simp only [Bool.true_and,Bool.not_true,cond_false]
    rw [GF hs.s,aF]
    cases h3:mz t.aE.aE t.aH.aE && mz t.aE.aH t.aH.aH with
    | false=>rfl
    | true=>
     have h4:=h3
     simp only [Bool.and_eq_true,l4] at h4
     rw [Bool.not_true,cond_false]
     by_cases e1:(t.bc.length:Int)=t.aE.aE.aA
     ·rw [ou e1,cond_false,show cX t.aE.aH=some (t.aE.aH.aG.length:Int) from rfl,aF,within _ _ (by omega) (by omega) (by omega),aF,aF,sN e1,Bool.true_and,Bool.true_and]
      cases h:n4 t.aE.aH.aG.length t.bc with
      | false=>rfl
      | true=>
       rw [Bool.not_true,cond_false,Bool.true_and]
       have wU:=n7.1 h
       rw [sn (n:=t.bc.length) (BF t) (fun x bh=>?_) (by unfold gD; rw [bj (by omega),cond_false])]
       ·unfold yQ
        cases (ns t.bc.length).any (BF t) <;> rfl
       ·have kc:=wU _ (ec (l:=t.bc) (j:=(x:Int)) (by omega) (by omega))
        unfold gD
        rw [aX (by omega),cond_true,cF (by omega) (by omega),aF,show eE t.aE.aH (gi t.bc x)=some (pD.mk (gi t.aE.aH.aG (gi t.bc x)) (gi t.aE.aH.To (gi t.bc x))) by unfold eE; rw [F.d.iy kc.1 kc.2,aF,F.d.j3 kc.1 kc.2,aF]; rfl,aF,F.tO (by omega) (by omega),aF,G.tO (by omega) (by rw [← h4.1]; omega),aF,cH (by omega)]
        unfold BF
        rw [Bool.not_and]
        rfl
     ·rw [p8 e1,cond_true,aF,cond_true,r5 e1]; rfl
 rw [key,aF]
 unfold lh
 cases h1:w9 t with
 | false=>rfl
 | true=>
  cases h2:yQ t with
  | false=>rfl
  | true=>
   obtain ⟨y,e1,e2⟩:=Jn (GG h1)
   simp only [Bool.and_self,cond_true]
   rw [e1,aF,e2]; rfl
theorem Jf (l:List cD) (hl:l.length≤1048576) (hs:∀ c∈l,zW c):jM l=some (l.all lh):=by
 unfold jM
 refine (congrArg ao (kn l (fun c=>!lh c) (fun i=>(i:Int)) rfl ?_ ?_ (e:=(l.length:Int)) (y:=false) ?_)).trans ?_
 ·intro i x hx hp
  have hi:=cb hx
  unfold jL
  rw [aX (by omega),cond_true,cy,hx,aF,H0 (hs x (List.mem_of_getElem? hx)),aF,show (!lh x)=false from hp,cond_false,cH (by omega)]
 ·intro i x hx hp
  have hi:=cb hx
  unfold jL
  rw [aX (by omega),cond_true,cy,hx,aF,H0 (hs x (List.mem_of_getElem? hx)),aF,show (!lh x)=true from hp,cond_true]
 ·unfold jL
  rw [bj (by omega),cond_false]
 ·rw [n8]
  cases l.all lh <;> rfl
end Go.Proofs.YtjdkifckhidlbaaGreat
namespace Go.Proofs.YtjdkifckhidlbaaGreat
open Go Go.Li
set_option linter.unusedVariables false
section
variable {t:cD} {g:aP} (ht:lh t=true) (hg:gj g=true) (e:t.aE.aH=g.aE)
include ht hg e
omit hg e in
end
section
variable {t:cD} {f:aP} (hf:gj f=true) (ht:lh t=true) (e:f.aH=t.aE.aE)
include hf ht e
end
section
variable {s t:cD} (hs:lh s=true) (ht:lh t=true) (e:s.aH=t.aE)
include hs ht e
end
end Go.Proofs.YtjdkifckhidlbaaGreat
