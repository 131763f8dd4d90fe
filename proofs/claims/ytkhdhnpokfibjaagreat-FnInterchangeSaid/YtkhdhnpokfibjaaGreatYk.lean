/- Functors: what the reference's and the program's looks at them give. No condition beside those that each theorem names. -/
import Derived.Test.YtkhdhnpokfibjaaGreatVs
set_option linter.unusedVariables false
set_option linter.unusedSimpArgs false
namespace Go.Proofs.YtkhdhnpokfibjaaGreat
open Go Go.Li
set_option linter.unusedVariables false
structure FSmall (f:aN):Prop where
 s:CatSmall f.aA
 t:CatSmall f.aB
 o:f.aD.length≤1048576
 a:f.Arrows.length≤1048576
def fHead (f:aN):Bool:=catB f.aA && (catB f.aB && ((((f.aD.length:Int) == f.aA.aD) && (f.Arrows.length == f.aA.aG.length)) && (inS f.aB.aD f.aD && inS f.aB.aG.length f.Arrows)))
def endBad (f:aN) (a:Int):Bool:=(gi f.aB.aG (gi f.Arrows a) != gi f.aD (gi f.aA.aG a)) || (gi f.aB.To (gi f.Arrows a) != gi f.aD (gi f.aA.To a))
def unBad (f:aN) (x:Int):Bool:=gi f.Arrows (gi f.aA.aJ x) != gi f.aB.aJ (gi f.aD x)
def coBad (f:aN) (a b:Int):Bool:=(gi f.aA.To a == gi f.aA.aG b) && (gi f.Arrows (gk f.aA.aF a b) != gk f.aB.aF (gi f.Arrows a) (gi f.Arrows b))
def fEnds (f:aN):Bool:=!((ns f.aA.aG.length).any (endBad f))
def fLaw (f:aN):Bool:=!((ns f.aA.aD.toNat).any (unBad f)) && !((ns f.aA.aG.length).any fun a=>(ns f.aA.aG.length).any (coBad f a))
def funB (f:aN):Bool:=fHead f && (fEnds f && fLaw f)
structure FHead (f:aN):Prop where
 c:Cat f.aA
 d:Cat f.aB
 ol:(f.aD.length:Int)=f.aA.aD
 al:f.Arrows.length=f.aA.aG.length
 oo:∀ y∈f.aD,0≤y∧y < f.aB.aD
 aa:∀ y∈f.Arrows,0≤y∧y < f.aB.aG.length
theorem fHead_of {f:aN} (h:fHead f=true):FHead f:=by
 unfold fHead at h
 simp only [Bool.and_eq_true,beq_iff_eq,inS_iff] at h
 obtain ⟨h1,h2,⟨h3,h4⟩,h5,h6⟩:=h
 exact ⟨cat_of h1,cat_of h2,h3,h4,h5,h6⟩
namespace FHead
variable {f:aN} (H:FHead f)
include H
theorem idxO {x:Int} (h0:0≤x) (h1:x < f.aA.aD):idx f.aD x=some (gi f.aD x):=cU h0 (by rw [H.ol]; exact h1)
theorem idxA {a:Int} (h0:0≤a) (h1:a < f.aA.aG.length):idx f.Arrows a=some (gi f.Arrows a):=cU h0 (by rw [H.al]; exact h1)
theorem ob {x:Int} (h0:0≤x) (h1:x < f.aA.aD):0≤gi f.aD x∧gi f.aD x < f.aB.aD:=H.oo _ (gi_mem h0 (by rw [H.ol]; exact h1))
theorem ar {a:Int} (h0:0≤a) (h1:a < f.aA.aG.length):0≤gi f.Arrows a∧gi f.Arrows a < f.aB.aG.length:=H.aa _ (gi_mem h0 (by rw [H.al]; exact h1))
end FHead
structure FEnds (f:aN):Prop extends FHead f where
 fr:∀ a:Int,0≤a→a < f.aA.aG.length→gi f.aB.aG (gi f.Arrows a)=gi f.aD (gi f.aA.aG a)
 to:∀ a:Int,0≤a→a < f.aA.aG.length→gi f.aB.To (gi f.Arrows a)=gi f.aD (gi f.aA.To a)
theorem fEnds_of {f:aN} (h1:fHead f=true) (h2:fEnds f=true):FEnds f:=by
 unfold fEnds at h2
 rw [Bool.not_eq_true',ns_any_false] at h2
 refine { fHead_of h1 with fr:=fun a a0 a1=>?_,to:=fun a a0 a1=>?_ } <;>
 ·have:=h2 a a0 a1
  unfold endBad at this
  simp only [Bool.or_eq_false_iff,bne_eq_false_iff_eq] at this
  first | exact this.1 | exact this.2
structure Fun (f:aN):Prop extends FEnds f where
 un:∀ x:Int,0≤x→x < f.aA.aD→gi f.Arrows (gi f.aA.aJ x)=gi f.aB.aJ (gi f.aD x)
 co:∀ a b:Int,0≤a→a < f.aA.aG.length→0≤b→b < f.aA.aG.length→gi f.aA.To a=gi f.aA.aG b→gi f.Arrows (gk f.aA.aF a b)=gk f.aB.aF (gi f.Arrows a) (gi f.Arrows b)
theorem fun_of {f:aN} (h:funB f=true):Fun f:=by
 unfold funB fLaw at h
 simp only [Bool.and_eq_true,Bool.not_eq_true'] at h
 obtain ⟨h1,h2,h3,h4⟩:=h
 have E:=fEnds_of h1 h2
 have ho:=E.c.o0
 rw [ns_any_false] at h3 h4
 refine { E with un:=fun x x0 x1=>?_,co:=fun a b a0 a1 b0 b1 e=>?_ }
 ·have:=h3 x x0 (by omega)
  unfold unBad at this
  simpa using this
 ·have:=(ns_any_false.1 (h4 a a0 a1)) b b0 b1
  unfold coBad at this
  simpa [e] using this
theorem of_fun {f:aN} (h1:catB f.aA=true) (h2:catB f.aB=true) (ol:(f.aD.length:Int)=f.aA.aD) (al:f.Arrows.length=f.aA.aG.length) (oo:∀ y∈f.aD,0≤y∧y < f.aB.aD) (aa:∀ y∈f.Arrows,0≤y∧y < f.aB.aG.length)
  (fr:∀ a:Int,0≤a→a < f.aA.aG.length→gi f.aB.aG (gi f.Arrows a)=gi f.aD (gi f.aA.aG a)) (to:∀ a:Int,0≤a→a < f.aA.aG.length→gi f.aB.To (gi f.Arrows a)=gi f.aD (gi f.aA.To a))
  (un:∀ x:Int,0≤x→x < f.aA.aD→gi f.Arrows (gi f.aA.aJ x)=gi f.aB.aJ (gi f.aD x))
  (co:∀ a b:Int,0≤a→a < f.aA.aG.length→0≤b→b < f.aA.aG.length→gi f.aA.To a=gi f.aA.aG b→gi f.Arrows (gk f.aA.aF a b)=gk f.aB.aF (gi f.Arrows a) (gi f.Arrows b)):funB f=true:=by
 have C:=cat_of h1
 have hc:=C.o0
 unfold funB fHead fEnds fLaw
 simp only [Bool.and_eq_true,Bool.not_eq_true',beq_iff_eq,inS_iff,h1,h2,true_and]
 refine ⟨⟨⟨ol,al⟩,oo,aa⟩,?_,?_,?_⟩
 ·rw [ns_any_false]
  intro a a0 a1
  unfold endBad
  rw [fr a a0 a1,to a a0 a1]; simp
 ·rw [ns_any_false]
  intro x x0 x1
  unfold unBad
  rw [un x x0 (by omega)]; simp
 ·rw [ns_any_false]
  intro a a0 a1
  rw [ns_any_false]
  intro b b0 b1
  unfold coBad
  by_cases e:gi f.aA.To a=gi f.aA.aG b
  ·rw [co a b a0 a1 b0 b1 e]; simp
  ·simp [e]
theorem specIsFun {f:aN} (hs:FSmall f):jP f=some (funB f):=by
 have ho:=hs.o
 have ha:=hs.a
 unfold jP funB fHead
 rw [specIs hs.s,aH]
 cases h1:catB f.aA with
 | false=>rfl
 | true=>
  have C:=cat_of h1
  rw [specIs hs.t,aH]
  cases h2:catB f.aB with
  | false=>rfl
  | true=>
   have T:=cat_of h2
   simp only [Bool.not_true,cond_false,Bool.true_and]
   by_cases e1:(f.aD.length:Int)=f.aA.aD
   ·rw [bneF e1,cond_false,beqT e1,Bool.true_and]
    by_cases e2:f.Arrows.length=f.aA.aG.length
    ·rw [bneF (by omega),aH,cond_false,specMap _ _ (by omega),aH,beqT e2,Bool.true_and]
     cases h3:inS f.aB.aD f.aD with
     | false=>rfl
     | true=>
      rw [specMap _ _ (by omega),aH]
      cases h4:inS f.aB.aG.length f.Arrows with
      | false=>rfl
      | true=>
       have H:FHead f:=⟨C,T,e1,e2,inS_iff.1 h3,inS_iff.1 h4⟩
       have cm:=C.m
       have co:=C.o8
       simp only [Bool.not_true,cond_false,aH,Bool.and_self,Bool.true_and]
       rw [forb (n:=f.aA.aG.length) (endBad f) (fun a hlt=>?_) (by unfold pI; rw [decF (by omega),cond_false])]
       ·unfold fEnds
        cases h5:(ns f.aA.aG.length).any (endBad f) with
        | true=>rfl
        | false=>
         rw [cond_false,Bool.not_false,Bool.true_and]
         rw [forb (n:=f.aA.aD.toNat) (unBad f) (fun x hlt=>?_) (by unfold pJ; rw [decF (by omega),cond_false])]
         ·unfold fLaw
          cases h6:(ns f.aA.aD.toNat).any (unBad f) with
          | true=>rfl
          | false=>
           rw [cond_false,Bool.not_false,Bool.true_and]
           have E:FEnds f:=fEnds_of (by unfold fHead; simp [h1,h2,h3,h4,e1,e2]) (by unfold fEnds; rw [h5]; rfl)
           rw [forb (n:=f.aA.aG.length) (fun a=>(ns f.aA.aG.length).any (coBad f a)) (fun a hlt=>?_) (by unfold pL; rw [decF (by omega),cond_false])]
           ·cases (ns f.aA.aG.length).any fun a=>(ns f.aA.aG.length).any (coBad f a) <;> rfl
           ·unfold pL
            rw [decT (by omega),cond_true]
            rw [forb (n:=f.aA.aG.length) (coBad f a) (fun b hb=>?_) (by unfold pK; rw [decF (by omega),cond_false])]
            ·rw [cP (by omega)]
            ·unfold pK
             rw [decT (by omega),cond_true,C.idxT (by omega) (by omega),aH,C.idxF (by omega) (by omega),aH]
             unfold coBad
             by_cases e:gi f.aA.To a=gi f.aA.aG b
             ·have k:=C.cell a b (by omega) (by omega) (by omega) (by omega) e
              have ka:=H.ar (a:=(a:Int)) (by omega) (by omega)
              have kb:=H.ar (a:=(b:Int)) (by omega) (by omega)
              rw [beqT e,cond_true,C.idxK (by omega) (by omega),aH,C.idxC (by omega) (by omega) (by omega) (by omega),aH,H.idxA k.1 k.2.1,aH,H.idxA (by omega) (by omega),aH,T.idxK ka.1 ka.2,aH,H.idxA (by omega) (by omega),aH,T.idxC ka.1 ka.2 kb.1 kb.2,aH,aH,Bool.true_and,cP (by omega)]; rfl
             ·rw [beqF e,cond_false,aH,Bool.false_and,cP (by omega)]; rfl
         ·have kx:=H.ob (x:=(x:Int)) (by omega) (by omega)
          have ki:=C.id (x:=(x:Int)) (by omega) (by omega)
          unfold pJ
          rw [decT (by omega),cond_true,C.idxI (by omega) (by omega),aH,H.idxA ki.1 ki.2,aH,H.idxO (by omega) (by omega),aH,T.idxI kx.1 kx.2,aH,cP (by omega)]
          rfl
       ·have ka:=H.ar (a:=(a:Int)) (by omega) (by omega)
        have kf:=C.fr (f:=(a:Int)) (by omega) (by omega)
        have kt:=C.to (f:=(a:Int)) (by omega) (by omega)
        unfold pI
        rw [decT (by omega),cond_true,H.idxA (by omega) (by omega),aH,T.idxF ka.1 ka.2,aH,C.idxF (by omega) (by omega),aH,H.idxO kf.1 kf.2,aH,aH,T.idxT ka.1 ka.2,aH,C.idxT (by omega) (by omega),aH,H.idxO kt.1 kt.2,aH,cP (by omega),cond_some,cond_or,aH]
        rfl
    ·rw [bneT (by omega),aH,cond_true,beqF e2]; rfl
   ·rw [bneT e1,cond_true,aH,cond_true,beqF e1]; rfl
theorem implFitsF {f:aN} (hs:FSmall f) (C:Cat f.aA) (T:Cat f.aB):kB f=some (((((f.aD.length:Int) == f.aA.aD) && (f.Arrows.length == f.aA.aG.length)) && (inS f.aB.aD f.aD && inS f.aB.aG.length f.Arrows)) && (fEnds f && fLaw f)):=by
 have ho:=hs.o
 have ha:=hs.a
 have cm:=C.m
 have co:=C.o8
 have tm:=T.m
 have to:=T.o8
 have t0:=T.o0
 unfold kB
 by_cases e1:(f.aD.length:Int)=f.aA.aD
 ·rw [bneF e1,cond_false,beqT e1,Bool.true_and]
  rw [show eW f.aA=some (f.aA.aG.length:Int) from rfl,aH]
  by_cases e2:f.Arrows.length=f.aA.aG.length
  ·rw [bneF (by omega),cond_false,within _ _ (by omega) (by omega) (by omega),aH,beqT e2,Bool.true_and]
   cases h3:inS f.aB.aD f.aD with
   | false=>rfl
   | true=>
    rw [Bool.not_true,cond_false,show eW f.aB=some (f.aB.aG.length:Int) from rfl,aH,within _ _ (by omega) (by omega) (by omega),aH]
    cases h4:inS f.aB.aG.length f.Arrows with
    | false=>rfl
    | true=>
     have H:FHead f:=⟨C,T,e1,e2,inS_iff.1 h3,inS_iff.1 h4⟩
     have il:=C.il
     have kl:=C.kl
     simp only [Bool.not_true,cond_false,aH,Bool.and_self,Bool.true_and]
     rw [forb (n:=f.aA.aG.length) (endBad f) (fun a hlt=>?_) (by unfold kQ; rw [decF (by omega),cond_false])]
     ·unfold fEnds
      cases h5:(ns f.aA.aG.length).any (endBad f) with
      | true=>rfl
      | false=>
       rw [cond_false,Bool.not_false,Bool.true_and]
       rw [forb (n:=f.aA.aD.toNat) (unBad f) (fun x hlt=>?_) (by unfold kR; rw [decF (by omega),cond_false])]
       ·unfold fLaw
        cases h6:(ns f.aA.aD.toNat).any (unBad f) with
        | true=>rfl
        | false=>
         rw [cond_false,Bool.not_false,Bool.true_and]
         rw [forb (n:=f.aA.aG.length) (fun a=>(ns f.aA.aG.length).any (coBad f a)) (fun a hlt=>?_) (by unfold kT; rw [decF (by omega),cond_false])]
         ·cases (ns f.aA.aG.length).any fun a=>(ns f.aA.aG.length).any (coBad f a) <;> rfl
         ·unfold kT
          have hr:=C.row (a:Int) (by omega) (by omega)
          rw [decT (by omega),cond_true,C.idxK (by omega) (by omega),aH]
          rw [forb (n:=f.aA.aG.length) (coBad f a) (fun b hb=>?_) (by unfold kS; rw [decF (by omega),cond_false])]
          ·rw [cP (by omega)]
          ·unfold kS
           rw [decT (by omega),cond_true,C.idxC (by omega) (by omega) (by omega) (by omega),aH]
           unfold coBad
           by_cases e:gi f.aA.To a=gi f.aA.aG b
           ·have k:=C.cell a b (by omega) (by omega) (by omega) (by omega) e
            have ka:=H.ar (a:=(a:Int)) (by omega) (by omega)
            have kb:=H.ar (a:=(b:Int)) (by omega) (by omega)
            rw [beqT e,decT (show gk f.aA.aF a b ≥ 0 from k.1),cond_true,H.idxA k.1 k.2.1,aH,H.idxA (by omega) (by omega),aH,H.idxA (by omega) (by omega),aH,T.thenI ka.1 ka.2 kb.1 kb.2,aH,aH,Bool.true_and,cP (by omega)]; rfl
           ·have:=C.none a b (by omega) (by omega) (by omega) (by omega) e
            rw [beqF e,decF (show ¬ gk f.aA.aF a b ≥ 0 by omega),cond_false,aH,Bool.false_and,cP (by omega)]; rfl
       ·have kx:=H.ob (x:=(x:Int)) (by omega) (by omega)
        have ki:=C.id (x:=(x:Int)) (by omega) (by omega)
        unfold kR
        rw [decT (by omega),cond_true,C.idxI (by omega) (by omega),aH,H.idxA ki.1 ki.2,aH,H.idxO (by omega) (by omega),aH,T.idxI kx.1 kx.2,aH,cP (by omega)]
        rfl
     ·have ka:=H.ar (a:=(a:Int)) (by omega) (by omega)
      have kf:=C.fr (f:=(a:Int)) (by omega) (by omega)
      have kt:=C.to (f:=(a:Int)) (by omega) (by omega)
      unfold kQ
      rw [decT (by omega),cond_true,H.idxA (by omega) (by omega),aH,T.idxF ka.1 ka.2,aH,C.idxF (by omega) (by omega),aH,H.idxO kf.1 kf.2,aH,T.idxT ka.1 ka.2,aH,C.idxT (by omega) (by omega),aH,H.idxO kt.1 kt.2,aH,cP (by omega),cond_some,cond_or,aH]
      rfl
  ·rw [bneT (by omega),cond_true,beqF e2]; rfl
 ·rw [bneT e1,cond_true,beqF e1]; rfl
theorem specThenL (a b:List Int) (ha:a.length≤1048576) (hb:∀ x∈a,0≤x∧x < b.length):iF a b=some (thenS a b):=by
 unfold iF
 refine (congrArg retM (map_loop a.length (fun i=>gi b (gi a i)) (fun acc i=>(acc,(i:Int))) rfl ?_ ?_)).trans rfl
 ·intro i acc hi hacc
  have hm:=hb _ (gi_mem (l:=a) (j:=(i:Int)) (by omega) (by omega))
  show jR a b acc i=_
  unfold jR
  rw [decT (by omega),cond_true,cU (by omega) (by omega),aH,cU hm.1 hm.2,aH,fA (by omega) (by omega),aH,cP (by omega)]
 ·intro acc _
  show jR a b acc _=_
  unfold jR
  rw [decF (by omega),cond_false]
theorem implAreCats (l:List aI) (hl:l.length≤1048576) (hs:∀ c∈l,CatSmall c):jS l=some (l.all catB):=by
 unfold jS
 refine (congrArg retM (for_anyb l (fun c=>!catB c) (fun i=>(i:Int)) rfl ?_ ?_ (e:=(l.length:Int)) (y:=false) ?_)).trans ?_
 ·intro i x hx hp
  have hi:=getElem?_lt hx
  unfold iL
  rw [decT (by omega),cond_true,idx_nat,hx,aH,implIs (hs x (List.mem_of_getElem? hx)),aH,show (!catB x)=false from hp,cond_false,cP (by omega)]
 ·intro i x hx hp
  have hi:=getElem?_lt hx
  unfold iL
  rw [decT (by omega),cond_true,idx_nat,hx,aH,implIs (hs x (List.mem_of_getElem? hx)),aH,show (!catB x)=true from hp,cond_true]
 ·unfold iL
  rw [decF (by omega),cond_false]
 ·rw [any_not]
  cases l.all catB <;> rfl
theorem implIsFun {f:aN} (hs:FSmall f):fD f=some (funB f):=by
 unfold fD funB fHead
 rw [implAreCats _ (by simp) (by intro c hc; simp at hc; rcases hc with rfl | rfl; exact hs.s; exact hs.t),aH]
 simp only [List.all_cons,List.all_nil,Bool.and_true]
 cases h1:catB f.aA with
 | false=>rfl
 | true=>
  cases h2:catB f.aB with
  | false=>rfl
  | true=>
   rw [Bool.true_and,cond_true,implFitsF hs (cat_of h1) (cat_of h2)]
   rfl
theorem implAreFuns (l:List aN) (hl:l.length≤1048576) (hs:∀ c∈l,FSmall c):kU l=some (l.all funB):=by
 unfold kU
 refine (congrArg retM (for_anyb l (fun c=>!funB c) (fun i=>(i:Int)) rfl ?_ ?_ (e:=(l.length:Int)) (y:=false) ?_)).trans ?_
 ·intro i x hx hp
  have hi:=getElem?_lt hx
  unfold jN
  rw [decT (by omega),cond_true,idx_nat,hx,aH,implIsFun (hs x (List.mem_of_getElem? hx)),aH,show (!funB x)=false from hp,cond_false,cP (by omega)]
 ·intro i x hx hp
  have hi:=getElem?_lt hx
  unfold jN
  rw [decT (by omega),cond_true,idx_nat,hx,aH,implIsFun (hs x (List.mem_of_getElem? hx)),aH,show (!funB x)=true from hp,cond_true]
 ·unfold jN
  rw [decF (by omega),cond_false]
 ·rw [any_not]
  cases l.all funB <;> rfl
theorem implCl (l:List Int) (hl:l.length≤1048576):gP l=some l:=by
 unfold gP
 rw [fA (by simp; omega) (by simp; omega),aH]; rfl
theorem implFunctor {c d:aI} {o a:List Int} (hc:CatSmall c) (hd:CatSmall d) (ho:o.length≤1048576) (ha:a.length≤1048576):lX c d o a=some (aN.mk c d o a):=by
 unfold lX
 rw [implCopy hc,aH,implCopy hd,aH,implCl o ho,aH,implCl a ha,aH]; rfl
theorem specMake {c d:aI} {o a:List Int} (hc:CatSmall c) (hd:CatSmall d) (ho:o.length≤1048576) (ha:a.length≤1048576):iE c d o a=some (aN.mk c d o a):=by
 unfold iE
 rw [specOwnC hc,aH,specOwnC hd,aH,specOwn0 o ho,aH,specOwn0 a ha,aH]; rfl
theorem implCopyF {f:aN} (h:FSmall f):iP f=some f:=by
 unfold iP
 rw [implFunctor h.s h.t h.o h.a,aH]; rfl
theorem specOwnF {f:aN} (h:FSmall f):mU f=some f:=by
 unfold mU
 rw [specMake h.s h.t h.o h.a,aH]; rfl
def thenF (f g:aN):aN:=aN.mk f.aA g.aB (thenS f.aD g.aD) (thenS f.Arrows g.Arrows)
theorem thenS_len (a b:List Int):(thenS a b).length=a.length:=by unfold thenS; rw [dP]
theorem thenF_small {f g:aN} (hf:FSmall f) (hg:FSmall g):FSmall (thenF f g):=⟨hf.s,hg.t,by show (thenS _ _).length≤_; rw [thenS_len]; exact hf.o,by show (thenS _ _).length≤_; rw [thenS_len]; exact hf.a⟩
section
variable {f g:aN} (F:FHead f) (G:FHead g) (e:f.aB=g.aA)
include F G e
theorem then_fits:(∀ x∈f.aD,0≤x∧x < g.aD.length)∧∀ x∈f.Arrows,0≤x∧x < g.Arrows.length:=by
 have h1:=G.ol
 have h2:=G.al
 rw [← e] at h1 h2
 exact ⟨fun x hx=>⟨(F.oo x hx).1,by have:=(F.oo x hx).2; omega⟩,fun x hx=>⟨(F.aa x hx).1,by have:=(F.aa x hx).2; omega⟩⟩
theorem implThenF (hf:FSmall f) (hg:FSmall g):fF f g=some (thenF f g):=by
 obtain ⟨h1,h2⟩:=then_fits F G e
 unfold fF
 rw [implThen _ _ hf.o h1,aH,implThen _ _ hf.a h2,aH,implFunctor hf.s hg.t (by rw [thenS_len]; exact hf.o) (by rw [thenS_len]; exact hf.a),aH]; rfl
theorem specThenF (hf:FSmall f) (hg:FSmall g):jL f g=some (thenF f g):=by
 obtain ⟨h1,h2⟩:=then_fits F G e
 unfold jL
 rw [specThenL _ _ hf.o h1,aH,specThenL _ _ hf.a h2,aH,specMake hf.s hg.t (by rw [thenS_len]; exact hf.o) (by rw [thenS_len]; exact hf.a),aH]; rfl
end
theorem then_fun {f g:aN} (hf:funB f=true) (hg:funB g=true) (e:f.aB=g.aA):funB (thenF f g)=true:=by
 have F:=fun_of hf
 have G:=fun_of hg
 have h1:catB f.aA=true:=by unfold funB fHead at hf; simp only [Bool.and_eq_true] at hf; exact hf.1.1
 have h2:catB g.aB=true:=by unfold funB fHead at hg; simp only [Bool.and_eq_true] at hg; exact hg.1.2.1
 have go:∀ x:Int,0≤x→x < f.aA.aD→gi (thenS f.aD g.aD) x=gi g.aD (gi f.aD x):=fun x x0 x1=>thenS_at x0 (by rw [F.ol]; exact x1)
 have ga:∀ a:Int,0≤a→a < f.aA.aG.length→gi (thenS f.Arrows g.Arrows) a=gi g.Arrows (gi f.Arrows a):=fun a a0 a1=>thenS_at a0 (by rw [F.al]; exact a1)
 have ob:∀ x:Int,0≤x→x < f.aA.aD→0≤gi f.aD x∧gi f.aD x < g.aA.aD:=fun x x0 x1=>by rw [← e]; exact F.ob x0 x1
 have ar:∀ a:Int,0≤a→a < f.aA.aG.length→0≤gi f.Arrows a∧gi f.Arrows a < g.aA.aG.length:=fun a a0 a1=>by rw [← e]; exact F.ar a0 a1
 obtain ⟨t1,t2⟩:=then_fits F.toFHead G.toFHead e
 refine of_fun (f:=thenF f g) h1 h2 ?_ ?_ ?_ ?_ ?_ ?_ ?_ ?_
 ·show ((thenS _ _).length:Int)=_; rw [thenS_len]; exact F.ol
 ·show (thenS _ _).length=_; rw [thenS_len]; exact F.al
 ·exact fun y hy=>thenS_mem t1 G.oo hy
 ·exact fun y hy=>thenS_mem t2 G.aa hy
 ·intro a a0 a1
  have kf:=F.c.fr a0 a1
  show gi g.aB.aG (gi (thenS f.Arrows g.Arrows) a)=gi (thenS f.aD g.aD) (gi f.aA.aG a)
  rw [ga a a0 a1,go _ kf.1 kf.2,G.fr _ (ar a a0 a1).1 (ar a a0 a1).2,← e,F.fr a a0 a1]
 ·intro a a0 a1
  have kf:=F.c.to a0 a1
  show gi g.aB.To (gi (thenS f.Arrows g.Arrows) a)=gi (thenS f.aD g.aD) (gi f.aA.To a)
  rw [ga a a0 a1,go _ kf.1 kf.2,G.to _ (ar a a0 a1).1 (ar a a0 a1).2,← e,F.to a a0 a1]
 ·intro x x0 x1
  have ki:=F.c.id x0 x1
  show gi (thenS f.Arrows g.Arrows) (gi f.aA.aJ x)=gi g.aB.aJ (gi (thenS f.aD g.aD) x)
  rw [ga _ ki.1 ki.2,go x x0 x1,F.un x x0 x1,← G.un _ (ob x x0 x1).1 (ob x x0 x1).2,e]
 ·intro a b a0 a1 b0 b1 h
  have k:=F.c.cell a b a0 a1 b0 b1 h
  show gi (thenS f.Arrows g.Arrows) (gk f.aA.aF a b)=gk g.aB.aF (gi (thenS f.Arrows g.Arrows) a) (gi (thenS f.Arrows g.Arrows) b)
  rw [ga _ k.1 k.2.1,ga a a0 a1,ga b b0 b1,F.co a b a0 a1 b0 b1 h,← G.co _ _ (ar a a0 a1).1 (ar a a0 a1).2 (ar b b0 b1).1 (ar b b0 b1).2 (by rw [← e,F.to a a0 a1,F.fr b b0 b1]; exact congrArg (gi f.aD) h),e]
def sameF (f g:aN):Bool:=sameB f.aA g.aA && (sameB f.aB g.aB && ((f.aD == g.aD) && (f.Arrows == g.Arrows)))
theorem sameF_eq {f g:aN}:sameF f g=true↔f=g:=by
 unfold sameF
 simp only [Bool.and_eq_true,sameB_eq,beq_iff_eq]
 constructor
 ·rintro ⟨h1,h2,h3,h4⟩
  obtain ⟨_,_,_,_⟩:=f
  obtain ⟨_,_,_,_⟩:=g
  cases h1; cases h2; cases h3; cases h4; rfl
 ·rintro rfl; exact ⟨rfl,rfl,rfl,rfl⟩
theorem implSameF' {f g:aN} (h:FSmall f):kW f g=some (sameF f g):=by
 have ho:=h.o
 have ha:=h.a
 unfold kW sameF
 rw [implSameCat h.s,aH,implSameCat h.t,aH,implSame _ _ (by omega),aH,implSame _ _ (by omega),aH,cond_some,cond_and,cond_some,cond_and,cond_some,cond_and]; rfl
theorem implParallel {f g:aN} (h:FSmall f):iM f g=some (sameB f.aA g.aA && sameB f.aB g.aB):=by
 unfold iM
 rw [implSameCat h.s,aH,implSameCat h.t,aH,cond_some,cond_and]; rfl
theorem specParallel {f g:aN} (h:FSmall f):jI f g=some (sameB f.aA g.aA && sameB f.aB g.aB):=by
 unfold jI
 rw [specSameCat h.s,aH,specSameCat h.t]
 cases sameB f.aA g.aA <;> rfl
end Go.Proofs.YtkhdhnpokfibjaaGreat
namespace Go.Proofs.YtkhdhnpokfibjaaGreat
open Go Go.Li
set_option linter.unusedVariables false
structure TSmall (m:aM):Prop where
 s:FSmall m.aA
 t:FSmall m.aB
 p:m.Components.length≤1048576
def tHead (t:aM):Bool:=funB t.aA && (funB t.aB && ((sameB t.aA.aA t.aB.aA && sameB t.aA.aB t.aB.aB) && (((t.Components.length:Int) == t.aA.aA.aD) && inS t.aA.aB.aG.length t.Components)))
def tBad (t:aM) (x:Int):Bool:=(gi t.aA.aB.aG (gi t.Components x) != gi t.aA.aD x) || (gi t.aA.aB.To (gi t.Components x) != gi t.aB.aD x)
def sqB (f g:aN) (p:List Int) (a:Int):Bool:=gk f.aB.aF (gi f.Arrows a) (gi p (gi f.aA.To a)) == gk f.aB.aF (gi p (gi f.aA.aG a)) (gi g.Arrows a)
def tNat (t:aM):Bool:=!((ns t.aA.aA.aG.length).any fun a=>!(sqB t.aA t.aB t.Components a))
def tEnds (t:aM):Bool:=!((ns t.Components.length).any (tBad t))
def natB (t:aM):Bool:=(tHead t && tEnds t) && tNat t
structure THead (t:aM):Prop where
 f:Fun t.aA
 g:Fun t.aB
 fb:funB t.aA=true
 gb:funB t.aB=true
 es:t.aB.aA=t.aA.aA
 et:t.aB.aB=t.aA.aB
 pl:(t.Components.length:Int)=t.aA.aA.aD
 pp:∀ y∈t.Components,0≤y∧y < t.aA.aB.aG.length
theorem tHead_of {t:aM} (h:tHead t=true):THead t:=by
 unfold tHead at h
 simp only [Bool.and_eq_true,beq_iff_eq,inS_iff,sameB_eq] at h
 obtain ⟨h1,h2,⟨h3,h4⟩,h5,h6⟩:=h
 exact ⟨fun_of h1,fun_of h2,h1,h2,h3.symm,h4.symm,h5,h6⟩
namespace THead
variable {t:aM} (H:THead t)
include H
theorem idxP {x:Int} (h0:0≤x) (h1:x < t.aA.aA.aD):idx t.Components x=some (gi t.Components x):=cU h0 (by rw [H.pl]; exact h1)
theorem cp {x:Int} (h0:0≤x) (h1:x < t.aA.aA.aD):0≤gi t.Components x∧gi t.Components x < t.aA.aB.aG.length:=H.pp _ (gi_mem h0 (by rw [H.pl]; exact h1))
theorem ob2 {x:Int} (h0:0≤x) (h1:x < t.aA.aA.aD):0≤gi t.aB.aD x∧gi t.aB.aD x < t.aA.aB.aD:=by have:=H.g.ob (x:=x) h0 (by rw [H.es]; exact h1); rwa [H.et] at this
theorem ar2 {a:Int} (h0:0≤a) (h1:a < t.aA.aA.aG.length):0≤gi t.aB.Arrows a∧gi t.aB.Arrows a < t.aA.aB.aG.length:=by have:=H.g.ar (a:=a) h0 (by rw [H.es]; exact h1); rwa [H.et] at this
theorem idxA2 {a:Int} (h0:0≤a) (h1:a < t.aA.aA.aG.length):idx t.aB.Arrows a=some (gi t.aB.Arrows a):=H.g.idxA h0 (by rw [H.es]; exact h1)
end THead
structure TEnds (t:aM):Prop extends THead t where
 pf:∀ x:Int,0≤x→x < t.aA.aA.aD→gi t.aA.aB.aG (gi t.Components x)=gi t.aA.aD x
 pt:∀ x:Int,0≤x→x < t.aA.aA.aD→gi t.aA.aB.To (gi t.Components x)=gi t.aB.aD x
theorem tEnds_of {t:aM} (h1:tHead t=true) (h2:tEnds t=true):TEnds t:=by
 have H:=tHead_of h1
 have hl:=H.pl
 unfold tEnds at h2
 rw [Bool.not_eq_true',ns_any_false] at h2
 refine { H with pf:=fun a a0 a1=>?_,pt:=fun a a0 a1=>?_ } <;>
 ·have:=h2 a a0 (by omega)
  unfold tBad at this
  simp only [Bool.or_eq_false_iff,bne_eq_false_iff_eq] at this
  first | exact this.1 | exact this.2
structure Nat7 (t:aM):Prop extends TEnds t where
 sq:∀ a:Int,0≤a→a < t.aA.aA.aG.length→gk t.aA.aB.aF (gi t.aA.Arrows a) (gi t.Components (gi t.aA.aA.To a))=gk t.aA.aB.aF (gi t.Components (gi t.aA.aA.aG a)) (gi t.aB.Arrows a)
theorem nat_of {t:aM} (h:natB t=true):Nat7 t:=by
 unfold natB at h
 simp only [Bool.and_eq_true] at h
 obtain ⟨⟨h1,h2⟩,h3⟩:=h
 unfold tNat at h3
 rw [Bool.not_eq_true',ns_any_false] at h3
 refine { tEnds_of h1 h2 with sq:=fun a a0 a1=>?_ }
 have:=h3 a a0 a1
 unfold sqB at this
 simpa using this
theorem of_nat {t:aM} (fb:funB t.aA=true) (gb:funB t.aB=true) (es:t.aB.aA=t.aA.aA) (et:t.aB.aB=t.aA.aB) (pl:(t.Components.length:Int)=t.aA.aA.aD) (pp:∀ y∈t.Components,0≤y∧y < t.aA.aB.aG.length)
  (pf:∀ x:Int,0≤x→x < t.aA.aA.aD→gi t.aA.aB.aG (gi t.Components x)=gi t.aA.aD x) (pt:∀ x:Int,0≤x→x < t.aA.aA.aD→gi t.aA.aB.To (gi t.Components x)=gi t.aB.aD x)
  (sq:∀ a:Int,0≤a→a < t.aA.aA.aG.length→gk t.aA.aB.aF (gi t.aA.Arrows a) (gi t.Components (gi t.aA.aA.To a))=gk t.aA.aB.aF (gi t.Components (gi t.aA.aA.aG a)) (gi t.aB.Arrows a)):natB t=true:=by
 unfold natB tHead tEnds tNat
 simp only [Bool.and_eq_true,Bool.not_eq_true',beq_iff_eq,inS_iff,sameB_eq,fb,gb,true_and]
 refine ⟨⟨⟨⟨es.symm,et.symm⟩,pl,pp⟩,?_⟩,?_⟩
 ·rw [ns_any_false]
  intro x x0 x1
  unfold tBad
  rw [pf x x0 (by omega),pt x x0 (by omega)]; simp
 ·rw [ns_any_false]
  intro a a0 a1
  unfold sqB
  rw [sq a a0 a1]; simp
theorem specEnds {t:aM} (hs:TSmall t) (F:Fun t.aA) (G:Fun t.aB) (es:t.aB.aA=t.aA.aA) (et:t.aB.aB=t.aA.aB) :
  oQ t.aA t.aB t.Components=some ((((t.Components.length:Int) == t.aA.aA.aD) && inS t.aA.aB.aG.length t.Components) && tEnds t):=by
 have hp:=hs.p
 unfold oQ
 by_cases e1:(t.Components.length:Int)=t.aA.aA.aD
 ·rw [bneF e1,cond_false,specMap _ _ (by omega),aH,aH,beqT e1,Bool.true_and]
  cases h:inS t.aA.aB.aG.length t.Components with
  | false=>rfl
  | true=>
   rw [Bool.not_true,cond_false,Bool.true_and]
   have hin:=inS_iff.1 h
   rw [forb (n:=t.Components.length) (tBad t) (fun x hlt=>?_) (by unfold oP; rw [decF (by omega),cond_false])]
   ·unfold tEnds
    cases (ns t.Components.length).any (tBad t) <;> rfl
   ·have kc:=hin _ (gi_mem (l:=t.Components) (j:=(x:Int)) (by omega) (by omega))
    unfold oP
    rw [decT (by omega),cond_true,cU (by omega) (by omega),aH,F.d.idxF kc.1 kc.2,aH,F.idxO (by omega) (by omega),aH,aH,F.d.idxT kc.1 kc.2,aH,G.idxO (by omega) (by rw [es]; omega),aH,cP (by omega),cond_some,cond_or,aH]
    rfl
 ·rw [bneT e1,cond_true,aH,cond_true,beqF e1]; rfl
theorem specSquare {t:aM} (H:THead t) {a:Int} (a0:0≤a) (a1:a < t.aA.aA.aG.length):fX t.aA t.aB t.Components a=some (sqB t.aA t.aB t.Components a):=by
 have F:=H.f
 have kf:=F.c.fr a0 a1
 have kt:=F.c.to a0 a1
 have ka:=F.ar a0 a1
 have k1:=H.cp kt.1 kt.2
 have k2:=H.cp kf.1 kf.2
 have k3:=H.ar2 a0 a1
 unfold fX sqB
 rw [F.idxA a0 a1,aH,F.d.idxK ka.1 ka.2,aH,F.c.idxT a0 a1,aH,H.idxP kt.1 kt.2,aH,F.d.idxC ka.1 ka.2 k1.1 k1.2,aH,F.c.idxF a0 a1,aH,H.idxP kf.1 kf.2,aH,F.d.idxK k2.1 k2.2,aH,H.idxA2 a0 a1,aH,F.d.idxC k2.1 k2.2 k3.1 k3.2,aH]
 rfl
theorem implCommutes {t:aM} (H:THead t) {a:Int} (a0:0≤a) (a1:a < t.aA.aA.aG.length):iO t.aA t.aB t.Components a=some (sqB t.aA t.aB t.Components a):=by
 have F:=H.f
 have kf:=F.c.fr a0 a1
 have kt:=F.c.to a0 a1
 have ka:=F.ar a0 a1
 have k1:=H.cp kt.1 kt.2
 have k2:=H.cp kf.1 kf.2
 have k3:=H.ar2 a0 a1
 unfold iO sqB
 rw [F.idxA a0 a1,aH,F.c.idxT a0 a1,aH,H.idxP kt.1 kt.2,aH,F.d.thenI ka.1 ka.2 k1.1 k1.2,aH,F.c.idxF a0 a1,aH,H.idxP kf.1 kf.2,aH,H.idxA2 a0 a1,aH,F.d.thenI k2.1 k2.2 k3.1 k3.2,aH]
 rfl
theorem first7 {n k:Nat} {A0:Int→Option (Out Int Int)} {p:Int→Bool} (a0:∀ a:Nat,a < n→A0 a=bif !(p a) then some (.ret (a:Int)) else some (.norm ((a+1:Nat):Int))) (a3:A0 n=some (.exit k (n:Int))) :
  ∃ y,retM (S:=Unit) (lbind (blockM k (loopM A0 (0:Int))) fun _=>some (.ret (-1:Int)))=some y∧decide (y < 0) = !((ns n).any fun a=>!(p a)):=by
 have hx:∀ i:Nat,i < n→((!(p i))=false∧A0 i=some (.norm ((i+1:Nat):Int)))∨((!(p i))=true∧∃ y,A0 i=some (.ret y)∧0≤y):=by
  intro i hi
  rw [a0 i hi]
  cases p i with
  | true=>exact .inl ⟨rfl,rfl⟩
  | false=>exact .inr ⟨rfl,_,rfl,by omega⟩
 rcases forg (S:=Unit) (f:=fun _=>some (.ret (-1:Int))) (n:=n) (fun a=>!(p a)) (fun y:Int=>0≤y) hx a3 with ⟨h1,h2⟩ | ⟨h1,y,h2,h3⟩
 ·rw [h1,h2]; exact ⟨_,rfl,decT (by decide)⟩
 ·rw [h1,h2]; exact ⟨y,rfl,decF (by omega)⟩
theorem specFault7 {t:aM} (H:THead t):∃ y,nB t.aA t.aB t.Components=some y∧decide (y < 0)=tNat t:=by
 have cm:=H.f.c.m
 have al:=H.f.al
 unfold nB tNat
 refine first7 (n:=t.aA.aA.aG.length) (fun a ha=>?_) (by unfold nM; rw [decF (by omega),cond_false])
 unfold nM
 rw [decT (by omega),cond_true,specSquare H (by omega) (by omega),aH,cP (by omega)]
theorem implFault7 {t:aM} (H:THead t):∃ y,kC t (fun a0 a1 a2 a3=>iO a0 a1 a2 a3)=some y∧decide (y < 0)=tNat t:=by
 have cm:=H.f.c.m
 have al:=H.f.al
 unfold kC tNat
 refine first7 (n:=t.aA.aA.aG.length) (fun a ha=>?_) (by unfold kV; rw [decF (by omega),cond_false])
 unfold kV
 show (bif decide ((a:Int) < (t.aA.Arrows.length:Int)) then (iO t.aA t.aB t.Components a>>=_) else _)=_
 rw [decT (by omega),cond_true,implCommutes H (by omega) (by omega),aH,cP (by omega)]
theorem specIs7 {t:aM} (hs:TSmall t):mE t=some (natB t):=by
 unfold mE
 have key:nA t=some (tHead t && tEnds t):=by
  unfold nA tHead
  rw [specIsFun hs.s,aH]
  cases h1:funB t.aA with
  | false=>rfl
  | true=>
   rw [cond_true,specIsFun hs.t,aH]
   cases h2:funB t.aB with
   | false=>rfl
   | true=>
    rw [cond_true,specParallel hs.s,aH]
    cases h3:sameB t.aA.aA t.aB.aA && sameB t.aA.aB t.aB.aB with
    | false=>rfl
    | true=>
     have h4:=h3
     simp only [Bool.and_eq_true,sameB_eq] at h4
     rw [cond_true,specEnds hs (fun_of h1) (fun_of h2) h4.1.symm h4.2.symm]
     simp only [Bool.true_and,aH,Bool.and_assoc]
     rfl
 rw [key,aH]
 unfold natB
 cases h1:tHead t with
 | false=>rfl
 | true=>
  cases h2:tEnds t with
  | false=>rfl
  | true=>
   obtain ⟨y,e1,e2⟩:=specFault7 (tHead_of h1)
   simp only [Bool.and_self,cond_true]
   rw [e1,aH,e2]; rfl
theorem implIs7 {t:aM} (hs:TSmall t):eZ t=some (natB t):=by
 have hp:=hs.p
 unfold eZ
 have key:gA t=some (tHead t && tEnds t):=by
  unfold gA tHead
  rw [implAreFuns _ (by simp) (by intro c hc; simp at hc; rcases hc with rfl | rfl; exact hs.s; exact hs.t),aH]
  simp only [List.all_cons,List.all_nil,Bool.and_true]
  cases h1:funB t.aA with
  | false=>rfl
  | true=>
   have F:=fun_of h1
   cases h2:funB t.aB with
   | false=>rfl
   | true=>
    have G:=fun_of h2
    have dm:=F.d.m
    simp only [Bool.true_and,Bool.not_true,cond_false]
    rw [implParallel hs.s,aH]
    cases h3:sameB t.aA.aA t.aB.aA && sameB t.aA.aB t.aB.aB with
    | false=>rfl
    | true=>
     have h4:=h3
     simp only [Bool.and_eq_true,sameB_eq] at h4
     rw [Bool.not_true,cond_false]
     by_cases e1:(t.Components.length:Int)=t.aA.aA.aD
     ·rw [bneF e1,cond_false,show eW t.aA.aB=some (t.aA.aB.aG.length:Int) from rfl,aH,within _ _ (by omega) (by omega) (by omega),aH,aH,beqT e1,Bool.true_and,Bool.true_and]
      cases h:inS t.aA.aB.aG.length t.Components with
      | false=>rfl
      | true=>
       rw [Bool.not_true,cond_false,Bool.true_and]
       have hin:=inS_iff.1 h
       rw [forb (n:=t.Components.length) (tBad t) (fun x hlt=>?_) (by unfold gO; rw [decF (by omega),cond_false])]
       ·unfold tEnds
        cases (ns t.Components.length).any (tBad t) <;> rfl
       ·have kc:=hin _ (gi_mem (l:=t.Components) (j:=(x:Int)) (by omega) (by omega))
        unfold gO
        rw [decT (by omega),cond_true,cU (by omega) (by omega),aH,show fI t.aA.aB (gi t.Components x)=some (rF.mk (gi t.aA.aB.aG (gi t.Components x)) (gi t.aA.aB.To (gi t.Components x))) by unfold fI; rw [F.d.idxF kc.1 kc.2,aH,F.d.idxT kc.1 kc.2,aH]; rfl,aH,F.idxO (by omega) (by omega),aH,G.idxO (by omega) (by rw [← h4.1]; omega),aH,cP (by omega)]
        unfold tBad
        rw [Bool.not_and]
        rfl
     ·rw [bneT e1,cond_true,aH,cond_true,beqF e1]; rfl
 rw [key,aH]
 unfold natB
 cases h1:tHead t with
 | false=>rfl
 | true=>
  cases h2:tEnds t with
  | false=>rfl
  | true=>
   obtain ⟨y,e1,e2⟩:=implFault7 (tHead_of h1)
   simp only [Bool.and_self,cond_true]
   rw [e1,aH,e2]; rfl
theorem implAreNat (l:List aM) (hl:l.length≤1048576) (hs:∀ c∈l,TSmall c):jV l=some (l.all natB):=by
 unfold jV
 refine (congrArg retM (for_anyb l (fun c=>!natB c) (fun i=>(i:Int)) rfl ?_ ?_ (e:=(l.length:Int)) (y:=false) ?_)).trans ?_
 ·intro i x hx hp
  have hi:=getElem?_lt hx
  unfold jU
  rw [decT (by omega),cond_true,idx_nat,hx,aH,implIs7 (hs x (List.mem_of_getElem? hx)),aH,show (!natB x)=false from hp,cond_false,cP (by omega)]
 ·intro i x hx hp
  have hi:=getElem?_lt hx
  unfold jU
  rw [decT (by omega),cond_true,idx_nat,hx,aH,implIs7 (hs x (List.mem_of_getElem? hx)),aH,show (!natB x)=true from hp,cond_true]
 ·unfold jU
  rw [decF (by omega),cond_false]
 ·rw [any_not]
  cases l.all natB <;> rfl
theorem specMake7 {f g:aN} {p:List Int} (hf:FSmall f) (hg:FSmall g) (hp:p.length≤1048576):fT f g p=some (aM.mk f g p):=by
 unfold fT
 rw [specOwnF hf,aH,specOwnF hg,aH,specOwn0 p hp,aH]; rfl
theorem implMake7 {f g:aN} {p:List Int} (hf:FSmall f) (hg:FSmall g) (hp:p.length≤1048576):fE f g p=some (aM.mk f g p):=by
 unfold fE
 rw [implCopyF hf,aH,implCopyF hg,aH,implCl p hp,aH]; rfl
def cmpS (d:aI) (a b:List Int):List Int:=mapI a.length fun i=>gk d.aF (gi a i) (gi b i)
theorem cmpS_len (d:aI) (a b:List Int):(cmpS d a b).length=a.length:=by unfold cmpS; rw [dP]
theorem cmpS_at {d:aI} {a b:List Int} {x:Int} (h0:0≤x) (h1:x < a.length):gi (cmpS d a b) x=gk d.aF (gi a x) (gi b x):=gi_mapI h0 h1
theorem implComposed {d:aI} (C:Cat d) {a b:List Int} (hl:b.length=a.length) (ha:a.length≤1048576) (h1:∀ y∈a,0≤y∧y < d.aG.length) (h2:∀ y∈b,0≤y∧y < d.aG.length):gE d a b=some (cmpS d a b):=by
 unfold gE
 rw [mk_ok (by omega) (by omega),aH]
 have hl2:(cmpS d a b).length=a.length:=cmpS_len _ _ _
 refine (congrArg retM (for_all (ns a.length) (fun i=>((i:Int),(cmpS d a b).take i++List.replicate (a.length - i) (0:Int))) (by simp) ?_ (e:=((a.length:Int),cmpS d a b)) ?_)).trans rfl
 ·intro i x hx
  obtain ⟨rfl,hi⟩:=ns_get hx
  have hg:(cmpS d a b)[i]? = some (gk d.aF (gi a i) (gi b i)):=mapI_get _ hi
  have k1:=h1 _ (gi_mem (l:=a) (j:=(i:Int)) (by omega) (by omega))
  have k2:=h2 _ (gi_mem (l:=b) (j:=(i:Int)) (by omega) (by omega))
  have hc:=set_copy (cmpS d a b) (0:Int) hg
  have hgc:=get_copy (cmpS d a b) (0:Int) hg
  rw [hl2] at hc hgc
  show fL d a b (i:Int) _=_
  unfold fL
  rw [decT (by omega),cond_true,cU (by omega) (by omega),aH,cU (by omega) (by omega),aH,C.thenI k1.1 k1.2 k2.1 k2.2,aH,idx_nat,hgc,aH,cP (by omega),Int.toNat_natCast,hc]
 ·rw [fB]
  show fL d a b _ _=_
  unfold fL
  rw [decF (by omega),cond_false,Nat.sub_self,List.take_of_length_le (by omega)]
  simp
theorem specComposed {d:aI} (C:Cat d) {a b:List Int} (hl:b.length=a.length) (ha:a.length≤1048576) (h1:∀ y∈a,0≤y∧y < d.aG.length) (h2:∀ y∈b,0≤y∧y < d.aG.length):oR d a b=some (cmpS d a b):=by
 unfold oR
 refine (congrArg retM (map_loop a.length (fun i=>gk d.aF (gi a i) (gi b i)) (fun acc i=>(acc,(i:Int))) rfl ?_ ?_)).trans rfl
 ·intro i acc hi hacc
  have k1:=h1 _ (gi_mem (l:=a) (j:=(i:Int)) (by omega) (by omega))
  have k2:=h2 _ (gi_mem (l:=b) (j:=(i:Int)) (by omega) (by omega))
  show jW d a b acc i=_
  unfold jW
  rw [decT (by omega),cond_true,cU (by omega) (by omega),aH,C.idxK k1.1 k1.2,aH,cU (by omega) (by omega),aH,C.idxC k1.1 k1.2 k2.1 k2.2,aH,fA (by omega) (by omega),aH,cP (by omega)]
 ·intro acc _
  show jW d a b acc _=_
  unfold jW
  rw [decF (by omega),cond_false]
end Go.Proofs.YtkhdhnpokfibjaaGreat
namespace Go.Proofs.YtkhdhnpokfibjaaGreat
open Go Go.Li
set_option linter.unusedVariables false
def behT (t:aM) (g:aN):aM:=aM.mk (thenF t.aA g) (thenF t.aB g) (thenS t.Components g.Arrows)
def befT (f:aN) (t:aM):aM:=aM.mk (thenF f t.aA) (thenF f t.aB) (thenS f.aD t.Components)
def thnT (s t:aM):aM:=aM.mk s.aA t.aB (cmpS s.aA.aB s.Components t.Components)
def horT (s t:aM):aM:=aM.mk (thenF s.aA t.aA) (thenF s.aB t.aB) (cmpS t.aA.aB (thenS s.Components t.aA.Arrows) (thenS s.aB.aD t.Components))
def idT (f:aN):aM:=aM.mk f f (thenS f.aD f.aB.aJ)
theorem behT_small {t:aM} {g:aN} (ht:TSmall t) (hg:FSmall g):TSmall (behT t g):=⟨thenF_small ht.s hg,thenF_small ht.t hg,by show (thenS _ _).length≤_; rw [thenS_len]; exact ht.p⟩
theorem befT_small {t:aM} {f:aN} (hf:FSmall f) (ht:TSmall t):TSmall (befT f t):=⟨thenF_small hf ht.s,thenF_small hf ht.t,by show (thenS _ _).length≤_; rw [thenS_len]; exact hf.o⟩
theorem horT_small {s t:aM} (hs:TSmall s) (ht:TSmall t):TSmall (horT s t):=⟨thenF_small hs.s ht.s,thenF_small hs.t ht.t,by show (cmpS _ _ _).length≤_; rw [cmpS_len,thenS_len]; exact hs.p⟩
theorem idT_small {f:aN} (hf:FSmall f):TSmall (idT f):=⟨hf,hf,by show (thenS _ _).length≤_; rw [thenS_len]; exact hf.o⟩
section
variable {t:aM} {g:aN} (ht:natB t=true) (hg:funB g=true) (e:t.aA.aB=g.aA)
include ht hg e
theorem beh_fit:∀ x∈t.Components,0≤x∧x < g.Arrows.length:=by
 have N:=nat_of ht
 have G:=fun_of hg
 have h:=G.al
 rw [← e] at h
 intro x hx
 have:=N.pp x hx
 omega
omit hg e in
theorem beh_at {x:Int} (x0:0≤x) (x1:x < t.aA.aA.aD):gi (thenS t.Components g.Arrows) x=gi g.Arrows (gi t.Components x):=thenS_at x0 (by rw [(nat_of ht).pl]; exact x1)
theorem behT_nat:natB (behT t g)=true:=by
 have N:=nat_of ht
 have G:=fun_of hg
 have e2:t.aB.aB=g.aA:=N.et.trans e
 have go:∀ x:Int,0≤x→x < t.aA.aA.aD→gi (thenS t.aA.aD g.aD) x=gi g.aD (gi t.aA.aD x):=fun x x0 x1=>thenS_at x0 (by rw [N.f.ol]; exact x1)
 have go2:∀ x:Int,0≤x→x < t.aA.aA.aD→gi (thenS t.aB.aD g.aD) x=gi g.aD (gi t.aB.aD x):=fun x x0 x1=>thenS_at x0 (by rw [N.g.ol,N.es]; exact x1)
 have ga:∀ a:Int,0≤a→a < t.aA.aA.aG.length→gi (thenS t.aA.Arrows g.Arrows) a=gi g.Arrows (gi t.aA.Arrows a):=fun a a0 a1=>thenS_at a0 (by rw [N.f.al]; exact a1)
 have ga2:∀ a:Int,0≤a→a < t.aA.aA.aG.length→gi (thenS t.aB.Arrows g.Arrows) a=gi g.Arrows (gi t.aB.Arrows a):=fun a a0 a1=>thenS_at a0 (by rw [N.g.al,N.es]; exact a1)
 have gc:∀ x:Int,0≤x→x < t.aA.aA.aD→gi (thenS t.Components g.Arrows) x=gi g.Arrows (gi t.Components x):=fun x x0 x1=>beh_at ht x0 x1
 have cp:∀ x:Int,0≤x→x < t.aA.aA.aD→0≤gi t.Components x∧gi t.Components x < g.aA.aG.length:=fun x x0 x1=>by rw [← e]; exact N.cp x0 x1
 refine of_nat (t:=behT t g) (then_fun N.fb hg e) (then_fun N.gb hg e2) N.es rfl ?_ ?_ ?_ ?_ ?_
 ·show ((thenS _ _).length:Int)=_; rw [thenS_len]; exact N.pl
 ·exact fun y hy=>thenS_mem (beh_fit ht hg e) G.aa hy
 ·intro x x0 x1
  show gi g.aB.aG (gi (thenS t.Components g.Arrows) x)=gi (thenS t.aA.aD g.aD) x
  rw [gc x x0 x1,go x x0 x1,G.fr _ (cp x x0 x1).1 (cp x x0 x1).2,← e,N.pf x x0 x1]
 ·intro x x0 x1
  show gi g.aB.To (gi (thenS t.Components g.Arrows) x)=gi (thenS t.aB.aD g.aD) x
  rw [gc x x0 x1,go2 x x0 x1,G.to _ (cp x x0 x1).1 (cp x x0 x1).2,← e,N.pt x x0 x1]
 ·intro a a0 a1
  replace a1:a < t.aA.aA.aG.length:=a1
  have kf:=N.f.c.fr a0 a1
  have kt:=N.f.c.to a0 a1
  have k1:=N.f.ar a0 a1
  have k2:=N.ar2 a0 a1
  have k3:=cp _ kf.1 kf.2
  have k4:=cp _ kt.1 kt.2
  show gk g.aB.aF (gi (thenS t.aA.Arrows g.Arrows) a) (gi (thenS t.Components g.Arrows) (gi t.aA.aA.To a))=gk g.aB.aF (gi (thenS t.Components g.Arrows) (gi t.aA.aA.aG a)) (gi (thenS t.aB.Arrows g.Arrows) a)
  have hN:=congrArg (gi g.Arrows) (N.sq a a0 a1)
  rw [e] at k1 k2 hN
  rw [ga a a0 a1,ga2 a a0 a1,gc _ kf.1 kf.2,gc _ kt.1 kt.2,← G.co _ _ k1.1 k1.2 k4.1 k4.2 ?_,← G.co _ _ k3.1 k3.2 k2.1 k2.2 ?_]
  ·exact hN
  ·rw [← e,N.pt _ kf.1 kf.2]
   have:=N.g.fr a a0 (by rw [N.es]; exact a1)
   rw [N.et,N.es] at this
   exact this.symm
  ·rw [← e,N.pf _ kt.1 kt.2]
   exact N.f.to a a0 a1
end
section
variable {t:aM} {f:aN} (hf:funB f=true) (ht:natB t=true) (e:f.aB=t.aA.aA)
include hf ht e
theorem bef_fit:∀ x∈f.aD,0≤x∧x < t.Components.length:=by
 have N:=nat_of ht
 have F:=fun_of hf
 have h:=N.pl
 rw [← e] at h
 intro x hx
 have:=F.oo x hx
 omega
theorem befT_nat:natB (befT f t)=true:=by
 have N:=nat_of ht
 have F:=fun_of hf
 have e2:f.aB=t.aB.aA:=e.trans N.es.symm
 have go:∀ x:Int,0≤x→x < f.aA.aD→gi (thenS f.aD t.aA.aD) x=gi t.aA.aD (gi f.aD x):=fun x x0 x1=>thenS_at x0 (by rw [F.ol]; exact x1)
 have go2:∀ x:Int,0≤x→x < f.aA.aD→gi (thenS f.aD t.aB.aD) x=gi t.aB.aD (gi f.aD x):=fun x x0 x1=>thenS_at x0 (by rw [F.ol]; exact x1)
 have ga:∀ a:Int,0≤a→a < f.aA.aG.length→gi (thenS f.Arrows t.aA.Arrows) a=gi t.aA.Arrows (gi f.Arrows a):=fun a a0 a1=>thenS_at a0 (by rw [F.al]; exact a1)
 have ga2:∀ a:Int,0≤a→a < f.aA.aG.length→gi (thenS f.Arrows t.aB.Arrows) a=gi t.aB.Arrows (gi f.Arrows a):=fun a a0 a1=>thenS_at a0 (by rw [F.al]; exact a1)
 have gc:∀ x:Int,0≤x→x < f.aA.aD→gi (thenS f.aD t.Components) x=gi t.Components (gi f.aD x):=fun x x0 x1=>thenS_at x0 (by rw [F.ol]; exact x1)
 have ob:∀ x:Int,0≤x→x < f.aA.aD→0≤gi f.aD x∧gi f.aD x < t.aA.aA.aD:=fun x x0 x1=>by rw [← e]; exact F.ob x0 x1
 refine of_nat (t:=befT f t) (then_fun hf N.fb e) (then_fun hf N.gb e2) rfl N.et ?_ ?_ ?_ ?_ ?_
 ·show ((thenS _ _).length:Int)=_; rw [thenS_len]; exact F.ol
 ·exact fun y hy=>thenS_mem (bef_fit hf ht e) N.pp hy
 ·intro x x0 x1
  show gi t.aA.aB.aG (gi (thenS f.aD t.Components) x)=gi (thenS f.aD t.aA.aD) x
  rw [gc x x0 x1,go x x0 x1,N.pf _ (ob x x0 x1).1 (ob x x0 x1).2]
 ·intro x x0 x1
  show gi t.aA.aB.To (gi (thenS f.aD t.Components) x)=gi (thenS f.aD t.aB.aD) x
  rw [gc x x0 x1,go2 x x0 x1,N.pt _ (ob x x0 x1).1 (ob x x0 x1).2]
 ·intro a a0 a1
  replace a1:a < f.aA.aG.length:=a1
  have kf:=F.c.fr a0 a1
  have kt:=F.c.to a0 a1
  have k1:=F.ar a0 a1
  rw [e] at k1
  show gk t.aA.aB.aF (gi (thenS f.Arrows t.aA.Arrows) a) (gi (thenS f.aD t.Components) (gi f.aA.To a))=gk t.aA.aB.aF (gi (thenS f.aD t.Components) (gi f.aA.aG a)) (gi (thenS f.Arrows t.aB.Arrows) a)
  rw [ga a a0 a1,ga2 a a0 a1,gc _ kf.1 kf.2,gc _ kt.1 kt.2,← F.fr a a0 a1,← F.to a a0 a1,e]
  exact N.sq _ k1.1 k1.2
end
section
variable {s t:aM} (hs:natB s=true) (ht:natB t=true) (e:s.aB=t.aA)
include hs ht e
theorem thn_fit:t.Components.length=s.Components.length∧(∀ y∈s.Components,0≤y∧y < s.aA.aB.aG.length)∧∀ y∈t.Components,0≤y∧y < s.aA.aB.aG.length:=by
 have S:=nat_of hs
 have N:=nat_of ht
 have h1:=S.pl
 have h2:=N.pl
 rw [← e,S.es] at h2
 refine ⟨by omega,S.pp,fun y hy=>?_⟩
 have:=N.pp y hy
 rw [← e,S.et] at this
 exact this
end
theorem id_fit {f:aN} (F:Fun f):∀ x∈f.aD,0≤x∧x < f.aB.aJ.length:=by
 have h:=F.d.il
 intro x hx
 have:=F.oo x hx
 omega
theorem idT_nat {f:aN} (hf:funB f=true):natB (idT f)=true:=by
 have F:=fun_of hf
 have il:=F.d.il
 have gc:∀ x:Int,0≤x→x < f.aA.aD→gi (thenS f.aD f.aB.aJ) x=gi f.aB.aJ (gi f.aD x):=fun x x0 x1=>thenS_at x0 (by rw [F.ol]; exact x1)
 refine of_nat (t:=idT f) hf hf rfl rfl ?_ ?_ ?_ ?_ ?_
 ·show ((thenS _ _).length:Int)=_; rw [thenS_len]; exact F.ol
 ·refine fun y hy=>thenS_mem (id_fit F) (fun z hz=>?_) hy
  obtain ⟨i,i0,i1,hg⟩:=mem_gi hz
  have:=F.d.id (x:=i) i0 (by omega)
  rw [hg] at this
  exact this
 ·intro x x0 x1
  show gi f.aB.aG (gi (thenS f.aD f.aB.aJ) x)=gi f.aD x
  rw [gc x x0 x1,F.d.idf _ (F.ob x0 x1).1 (F.ob x0 x1).2]
 ·intro x x0 x1
  show gi f.aB.To (gi (thenS f.aD f.aB.aJ) x)=gi f.aD x
  rw [gc x x0 x1,F.d.idt _ (F.ob x0 x1).1 (F.ob x0 x1).2]
 ·intro a a0 a1
  replace a1:a < f.aA.aG.length:=a1
  have kf:=F.c.fr a0 a1
  have kt:=F.c.to a0 a1
  have k1:=F.ar a0 a1
  show gk f.aB.aF (gi f.Arrows a) (gi (thenS f.aD f.aB.aJ) (gi f.aA.To a))=gk f.aB.aF (gi (thenS f.aD f.aB.aJ) (gi f.aA.aG a)) (gi f.Arrows a)
  rw [gc _ kf.1 kf.2,gc _ kt.1 kt.2,← F.to a a0 a1,← F.fr a a0 a1,F.d.unitR _ k1.1 k1.2,F.d.unitL _ k1.1 k1.2]
end Go.Proofs.YtkhdhnpokfibjaaGreat
