/- Functors: what the reference's and the program's looks at them give. No condition beside those that each theorem names. -/
import Derived.Test.YtgjbmjjihmfppaaGreatVj
namespace Go.Proofs.YtgjbmjjihmfppaaGreat
open Go Go.Li
set_option linter.unusedVariables false
structure dj (f:aI):Prop where
 s:gv f.aC
 t:gv f.aE
 o:f.aA.length≤1048576
 a:f.ab.length≤1048576
def wF (f:aI):Bool:=qa f.aC && (qa f.aE && ((((f.aA.length:Int) == f.aC.aA) && (f.ab.length == f.aC.aD.length)) && (qh f.aE.aA f.aA && qh f.aE.aD.length f.ab)))
def yO (f:aI) (a:Int):Bool:=(gi f.aE.aD (gi f.ab a) != gi f.aA (gi f.aC.aD a)) || (gi f.aE.To (gi f.ab a) != gi f.aA (gi f.aC.To a))
def Bi (f:aI) (x:Int):Bool:=gi f.ab (gi f.aC.aH x) != gi f.aE.aH (gi f.aA x)
def vE (f:aI) (a b:Int):Bool:=(gi f.aC.To a == gi f.aC.aD b) && (gi f.ab (gk f.aC.aB a b) != gk f.aE.aB (gi f.ab a) (gi f.ab b))
def zu (f:aI):Bool:=!((ns f.aC.aD.length).any (yO f))
def FN (f:aI):Bool:=!((ns f.aC.aA.toNat).any (Bi f)) && !((ns f.aC.aD.length).any fun a=>(ns f.aC.aD.length).any (vE f a))
def bx (f:aI):Bool:=wF f && (zu f && FN f)
structure FHead (f:aI):Prop where
 c:nm f.aC
 d:nm f.aE
 ol:(f.aA.length:Int)=f.aC.aA
 al:f.ab.length=f.aC.aD.length
 oo:∀ y∈f.aA,0≤y∧y < f.aE.aA
 aa:∀ y∈f.ab,0≤y∧y < f.aE.aD.length
theorem RD {f:aI} (h:wF f=true):FHead f:=by
 unfold wF at h
 simp only [Bool.and_eq_true,beq_iff_eq,sd] at h
 obtain ⟨h1,h2,⟨h3,h4⟩,h5,h6⟩:=h
 exact ⟨yE h1,yE h2,h3,h4,h5,h6⟩
namespace FHead
variable {f:aI} (H:FHead f)
include H
theorem yJ {x:Int} (h0:0≤x) (h1:x < f.aC.aA):idx f.aA x=some (gi f.aA x):=cH h0 (by rw [H.ol]; exact h1)
theorem wj {a:Int} (h0:0≤a) (h1:a < f.aC.aD.length):idx f.ab a=some (gi f.ab a):=cH h0 (by rw [H.al]; exact h1)
theorem ob {x:Int} (h0:0≤x) (h1:x < f.aC.aA):0≤gi f.aA x∧gi f.aA x < f.aE.aA:=H.oo _ (fj h0 (by rw [H.ol]; exact h1))
theorem ar {a:Int} (h0:0≤a) (h1:a < f.aC.aD.length):0≤gi f.ab a∧gi f.ab a < f.aE.aD.length:=H.aa _ (fj h0 (by rw [H.al]; exact h1))
end FHead
structure MO (f:aI):Prop extends FHead f where
 fr:∀ a:Int,0≤a→a < f.aC.aD.length→gi f.aE.aD (gi f.ab a)=gi f.aA (gi f.aC.aD a)
 to:∀ a:Int,0≤a→a < f.aC.aD.length→gi f.aE.To (gi f.ab a)=gi f.aA (gi f.aC.To a)
theorem JJ {f:aI} (h1:wF f=true) (h2:zu f=true):MO f:=by
 unfold zu at h2
 rw [Bool.not_eq_true',ec] at h2
 refine { RD h1 with fr:=fun a a0 a1=>?_,to:=fun a a0 a1=>?_ } <;>
 ·have:=h2 a a0 a1
  unfold yO at this
  simp only [Bool.or_eq_false_iff,bne_eq_false_iff_eq] at this
  first | exact this.1 | exact this.2
structure K0 (f:aI):Prop extends MO f where
 un:∀ x:Int,0≤x→x < f.aC.aA→gi f.ab (gi f.aC.aH x)=gi f.aE.aH (gi f.aA x)
 co:∀ a b:Int,0≤a→a < f.aC.aD.length→0≤b→b < f.aC.aD.length→gi f.aC.To a=gi f.aC.aD b→gi f.ab (gk f.aC.aB a b)=gk f.aE.aB (gi f.ab a) (gi f.ab b)
theorem dh {f:aI} (h:bx f=true):K0 f:=by
 unfold bx FN at h
 simp only [Bool.and_eq_true,Bool.not_eq_true'] at h
 obtain ⟨h1,h2,h3,h4⟩:=h
 have E:=JJ h1 h2
 have ho:=E.c.o0
 rw [ec] at h3 h4
 refine { E with un:=fun x x0 x1=>?_,co:=fun a b a0 a1 b0 b1 e=>?_ }
 ·have:=h3 x x0 (by omega)
  unfold Bi at this
  simpa using this
 ·have:=(ec.1 (h4 a a0 a1)) b b0 b1
  unfold vE at this
  simpa [e] using this
theorem Jv {f:aI} (h1:qa f.aC=true) (h2:qa f.aE=true) (ol:(f.aA.length:Int)=f.aC.aA) (al:f.ab.length=f.aC.aD.length) (oo:∀ y∈f.aA,0≤y∧y < f.aE.aA) (aa:∀ y∈f.ab,0≤y∧y < f.aE.aD.length)
  (fr:∀ a:Int,0≤a→a < f.aC.aD.length→gi f.aE.aD (gi f.ab a)=gi f.aA (gi f.aC.aD a)) (to:∀ a:Int,0≤a→a < f.aC.aD.length→gi f.aE.To (gi f.ab a)=gi f.aA (gi f.aC.To a))
  (un:∀ x:Int,0≤x→x < f.aC.aA→gi f.ab (gi f.aC.aH x)=gi f.aE.aH (gi f.aA x))
  (co:∀ a b:Int,0≤a→a < f.aC.aD.length→0≤b→b < f.aC.aD.length→gi f.aC.To a=gi f.aC.aD b→gi f.ab (gk f.aC.aB a b)=gk f.aE.aB (gi f.ab a) (gi f.ab b)):bx f=true:=by
 have C:=yE h1
 have hc:=C.o0
 unfold bx wF zu FN
 simp only [Bool.and_eq_true,Bool.not_eq_true',beq_iff_eq,sd,h1,h2,true_and]
 refine ⟨⟨⟨ol,al⟩,oo,aa⟩,?_,?_,?_⟩
 ·rw [ec]
  intro a a0 a1
  unfold yO
  rw [fr a a0 a1,to a a0 a1]; simp
 ·rw [ec]
  intro x x0 x1
  unfold Bi
  rw [un x x0 (by omega)]; simp
 ·rw [ec]
  intro a a0 a1
  rw [ec]
  intro b b0 b1
  unfold vE
  by_cases e:gi f.aC.To a=gi f.aC.aD b
  ·rw [co a b a0 a1 b0 b1 e]; simp
  ·simp [e]
theorem Cp {f:aI} (hs:dj f):mY f=some (bx f):=by
 have ho:=hs.o
 have ha:=hs.a
 unfold mY bx wF
 rw [OB hs.s,aF]
 cases h1:qa f.aC with
 | false=>rfl
 | true=>
  have C:=yE h1
  rw [OB hs.t,aF]
  cases h2:qa f.aE with
  | false=>rfl
  | true=>
   have T:=yE h2
   simp only [Bool.not_true,cond_false,Bool.true_and]
   by_cases e1:(f.aA.length:Int)=f.aC.aA
   ·rw [A5 e1,cond_false,yA e1,Bool.true_and]
    by_cases e2:f.ab.length=f.aC.aD.length
    ·rw [A5 (by omega),aF,cond_false,CQ _ _ (by omega),aF,yA e2,Bool.true_and]
     cases h3:qh f.aE.aA f.aA with
     | false=>rfl
     | true=>
      rw [CQ _ _ (by omega),aF]
      cases h4:qh f.aE.aD.length f.ab with
      | false=>rfl
      | true=>
       have H:FHead f:=⟨C,T,e1,e2,sd.1 h3,sd.1 h4⟩
       have cm:=C.m
       have co:=C.o8
       simp only [Bool.not_true,cond_false,aF,Bool.and_self,Bool.true_and]
       rw [Cn (n:=f.aC.aD.length) (yO f) (fun a bm=>?_) (by unfold qK; rw [aX (by omega),cond_false])]
       ·unfold zu
        cases h5:(ns f.aC.aD.length).any (yO f) with
        | true=>rfl
        | false=>
         rw [cond_false,Bool.not_false,Bool.true_and]
         rw [Cn (n:=f.aC.aA.toNat) (Bi f) (fun x bm=>?_) (by unfold qL; rw [aX (by omega),cond_false])]
         ·unfold FN
          cases h6:(ns f.aC.aA.toNat).any (Bi f) with
          | true=>rfl
          | false=>
           rw [cond_false,Bool.not_false,Bool.true_and]
           have E:MO f:=JJ (by unfold wF; simp [h1,h2,h3,h4,e1,e2]) (by unfold zu; rw [h5]; rfl)
           rw [Cn (n:=f.aC.aD.length) (fun a=>(ns f.aC.aD.length).any (vE f a)) (fun a bm=>?_) (by unfold qN; rw [aX (by omega),cond_false])]
           ·cases (ns f.aC.aD.length).any fun a=>(ns f.aC.aD.length).any (vE f a) <;> rfl
           ·unfold qN
            rw [av (by omega),cond_true]
            rw [Cn (n:=f.aC.aD.length) (vE f a) (fun b hb=>?_) (by unfold qM; rw [aX (by omega),cond_false])]
            ·rw [bR (by omega)]
            ·unfold qM
             rw [av (by omega),cond_true,C.j3 (by omega) (by omega),aF,C.js (by omega) (by omega),aF]
             unfold vE
             by_cases e:gi f.aC.To a=gi f.aC.aD b
             ·have k:=C.cell a b (by omega) (by omega) (by omega) (by omega) e
              have ka:=H.ar (a:=(a:Int)) (by omega) (by omega)
              have kb:=H.ar (a:=(b:Int)) (by omega) (by omega)
              rw [yA e,cond_true,C.mm (by omega) (by omega),aF,C.l8 (by omega) (by omega) (by omega) (by omega),aF,H.wj k.1 k.2.1,aF,H.wj (by omega) (by omega),aF,T.mm ka.1 ka.2,aF,H.wj (by omega) (by omega),aF,T.l8 ka.1 ka.2 kb.1 kb.2,aF,aF,Bool.true_and,bR (by omega)]; rfl
             ·rw [sy e,cond_false,aF,Bool.false_and,bR (by omega)]; rfl
         ·have kx:=H.ob (x:=(x:Int)) (by omega) (by omega)
          have ki:=C.id (x:=(x:Int)) (by omega) (by omega)
          unfold qL
          rw [av (by omega),cond_true,C.p9 (by omega) (by omega),aF,H.wj ki.1 ki.2,aF,H.yJ (by omega) (by omega),aF,T.p9 kx.1 kx.2,aF,bR (by omega)]
          rfl
       ·have ka:=H.ar (a:=(a:Int)) (by omega) (by omega)
        have kf:=C.fr (f:=(a:Int)) (by omega) (by omega)
        have kt:=C.to (f:=(a:Int)) (by omega) (by omega)
        unfold qK
        rw [av (by omega),cond_true,H.wj (by omega) (by omega),aF,T.js ka.1 ka.2,aF,C.js (by omega) (by omega),aF,H.yJ kf.1 kf.2,aF,aF,T.j3 ka.1 ka.2,aF,C.j3 (by omega) (by omega),aF,H.yJ kt.1 kt.2,aF,bR (by omega),tL,Af,aF]
        rfl
    ·rw [vv (by omega),aF,cond_true,sy e2]; rfl
   ·rw [vv e1,cond_true,aF,cond_true,sy e1]; rfl
theorem O9 {f:aI} (hs:dj f) (C:nm f.aC) (T:nm f.aE):kJ f=some (((((f.aA.length:Int) == f.aC.aA) && (f.ab.length == f.aC.aD.length)) && (qh f.aE.aA f.aA && qh f.aE.aD.length f.ab)) && (zu f && FN f)):=by
 have ho:=hs.o
 have ha:=hs.a
 have cm:=C.m
 have co:=C.o8
 have tm:=T.m
 have to:=T.o8
 have t0:=T.o0
 unfold kJ
 by_cases e1:(f.aA.length:Int)=f.aC.aA
 ·rw [A5 e1,cond_false,yA e1,Bool.true_and]
  rw [show dW f.aC=some (f.aC.aD.length:Int) from rfl,aF]
  by_cases e2:f.ab.length=f.aC.aD.length
  ·rw [A5 (by omega),cond_false,within _ _ (by omega) (by omega) (by omega),aF,yA e2,Bool.true_and]
   cases h3:qh f.aE.aA f.aA with
   | false=>rfl
   | true=>
    rw [Bool.not_true,cond_false,show dW f.aE=some (f.aE.aD.length:Int) from rfl,aF,within _ _ (by omega) (by omega) (by omega),aF]
    cases h4:qh f.aE.aD.length f.ab with
    | false=>rfl
    | true=>
     have H:FHead f:=⟨C,T,e1,e2,sd.1 h3,sd.1 h4⟩
     have il:=C.il
     have kl:=C.kl
     simp only [Bool.not_true,cond_false,aF,Bool.and_self,Bool.true_and]
     rw [Cn (n:=f.aC.aD.length) (yO f) (fun a bm=>?_) (by unfold lJ; rw [aX (by omega),cond_false])]
     ·unfold zu
      cases h5:(ns f.aC.aD.length).any (yO f) with
      | true=>rfl
      | false=>
       rw [cond_false,Bool.not_false,Bool.true_and]
       rw [Cn (n:=f.aC.aA.toNat) (Bi f) (fun x bm=>?_) (by unfold lK; rw [aX (by omega),cond_false])]
       ·unfold FN
        cases h6:(ns f.aC.aA.toNat).any (Bi f) with
        | true=>rfl
        | false=>
         rw [cond_false,Bool.not_false,Bool.true_and]
         rw [Cn (n:=f.aC.aD.length) (fun a=>(ns f.aC.aD.length).any (vE f a)) (fun a bm=>?_) (by unfold lM; rw [aX (by omega),cond_false])]
         ·cases (ns f.aC.aD.length).any fun a=>(ns f.aC.aD.length).any (vE f a) <;> rfl
         ·unfold lM
          have hr:=C.row (a:Int) (by omega) (by omega)
          rw [av (by omega),cond_true,C.mm (by omega) (by omega),aF]
          rw [Cn (n:=f.aC.aD.length) (vE f a) (fun b hb=>?_) (by unfold lL; rw [aX (by omega),cond_false])]
          ·rw [bR (by omega)]
          ·unfold lL
           rw [av (by omega),cond_true,C.l8 (by omega) (by omega) (by omega) (by omega),aF]
           unfold vE
           by_cases e:gi f.aC.To a=gi f.aC.aD b
           ·have k:=C.cell a b (by omega) (by omega) (by omega) (by omega) e
            have ka:=H.ar (a:=(a:Int)) (by omega) (by omega)
            have kb:=H.ar (a:=(b:Int)) (by omega) (by omega)
            rw [yA e,av (show gk f.aC.aB a b ≥ 0 from k.1),cond_true,H.wj k.1 k.2.1,aF,H.wj (by omega) (by omega),aF,H.wj (by omega) (by omega),aF,T.r8 ka.1 ka.2 kb.1 kb.2,aF,aF,Bool.true_and,bR (by omega)]; rfl
           ·have:=C.none a b (by omega) (by omega) (by omega) (by omega) e
            rw [sy e,aX (show ¬ gk f.aC.aB a b ≥ 0 by omega),cond_false,aF,Bool.false_and,bR (by omega)]; rfl
       ·have kx:=H.ob (x:=(x:Int)) (by omega) (by omega)
        have ki:=C.id (x:=(x:Int)) (by omega) (by omega)
        unfold lK
        rw [av (by omega),cond_true,C.p9 (by omega) (by omega),aF,H.wj ki.1 ki.2,aF,H.yJ (by omega) (by omega),aF,T.p9 kx.1 kx.2,aF,bR (by omega)]
        rfl
     ·have ka:=H.ar (a:=(a:Int)) (by omega) (by omega)
      have kf:=C.fr (f:=(a:Int)) (by omega) (by omega)
      have kt:=C.to (f:=(a:Int)) (by omega) (by omega)
      unfold lJ
      rw [av (by omega),cond_true,H.wj (by omega) (by omega),aF,T.js ka.1 ka.2,aF,C.js (by omega) (by omega),aF,H.yJ kf.1 kf.2,aF,T.j3 ka.1 ka.2,aF,C.j3 (by omega) (by omega),aF,H.yJ kt.1 kt.2,aF,bR (by omega),tL,Af,aF]
      rfl
  ·rw [vv (by omega),cond_true,sy e2]; rfl
 ·rw [vv e1,cond_true,sy e1]; rfl
theorem Cs (a b:List Int) (ha:a.length≤1048576) (hb:∀ x∈a,0≤x∧x < b.length):lA a b=some (thenS a b):=by
 unfold lA
 refine (congrArg ak (wc a.length (fun i=>gi b (gi a i)) (fun acc i=>(acc,(i:Int))) rfl ?_ ?_)).trans rfl
 ·intro i acc hi DR
  have hm:=hb _ (fj (l:=a) (j:=(i:Int)) (by omega) (by omega))
  show jV a b acc i=_
  unfold jV
  rw [av (by omega),cond_true,cH (by omega) (by omega),aF,cH hm.1 hm.2,aF,dK (by omega) (by omega),aF,bR (by omega)]
 ·intro acc _
  show jV a b acc _=_
  unfold jV
  rw [aX (by omega),cond_false]
theorem J9 (l:List aG) (hl:l.length≤1048576) (hs:∀ c∈l,gv c):jU l=some (l.all qa):=by
 unfold jU
 refine (congrArg ak (jr l (fun c=>!qa c) (fun i=>(i:Int)) rfl ?_ ?_ (e:=(l.length:Int)) (y:=false) ?_)).trans ?_
 ·intro i x hx hp
  have hi:=bj hx
  unfold iI
  rw [av (by omega),cond_true,bu,hx,aF,OC (hs x (List.mem_of_getElem? hx)),aF,show (!qa x)=false from hp,cond_false,bR (by omega)]
 ·intro i x hx hp
  have hi:=bj hx
  unfold iI
  rw [av (by omega),cond_true,bu,hx,aF,OC (hs x (List.mem_of_getElem? hx)),aF,show (!qa x)=true from hp,cond_true]
 ·unfold iI
  rw [aX (by omega),cond_false]
 ·rw [nj]
  cases l.all qa <;> rfl
theorem Cq {f:aI} (hs:dj f):fH f=some (bx f):=by
 unfold fH bx wF
 rw [J9 _ (by simp) (by intro c hc; simp at hc; rcases hc with rfl | rfl; exact hs.s; exact hs.t),aF]
 simp only [List.all_cons,List.all_nil,Bool.and_true]
 cases h1:qa f.aC with
 | false=>rfl
 | true=>
  cases h2:qa f.aE with
  | false=>rfl
  | true=>
   rw [Bool.true_and,cond_true,O9 hs (yE h1) (yE h2)]
   rfl
theorem wC (l:List aI) (hl:l.length≤1048576) (hs:∀ c∈l,dj c):lN l=some (l.all bx):=by
 unfold lN
 refine (congrArg ak (jr l (fun c=>!bx c) (fun i=>(i:Int)) rfl ?_ ?_ (e:=(l.length:Int)) (y:=false) ?_)).trans ?_
 ·intro i x hx hp
  have hi:=bj hx
  unfold jO
  rw [av (by omega),cond_true,bu,hx,aF,Cq (hs x (List.mem_of_getElem? hx)),aF,show (!bx x)=false from hp,cond_false,bR (by omega)]
 ·intro i x hx hp
  have hi:=bj hx
  unfold jO
  rw [av (by omega),cond_true,bu,hx,aF,Cq (hs x (List.mem_of_getElem? hx)),aF,show (!bx x)=true from hp,cond_true]
 ·unfold jO
  rw [aX (by omega),cond_false]
 ·rw [nj]
  cases l.all bx <;> rfl
theorem Aj (l:List Int) (hl:l.length≤1048576):eP l=some l:=by
 unfold eP
 rw [dK (by simp; omega) (by simp; omega),aF]; rfl
theorem Dm {c d:aG} {o a:List Int} (hc:gv c) (hd:gv d) (ho:o.length≤1048576) (ha:a.length≤1048576):mN c d o a=some (aI.mk c d o a):=by
 unfold mN
 rw [Ji hc,aF,Ji hd,aF,Aj o ho,aF,Aj a ha,aF]; rfl
theorem wi {c d:aG} {o a:List Int} (hc:gv c) (hd:gv d) (ho:o.length≤1048576) (ha:a.length≤1048576):hY c d o a=some (aI.mk c d o a):=by
 unfold hY
 rw [yH hc,aF,yH hd,aF,iu o ho,aF,iu a ha,aF]; rfl
def bb (f g:aI):aI:=aI.mk f.aC g.aE (thenS f.aA g.aA) (thenS f.ab g.ab)
theorem tM (a b:List Int):(thenS a b).length=a.length:=by unfold thenS; rw [cD]
section
variable {f g:aI} (F:FHead f) (G:FHead g) (e:f.aE=g.aC)
include F G e
theorem Cy:(∀ x∈f.aA,0≤x∧x < g.aA.length)∧∀ x∈f.ab,0≤x∧x < g.ab.length:=by
 have h1:=G.ol
 have h2:=G.al
 rw [← e] at h1 h2
 exact ⟨fun x hx=>⟨(F.oo x hx).1,by have:=(F.oo x hx).2; omega⟩,fun x hx=>⟨(F.aa x hx).1,by have:=(F.aa x hx).2; omega⟩⟩
theorem zn (hf:dj f) (hg:dj g):kL f g=some (bb f g):=by
 obtain ⟨h1,h2⟩:=Cy F G e
 unfold kL
 rw [DO _ _ hf.o h1,aF,DO _ _ hf.a h2,aF,Dm hf.s hg.t (by rw [tM]; exact hf.o) (by rw [tM]; exact hf.a),aF]; rfl
theorem OG (hf:dj f) (hg:dj g):pK f g=some (bb f g):=by
 obtain ⟨h1,h2⟩:=Cy F G e
 unfold pK
 rw [Cs _ _ hf.o h1,aF,Cs _ _ hf.a h2,aF,wi hf.s hg.t (by rw [tM]; exact hf.o) (by rw [tM]; exact hf.a),aF]; rfl
end
theorem sO {f g:aI} (hf:bx f=true) (hg:bx g=true) (e:f.aE=g.aC):bx (bb f g)=true:=by
 have F:=dh hf
 have G:=dh hg
 have h1:qa f.aC=true:=by unfold bx wF at hf; simp only [Bool.and_eq_true] at hf; exact hf.1.1
 have h2:qa g.aE=true:=by unfold bx wF at hg; simp only [Bool.and_eq_true] at hg; exact hg.1.2.1
 have go:∀ x:Int,0≤x→x < f.aC.aA→gi (thenS f.aA g.aA) x=gi g.aA (gi f.aA x):=fun x x0 x1=>yM x0 (by rw [F.ol]; exact x1)
 have ga:∀ a:Int,0≤a→a < f.aC.aD.length→gi (thenS f.ab g.ab) a=gi g.ab (gi f.ab a):=fun a a0 a1=>yM a0 (by rw [F.al]; exact a1)
 have ob:∀ x:Int,0≤x→x < f.aC.aA→0≤gi f.aA x∧gi f.aA x < g.aC.aA:=fun x x0 x1=>by rw [← e]; exact F.ob x0 x1
 have ar:∀ a:Int,0≤a→a < f.aC.aD.length→0≤gi f.ab a∧gi f.ab a < g.aC.aD.length:=fun a a0 a1=>by rw [← e]; exact F.ar a0 a1
 obtain ⟨t1,t2⟩:=Cy F.toFHead G.toFHead e
 refine Jv (f:=bb f g) h1 h2 ?_ ?_ ?_ ?_ ?_ ?_ ?_ ?_
 ·show ((thenS _ _).length:Int)=_; rw [tM]; exact F.ol
 ·show (thenS _ _).length=_; rw [tM]; exact F.al
 ·exact fun y hy=>GO t1 G.oo hy
 ·exact fun y hy=>GO t2 G.aa hy
 ·intro a a0 a1
  have kf:=F.c.fr a0 a1
  show gi g.aE.aD (gi (thenS f.ab g.ab) a)=gi (thenS f.aA g.aA) (gi f.aC.aD a)
  rw [ga a a0 a1,go _ kf.1 kf.2,G.fr _ (ar a a0 a1).1 (ar a a0 a1).2,← e,F.fr a a0 a1]
 ·intro a a0 a1
  have kf:=F.c.to a0 a1
  show gi g.aE.To (gi (thenS f.ab g.ab) a)=gi (thenS f.aA g.aA) (gi f.aC.To a)
  rw [ga a a0 a1,go _ kf.1 kf.2,G.to _ (ar a a0 a1).1 (ar a a0 a1).2,← e,F.to a a0 a1]
 ·intro x x0 x1
  have ki:=F.c.id x0 x1
  show gi (thenS f.ab g.ab) (gi f.aC.aH x)=gi g.aE.aH (gi (thenS f.aA g.aA) x)
  rw [ga _ ki.1 ki.2,go x x0 x1,F.un x x0 x1,← G.un _ (ob x x0 x1).1 (ob x x0 x1).2,e]
 ·intro a b a0 a1 b0 b1 h
  have k:=F.c.cell a b a0 a1 b0 b1 h
  show gi (thenS f.ab g.ab) (gk f.aC.aB a b)=gk g.aE.aB (gi (thenS f.ab g.ab) a) (gi (thenS f.ab g.ab) b)
  rw [ga _ k.1 k.2.1,ga a a0 a1,ga b b0 b1,F.co a b a0 a1 b0 b1 h,← G.co _ _ (ar a a0 a1).1 (ar a a0 a1).2 (ar b b0 b1).1 (ar b b0 b1).2 (by rw [← e,F.to a a0 a1,F.fr b b0 b1]; exact congrArg (gi f.aA) h),e]
end Go.Proofs.YtgjbmjjihmfppaaGreat
namespace Go.Proofs.YtgjbmjjihmfppaaGreat
open Go Go.Li
set_option linter.unusedVariables false
structure Pa (m:dF):Prop where
 s:dj m.aC
 t:dj m.aE
 p:m.fg.length≤1048576
def EX (t:dF):Bool:=bx t.aC && (bx t.aE && ((o7 t.aC.aC t.aE.aC && o7 t.aC.aE t.aE.aE) && (((t.fg.length:Int) == t.aC.aC.aA) && qh t.aC.aE.aD.length t.fg)))
def RE (t:dF) (x:Int):Bool:=(gi t.aC.aE.aD (gi t.fg x) != gi t.aC.aA x) || (gi t.aC.aE.To (gi t.fg x) != gi t.aE.aA x)
def sX (f g:aI) (p:List Int) (a:Int):Bool:=gk f.aE.aB (gi f.ab a) (gi p (gi f.aC.To a)) == gk f.aE.aB (gi p (gi f.aC.aD a)) (gi g.ab a)
def RF (t:dF):Bool:=!((ns t.aC.aC.aD.length).any fun a=>!(sX t.aC t.aE t.fg a))
def Hc (t:dF):Bool:=!((ns t.fg.length).any (RE t))
def uD (t:dF):Bool:=(EX t && Hc t) && RF t
structure THead (t:dF):Prop where
 f:K0 t.aC
 g:K0 t.aE
 fb:bx t.aC=true
 gb:bx t.aE=true
 es:t.aE.aC=t.aC.aC
 et:t.aE.aE=t.aC.aE
 pl:(t.fg.length:Int)=t.aC.aC.aA
 pp:∀ y∈t.fg,0≤y∧y < t.aC.aE.aD.length
theorem RG {t:dF} (h:EX t=true):THead t:=by
 unfold EX at h
 simp only [Bool.and_eq_true,beq_iff_eq,sd,sN] at h
 obtain ⟨h1,h2,⟨h3,h4⟩,h5,h6⟩:=h
 exact ⟨dh h1,dh h2,h1,h2,h3.symm,h4.symm,h5,h6⟩
namespace THead
variable {t:dF} (H:THead t)
include H
theorem cp {x:Int} (h0:0≤x) (h1:x < t.aC.aC.aA):0≤gi t.fg x∧gi t.fg x < t.aC.aE.aD.length:=H.pp _ (fj h0 (by rw [H.pl]; exact h1))
end THead
structure Te (t:dF):Prop extends THead t where
 pf:∀ x:Int,0≤x→x < t.aC.aC.aA→gi t.aC.aE.aD (gi t.fg x)=gi t.aC.aA x
 pt:∀ x:Int,0≤x→x < t.aC.aC.aA→gi t.aC.aE.To (gi t.fg x)=gi t.aE.aA x
theorem RH {t:dF} (h1:EX t=true) (h2:Hc t=true):Te t:=by
 have H:=RG h1
 have hl:=H.pl
 unfold Hc at h2
 rw [Bool.not_eq_true',ec] at h2
 refine { H with pf:=fun a a0 a1=>?_,pt:=fun a a0 a1=>?_ } <;>
 ·have:=h2 a a0 (by omega)
  unfold RE at this
  simp only [Bool.or_eq_false_iff,bne_eq_false_iff_eq] at this
  first | exact this.1 | exact this.2
structure afe (t:dF):Prop extends Te t where
 sq:∀ a:Int,0≤a→a < t.aC.aC.aD.length→gk t.aC.aE.aB (gi t.aC.ab a) (gi t.fg (gi t.aC.aC.To a))=gk t.aC.aE.aB (gi t.fg (gi t.aC.aC.aD a)) (gi t.aE.ab a)
theorem OQ {t:dF} (h:uD t=true):afe t:=by
 unfold uD at h
 simp only [Bool.and_eq_true] at h
 obtain ⟨⟨h1,h2⟩,h3⟩:=h
 unfold RF at h3
 rw [Bool.not_eq_true',ec] at h3
 refine { RH h1 h2 with sq:=fun a a0 a1=>?_ }
 have:=h3 a a0 a1
 unfold sX at this
 simpa using this
theorem X8 {t:dF} (fb:bx t.aC=true) (gb:bx t.aE=true) (es:t.aE.aC=t.aC.aC) (et:t.aE.aE=t.aC.aE) (pl:(t.fg.length:Int)=t.aC.aC.aA) (pp:∀ y∈t.fg,0≤y∧y < t.aC.aE.aD.length)
  (pf:∀ x:Int,0≤x→x < t.aC.aC.aA→gi t.aC.aE.aD (gi t.fg x)=gi t.aC.aA x) (pt:∀ x:Int,0≤x→x < t.aC.aC.aA→gi t.aC.aE.To (gi t.fg x)=gi t.aE.aA x)
  (sq:∀ a:Int,0≤a→a < t.aC.aC.aD.length→gk t.aC.aE.aB (gi t.aC.ab a) (gi t.fg (gi t.aC.aC.To a))=gk t.aC.aE.aB (gi t.fg (gi t.aC.aC.aD a)) (gi t.aE.ab a)):uD t=true:=by
 unfold uD EX Hc RF
 simp only [Bool.and_eq_true,Bool.not_eq_true',beq_iff_eq,sd,sN,fb,gb,true_and]
 refine ⟨⟨⟨⟨es.symm,et.symm⟩,pl,pp⟩,?_⟩,?_⟩
 ·rw [ec]
  intro x x0 x1
  unfold RE
  rw [pf x x0 (by omega),pt x x0 (by omega)]; simp
 ·rw [ec]
  intro a a0 a1
  unfold sX
  rw [sq a a0 a1]; simp
end Go.Proofs.YtgjbmjjihmfppaaGreat
namespace Go.Proofs.YtgjbmjjihmfppaaGreat
open Go Go.Li
set_option linter.unusedVariables false
section
variable {t:dF} {g:aI} (ht:uD t=true) (hg:bx g=true) (e:t.aC.aE=g.aC)
include ht hg e
omit hg e in
end
section
variable {t:dF} {f:aI} (hf:bx f=true) (ht:uD t=true) (e:f.aE=t.aC.aC)
include hf ht e
end
section
variable {s t:dF} (hs:uD s=true) (ht:uD t=true) (e:s.aE=t.aC)
include hs ht e
end
end Go.Proofs.YtgjbmjjihmfppaaGreat
