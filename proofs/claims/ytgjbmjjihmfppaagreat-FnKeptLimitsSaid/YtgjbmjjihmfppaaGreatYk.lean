/- Functors: what the reference's and the program's looks at them give. No condition beside those that each theorem names. -/
import Derived.Test.YtgjbmjjihmfppaaGreatVj
namespace Go.Proofs.YtgjbmjjihmfppaaGreat
open Go Go.Li
set_option linter.unusedVariables false
structure ik (f:aM):Prop where
 s:gh f.aE
 t:gh f.aH
 o:f.aA.length≤1048576
 a:f.ab.length≤1048576
def vJ (f:aM):Bool:=o3 f.aE && (o3 f.aH && ((((f.aA.length:Int) == f.aE.aA) && (f.ab.length == f.aE.aF.length)) && (pw f.aH.aA f.aA && pw f.aH.aF.length f.ab)))
def x9 (f:aM) (a:Int):Bool:=(gi f.aH.aF (gi f.ab a) != gi f.aA (gi f.aE.aF a)) || (gi f.aH.To (gi f.ab a) != gi f.aA (gi f.aE.To a))
def Ax (f:aM) (x:Int):Bool:=gi f.ab (gi f.aE.aJ x) != gi f.aH.aJ (gi f.aA x)
def u2 (f:aM) (a b:Int):Bool:=(gi f.aE.To a == gi f.aE.aF b) && (gi f.ab (gk f.aE.aD a b) != gk f.aH.aD (gi f.ab a) (gi f.ab b))
def yJ (f:aM):Bool:=!((ns f.aE.aF.length).any (x9 f))
def EU (f:aM):Bool:=!((ns f.aE.aA.toNat).any (Ax f)) && !((ns f.aE.aF.length).any fun a=>(ns f.aE.aF.length).any (u2 f a))
def ei (f:aM):Bool:=vJ f && (yJ f && EU f)
structure FHead (f:aM):Prop where
 c:oh f.aE
 d:oh f.aH
 ol:(f.aA.length:Int)=f.aE.aA
 al:f.ab.length=f.aE.aF.length
 oo:∀ y∈f.aA,0≤y∧y < f.aH.aA
 aa:∀ y∈f.ab,0≤y∧y < f.aH.aF.length
theorem Qs {f:aM} (h:vJ f=true):FHead f:=by
 unfold vJ at h
 simp only [Bool.and_eq_true,beq_iff_eq,ru] at h
 obtain ⟨h1,h2,⟨h3,h4⟩,h5,h6⟩:=h
 exact ⟨xS h1,xS h2,h3,h4,h5,h6⟩
namespace FHead
variable {f:aM} (H:FHead f)
include H
theorem wz {x:Int} (h0:0≤x) (h1:x < f.aE.aA):idx f.aA x=some (gi f.aA x):=cB h0 (by rw [H.ol]; exact h1)
theorem uY {a:Int} (h0:0≤a) (h1:a < f.aE.aF.length):idx f.ab a=some (gi f.ab a):=cB h0 (by rw [H.al]; exact h1)
theorem ob {x:Int} (h0:0≤x) (h1:x < f.aE.aA):0≤gi f.aA x∧gi f.aA x < f.aH.aA:=H.oo _ (ep h0 (by rw [H.ol]; exact h1))
theorem ar {a:Int} (h0:0≤a) (h1:a < f.aE.aF.length):0≤gi f.ab a∧gi f.ab a < f.aH.aF.length:=H.aa _ (ep h0 (by rw [H.al]; exact h1))
end FHead
structure LH (f:aM):Prop extends FHead f where
 fr:∀ a:Int,0≤a→a < f.aE.aF.length→gi f.aH.aF (gi f.ab a)=gi f.aA (gi f.aE.aF a)
 to:∀ a:Int,0≤a→a < f.aE.aF.length→gi f.aH.To (gi f.ab a)=gi f.aA (gi f.aE.To a)
theorem IS {f:aM} (h1:vJ f=true) (h2:yJ f=true):LH f:=by
 unfold yJ at h2
 rw [Bool.not_eq_true',dv] at h2
 refine { Qs h1 with fr:=fun a a0 a1=>?_,to:=fun a a0 a1=>?_ } <;>
 ·have:=h2 a a0 a1
  unfold x9 at this
  simp only [Bool.or_eq_false_iff,bne_eq_false_iff_eq] at this
  first | exact this.1 | exact this.2
structure Ka (f:aM):Prop extends LH f where
 un:∀ x:Int,0≤x→x < f.aE.aA→gi f.ab (gi f.aE.aJ x)=gi f.aH.aJ (gi f.aA x)
 co:∀ a b:Int,0≤a→a < f.aE.aF.length→0≤b→b < f.aE.aF.length→gi f.aE.To a=gi f.aE.aF b→gi f.ab (gk f.aE.aD a b)=gk f.aH.aD (gi f.ab a) (gi f.ab b)
theorem fc {f:aM} (h:ei f=true):Ka f:=by
 unfold ei EU at h
 simp only [Bool.and_eq_true,Bool.not_eq_true'] at h
 obtain ⟨h1,h2,h3,h4⟩:=h
 have E:=IS h1 h2
 have ho:=E.c.o0
 rw [dv] at h3 h4
 refine { E with un:=fun x x0 x1=>?_,co:=fun a b a0 a1 b0 b1 e=>?_ }
 ·have:=h3 x x0 (by omega)
  unfold Ax at this
  simpa using this
 ·have:=(dv.1 (h4 a a0 a1)) b b0 b1
  unfold u2 at this
  simpa [e] using this
theorem NQ {f:aM} (h1:o3 f.aE=true) (h2:o3 f.aH=true) (ol:(f.aA.length:Int)=f.aE.aA) (al:f.ab.length=f.aE.aF.length) (oo:∀ y∈f.aA,0≤y∧y < f.aH.aA) (aa:∀ y∈f.ab,0≤y∧y < f.aH.aF.length)
  (fr:∀ a:Int,0≤a→a < f.aE.aF.length→gi f.aH.aF (gi f.ab a)=gi f.aA (gi f.aE.aF a)) (to:∀ a:Int,0≤a→a < f.aE.aF.length→gi f.aH.To (gi f.ab a)=gi f.aA (gi f.aE.To a))
  (un:∀ x:Int,0≤x→x < f.aE.aA→gi f.ab (gi f.aE.aJ x)=gi f.aH.aJ (gi f.aA x))
  (co:∀ a b:Int,0≤a→a < f.aE.aF.length→0≤b→b < f.aE.aF.length→gi f.aE.To a=gi f.aE.aF b→gi f.ab (gk f.aE.aD a b)=gk f.aH.aD (gi f.ab a) (gi f.ab b)):ei f=true:=by
 have C:=xS h1
 have hc:=C.o0
 unfold ei vJ yJ EU
 simp only [Bool.and_eq_true,Bool.not_eq_true',beq_iff_eq,ru,h1,h2,true_and]
 refine ⟨⟨⟨ol,al⟩,oo,aa⟩,?_,?_,?_⟩
 ·rw [dv]
  intro a a0 a1
  unfold x9
  rw [fr a a0 a1,to a a0 a1]; simp
 ·rw [dv]
  intro x x0 x1
  unfold Ax
  rw [un x x0 (by omega)]; simp
 ·rw [dv]
  intro a a0 a1
  rw [dv]
  intro b b0 b1
  unfold u2
  by_cases e:gi f.aE.To a=gi f.aE.aF b
  ·rw [co a b a0 a1 b0 b1 e]; simp
  ·simp [e]
theorem BR {f:aM} (hs:ik f):mK f=some (ei f):=by
 have ho:=hs.o
 have ha:=hs.a
 unfold mK ei vJ
 rw [Nx hs.s,aG]
 cases h1:o3 f.aE with
 | false=>rfl
 | true=>
  have C:=xS h1
  rw [Nx hs.t,aG]
  cases h2:o3 f.aH with
  | false=>rfl
  | true=>
   have T:=xS h2
   simp only [Bool.not_true,cond_false,Bool.true_and]
   by_cases e1:(f.aA.length:Int)=f.aE.aA
   ·rw [yS e1,cond_false,xN e1,Bool.true_and]
    by_cases e2:f.ab.length=f.aE.aF.length
    ·rw [yS (by omega),aG,cond_false,Cg _ _ (by omega),aG,xN e2,Bool.true_and]
     cases h3:pw f.aH.aA f.aA with
     | false=>rfl
     | true=>
      rw [Cg _ _ (by omega),aG]
      cases h4:pw f.aH.aF.length f.ab with
      | false=>rfl
      | true=>
       have H:FHead f:=⟨C,T,e1,e2,ru.1 h3,ru.1 h4⟩
       have cm:=C.m
       have co:=C.o8
       simp only [Bool.not_true,cond_false,aG,Bool.and_self,Bool.true_and]
       rw [BQ (n:=f.aE.aF.length) (x9 f) (fun a bj=>?_) (by unfold qJ; rw [bd (by omega),cond_false])]
       ·unfold yJ
        cases h5:(ns f.aE.aF.length).any (x9 f) with
        | true=>rfl
        | false=>
         rw [cond_false,Bool.not_false,Bool.true_and]
         rw [BQ (n:=f.aE.aA.toNat) (Ax f) (fun x bj=>?_) (by unfold qK; rw [bd (by omega),cond_false])]
         ·unfold EU
          cases h6:(ns f.aE.aA.toNat).any (Ax f) with
          | true=>rfl
          | false=>
           rw [cond_false,Bool.not_false,Bool.true_and]
           have E:LH f:=IS (by unfold vJ; simp [h1,h2,h3,h4,e1,e2]) (by unfold yJ; rw [h5]; rfl)
           rw [BQ (n:=f.aE.aF.length) (fun a=>(ns f.aE.aF.length).any (u2 f a)) (fun a bj=>?_) (by unfold qM; rw [bd (by omega),cond_false])]
           ·cases (ns f.aE.aF.length).any fun a=>(ns f.aE.aF.length).any (u2 f a) <;> rfl
           ·unfold qM
            rw [av (by omega),cond_true]
            rw [BQ (n:=f.aE.aF.length) (u2 f a) (fun b hb=>?_) (by unfold qL; rw [bd (by omega),cond_false])]
            ·rw [bN (by omega)]
            ·unfold qL
             rw [av (by omega),cond_true,C.je (by omega) (by omega),aG,C.ja (by omega) (by omega),aG]
             unfold u2
             by_cases e:gi f.aE.To a=gi f.aE.aF b
             ·have k:=C.cell a b (by omega) (by omega) (by omega) (by omega) e
              have ka:=H.ar (a:=(a:Int)) (by omega) (by omega)
              have kb:=H.ar (a:=(b:Int)) (by omega) (by omega)
              rw [xN e,cond_true,C.mb (by omega) (by omega),aG,C.lg (by omega) (by omega) (by omega) (by omega),aG,H.uY k.1 k.2.1,aG,H.uY (by omega) (by omega),aG,T.mb ka.1 ka.2,aG,H.uY (by omega) (by omega),aG,T.lg ka.1 ka.2 kb.1 kb.2,aG,aG,Bool.true_and,bN (by omega)]; rfl
             ·rw [r9 e,cond_false,aG,Bool.false_and,bN (by omega)]; rfl
         ·have kx:=H.ob (x:=(x:Int)) (by omega) (by omega)
          have ki:=C.id (x:=(x:Int)) (by omega) (by omega)
          unfold qK
          rw [av (by omega),cond_true,C.oK (by omega) (by omega),aG,H.uY ki.1 ki.2,aG,H.wz (by omega) (by omega),aG,T.oK kx.1 kx.2,aG,bN (by omega)]
          rfl
       ·have ka:=H.ar (a:=(a:Int)) (by omega) (by omega)
        have kf:=C.fr (f:=(a:Int)) (by omega) (by omega)
        have kt:=C.to (f:=(a:Int)) (by omega) (by omega)
        unfold qJ
        rw [av (by omega),cond_true,H.uY (by omega) (by omega),aG,T.ja ka.1 ka.2,aG,C.ja (by omega) (by omega),aG,H.wz kf.1 kf.2,aG,aG,T.je ka.1 ka.2,aG,C.je (by omega) (by omega),aG,H.wz kt.1 kt.2,aG,bN (by omega),s9,zu,aG]
        rfl
    ·rw [uT (by omega),aG,cond_true,r9 e2]; rfl
   ·rw [uT e1,cond_true,aG,cond_true,r9 e1]; rfl
theorem N5 {f:aM} (hs:ik f) (C:oh f.aE) (T:oh f.aH):jS f=some (((((f.aA.length:Int) == f.aE.aA) && (f.ab.length == f.aE.aF.length)) && (pw f.aH.aA f.aA && pw f.aH.aF.length f.ab)) && (yJ f && EU f)):=by
 have ho:=hs.o
 have ha:=hs.a
 have cm:=C.m
 have co:=C.o8
 have tm:=T.m
 have to:=T.o8
 have t0:=T.o0
 unfold jS
 by_cases e1:(f.aA.length:Int)=f.aE.aA
 ·rw [yS e1,cond_false,xN e1,Bool.true_and]
  rw [show dI f.aE=some (f.aE.aF.length:Int) from rfl,aG]
  by_cases e2:f.ab.length=f.aE.aF.length
  ·rw [yS (by omega),cond_false,within _ _ (by omega) (by omega) (by omega),aG,xN e2,Bool.true_and]
   cases h3:pw f.aH.aA f.aA with
   | false=>rfl
   | true=>
    rw [Bool.not_true,cond_false,show dI f.aH=some (f.aH.aF.length:Int) from rfl,aG,within _ _ (by omega) (by omega) (by omega),aG]
    cases h4:pw f.aH.aF.length f.ab with
    | false=>rfl
    | true=>
     have H:FHead f:=⟨C,T,e1,e2,ru.1 h3,ru.1 h4⟩
     have il:=C.il
     have kl:=C.kl
     simp only [Bool.not_true,cond_false,aG,Bool.and_self,Bool.true_and]
     rw [BQ (n:=f.aE.aF.length) (x9 f) (fun a bj=>?_) (by unfold kS; rw [bd (by omega),cond_false])]
     ·unfold yJ
      cases h5:(ns f.aE.aF.length).any (x9 f) with
      | true=>rfl
      | false=>
       rw [cond_false,Bool.not_false,Bool.true_and]
       rw [BQ (n:=f.aE.aA.toNat) (Ax f) (fun x bj=>?_) (by unfold kU; rw [bd (by omega),cond_false])]
       ·unfold EU
        cases h6:(ns f.aE.aA.toNat).any (Ax f) with
        | true=>rfl
        | false=>
         rw [cond_false,Bool.not_false,Bool.true_and]
         rw [BQ (n:=f.aE.aF.length) (fun a=>(ns f.aE.aF.length).any (u2 f a)) (fun a bj=>?_) (by unfold kW; rw [bd (by omega),cond_false])]
         ·cases (ns f.aE.aF.length).any fun a=>(ns f.aE.aF.length).any (u2 f a) <;> rfl
         ·unfold kW
          have hr:=C.row (a:Int) (by omega) (by omega)
          rw [av (by omega),cond_true,C.mb (by omega) (by omega),aG]
          rw [BQ (n:=f.aE.aF.length) (u2 f a) (fun b hb=>?_) (by unfold kV; rw [bd (by omega),cond_false])]
          ·rw [bN (by omega)]
          ·unfold kV
           rw [av (by omega),cond_true,C.lg (by omega) (by omega) (by omega) (by omega),aG]
           unfold u2
           by_cases e:gi f.aE.To a=gi f.aE.aF b
           ·have k:=C.cell a b (by omega) (by omega) (by omega) (by omega) e
            have ka:=H.ar (a:=(a:Int)) (by omega) (by omega)
            have kb:=H.ar (a:=(b:Int)) (by omega) (by omega)
            rw [xN e,av (show gk f.aE.aD a b ≥ 0 from k.1),cond_true,H.uY k.1 k.2.1,aG,H.uY (by omega) (by omega),aG,H.uY (by omega) (by omega),aG,T.rf ka.1 ka.2 kb.1 kb.2,aG,aG,Bool.true_and,bN (by omega)]; rfl
           ·have:=C.none a b (by omega) (by omega) (by omega) (by omega) e
            rw [r9 e,bd (show ¬ gk f.aE.aD a b ≥ 0 by omega),cond_false,aG,Bool.false_and,bN (by omega)]; rfl
       ·have kx:=H.ob (x:=(x:Int)) (by omega) (by omega)
        have ki:=C.id (x:=(x:Int)) (by omega) (by omega)
        unfold kU
        rw [av (by omega),cond_true,C.oK (by omega) (by omega),aG,H.uY ki.1 ki.2,aG,H.wz (by omega) (by omega),aG,T.oK kx.1 kx.2,aG,bN (by omega)]
        rfl
     ·have ka:=H.ar (a:=(a:Int)) (by omega) (by omega)
      have kf:=C.fr (f:=(a:Int)) (by omega) (by omega)
      have kt:=C.to (f:=(a:Int)) (by omega) (by omega)
      unfold kS
      rw [av (by omega),cond_true,H.uY (by omega) (by omega),aG,T.ja ka.1 ka.2,aG,C.ja (by omega) (by omega),aG,H.wz kf.1 kf.2,aG,T.je ka.1 ka.2,aG,C.je (by omega) (by omega),aG,H.wz kt.1 kt.2,aG,bN (by omega),s9,zu,aG]
      rfl
  ·rw [uT (by omega),cond_true,r9 e2]; rfl
 ·rw [uT e1,cond_true,r9 e1]; rfl
theorem BT (a b:List Int) (ha:a.length≤1048576) (hb:∀ x∈a,0≤x∧x < b.length):kH a b=some (thenS a b):=by
 unfold kH
 refine (congrArg ak (vw a.length (fun i=>gi b (gi a i)) (fun acc i=>(acc,(i:Int))) rfl ?_ ?_)).trans rfl
 ·intro i acc hi Dd
  have hm:=hb _ (ep (l:=a) (j:=(i:Int)) (by omega) (by omega))
  show jJ a b acc i=_
  unfold jJ
  rw [av (by omega),cond_true,cB (by omega) (by omega),aG,cB hm.1 hm.2,aG,dF (by omega) (by omega),aG,bN (by omega)]
 ·intro acc _
  show jJ a b acc _=_
  unfold jJ
  rw [bd (by omega),cond_false]
theorem Je (l:List aI) (hl:l.length≤1048576) (hs:∀ c∈l,gh c):jI l=some (l.all o3):=by
 unfold jI
 refine (congrArg ak (jy l (fun c=>!o3 c) (fun i=>(i:Int)) rfl ?_ ?_ (e:=(l.length:Int)) (y:=false) ?_)).trans ?_
 ·intro i x hx hp
  have hi:=bm hx
  unfold gY
  rw [av (by omega),cond_true,bu,hx,aG,Ny (hs x (List.mem_of_getElem? hx)),aG,show (!o3 x)=false from hp,cond_false,bN (by omega)]
 ·intro i x hx hp
  have hi:=bm hx
  unfold gY
  rw [av (by omega),cond_true,bu,hx,aG,Ny (hs x (List.mem_of_getElem? hx)),aG,show (!o3 x)=true from hp,cond_true]
 ·unfold gY
  rw [bd (by omega),cond_false]
 ·rw [mj]
  cases l.all o3 <;> rfl
theorem yB {f:aM} (hs:ik f):eK f=some (ei f):=by
 unfold eK ei vJ
 rw [Je _ (by simp) (by intro c hc; simp at hc; rcases hc with rfl | rfl; exact hs.s; exact hs.t),aG]
 simp only [List.all_cons,List.all_nil,Bool.and_true]
 cases h1:o3 f.aE with
 | false=>rfl
 | true=>
  cases h2:o3 f.aH with
  | false=>rfl
  | true=>
   rw [Bool.true_and,cond_true,N5 hs (xS h1) (xS h2)]
   rfl
theorem CJ (l:List aM) (hl:l.length≤1048576) (hs:∀ c∈l,ik c):fI l=some (l.all ei):=by
 unfold fI
 refine (congrArg ak (jy l (fun c=>!ei c) (fun i=>(i:Int)) rfl ?_ ?_ (e:=(l.length:Int)) (y:=false) ?_)).trans ?_
 ·intro i x hx hp
  have hi:=bm hx
  unfold jD
  rw [av (by omega),cond_true,bu,hx,aG,yB (hs x (List.mem_of_getElem? hx)),aG,show (!ei x)=false from hp,cond_false,bN (by omega)]
 ·intro i x hx hp
  have hi:=bm hx
  unfold jD
  rw [av (by omega),cond_true,bu,hx,aG,yB (hs x (List.mem_of_getElem? hx)),aG,show (!ei x)=true from hp,cond_true]
 ·unfold jD
  rw [bd (by omega),cond_false]
 ·rw [mj]
  cases l.all ei <;> rfl
theorem IG (l:List Int) (hl:l.length≤1048576):eN l=some l:=by
 unfold eN
 rw [dF (by simp; omega) (by simp; omega),aG]; rfl
theorem Jf {c d:aI} {o a:List Int} (hc:gh c) (hd:gh d) (ho:o.length≤1048576) (ha:a.length≤1048576):lU c d o a=some (aM.mk c d o a):=by
 unfold lU
 rw [Iu hc,aG,Iu hd,aG,IG o ho,aG,IG a ha,aG]; rfl
theorem x6 {c d:aI} {o a:List Int} (hc:gh c) (hd:gh d) (ho:o.length≤1048576) (ha:a.length≤1048576):iR c d o a=some (aM.mk c d o a):=by
 unfold iR
 rw [xV hc,aG,xV hd,aG,jf o ho,aG,jf a ha,aG]; rfl
def jm (f g:aM):aM:=aM.mk f.aE g.aH (thenS f.aA g.aA) (thenS f.ab g.ab)
theorem ta (a b:List Int):(thenS a b).length=a.length:=by unfold thenS; rw [cO]
section
variable {f g:aM} (F:FHead f) (G:FHead g) (e:f.aH=g.aE)
include F G e
theorem BX:(∀ x∈f.aA,0≤x∧x < g.aA.length)∧∀ x∈f.ab,0≤x∧x < g.ab.length:=by
 have h1:=G.ol
 have h2:=G.al
 rw [← e] at h1 h2
 exact ⟨fun x hx=>⟨(F.oo x hx).1,by have:=(F.oo x hx).2; omega⟩,fun x hx=>⟨(F.aa x hx).1,by have:=(F.aa x hx).2; omega⟩⟩
theorem FP (hf:ik f) (hg:ik g):iA f g=some (jm f g):=by
 obtain ⟨h1,h2⟩:=BX F G e
 unfold iA
 rw [C9 _ _ hf.o h1,aG,C9 _ _ hf.a h2,aG,Jf hf.s hg.t (by rw [ta]; exact hf.o) (by rw [ta]; exact hf.a),aG]; rfl
theorem NX (hf:ik f) (hg:ik g):pC f g=some (jm f g):=by
 obtain ⟨h1,h2⟩:=BX F G e
 unfold pC
 rw [BT _ _ hf.o h1,aG,BT _ _ hf.a h2,aG,x6 hf.s hg.t (by rw [ta]; exact hf.o) (by rw [ta]; exact hf.a),aG]; rfl
end
theorem Da {f g:aM} (hf:ei f=true) (hg:ei g=true) (e:f.aH=g.aE):ei (jm f g)=true:=by
 have F:=fc hf
 have G:=fc hg
 have h1:o3 f.aE=true:=by unfold ei vJ at hf; simp only [Bool.and_eq_true] at hf; exact hf.1.1
 have h2:o3 g.aH=true:=by unfold ei vJ at hg; simp only [Bool.and_eq_true] at hg; exact hg.1.2.1
 have go:∀ x:Int,0≤x→x < f.aE.aA→gi (thenS f.aA g.aA) x=gi g.aA (gi f.aA x):=fun x x0 x1=>x7 x0 (by rw [F.ol]; exact x1)
 have ga:∀ a:Int,0≤a→a < f.aE.aF.length→gi (thenS f.ab g.ab) a=gi g.ab (gi f.ab a):=fun a a0 a1=>x7 a0 (by rw [F.al]; exact a1)
 have ob:∀ x:Int,0≤x→x < f.aE.aA→0≤gi f.aA x∧gi f.aA x < g.aE.aA:=fun x x0 x1=>by rw [← e]; exact F.ob x0 x1
 have ar:∀ a:Int,0≤a→a < f.aE.aF.length→0≤gi f.ab a∧gi f.ab a < g.aE.aF.length:=fun a a0 a1=>by rw [← e]; exact F.ar a0 a1
 obtain ⟨t1,t2⟩:=BX F.toFHead G.toFHead e
 refine NQ (f:=jm f g) h1 h2 ?_ ?_ ?_ ?_ ?_ ?_ ?_ ?_
 ·show ((thenS _ _).length:Int)=_; rw [ta]; exact F.ol
 ·show (thenS _ _).length=_; rw [ta]; exact F.al
 ·exact fun y hy=>FZ t1 G.oo hy
 ·exact fun y hy=>FZ t2 G.aa hy
 ·intro a a0 a1
  have kf:=F.c.fr a0 a1
  show gi g.aH.aF (gi (thenS f.ab g.ab) a)=gi (thenS f.aA g.aA) (gi f.aE.aF a)
  rw [ga a a0 a1,go _ kf.1 kf.2,G.fr _ (ar a a0 a1).1 (ar a a0 a1).2,← e,F.fr a a0 a1]
 ·intro a a0 a1
  have kf:=F.c.to a0 a1
  show gi g.aH.To (gi (thenS f.ab g.ab) a)=gi (thenS f.aA g.aA) (gi f.aE.To a)
  rw [ga a a0 a1,go _ kf.1 kf.2,G.to _ (ar a a0 a1).1 (ar a a0 a1).2,← e,F.to a a0 a1]
 ·intro x x0 x1
  have ki:=F.c.id x0 x1
  show gi (thenS f.ab g.ab) (gi f.aE.aJ x)=gi g.aH.aJ (gi (thenS f.aA g.aA) x)
  rw [ga _ ki.1 ki.2,go x x0 x1,F.un x x0 x1,← G.un _ (ob x x0 x1).1 (ob x x0 x1).2,e]
 ·intro a b a0 a1 b0 b1 h
  have k:=F.c.cell a b a0 a1 b0 b1 h
  show gi (thenS f.ab g.ab) (gk f.aE.aD a b)=gk g.aH.aD (gi (thenS f.ab g.ab) a) (gi (thenS f.ab g.ab) b)
  rw [ga _ k.1 k.2.1,ga a a0 a1,ga b b0 b1,F.co a b a0 a1 b0 b1 h,← G.co _ _ (ar a a0 a1).1 (ar a a0 a1).2 (ar b b0 b1).1 (ar b b0 b1).2 (by rw [← e,F.to a a0 a1,F.fr b b0 b1]; exact congrArg (gi f.aA) h),e]
end Go.Proofs.YtgjbmjjihmfppaaGreat
namespace Go.Proofs.YtgjbmjjihmfppaaGreat
open Go Go.Li
set_option linter.unusedVariables false
structure N6 (m:dA):Prop where
 s:ik m.aE
 t:ik m.aH
 p:m.eh.length≤1048576
def Ee (t:dA):Bool:=ei t.aE && (ei t.aH && ((tH t.aE.aE t.aH.aE && tH t.aE.aH t.aH.aH) && (((t.eh.length:Int) == t.aE.aE.aA) && pw t.aE.aH.aF.length t.eh)))
def Qt (t:dA) (x:Int):Bool:=(gi t.aE.aH.aF (gi t.eh x) != gi t.aE.aA x) || (gi t.aE.aH.To (gi t.eh x) != gi t.aH.aA x)
def sk (f g:aM) (p:List Int) (a:Int):Bool:=gk f.aH.aD (gi f.ab a) (gi p (gi f.aE.To a)) == gk f.aH.aD (gi p (gi f.aE.aF a)) (gi g.ab a)
def Qu (t:dA):Bool:=!((ns t.aE.aE.aF.length).any fun a=>!(sk t.aE t.aH t.eh a))
def Gn (t:dA):Bool:=!((ns t.eh.length).any (Qt t))
def tQ (t:dA):Bool:=(Ee t && Gn t) && Qu t
structure THead (t:dA):Prop where
 f:Ka t.aE
 g:Ka t.aH
 fb:ei t.aE=true
 gb:ei t.aH=true
 es:t.aH.aE=t.aE.aE
 et:t.aH.aH=t.aE.aH
 pl:(t.eh.length:Int)=t.aE.aE.aA
 pp:∀ y∈t.eh,0≤y∧y < t.aE.aH.aF.length
theorem Qv {t:dA} (h:Ee t=true):THead t:=by
 unfold Ee at h
 simp only [Bool.and_eq_true,beq_iff_eq,ru,xW] at h
 obtain ⟨h1,h2,⟨h3,h4⟩,h5,h6⟩:=h
 exact ⟨fc h1,fc h2,h1,h2,h3.symm,h4.symm,h5,h6⟩
namespace THead
variable {t:dA} (H:THead t)
include H
theorem cp {x:Int} (h0:0≤x) (h1:x < t.aE.aE.aA):0≤gi t.eh x∧gi t.eh x < t.aE.aH.aF.length:=H.pp _ (ep h0 (by rw [H.pl]; exact h1))
end THead
structure RR (t:dA):Prop extends THead t where
 pf:∀ x:Int,0≤x→x < t.aE.aE.aA→gi t.aE.aH.aF (gi t.eh x)=gi t.aE.aA x
 pt:∀ x:Int,0≤x→x < t.aE.aE.aA→gi t.aE.aH.To (gi t.eh x)=gi t.aH.aA x
theorem Qw {t:dA} (h1:Ee t=true) (h2:Gn t=true):RR t:=by
 have H:=Qv h1
 have hl:=H.pl
 unfold Gn at h2
 rw [Bool.not_eq_true',dv] at h2
 refine { H with pf:=fun a a0 a1=>?_,pt:=fun a a0 a1=>?_ } <;>
 ·have:=h2 a a0 (by omega)
  unfold Qt at this
  simp only [Bool.or_eq_false_iff,bne_eq_false_iff_eq] at this
  first | exact this.1 | exact this.2
structure adO (t:dA):Prop extends RR t where
 sq:∀ a:Int,0≤a→a < t.aE.aE.aF.length→gk t.aE.aH.aD (gi t.aE.ab a) (gi t.eh (gi t.aE.aE.To a))=gk t.aE.aH.aD (gi t.eh (gi t.aE.aE.aF a)) (gi t.aH.ab a)
theorem NM {t:dA} (h:tQ t=true):adO t:=by
 unfold tQ at h
 simp only [Bool.and_eq_true] at h
 obtain ⟨⟨h1,h2⟩,h3⟩:=h
 unfold Qu at h3
 rw [Bool.not_eq_true',dv] at h3
 refine { Qw h1 h2 with sq:=fun a a0 a1=>?_ }
 have:=h3 a a0 a1
 unfold sk at this
 simpa using this
theorem WK {t:dA} (fb:ei t.aE=true) (gb:ei t.aH=true) (es:t.aH.aE=t.aE.aE) (et:t.aH.aH=t.aE.aH) (pl:(t.eh.length:Int)=t.aE.aE.aA) (pp:∀ y∈t.eh,0≤y∧y < t.aE.aH.aF.length)
  (pf:∀ x:Int,0≤x→x < t.aE.aE.aA→gi t.aE.aH.aF (gi t.eh x)=gi t.aE.aA x) (pt:∀ x:Int,0≤x→x < t.aE.aE.aA→gi t.aE.aH.To (gi t.eh x)=gi t.aH.aA x)
  (sq:∀ a:Int,0≤a→a < t.aE.aE.aF.length→gk t.aE.aH.aD (gi t.aE.ab a) (gi t.eh (gi t.aE.aE.To a))=gk t.aE.aH.aD (gi t.eh (gi t.aE.aE.aF a)) (gi t.aH.ab a)):tQ t=true:=by
 unfold tQ Ee Gn Qu
 simp only [Bool.and_eq_true,Bool.not_eq_true',beq_iff_eq,ru,xW,fb,gb,true_and]
 refine ⟨⟨⟨⟨es.symm,et.symm⟩,pl,pp⟩,?_⟩,?_⟩
 ·rw [dv]
  intro x x0 x1
  unfold Qt
  rw [pf x x0 (by omega),pt x x0 (by omega)]; simp
 ·rw [dv]
  intro a a0 a1
  unfold sk
  rw [sq a a0 a1]; simp
end Go.Proofs.YtgjbmjjihmfppaaGreat
namespace Go.Proofs.YtgjbmjjihmfppaaGreat
open Go Go.Li
set_option linter.unusedVariables false
section
variable {t:dA} {g:aM} (ht:tQ t=true) (hg:ei g=true) (e:t.aE.aH=g.aE)
include ht hg e
omit hg e in
end
section
variable {t:dA} {f:aM} (hf:ei f=true) (ht:tQ t=true) (e:f.aH=t.aE.aE)
include hf ht e
end
section
variable {s t:dA} (hs:tQ s=true) (ht:tQ t=true) (e:s.aH=t.aE)
include hs ht e
end
end Go.Proofs.YtgjbmjjihmfppaaGreat
