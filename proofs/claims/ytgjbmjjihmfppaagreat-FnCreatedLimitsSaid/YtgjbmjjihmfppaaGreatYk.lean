/- Functors: what the reference's and the program's looks at them give. No condition beside those that each theorem names. -/
import Derived.Test.YtgjbmjjihmfppaaGreatVj
namespace Go.Proofs.YtgjbmjjihmfppaaGreat
open Go Go.Li
set_option linter.unusedVariables false
structure fg (f:aI):Prop where
 s:gx f.aC
 t:gx f.aD
 o:f.aA.length≤1048576
 a:f.ab.length≤1048576
def wY (f:aI):Bool:=p9 f.aC && (p9 f.aD && ((((f.aA.length:Int) == f.aC.aA) && (f.ab.length == f.aC.aE.length)) && (p7 f.aD.aA f.aA && p7 f.aD.aE.length f.ab)))
def zh (f:aI) (a:Int):Bool:=(gi f.aD.aE (gi f.ab a) != gi f.aA (gi f.aC.aE a)) || (gi f.aD.To (gi f.ab a) != gi f.aA (gi f.aC.To a))
def BJ (f:aI) (x:Int):Bool:=gi f.ab (gi f.aC.aH x) != gi f.aD.aH (gi f.aA x)
def vZ (f:aI) (a b:Int):Bool:=(gi f.aC.To a == gi f.aC.aE b) && (gi f.ab (gk f.aC.aB a b) != gk f.aD.aB (gi f.ab a) (gi f.ab b))
def zQ (f:aI):Bool:=!((ns f.aC.aE.length).any (zh f))
def Gj (f:aI):Bool:=!((ns f.aC.aA.toNat).any (BJ f)) && !((ns f.aC.aE.length).any fun a=>(ns f.aC.aE.length).any (vZ f a))
def cw (f:aI):Bool:=wY f && (zQ f && Gj f)
structure FHead (f:aI):Prop where
 c:pq f.aC
 d:pq f.aD
 ol:(f.aA.length:Int)=f.aC.aA
 al:f.ab.length=f.aC.aE.length
 oo:∀ y∈f.aA,0≤y∧y < f.aD.aA
 aa:∀ y∈f.ab,0≤y∧y < f.aD.aE.length
theorem Sa {f:aI} (h:wY f=true):FHead f:=by
 unfold wY at h
 simp only [Bool.and_eq_true,beq_iff_eq,qt] at h
 obtain ⟨h1,h2,⟨h3,h4⟩,h5,h6⟩:=h
 exact ⟨yY h1,yY h2,h3,h4,h5,h6⟩
namespace FHead
variable {f:aI} (H:FHead f)
include H
theorem zd {x:Int} (h0:0≤x) (h1:x < f.aC.aA):idx f.aA x=some (gi f.aA x):=cH h0 (by rw [H.ol]; exact h1)
theorem wQ {a:Int} (h0:0≤a) (h1:a < f.aC.aE.length):idx f.ab a=some (gi f.ab a):=cH h0 (by rw [H.al]; exact h1)
theorem ob {x:Int} (h0:0≤x) (h1:x < f.aC.aA):0≤gi f.aA x∧gi f.aA x < f.aD.aA:=H.oo _ (fu h0 (by rw [H.ol]; exact h1))
theorem ar {a:Int} (h0:0≤a) (h1:a < f.aC.aE.length):0≤gi f.ab a∧gi f.ab a < f.aD.aE.length:=H.aa _ (fu h0 (by rw [H.al]; exact h1))
end FHead
structure Nc (f:aI):Prop extends FHead f where
 fr:∀ a:Int,0≤a→a < f.aC.aE.length→gi f.aD.aE (gi f.ab a)=gi f.aA (gi f.aC.aE a)
 to:∀ a:Int,0≤a→a < f.aC.aE.length→gi f.aD.To (gi f.ab a)=gi f.aA (gi f.aC.To a)
theorem JY {f:aI} (h1:wY f=true) (h2:zQ f=true):Nc f:=by
 unfold zQ at h2
 rw [Bool.not_eq_true',ec] at h2
 refine { Sa h1 with fr:=fun a a0 a1=>?_,to:=fun a a0 a1=>?_ } <;>
 ·have:=h2 a a0 a1
  unfold zh at this
  simp only [Bool.or_eq_false_iff,bne_eq_false_iff_eq] at this
  first | exact this.1 | exact this.2
structure Lr (f:aI):Prop extends Nc f where
 un:∀ x:Int,0≤x→x < f.aC.aA→gi f.ab (gi f.aC.aH x)=gi f.aD.aH (gi f.aA x)
 co:∀ a b:Int,0≤a→a < f.aC.aE.length→0≤b→b < f.aC.aE.length→gi f.aC.To a=gi f.aC.aE b→gi f.ab (gk f.aC.aB a b)=gk f.aD.aB (gi f.ab a) (gi f.ab b)
theorem dg {f:aI} (h:cw f=true):Lr f:=by
 unfold cw Gj at h
 simp only [Bool.and_eq_true,Bool.not_eq_true'] at h
 obtain ⟨h1,h2,h3,h4⟩:=h
 have E:=JY h1 h2
 have ho:=E.c.o0
 rw [ec] at h3 h4
 refine { E with un:=fun x x0 x1=>?_,co:=fun a b a0 a1 b0 b1 e=>?_ }
 ·have:=h3 x x0 (by omega)
  unfold BJ at this
  simpa using this
 ·have:=(ec.1 (h4 a a0 a1)) b b0 b1
  unfold vZ at this
  simpa [e] using this
theorem Pm {f:aI} (h1:p9 f.aC=true) (h2:p9 f.aD=true) (ol:(f.aA.length:Int)=f.aC.aA) (al:f.ab.length=f.aC.aE.length) (oo:∀ y∈f.aA,0≤y∧y < f.aD.aA) (aa:∀ y∈f.ab,0≤y∧y < f.aD.aE.length)
  (fr:∀ a:Int,0≤a→a < f.aC.aE.length→gi f.aD.aE (gi f.ab a)=gi f.aA (gi f.aC.aE a)) (to:∀ a:Int,0≤a→a < f.aC.aE.length→gi f.aD.To (gi f.ab a)=gi f.aA (gi f.aC.To a))
  (un:∀ x:Int,0≤x→x < f.aC.aA→gi f.ab (gi f.aC.aH x)=gi f.aD.aH (gi f.aA x))
  (co:∀ a b:Int,0≤a→a < f.aC.aE.length→0≤b→b < f.aC.aE.length→gi f.aC.To a=gi f.aC.aE b→gi f.ab (gk f.aC.aB a b)=gk f.aD.aB (gi f.ab a) (gi f.ab b)):cw f=true:=by
 have C:=yY h1
 have hc:=C.o0
 unfold cw wY zQ Gj
 simp only [Bool.and_eq_true,Bool.not_eq_true',beq_iff_eq,qt,h1,h2,true_and]
 refine ⟨⟨⟨ol,al⟩,oo,aa⟩,?_,?_,?_⟩
 ·rw [ec]
  intro a a0 a1
  unfold zh
  rw [fr a a0 a1,to a a0 a1]; simp
 ·rw [ec]
  intro x x0 x1
  unfold BJ
  rw [un x x0 (by omega)]; simp
 ·rw [ec]
  intro a a0 a1
  rw [ec]
  intro b b0 b1
  unfold vZ
  by_cases e:gi f.aC.To a=gi f.aC.aE b
  ·rw [co a b a0 a1 b0 b1 e]; simp
  ·simp [e]
theorem CP {f:aI} (hs:fg f):mT f=some (cw f):=by
 have ho:=hs.o
 have ha:=hs.a
 unfold mT cw wY
 rw [O3 hs.s,aF]
 cases h1:p9 f.aC with
 | false=>rfl
 | true=>
  have C:=yY h1
  rw [O3 hs.t,aF]
  cases h2:p9 f.aD with
  | false=>rfl
  | true=>
   have T:=yY h2
   simp only [Bool.not_true,cond_false,Bool.true_and]
   by_cases e1:(f.aA.length:Int)=f.aC.aA
   ·rw [zZ e1,cond_false,uc e1,Bool.true_and]
    by_cases e2:f.ab.length=f.aC.aE.length
    ·rw [zZ (by omega),aF,cond_false,De _ _ (by omega),aF,uc e2,Bool.true_and]
     cases h3:p7 f.aD.aA f.aA with
     | false=>rfl
     | true=>
      rw [De _ _ (by omega),aF]
      cases h4:p7 f.aD.aE.length f.ab with
      | false=>rfl
      | true=>
       have H:FHead f:=⟨C,T,e1,e2,qt.1 h3,qt.1 h4⟩
       have cm:=C.m
       have co:=C.o8
       simp only [Bool.not_true,cond_false,aF,Bool.and_self,Bool.true_and]
       rw [CJ (n:=f.aC.aE.length) (zh f) (fun a bn=>?_) (by unfold qM; rw [bc (by omega),cond_false])]
       ·unfold zQ
        cases h5:(ns f.aC.aE.length).any (zh f) with
        | true=>rfl
        | false=>
         rw [cond_false,Bool.not_false,Bool.true_and]
         rw [CJ (n:=f.aC.aA.toNat) (BJ f) (fun x bn=>?_) (by unfold qN; rw [bc (by omega),cond_false])]
         ·unfold Gj
          cases h6:(ns f.aC.aA.toNat).any (BJ f) with
          | true=>rfl
          | false=>
           rw [cond_false,Bool.not_false,Bool.true_and]
           have E:Nc f:=JY (by unfold wY; simp [h1,h2,h3,h4,e1,e2]) (by unfold zQ; rw [h5]; rfl)
           rw [CJ (n:=f.aC.aE.length) (fun a=>(ns f.aC.aE.length).any (vZ f a)) (fun a bn=>?_) (by unfold qP; rw [bc (by omega),cond_false])]
           ·cases (ns f.aC.aE.length).any fun a=>(ns f.aC.aE.length).any (vZ f a) <;> rfl
           ·unfold qP
            rw [av (by omega),cond_true]
            rw [CJ (n:=f.aC.aE.length) (vZ f a) (fun b hb=>?_) (by unfold qO; rw [bc (by omega),cond_false])]
            ·rw [bQ (by omega)]
            ·unfold qO
             rw [av (by omega),cond_true,C.kz (by omega) (by omega),aF,C.jx (by omega) (by omega),aF]
             unfold vZ
             by_cases e:gi f.aC.To a=gi f.aC.aE b
             ·have k:=C.cell a b (by omega) (by omega) (by omega) (by omega) e
              have ka:=H.ar (a:=(a:Int)) (by omega) (by omega)
              have kb:=H.ar (a:=(b:Int)) (by omega) (by omega)
              rw [uc e,cond_true,C.mq (by omega) (by omega),aF,C.l8 (by omega) (by omega) (by omega) (by omega),aF,H.wQ k.1 k.2.1,aF,H.wQ (by omega) (by omega),aF,T.mq ka.1 ka.2,aF,H.wQ (by omega) (by omega),aF,T.l8 ka.1 ka.2 kb.1 kb.2,aF,aF,Bool.true_and,bQ (by omega)]; rfl
             ·rw [o3 e,cond_false,aF,Bool.false_and,bQ (by omega)]; rfl
         ·have kx:=H.ob (x:=(x:Int)) (by omega) (by omega)
          have ki:=C.id (x:=(x:Int)) (by omega) (by omega)
          unfold qN
          rw [av (by omega),cond_true,C.p8 (by omega) (by omega),aF,H.wQ ki.1 ki.2,aF,H.zd (by omega) (by omega),aF,T.p8 kx.1 kx.2,aF,bQ (by omega)]
          rfl
       ·have ka:=H.ar (a:=(a:Int)) (by omega) (by omega)
        have kf:=C.fr (f:=(a:Int)) (by omega) (by omega)
        have kt:=C.to (f:=(a:Int)) (by omega) (by omega)
        unfold qM
        rw [av (by omega),cond_true,H.wQ (by omega) (by omega),aF,T.jx ka.1 ka.2,aF,C.jx (by omega) (by omega),aF,H.zd kf.1 kf.2,aF,aF,T.kz ka.1 ka.2,aF,C.kz (by omega) (by omega),aF,H.zd kt.1 kt.2,aF,bQ (by omega),ue,AF,aF]
        rfl
    ·rw [vS (by omega),aF,cond_true,o3 e2]; rfl
   ·rw [vS e1,cond_true,aF,cond_true,o3 e1]; rfl
theorem PD {f:aI} (hs:fg f) (C:pq f.aC) (T:pq f.aD):kB f=some (((((f.aA.length:Int) == f.aC.aA) && (f.ab.length == f.aC.aE.length)) && (p7 f.aD.aA f.aA && p7 f.aD.aE.length f.ab)) && (zQ f && Gj f)):=by
 have ho:=hs.o
 have ha:=hs.a
 have cm:=C.m
 have co:=C.o8
 have tm:=T.m
 have to:=T.o8
 have t0:=T.o0
 unfold kB
 by_cases e1:(f.aA.length:Int)=f.aC.aA
 ·rw [zZ e1,cond_false,uc e1,Bool.true_and]
  rw [show dS f.aC=some (f.aC.aE.length:Int) from rfl,aF]
  by_cases e2:f.ab.length=f.aC.aE.length
  ·rw [zZ (by omega),cond_false,within _ _ (by omega) (by omega) (by omega),aF,uc e2,Bool.true_and]
   cases h3:p7 f.aD.aA f.aA with
   | false=>rfl
   | true=>
    rw [Bool.not_true,cond_false,show dS f.aD=some (f.aD.aE.length:Int) from rfl,aF,within _ _ (by omega) (by omega) (by omega),aF]
    cases h4:p7 f.aD.aE.length f.ab with
    | false=>rfl
    | true=>
     have H:FHead f:=⟨C,T,e1,e2,qt.1 h3,qt.1 h4⟩
     have il:=C.il
     have kl:=C.kl
     simp only [Bool.not_true,cond_false,aF,Bool.and_self,Bool.true_and]
     rw [CJ (n:=f.aC.aE.length) (zh f) (fun a bn=>?_) (by unfold lC; rw [bc (by omega),cond_false])]
     ·unfold zQ
      cases h5:(ns f.aC.aE.length).any (zh f) with
      | true=>rfl
      | false=>
       rw [cond_false,Bool.not_false,Bool.true_and]
       rw [CJ (n:=f.aC.aA.toNat) (BJ f) (fun x bn=>?_) (by unfold lD; rw [bc (by omega),cond_false])]
       ·unfold Gj
        cases h6:(ns f.aC.aA.toNat).any (BJ f) with
        | true=>rfl
        | false=>
         rw [cond_false,Bool.not_false,Bool.true_and]
         rw [CJ (n:=f.aC.aE.length) (fun a=>(ns f.aC.aE.length).any (vZ f a)) (fun a bn=>?_) (by unfold lF; rw [bc (by omega),cond_false])]
         ·cases (ns f.aC.aE.length).any fun a=>(ns f.aC.aE.length).any (vZ f a) <;> rfl
         ·unfold lF
          have hr:=C.row (a:Int) (by omega) (by omega)
          rw [av (by omega),cond_true,C.mq (by omega) (by omega),aF]
          rw [CJ (n:=f.aC.aE.length) (vZ f a) (fun b hb=>?_) (by unfold lE; rw [bc (by omega),cond_false])]
          ·rw [bQ (by omega)]
          ·unfold lE
           rw [av (by omega),cond_true,C.l8 (by omega) (by omega) (by omega) (by omega),aF]
           unfold vZ
           by_cases e:gi f.aC.To a=gi f.aC.aE b
           ·have k:=C.cell a b (by omega) (by omega) (by omega) (by omega) e
            have ka:=H.ar (a:=(a:Int)) (by omega) (by omega)
            have kb:=H.ar (a:=(b:Int)) (by omega) (by omega)
            rw [uc e,av (show gk f.aC.aB a b ≥ 0 from k.1),cond_true,H.wQ k.1 k.2.1,aF,H.wQ (by omega) (by omega),aF,H.wQ (by omega) (by omega),aF,T.sY ka.1 ka.2 kb.1 kb.2,aF,aF,Bool.true_and,bQ (by omega)]; rfl
           ·have:=C.none a b (by omega) (by omega) (by omega) (by omega) e
            rw [o3 e,bc (show ¬ gk f.aC.aB a b ≥ 0 by omega),cond_false,aF,Bool.false_and,bQ (by omega)]; rfl
       ·have kx:=H.ob (x:=(x:Int)) (by omega) (by omega)
        have ki:=C.id (x:=(x:Int)) (by omega) (by omega)
        unfold lD
        rw [av (by omega),cond_true,C.p8 (by omega) (by omega),aF,H.wQ ki.1 ki.2,aF,H.zd (by omega) (by omega),aF,T.p8 kx.1 kx.2,aF,bQ (by omega)]
        rfl
     ·have ka:=H.ar (a:=(a:Int)) (by omega) (by omega)
      have kf:=C.fr (f:=(a:Int)) (by omega) (by omega)
      have kt:=C.to (f:=(a:Int)) (by omega) (by omega)
      unfold lC
      rw [av (by omega),cond_true,H.wQ (by omega) (by omega),aF,T.jx ka.1 ka.2,aF,C.jx (by omega) (by omega),aF,H.zd kf.1 kf.2,aF,T.kz ka.1 ka.2,aF,C.kz (by omega) (by omega),aF,H.zd kt.1 kt.2,aF,bQ (by omega),ue,AF,aF]
      rfl
  ·rw [vS (by omega),cond_true,o3 e2]; rfl
 ·rw [vS e1,cond_true,o3 e1]; rfl
theorem CT (a b:List Int) (ha:a.length≤1048576) (hb:∀ x∈a,0≤x∧x < b.length):kS a b=some (thenS a b):=by
 unfold kS
 refine (congrArg ao (wJ a.length (fun i=>gi b (gi a i)) (fun acc i=>(acc,(i:Int))) rfl ?_ ?_)).trans rfl
 ·intro i acc hi Ed
  have hm:=hb _ (fu (l:=a) (j:=(i:Int)) (by omega) (by omega))
  show jO a b acc i=_
  unfold jO
  rw [av (by omega),cond_true,cH (by omega) (by omega),aF,cH hm.1 hm.2,aF,dH (by omega) (by omega),aF,bQ (by omega)]
 ·intro acc _
  show jO a b acc _=_
  unfold jO
  rw [bc (by omega),cond_false]
theorem Kt (l:List aG) (hl:l.length≤1048576) (hs:∀ c∈l,gx c):jM l=some (l.all p9):=by
 unfold jM
 refine (congrArg ao (jc l (fun c=>!p9 c) (fun i=>(i:Int)) rfl ?_ ?_ (e:=(l.length:Int)) (y:=false) ?_)).trans ?_
 ·intro i x hx hp
  have hi:=bg hx
  unfold iD
  rw [av (by omega),cond_true,bp,hx,aF,O4 (hs x (List.mem_of_getElem? hx)),aF,show (!p9 x)=false from hp,cond_false,bQ (by omega)]
 ·intro i x hx hp
  have hi:=bg hx
  unfold iD
  rw [av (by omega),cond_true,bp,hx,aF,O4 (hs x (List.mem_of_getElem? hx)),aF,show (!p9 x)=true from hp,cond_true]
 ·unfold iD
  rw [bc (by omega),cond_false]
 ·rw [ni]
  cases l.all p9 <;> rfl
theorem zM {f:aI} (hs:fg f):eQ f=some (cw f):=by
 unfold eQ cw wY
 rw [Kt _ (by simp) (by intro c hc; simp at hc; rcases hc with rfl | rfl; exact hs.s; exact hs.t),aF]
 simp only [List.all_cons,List.all_nil,Bool.and_true]
 cases h1:p9 f.aC with
 | false=>rfl
 | true=>
  cases h2:p9 f.aD with
  | false=>rfl
  | true=>
   rw [Bool.true_and,cond_true,PD hs (yY h1) (yY h2)]
   rfl
theorem z7 (l:List aI) (hl:l.length≤1048576) (hs:∀ c∈l,fg c):gR l=some (l.all cw):=by
 unfold gR
 refine (congrArg ao (jc l (fun c=>!cw c) (fun i=>(i:Int)) rfl ?_ ?_ (e:=(l.length:Int)) (y:=false) ?_)).trans ?_
 ·intro i x hx hp
  have hi:=bg hx
  unfold jH
  rw [av (by omega),cond_true,bp,hx,aF,zM (hs x (List.mem_of_getElem? hx)),aF,show (!cw x)=false from hp,cond_false,bQ (by omega)]
 ·intro i x hx hp
  have hi:=bg hx
  unfold jH
  rw [av (by omega),cond_true,bp,hx,aF,zM (hs x (List.mem_of_getElem? hx)),aF,show (!cw x)=true from hp,cond_true]
 ·unfold jH
  rw [bc (by omega),cond_false]
 ·rw [ni]
  cases l.all cw <;> rfl
theorem JP (l:List Int) (hl:l.length≤1048576):eS l=some l:=by
 unfold eS
 rw [dH (by simp; omega) (by simp; omega),aF]; rfl
theorem Ku {c d:aG} {o a:List Int} (hc:gx c) (hd:gx d) (ho:o.length≤1048576) (ha:a.length≤1048576):mG c d o a=some (aI.mk c d o a):=by
 unfold mG
 rw [JD hc,aF,JD hd,aF,JP o ho,aF,JP a ha,aF]; rfl
theorem zf {c d:aG} {o a:List Int} (hc:gx c) (hd:gx d) (ho:o.length≤1048576) (ha:a.length≤1048576):jA c d o a=some (aI.mk c d o a):=by
 unfold jA
 rw [zb hc,aF,zb hd,aF,jm o ho,aF,jm a ha,aF]; rfl
def aw (f g:aI):aI:=aI.mk f.aC g.aD (thenS f.aA g.aA) (thenS f.ab g.ab)
theorem o7 (a b:List Int):(thenS a b).length=a.length:=by unfold thenS; rw [cP]
section
variable {f g:aI} (F:FHead f) (G:FHead g) (e:f.aD=g.aC)
include F G e
theorem CX:(∀ x∈f.aA,0≤x∧x < g.aA.length)∧∀ x∈f.ab,0≤x∧x < g.ab.length:=by
 have h1:=G.ol
 have h2:=G.al
 rw [← e] at h1 h2
 exact ⟨fun x hx=>⟨(F.oo x hx).1,by have:=(F.oo x hx).2; omega⟩,fun x hx=>⟨(F.aa x hx).1,by have:=(F.aa x hx).2; omega⟩⟩
theorem CO (hf:fg f) (hg:fg g):iJ f g=some (aw f g):=by
 obtain ⟨h1,h2⟩:=CX F G e
 unfold iJ
 rw [Ea _ _ hf.o h1,aF,Ea _ _ hf.a h2,aF,Ku hf.s hg.t (by rw [o7]; exact hf.o) (by rw [o7]; exact hf.a),aF]; rfl
theorem Pb (hf:fg f) (hg:fg g):pF f g=some (aw f g):=by
 obtain ⟨h1,h2⟩:=CX F G e
 unfold pF
 rw [CT _ _ hf.o h1,aF,CT _ _ hf.a h2,aF,zf hf.s hg.t (by rw [o7]; exact hf.o) (by rw [o7]; exact hf.a),aF]; rfl
end
theorem n9 {f g:aI} (hf:cw f=true) (hg:cw g=true) (e:f.aD=g.aC):cw (aw f g)=true:=by
 have F:=dg hf
 have G:=dg hg
 have h1:p9 f.aC=true:=by unfold cw wY at hf; simp only [Bool.and_eq_true] at hf; exact hf.1.1
 have h2:p9 g.aD=true:=by unfold cw wY at hg; simp only [Bool.and_eq_true] at hg; exact hg.1.2.1
 have go:∀ x:Int,0≤x→x < f.aC.aA→gi (thenS f.aA g.aA) x=gi g.aA (gi f.aA x):=fun x x0 x1=>mi x0 (by rw [F.ol]; exact x1)
 have ga:∀ a:Int,0≤a→a < f.aC.aE.length→gi (thenS f.ab g.ab) a=gi g.ab (gi f.ab a):=fun a a0 a1=>mi a0 (by rw [F.al]; exact a1)
 have ob:∀ x:Int,0≤x→x < f.aC.aA→0≤gi f.aA x∧gi f.aA x < g.aC.aA:=fun x x0 x1=>by rw [← e]; exact F.ob x0 x1
 have ar:∀ a:Int,0≤a→a < f.aC.aE.length→0≤gi f.ab a∧gi f.ab a < g.aC.aE.length:=fun a a0 a1=>by rw [← e]; exact F.ar a0 a1
 obtain ⟨t1,t2⟩:=CX F.toFHead G.toFHead e
 refine Pm (f:=aw f g) h1 h2 ?_ ?_ ?_ ?_ ?_ ?_ ?_ ?_
 ·show ((thenS _ _).length:Int)=_; rw [o7]; exact F.ol
 ·show (thenS _ _).length=_; rw [o7]; exact F.al
 ·exact fun y hy=>Hc t1 G.oo hy
 ·exact fun y hy=>Hc t2 G.aa hy
 ·intro a a0 a1
  have kf:=F.c.fr a0 a1
  show gi g.aD.aE (gi (thenS f.ab g.ab) a)=gi (thenS f.aA g.aA) (gi f.aC.aE a)
  rw [ga a a0 a1,go _ kf.1 kf.2,G.fr _ (ar a a0 a1).1 (ar a a0 a1).2,← e,F.fr a a0 a1]
 ·intro a a0 a1
  have kf:=F.c.to a0 a1
  show gi g.aD.To (gi (thenS f.ab g.ab) a)=gi (thenS f.aA g.aA) (gi f.aC.To a)
  rw [ga a a0 a1,go _ kf.1 kf.2,G.to _ (ar a a0 a1).1 (ar a a0 a1).2,← e,F.to a a0 a1]
 ·intro x x0 x1
  have ki:=F.c.id x0 x1
  show gi (thenS f.ab g.ab) (gi f.aC.aH x)=gi g.aD.aH (gi (thenS f.aA g.aA) x)
  rw [ga _ ki.1 ki.2,go x x0 x1,F.un x x0 x1,← G.un _ (ob x x0 x1).1 (ob x x0 x1).2,e]
 ·intro a b a0 a1 b0 b1 h
  have k:=F.c.cell a b a0 a1 b0 b1 h
  show gi (thenS f.ab g.ab) (gk f.aC.aB a b)=gk g.aD.aB (gi (thenS f.ab g.ab) a) (gi (thenS f.ab g.ab) b)
  rw [ga _ k.1 k.2.1,ga a a0 a1,ga b b0 b1,F.co a b a0 a1 b0 b1 h,← G.co _ _ (ar a a0 a1).1 (ar a a0 a1).2 (ar b b0 b1).1 (ar b b0 b1).2 (by rw [← e,F.to a a0 a1,F.fr b b0 b1]; exact congrArg (gi f.aA) h),e]
end Go.Proofs.YtgjbmjjihmfppaaGreat
namespace Go.Proofs.YtgjbmjjihmfppaaGreat
open Go Go.Li
set_option linter.unusedVariables false
structure PE (m:dI):Prop where
 s:fg m.aC
 t:fg m.aD
 p:m.fk.length≤1048576
def Ft (t:dI):Bool:=cw t.aC && (cw t.aD && ((tG t.aC.aC t.aD.aC && tG t.aC.aD t.aD.aD) && (((t.fk.length:Int) == t.aC.aC.aA) && p7 t.aC.aD.aE.length t.fk)))
def Sb (t:dI) (x:Int):Bool:=(gi t.aC.aD.aE (gi t.fk x) != gi t.aC.aA x) || (gi t.aC.aD.To (gi t.fk x) != gi t.aD.aA x)
def tb (f g:aI) (p:List Int) (a:Int):Bool:=gk f.aD.aB (gi f.ab a) (gi p (gi f.aC.To a)) == gk f.aD.aB (gi p (gi f.aC.aE a)) (gi g.ab a)
def Sd (t:dI):Bool:=!((ns t.aC.aC.aE.length).any fun a=>!(tb t.aC t.aD t.fk a))
def Hx (t:dI):Bool:=!((ns t.fk.length).any (Sb t))
def uU (t:dI):Bool:=(Ft t && Hx t) && Sd t
structure THead (t:dI):Prop where
 f:Lr t.aC
 g:Lr t.aD
 fb:cw t.aC=true
 gb:cw t.aD=true
 es:t.aD.aC=t.aC.aC
 et:t.aD.aD=t.aC.aD
 pl:(t.fk.length:Int)=t.aC.aC.aA
 pp:∀ y∈t.fk,0≤y∧y < t.aC.aD.aE.length
theorem Se {t:dI} (h:Ft t=true):THead t:=by
 unfold Ft at h
 simp only [Bool.and_eq_true,beq_iff_eq,qt,wK] at h
 obtain ⟨h1,h2,⟨h3,h4⟩,h5,h6⟩:=h
 exact ⟨dg h1,dg h2,h1,h2,h3.symm,h4.symm,h5,h6⟩
namespace THead
variable {t:dI} (H:THead t)
include H
theorem cp {x:Int} (h0:0≤x) (h1:x < t.aC.aC.aA):0≤gi t.fk x∧gi t.fk x < t.aC.aD.aE.length:=H.pp _ (fu h0 (by rw [H.pl]; exact h1))
end THead
structure TL (t:dI):Prop extends THead t where
 pf:∀ x:Int,0≤x→x < t.aC.aC.aA→gi t.aC.aD.aE (gi t.fk x)=gi t.aC.aA x
 pt:∀ x:Int,0≤x→x < t.aC.aC.aA→gi t.aC.aD.To (gi t.fk x)=gi t.aD.aA x
theorem Sf {t:dI} (h1:Ft t=true) (h2:Hx t=true):TL t:=by
 have H:=Se h1
 have hl:=H.pl
 unfold Hx at h2
 rw [Bool.not_eq_true',ec] at h2
 refine { H with pf:=fun a a0 a1=>?_,pt:=fun a a0 a1=>?_ } <;>
 ·have:=h2 a a0 (by omega)
  unfold Sb at this
  simp only [Bool.or_eq_false_iff,bne_eq_false_iff_eq] at this
  first | exact this.1 | exact this.2
structure afV (t:dI):Prop extends TL t where
 sq:∀ a:Int,0≤a→a < t.aC.aC.aE.length→gk t.aC.aD.aB (gi t.aC.ab a) (gi t.fk (gi t.aC.aC.To a))=gk t.aC.aD.aB (gi t.fk (gi t.aC.aC.aE a)) (gi t.aD.ab a)
theorem Pg {t:dI} (h:uU t=true):afV t:=by
 unfold uU at h
 simp only [Bool.and_eq_true] at h
 obtain ⟨⟨h1,h2⟩,h3⟩:=h
 unfold Sd at h3
 rw [Bool.not_eq_true',ec] at h3
 refine { Sf h1 h2 with sq:=fun a a0 a1=>?_ }
 have:=h3 a a0 a1
 unfold tb at this
 simpa using this
theorem YL {t:dI} (fb:cw t.aC=true) (gb:cw t.aD=true) (es:t.aD.aC=t.aC.aC) (et:t.aD.aD=t.aC.aD) (pl:(t.fk.length:Int)=t.aC.aC.aA) (pp:∀ y∈t.fk,0≤y∧y < t.aC.aD.aE.length)
  (pf:∀ x:Int,0≤x→x < t.aC.aC.aA→gi t.aC.aD.aE (gi t.fk x)=gi t.aC.aA x) (pt:∀ x:Int,0≤x→x < t.aC.aC.aA→gi t.aC.aD.To (gi t.fk x)=gi t.aD.aA x)
  (sq:∀ a:Int,0≤a→a < t.aC.aC.aE.length→gk t.aC.aD.aB (gi t.aC.ab a) (gi t.fk (gi t.aC.aC.To a))=gk t.aC.aD.aB (gi t.fk (gi t.aC.aC.aE a)) (gi t.aD.ab a)):uU t=true:=by
 unfold uU Ft Hx Sd
 simp only [Bool.and_eq_true,Bool.not_eq_true',beq_iff_eq,qt,wK,fb,gb,true_and]
 refine ⟨⟨⟨⟨es.symm,et.symm⟩,pl,pp⟩,?_⟩,?_⟩
 ·rw [ec]
  intro x x0 x1
  unfold Sb
  rw [pf x x0 (by omega),pt x x0 (by omega)]; simp
 ·rw [ec]
  intro a a0 a1
  unfold tb
  rw [sq a a0 a1]; simp
end Go.Proofs.YtgjbmjjihmfppaaGreat
namespace Go.Proofs.YtgjbmjjihmfppaaGreat
open Go Go.Li
set_option linter.unusedVariables false
section
variable {t:dI} {g:aI} (ht:uU t=true) (hg:cw g=true) (e:t.aC.aD=g.aC)
include ht hg e
omit hg e in
end
section
variable {t:dI} {f:aI} (hf:cw f=true) (ht:uU t=true) (e:f.aD=t.aC.aC)
include hf ht e
end
section
variable {s t:dI} (hs:uU s=true) (ht:uU t=true) (e:s.aD=t.aC)
include hs ht e
end
end Go.Proofs.YtgjbmjjihmfppaaGreat
