/- Functors: what the reference's and the program's looks at them give. No condition beside those that each theorem names. -/
import Derived.Test.YtjdkifckhidlbaaGreatVj
namespace Go.Proofs.YtjdkifckhidlbaaGreat
open Go Go.Li
set_option linter.unusedVariables false
structure jo (f:aO):Prop where
 s:fx f.aB
 t:fx f.aF
 o:f.aA.length≤1048576
 a:f.ae.length≤1048576
def wP (f:aO):Bool:=qx f.aB && (qx f.aF && ((((f.aA.length:Int) == f.aB.aA) && (f.ae.length == f.aB.aH.length)) && (qk f.aF.aA f.aA && qk f.aF.aH.length f.ae)))
def yJ (f:aO) (a:Int):Bool:=(gi f.aF.aH (gi f.ae a) != gi f.aA (gi f.aB.aH a)) || (gi f.aF.To (gi f.ae a) != gi f.aA (gi f.aB.To a))
def Bp (f:aO) (x:Int):Bool:=gi f.ae (gi f.aB.aJ x) != gi f.aF.aJ (gi f.aA x)
def vS (f:aO) (a b:Int):Bool:=(gi f.aB.To a == gi f.aB.aH b) && (gi f.ae (gk f.aB.aE a b) != gk f.aF.aE (gi f.ae a) (gi f.ae b))
def zr (f:aO):Bool:=!((ns f.aB.aH.length).any (yJ f))
def FZ (f:aO):Bool:=!((ns f.aB.aA.toNat).any (Bp f)) && !((ns f.aB.aH.length).any fun a=>(ns f.aB.aH.length).any (vS f a))
def gn (f:aO):Bool:=wP f && (zr f && FZ f)
structure FHead (f:aO):Prop where
 c:nr f.aB
 d:nr f.aF
 ol:(f.aA.length:Int)=f.aB.aA
 al:f.ae.length=f.aB.aH.length
 oo:∀ y∈f.aA,0≤y∧y < f.aF.aA
 aa:∀ y∈f.ae,0≤y∧y < f.aF.aH.length
theorem RJ {f:aO} (h:wP f=true):FHead f:=by
 unfold wP at h
 simp only [Bool.and_eq_true,beq_iff_eq,qm] at h
 obtain ⟨h1,h2,⟨h3,h4⟩,h5,h6⟩:=h
 exact ⟨yB h1,yB h2,h3,h4,h5,h6⟩
namespace FHead
variable {f:aO} (H:FHead f)
include H
theorem uD {x:Int} (h0:0≤x) (h1:x < f.aB.aA):idx f.aA x=some (gi f.aA x):=cH h0 (by rw [H.ol]; exact h1)
theorem tn {a:Int} (h0:0≤a) (h1:a < f.aB.aH.length):idx f.ae a=some (gi f.ae a):=cH h0 (by rw [H.al]; exact h1)
theorem ob {x:Int} (h0:0≤x) (h1:x < f.aB.aA):0≤gi f.aA x∧gi f.aA x < f.aF.aA:=H.oo _ (fj h0 (by rw [H.ol]; exact h1))
theorem ar {a:Int} (h0:0≤a) (h1:a < f.aB.aH.length):0≤gi f.ae a∧gi f.ae a < f.aF.aH.length:=H.aa _ (fj h0 (by rw [H.al]; exact h1))
end FHead
structure ML (f:aO):Prop extends FHead f where
 fr:∀ a:Int,0≤a→a < f.aB.aH.length→gi f.aF.aH (gi f.ae a)=gi f.aA (gi f.aB.aH a)
 to:∀ a:Int,0≤a→a < f.aB.aH.length→gi f.aF.To (gi f.ae a)=gi f.aA (gi f.aB.To a)
theorem Jx {f:aO} (h1:wP f=true) (h2:zr f=true):ML f:=by
 unfold zr at h2
 rw [Bool.not_eq_true',ei] at h2
 refine { RJ h1 with fr:=fun a a0 a1=>?_,to:=fun a a0 a1=>?_ } <;>
 ·have:=h2 a a0 a1
  unfold yJ at this
  simp only [Bool.or_eq_false_iff,bne_eq_false_iff_eq] at this
  first | exact this.1 | exact this.2
structure Cm (f:aO):Prop extends ML f where
 un:∀ x:Int,0≤x→x < f.aB.aA→gi f.ae (gi f.aB.aJ x)=gi f.aF.aJ (gi f.aA x)
 co:∀ a b:Int,0≤a→a < f.aB.aH.length→0≤b→b < f.aB.aH.length→gi f.aB.To a=gi f.aB.aH b→gi f.ae (gk f.aB.aE a b)=gk f.aF.aE (gi f.ae a) (gi f.ae b)
theorem bp {f:aO} (h:gn f=true):Cm f:=by
 unfold gn FZ at h
 simp only [Bool.and_eq_true,Bool.not_eq_true'] at h
 obtain ⟨h1,h2,h3,h4⟩:=h
 have E:=Jx h1 h2
 have ho:=E.c.o0
 rw [ei] at h3 h4
 refine { E with un:=fun x x0 x1=>?_,co:=fun a b a0 a1 b0 b1 e=>?_ }
 ·have:=h3 x x0 (by omega)
  unfold Bp at this
  simpa using this
 ·have:=(ei.1 (h4 a a0 a1)) b b0 b1
  unfold vS at this
  simpa [e] using this
theorem Jb {f:aO} (h1:qx f.aB=true) (h2:qx f.aF=true) (ol:(f.aA.length:Int)=f.aB.aA) (al:f.ae.length=f.aB.aH.length) (oo:∀ y∈f.aA,0≤y∧y < f.aF.aA) (aa:∀ y∈f.ae,0≤y∧y < f.aF.aH.length)
  (fr:∀ a:Int,0≤a→a < f.aB.aH.length→gi f.aF.aH (gi f.ae a)=gi f.aA (gi f.aB.aH a)) (to:∀ a:Int,0≤a→a < f.aB.aH.length→gi f.aF.To (gi f.ae a)=gi f.aA (gi f.aB.To a))
  (un:∀ x:Int,0≤x→x < f.aB.aA→gi f.ae (gi f.aB.aJ x)=gi f.aF.aJ (gi f.aA x))
  (co:∀ a b:Int,0≤a→a < f.aB.aH.length→0≤b→b < f.aB.aH.length→gi f.aB.To a=gi f.aB.aH b→gi f.ae (gk f.aB.aE a b)=gk f.aF.aE (gi f.ae a) (gi f.ae b)):gn f=true:=by
 have C:=yB h1
 have hc:=C.o0
 unfold gn wP zr FZ
 simp only [Bool.and_eq_true,Bool.not_eq_true',beq_iff_eq,qm,h1,h2,true_and]
 refine ⟨⟨⟨ol,al⟩,oo,aa⟩,?_,?_,?_⟩
 ·rw [ei]
  intro a a0 a1
  unfold yJ
  rw [fr a a0 a1,to a a0 a1]; simp
 ·rw [ei]
  intro x x0 x1
  unfold Bp
  rw [un x x0 (by omega)]; simp
 ·rw [ei]
  intro a a0 a1
  rw [ei]
  intro b b0 b1
  unfold vS
  by_cases e:gi f.aB.To a=gi f.aB.aH b
  ·rw [co a b a0 a1 b0 b1 e]; simp
  ·simp [e]
theorem GM {f:aO} (hs:jo f):pN f=some (gn f):=by
 have ho:=hs.o
 have ha:=hs.a
 unfold pN gn wP
 rw [OH hs.s,aG]
 cases h1:qx f.aB with
 | false=>rfl
 | true=>
  have C:=yB h1
  rw [OH hs.t,aG]
  cases h2:qx f.aF with
  | false=>rfl
  | true=>
   have T:=yB h2
   simp only [Bool.not_true,cond_false,Bool.true_and]
   by_cases e1:(f.aA.length:Int)=f.aB.aA
   ·rw [sr e1,cond_false,qd e1,Bool.true_and]
    by_cases e2:f.ae.length=f.aB.aH.length
    ·rw [sr (by omega),aG,cond_false,Af _ _ (by omega),aG,qd e2,Bool.true_and]
     cases h3:qk f.aF.aA f.aA with
     | false=>rfl
     | true=>
      rw [Af _ _ (by omega),aG]
      cases h4:qk f.aF.aH.length f.ae with
      | false=>rfl
      | true=>
       have H:FHead f:=⟨C,T,e1,e2,qm.1 h3,qm.1 h4⟩
       have cm:=C.m
       have co:=C.o8
       simp only [Bool.not_true,cond_false,aG,Bool.and_self,Bool.true_and]
       rw [ud (n:=f.aB.aH.length) (yJ f) (fun a bj=>?_) (by unfold qN; rw [br (by omega),cond_false])]
       ·unfold zr
        cases h5:(ns f.aB.aH.length).any (yJ f) with
        | true=>rfl
        | false=>
         rw [cond_false,Bool.not_false,Bool.true_and]
         rw [ud (n:=f.aB.aA.toNat) (Bp f) (fun x bj=>?_) (by unfold qO; rw [br (by omega),cond_false])]
         ·unfold FZ
          cases h6:(ns f.aB.aA.toNat).any (Bp f) with
          | true=>rfl
          | false=>
           rw [cond_false,Bool.not_false,Bool.true_and]
           have E:ML f:=Jx (by unfold wP; simp [h1,h2,h3,h4,e1,e2]) (by unfold zr; rw [h5]; rfl)
           rw [ud (n:=f.aB.aH.length) (fun a=>(ns f.aB.aH.length).any (vS f a)) (fun a bj=>?_) (by unfold qQ; rw [br (by omega),cond_false])]
           ·cases (ns f.aB.aH.length).any fun a=>(ns f.aB.aH.length).any (vS f a) <;> rfl
           ·unfold qQ
            rw [bc (by omega),cond_true]
            rw [ud (n:=f.aB.aH.length) (vS f a) (fun b hb=>?_) (by unfold qP; rw [br (by omega),cond_false])]
            ·rw [cI (by omega)]
            ·unfold qP
             rw [bc (by omega),cond_true,C.ma (by omega) (by omega),aG,C.lg (by omega) (by omega),aG]
             unfold vS
             by_cases e:gi f.aB.To a=gi f.aB.aH b
             ·have k:=C.cell a b (by omega) (by omega) (by omega) (by omega) e
              have ka:=H.ar (a:=(a:Int)) (by omega) (by omega)
              have kb:=H.ar (a:=(b:Int)) (by omega) (by omega)
              rw [qd e,cond_true,C.o5 (by omega) (by omega),aG,C.nt (by omega) (by omega) (by omega) (by omega),aG,H.tn k.1 k.2.1,aG,H.tn (by omega) (by omega),aG,T.o5 ka.1 ka.2,aG,H.tn (by omega) (by omega),aG,T.nt ka.1 ka.2 kb.1 kb.2,aG,aG,Bool.true_and,cI (by omega)]; rfl
             ·rw [tj e,cond_false,aG,Bool.false_and,cI (by omega)]; rfl
         ·have kx:=H.ob (x:=(x:Int)) (by omega) (by omega)
          have ki:=C.id (x:=(x:Int)) (by omega) (by omega)
          unfold qO
          rw [bc (by omega),cond_true,C.oK (by omega) (by omega),aG,H.tn ki.1 ki.2,aG,H.uD (by omega) (by omega),aG,T.oK kx.1 kx.2,aG,cI (by omega)]
          rfl
       ·have ka:=H.ar (a:=(a:Int)) (by omega) (by omega)
        have kf:=C.fr (f:=(a:Int)) (by omega) (by omega)
        have kt:=C.to (f:=(a:Int)) (by omega) (by omega)
        unfold qN
        rw [bc (by omega),cond_true,H.tn (by omega) (by omega),aG,T.lg ka.1 ka.2,aG,C.lg (by omega) (by omega),aG,H.uD kf.1 kf.2,aG,aG,T.ma ka.1 ka.2,aG,C.ma (by omega) (by omega),aG,H.uD kt.1 kt.2,aG,cI (by omega),r8,xI,aG]
        rfl
    ·rw [sn (by omega),aG,cond_true,tj e2]; rfl
   ·rw [sn e1,cond_true,aG,cond_true,tj e1]; rfl
theorem Pc {f:aO} (hs:jo f) (C:nr f.aB) (T:nr f.aF):lD f=some (((((f.aA.length:Int) == f.aB.aA) && (f.ae.length == f.aB.aH.length)) && (qk f.aF.aA f.aA && qk f.aF.aH.length f.ae)) && (zr f && FZ f)):=by
 have ho:=hs.o
 have ha:=hs.a
 have cm:=C.m
 have co:=C.o8
 have tm:=T.m
 have to:=T.o8
 have t0:=T.o0
 unfold lD
 by_cases e1:(f.aA.length:Int)=f.aB.aA
 ·rw [sr e1,cond_false,qd e1,Bool.true_and]
  rw [show dB f.aB=some (f.aB.aH.length:Int) from rfl,aG]
  by_cases e2:f.ae.length=f.aB.aH.length
  ·rw [sr (by omega),cond_false,within _ _ (by omega) (by omega) (by omega),aG,qd e2,Bool.true_and]
   cases h3:qk f.aF.aA f.aA with
   | false=>rfl
   | true=>
    rw [Bool.not_true,cond_false,show dB f.aF=some (f.aF.aH.length:Int) from rfl,aG,within _ _ (by omega) (by omega) (by omega),aG]
    cases h4:qk f.aF.aH.length f.ae with
    | false=>rfl
    | true=>
     have H:FHead f:=⟨C,T,e1,e2,qm.1 h3,qm.1 h4⟩
     have il:=C.il
     have kl:=C.kl
     simp only [Bool.not_true,cond_false,aG,Bool.and_self,Bool.true_and]
     rw [ud (n:=f.aB.aH.length) (yJ f) (fun a bj=>?_) (by unfold lU; rw [br (by omega),cond_false])]
     ·unfold zr
      cases h5:(ns f.aB.aH.length).any (yJ f) with
      | true=>rfl
      | false=>
       rw [cond_false,Bool.not_false,Bool.true_and]
       rw [ud (n:=f.aB.aA.toNat) (Bp f) (fun x bj=>?_) (by unfold lV; rw [br (by omega),cond_false])]
       ·unfold FZ
        cases h6:(ns f.aB.aA.toNat).any (Bp f) with
        | true=>rfl
        | false=>
         rw [cond_false,Bool.not_false,Bool.true_and]
         rw [ud (n:=f.aB.aH.length) (fun a=>(ns f.aB.aH.length).any (vS f a)) (fun a bj=>?_) (by unfold lX; rw [br (by omega),cond_false])]
         ·cases (ns f.aB.aH.length).any fun a=>(ns f.aB.aH.length).any (vS f a) <;> rfl
         ·unfold lX
          have hr:=C.row (a:Int) (by omega) (by omega)
          rw [bc (by omega),cond_true,C.o5 (by omega) (by omega),aG]
          rw [ud (n:=f.aB.aH.length) (vS f a) (fun b hb=>?_) (by unfold lW; rw [br (by omega),cond_false])]
          ·rw [cI (by omega)]
          ·unfold lW
           rw [bc (by omega),cond_true,C.nt (by omega) (by omega) (by omega) (by omega),aG]
           unfold vS
           by_cases e:gi f.aB.To a=gi f.aB.aH b
           ·have k:=C.cell a b (by omega) (by omega) (by omega) (by omega) e
            have ka:=H.ar (a:=(a:Int)) (by omega) (by omega)
            have kb:=H.ar (a:=(b:Int)) (by omega) (by omega)
            rw [qd e,bc (show gk f.aB.aE a b ≥ 0 from k.1),cond_true,H.tn k.1 k.2.1,aG,H.tn (by omega) (by omega),aG,H.tn (by omega) (by omega),aG,T.qe ka.1 ka.2 kb.1 kb.2,aG,aG,Bool.true_and,cI (by omega)]; rfl
           ·have:=C.none a b (by omega) (by omega) (by omega) (by omega) e
            rw [tj e,br (show ¬ gk f.aB.aE a b ≥ 0 by omega),cond_false,aG,Bool.false_and,cI (by omega)]; rfl
       ·have kx:=H.ob (x:=(x:Int)) (by omega) (by omega)
        have ki:=C.id (x:=(x:Int)) (by omega) (by omega)
        unfold lV
        rw [bc (by omega),cond_true,C.oK (by omega) (by omega),aG,H.tn ki.1 ki.2,aG,H.uD (by omega) (by omega),aG,T.oK kx.1 kx.2,aG,cI (by omega)]
        rfl
     ·have ka:=H.ar (a:=(a:Int)) (by omega) (by omega)
      have kf:=C.fr (f:=(a:Int)) (by omega) (by omega)
      have kt:=C.to (f:=(a:Int)) (by omega) (by omega)
      unfold lU
      rw [bc (by omega),cond_true,H.tn (by omega) (by omega),aG,T.lg ka.1 ka.2,aG,C.lg (by omega) (by omega),aG,H.uD kf.1 kf.2,aG,T.ma ka.1 ka.2,aG,C.ma (by omega) (by omega),aG,H.uD kt.1 kt.2,aG,cI (by omega),r8,xI,aG]
      rfl
  ·rw [sn (by omega),cond_true,tj e2]; rfl
 ·rw [sn e1,cond_true,tj e1]; rfl
theorem GS (a b:List Int) (ha:a.length≤1048576) (hb:∀ x∈a,0≤x∧x < b.length):mR a b=some (thenS a b):=by
 unfold mR
 refine (congrArg aq (wA a.length (fun i=>gi b (gi a i)) (fun acc i=>(acc,(i:Int))) rfl ?_ ?_)).trans rfl
 ·intro i acc hi aqe
  have hm:=hb _ (fj (l:=a) (j:=(i:Int)) (by omega) (by omega))
  show kT a b acc i=_
  unfold kT
  rw [bc (by omega),cond_true,cH (by omega) (by omega),aG,cH hm.1 hm.2,aG,dU (by omega) (by omega),aG,cI (by omega)]
 ·intro acc _
  show kT a b acc _=_
  unfold kT
  rw [br (by omega),cond_false]
theorem JY (l:List aI) (hl:l.length≤1048576) (hs:∀ c∈l,fx c):kU l=some (l.all qx):=by
 unfold kU
 refine (congrArg aq (mg l (fun c=>!qx c) (fun i=>(i:Int)) rfl ?_ ?_ (e:=(l.length:Int)) (y:=false) ?_)).trans ?_
 ·intro i x hx hp
  have hi:=cj hx
  unfold jI
  rw [bc (by omega),cond_true,di,hx,aG,OI (hs x (List.mem_of_getElem? hx)),aG,show (!qx x)=false from hp,cond_false,cI (by omega)]
 ·intro i x hx hp
  have hi:=cj hx
  unfold jI
  rw [bc (by omega),cond_true,di,hx,aG,OI (hs x (List.mem_of_getElem? hx)),aG,show (!qx x)=true from hp,cond_true]
 ·unfold jI
  rw [br (by omega),cond_false]
 ·rw [qn]
  cases l.all qx <;> rfl
theorem GU {f:aO} (hs:jo f):jA f=some (gn f):=by
 unfold jA gn wP
 rw [JY _ (by simp) (by intro c hc; simp at hc; rcases hc with rfl | rfl; exact hs.s; exact hs.t),aG]
 simp only [List.all_cons,List.all_nil,Bool.and_true]
 cases h1:qx f.aB with
 | false=>rfl
 | true=>
  cases h2:qx f.aF with
  | false=>rfl
  | true=>
   rw [Bool.true_and,cond_true,Pc hs (yB h1) (yB h2)]
   rfl
theorem Du (l:List aO) (hl:l.length≤1048576) (hs:∀ c∈l,jo c):kM l=some (l.all gn):=by
 unfold kM
 refine (congrArg aq (mg l (fun c=>!gn c) (fun i=>(i:Int)) rfl ?_ ?_ (e:=(l.length:Int)) (y:=false) ?_)).trans ?_
 ·intro i x hx hp
  have hi:=cj hx
  unfold kO
  rw [bc (by omega),cond_true,di,hx,aG,GU (hs x (List.mem_of_getElem? hx)),aG,show (!gn x)=false from hp,cond_false,cI (by omega)]
 ·intro i x hx hp
  have hi:=cj hx
  unfold kO
  rw [bc (by omega),cond_true,di,hx,aG,GU (hs x (List.mem_of_getElem? hx)),aG,show (!gn x)=true from hp,cond_true]
 ·unfold kO
  rw [br (by omega),cond_false]
 ·rw [qn]
  cases l.all gn <;> rfl
theorem E9 (l:List Int) (hl:l.length≤1048576):gU l=some l:=by
 unfold gU
 rw [dU (by simp; omega) (by simp; omega),aG]; rfl
theorem zH {c d:aI} {o a:List Int} (hc:fx c) (hd:fx d) (ho:o.length≤1048576) (ha:a.length≤1048576):lN c d o a=some (aO.mk c d o a):=by
 unfold lN
 rw [I8 hc,aG,I8 hd,aG,E9 o ho,aG,E9 a ha,aG]; rfl
theorem sx {c d:aI} {o a:List Int} (hc:fx c) (hd:fx d) (ho:o.length≤1048576) (ha:a.length≤1048576):fY c d o a=some (aO.mk c d o a):=by
 unfold fY
 rw [yD hc,aG,yD hd,aG,ee o ho,aG,ee a ha,aG]; rfl
theorem GO {f:aO} (h:jo f):jO f=some f:=by
 unfold jO
 rw [zH h.s h.t h.o h.a,aG]; rfl
def ec (f g:aO):aO:=aO.mk f.aB g.aF (thenS f.aA g.aA) (thenS f.ae g.ae)
theorem fc (a b:List Int):(thenS a b).length=a.length:=by unfold thenS; rw [cL]
theorem tF {f g:aO} (hf:jo f) (hg:jo g):jo (ec f g):=⟨hf.s,hg.t,by show (thenS _ _).length≤_; rw [fc]; exact hf.o,by show (thenS _ _).length≤_; rw [fc]; exact hf.a⟩
section
variable {f g:aO} (F:FHead f) (G:FHead g) (e:f.aF=g.aB)
include F G e
theorem Cz:(∀ x∈f.aA,0≤x∧x < g.aA.length)∧∀ x∈f.ae,0≤x∧x < g.ae.length:=by
 have h1:=G.ol
 have h2:=G.al
 rw [← e] at h1 h2
 exact ⟨fun x hx=>⟨(F.oo x hx).1,by have:=(F.oo x hx).2; omega⟩,fun x hx=>⟨(F.aa x hx).1,by have:=(F.aa x hx).2; omega⟩⟩
theorem zl (hf:jo f) (hg:jo g):gH f g=some (ec f g):=by
 obtain ⟨h1,h2⟩:=Cz F G e
 unfold gH
 rw [Ja _ _ hf.o h1,aG,Ja _ _ hf.a h2,aG,zH hf.s hg.t (by rw [fc]; exact hf.o) (by rw [fc]; exact hf.a),aG]; rfl
theorem zk (hf:jo f) (hg:jo g):jD f g=some (ec f g):=by
 obtain ⟨h1,h2⟩:=Cz F G e
 unfold jD
 rw [GS _ _ hf.o h1,aG,GS _ _ hf.a h2,aG,sx hf.s hg.t (by rw [fc]; exact hf.o) (by rw [fc]; exact hf.a),aG]; rfl
end
theorem sw {f g:aO} (hf:gn f=true) (hg:gn g=true) (e:f.aF=g.aB):gn (ec f g)=true:=by
 have F:=bp hf
 have G:=bp hg
 have h1:qx f.aB=true:=by unfold gn wP at hf; simp only [Bool.and_eq_true] at hf; exact hf.1.1
 have h2:qx g.aF=true:=by unfold gn wP at hg; simp only [Bool.and_eq_true] at hg; exact hg.1.2.1
 have go:∀ x:Int,0≤x→x < f.aB.aA→gi (thenS f.aA g.aA) x=gi g.aA (gi f.aA x):=fun x x0 x1=>dv x0 (by rw [F.ol]; exact x1)
 have ga:∀ a:Int,0≤a→a < f.aB.aH.length→gi (thenS f.ae g.ae) a=gi g.ae (gi f.ae a):=fun a a0 a1=>dv a0 (by rw [F.al]; exact a1)
 have ob:∀ x:Int,0≤x→x < f.aB.aA→0≤gi f.aA x∧gi f.aA x < g.aB.aA:=fun x x0 x1=>by rw [← e]; exact F.ob x0 x1
 have ar:∀ a:Int,0≤a→a < f.aB.aH.length→0≤gi f.ae a∧gi f.ae a < g.aB.aH.length:=fun a a0 a1=>by rw [← e]; exact F.ar a0 a1
 obtain ⟨t1,t2⟩:=Cz F.toFHead G.toFHead e
 refine Jb (f:=ec f g) h1 h2 ?_ ?_ ?_ ?_ ?_ ?_ ?_ ?_
 ·show ((thenS _ _).length:Int)=_; rw [fc]; exact F.ol
 ·show (thenS _ _).length=_; rw [fc]; exact F.al
 ·exact fun y hy=>zq t1 G.oo hy
 ·exact fun y hy=>zq t2 G.aa hy
 ·intro a a0 a1
  have kf:=F.c.fr a0 a1
  show gi g.aF.aH (gi (thenS f.ae g.ae) a)=gi (thenS f.aA g.aA) (gi f.aB.aH a)
  rw [ga a a0 a1,go _ kf.1 kf.2,G.fr _ (ar a a0 a1).1 (ar a a0 a1).2,← e,F.fr a a0 a1]
 ·intro a a0 a1
  have kf:=F.c.to a0 a1
  show gi g.aF.To (gi (thenS f.ae g.ae) a)=gi (thenS f.aA g.aA) (gi f.aB.To a)
  rw [ga a a0 a1,go _ kf.1 kf.2,G.to _ (ar a a0 a1).1 (ar a a0 a1).2,← e,F.to a a0 a1]
 ·intro x x0 x1
  have ki:=F.c.id x0 x1
  show gi (thenS f.ae g.ae) (gi f.aB.aJ x)=gi g.aF.aJ (gi (thenS f.aA g.aA) x)
  rw [ga _ ki.1 ki.2,go x x0 x1,F.un x x0 x1,← G.un _ (ob x x0 x1).1 (ob x x0 x1).2,e]
 ·intro a b a0 a1 b0 b1 h
  have k:=F.c.cell a b a0 a1 b0 b1 h
  show gi (thenS f.ae g.ae) (gk f.aB.aE a b)=gk g.aF.aE (gi (thenS f.ae g.ae) a) (gi (thenS f.ae g.ae) b)
  rw [ga _ k.1 k.2.1,ga a a0 a1,ga b b0 b1,F.co a b a0 a1 b0 b1 h,← G.co _ _ (ar a a0 a1).1 (ar a a0 a1).2 (ar b b0 b1).1 (ar b b0 b1).2 (by rw [← e,F.to a a0 a1,F.fr b b0 b1]; exact congrArg (gi f.aA) h),e]
theorem Jy {f g:aO} (h:jo f):jJ f g=some (oh f.aB g.aB && oh f.aF g.aF):=by
 unfold jJ
 rw [tE h.s,aG,tE h.t,aG,r8,DS]; rfl
end Go.Proofs.YtjdkifckhidlbaaGreat
namespace Go.Proofs.YtjdkifckhidlbaaGreat
open Go Go.Li
set_option linter.unusedVariables false
structure Cp (m:bZ):Prop where
 s:jo m.aB
 t:jo m.aF
 p:m.an.length≤1048576
def xG (t:bZ):Bool:=gn t.aB && (gn t.aF && ((oh t.aB.aB t.aF.aB && oh t.aB.aF t.aF.aF) && (((t.an.length:Int) == t.aB.aB.aA) && qk t.aB.aF.aH.length t.an)))
def Cq (t:bZ) (x:Int):Bool:=(gi t.aB.aF.aH (gi t.an x) != gi t.aB.aA x) || (gi t.aB.aF.To (gi t.an x) != gi t.aF.aA x)
def Jj (f g:aO) (p:List Int) (a:Int):Bool:=gk f.aF.aE (gi f.ae a) (gi p (gi f.aB.To a)) == gk f.aF.aE (gi p (gi f.aB.aH a)) (gi g.ae a)
def FN (t:bZ):Bool:=!((ns t.aB.aB.aH.length).any fun a=>!(Jj t.aB t.aF t.an a))
def zi (t:bZ):Bool:=!((ns t.an.length).any (Cq t))
def jz (t:bZ):Bool:=(xG t && zi t) && FN t
structure THead (t:bZ):Prop where
 f:Cm t.aB
 g:Cm t.aF
 fb:gn t.aB=true
 gb:gn t.aF=true
 es:t.aF.aB=t.aB.aB
 et:t.aF.aF=t.aB.aF
 pl:(t.an.length:Int)=t.aB.aB.aA
 pp:∀ y∈t.an,0≤y∧y < t.aB.aF.aH.length
theorem Jz {t:bZ} (h:xG t=true):THead t:=by
 unfold xG at h
 simp only [Bool.and_eq_true,beq_iff_eq,qm,jy] at h
 obtain ⟨h1,h2,⟨h3,h4⟩,h5,h6⟩:=h
 exact ⟨bp h1,bp h2,h1,h2,h3.symm,h4.symm,h5,h6⟩
namespace THead
variable {t:bZ} (H:THead t)
include H
theorem MC {x:Int} (h0:0≤x) (h1:x < t.aB.aB.aA):idx t.an x=some (gi t.an x):=cH h0 (by rw [H.pl]; exact h1)
theorem cp {x:Int} (h0:0≤x) (h1:x < t.aB.aB.aA):0≤gi t.an x∧gi t.an x < t.aB.aF.aH.length:=H.pp _ (fj h0 (by rw [H.pl]; exact h1))
theorem OR {a:Int} (h0:0≤a) (h1:a < t.aB.aB.aH.length):0≤gi t.aF.ae a∧gi t.aF.ae a < t.aB.aF.aH.length:=by have:=H.g.ar (a:=a) h0 (by rw [H.es]; exact h1); rwa [H.et] at this
theorem SY {a:Int} (h0:0≤a) (h1:a < t.aB.aB.aH.length):idx t.aF.ae a=some (gi t.aF.ae a):=H.g.tn h0 (by rw [H.es]; exact h1)
end THead
structure Tk (t:bZ):Prop extends THead t where
 pf:∀ x:Int,0≤x→x < t.aB.aB.aA→gi t.aB.aF.aH (gi t.an x)=gi t.aB.aA x
 pt:∀ x:Int,0≤x→x < t.aB.aB.aA→gi t.aB.aF.To (gi t.an x)=gi t.aF.aA x
theorem RL {t:bZ} (h1:xG t=true) (h2:zi t=true):Tk t:=by
 have H:=Jz h1
 have hl:=H.pl
 unfold zi at h2
 rw [Bool.not_eq_true',ei] at h2
 refine { H with pf:=fun a a0 a1=>?_,pt:=fun a a0 a1=>?_ } <;>
 ·have:=h2 a a0 (by omega)
  unfold Cq at this
  simp only [Bool.or_eq_false_iff,bne_eq_false_iff_eq] at this
  first | exact this.1 | exact this.2
structure af6 (t:bZ):Prop extends Tk t where
 sq:∀ a:Int,0≤a→a < t.aB.aB.aH.length→gk t.aB.aF.aE (gi t.aB.ae a) (gi t.an (gi t.aB.aB.To a))=gk t.aB.aF.aE (gi t.an (gi t.aB.aB.aH a)) (gi t.aF.ae a)
theorem np {t:bZ} (h:jz t=true):af6 t:=by
 unfold jz at h
 simp only [Bool.and_eq_true] at h
 obtain ⟨⟨h1,h2⟩,h3⟩:=h
 unfold FN at h3
 rw [Bool.not_eq_true',ei] at h3
 refine { RL h1 h2 with sq:=fun a a0 a1=>?_ }
 have:=h3 a a0 a1
 unfold Jj at this
 simpa using this
theorem JB {t:bZ} (fb:gn t.aB=true) (gb:gn t.aF=true) (es:t.aF.aB=t.aB.aB) (et:t.aF.aF=t.aB.aF) (pl:(t.an.length:Int)=t.aB.aB.aA) (pp:∀ y∈t.an,0≤y∧y < t.aB.aF.aH.length)
  (pf:∀ x:Int,0≤x→x < t.aB.aB.aA→gi t.aB.aF.aH (gi t.an x)=gi t.aB.aA x) (pt:∀ x:Int,0≤x→x < t.aB.aB.aA→gi t.aB.aF.To (gi t.an x)=gi t.aF.aA x)
  (sq:∀ a:Int,0≤a→a < t.aB.aB.aH.length→gk t.aB.aF.aE (gi t.aB.ae a) (gi t.an (gi t.aB.aB.To a))=gk t.aB.aF.aE (gi t.an (gi t.aB.aB.aH a)) (gi t.aF.ae a)):jz t=true:=by
 unfold jz xG zi FN
 simp only [Bool.and_eq_true,Bool.not_eq_true',beq_iff_eq,qm,jy,fb,gb,true_and]
 refine ⟨⟨⟨⟨es.symm,et.symm⟩,pl,pp⟩,?_⟩,?_⟩
 ·rw [ei]
  intro x x0 x1
  unfold Cq
  rw [pf x x0 (by omega),pt x x0 (by omega)]; simp
 ·rw [ei]
  intro a a0 a1
  unfold Jj
  rw [sq a a0 a1]; simp
theorem JC {t:bZ} (H:THead t) {a:Int} (a0:0≤a) (a1:a < t.aB.aB.aH.length):jN t.aB t.aF t.an a=some (Jj t.aB t.aF t.an a):=by
 have F:=H.f
 have kf:=F.c.fr a0 a1
 have kt:=F.c.to a0 a1
 have ka:=F.ar a0 a1
 have k1:=H.cp kt.1 kt.2
 have k2:=H.cp kf.1 kf.2
 have k3:=H.OR a0 a1
 unfold jN Jj
 rw [F.tn a0 a1,aG,F.c.ma a0 a1,aG,H.MC kt.1 kt.2,aG,F.d.qe ka.1 ka.2 k1.1 k1.2,aG,F.c.lg a0 a1,aG,H.MC kf.1 kf.2,aG,H.SY a0 a1,aG,F.d.qe k2.1 k2.2 k3.1 k3.2,aG]
 rfl
theorem Yz {n k:Nat} {A0:Int→Option (Out Int Int)} {p:Int→Bool} (a0:∀ a:Nat,a < n→A0 a=bif !(p a) then some (.ret (a:Int)) else some (.norm ((a+1:Nat):Int))) (a3:A0 n=some (.exit k (n:Int))) :
  ∃ y,aq (S:=Unit) (ai (af k (aj A0 (0:Int))) fun _=>some (.ret (-1:Int)))=some y∧decide (y < 0) = !((ns n).any fun a=>!(p a)):=by
 have hx:∀ i:Nat,i < n→((!(p i))=false∧A0 i=some (.norm ((i+1:Nat):Int)))∨((!(p i))=true∧∃ y,A0 i=some (.ret y)∧0≤y):=by
  intro i hi
  rw [a0 i hi]
  cases p i with
  | true=>exact .inl ⟨rfl,rfl⟩
  | false=>exact .inr ⟨rfl,_,rfl,by omega⟩
 rcases aeV (S:=Unit) (f:=fun _=>some (.ret (-1:Int))) (n:=n) (fun a=>!(p a)) (fun y:Int=>0≤y) hx a3 with ⟨h1,h2⟩ | ⟨h1,y,h2,h3⟩
 ·rw [h1,h2]; exact ⟨_,rfl,bc (by decide)⟩
 ·rw [h1,h2]; exact ⟨y,rfl,br (by omega)⟩
theorem MN {t:bZ} (H:THead t):∃ y,lE t (fun a0 a1 a2 a3=>jN a0 a1 a2 a3)=some y∧decide (y < 0)=FN t:=by
 have cm:=H.f.c.m
 have al:=H.f.al
 unfold lE FN
 refine Yz (n:=t.aB.aB.aH.length) (fun a ha=>?_) (by unfold lY; rw [br (by omega),cond_false])
 unfold lY
 show (bif decide ((a:Int) < (t.aB.ae.length:Int)) then (jN t.aB t.aF t.an a>>=_) else _)=_
 rw [bc (by omega),cond_true,JC H (by omega) (by omega),aG,cI (by omega)]
theorem K4 {t:bZ} (hs:Cp t):fR t=some (jz t):=by
 have hp:=hs.p
 unfold fR
 have key:gK t=some (xG t && zi t):=by
  unfold gK xG
  rw [Du _ (by simp) (by intro c hc; simp at hc; rcases hc with rfl | rfl; exact hs.s; exact hs.t),aG]
  simp only [List.all_cons,List.all_nil,Bool.and_true]
  cases h1:gn t.aB with
  | false=>rfl
  | true=>
   have F:=bp h1
   cases h2:gn t.aF with
   | false=>rfl
   | true=>
    have G:=bp h2
    have dm:=F.d.m
    simp only [Bool.true_and,Bool.not_true,cond_false]
    rw [Jy hs.s,aG]
    cases h3:oh t.aB.aB t.aF.aB && oh t.aB.aF t.aF.aF with
    | false=>rfl
    | true=>
     have h4:=h3
     simp only [Bool.and_eq_true,jy] at h4
     rw [Bool.not_true,cond_false]
     by_cases e1:(t.an.length:Int)=t.aB.aB.aA
     ·rw [sr e1,cond_false,show dB t.aB.aF=some (t.aB.aF.aH.length:Int) from rfl,aG,within _ _ (by omega) (by omega) (by omega),aG,aG,qd e1,Bool.true_and,Bool.true_and]
      cases h:qk t.aB.aF.aH.length t.an with
      | false=>rfl
      | true=>
       rw [Bool.not_true,cond_false,Bool.true_and]
       have BC:=qm.1 h
       rw [ud (n:=t.an.length) (Cq t) (fun x bj=>?_) (by unfold iG; rw [br (by omega),cond_false])]
       ·unfold zi
        cases (ns t.an.length).any (Cq t) <;> rfl
       ·have kc:=BC _ (fj (l:=t.an) (j:=(x:Int)) (by omega) (by omega))
        unfold iG
        rw [bc (by omega),cond_true,cH (by omega) (by omega),aG,show eV t.aB.aF (gi t.an x)=some (qW.mk (gi t.aB.aF.aH (gi t.an x)) (gi t.aB.aF.To (gi t.an x))) by unfold eV; rw [F.d.lg kc.1 kc.2,aG,F.d.ma kc.1 kc.2,aG]; rfl,aG,F.uD (by omega) (by omega),aG,G.uD (by omega) (by rw [← h4.1]; omega),aG,cI (by omega)]
        unfold Cq
        rw [Bool.not_and]
        rfl
     ·rw [sn e1,cond_true,aG,cond_true,tj e1]; rfl
 rw [key,aG]
 unfold jz
 cases h1:xG t with
 | false=>rfl
 | true=>
  cases h2:zi t with
  | false=>rfl
  | true=>
   obtain ⟨y,e1,e2⟩:=MN (Jz h1)
   simp only [Bool.and_self,cond_true]
   rw [e1,aG,e2]; rfl
theorem MD (l:List bZ) (hl:l.length≤1048576) (hs:∀ c∈l,Cp c):kX l=some (l.all jz):=by
 unfold kX
 refine (congrArg aq (mg l (fun c=>!jz c) (fun i=>(i:Int)) rfl ?_ ?_ (e:=(l.length:Int)) (y:=false) ?_)).trans ?_
 ·intro i x hx hp
  have hi:=cj hx
  unfold kW
  rw [bc (by omega),cond_true,di,hx,aG,K4 (hs x (List.mem_of_getElem? hx)),aG,show (!jz x)=false from hp,cond_false,cI (by omega)]
 ·intro i x hx hp
  have hi:=cj hx
  unfold kW
  rw [bc (by omega),cond_true,di,hx,aG,K4 (hs x (List.mem_of_getElem? hx)),aG,show (!jz x)=true from hp,cond_true]
 ·unfold kW
  rw [br (by omega),cond_false]
 ·rw [qn]
  cases l.all jz <;> rfl
def tk (d:aI) (a b:List Int):List Int:=cn a.length fun i=>gk d.aE (gi a i) (gi b i)
theorem wB (d:aI) (a b:List Int):(tk d a b).length=a.length:=by unfold tk; rw [cL]
theorem FM {d:aI} {a b:List Int} {x:Int} (h0:0≤x) (h1:x < a.length):gi (tk d a b) x=gk d.aE (gi a x) (gi b x):=qo h0 h1
end Go.Proofs.YtjdkifckhidlbaaGreat
namespace Go.Proofs.YtjdkifckhidlbaaGreat
open Go Go.Li
set_option linter.unusedVariables false
def Cn (t:bZ) (g:aO):bZ:=bZ.mk (ec t.aB g) (ec t.aF g) (thenS t.an g.ae)
def Co (f:aO) (t:bZ):bZ:=bZ.mk (ec f t.aB) (ec f t.aF) (thenS f.aA t.an)
def MB (s t:bZ):bZ:=bZ.mk s.aB t.aF (tk s.aB.aF s.an t.an)
section
variable {t:bZ} {g:aO} (ht:jz t=true) (hg:gn g=true) (e:t.aB.aF=g.aB)
include ht hg e
theorem Uv:∀ x∈t.an,0≤x∧x < g.ae.length:=by
 have N:=np ht
 have G:=bp hg
 have h:=G.al
 rw [← e] at h
 intro x hx
 have:=N.pp x hx
 omega
omit hg e in
theorem YA {x:Int} (x0:0≤x) (x1:x < t.aB.aB.aA):gi (thenS t.an g.ae) x=gi g.ae (gi t.an x):=dv x0 (by rw [(np ht).pl]; exact x1)
theorem Jh:jz (Cn t g)=true:=by
 have N:=np ht
 have G:=bp hg
 have e2:t.aF.aF=g.aB:=N.et.trans e
 have go:∀ x:Int,0≤x→x < t.aB.aB.aA→gi (thenS t.aB.aA g.aA) x=gi g.aA (gi t.aB.aA x):=fun x x0 x1=>dv x0 (by rw [N.f.ol]; exact x1)
 have go2:∀ x:Int,0≤x→x < t.aB.aB.aA→gi (thenS t.aF.aA g.aA) x=gi g.aA (gi t.aF.aA x):=fun x x0 x1=>dv x0 (by rw [N.g.ol,N.es]; exact x1)
 have ga:∀ a:Int,0≤a→a < t.aB.aB.aH.length→gi (thenS t.aB.ae g.ae) a=gi g.ae (gi t.aB.ae a):=fun a a0 a1=>dv a0 (by rw [N.f.al]; exact a1)
 have YB:∀ a:Int,0≤a→a < t.aB.aB.aH.length→gi (thenS t.aF.ae g.ae) a=gi g.ae (gi t.aF.ae a):=fun a a0 a1=>dv a0 (by rw [N.g.al,N.es]; exact a1)
 have gc:∀ x:Int,0≤x→x < t.aB.aB.aA→gi (thenS t.an g.ae) x=gi g.ae (gi t.an x):=fun x x0 x1=>YA ht x0 x1
 have cp:∀ x:Int,0≤x→x < t.aB.aB.aA→0≤gi t.an x∧gi t.an x < g.aB.aH.length:=fun x x0 x1=>by rw [← e]; exact N.cp x0 x1
 refine JB (t:=Cn t g) (sw N.fb hg e) (sw N.gb hg e2) N.es rfl ?_ ?_ ?_ ?_ ?_
 ·show ((thenS _ _).length:Int)=_; rw [fc]; exact N.pl
 ·exact fun y hy=>zq (Uv ht hg e) G.aa hy
 ·intro x x0 x1
  show gi g.aF.aH (gi (thenS t.an g.ae) x)=gi (thenS t.aB.aA g.aA) x
  rw [gc x x0 x1,go x x0 x1,G.fr _ (cp x x0 x1).1 (cp x x0 x1).2,← e,N.pf x x0 x1]
 ·intro x x0 x1
  show gi g.aF.To (gi (thenS t.an g.ae) x)=gi (thenS t.aF.aA g.aA) x
  rw [gc x x0 x1,go2 x x0 x1,G.to _ (cp x x0 x1).1 (cp x x0 x1).2,← e,N.pt x x0 x1]
 ·intro a a0 a1
  replace a1:a < t.aB.aB.aH.length:=a1
  have kf:=N.f.c.fr a0 a1
  have kt:=N.f.c.to a0 a1
  have k1:=N.f.ar a0 a1
  have k2:=N.OR a0 a1
  have k3:=cp _ kf.1 kf.2
  have k4:=cp _ kt.1 kt.2
  show gk g.aF.aE (gi (thenS t.aB.ae g.ae) a) (gi (thenS t.an g.ae) (gi t.aB.aB.To a))=gk g.aF.aE (gi (thenS t.an g.ae) (gi t.aB.aB.aH a)) (gi (thenS t.aF.ae g.ae) a)
  have hN:=congrArg (gi g.ae) (N.sq a a0 a1)
  rw [e] at k1 k2 hN
  rw [ga a a0 a1,YB a a0 a1,gc _ kf.1 kf.2,gc _ kt.1 kt.2,← G.co _ _ k1.1 k1.2 k4.1 k4.2 ?_,← G.co _ _ k3.1 k3.2 k2.1 k2.2 ?_]
  ·exact hN
  ·rw [← e,N.pt _ kf.1 kf.2]
   have:=N.g.fr a a0 (by rw [N.es]; exact a1)
   rw [N.et,N.es] at this
   exact this.symm
  ·rw [← e,N.pf _ kt.1 kt.2]
   exact N.f.to a a0 a1
end
section
variable {t:bZ} {f:aO} (hf:gn f=true) (ht:jz t=true) (e:f.aF=t.aB.aB)
include hf ht e
theorem Uw:∀ x∈f.aA,0≤x∧x < t.an.length:=by
 have N:=np ht
 have F:=bp hf
 have h:=N.pl
 rw [← e] at h
 intro x hx
 have:=F.oo x hx
 omega
theorem Jg:jz (Co f t)=true:=by
 have N:=np ht
 have F:=bp hf
 have e2:f.aF=t.aF.aB:=e.trans N.es.symm
 have go:∀ x:Int,0≤x→x < f.aB.aA→gi (thenS f.aA t.aB.aA) x=gi t.aB.aA (gi f.aA x):=fun x x0 x1=>dv x0 (by rw [F.ol]; exact x1)
 have go2:∀ x:Int,0≤x→x < f.aB.aA→gi (thenS f.aA t.aF.aA) x=gi t.aF.aA (gi f.aA x):=fun x x0 x1=>dv x0 (by rw [F.ol]; exact x1)
 have ga:∀ a:Int,0≤a→a < f.aB.aH.length→gi (thenS f.ae t.aB.ae) a=gi t.aB.ae (gi f.ae a):=fun a a0 a1=>dv a0 (by rw [F.al]; exact a1)
 have YB:∀ a:Int,0≤a→a < f.aB.aH.length→gi (thenS f.ae t.aF.ae) a=gi t.aF.ae (gi f.ae a):=fun a a0 a1=>dv a0 (by rw [F.al]; exact a1)
 have gc:∀ x:Int,0≤x→x < f.aB.aA→gi (thenS f.aA t.an) x=gi t.an (gi f.aA x):=fun x x0 x1=>dv x0 (by rw [F.ol]; exact x1)
 have ob:∀ x:Int,0≤x→x < f.aB.aA→0≤gi f.aA x∧gi f.aA x < t.aB.aB.aA:=fun x x0 x1=>by rw [← e]; exact F.ob x0 x1
 refine JB (t:=Co f t) (sw hf N.fb e) (sw hf N.gb e2) rfl N.et ?_ ?_ ?_ ?_ ?_
 ·show ((thenS _ _).length:Int)=_; rw [fc]; exact F.ol
 ·exact fun y hy=>zq (Uw hf ht e) N.pp hy
 ·intro x x0 x1
  show gi t.aB.aF.aH (gi (thenS f.aA t.an) x)=gi (thenS f.aA t.aB.aA) x
  rw [gc x x0 x1,go x x0 x1,N.pf _ (ob x x0 x1).1 (ob x x0 x1).2]
 ·intro x x0 x1
  show gi t.aB.aF.To (gi (thenS f.aA t.an) x)=gi (thenS f.aA t.aF.aA) x
  rw [gc x x0 x1,go2 x x0 x1,N.pt _ (ob x x0 x1).1 (ob x x0 x1).2]
 ·intro a a0 a1
  replace a1:a < f.aB.aH.length:=a1
  have kf:=F.c.fr a0 a1
  have kt:=F.c.to a0 a1
  have k1:=F.ar a0 a1
  rw [e] at k1
  show gk t.aB.aF.aE (gi (thenS f.ae t.aB.ae) a) (gi (thenS f.aA t.an) (gi f.aB.To a))=gk t.aB.aF.aE (gi (thenS f.aA t.an) (gi f.aB.aH a)) (gi (thenS f.ae t.aF.ae) a)
  rw [ga a a0 a1,YB a a0 a1,gc _ kf.1 kf.2,gc _ kt.1 kt.2,← F.fr a a0 a1,← F.to a a0 a1,e]
  exact N.sq _ k1.1 k1.2
end
section
variable {s t:bZ} (hs:jz s=true) (ht:jz t=true) (e:s.aF=t.aB)
include hs ht e
theorem Ji:jz (MB s t)=true:=by
 have S:=np hs
 have N:=np ht
 have hl:=S.pl
 have D:=S.f.d
 have e1:t.aB.aF=s.aB.aF:=by rw [← e]; exact S.et
 have e2:t.aB.aB=s.aB.aB:=by rw [← e]; exact S.es
 have gc:∀ x:Int,0≤x→x < s.aB.aB.aA→gi (tk s.aB.aF s.an t.an) x=gk s.aB.aF.aE (gi s.an x) (gi t.an x):=fun x x0 x1=>FM x0 (by omega)
 have Tl:∀ x:Int,0≤x→x < s.aB.aB.aA→0≤gi t.an x∧gi t.an x < s.aB.aF.aH.length:=fun x x0 x1=>by rw [← e1]; exact N.cp x0 (by rw [e2]; exact x1)
 have pf2:∀ x:Int,0≤x→x < s.aB.aB.aA→gi s.aB.aF.aH (gi t.an x)=gi s.aF.aA x:=fun x x0 x1=>by rw [← e1,N.pf x x0 (by rw [e2]; exact x1),e]
 have pt2:∀ x:Int,0≤x→x < s.aB.aB.aA→gi s.aB.aF.To (gi t.an x)=gi t.aF.aA x:=fun x x0 x1=>by rw [← e1,N.pt x x0 (by rw [e2]; exact x1)]
 have hm:∀ x:Int,0≤x→x < s.aB.aB.aA→gi s.aB.aF.To (gi s.an x)=gi s.aB.aF.aH (gi t.an x):=fun x x0 x1=>by rw [pf2 x x0 x1,S.pt x x0 x1]
 have kc:∀ x:Int,0≤x→x < s.aB.aB.aA→_:=fun x x0 x1=>D.cell _ _ (S.cp x0 x1).1 (S.cp x0 x1).2 (Tl x x0 x1).1 (Tl x x0 x1).2 (hm x x0 x1)
 refine JB (t:=MB s t) S.fb N.gb (N.es.trans e2) (N.et.trans e1) ?_ ?_ ?_ ?_ ?_
 ·show ((tk _ _ _).length:Int)=_; rw [wB]; exact S.pl
 ·intro y hy
  replace hy:y∈tk s.aB.aF s.an t.an:=hy
  obtain ⟨i,i0,i1,hg⟩:=ue hy
  rw [wB] at i1
  rw [gc _ i0 (by omega)] at hg
  have:=kc i i0 (by omega)
  rw [hg] at this
  exact ⟨this.1,this.2.1⟩
 ·intro x x0 x1
  show gi s.aB.aF.aH (gi (tk s.aB.aF s.an t.an) x)=gi s.aB.aA x
  rw [gc x x0 x1,(kc x x0 x1).2.2.1,S.pf x x0 x1]
 ·intro x x0 x1
  show gi s.aB.aF.To (gi (tk s.aB.aF s.an t.an) x)=gi t.aF.aA x
  rw [gc x x0 x1,(kc x x0 x1).2.2.2,pt2 x x0 x1]
 ·intro a a0 a1
  replace a1:a < s.aB.aB.aH.length:=a1
  have kf:=S.f.c.fr a0 a1
  have kt:=S.f.c.to a0 a1
  have k1:=S.f.ar a0 a1
  have k2:=S.OR a0 a1
  have k3:=N.OR (a:=a) a0 (by rw [e2]; exact a1)
  rw [e1] at k3
  have sf:=S.cp kf.1 kf.2
  have stt:=S.cp kt.1 kt.2
  have tf:=Tl _ kf.1 kf.2
  have tt:=Tl _ kt.1 kt.2
  have q1:=S.sq a a0 a1
  have q2:=N.sq a a0 (by rw [e2]; exact a1)
  rw [e1,e2,← e] at q2
  have m1:gi s.aB.aF.To (gi s.aB.ae a)=gi s.aB.aF.aH (gi s.an (gi s.aB.aB.To a)):=by rw [S.f.to a a0 a1,S.pf _ kt.1 kt.2]
  have m2:gi s.aB.aF.To (gi s.an (gi s.aB.aB.aH a))=gi s.aB.aF.aH (gi s.aF.ae a):=by
   rw [S.pt _ kf.1 kf.2]
   have:=S.g.fr a a0 (by rw [S.es]; exact a1)
   rw [S.et,S.es] at this
   exact this.symm
  have m3:gi s.aB.aF.To (gi s.aF.ae a)=gi s.aB.aF.aH (gi t.an (gi s.aB.aB.To a)):=by
   rw [pf2 _ kt.1 kt.2]
   have:=S.g.to a a0 (by rw [S.es]; exact a1)
   rw [S.et,S.es] at this
   exact this
  have m4:gi s.aB.aF.To (gi t.an (gi s.aB.aB.aH a))=gi s.aB.aF.aH (gi t.aF.ae a):=by
   rw [pt2 _ kf.1 kf.2]
   have:=N.g.fr a a0 (by rw [N.es,e2]; exact a1)
   rw [N.et,e1,N.es,e2] at this
   exact this.symm
  show gk s.aB.aF.aE (gi s.aB.ae a) (gi (tk s.aB.aF s.an t.an) (gi s.aB.aB.To a))=gk s.aB.aF.aE (gi (tk s.aB.aF s.an t.an) (gi s.aB.aB.aH a)) (gi t.aF.ae a)
  rw [gc _ kt.1 kt.2,gc _ kf.1 kf.2,← D.assoc _ _ _ k1.1 k1.2 stt.1 stt.2 tt.1 tt.2 m1 (hm _ kt.1 kt.2),q1,D.assoc _ _ _ sf.1 sf.2 k2.1 k2.2 tt.1 tt.2 m2 m3,q2,D.assoc _ _ _ sf.1 sf.2 tf.1 tf.2 k3.1 k3.2 (hm _ kf.1 kf.2) m4]
end
end Go.Proofs.YtjdkifckhidlbaaGreat
