/- Functors: what the reference's and the program's looks at them give. No condition beside those that each theorem names. -/
import Derived.Test.YtcnehblmgfbfoaaGreatVj
set_option linter.unusedVariables false
set_option linter.unusedSectionVars false
set_option linter.unusedSimpArgs false
namespace Go.Proofs.YtcnehblmgfbfoaaGreat
open Go Go.Li
set_option linter.unusedVariables false
structure ew (f:aN):Prop where
 s:dv f.aG
 t:dv f.aH
 o:f.aA.length≤1048576
 a:f.ae.length≤1048576
def wP (f:aN):Bool:=ov f.aG && (ov f.aH && ((((f.aA.length:Int) == f.aG.aA) && (f.ae.length == f.aG.aB.length)) && (oq f.aH.aA f.aA && oq f.aH.aB.length f.ae)))
def vZ (f:aN) (a:Int):Bool:=(gi f.aH.aB (gi f.ae a) != gi f.aA (gi f.aG.aB a)) || (gi f.aH.To (gi f.ae a) != gi f.aA (gi f.aG.To a))
def yF (f:aN) (x:Int):Bool:=gi f.ae (gi f.aG.aF x) != gi f.aH.aF (gi f.aA x)
def sY (f:aN) (a b:Int):Bool:=(gi f.aG.To a == gi f.aG.aB b) && (gi f.ae (gk f.aG.aC a b) != gk f.aH.aC (gi f.ae a) (gi f.ae b))
def wQ (f:aN):Bool:=!((ns f.aG.aB.length).any (vZ f))
def Df (f:aN):Bool:=!((ns f.aG.aA.toNat).any (yF f)) && !((ns f.aG.aB.length).any fun a=>(ns f.aG.aB.length).any (sY f a))
def dh (f:aN):Bool:=wP f && (wQ f && Df f)
structure FHead (f:aN):Prop where
 c:gu f.aG
 d:gu f.aH
 ol:(f.aA.length:Int)=f.aG.aA
 al:f.ae.length=f.aG.aB.length
 oo:∀ y∈f.aA,0≤y∧y < f.aH.aA
 aa:∀ y∈f.ae,0≤y∧y < f.aH.aB.length
theorem NZ {f:aN} (h:wP f=true):FHead f:=by
 unfold wP at h
 simp only [Bool.and_eq_true,beq_iff_eq,qX] at h
 obtain ⟨h1,h2,⟨h3,h4⟩,h5,h6⟩:=h
 exact ⟨tW h1,tW h2,h3,h4,h5,h6⟩
namespace FHead
variable {f:aN} (H:FHead f)
include H
theorem Dg {x:Int} (h0:0≤x) (h1:x < f.aG.aA):idx f.aA x=some (gi f.aA x):=bV h0 (by rw [H.ol]; exact h1)
theorem w6 {a:Int} (h0:0≤a) (h1:a < f.aG.aB.length):idx f.ae a=some (gi f.ae a):=bV h0 (by rw [H.al]; exact h1)
theorem ob {x:Int} (h0:0≤x) (h1:x < f.aG.aA):0≤gi f.aA x∧gi f.aA x < f.aH.aA:=H.oo _ (gw h0 (by rw [H.ol]; exact h1))
theorem ar {a:Int} (h0:0≤a) (h1:a < f.aG.aB.length):0≤gi f.ae a∧gi f.ae a < f.aH.aB.length:=H.aa _ (gw h0 (by rw [H.al]; exact h1))
end FHead
structure Jy (f:aN):Prop extends FHead f where
 fr:∀ a:Int,0≤a→a < f.aG.aB.length→gi f.aH.aB (gi f.ae a)=gi f.aA (gi f.aG.aB a)
 to:∀ a:Int,0≤a→a < f.aG.aB.length→gi f.aH.To (gi f.ae a)=gi f.aA (gi f.aG.To a)
theorem Gz {f:aN} (h1:wP f=true) (h2:wQ f=true):Jy f:=by
 unfold wQ at h2
 rw [Bool.not_eq_true',jf] at h2
 refine { NZ h1 with fr:=fun a a0 a1=>?_,to:=fun a a0 a1=>?_ } <;>
 ·have:=h2 a a0 a1
  unfold vZ at this
  simp only [Bool.or_eq_false_iff,bne_eq_false_iff_eq] at this
  first | exact this.1 | exact this.2
structure uw (f:aN):Prop extends Jy f where
 un:∀ x:Int,0≤x→x < f.aG.aA→gi f.ae (gi f.aG.aF x)=gi f.aH.aF (gi f.aA x)
 co:∀ a b:Int,0≤a→a < f.aG.aB.length→0≤b→b < f.aG.aB.length→gi f.aG.To a=gi f.aG.aB b→gi f.ae (gk f.aG.aC a b)=gk f.aH.aC (gi f.ae a) (gi f.ae b)
theorem gp {f:aN} (h:dh f=true):uw f:=by
 unfold dh Df at h
 simp only [Bool.and_eq_true,Bool.not_eq_true'] at h
 obtain ⟨h1,h2,h3,h4⟩:=h
 have E:=Gz h1 h2
 have ho:=E.c.o0
 rw [jf] at h3 h4
 refine { E with un:=fun x x0 x1=>?_,co:=fun a b a0 a1 b0 b1 e=>?_ }
 ·have:=h3 x x0 (by omega)
  unfold yF at this
  simpa using this
 ·have:=(jf.1 (h4 a a0 a1)) b b0 b1
  unfold sY at this
  simpa [e] using this
theorem zt {f:aN} (h1:ov f.aG=true) (h2:ov f.aH=true) (ol:(f.aA.length:Int)=f.aG.aA) (al:f.ae.length=f.aG.aB.length) (oo:∀ y∈f.aA,0≤y∧y < f.aH.aA) (aa:∀ y∈f.ae,0≤y∧y < f.aH.aB.length)
  (fr:∀ a:Int,0≤a→a < f.aG.aB.length→gi f.aH.aB (gi f.ae a)=gi f.aA (gi f.aG.aB a)) (to:∀ a:Int,0≤a→a < f.aG.aB.length→gi f.aH.To (gi f.ae a)=gi f.aA (gi f.aG.To a))
  (un:∀ x:Int,0≤x→x < f.aG.aA→gi f.ae (gi f.aG.aF x)=gi f.aH.aF (gi f.aA x))
  (co:∀ a b:Int,0≤a→a < f.aG.aB.length→0≤b→b < f.aG.aB.length→gi f.aG.To a=gi f.aG.aB b→gi f.ae (gk f.aG.aC a b)=gk f.aH.aC (gi f.ae a) (gi f.ae b)):dh f=true:=by
 have C:=tW h1
 have hc:=C.o0
 unfold dh wP wQ Df
 simp only [Bool.and_eq_true,Bool.not_eq_true',beq_iff_eq,qX,h1,h2,true_and]
 refine ⟨⟨⟨ol,al⟩,oo,aa⟩,?_,?_,?_⟩
 ·rw [jf]
  intro a a0 a1
  unfold vZ
  rw [fr a a0 a1,to a a0 a1]; simp
 ·rw [jf]
  intro x x0 x1
  unfold yF
  rw [un x x0 (by omega)]; simp
 ·rw [jf]
  intro a a0 a1
  rw [jf]
  intro b b0 b1
  unfold sY
  by_cases e:gi f.aG.To a=gi f.aG.aB b
  ·rw [co a b a0 a1 b0 b1 e]; simp
  ·simp [e]
theorem DH {f:aN} (hs:ew f):lX f=some (dh f):=by
 have ho:=hs.o
 have ha:=hs.a
 unfold lX dh wP
 rw [FH hs.s,aE]
 cases h1:ov f.aG with
 | false=>rfl
 | true=>
  have C:=tW h1
  rw [FH hs.t,aE]
  cases h2:ov f.aH with
  | false=>rfl
  | true=>
   have T:=tW h2
   simp only [Bool.not_true,cond_false,Bool.true_and]
   by_cases e1:(f.aA.length:Int)=f.aG.aA
   ·rw [qM e1,cond_false,pI e1,Bool.true_and]
    by_cases e2:f.ae.length=f.aG.aB.length
    ·rw [qM (by omega),aE,cond_false,Ax _ _ (by omega),aE,pI e2,Bool.true_and]
     cases h3:oq f.aH.aA f.aA with
     | false=>rfl
     | true=>
      rw [Ax _ _ (by omega),aE]
      cases h4:oq f.aH.aB.length f.ae with
      | false=>rfl
      | true=>
       have H:FHead f:=⟨C,T,e1,e2,qX.1 h3,qX.1 h4⟩
       have cm:=C.m
       have co:=C.o8
       simp only [Bool.not_true,cond_false,aE,Bool.and_self,Bool.true_and]
       rw [yx (n:=f.aG.aB.length) (vZ f) (fun a bc=>?_) (by unfold mS; rw [ba (by omega),cond_false])]
       ·unfold wQ
        cases h5:(ns f.aG.aB.length).any (vZ f) with
        | true=>rfl
        | false=>
         rw [cond_false,Bool.not_false,Bool.true_and]
         rw [yx (n:=f.aG.aA.toNat) (yF f) (fun x bc=>?_) (by unfold mT; rw [ba (by omega),cond_false])]
         ·unfold Df
          cases h6:(ns f.aG.aA.toNat).any (yF f) with
          | true=>rfl
          | false=>
           rw [cond_false,Bool.not_false,Bool.true_and]
           have E:Jy f:=Gz (by unfold wP; simp [h1,h2,h3,h4,e1,e2]) (by unfold wQ; rw [h5]; rfl)
           rw [yx (n:=f.aG.aB.length) (fun a=>(ns f.aG.aB.length).any (sY f a)) (fun a bc=>?_) (by unfold mV; rw [ba (by omega),cond_false])]
           ·cases (ns f.aG.aB.length).any fun a=>(ns f.aG.aB.length).any (sY f a) <;> rfl
           ·unfold mV
            rw [au (by omega),cond_true]
            rw [yx (n:=f.aG.aB.length) (sY f a) (fun b hb=>?_) (by unfold mU; rw [ba (by omega),cond_false])]
            ·rw [bD (by omega)]
            ·unfold mU
             rw [au (by omega),cond_true,C.ke (by omega) (by omega),aE,C.j5 (by omega) (by omega),aE]
             unfold sY
             by_cases e:gi f.aG.To a=gi f.aG.aB b
             ·have k:=C.cell a b (by omega) (by omega) (by omega) (by omega) e
              have ka:=H.ar (a:=(a:Int)) (by omega) (by omega)
              have kb:=H.ar (a:=(b:Int)) (by omega) (by omega)
              rw [pI e,cond_true,C.mx (by omega) (by omega),aE,C.l8 (by omega) (by omega) (by omega) (by omega),aE,H.w6 k.1 k.2.1,aE,H.w6 (by omega) (by omega),aE,T.mx ka.1 ka.2,aE,H.w6 (by omega) (by omega),aE,T.l8 ka.1 ka.2 kb.1 kb.2,aE,aE,Bool.true_and,bD (by omega)]; rfl
             ·rw [rM e,cond_false,aE,Bool.false_and,bD (by omega)]; rfl
         ·have kx:=H.ob (x:=(x:Int)) (by omega) (by omega)
          have ki:=C.id (x:=(x:Int)) (by omega) (by omega)
          unfold mT
          rw [au (by omega),cond_true,C.l6 (by omega) (by omega),aE,H.w6 ki.1 ki.2,aE,H.Dg (by omega) (by omega),aE,T.l6 kx.1 kx.2,aE,bD (by omega)]
          rfl
       ·have ka:=H.ar (a:=(a:Int)) (by omega) (by omega)
        have kf:=C.fr (f:=(a:Int)) (by omega) (by omega)
        have kt:=C.to (f:=(a:Int)) (by omega) (by omega)
        unfold mS
        rw [au (by omega),cond_true,H.w6 (by omega) (by omega),aE,T.j5 ka.1 ka.2,aE,C.j5 (by omega) (by omega),aE,H.Dg kf.1 kf.2,aE,aE,T.ke ka.1 ka.2,aE,C.ke (by omega) (by omega),aE,H.Dg kt.1 kt.2,aE,bD (by omega),qQ,xB,aE]
        rfl
    ·rw [rQ (by omega),aE,cond_true,rM e2]; rfl
   ·rw [rQ e1,cond_true,aE,cond_true,rM e1]; rfl
theorem Lx {f:aN} (hs:ew f) (C:gu f.aG) (T:gu f.aH):iA f=some (((((f.aA.length:Int) == f.aG.aA) && (f.ae.length == f.aG.aB.length)) && (oq f.aH.aA f.aA && oq f.aH.aB.length f.ae)) && (wQ f && Df f)):=by
 have ho:=hs.o
 have ha:=hs.a
 have cm:=C.m
 have co:=C.o8
 have tm:=T.m
 have to:=T.o8
 have t0:=T.o0
 unfold iA
 by_cases e1:(f.aA.length:Int)=f.aG.aA
 ·rw [qM e1,cond_false,pI e1,Bool.true_and]
  rw [show bB f.aG=some (f.aG.aB.length:Int) from rfl,aE]
  by_cases e2:f.ae.length=f.aG.aB.length
  ·rw [qM (by omega),cond_false,within _ _ (by omega) (by omega) (by omega),aE,pI e2,Bool.true_and]
   cases h3:oq f.aH.aA f.aA with
   | false=>rfl
   | true=>
    rw [Bool.not_true,cond_false,show bB f.aH=some (f.aH.aB.length:Int) from rfl,aE,within _ _ (by omega) (by omega) (by omega),aE]
    cases h4:oq f.aH.aB.length f.ae with
    | false=>rfl
    | true=>
     have H:FHead f:=⟨C,T,e1,e2,qX.1 h3,qX.1 h4⟩
     have il:=C.il
     have kl:=C.kl
     simp only [Bool.not_true,cond_false,aE,Bool.and_self,Bool.true_and]
     rw [yx (n:=f.aG.aB.length) (vZ f) (fun a bc=>?_) (by unfold iQ; rw [ba (by omega),cond_false])]
     ·unfold wQ
      cases h5:(ns f.aG.aB.length).any (vZ f) with
      | true=>rfl
      | false=>
       rw [cond_false,Bool.not_false,Bool.true_and]
       rw [yx (n:=f.aG.aA.toNat) (yF f) (fun x bc=>?_) (by unfold iR; rw [ba (by omega),cond_false])]
       ·unfold Df
        cases h6:(ns f.aG.aA.toNat).any (yF f) with
        | true=>rfl
        | false=>
         rw [cond_false,Bool.not_false,Bool.true_and]
         rw [yx (n:=f.aG.aB.length) (fun a=>(ns f.aG.aB.length).any (sY f a)) (fun a bc=>?_) (by unfold iU; rw [ba (by omega),cond_false])]
         ·cases (ns f.aG.aB.length).any fun a=>(ns f.aG.aB.length).any (sY f a) <;> rfl
         ·unfold iU
          have hr:=C.row (a:Int) (by omega) (by omega)
          rw [au (by omega),cond_true,C.mx (by omega) (by omega),aE]
          rw [yx (n:=f.aG.aB.length) (sY f a) (fun b hb=>?_) (by unfold iS; rw [ba (by omega),cond_false])]
          ·rw [bD (by omega)]
          ·unfold iS
           rw [au (by omega),cond_true,C.l8 (by omega) (by omega) (by omega) (by omega),aE]
           unfold sY
           by_cases e:gi f.aG.To a=gi f.aG.aB b
           ·have k:=C.cell a b (by omega) (by omega) (by omega) (by omega) e
            have ka:=H.ar (a:=(a:Int)) (by omega) (by omega)
            have kb:=H.ar (a:=(b:Int)) (by omega) (by omega)
            rw [pI e,au (show gk f.aG.aC a b ≥ 0 from k.1),cond_true,H.w6 k.1 k.2.1,aE,H.w6 (by omega) (by omega),aE,H.w6 (by omega) (by omega),aE,T.pg ka.1 ka.2 kb.1 kb.2,aE,aE,Bool.true_and,bD (by omega)]; rfl
           ·have:=C.none a b (by omega) (by omega) (by omega) (by omega) e
            rw [rM e,ba (show ¬ gk f.aG.aC a b ≥ 0 by omega),cond_false,aE,Bool.false_and,bD (by omega)]; rfl
       ·have kx:=H.ob (x:=(x:Int)) (by omega) (by omega)
        have ki:=C.id (x:=(x:Int)) (by omega) (by omega)
        unfold iR
        rw [au (by omega),cond_true,C.l6 (by omega) (by omega),aE,H.w6 ki.1 ki.2,aE,H.Dg (by omega) (by omega),aE,T.l6 kx.1 kx.2,aE,bD (by omega)]
        rfl
     ·have ka:=H.ar (a:=(a:Int)) (by omega) (by omega)
      have kf:=C.fr (f:=(a:Int)) (by omega) (by omega)
      have kt:=C.to (f:=(a:Int)) (by omega) (by omega)
      unfold iQ
      rw [au (by omega),cond_true,H.w6 (by omega) (by omega),aE,T.j5 ka.1 ka.2,aE,C.j5 (by omega) (by omega),aE,H.Dg kf.1 kf.2,aE,T.ke ka.1 ka.2,aE,C.ke (by omega) (by omega),aE,H.Dg kt.1 kt.2,aE,bD (by omega),qQ,xB,aE]
      rfl
  ·rw [rQ (by omega),cond_true,rM e2]; rfl
 ·rw [rQ e1,cond_true,rM e1]; rfl
theorem AQ (l:List aD) (hl:l.length≤1048576) (hs:∀ c∈l,dv c):fI l=some (l.all ov):=by
 unfold fI
 refine (congrArg an (ks l (fun c=>!ov c) (fun i=>(i:Int)) rfl ?_ ?_ (e:=(l.length:Int)) (y:=false) ?_)).trans ?_
 ·intro i x hx hp
  have hi:=bg hx
  unfold fQ
  rw [au (by omega),cond_true,bw,hx,aE,FG (hs x (List.mem_of_getElem? hx)),aE,show (!ov x)=false from hp,cond_false,bD (by omega)]
 ·intro i x hx hp
  have hi:=bg hx
  unfold fQ
  rw [au (by omega),cond_true,bw,hx,aE,FG (hs x (List.mem_of_getElem? hx)),aE,show (!ov x)=true from hp,cond_true]
 ·unfold fQ
  rw [ba (by omega),cond_false]
 ·rw [o4]
  cases l.all ov <;> rfl
theorem zw {f:aN} (hs:ew f):dK f=some (dh f):=by
 unfold dK dh wP
 rw [AQ _ (by simp) (by intro c hc; simp at hc; rcases hc with rfl | rfl; exact hs.s; exact hs.t),aE]
 simp only [List.all_cons,List.all_nil,Bool.and_true]
 cases h1:ov f.aG with
 | false=>rfl
 | true=>
  cases h2:ov f.aH with
  | false=>rfl
  | true=>
   rw [Bool.true_and,cond_true,Lx hs (tW h1) (tW h2)]
   rfl
theorem wX (l:List aN) (hl:l.length≤1048576) (hs:∀ c∈l,ew c):eZ l=some (l.all dh):=by
 unfold eZ
 refine (congrArg an (ks l (fun c=>!dh c) (fun i=>(i:Int)) rfl ?_ ?_ (e:=(l.length:Int)) (y:=false) ?_)).trans ?_
 ·intro i x hx hp
  have hi:=bg hx
  unfold gM
  rw [au (by omega),cond_true,bw,hx,aE,zw (hs x (List.mem_of_getElem? hx)),aE,show (!dh x)=false from hp,cond_false,bD (by omega)]
 ·intro i x hx hp
  have hi:=bg hx
  unfold gM
  rw [au (by omega),cond_true,bw,hx,aE,zw (hs x (List.mem_of_getElem? hx)),aE,show (!dh x)=true from hp,cond_true]
 ·unfold gM
  rw [ba (by omega),cond_false]
 ·rw [o4]
  cases l.all dh <;> rfl
theorem sN (l:List Int) (hl:l.length≤1048576):cM l=some l:=by
 unfold cM
 rw [cB (by simp; omega) (by simp; omega),aE]; rfl
theorem rB {c d:aD} {o a:List Int} (hc:dv c) (hd:dv d) (ho:o.length≤1048576) (ha:a.length≤1048576):fK c d o a=some (aN.mk c d o a):=by
 unfold fK
 rw [Gr hc,aE,Gr hd,aE,sN o ho,aE,sN a ha,aE]; rfl
theorem vu {c d:aD} {o a:List Int} (hc:dv c) (hd:dv d) (ho:o.length≤1048576) (ha:a.length≤1048576):fG c d o a=some (aN.mk c d o a):=by
 unfold fG
 rw [vY hc,aE,vY hd,aE,jc o ho,aE,jc a ha,aE]; rfl
def Cc (f g:aN):aN:=aN.mk f.aG g.aH (thenS f.aA g.aA) (thenS f.ae g.ae)
theorem qO (a b:List Int):(thenS a b).length=a.length:=by unfold thenS; rw [aW]
section
variable {f g:aN} (F:FHead f) (G:FHead g) (e:f.aH=g.aG)
include F G e
theorem Ly:(∀ x∈f.aA,0≤x∧x < g.aA.length)∧∀ x∈f.ae,0≤x∧x < g.ae.length:=by
 have h1:=G.ol
 have h2:=G.al
 rw [← e] at h1 h2
 exact ⟨fun x hx=>⟨(F.oo x hx).1,by have:=(F.oo x hx).2; omega⟩,fun x hx=>⟨(F.aa x hx).1,by have:=(F.aa x hx).2; omega⟩⟩
theorem KA (hf:ew f) (hg:ew g):iB f g=some (Cc f g):=by
 obtain ⟨h1,h2⟩:=Ly F G e
 unfold iB
 rw [Gt _ _ hf.o h1,aE,Gt _ _ hf.a h2,aE,rB hf.s hg.t (by rw [qO]; exact hf.o) (by rw [qO]; exact hf.a),aE]; rfl
end
end Go.Proofs.YtcnehblmgfbfoaaGreat
namespace Go.Proofs.YtcnehblmgfbfoaaGreat
open Go Go.Li
set_option linter.unusedVariables false
def Vt (t:cO):Bool:=dh t.aG && (dh t.aH && ((ny t.aG.aG t.aH.aG && ny t.aG.aH t.aH.aH) && (((t.pj.length:Int) == t.aG.aG.aA) && oq t.aG.aH.aB.length t.pj)))
def aaL (t:cO) (x:Int):Bool:=(gi t.aG.aH.aB (gi t.pj x) != gi t.aG.aA x) || (gi t.aG.aH.To (gi t.pj x) != gi t.aH.aA x)
def sqB (f g:aN) (p:List Int) (a:Int):Bool:=gk f.aH.aC (gi f.ae a) (gi p (gi f.aG.To a)) == gk f.aH.aC (gi p (gi f.aG.aB a)) (gi g.ae a)
def aaM (t:cO):Bool:=!((ns t.aG.aG.aB.length).any fun a=>!(sqB t.aG t.aH t.pj a))
def Vu (t:cO):Bool:=!((ns t.pj.length).any (aaL t))
def Jz (t:cO):Bool:=(Vt t && Vu t) && aaM t
structure THead (t:cO):Prop where
 f:uw t.aG
 g:uw t.aH
 fb:dh t.aG=true
 gb:dh t.aH=true
 es:t.aH.aG=t.aG.aG
 et:t.aH.aH=t.aG.aH
 pl:(t.pj.length:Int)=t.aG.aG.aA
 pp:∀ y∈t.pj,0≤y∧y < t.aG.aH.aB.length
namespace THead
variable {t:cO} (H:THead t)
include H
end THead
end Go.Proofs.YtcnehblmgfbfoaaGreat
namespace Go.Proofs.YtcnehblmgfbfoaaGreat
open Go Go.Li
set_option linter.unusedVariables false
section
variable {t:cO} {g:aN} (ht:Jz t=true) (hg:dh g=true) (e:t.aG.aH=g.aG)
include ht hg e
omit hg e in
end
section
variable {t:cO} {f:aN} (hf:dh f=true) (ht:Jz t=true) (e:f.aH=t.aG.aG)
include hf ht e
end
section
variable {s t:cO} (hs:Jz s=true) (ht:Jz t=true) (e:s.aH=t.aG)
include hs ht e
end
end Go.Proofs.YtcnehblmgfbfoaaGreat
