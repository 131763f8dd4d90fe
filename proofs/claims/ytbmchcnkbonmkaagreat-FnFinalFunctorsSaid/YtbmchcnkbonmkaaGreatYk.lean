/- Functors: what the reference's and the program's looks at them give. No condition beside those that each theorem names. -/
import Derived.Test.YtbmchcnkbonmkaaGreatVj
namespace Go.Proofs.YtbmchcnkbonmkaaGreat
open Go Go.Li
set_option linter.unusedVariables false
structure tB (f:aJ):Prop where
 s:ir f.aE
 t:ir f.aF
 o:f.aA.length≤1048576
 a:f.ah.length≤1048576
def zO (f:aJ):Bool:=ri f.aE && (ri f.aF && ((((f.aA.length:Int) == f.aE.aA) && (f.ah.length == f.aE.aC.length)) && (rb f.aF.aA f.aA && rb f.aF.aC.length f.ah)))
def zd (f:aJ) (a:Int):Bool:=(gi f.aF.aC (gi f.ah a) != gi f.aA (gi f.aE.aC a)) || (gi f.aF.To (gi f.ah a) != gi f.aA (gi f.aE.To a))
def BH (f:aJ) (x:Int):Bool:=gi f.ah (gi f.aE.aH x) != gi f.aF.aH (gi f.aA x)
def vV (f:aJ) (a b:Int):Bool:=(gi f.aE.To a == gi f.aE.aC b) && (gi f.ah (gk f.aE.aB a b) != gk f.aF.aB (gi f.ah a) (gi f.ah b))
def zP (f:aJ):Bool:=!((ns f.aE.aC.length).any (zd f))
def Ge (f:aJ):Bool:=!((ns f.aE.aA.toNat).any (BH f)) && !((ns f.aE.aC.length).any fun a=>(ns f.aE.aC.length).any (vV f a))
def fk (f:aJ):Bool:=zO f && (zP f && Ge f)
structure FHead (f:aJ):Prop where
 c:mc f.aE
 d:mc f.aF
 ol:(f.aA.length:Int)=f.aE.aA
 al:f.ah.length=f.aE.aC.length
 oo:∀ y∈f.aA,0≤y∧y < f.aF.aA
 aa:∀ y∈f.ah,0≤y∧y < f.aF.aC.length
theorem Sf {f:aJ} (h:zO f=true):FHead f:=by
 unfold zO at h
 simp only [Bool.and_eq_true,beq_iff_eq,sT] at h
 obtain ⟨h1,h2,⟨h3,h4⟩,h5,h6⟩:=h
 exact ⟨wX h1,wX h2,h3,h4,h5,h6⟩
namespace FHead
variable {f:aJ} (H:FHead f)
include H
theorem Aa {x:Int} (h0:0≤x) (h1:x < f.aE.aA):idx f.aA x=some (gi f.aA x):=bI h0 (by rw [H.ol]; exact h1)
theorem uz {a:Int} (h0:0≤a) (h1:a < f.aE.aC.length):idx f.ah a=some (gi f.ah a):=bI h0 (by rw [H.al]; exact h1)
theorem ob {x:Int} (h0:0≤x) (h1:x < f.aE.aA):0≤gi f.aA x∧gi f.aA x < f.aF.aA:=H.oo _ (fj h0 (by rw [H.ol]; exact h1))
theorem ar {a:Int} (h0:0≤a) (h1:a < f.aE.aC.length):0≤gi f.ah a∧gi f.ah a < f.aF.aC.length:=H.aa _ (fj h0 (by rw [H.al]; exact h1))
end FHead
structure M8 (f:aJ):Prop extends FHead f where
 fr:∀ a:Int,0≤a→a < f.aE.aC.length→gi f.aF.aC (gi f.ah a)=gi f.aA (gi f.aE.aC a)
 to:∀ a:Int,0≤a→a < f.aE.aC.length→gi f.aF.To (gi f.ah a)=gi f.aA (gi f.aE.To a)
theorem JT {f:aJ} (h1:zO f=true) (h2:zP f=true):M8 f:=by
 unfold zP at h2
 rw [Bool.not_eq_true',dy] at h2
 refine { Sf h1 with fr:=fun a a0 a1=>?_,to:=fun a a0 a1=>?_ } <;>
 ·have:=h2 a a0 a1
  unfold zd at this
  simp only [Bool.or_eq_false_iff,bne_eq_false_iff_eq] at this
  first | exact this.1 | exact this.2
structure Lp (f:aJ):Prop extends M8 f where
 un:∀ x:Int,0≤x→x < f.aE.aA→gi f.ah (gi f.aE.aH x)=gi f.aF.aH (gi f.aA x)
 co:∀ a b:Int,0≤a→a < f.aE.aC.length→0≤b→b < f.aE.aC.length→gi f.aE.To a=gi f.aE.aC b→gi f.ah (gk f.aE.aB a b)=gk f.aF.aB (gi f.ah a) (gi f.ah b)
theorem dq {f:aJ} (h:fk f=true):Lp f:=by
 unfold fk Ge at h
 simp only [Bool.and_eq_true,Bool.not_eq_true'] at h
 obtain ⟨h1,h2,h3,h4⟩:=h
 have E:=JT h1 h2
 have ho:=E.c.o0
 rw [dy] at h3 h4
 refine { E with un:=fun x x0 x1=>?_,co:=fun a b a0 a1 b0 b1 e=>?_ }
 ·have:=h3 x x0 (by omega)
  unfold BH at this
  simpa using this
 ·have:=(dy.1 (h4 a a0 a1)) b b0 b1
  unfold vV at this
  simpa [e] using this
theorem E4 {f:aJ} (h1:ri f.aE=true) (h2:ri f.aF=true) (ol:(f.aA.length:Int)=f.aE.aA) (al:f.ah.length=f.aE.aC.length) (oo:∀ y∈f.aA,0≤y∧y < f.aF.aA) (aa:∀ y∈f.ah,0≤y∧y < f.aF.aC.length)
  (fr:∀ a:Int,0≤a→a < f.aE.aC.length→gi f.aF.aC (gi f.ah a)=gi f.aA (gi f.aE.aC a)) (to:∀ a:Int,0≤a→a < f.aE.aC.length→gi f.aF.To (gi f.ah a)=gi f.aA (gi f.aE.To a))
  (un:∀ x:Int,0≤x→x < f.aE.aA→gi f.ah (gi f.aE.aH x)=gi f.aF.aH (gi f.aA x))
  (co:∀ a b:Int,0≤a→a < f.aE.aC.length→0≤b→b < f.aE.aC.length→gi f.aE.To a=gi f.aE.aC b→gi f.ah (gk f.aE.aB a b)=gk f.aF.aB (gi f.ah a) (gi f.ah b)):fk f=true:=by
 have C:=wX h1
 have hc:=C.o0
 unfold fk zO zP Ge
 simp only [Bool.and_eq_true,Bool.not_eq_true',beq_iff_eq,sT,h1,h2,true_and]
 refine ⟨⟨⟨ol,al⟩,oo,aa⟩,?_,?_,?_⟩
 ·rw [dy]
  intro a a0 a1
  unfold zd
  rw [fr a a0 a1,to a a0 a1]; simp
 ·rw [dy]
  intro x x0 x1
  unfold BH
  rw [un x x0 (by omega)]; simp
 ·rw [dy]
  intro a a0 a1
  rw [dy]
  intro b b0 b1
  unfold vV
  by_cases e:gi f.aE.To a=gi f.aE.aC b
  ·rw [co a b a0 a1 b0 b1 e]; simp
  ·simp [e]
theorem CH {f:aJ} (hs:tB f):pI f=some (fk f):=by
 have ho:=hs.o
 have ha:=hs.a
 unfold pI fk zO
 rw [OV hs.s,aD]
 cases h1:ri f.aE with
 | false=>rfl
 | true=>
  have C:=wX h1
  rw [OV hs.t,aD]
  cases h2:ri f.aF with
  | false=>rfl
  | true=>
   have T:=wX h2
   simp only [Bool.not_true,cond_false,Bool.true_and]
   by_cases e1:(f.aA.length:Int)=f.aE.aA
   ·rw [xp e1,cond_false,yS e1,Bool.true_and]
    by_cases e2:f.ah.length=f.aE.aC.length
    ·rw [xp (by omega),aD,cond_false,C2 _ _ (by omega),aD,yS e2,Bool.true_and]
     cases h3:rb f.aF.aA f.aA with
     | false=>rfl
     | true=>
      rw [C2 _ _ (by omega),aD]
      cases h4:rb f.aF.aC.length f.ah with
      | false=>rfl
      | true=>
       have H:FHead f:=⟨C,T,e1,e2,sT.1 h3,sT.1 h4⟩
       have cm:=C.m
       have co:=C.o8
       simp only [Bool.not_true,cond_false,aD,Bool.and_self,Bool.true_and]
       rw [CD (n:=f.aE.aC.length) (zd f) (fun a bc=>?_) (by unfold qJ; rw [ba (by omega),cond_false])]
       ·unfold zP
        cases h5:(ns f.aE.aC.length).any (zd f) with
        | true=>rfl
        | false=>
         rw [cond_false,Bool.not_false,Bool.true_and]
         rw [CD (n:=f.aE.aA.toNat) (BH f) (fun x bc=>?_) (by unfold qK; rw [ba (by omega),cond_false])]
         ·unfold Ge
          cases h6:(ns f.aE.aA.toNat).any (BH f) with
          | true=>rfl
          | false=>
           rw [cond_false,Bool.not_false,Bool.true_and]
           have E:M8 f:=JT (by unfold zO; simp [h1,h2,h3,h4,e1,e2]) (by unfold zP; rw [h5]; rfl)
           rw [CD (n:=f.aE.aC.length) (fun a=>(ns f.aE.aC.length).any (vV f a)) (fun a bc=>?_) (by unfold qM; rw [ba (by omega),cond_false])]
           ·cases (ns f.aE.aC.length).any fun a=>(ns f.aE.aC.length).any (vV f a) <;> rfl
           ·unfold qM
            rw [aq (by omega),cond_true]
            rw [CD (n:=f.aE.aC.length) (vV f a) (fun b hb=>?_) (by unfold qL; rw [ba (by omega),cond_false])]
            ·rw [bH (by omega)]
            ·unfold qL
             rw [aq (by omega),cond_true,C.jj (by omega) (by omega),aD,C.ji (by omega) (by omega),aD]
             unfold vV
             by_cases e:gi f.aE.To a=gi f.aE.aC b
             ·have k:=C.cell a b (by omega) (by omega) (by omega) (by omega) e
              have ka:=H.ar (a:=(a:Int)) (by omega) (by omega)
              have kb:=H.ar (a:=(b:Int)) (by omega) (by omega)
              rw [yS e,cond_true,C.mm (by omega) (by omega),aD,C.l5 (by omega) (by omega) (by omega) (by omega),aD,H.uz k.1 k.2.1,aD,H.uz (by omega) (by omega),aD,T.mm ka.1 ka.2,aD,H.uz (by omega) (by omega),aD,T.l5 ka.1 ka.2 kb.1 kb.2,aD,aD,Bool.true_and,bH (by omega)]; rfl
             ·rw [tV e,cond_false,aD,Bool.false_and,bH (by omega)]; rfl
         ·have kx:=H.ob (x:=(x:Int)) (by omega) (by omega)
          have ki:=C.id (x:=(x:Int)) (by omega) (by omega)
          unfold qK
          rw [aq (by omega),cond_true,C.qw (by omega) (by omega),aD,H.uz ki.1 ki.2,aD,H.Aa (by omega) (by omega),aD,T.qw kx.1 kx.2,aD,bH (by omega)]
          rfl
       ·have ka:=H.ar (a:=(a:Int)) (by omega) (by omega)
        have kf:=C.fr (f:=(a:Int)) (by omega) (by omega)
        have kt:=C.to (f:=(a:Int)) (by omega) (by omega)
        unfold qJ
        rw [aq (by omega),cond_true,H.uz (by omega) (by omega),aD,T.ji ka.1 ka.2,aD,C.ji (by omega) (by omega),aD,H.Aa kf.1 kf.2,aD,aD,T.jj ka.1 ka.2,aD,C.jj (by omega) (by omega),aD,H.Aa kt.1 kt.2,aD,bH (by omega),tY,AB,aD]
        rfl
    ·rw [yR (by omega),aD,cond_true,tV e2]; rfl
   ·rw [yR e1,cond_true,aD,cond_true,tV e1]; rfl
theorem PF {f:aJ} (hs:tB f) (C:mc f.aE) (T:mc f.aF):kE f=some (((((f.aA.length:Int) == f.aE.aA) && (f.ah.length == f.aE.aC.length)) && (rb f.aF.aA f.aA && rb f.aF.aC.length f.ah)) && (zP f && Ge f)):=by
 have ho:=hs.o
 have ha:=hs.a
 have cm:=C.m
 have co:=C.o8
 have tm:=T.m
 have to:=T.o8
 have t0:=T.o0
 unfold kE
 by_cases e1:(f.aA.length:Int)=f.aE.aA
 ·rw [xp e1,cond_false,yS e1,Bool.true_and]
  rw [show cH f.aE=some (f.aE.aC.length:Int) from rfl,aD]
  by_cases e2:f.ah.length=f.aE.aC.length
  ·rw [xp (by omega),cond_false,within _ _ (by omega) (by omega) (by omega),aD,yS e2,Bool.true_and]
   cases h3:rb f.aF.aA f.aA with
   | false=>rfl
   | true=>
    rw [Bool.not_true,cond_false,show cH f.aF=some (f.aF.aC.length:Int) from rfl,aD,within _ _ (by omega) (by omega) (by omega),aD]
    cases h4:rb f.aF.aC.length f.ah with
    | false=>rfl
    | true=>
     have H:FHead f:=⟨C,T,e1,e2,sT.1 h3,sT.1 h4⟩
     have il:=C.il
     have kl:=C.kl
     simp only [Bool.not_true,cond_false,aD,Bool.and_self,Bool.true_and]
     rw [CD (n:=f.aE.aC.length) (zd f) (fun a bc=>?_) (by unfold kX; rw [ba (by omega),cond_false])]
     ·unfold zP
      cases h5:(ns f.aE.aC.length).any (zd f) with
      | true=>rfl
      | false=>
       rw [cond_false,Bool.not_false,Bool.true_and]
       rw [CD (n:=f.aE.aA.toNat) (BH f) (fun x bc=>?_) (by unfold kY; rw [ba (by omega),cond_false])]
       ·unfold Ge
        cases h6:(ns f.aE.aA.toNat).any (BH f) with
        | true=>rfl
        | false=>
         rw [cond_false,Bool.not_false,Bool.true_and]
         rw [CD (n:=f.aE.aC.length) (fun a=>(ns f.aE.aC.length).any (vV f a)) (fun a bc=>?_) (by unfold lA; rw [ba (by omega),cond_false])]
         ·cases (ns f.aE.aC.length).any fun a=>(ns f.aE.aC.length).any (vV f a) <;> rfl
         ·unfold lA
          have hr:=C.row (a:Int) (by omega) (by omega)
          rw [aq (by omega),cond_true,C.mm (by omega) (by omega),aD]
          rw [CD (n:=f.aE.aC.length) (vV f a) (fun b hb=>?_) (by unfold kZ; rw [ba (by omega),cond_false])]
          ·rw [bH (by omega)]
          ·unfold kZ
           rw [aq (by omega),cond_true,C.l5 (by omega) (by omega) (by omega) (by omega),aD]
           unfold vV
           by_cases e:gi f.aE.To a=gi f.aE.aC b
           ·have k:=C.cell a b (by omega) (by omega) (by omega) (by omega) e
            have ka:=H.ar (a:=(a:Int)) (by omega) (by omega)
            have kb:=H.ar (a:=(b:Int)) (by omega) (by omega)
            rw [yS e,aq (show gk f.aE.aB a b ≥ 0 from k.1),cond_true,H.uz k.1 k.2.1,aD,H.uz (by omega) (by omega),aD,H.uz (by omega) (by omega),aD,T.q9 ka.1 ka.2 kb.1 kb.2,aD,aD,Bool.true_and,bH (by omega)]; rfl
           ·have:=C.none a b (by omega) (by omega) (by omega) (by omega) e
            rw [tV e,ba (show ¬ gk f.aE.aB a b ≥ 0 by omega),cond_false,aD,Bool.false_and,bH (by omega)]; rfl
       ·have kx:=H.ob (x:=(x:Int)) (by omega) (by omega)
        have ki:=C.id (x:=(x:Int)) (by omega) (by omega)
        unfold kY
        rw [aq (by omega),cond_true,C.qw (by omega) (by omega),aD,H.uz ki.1 ki.2,aD,H.Aa (by omega) (by omega),aD,T.qw kx.1 kx.2,aD,bH (by omega)]
        rfl
     ·have ka:=H.ar (a:=(a:Int)) (by omega) (by omega)
      have kf:=C.fr (f:=(a:Int)) (by omega) (by omega)
      have kt:=C.to (f:=(a:Int)) (by omega) (by omega)
      unfold kX
      rw [aq (by omega),cond_true,H.uz (by omega) (by omega),aD,T.ji ka.1 ka.2,aD,C.ji (by omega) (by omega),aD,H.Aa kf.1 kf.2,aD,T.jj ka.1 ka.2,aD,C.jj (by omega) (by omega),aD,H.Aa kt.1 kt.2,aD,bH (by omega),tY,AB,aD]
      rfl
  ·rw [yR (by omega),cond_true,tV e2]; rfl
 ·rw [yR e1,cond_true,tV e1]; rfl
theorem Kh (l:List aG) (hl:l.length≤1048576) (hs:∀ c∈l,ir c):jR l=some (l.all ri):=by
 unfold jR
 refine (congrArg ak (l4 l (fun c=>!ri c) (fun i=>(i:Int)) rfl ?_ ?_ (e:=(l.length:Int)) (y:=false) ?_)).trans ?_
 ·intro i x hx hp
  have hi:=bd hx
  unfold gV
  rw [aq (by omega),cond_true,bx,hx,aD,Jn (hs x (List.mem_of_getElem? hx)),aD,show (!ri x)=false from hp,cond_false,bH (by omega)]
 ·intro i x hx hp
  have hi:=bd hx
  unfold gV
  rw [aq (by omega),cond_true,bx,hx,aD,Jn (hs x (List.mem_of_getElem? hx)),aD,show (!ri x)=true from hp,cond_true]
 ·unfold gV
  rw [ba (by omega),cond_false]
 ·rw [ov]
  cases l.all ri <;> rfl
theorem tb {f:aJ} (hs:tB f):dA f=some (fk f):=by
 unfold dA fk zO
 rw [Kh _ (by simp) (by intro c hc; simp at hc; rcases hc with rfl | rfl; exact hs.s; exact hs.t),aD]
 simp only [List.all_cons,List.all_nil,Bool.and_true]
 cases h1:ri f.aE with
 | false=>rfl
 | true=>
  cases h2:ri f.aF with
  | false=>rfl
  | true=>
   rw [Bool.true_and,cond_true,PF hs (wX h1) (wX h2)]
   rfl
theorem AI (l:List Int) (hl:l.length≤1048576):eA l=some l:=by
 unfold eA
 rw [cN (by simp; omega) (by simp; omega),aD]; rfl
theorem DD {c d:aG} {o a:List Int} (hc:ir c) (hd:ir d) (ho:o.length≤1048576) (ha:a.length≤1048576):mE c d o a=some (aJ.mk c d o a):=by
 unfold mE
 rw [Jr hc,aD,Jr hd,aD,AI o ho,aD,AI a ha,aD]; rfl
theorem yZ {c d:aG} {o a:List Int} (hc:ir c) (hd:ir d) (ho:o.length≤1048576) (ha:a.length≤1048576):jC c d o a=some (aJ.mk c d o a):=by
 unfold jC
 rw [yY hc,aD,yY hd,aD,iu o ho,aD,iu a ha,aD]; rfl
theorem w5 (a b:List Int):(thenS a b).length=a.length:=by unfold thenS; rw [bL]
section
variable {f g:aJ} (F:FHead f) (G:FHead g) (e:f.aF=g.aE)
include F G e
end
end Go.Proofs.YtbmchcnkbonmkaaGreat
namespace Go.Proofs.YtbmchcnkbonmkaaGreat
open Go Go.Li
set_option linter.unusedVariables false
structure PG (m:cM):Prop where
 s:tB m.aE
 t:tB m.aF
 p:m.fc.length≤1048576
def Fb (t:cM):Bool:=fk t.aE && (fk t.aF && ((Hr t.aE.aE t.aF.aE && Hr t.aE.aF t.aF.aF) && (((t.fc.length:Int) == t.aE.aE.aA) && rb t.aE.aF.aC.length t.fc)))
def Sg (t:cM) (x:Int):Bool:=(gi t.aE.aF.aC (gi t.fc x) != gi t.aE.aA x) || (gi t.aE.aF.To (gi t.fc x) != gi t.aF.aA x)
def tC (f g:aJ) (p:List Int) (a:Int):Bool:=gk f.aF.aB (gi f.ah a) (gi p (gi f.aE.To a)) == gk f.aF.aB (gi p (gi f.aE.aC a)) (gi g.ah a)
def Sh (t:cM):Bool:=!((ns t.aE.aE.aC.length).any fun a=>!(tC t.aE t.aF t.fc a))
def Ht (t:cM):Bool:=!((ns t.fc.length).any (Sg t))
def uT (t:cM):Bool:=(Fb t && Ht t) && Sh t
structure THead (t:cM):Prop where
 f:Lp t.aE
 g:Lp t.aF
 fb:fk t.aE=true
 gb:fk t.aF=true
 es:t.aF.aE=t.aE.aE
 et:t.aF.aF=t.aE.aF
 pl:(t.fc.length:Int)=t.aE.aE.aA
 pp:∀ y∈t.fc,0≤y∧y < t.aE.aF.aC.length
theorem Si {t:cM} (h:Fb t=true):THead t:=by
 unfold Fb at h
 simp only [Bool.and_eq_true,beq_iff_eq,sT,Js] at h
 obtain ⟨h1,h2,⟨h3,h4⟩,h5,h6⟩:=h
 exact ⟨dq h1,dq h2,h1,h2,h3.symm,h4.symm,h5,h6⟩
namespace THead
variable {t:cM} (H:THead t)
include H
theorem cp {x:Int} (h0:0≤x) (h1:x < t.aE.aE.aA):0≤gi t.fc x∧gi t.fc x < t.aE.aF.aC.length:=H.pp _ (fj h0 (by rw [H.pl]; exact h1))
end THead
structure TL (t:cM):Prop extends THead t where
 pf:∀ x:Int,0≤x→x < t.aE.aE.aA→gi t.aE.aF.aC (gi t.fc x)=gi t.aE.aA x
 pt:∀ x:Int,0≤x→x < t.aE.aE.aA→gi t.aE.aF.To (gi t.fc x)=gi t.aF.aA x
theorem Sj {t:cM} (h1:Fb t=true) (h2:Ht t=true):TL t:=by
 have H:=Si h1
 have hl:=H.pl
 unfold Ht at h2
 rw [Bool.not_eq_true',dy] at h2
 refine { H with pf:=fun a a0 a1=>?_,pt:=fun a a0 a1=>?_ } <;>
 ·have:=h2 a a0 (by omega)
  unfold Sg at this
  simp only [Bool.or_eq_false_iff,bne_eq_false_iff_eq] at this
  first | exact this.1 | exact this.2
structure afC (t:cM):Prop extends TL t where
 sq:∀ a:Int,0≤a→a < t.aE.aE.aC.length→gk t.aE.aF.aB (gi t.aE.ah a) (gi t.fc (gi t.aE.aE.To a))=gk t.aE.aF.aB (gi t.fc (gi t.aE.aE.aC a)) (gi t.aF.ah a)
theorem Pg {t:cM} (h:uT t=true):afC t:=by
 unfold uT at h
 simp only [Bool.and_eq_true] at h
 obtain ⟨⟨h1,h2⟩,h3⟩:=h
 unfold Sh at h3
 rw [Bool.not_eq_true',dy] at h3
 refine { Sj h1 h2 with sq:=fun a a0 a1=>?_ }
 have:=h3 a a0 a1
 unfold tC at this
 simpa using this
theorem YM {t:cM} (fb:fk t.aE=true) (gb:fk t.aF=true) (es:t.aF.aE=t.aE.aE) (et:t.aF.aF=t.aE.aF) (pl:(t.fc.length:Int)=t.aE.aE.aA) (pp:∀ y∈t.fc,0≤y∧y < t.aE.aF.aC.length)
  (pf:∀ x:Int,0≤x→x < t.aE.aE.aA→gi t.aE.aF.aC (gi t.fc x)=gi t.aE.aA x) (pt:∀ x:Int,0≤x→x < t.aE.aE.aA→gi t.aE.aF.To (gi t.fc x)=gi t.aF.aA x)
  (sq:∀ a:Int,0≤a→a < t.aE.aE.aC.length→gk t.aE.aF.aB (gi t.aE.ah a) (gi t.fc (gi t.aE.aE.To a))=gk t.aE.aF.aB (gi t.fc (gi t.aE.aE.aC a)) (gi t.aF.ah a)):uT t=true:=by
 unfold uT Fb Ht Sh
 simp only [Bool.and_eq_true,Bool.not_eq_true',beq_iff_eq,sT,Js,fb,gb,true_and]
 refine ⟨⟨⟨⟨es.symm,et.symm⟩,pl,pp⟩,?_⟩,?_⟩
 ·rw [dy]
  intro x x0 x1
  unfold Sg
  rw [pf x x0 (by omega),pt x x0 (by omega)]; simp
 ·rw [dy]
  intro a a0 a1
  unfold tC
  rw [sq a a0 a1]; simp
end Go.Proofs.YtbmchcnkbonmkaaGreat
namespace Go.Proofs.YtbmchcnkbonmkaaGreat
open Go Go.Li
set_option linter.unusedVariables false
section
variable {t:cM} {g:aJ} (ht:uT t=true) (hg:fk g=true) (e:t.aE.aF=g.aE)
include ht hg e
omit hg e in
end
section
variable {t:cM} {f:aJ} (hf:fk f=true) (ht:uT t=true) (e:f.aF=t.aE.aE)
include hf ht e
end
section
variable {s t:cM} (hs:uT s=true) (ht:uT t=true) (e:s.aF=t.aE)
include hs ht e
end
end Go.Proofs.YtbmchcnkbonmkaaGreat
