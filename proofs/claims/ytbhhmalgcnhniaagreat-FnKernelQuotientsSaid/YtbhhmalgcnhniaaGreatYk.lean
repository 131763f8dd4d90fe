/- Functors: what the reference's and the program's looks at them give. No condition beside those that each theorem names. -/
import Derived.Test.YtbhhmalgcnhniaaGreatVj
set_option linter.unusedVariables false
set_option linter.unusedSectionVars false
set_option linter.unusedSimpArgs false
namespace Go.Proofs.YtbhhmalgcnhniaaGreat
open Go Go.Li
set_option linter.unusedVariables false
set_option linter.unusedSectionVars false
set_option linter.unusedSimpArgs false
structure pW (f:aO):Prop where
 s:fk f.aH
 t:fk f.aL
 o:f.aD.length≤1048576
 a:f.an.length≤1048576
def xk (f:aO):Bool:=lz f.aH && (lz f.aL && ((((f.aD.length:Int) == f.aH.aD) && (f.an.length == f.aH.aA.length)) && (lj f.aL.aD f.aD && lj f.aL.aA.length f.an)))
def wJ (f:aO) (a:Int):Bool:=(gi f.aL.aA (gi f.an a) != gi f.aD (gi f.aH.aA a)) || (gi f.aL.To (gi f.an a) != gi f.aD (gi f.aH.To a))
def zp (f:aO) (x:Int):Bool:=gi f.an (gi f.aH.aF x) != gi f.aL.aF (gi f.aD x)
def tI (f:aO) (a b:Int):Bool:=(gi f.aH.To a == gi f.aH.aA b) && (gi f.an (gk f.aH.aB a b) != gk f.aL.aB (gi f.an a) (gi f.an b))
def xl (f:aO):Bool:=!((ns f.aH.aA.length).any (wJ f))
def D1 (f:aO):Bool:=!((ns f.aH.aD.toNat).any (zp f)) && !((ns f.aH.aA.length).any fun a=>(ns f.aH.aA.length).any (tI f a))
def ox (f:aO):Bool:=xk f && (xl f && D1 f)
structure FHead (f:aO):Prop where
 c:l3 f.aH
 d:l3 f.aL
 ol:(f.aD.length:Int)=f.aH.aD
 al:f.an.length=f.aH.aA.length
 oo:∀ y∈f.aD,0≤y∧y < f.aL.aD
 aa:∀ y∈f.an,0≤y∧y < f.aL.aA.length
theorem PR {f:aO} (h:xk f=true):FHead f:=by
 unfold xk at h
 simp only [Bool.and_eq_true,beq_iff_eq,ni] at h
 obtain ⟨h1,h2,⟨h3,h4⟩,h5,h6⟩:=h
 exact ⟨rK h1,rK h2,h3,h4,h5,h6⟩
namespace FHead
variable {f:aO} (H:FHead f)
include H
theorem Ay {x:Int} (h0:0≤x) (h1:x < f.aH.aD):idx f.aD x=some (gi f.aD x):=aZ h0 (by rw [H.ol]; exact h1)
theorem tF {a:Int} (h0:0≤a) (h1:a < f.aH.aA.length):idx f.an a=some (gi f.an a):=aZ h0 (by rw [H.al]; exact h1)
theorem ob {x:Int} (h0:0≤x) (h1:x < f.aH.aD):0≤gi f.aD x∧gi f.aD x < f.aL.aD:=H.oo _ (ib h0 (by rw [H.ol]; exact h1))
theorem ar {a:Int} (h0:0≤a) (h1:a < f.aH.aA.length):0≤gi f.an a∧gi f.an a < f.aL.aA.length:=H.aa _ (ib h0 (by rw [H.al]; exact h1))
end FHead
structure KM (f:aO):Prop extends FHead f where
 fr:∀ a:Int,0≤a→a < f.aH.aA.length→gi f.aL.aA (gi f.an a)=gi f.aD (gi f.aH.aA a)
 to:∀ a:Int,0≤a→a < f.aH.aA.length→gi f.aL.To (gi f.an a)=gi f.aD (gi f.aH.To a)
theorem Hx {f:aO} (h1:xk f=true) (h2:xl f=true):KM f:=by
 unfold xl at h2
 rw [Bool.not_eq_true',gu] at h2
 refine { PR h1 with fr:=fun a a0 a1=>?_,to:=fun a a0 a1=>?_ } <;>
 ·have:=h2 a a0 a1
  unfold wJ at this
  simp only [Bool.or_eq_false_iff,bne_eq_false_iff_eq] at this
  first | exact this.1 | exact this.2
structure Na (f:aO):Prop extends KM f where
 un:∀ x:Int,0≤x→x < f.aH.aD→gi f.an (gi f.aH.aF x)=gi f.aL.aF (gi f.aD x)
 co:∀ a b:Int,0≤a→a < f.aH.aA.length→0≤b→b < f.aH.aA.length→gi f.aH.To a=gi f.aH.aA b→gi f.an (gk f.aH.aB a b)=gk f.aL.aB (gi f.an a) (gi f.an b)
theorem uV {f:aO} (h:ox f=true):Na f:=by
 unfold ox D1 at h
 simp only [Bool.and_eq_true,Bool.not_eq_true'] at h
 obtain ⟨h1,h2,h3,h4⟩:=h
 have E:=Hx h1 h2
 have ho:=E.c.o0
 rw [gu] at h3 h4
 refine { E with un:=fun x x0 x1=>?_,co:=fun a b a0 a1 b0 b1 e=>?_ }
 ·have:=h3 x x0 (by omega)
  unfold zp at this
  simpa using this
 ·have:=(gu.1 (h4 a a0 a1)) b b0 b1
  unfold tI at this
  simpa [e] using this
theorem VV {f:aO} (h1:lz f.aH=true) (h2:lz f.aL=true) (ol:(f.aD.length:Int)=f.aH.aD) (al:f.an.length=f.aH.aA.length) (oo:∀ y∈f.aD,0≤y∧y < f.aL.aD) (aa:∀ y∈f.an,0≤y∧y < f.aL.aA.length)
  (fr:∀ a:Int,0≤a→a < f.aH.aA.length→gi f.aL.aA (gi f.an a)=gi f.aD (gi f.aH.aA a)) (to:∀ a:Int,0≤a→a < f.aH.aA.length→gi f.aL.To (gi f.an a)=gi f.aD (gi f.aH.To a))
  (un:∀ x:Int,0≤x→x < f.aH.aD→gi f.an (gi f.aH.aF x)=gi f.aL.aF (gi f.aD x))
  (co:∀ a b:Int,0≤a→a < f.aH.aA.length→0≤b→b < f.aH.aA.length→gi f.aH.To a=gi f.aH.aA b→gi f.an (gk f.aH.aB a b)=gk f.aL.aB (gi f.an a) (gi f.an b)):ox f=true:=by
 have C:=rK h1
 have hc:=C.o0
 unfold ox xk xl D1
 simp only [Bool.and_eq_true,Bool.not_eq_true',beq_iff_eq,ni,h1,h2,true_and]
 refine ⟨⟨⟨ol,al⟩,oo,aa⟩,?_,?_,?_⟩
 ·rw [gu]
  intro a a0 a1
  unfold wJ
  rw [fr a a0 a1,to a a0 a1]; simp
 ·rw [gu]
  intro x x0 x1
  unfold zp
  rw [un x x0 (by omega)]; simp
 ·rw [gu]
  intro a a0 a1
  rw [gu]
  intro b b0 b1
  unfold tI
  by_cases e:gi f.aH.To a=gi f.aH.aA b
  ·rw [co a b a0 a1 b0 b1 e]; simp
  ·simp [e]
theorem EE {f:aO} (hs:pW f):oA f=some (ox f):=by
 have ho:=hs.o
 have ha:=hs.a
 unfold oA ox xk
 rw [xY hs.s,aE]
 cases h1:lz f.aH with
 | false=>rfl
 | true=>
  have C:=rK h1
  rw [xY hs.t,aE]
  cases h2:lz f.aL with
  | false=>rfl
  | true=>
   have T:=rK h2
   simp only [Bool.not_true,cond_false,Bool.true_and]
   by_cases e1:(f.aD.length:Int)=f.aH.aD
   ·rw [qR e1,cond_false,rG e1,Bool.true_and]
    by_cases e2:f.an.length=f.aH.aA.length
    ·rw [qR (by omega),aE,cond_false,xW _ _ (by omega),aE,rG e2,Bool.true_and]
     cases h3:lj f.aL.aD f.aD with
     | false=>rfl
     | true=>
      rw [xW _ _ (by omega),aE]
      cases h4:lj f.aL.aA.length f.an with
      | false=>rfl
      | true=>
       have H:FHead f:=⟨C,T,e1,e2,ni.1 h3,ni.1 h4⟩
       have cm:=C.m
       have co:=C.o8
       simp only [Bool.not_true,cond_false,aE,Bool.and_self,Bool.true_and]
       rw [ui (n:=f.aH.aA.length) (wJ f) (fun a av=>?_) (by unfold nT; rw [br (by omega),cond_false])]
       ·unfold xl
        cases h5:(ns f.aH.aA.length).any (wJ f) with
        | true=>rfl
        | false=>
         rw [cond_false,Bool.not_false,Bool.true_and]
         rw [ui (n:=f.aH.aD.toNat) (zp f) (fun x av=>?_) (by unfold nU; rw [br (by omega),cond_false])]
         ·unfold D1
          cases h6:(ns f.aH.aD.toNat).any (zp f) with
          | true=>rfl
          | false=>
           rw [cond_false,Bool.not_false,Bool.true_and]
           have E:KM f:=Hx (by unfold xk; simp [h1,h2,h3,h4,e1,e2]) (by unfold xl; rw [h5]; rfl)
           rw [ui (n:=f.aH.aA.length) (fun a=>(ns f.aH.aA.length).any (tI f a)) (fun a av=>?_) (by unfold nW; rw [br (by omega),cond_false])]
           ·cases (ns f.aH.aA.length).any fun a=>(ns f.aH.aA.length).any (tI f a) <;> rfl
           ·unfold nW
            rw [bm (by omega),cond_true]
            rw [ui (n:=f.aH.aA.length) (tI f a) (fun b hb=>?_) (by unfold nV; rw [br (by omega),cond_false])]
            ·rw [bI (by omega)]
            ·unfold nV
             rw [bm (by omega),cond_true,C.jd (by omega) (by omega),aE,C.iH (by omega) (by omega),aE]
             unfold tI
             by_cases e:gi f.aH.To a=gi f.aH.aA b
             ·have k:=C.cell a b (by omega) (by omega) (by omega) (by omega) e
              have ka:=H.ar (a:=(a:Int)) (by omega) (by omega)
              have kb:=H.ar (a:=(b:Int)) (by omega) (by omega)
              rw [rG e,cond_true,C.nm (by omega) (by omega),aE,C.mg (by omega) (by omega) (by omega) (by omega),aE,H.tF k.1 k.2.1,aE,H.tF (by omega) (by omega),aE,T.nm ka.1 ka.2,aE,H.tF (by omega) (by omega),aE,T.mg ka.1 ka.2 kb.1 kb.2,aE,aE,Bool.true_and,bI (by omega)]; rfl
             ·rw [wA e,cond_false,aE,Bool.false_and,bI (by omega)]; rfl
         ·have kx:=H.ob (x:=(x:Int)) (by omega) (by omega)
          have ki:=C.id (x:=(x:Int)) (by omega) (by omega)
          unfold nU
          rw [bm (by omega),cond_true,C.p4 (by omega) (by omega),aE,H.tF ki.1 ki.2,aE,H.Ay (by omega) (by omega),aE,T.p4 kx.1 kx.2,aE,bI (by omega)]
          rfl
       ·have ka:=H.ar (a:=(a:Int)) (by omega) (by omega)
        have kf:=C.fr (f:=(a:Int)) (by omega) (by omega)
        have kt:=C.to (f:=(a:Int)) (by omega) (by omega)
        unfold nT
        rw [bm (by omega),cond_true,H.tF (by omega) (by omega),aE,T.iH ka.1 ka.2,aE,C.iH (by omega) (by omega),aE,H.Ay kf.1 kf.2,aE,aE,T.jd ka.1 ka.2,aE,C.jd (by omega) (by omega),aE,H.Ay kt.1 kt.2,aE,bI (by omega),rM,x8,aE]
        rfl
    ·rw [wz (by omega),aE,cond_true,wA e2]; rfl
   ·rw [wz e1,cond_true,aE,cond_true,wA e1]; rfl
theorem Nq {f:aO} (hs:pW f) (C:l3 f.aH) (T:l3 f.aL):iV f=some (((((f.aD.length:Int) == f.aH.aD) && (f.an.length == f.aH.aA.length)) && (lj f.aL.aD f.aD && lj f.aL.aA.length f.an)) && (xl f && D1 f)):=by
 have ho:=hs.o
 have ha:=hs.a
 have cm:=C.m
 have co:=C.o8
 have tm:=T.m
 have to:=T.o8
 have t0:=T.o0
 unfold iV
 by_cases e1:(f.aD.length:Int)=f.aH.aD
 ·rw [qR e1,cond_false,rG e1,Bool.true_and]
  rw [show bS f.aH=some (f.aH.aA.length:Int) from rfl,aE]
  by_cases e2:f.an.length=f.aH.aA.length
  ·rw [qR (by omega),cond_false,within _ _ (by omega) (by omega) (by omega),aE,rG e2,Bool.true_and]
   cases h3:lj f.aL.aD f.aD with
   | false=>rfl
   | true=>
    rw [Bool.not_true,cond_false,show bS f.aL=some (f.aL.aA.length:Int) from rfl,aE,within _ _ (by omega) (by omega) (by omega),aE]
    cases h4:lj f.aL.aA.length f.an with
    | false=>rfl
    | true=>
     have H:FHead f:=⟨C,T,e1,e2,ni.1 h3,ni.1 h4⟩
     have il:=C.il
     have kl:=C.kl
     simp only [Bool.not_true,cond_false,aE,Bool.and_self,Bool.true_and]
     rw [ui (n:=f.aH.aA.length) (wJ f) (fun a av=>?_) (by unfold jH; rw [br (by omega),cond_false])]
     ·unfold xl
      cases h5:(ns f.aH.aA.length).any (wJ f) with
      | true=>rfl
      | false=>
       rw [cond_false,Bool.not_false,Bool.true_and]
       rw [ui (n:=f.aH.aD.toNat) (zp f) (fun x av=>?_) (by unfold jI; rw [br (by omega),cond_false])]
       ·unfold D1
        cases h6:(ns f.aH.aD.toNat).any (zp f) with
        | true=>rfl
        | false=>
         rw [cond_false,Bool.not_false,Bool.true_and]
         rw [ui (n:=f.aH.aA.length) (fun a=>(ns f.aH.aA.length).any (tI f a)) (fun a av=>?_) (by unfold jK; rw [br (by omega),cond_false])]
         ·cases (ns f.aH.aA.length).any fun a=>(ns f.aH.aA.length).any (tI f a) <;> rfl
         ·unfold jK
          have hr:=C.row (a:Int) (by omega) (by omega)
          rw [bm (by omega),cond_true,C.nm (by omega) (by omega),aE]
          rw [ui (n:=f.aH.aA.length) (tI f a) (fun b hb=>?_) (by unfold jJ; rw [br (by omega),cond_false])]
          ·rw [bI (by omega)]
          ·unfold jJ
           rw [bm (by omega),cond_true,C.mg (by omega) (by omega) (by omega) (by omega),aE]
           unfold tI
           by_cases e:gi f.aH.To a=gi f.aH.aA b
           ·have k:=C.cell a b (by omega) (by omega) (by omega) (by omega) e
            have ka:=H.ar (a:=(a:Int)) (by omega) (by omega)
            have kb:=H.ar (a:=(b:Int)) (by omega) (by omega)
            rw [rG e,bm (show gk f.aH.aB a b ≥ 0 from k.1),cond_true,H.tF k.1 k.2.1,aE,H.tF (by omega) (by omega),aE,H.tF (by omega) (by omega),aE,T.n4 ka.1 ka.2 kb.1 kb.2,aE,aE,Bool.true_and,bI (by omega)]; rfl
           ·have:=C.none a b (by omega) (by omega) (by omega) (by omega) e
            rw [wA e,br (show ¬ gk f.aH.aB a b ≥ 0 by omega),cond_false,aE,Bool.false_and,bI (by omega)]; rfl
       ·have kx:=H.ob (x:=(x:Int)) (by omega) (by omega)
        have ki:=C.id (x:=(x:Int)) (by omega) (by omega)
        unfold jI
        rw [bm (by omega),cond_true,C.p4 (by omega) (by omega),aE,H.tF ki.1 ki.2,aE,H.Ay (by omega) (by omega),aE,T.p4 kx.1 kx.2,aE,bI (by omega)]
        rfl
     ·have ka:=H.ar (a:=(a:Int)) (by omega) (by omega)
      have kf:=C.fr (f:=(a:Int)) (by omega) (by omega)
      have kt:=C.to (f:=(a:Int)) (by omega) (by omega)
      unfold jH
      rw [bm (by omega),cond_true,H.tF (by omega) (by omega),aE,T.iH ka.1 ka.2,aE,C.iH (by omega) (by omega),aE,H.Ay kf.1 kf.2,aE,T.jd ka.1 ka.2,aE,C.jd (by omega) (by omega),aE,H.Ay kt.1 kt.2,aE,bI (by omega),rM,x8,aE]
      rfl
  ·rw [wz (by omega),cond_true,wA e2]; rfl
 ·rw [wz e1,cond_true,wA e1]; rfl
theorem HU (l:List aC) (hl:l.length≤1048576) (hs:∀ c∈l,fk c):iM l=some (l.all lz):=by
 unfold iM
 refine (congrArg aq (mf l (fun c=>!lz c) (fun i=>(i:Int)) rfl ?_ ?_ (e:=(l.length:Int)) (y:=false) ?_)).trans ?_
 ·intro i x hx hp
  have hi:=db hx
  unfold fQ
  rw [bm (by omega),cond_true,fj,hx,aE,Ax (hs x (List.mem_of_getElem? hx)),aE,show (!lz x)=false from hp,cond_false,bI (by omega)]
 ·intro i x hx hp
  have hi:=db hx
  unfold fQ
  rw [bm (by omega),cond_true,fj,hx,aE,Ax (hs x (List.mem_of_getElem? hx)),aE,show (!lz x)=true from hp,cond_true]
 ·unfold fQ
  rw [br (by omega),cond_false]
 ·rw [qm]
  cases l.all lz <;> rfl
theorem uX {f:aO} (hs:pW f):cP f=some (ox f):=by
 unfold cP ox xk
 rw [HU _ (by simp) (by intro c hc; simp at hc; rcases hc with rfl | rfl; exact hs.s; exact hs.t),aE]
 simp only [List.all_cons,List.all_nil,Bool.and_true]
 cases h1:lz f.aH with
 | false=>rfl
 | true=>
  cases h2:lz f.aL with
  | false=>rfl
  | true=>
   rw [Bool.true_and,cond_true,Nq hs (rK h1) (rK h2)]
   rfl
theorem Nr (l:List Int) (hl:l.length≤1048576):fB l=some l:=by
 unfold fB
 rw [cD (by simp; omega) (by simp; omega),aE]; rfl
theorem HS {c d:aC} {o a:List Int} (hc:fk c) (hd:fk d) (ho:o.length≤1048576) (ha:a.length≤1048576):nE c d o a=some (aO.mk c d o a):=by
 unfold nE
 rw [G8 hc,aE,G8 hd,aE,Nr o ho,aE,Nr a ha,aE]; rfl
theorem wG {c d:aC} {o a:List Int} (hc:fk c) (hd:fk d) (ho:o.length≤1048576) (ha:a.length≤1048576):gX c d o a=some (aO.mk c d o a):=by
 unfold gX
 rw [wE hc,aE,wE hd,aE,jq o ho,aE,jq a ha,aE]; rfl
theorem sQ (a b:List Int):(thenS a b).length=a.length:=by unfold thenS; rw [bA]
section
variable {f g:aO} (F:FHead f) (G:FHead g) (e:f.aL=g.aH)
include F G e
end
end Go.Proofs.YtbhhmalgcnhniaaGreat
namespace Go.Proofs.YtbhhmalgcnhniaaGreat
open Go Go.Li
set_option linter.unusedVariables false
set_option linter.unusedSectionVars false
set_option linter.unusedSimpArgs false
structure Ns (m:cC):Prop where
 s:pW m.aH
 t:pW m.aL
 p:m.ny.length≤1048576
def Xz (t:cC):Bool:=ox t.aH && (ox t.aL && ((QM t.aH.aH t.aL.aH && QM t.aH.aL t.aL.aL) && (((t.ny.length:Int) == t.aH.aH.aD) && lj t.aH.aL.aA.length t.ny)))
def adh (t:cC) (x:Int):Bool:=(gi t.aH.aL.aA (gi t.ny x) != gi t.aH.aD x) || (gi t.aH.aL.To (gi t.ny x) != gi t.aL.aD x)
def sqB (f g:aO) (p:List Int) (a:Int):Bool:=gk f.aL.aB (gi f.an a) (gi p (gi f.aH.To a)) == gk f.aL.aB (gi p (gi f.aH.aA a)) (gi g.an a)
def adi (t:cC):Bool:=!((ns t.aH.aH.aA.length).any fun a=>!(sqB t.aH t.aL t.ny a))
def XA (t:cC):Bool:=!((ns t.ny.length).any (adh t))
def xz (t:cC):Bool:=(Xz t && XA t) && adi t
structure THead (t:cC):Prop where
 f:Na t.aH
 g:Na t.aL
 fb:ox t.aH=true
 gb:ox t.aL=true
 es:t.aL.aH=t.aH.aH
 et:t.aL.aL=t.aH.aL
 pl:(t.ny.length:Int)=t.aH.aH.aD
 pp:∀ y∈t.ny,0≤y∧y < t.aH.aL.aA.length
namespace THead
variable {t:cC} (H:THead t)
include H
end THead
end Go.Proofs.YtbhhmalgcnhniaaGreat
namespace Go.Proofs.YtbhhmalgcnhniaaGreat
open Go Go.Li
set_option linter.unusedVariables false
set_option linter.unusedSectionVars false
set_option linter.unusedSimpArgs false
section
variable {t:cC} {g:aO} (ht:xz t=true) (hg:ox g=true) (e:t.aH.aL=g.aH)
include ht hg e
omit hg e in
end
section
variable {t:cC} {f:aO} (hf:ox f=true) (ht:xz t=true) (e:f.aL=t.aH.aH)
include hf ht e
end
section
variable {s t:cC} (hs:xz s=true) (ht:xz t=true) (e:s.aL=t.aH)
include hs ht e
end
end Go.Proofs.YtbhhmalgcnhniaaGreat
