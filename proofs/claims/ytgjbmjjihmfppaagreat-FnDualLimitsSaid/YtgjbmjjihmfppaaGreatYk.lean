/- Functors: what the reference's and the program's looks at them give. No condition beside those that each theorem names. -/
import Derived.Test.YtgjbmjjihmfppaaGreatVj
namespace Go.Proofs.YtgjbmjjihmfppaaGreat
open Go Go.Li
set_option linter.unusedVariables false
structure qj (f:aN):Prop where
 s:gu f.aH
 t:gu f.aI
 o:f.aA.length≤1048576
 a:f.aj.length≤1048576
def x7 (f:aN):Bool:=ri f.aH && (ri f.aI && ((((f.aA.length:Int) == f.aH.aA) && (f.aj.length == f.aH.aD.length)) && (qu f.aI.aA f.aA && qu f.aI.aD.length f.aj)))
def xu (f:aN) (a:Int):Bool:=(gi f.aI.aD (gi f.aj a) != gi f.aA (gi f.aH.aD a)) || (gi f.aI.To (gi f.aj a) != gi f.aA (gi f.aH.To a))
def zS (f:aN) (x:Int):Bool:=gi f.aj (gi f.aH.aJ x) != gi f.aI.aJ (gi f.aA x)
def uq (f:aN) (a b:Int):Bool:=(gi f.aH.To a == gi f.aH.aD b) && (gi f.aj (gk f.aH.aB a b) != gk f.aI.aB (gi f.aj a) (gi f.aj b))
def x8 (f:aN):Bool:=!((ns f.aH.aD.length).any (xu f))
def D1 (f:aN):Bool:=!((ns f.aH.aA.toNat).any (zS f)) && !((ns f.aH.aD.length).any fun a=>(ns f.aH.aD.length).any (uq f a))
def jm (f:aN):Bool:=x7 f && (x8 f && D1 f)
structure FHead (f:aN):Prop where
 c:nb f.aH
 d:nb f.aI
 ol:(f.aA.length:Int)=f.aH.aA
 al:f.aj.length=f.aH.aD.length
 oo:∀ y∈f.aA,0≤y∧y < f.aI.aA
 aa:∀ y∈f.aj,0≤y∧y < f.aI.aD.length
theorem Px {f:aN} (h:x7 f=true):FHead f:=by
 unfold x7 at h
 simp only [Bool.and_eq_true,beq_iff_eq,rA] at h
 obtain ⟨h1,h2,⟨h3,h4⟩,h5,h6⟩:=h
 exact ⟨xi h1,xi h2,h3,h4,h5,h6⟩
namespace FHead
variable {f:aN} (H:FHead f)
include H
theorem yo {x:Int} (h0:0≤x) (h1:x < f.aH.aA):idx f.aA x=some (gi f.aA x):=bR h0 (by rw [H.ol]; exact h1)
theorem uj {a:Int} (h0:0≤a) (h1:a < f.aH.aD.length):idx f.aj a=some (gi f.aj a):=bR h0 (by rw [H.al]; exact h1)
theorem ob {x:Int} (h0:0≤x) (h1:x < f.aH.aA):0≤gi f.aA x∧gi f.aA x < f.aI.aA:=H.oo _ (gn h0 (by rw [H.ol]; exact h1))
theorem ar {a:Int} (h0:0≤a) (h1:a < f.aH.aD.length):0≤gi f.aj a∧gi f.aj a < f.aI.aD.length:=H.aa _ (gn h0 (by rw [H.al]; exact h1))
end FHead
structure Ks (f:aN):Prop extends FHead f where
 fr:∀ a:Int,0≤a→a < f.aH.aD.length→gi f.aI.aD (gi f.aj a)=gi f.aA (gi f.aH.aD a)
 to:∀ a:Int,0≤a→a < f.aH.aD.length→gi f.aI.To (gi f.aj a)=gi f.aA (gi f.aH.To a)
theorem Hv {f:aN} (h1:x7 f=true) (h2:x8 f=true):Ks f:=by
 unfold x8 at h2
 rw [Bool.not_eq_true',ee] at h2
 refine { Px h1 with fr:=fun a a0 a1=>?_,to:=fun a a0 a1=>?_ } <;>
 ·have:=h2 a a0 a1
  unfold xu at this
  simp only [Bool.or_eq_false_iff,bne_eq_false_iff_eq] at this
  first | exact this.1 | exact this.2
structure IS (f:aN):Prop extends Ks f where
 un:∀ x:Int,0≤x→x < f.aH.aA→gi f.aj (gi f.aH.aJ x)=gi f.aI.aJ (gi f.aA x)
 co:∀ a b:Int,0≤a→a < f.aH.aD.length→0≤b→b < f.aH.aD.length→gi f.aH.To a=gi f.aH.aD b→gi f.aj (gk f.aH.aB a b)=gk f.aI.aB (gi f.aj a) (gi f.aj b)
theorem js {f:aN} (h:jm f=true):IS f:=by
 unfold jm D1 at h
 simp only [Bool.and_eq_true,Bool.not_eq_true'] at h
 obtain ⟨h1,h2,h3,h4⟩:=h
 have E:=Hv h1 h2
 have ho:=E.c.o0
 rw [ee] at h3 h4
 refine { E with un:=fun x x0 x1=>?_,co:=fun a b a0 a1 b0 b1 e=>?_ }
 ·have:=h3 x x0 (by omega)
  unfold zS at this
  simpa using this
 ·have:=(ee.1 (h4 a a0 a1)) b b0 b1
  unfold uq at this
  simpa [e] using this
theorem MH {f:aN} (h1:ri f.aH=true) (h2:ri f.aI=true) (ol:(f.aA.length:Int)=f.aH.aA) (al:f.aj.length=f.aH.aD.length) (oo:∀ y∈f.aA,0≤y∧y < f.aI.aA) (aa:∀ y∈f.aj,0≤y∧y < f.aI.aD.length)
  (fr:∀ a:Int,0≤a→a < f.aH.aD.length→gi f.aI.aD (gi f.aj a)=gi f.aA (gi f.aH.aD a)) (to:∀ a:Int,0≤a→a < f.aH.aD.length→gi f.aI.To (gi f.aj a)=gi f.aA (gi f.aH.To a))
  (un:∀ x:Int,0≤x→x < f.aH.aA→gi f.aj (gi f.aH.aJ x)=gi f.aI.aJ (gi f.aA x))
  (co:∀ a b:Int,0≤a→a < f.aH.aD.length→0≤b→b < f.aH.aD.length→gi f.aH.To a=gi f.aH.aD b→gi f.aj (gk f.aH.aB a b)=gk f.aI.aB (gi f.aj a) (gi f.aj b)):jm f=true:=by
 have C:=xi h1
 have hc:=C.o0
 unfold jm x7 x8 D1
 simp only [Bool.and_eq_true,Bool.not_eq_true',beq_iff_eq,rA,h1,h2,true_and]
 refine ⟨⟨⟨ol,al⟩,oo,aa⟩,?_,?_,?_⟩
 ·rw [ee]
  intro a a0 a1
  unfold xu
  rw [fr a a0 a1,to a a0 a1]; simp
 ·rw [ee]
  intro x x0 x1
  unfold zS
  rw [un x x0 (by omega)]; simp
 ·rw [ee]
  intro a a0 a1
  rw [ee]
  intro b b0 b1
  unfold uq
  by_cases e:gi f.aH.To a=gi f.aH.aD b
  ·rw [co a b a0 a1 b0 b1 e]; simp
  ·simp [e]
theorem MS {f:aN} (hs:qj f):pD f=some (jm f):=by
 have ho:=hs.o
 have ha:=hs.a
 unfold pD jm x7
 rw [Mt hs.s,aF]
 cases h1:ri f.aH with
 | false=>rfl
 | true=>
  have C:=xi h1
  rw [Mt hs.t,aF]
  cases h2:ri f.aI with
  | false=>rfl
  | true=>
   have T:=xi h2
   simp only [Bool.not_true,cond_false,Bool.true_and]
   by_cases e1:(f.aA.length:Int)=f.aH.aA
   ·rw [uT e1,cond_false,yn e1,Bool.true_and]
    by_cases e2:f.aj.length=f.aH.aD.length
    ·rw [uT (by omega),aF,cond_false,BA _ _ (by omega),aF,yn e2,Bool.true_and]
     cases h3:qu f.aI.aA f.aA with
     | false=>rfl
     | true=>
      rw [BA _ _ (by omega),aF]
      cases h4:qu f.aI.aD.length f.aj with
      | false=>rfl
      | true=>
       have H:FHead f:=⟨C,T,e1,e2,rA.1 h3,rA.1 h4⟩
       have cm:=C.m
       have co:=C.o8
       simp only [Bool.not_true,cond_false,aF,Bool.and_self,Bool.true_and]
       rw [AY (n:=f.aH.aD.length) (xu f) (fun a bc=>?_) (by unfold oV; rw [bm (by omega),cond_false])]
       ·unfold x8
        cases h5:(ns f.aH.aD.length).any (xu f) with
        | true=>rfl
        | false=>
         rw [cond_false,Bool.not_false,Bool.true_and]
         rw [AY (n:=f.aH.aA.toNat) (zS f) (fun x bc=>?_) (by unfold oW; rw [bm (by omega),cond_false])]
         ·unfold D1
          cases h6:(ns f.aH.aA.toNat).any (zS f) with
          | true=>rfl
          | false=>
           rw [cond_false,Bool.not_false,Bool.true_and]
           have E:Ks f:=Hv (by unfold x7; simp [h1,h2,h3,h4,e1,e2]) (by unfold x8; rw [h5]; rfl)
           rw [AY (n:=f.aH.aD.length) (fun a=>(ns f.aH.aD.length).any (uq f a)) (fun a bc=>?_) (by unfold oY; rw [bm (by omega),cond_false])]
           ·cases (ns f.aH.aD.length).any fun a=>(ns f.aH.aD.length).any (uq f a) <;> rfl
           ·unfold oY
            rw [ay (by omega),cond_true]
            rw [AY (n:=f.aH.aD.length) (uq f a) (fun b hb=>?_) (by unfold oX; rw [bm (by omega),cond_false])]
            ·rw [bH (by omega)]
            ·unfold oX
             rw [ay (by omega),cond_true,C.jh (by omega) (by omega),aF,C.jd (by omega) (by omega),aF]
             unfold uq
             by_cases e:gi f.aH.To a=gi f.aH.aD b
             ·have k:=C.cell a b (by omega) (by omega) (by omega) (by omega) e
              have ka:=H.ar (a:=(a:Int)) (by omega) (by omega)
              have kb:=H.ar (a:=(b:Int)) (by omega) (by omega)
              rw [yn e,cond_true,C.mh (by omega) (by omega),aF,C.ly (by omega) (by omega) (by omega) (by omega),aF,H.uj k.1 k.2.1,aF,H.uj (by omega) (by omega),aF,T.mh ka.1 ka.2,aF,H.uj (by omega) (by omega),aF,T.ly ka.1 ka.2 kb.1 kb.2,aF,aF,Bool.true_and,bH (by omega)]; rfl
             ·rw [sZ e,cond_false,aF,Bool.false_and,bH (by omega)]; rfl
         ·have kx:=H.ob (x:=(x:Int)) (by omega) (by omega)
          have ki:=C.id (x:=(x:Int)) (by omega) (by omega)
          unfold oW
          rw [ay (by omega),cond_true,C.pg (by omega) (by omega),aF,H.uj ki.1 ki.2,aF,H.yo (by omega) (by omega),aF,T.pg kx.1 kx.2,aF,bH (by omega)]
          rfl
       ·have ka:=H.ar (a:=(a:Int)) (by omega) (by omega)
        have kf:=C.fr (f:=(a:Int)) (by omega) (by omega)
        have kt:=C.to (f:=(a:Int)) (by omega) (by omega)
        unfold oV
        rw [ay (by omega),cond_true,H.uj (by omega) (by omega),aF,T.jd ka.1 ka.2,aF,C.jd (by omega) (by omega),aF,H.yo kf.1 kf.2,aF,aF,T.jh ka.1 ka.2,aF,C.jh (by omega) (by omega),aF,H.yo kt.1 kt.2,aF,bH (by omega),sk,yO,aF]
        rfl
    ·rw [xe (by omega),aF,cond_true,sZ e2]; rfl
   ·rw [xe e1,cond_true,aF,cond_true,sZ e1]; rfl
theorem M3 {f:aN} (hs:qj f) (C:nb f.aH) (T:nb f.aI):iX f=some (((((f.aA.length:Int) == f.aH.aA) && (f.aj.length == f.aH.aD.length)) && (qu f.aI.aA f.aA && qu f.aI.aD.length f.aj)) && (x8 f && D1 f)):=by
 have ho:=hs.o
 have ha:=hs.a
 have cm:=C.m
 have co:=C.o8
 have tm:=T.m
 have to:=T.o8
 have t0:=T.o0
 unfold iX
 by_cases e1:(f.aA.length:Int)=f.aH.aA
 ·rw [uT e1,cond_false,yn e1,Bool.true_and]
  rw [show cL f.aH=some (f.aH.aD.length:Int) from rfl,aF]
  by_cases e2:f.aj.length=f.aH.aD.length
  ·rw [uT (by omega),cond_false,within _ _ (by omega) (by omega) (by omega),aF,yn e2,Bool.true_and]
   cases h3:qu f.aI.aA f.aA with
   | false=>rfl
   | true=>
    rw [Bool.not_true,cond_false,show cL f.aI=some (f.aI.aD.length:Int) from rfl,aF,within _ _ (by omega) (by omega) (by omega),aF]
    cases h4:qu f.aI.aD.length f.aj with
    | false=>rfl
    | true=>
     have H:FHead f:=⟨C,T,e1,e2,rA.1 h3,rA.1 h4⟩
     have il:=C.il
     have kl:=C.kl
     simp only [Bool.not_true,cond_false,aF,Bool.and_self,Bool.true_and]
     rw [AY (n:=f.aH.aD.length) (xu f) (fun a bc=>?_) (by unfold jN; rw [bm (by omega),cond_false])]
     ·unfold x8
      cases h5:(ns f.aH.aD.length).any (xu f) with
      | true=>rfl
      | false=>
       rw [cond_false,Bool.not_false,Bool.true_and]
       rw [AY (n:=f.aH.aA.toNat) (zS f) (fun x bc=>?_) (by unfold jO; rw [bm (by omega),cond_false])]
       ·unfold D1
        cases h6:(ns f.aH.aA.toNat).any (zS f) with
        | true=>rfl
        | false=>
         rw [cond_false,Bool.not_false,Bool.true_and]
         rw [AY (n:=f.aH.aD.length) (fun a=>(ns f.aH.aD.length).any (uq f a)) (fun a bc=>?_) (by unfold jQ; rw [bm (by omega),cond_false])]
         ·cases (ns f.aH.aD.length).any fun a=>(ns f.aH.aD.length).any (uq f a) <;> rfl
         ·unfold jQ
          have hr:=C.row (a:Int) (by omega) (by omega)
          rw [ay (by omega),cond_true,C.mh (by omega) (by omega),aF]
          rw [AY (n:=f.aH.aD.length) (uq f a) (fun b hb=>?_) (by unfold jP; rw [bm (by omega),cond_false])]
          ·rw [bH (by omega)]
          ·unfold jP
           rw [ay (by omega),cond_true,C.ly (by omega) (by omega) (by omega) (by omega),aF]
           unfold uq
           by_cases e:gi f.aH.To a=gi f.aH.aD b
           ·have k:=C.cell a b (by omega) (by omega) (by omega) (by omega) e
            have ka:=H.ar (a:=(a:Int)) (by omega) (by omega)
            have kb:=H.ar (a:=(b:Int)) (by omega) (by omega)
            rw [yn e,ay (show gk f.aH.aB a b ≥ 0 from k.1),cond_true,H.uj k.1 k.2.1,aF,H.uj (by omega) (by omega),aF,H.uj (by omega) (by omega),aF,T.qX ka.1 ka.2 kb.1 kb.2,aF,aF,Bool.true_and,bH (by omega)]; rfl
           ·have:=C.none a b (by omega) (by omega) (by omega) (by omega) e
            rw [sZ e,bm (show ¬ gk f.aH.aB a b ≥ 0 by omega),cond_false,aF,Bool.false_and,bH (by omega)]; rfl
       ·have kx:=H.ob (x:=(x:Int)) (by omega) (by omega)
        have ki:=C.id (x:=(x:Int)) (by omega) (by omega)
        unfold jO
        rw [ay (by omega),cond_true,C.pg (by omega) (by omega),aF,H.uj ki.1 ki.2,aF,H.yo (by omega) (by omega),aF,T.pg kx.1 kx.2,aF,bH (by omega)]
        rfl
     ·have ka:=H.ar (a:=(a:Int)) (by omega) (by omega)
      have kf:=C.fr (f:=(a:Int)) (by omega) (by omega)
      have kt:=C.to (f:=(a:Int)) (by omega) (by omega)
      unfold jN
      rw [ay (by omega),cond_true,H.uj (by omega) (by omega),aF,T.jd ka.1 ka.2,aF,C.jd (by omega) (by omega),aF,H.yo kf.1 kf.2,aF,T.jh ka.1 ka.2,aF,C.jh (by omega) (by omega),aF,H.yo kt.1 kt.2,aF,bH (by omega),sk,yO,aF]
      rfl
  ·rw [xe (by omega),cond_true,sZ e2]; rfl
 ·rw [xe e1,cond_true,sZ e1]; rfl
theorem HS (l:List aG) (hl:l.length≤1048576) (hs:∀ c∈l,gu c):iM l=some (l.all ri):=by
 unfold iM
 refine (congrArg an (mc l (fun c=>!ri c) (fun i=>(i:Int)) rfl ?_ ?_ (e:=(l.length:Int)) (y:=false) ?_)).trans ?_
 ·intro i x hx hp
  have hi:=ca hx
  unfold gF
  rw [ay (by omega),cond_true,dw,hx,aF,Mu (hs x (List.mem_of_getElem? hx)),aF,show (!ri x)=false from hp,cond_false,bH (by omega)]
 ·intro i x hx hp
  have hi:=ca hx
  unfold gF
  rw [ay (by omega),cond_true,dw,hx,aF,Mu (hs x (List.mem_of_getElem? hx)),aF,show (!ri x)=true from hp,cond_true]
 ·unfold gF
  rw [bm (by omega),cond_false]
 ·rw [n5]
  cases l.all ri <;> rfl
theorem tB {f:aN} (hs:qj f):dC f=some (jm f):=by
 unfold dC jm x7
 rw [HS _ (by simp) (by intro c hc; simp at hc; rcases hc with rfl | rfl; exact hs.s; exact hs.t),aF]
 simp only [List.all_cons,List.all_nil,Bool.and_true]
 cases h1:ri f.aH with
 | false=>rfl
 | true=>
  cases h2:ri f.aI with
  | false=>rfl
  | true=>
   rw [Bool.true_and,cond_true,M3 hs (xi h1) (xi h2)]
   rfl
theorem yP (l:List Int) (hl:l.length≤1048576):dT l=some l:=by
 unfold dT
 rw [cV (by simp; omega) (by simp; omega),aF]; rfl
theorem HQ {c d:aG} {o a:List Int} (hc:gu c) (hd:gu d) (ho:o.length≤1048576) (ha:a.length≤1048576):nN c d o a=some (aN.mk c d o a):=by
 unfold nN
 rw [Ha hc,aF,Ha hd,aF,yP o ho,aF,yP a ha,aF]; rfl
theorem xp {c d:aG} {o a:List Int} (hc:gu c) (hd:gu d) (ho:o.length≤1048576) (ha:a.length≤1048576):gX c d o a=some (aN.mk c d o a):=by
 unfold gX
 rw [xl hc,aF,xl hd,aF,gv o ho,aF,gv a ha,aF]; rfl
section
variable {f g:aN} (F:FHead f) (G:FHead g) (e:f.aI=g.aH)
include F G e
end
end Go.Proofs.YtgjbmjjihmfppaaGreat
namespace Go.Proofs.YtgjbmjjihmfppaaGreat
open Go Go.Li
set_option linter.unusedVariables false
structure M4 (m:cJ):Prop where
 s:qj m.aH
 t:qj m.aI
 p:m.e7.length≤1048576
def Ds (t:cJ):Bool:=jm t.aH && (jm t.aI && ((Fa t.aH.aH t.aI.aH && Fa t.aH.aI t.aI.aI) && (((t.e7.length:Int) == t.aH.aH.aA) && qu t.aH.aI.aD.length t.e7)))
def Py (t:cJ) (x:Int):Bool:=(gi t.aH.aI.aD (gi t.e7 x) != gi t.aH.aA x) || (gi t.aH.aI.To (gi t.e7 x) != gi t.aI.aA x)
def rR (f g:aN) (p:List Int) (a:Int):Bool:=gk f.aI.aB (gi f.aj a) (gi p (gi f.aH.To a)) == gk f.aI.aB (gi p (gi f.aH.aD a)) (gi g.aj a)
def Pz (t:cJ):Bool:=!((ns t.aH.aH.aD.length).any fun a=>!(rR t.aH t.aI t.e7 a))
def Fc (t:cJ):Bool:=!((ns t.e7.length).any (Py t))
def s7 (t:cJ):Bool:=(Ds t && Fc t) && Pz t
structure THead (t:cJ):Prop where
 f:IS t.aH
 g:IS t.aI
 fb:jm t.aH=true
 gb:jm t.aI=true
 es:t.aI.aH=t.aH.aH
 et:t.aI.aI=t.aH.aI
 pl:(t.e7.length:Int)=t.aH.aH.aA
 pp:∀ y∈t.e7,0≤y∧y < t.aH.aI.aD.length
theorem PB {t:cJ} (h:Ds t=true):THead t:=by
 unfold Ds at h
 simp only [Bool.and_eq_true,beq_iff_eq,rA,Hb] at h
 obtain ⟨h1,h2,⟨h3,h4⟩,h5,h6⟩:=h
 exact ⟨js h1,js h2,h1,h2,h3.symm,h4.symm,h5,h6⟩
namespace THead
variable {t:cJ} (H:THead t)
include H
theorem cp {x:Int} (h0:0≤x) (h1:x < t.aH.aH.aA):0≤gi t.e7 x∧gi t.e7 x < t.aH.aI.aD.length:=H.pp _ (gn h0 (by rw [H.pl]; exact h1))
end THead
structure QY (t:cJ):Prop extends THead t where
 pf:∀ x:Int,0≤x→x < t.aH.aH.aA→gi t.aH.aI.aD (gi t.e7 x)=gi t.aH.aA x
 pt:∀ x:Int,0≤x→x < t.aH.aH.aA→gi t.aH.aI.To (gi t.e7 x)=gi t.aI.aA x
theorem PC {t:cJ} (h1:Ds t=true) (h2:Fc t=true):QY t:=by
 have H:=PB h1
 have hl:=H.pl
 unfold Fc at h2
 rw [Bool.not_eq_true',ee] at h2
 refine { H with pf:=fun a a0 a1=>?_,pt:=fun a a0 a1=>?_ } <;>
 ·have:=h2 a a0 (by omega)
  unfold Py at this
  simp only [Bool.or_eq_false_iff,bne_eq_false_iff_eq] at this
  first | exact this.1 | exact this.2
structure acP (t:cJ):Prop extends QY t where
 sq:∀ a:Int,0≤a→a < t.aH.aH.aD.length→gk t.aH.aI.aB (gi t.aH.aj a) (gi t.e7 (gi t.aH.aH.To a))=gk t.aH.aI.aB (gi t.e7 (gi t.aH.aH.aD a)) (gi t.aI.aj a)
theorem MC {t:cJ} (h:s7 t=true):acP t:=by
 unfold s7 at h
 simp only [Bool.and_eq_true] at h
 obtain ⟨⟨h1,h2⟩,h3⟩:=h
 unfold Pz at h3
 rw [Bool.not_eq_true',ee] at h3
 refine { PC h1 h2 with sq:=fun a a0 a1=>?_ }
 have:=h3 a a0 a1
 unfold rR at this
 simpa using this
theorem We {t:cJ} (fb:jm t.aH=true) (gb:jm t.aI=true) (es:t.aI.aH=t.aH.aH) (et:t.aI.aI=t.aH.aI) (pl:(t.e7.length:Int)=t.aH.aH.aA) (pp:∀ y∈t.e7,0≤y∧y < t.aH.aI.aD.length)
  (pf:∀ x:Int,0≤x→x < t.aH.aH.aA→gi t.aH.aI.aD (gi t.e7 x)=gi t.aH.aA x) (pt:∀ x:Int,0≤x→x < t.aH.aH.aA→gi t.aH.aI.To (gi t.e7 x)=gi t.aI.aA x)
  (sq:∀ a:Int,0≤a→a < t.aH.aH.aD.length→gk t.aH.aI.aB (gi t.aH.aj a) (gi t.e7 (gi t.aH.aH.To a))=gk t.aH.aI.aB (gi t.e7 (gi t.aH.aH.aD a)) (gi t.aI.aj a)):s7 t=true:=by
 unfold s7 Ds Fc Pz
 simp only [Bool.and_eq_true,Bool.not_eq_true',beq_iff_eq,rA,Hb,fb,gb,true_and]
 refine ⟨⟨⟨⟨es.symm,et.symm⟩,pl,pp⟩,?_⟩,?_⟩
 ·rw [ee]
  intro x x0 x1
  unfold Py
  rw [pf x x0 (by omega),pt x x0 (by omega)]; simp
 ·rw [ee]
  intro a a0 a1
  unfold rR
  rw [sq a a0 a1]; simp
end Go.Proofs.YtgjbmjjihmfppaaGreat
namespace Go.Proofs.YtgjbmjjihmfppaaGreat
open Go Go.Li
set_option linter.unusedVariables false
section
variable {t:cJ} {g:aN} (ht:s7 t=true) (hg:jm g=true) (e:t.aH.aI=g.aH)
include ht hg e
omit hg e in
end
section
variable {t:cJ} {f:aN} (hf:jm f=true) (ht:s7 t=true) (e:f.aI=t.aH.aH)
include hf ht e
end
section
variable {s t:cJ} (hs:s7 s=true) (ht:s7 t=true) (e:s.aI=t.aH)
include hs ht e
end
end Go.Proofs.YtgjbmjjihmfppaaGreat
