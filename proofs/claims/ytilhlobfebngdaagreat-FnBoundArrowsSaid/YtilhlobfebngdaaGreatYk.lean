/- Functors: what the reference's and the program's looks at them give. No condition beside those that each theorem names. -/
import Derived.Test.YtilhlobfebngdaaGreatVj
namespace Go.Proofs.YtilhlobfebngdaaGreat
open Go Go.Li
set_option linter.unusedVariables false
structure kq (f:aP):Prop where
 s:gh f.aB
 t:gh f.aG
 o:f.aA.length≤1048576
 a:f.ab.length≤1048576
def ya (f:aP):Bool:=py f.aB && (py f.aG && ((((f.aA.length:Int) == f.aB.aA) && (f.ab.length == f.aB.aE.length)) && (np f.aG.aA f.aA && np f.aG.aE.length f.ab)))
def Az (f:aP) (a:Int):Bool:=(gi f.aG.aE (gi f.ab a) != gi f.aA (gi f.aB.aE a)) || (gi f.aG.To (gi f.ab a) != gi f.aA (gi f.aB.To a))
def CX (f:aP) (x:Int):Bool:=gi f.ab (gi f.aB.aH x) != gi f.aG.aH (gi f.aA x)
def xf (f:aP) (a b:Int):Bool:=(gi f.aB.To a == gi f.aB.aE b) && (gi f.ab (gk f.aB.aC a b) != gk f.aG.aC (gi f.ab a) (gi f.ab b))
def Bp (f:aP):Bool:=!((ns f.aB.aE.length).any (Az f))
def H4 (f:aP):Bool:=!((ns f.aB.aA.toNat).any (CX f)) && !((ns f.aB.aE.length).any fun a=>(ns f.aB.aE.length).any (xf f a))
def jo (f:aP):Bool:=ya f && (Bp f && H4 f)
structure FHead (f:aP):Prop where
 c:l5 f.aB
 d:l5 f.aG
 ol:(f.aA.length:Int)=f.aB.aA
 al:f.ab.length=f.aB.aE.length
 oo:∀ y∈f.aA,0≤y∧y < f.aG.aA
 aa:∀ y∈f.ab,0≤y∧y < f.aG.aE.length
theorem UB {f:aP} (h:ya f=true):FHead f:=by
 unfold ya at h
 simp only [Bool.and_eq_true,beq_iff_eq,qg] at h
 obtain ⟨h1,h2,⟨h3,h4⟩,h5,h6⟩:=h
 exact ⟨Ap h1,Ap h2,h3,h4,h5,h6⟩
namespace FHead
variable {f:aP} (H:FHead f)
include H
theorem Au {x:Int} (h0:0≤x) (h1:x < f.aB.aA):idx f.aA x=some (gi f.aA x):=bQ h0 (by rw [H.ol]; exact h1)
theorem xc {a:Int} (h0:0≤a) (h1:a < f.aB.aE.length):idx f.ab a=some (gi f.ab a):=bQ h0 (by rw [H.al]; exact h1)
theorem ob {x:Int} (h0:0≤x) (h1:x < f.aB.aA):0≤gi f.aA x∧gi f.aA x < f.aG.aA:=H.oo _ (dc h0 (by rw [H.ol]; exact h1))
theorem ar {a:Int} (h0:0≤a) (h1:a < f.aB.aE.length):0≤gi f.ab a∧gi f.ab a < f.aG.aE.length:=H.aa _ (dc h0 (by rw [H.al]; exact h1))
end FHead
structure Pe (f:aP):Prop extends FHead f where
 fr:∀ a:Int,0≤a→a < f.aB.aE.length→gi f.aG.aE (gi f.ab a)=gi f.aA (gi f.aB.aE a)
 to:∀ a:Int,0≤a→a < f.aB.aE.length→gi f.aG.To (gi f.ab a)=gi f.aA (gi f.aB.To a)
theorem LZ {f:aP} (h1:ya f=true) (h2:Bp f=true):Pe f:=by
 unfold Bp at h2
 rw [Bool.not_eq_true',ig] at h2
 refine { UB h1 with fr:=fun a a0 a1=>?_,to:=fun a a0 a1=>?_ } <;>
 ·have:=h2 a a0 a1
  unfold Az at this
  simp only [Bool.or_eq_false_iff,bne_eq_false_iff_eq] at this
  first | exact this.1 | exact this.2
structure IN (f:aP):Prop extends Pe f where
 un:∀ x:Int,0≤x→x < f.aB.aA→gi f.ab (gi f.aB.aH x)=gi f.aG.aH (gi f.aA x)
 co:∀ a b:Int,0≤a→a < f.aB.aE.length→0≤b→b < f.aB.aE.length→gi f.aB.To a=gi f.aB.aE b→gi f.ab (gk f.aB.aC a b)=gk f.aG.aC (gi f.ab a) (gi f.ab b)
theorem mx {f:aP} (h:jo f=true):IN f:=by
 unfold jo H4 at h
 simp only [Bool.and_eq_true,Bool.not_eq_true'] at h
 obtain ⟨h1,h2,h3,h4⟩:=h
 have E:=LZ h1 h2
 have ho:=E.c.o0
 rw [ig] at h3 h4
 refine { E with un:=fun x x0 x1=>?_,co:=fun a b a0 a1 b0 b1 e=>?_ }
 ·have:=h3 x x0 (by omega)
  unfold CX at this
  simpa using this
 ·have:=(ig.1 (h4 a a0 a1)) b b0 b1
  unfold xf at this
  simpa [e] using this
theorem Q9 {f:aP} (h1:py f.aB=true) (h2:py f.aG=true) (ol:(f.aA.length:Int)=f.aB.aA) (al:f.ab.length=f.aB.aE.length) (oo:∀ y∈f.aA,0≤y∧y < f.aG.aA) (aa:∀ y∈f.ab,0≤y∧y < f.aG.aE.length)
  (fr:∀ a:Int,0≤a→a < f.aB.aE.length→gi f.aG.aE (gi f.ab a)=gi f.aA (gi f.aB.aE a)) (to:∀ a:Int,0≤a→a < f.aB.aE.length→gi f.aG.To (gi f.ab a)=gi f.aA (gi f.aB.To a))
  (un:∀ x:Int,0≤x→x < f.aB.aA→gi f.ab (gi f.aB.aH x)=gi f.aG.aH (gi f.aA x))
  (co:∀ a b:Int,0≤a→a < f.aB.aE.length→0≤b→b < f.aB.aE.length→gi f.aB.To a=gi f.aB.aE b→gi f.ab (gk f.aB.aC a b)=gk f.aG.aC (gi f.ab a) (gi f.ab b)):jo f=true:=by
 have C:=Ap h1
 have hc:=C.o0
 unfold jo ya Bp H4
 simp only [Bool.and_eq_true,Bool.not_eq_true',beq_iff_eq,qg,h1,h2,true_and]
 refine ⟨⟨⟨ol,al⟩,oo,aa⟩,?_,?_,?_⟩
 ·rw [ig]
  intro a a0 a1
  unfold Az
  rw [fr a a0 a1,to a a0 a1]; simp
 ·rw [ig]
  intro x x0 x1
  unfold CX
  rw [un x x0 (by omega)]; simp
 ·rw [ig]
  intro a a0 a1
  rw [ig]
  intro b b0 b1
  unfold xf
  by_cases e:gi f.aB.To a=gi f.aB.aE b
  ·rw [co a b a0 a1 b0 b1 e]; simp
  ·simp [e]
theorem Q2 {f:aP} (hs:kq f):tQ f=some (jo f):=by
 have ho:=hs.o
 have ha:=hs.a
 unfold tQ jo ya
 rw [QR hs.s,aD]
 cases h1:py f.aB with
 | false=>rfl
 | true=>
  have C:=Ap h1
  rw [QR hs.t,aD]
  cases h2:py f.aG with
  | false=>rfl
  | true=>
   have T:=Ap h2
   simp only [Bool.not_true,cond_false,Bool.true_and]
   by_cases e1:(f.aA.length:Int)=f.aB.aA
   ·rw [mq e1,cond_false,n5 e1,Bool.true_and]
    by_cases e2:f.ab.length=f.aB.aE.length
    ·rw [mq (by omega),aD,cond_false,BZ _ _ (by omega),aD,n5 e2,Bool.true_and]
     cases h3:np f.aG.aA f.aA with
     | false=>rfl
     | true=>
      rw [BZ _ _ (by omega),aD]
      cases h4:np f.aG.aE.length f.ab with
      | false=>rfl
      | true=>
       have H:FHead f:=⟨C,T,e1,e2,qg.1 h3,qg.1 h4⟩
       have cm:=C.m
       have co:=C.o8
       simp only [Bool.not_true,cond_false,aD,Bool.and_self,Bool.true_and]
       rw [xd (n:=f.aB.aE.length) (Az f) (fun a bn=>?_) (by unfold tG; rw [ay (by omega),cond_false])]
       ·unfold Bp
        cases h5:(ns f.aB.aE.length).any (Az f) with
        | true=>rfl
        | false=>
         rw [cond_false,Bool.not_false,Bool.true_and]
         rw [xd (n:=f.aB.aA.toNat) (CX f) (fun x bn=>?_) (by unfold tH; rw [ay (by omega),cond_false])]
         ·unfold H4
          cases h6:(ns f.aB.aA.toNat).any (CX f) with
          | true=>rfl
          | false=>
           rw [cond_false,Bool.not_false,Bool.true_and]
           have E:Pe f:=LZ (by unfold ya; simp [h1,h2,h3,h4,e1,e2]) (by unfold Bp; rw [h5]; rfl)
           rw [xd (n:=f.aB.aE.length) (fun a=>(ns f.aB.aE.length).any (xf f a)) (fun a bn=>?_) (by unfold tJ; rw [ay (by omega),cond_false])]
           ·cases (ns f.aB.aE.length).any fun a=>(ns f.aB.aE.length).any (xf f a) <;> rfl
           ·unfold tJ
            rw [au (by omega),cond_true]
            rw [xd (n:=f.aB.aE.length) (xf f a) (fun b hb=>?_) (by unfold tI; rw [ay (by omega),cond_false])]
            ·rw [bR (by omega)]
            ·unfold tI
             rw [au (by omega),cond_true,C.jm (by omega) (by omega),aD,C.jc (by omega) (by omega),aD]
             unfold xf
             by_cases e:gi f.aB.To a=gi f.aB.aE b
             ·have k:=C.cell a b (by omega) (by omega) (by omega) (by omega) e
              have ka:=H.ar (a:=(a:Int)) (by omega) (by omega)
              have kb:=H.ar (a:=(b:Int)) (by omega) (by omega)
              rw [n5 e,cond_true,C.ni (by omega) (by omega),aD,C.mi (by omega) (by omega) (by omega) (by omega),aD,H.xc k.1 k.2.1,aD,H.xc (by omega) (by omega),aD,T.ni ka.1 ka.2,aD,H.xc (by omega) (by omega),aD,T.mi ka.1 ka.2 kb.1 kb.2,aD,aD,Bool.true_and,bR (by omega)]; rfl
             ·rw [sa e,cond_false,aD,Bool.false_and,bR (by omega)]; rfl
         ·have kx:=H.ob (x:=(x:Int)) (by omega) (by omega)
          have ki:=C.id (x:=(x:Int)) (by omega) (by omega)
          unfold tH
          rw [au (by omega),cond_true,C.ou (by omega) (by omega),aD,H.xc ki.1 ki.2,aD,H.Au (by omega) (by omega),aD,T.ou kx.1 kx.2,aD,bR (by omega)]
          rfl
       ·have ka:=H.ar (a:=(a:Int)) (by omega) (by omega)
        have kf:=C.fr (f:=(a:Int)) (by omega) (by omega)
        have kt:=C.to (f:=(a:Int)) (by omega) (by omega)
        unfold tG
        rw [au (by omega),cond_true,H.xc (by omega) (by omega),aD,T.jc ka.1 ka.2,aD,C.jc (by omega) (by omega),aD,H.Au kf.1 kf.2,aD,aD,T.jm ka.1 ka.2,aD,C.jm (by omega) (by omega),aD,H.Au kt.1 kt.2,aD,bR (by omega),qu,zn,aD]
        rfl
    ·rw [qd (by omega),aD,cond_true,sa e2]; rfl
   ·rw [qd e1,cond_true,aD,cond_true,sa e1]; rfl
theorem RE {f:aP} (hs:kq f) (C:l5 f.aB) (T:l5 f.aG):mK f=some (((((f.aA.length:Int) == f.aB.aA) && (f.ab.length == f.aB.aE.length)) && (np f.aG.aA f.aA && np f.aG.aE.length f.ab)) && (Bp f && H4 f)):=by
 have ho:=hs.o
 have ha:=hs.a
 have cm:=C.m
 have co:=C.o8
 have tm:=T.m
 have to:=T.o8
 have t0:=T.o0
 unfold mK
 by_cases e1:(f.aA.length:Int)=f.aB.aA
 ·rw [mq e1,cond_false,n5 e1,Bool.true_and]
  rw [show cY f.aB=some (f.aB.aE.length:Int) from rfl,aD]
  by_cases e2:f.ab.length=f.aB.aE.length
  ·rw [mq (by omega),cond_false,within _ _ (by omega) (by omega) (by omega),aD,n5 e2,Bool.true_and]
   cases h3:np f.aG.aA f.aA with
   | false=>rfl
   | true=>
    rw [Bool.not_true,cond_false,show cY f.aG=some (f.aG.aE.length:Int) from rfl,aD,within _ _ (by omega) (by omega) (by omega),aD]
    cases h4:np f.aG.aE.length f.ab with
    | false=>rfl
    | true=>
     have H:FHead f:=⟨C,T,e1,e2,qg.1 h3,qg.1 h4⟩
     have il:=C.il
     have kl:=C.kl
     simp only [Bool.not_true,cond_false,aD,Bool.and_self,Bool.true_and]
     rw [xd (n:=f.aB.aE.length) (Az f) (fun a bn=>?_) (by unfold nA; rw [ay (by omega),cond_false])]
     ·unfold Bp
      cases h5:(ns f.aB.aE.length).any (Az f) with
      | true=>rfl
      | false=>
       rw [cond_false,Bool.not_false,Bool.true_and]
       rw [xd (n:=f.aB.aA.toNat) (CX f) (fun x bn=>?_) (by unfold nB; rw [ay (by omega),cond_false])]
       ·unfold H4
        cases h6:(ns f.aB.aA.toNat).any (CX f) with
        | true=>rfl
        | false=>
         rw [cond_false,Bool.not_false,Bool.true_and]
         rw [xd (n:=f.aB.aE.length) (fun a=>(ns f.aB.aE.length).any (xf f a)) (fun a bn=>?_) (by unfold nD; rw [ay (by omega),cond_false])]
         ·cases (ns f.aB.aE.length).any fun a=>(ns f.aB.aE.length).any (xf f a) <;> rfl
         ·unfold nD
          have hr:=C.row (a:Int) (by omega) (by omega)
          rw [au (by omega),cond_true,C.ni (by omega) (by omega),aD]
          rw [xd (n:=f.aB.aE.length) (xf f a) (fun b hb=>?_) (by unfold nC; rw [ay (by omega),cond_false])]
          ·rw [bR (by omega)]
          ·unfold nC
           rw [au (by omega),cond_true,C.mi (by omega) (by omega) (by omega) (by omega),aD]
           unfold xf
           by_cases e:gi f.aB.To a=gi f.aB.aE b
           ·have k:=C.cell a b (by omega) (by omega) (by omega) (by omega) e
            have ka:=H.ar (a:=(a:Int)) (by omega) (by omega)
            have kb:=H.ar (a:=(b:Int)) (by omega) (by omega)
            rw [n5 e,au (show gk f.aB.aC a b ≥ 0 from k.1),cond_true,H.xc k.1 k.2.1,aD,H.xc (by omega) (by omega),aD,H.xc (by omega) (by omega),aD,T.rv ka.1 ka.2 kb.1 kb.2,aD,aD,Bool.true_and,bR (by omega)]; rfl
           ·have:=C.none a b (by omega) (by omega) (by omega) (by omega) e
            rw [sa e,ay (show ¬ gk f.aB.aC a b ≥ 0 by omega),cond_false,aD,Bool.false_and,bR (by omega)]; rfl
       ·have kx:=H.ob (x:=(x:Int)) (by omega) (by omega)
        have ki:=C.id (x:=(x:Int)) (by omega) (by omega)
        unfold nB
        rw [au (by omega),cond_true,C.ou (by omega) (by omega),aD,H.xc ki.1 ki.2,aD,H.Au (by omega) (by omega),aD,T.ou kx.1 kx.2,aD,bR (by omega)]
        rfl
     ·have ka:=H.ar (a:=(a:Int)) (by omega) (by omega)
      have kf:=C.fr (f:=(a:Int)) (by omega) (by omega)
      have kt:=C.to (f:=(a:Int)) (by omega) (by omega)
      unfold nA
      rw [au (by omega),cond_true,H.xc (by omega) (by omega),aD,T.jc ka.1 ka.2,aD,C.jc (by omega) (by omega),aD,H.Au kf.1 kf.2,aD,T.jm ka.1 ka.2,aD,C.jm (by omega) (by omega),aD,H.Au kt.1 kt.2,aD,bR (by omega),qu,zn,aD]
      rfl
  ·rw [qd (by omega),cond_true,sa e2]; rfl
 ·rw [qd e1,cond_true,sa e1]; rfl
theorem wz (a b:List Int) (ha:a.length≤1048576) (hb:∀ x∈a,0≤x∧x < b.length):oG a b=some (thenS a b):=by
 unfold oG
 refine (congrArg ak (u3 a.length (fun i=>gi b (gi a i)) (fun acc i=>(acc,(i:Int))) rfl ?_ ?_)).trans rfl
 ·intro i acc hi FN
  have hm:=hb _ (dc (l:=a) (j:=(i:Int)) (by omega) (by omega))
  show lU a b acc i=_
  unfold lU
  rw [au (by omega),cond_true,bQ (by omega) (by omega),aD,bQ hm.1 hm.2,aD,dL (by omega) (by omega),aD,bR (by omega)]
 ·intro acc _
  show lU a b acc _=_
  unfold lU
  rw [ay (by omega),cond_false]
theorem Mu (l:List aF) (hl:l.length≤1048576) (hs:∀ c∈l,gh c):lW l=some (l.all py):=by
 unfold lW
 refine (congrArg ak (l4 l (fun c=>!py c) (fun i=>(i:Int)) rfl ?_ ?_ (e:=(l.length:Int)) (y:=false) ?_)).trans ?_
 ·intro i x hx hp
  have hi:=cc hx
  unfold kA
  rw [au (by omega),cond_true,ch,hx,aD,QS (hs x (List.mem_of_getElem? hx)),aD,show (!py x)=false from hp,cond_false,bR (by omega)]
 ·intro i x hx hp
  have hi:=cc hx
  unfold kA
  rw [au (by omega),cond_true,ch,hx,aD,QS (hs x (List.mem_of_getElem? hx)),aD,show (!py x)=true from hp,cond_true]
 ·unfold kA
  rw [ay (by omega),cond_false]
 ·rw [pg]
  cases l.all py <;> rfl
theorem Ej {f:aP} (hs:kq f):gW f=some (jo f):=by
 unfold gW jo ya
 rw [Mu _ (by simp) (by intro c hc; simp at hc; rcases hc with rfl | rfl; exact hs.s; exact hs.t),aD]
 simp only [List.all_cons,List.all_nil,Bool.and_true]
 cases h1:py f.aB with
 | false=>rfl
 | true=>
  cases h2:py f.aG with
  | false=>rfl
  | true=>
   rw [Bool.true_and,cond_true,RE hs (Ap h1) (Ap h2)]
   rfl
theorem Mw (l:List aP) (hl:l.length≤1048576) (hs:∀ c∈l,kq c):nE l=some (l.all jo):=by
 unfold nE
 refine (congrArg ak (l4 l (fun c=>!jo c) (fun i=>(i:Int)) rfl ?_ ?_ (e:=(l.length:Int)) (y:=false) ?_)).trans ?_
 ·intro i x hx hp
  have hi:=cc hx
  unfold lP
  rw [au (by omega),cond_true,ch,hx,aD,Ej (hs x (List.mem_of_getElem? hx)),aD,show (!jo x)=false from hp,cond_false,bR (by omega)]
 ·intro i x hx hp
  have hi:=cc hx
  unfold lP
  rw [au (by omega),cond_true,ch,hx,aD,Ej (hs x (List.mem_of_getElem? hx)),aD,show (!jo x)=true from hp,cond_true]
 ·unfold lP
  rw [ay (by omega),cond_false]
 ·rw [pg]
  cases l.all jo <;> rfl
theorem RF (l:List Int) (hl:l.length≤1048576):jR l=some l:=by
 unfold jR
 rw [dL (by simp; omega) (by simp; omega),aD]; rfl
theorem Fi {c d:aF} {o a:List Int} (hc:gh c) (hd:gh d) (ho:o.length≤1048576) (ha:a.length≤1048576):oR c d o a=some (aP.mk c d o a):=by
 unfold oR
 rw [Ls hc,aD,Ls hd,aD,RF o ho,aD,RF a ha,aD]; rfl
theorem nk {c d:aF} {o a:List Int} (hc:gh c) (hd:gh d) (ho:o.length≤1048576) (ha:a.length≤1048576):gH c d o a=some (aP.mk c d o a):=by
 unfold gH
 rw [Ar hc,aD,Ar hd,aD,fv o ho,aD,fv a ha,aD]; rfl
def s9 (f g:aP):aP:=aP.mk f.aB g.aG (thenS f.aA g.aA) (thenS f.ab g.ab)
theorem jf (a b:List Int):(thenS a b).length=a.length:=by unfold thenS; rw [cE]
theorem Mq {f g:aP} (hf:kq f) (hg:kq g):kq (s9 f g):=⟨hf.s,hg.t,by show (thenS _ _).length≤_; rw [jf]; exact hf.o,by show (thenS _ _).length≤_; rw [jf]; exact hf.a⟩
section
variable {f g:aP} (F:FHead f) (G:FHead g) (e:f.aG=g.aB)
include F G e
theorem En:(∀ x∈f.aA,0≤x∧x < g.aA.length)∧∀ x∈f.ab,0≤x∧x < g.ab.length:=by
 have h1:=G.ol
 have h2:=G.al
 rw [← e] at h1 h2
 exact ⟨fun x hx=>⟨(F.oo x hx).1,by have:=(F.oo x hx).2; omega⟩,fun x hx=>⟨(F.aa x hx).1,by have:=(F.aa x hx).2; omega⟩⟩
theorem Q4 (hf:kq f) (hg:kq g):mL f g=some (s9 f g):=by
 obtain ⟨h1,h2⟩:=En F G e
 unfold mL
 rw [LD _ _ hf.o h1,aD,LD _ _ hf.a h2,aD,Fi hf.s hg.t (by rw [jf]; exact hf.o) (by rw [jf]; exact hf.a),aD]; rfl
theorem Q3 (hf:kq f) (hg:kq g):jT f g=some (s9 f g):=by
 obtain ⟨h1,h2⟩:=En F G e
 unfold jT
 rw [wz _ _ hf.o h1,aD,wz _ _ hf.a h2,aD,nk hf.s hg.t (by rw [jf]; exact hf.o) (by rw [jf]; exact hf.a),aD]; rfl
end
theorem Ue {f g:aP} (hf:jo f=true) (hg:jo g=true) (e:f.aG=g.aB):jo (s9 f g)=true:=by
 have F:=mx hf
 have G:=mx hg
 have h1:py f.aB=true:=by unfold jo ya at hf; simp only [Bool.and_eq_true] at hf; exact hf.1.1
 have h2:py g.aG=true:=by unfold jo ya at hg; simp only [Bool.and_eq_true] at hg; exact hg.1.2.1
 have go:∀ x:Int,0≤x→x < f.aB.aA→gi (thenS f.aA g.aA) x=gi g.aA (gi f.aA x):=fun x x0 x1=>ta x0 (by rw [F.ol]; exact x1)
 have ga:∀ a:Int,0≤a→a < f.aB.aE.length→gi (thenS f.ab g.ab) a=gi g.ab (gi f.ab a):=fun a a0 a1=>ta a0 (by rw [F.al]; exact a1)
 have ob:∀ x:Int,0≤x→x < f.aB.aA→0≤gi f.aA x∧gi f.aA x < g.aB.aA:=fun x x0 x1=>by rw [← e]; exact F.ob x0 x1
 have ar:∀ a:Int,0≤a→a < f.aB.aE.length→0≤gi f.ab a∧gi f.ab a < g.aB.aE.length:=fun a a0 a1=>by rw [← e]; exact F.ar a0 a1
 obtain ⟨t1,t2⟩:=En F.toFHead G.toFHead e
 refine Q9 (f:=s9 f g) h1 h2 ?_ ?_ ?_ ?_ ?_ ?_ ?_ ?_
 ·show ((thenS _ _).length:Int)=_; rw [jf]; exact F.ol
 ·show (thenS _ _).length=_; rw [jf]; exact F.al
 ·exact fun y hy=>IZ t1 G.oo hy
 ·exact fun y hy=>IZ t2 G.aa hy
 ·intro a a0 a1
  have kf:=F.c.fr a0 a1
  show gi g.aG.aE (gi (thenS f.ab g.ab) a)=gi (thenS f.aA g.aA) (gi f.aB.aE a)
  rw [ga a a0 a1,go _ kf.1 kf.2,G.fr _ (ar a a0 a1).1 (ar a a0 a1).2,← e,F.fr a a0 a1]
 ·intro a a0 a1
  have kf:=F.c.to a0 a1
  show gi g.aG.To (gi (thenS f.ab g.ab) a)=gi (thenS f.aA g.aA) (gi f.aB.To a)
  rw [ga a a0 a1,go _ kf.1 kf.2,G.to _ (ar a a0 a1).1 (ar a a0 a1).2,← e,F.to a a0 a1]
 ·intro x x0 x1
  have ki:=F.c.id x0 x1
  show gi (thenS f.ab g.ab) (gi f.aB.aH x)=gi g.aG.aH (gi (thenS f.aA g.aA) x)
  rw [ga _ ki.1 ki.2,go x x0 x1,F.un x x0 x1,← G.un _ (ob x x0 x1).1 (ob x x0 x1).2,e]
 ·intro a b a0 a1 b0 b1 h
  have k:=F.c.cell a b a0 a1 b0 b1 h
  show gi (thenS f.ab g.ab) (gk f.aB.aC a b)=gk g.aG.aC (gi (thenS f.ab g.ab) a) (gi (thenS f.ab g.ab) b)
  rw [ga _ k.1 k.2.1,ga a a0 a1,ga b b0 b1,F.co a b a0 a1 b0 b1 h,← G.co _ _ (ar a a0 a1).1 (ar a a0 a1).2 (ar b b0 b1).1 (ar b b0 b1).2 (by rw [← e,F.to a a0 a1,F.fr b b0 b1]; exact congrArg (gi f.aA) h),e]
theorem L5 {f g:aP} (h:kq f):kB f g=some (s8 f.aB g.aB && s8 f.aG g.aG):=by
 unfold kB
 rw [BG h.s,aD,BG h.t,aD,qu,FP]; rfl
end Go.Proofs.YtilhlobfebngdaaGreat
namespace Go.Proofs.YtilhlobfebngdaaGreat
open Go Go.Li
set_option linter.unusedVariables false
structure Ei (m:bU):Prop where
 s:kq m.aB
 t:kq m.aG
 p:m.bj.length≤1048576
def Bf (t:bU):Bool:=jo t.aB && (jo t.aG && ((s8 t.aB.aB t.aG.aB && s8 t.aB.aG t.aG.aG) && (((t.bj.length:Int) == t.aB.aB.aA) && np t.aB.aG.aE.length t.bj)))
def FR (t:bU) (x:Int):Bool:=(gi t.aB.aG.aE (gi t.bj x) != gi t.aB.aA x) || (gi t.aB.aG.To (gi t.bj x) != gi t.aG.aA x)
def Ny (f g:aP) (p:List Int) (a:Int):Bool:=gk f.aG.aC (gi f.ab a) (gi p (gi f.aB.To a)) == gk f.aG.aC (gi p (gi f.aB.aE a)) (gi g.ab a)
def LH (t:bU):Bool:=!((ns t.aB.aB.aE.length).any fun a=>!(Ny t.aB t.aG t.bj a))
def CP (t:bU):Bool:=!((ns t.bj.length).any (FR t))
def mr (t:bU):Bool:=(Bf t && CP t) && LH t
structure THead (t:bU):Prop where
 f:IN t.aB
 g:IN t.aG
 fb:jo t.aB=true
 gb:jo t.aG=true
 es:t.aG.aB=t.aB.aB
 et:t.aG.aG=t.aB.aG
 pl:(t.bj.length:Int)=t.aB.aB.aA
 pp:∀ y∈t.bj,0≤y∧y < t.aB.aG.aE.length
theorem L6 {t:bU} (h:Bf t=true):THead t:=by
 unfold Bf at h
 simp only [Bool.and_eq_true,beq_iff_eq,qg,wa] at h
 obtain ⟨h1,h2,⟨h3,h4⟩,h5,h6⟩:=h
 exact ⟨mx h1,mx h2,h1,h2,h3.symm,h4.symm,h5,h6⟩
namespace THead
variable {t:bU} (H:THead t)
include H
theorem O7 {x:Int} (h0:0≤x) (h1:x < t.aB.aB.aA):idx t.bj x=some (gi t.bj x):=bQ h0 (by rw [H.pl]; exact h1)
theorem cp {x:Int} (h0:0≤x) (h1:x < t.aB.aB.aA):0≤gi t.bj x∧gi t.bj x < t.aB.aG.aE.length:=H.pp _ (dc h0 (by rw [H.pl]; exact h1))
theorem ar2 {a:Int} (h0:0≤a) (h1:a < t.aB.aB.aE.length):0≤gi t.aG.ab a∧gi t.aG.ab a < t.aB.aG.aE.length:=by have:=H.g.ar (a:=a) h0 (by rw [H.es]; exact h1); rwa [H.et] at this
theorem VE {a:Int} (h0:0≤a) (h1:a < t.aB.aB.aE.length):idx t.aG.ab a=some (gi t.aG.ab a):=H.g.xc h0 (by rw [H.es]; exact h1)
end THead
structure V8 (t:bU):Prop extends THead t where
 pf:∀ x:Int,0≤x→x < t.aB.aB.aA→gi t.aB.aG.aE (gi t.bj x)=gi t.aB.aA x
 pt:∀ x:Int,0≤x→x < t.aB.aB.aA→gi t.aB.aG.To (gi t.bj x)=gi t.aG.aA x
theorem UC {t:bU} (h1:Bf t=true) (h2:CP t=true):V8 t:=by
 have H:=L6 h1
 have hl:=H.pl
 unfold CP at h2
 rw [Bool.not_eq_true',ig] at h2
 refine { H with pf:=fun a a0 a1=>?_,pt:=fun a a0 a1=>?_ } <;>
 ·have:=h2 a a0 (by omega)
  unfold FR at this
  simp only [Bool.or_eq_false_iff,bne_eq_false_iff_eq] at this
  first | exact this.1 | exact this.2
structure ajC (t:bU):Prop extends V8 t where
 sq:∀ a:Int,0≤a→a < t.aB.aB.aE.length→gk t.aB.aG.aC (gi t.aB.ab a) (gi t.bj (gi t.aB.aB.To a))=gk t.aB.aG.aC (gi t.bj (gi t.aB.aB.aE a)) (gi t.aG.ab a)
theorem Em {t:bU} (h:mr t=true):ajC t:=by
 unfold mr at h
 simp only [Bool.and_eq_true] at h
 obtain ⟨⟨h1,h2⟩,h3⟩:=h
 unfold LH at h3
 rw [Bool.not_eq_true',ig] at h3
 refine { UC h1 h2 with sq:=fun a a0 a1=>?_ }
 have:=h3 a a0 a1
 unfold Ny at this
 simpa using this
theorem L7 {t:bU} (H:THead t) {a:Int} (a0:0≤a) (a1:a < t.aB.aB.aE.length):kG t.aB t.aG t.bj a=some (Ny t.aB t.aG t.bj a):=by
 have F:=H.f
 have kf:=F.c.fr a0 a1
 have kt:=F.c.to a0 a1
 have ka:=F.ar a0 a1
 have k1:=H.cp kt.1 kt.2
 have k2:=H.cp kf.1 kf.2
 have k3:=H.ar2 a0 a1
 unfold kG Ny
 rw [F.xc a0 a1,aD,F.c.jm a0 a1,aD,H.O7 kt.1 kt.2,aD,F.d.rv ka.1 ka.2 k1.1 k1.2,aD,F.c.jc a0 a1,aD,H.O7 kf.1 kf.2,aD,H.VE a0 a1,aD,F.d.rv k2.1 k2.2 k3.1 k3.2,aD]
 rfl
theorem abE {n k:Nat} {A0:Int→Option (Out Int Int)} {p:Int→Bool} (a0:∀ a:Nat,a < n→A0 a=bif !(p a) then some (.ret (a:Int)) else some (.norm ((a+1:Nat):Int))) (a3:A0 n=some (.exit k (n:Int))) :
  ∃ y,ak (S:=Unit) (af (ae k (ah A0 (0:Int))) fun _=>some (.ret (-1:Int)))=some y∧decide (y < 0) = !((ns n).any fun a=>!(p a)):=by
 have hx:∀ i:Nat,i < n→((!(p i))=false∧A0 i=some (.norm ((i+1:Nat):Int)))∨((!(p i))=true∧∃ y,A0 i=some (.ret y)∧0≤y):=by
  intro i hi
  rw [a0 i hi]
  cases p i with
  | true=>exact .inl ⟨rfl,rfl⟩
  | false=>exact .inr ⟨rfl,_,rfl,by omega⟩
 rcases aiE (S:=Unit) (f:=fun _=>some (.ret (-1:Int))) (n:=n) (fun a=>!(p a)) (fun y:Int=>0≤y) hx a3 with ⟨h1,h2⟩ | ⟨h1,y,h2,h3⟩
 ·rw [h1,h2]; exact ⟨_,rfl,au (by decide)⟩
 ·rw [h1,h2]; exact ⟨y,rfl,ay (by omega)⟩
theorem Pf {t:bU} (H:THead t):∃ y,mM t (fun a0 a1 a2 a3=>kG a0 a1 a2 a3)=some y∧decide (y < 0)=LH t:=by
 have cm:=H.f.c.m
 have al:=H.f.al
 unfold mM LH
 refine abE (n:=t.aB.aB.aE.length) (fun a ha=>?_) (by unfold nF; rw [ay (by omega),cond_false])
 unfold nF
 show (bif decide ((a:Int) < (t.aB.ab.length:Int)) then (kG t.aB t.aG t.bj a>>=_) else _)=_
 rw [au (by omega),cond_true,L7 H (by omega) (by omega),aD,bR (by omega)]
theorem NK {t:bU} (hs:Ei t):gA t=some (mr t):=by
 have hp:=hs.p
 unfold gA
 have key:gQ t=some (Bf t && CP t):=by
  unfold gQ Bf
  rw [Mw _ (by simp) (by intro c hc; simp at hc; rcases hc with rfl | rfl; exact hs.s; exact hs.t),aD]
  simp only [List.all_cons,List.all_nil,Bool.and_true]
  cases h1:jo t.aB with
  | false=>rfl
  | true=>
   have F:=mx h1
   cases h2:jo t.aG with
   | false=>rfl
   | true=>
    have G:=mx h2
    have dm:=F.d.m
    simp only [Bool.true_and,Bool.not_true,cond_false]
    rw [L5 hs.s,aD]
    cases h3:s8 t.aB.aB t.aG.aB && s8 t.aB.aG t.aG.aG with
    | false=>rfl
    | true=>
     have h4:=h3
     simp only [Bool.and_eq_true,wa] at h4
     rw [Bool.not_true,cond_false]
     by_cases e1:(t.bj.length:Int)=t.aB.aB.aA
     ·rw [mq e1,cond_false,show cY t.aB.aG=some (t.aB.aG.aE.length:Int) from rfl,aD,within _ _ (by omega) (by omega) (by omega),aD,aD,n5 e1,Bool.true_and,Bool.true_and]
      cases h:np t.aB.aG.aE.length t.bj with
      | false=>rfl
      | true=>
       rw [Bool.not_true,cond_false,Bool.true_and]
       have zK:=qg.1 h
       rw [xd (n:=t.bj.length) (FR t) (fun x bn=>?_) (by unfold iU; rw [ay (by omega),cond_false])]
       ·unfold CP
        cases (ns t.bj.length).any (FR t) <;> rfl
       ·have kc:=zK _ (dc (l:=t.bj) (j:=(x:Int)) (by omega) (by omega))
        unfold iU
        rw [au (by omega),cond_true,bQ (by omega) (by omega),aD,show eQ t.aB.aG (gi t.bj x)=some (vL.mk (gi t.aB.aG.aE (gi t.bj x)) (gi t.aB.aG.To (gi t.bj x))) by unfold eQ; rw [F.d.jc kc.1 kc.2,aD,F.d.jm kc.1 kc.2,aD]; rfl,aD,F.Au (by omega) (by omega),aD,G.Au (by omega) (by rw [← h4.1]; omega),aD,bR (by omega)]
        unfold FR
        rw [Bool.not_and]
        rfl
     ·rw [qd e1,cond_true,aD,cond_true,sa e1]; rfl
 rw [key,aD]
 unfold mr
 cases h1:Bf t with
 | false=>rfl
 | true=>
  cases h2:CP t with
  | false=>rfl
  | true=>
   obtain ⟨y,e1,e2⟩:=Pf (L6 h1)
   simp only [Bool.and_self,cond_true]
   rw [e1,aD,e2]; rfl
theorem O5 (l:List bU) (hl:l.length≤1048576) (hs:∀ c∈l,Ei c):lZ l=some (l.all mr):=by
 unfold lZ
 refine (congrArg ak (l4 l (fun c=>!mr c) (fun i=>(i:Int)) rfl ?_ ?_ (e:=(l.length:Int)) (y:=false) ?_)).trans ?_
 ·intro i x hx hp
  have hi:=cc hx
  unfold lY
  rw [au (by omega),cond_true,ch,hx,aD,NK (hs x (List.mem_of_getElem? hx)),aD,show (!mr x)=false from hp,cond_false,bR (by omega)]
 ·intro i x hx hp
  have hi:=cc hx
  unfold lY
  rw [au (by omega),cond_true,ch,hx,aD,NK (hs x (List.mem_of_getElem? hx)),aD,show (!mr x)=true from hp,cond_true]
 ·unfold lY
  rw [ay (by omega),cond_false]
 ·rw [pg]
  cases l.all mr <;> rfl
end Go.Proofs.YtilhlobfebngdaaGreat
namespace Go.Proofs.YtilhlobfebngdaaGreat
open Go Go.Li
set_option linter.unusedVariables false
section
variable {t:bU} {g:aP} (ht:mr t=true) (hg:jo g=true) (e:t.aB.aG=g.aB)
include ht hg e
omit hg e in
end
section
variable {t:bU} {f:aP} (hf:jo f=true) (ht:mr t=true) (e:f.aG=t.aB.aB)
include hf ht e
end
section
variable {s t:bU} (hs:mr s=true) (ht:mr t=true) (e:s.aG=t.aB)
include hs ht e
end
end Go.Proofs.YtilhlobfebngdaaGreat
