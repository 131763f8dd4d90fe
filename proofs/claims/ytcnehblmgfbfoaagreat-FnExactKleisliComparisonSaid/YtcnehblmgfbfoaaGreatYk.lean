/- Functors: what the reference's and the program's looks at them give. No condition beside those that each theorem names. -/
import Derived.Test.YtcnehblmgfbfoaaGreatVc
set_option linter.unusedVariables false
set_option linter.unusedSectionVars false
set_option linter.unusedSimpArgs false
namespace Go.Proofs.YtcnehblmgfbfoaaGreat
open Go Go.Li
set_option linter.unusedVariables false
structure fv (f:aS):Prop where
 s:de f.aB
 t:de f.aE
 o:f.aD.length≤1048576
 a:f.ab.length≤1048576
def sc (f:aS):Bool:=lq f.aB && (lq f.aE && ((((f.aD.length:Int) == f.aB.aD) && (f.ab.length == f.aB.aF.length)) && (mi f.aE.aD f.aD && mi f.aE.aF.length f.ab)))
def uq (f:aS) (a:Int):Bool:=(gi f.aE.aF (gi f.ab a) != gi f.aD (gi f.aB.aF a)) || (gi f.aE.To (gi f.ab a) != gi f.aD (gi f.aB.To a))
def wR (f:aS) (x:Int):Bool:=gi f.ab (gi f.aB.aG x) != gi f.aE.aG (gi f.aD x)
def rH (f:aS) (a b:Int):Bool:=(gi f.aB.To a == gi f.aB.aF b) && (gi f.ab (gk f.aB.aC a b) != gk f.aE.aC (gi f.ab a) (gi f.ab b))
def u6 (f:aS):Bool:=!((ns f.aB.aF.length).any (uq f))
def AS (f:aS):Bool:=!((ns f.aB.aD.toNat).any (wR f)) && !((ns f.aB.aF.length).any fun a=>(ns f.aB.aF.length).any (rH f a))
def ez (f:aS):Bool:=sc f && (u6 f && AS f)
structure FHead (f:aS):Prop where
 c:gp f.aB
 d:gp f.aE
 ol:(f.aD.length:Int)=f.aB.aD
 al:f.ab.length=f.aB.aF.length
 oo:∀ y∈f.aD,0≤y∧y < f.aE.aD
 aa:∀ y∈f.ab,0≤y∧y < f.aE.aF.length
theorem Lx {f:aS} (h:sc f=true):FHead f:=by
 unfold sc at h
 simp only [Bool.and_eq_true,beq_iff_eq,nq] at h
 obtain ⟨h1,h2,⟨h3,h4⟩,h5,h6⟩:=h
 exact ⟨uh h1,uh h2,h3,h4,h5,h6⟩
namespace FHead
variable {f:aS} (H:FHead f)
include H
theorem uk {x:Int} (h0:0≤x) (h1:x < f.aB.aD):idx f.aD x=some (gi f.aD x):=cI h0 (by rw [H.ol]; exact h1)
theorem rG {a:Int} (h0:0≤a) (h1:a < f.aB.aF.length):idx f.ab a=some (gi f.ab a):=cI h0 (by rw [H.al]; exact h1)
theorem ob {x:Int} (h0:0≤x) (h1:x < f.aB.aD):0≤gi f.aD x∧gi f.aD x < f.aE.aD:=H.oo _ (lp h0 (by rw [H.ol]; exact h1))
theorem ar {a:Int} (h0:0≤a) (h1:a < f.aB.aF.length):0≤gi f.ab a∧gi f.ab a < f.aE.aF.length:=H.aa _ (lp h0 (by rw [H.al]; exact h1))
end FHead
structure Hb (f:aS):Prop extends FHead f where
 fr:∀ a:Int,0≤a→a < f.aB.aF.length→gi f.aE.aF (gi f.ab a)=gi f.aD (gi f.aB.aF a)
 to:∀ a:Int,0≤a→a < f.aB.aF.length→gi f.aE.To (gi f.ab a)=gi f.aD (gi f.aB.To a)
theorem D9 {f:aS} (h1:sc f=true) (h2:u6 f=true):Hb f:=by
 unfold u6 at h2
 rw [Bool.not_eq_true',ei] at h2
 refine { Lx h1 with fr:=fun a a0 a1=>?_,to:=fun a a0 a1=>?_ } <;>
 ·have:=h2 a a0 a1
  unfold uq at this
  simp only [Bool.or_eq_false_iff,bne_eq_false_iff_eq] at this
  first | exact this.1 | exact this.2
structure Aa (f:aS):Prop extends Hb f where
 un:∀ x:Int,0≤x→x < f.aB.aD→gi f.ab (gi f.aB.aG x)=gi f.aE.aG (gi f.aD x)
 co:∀ a b:Int,0≤a→a < f.aB.aF.length→0≤b→b < f.aB.aF.length→gi f.aB.To a=gi f.aB.aF b→gi f.ab (gk f.aB.aC a b)=gk f.aE.aC (gi f.ab a) (gi f.ab b)
theorem ik {f:aS} (h:ez f=true):Aa f:=by
 unfold ez AS at h
 simp only [Bool.and_eq_true,Bool.not_eq_true'] at h
 obtain ⟨h1,h2,h3,h4⟩:=h
 have E:=D9 h1 h2
 have ho:=E.c.o0
 rw [ei] at h3 h4
 refine { E with un:=fun x x0 x1=>?_,co:=fun a b a0 a1 b0 b1 e=>?_ }
 ·have:=h3 x x0 (by omega)
  unfold wR at this
  simpa using this
 ·have:=(ei.1 (h4 a a0 a1)) b b0 b1
  unfold rH at this
  simpa [e] using this
theorem Ja {f:aS} (h1:lq f.aB=true) (h2:lq f.aE=true) (ol:(f.aD.length:Int)=f.aB.aD) (al:f.ab.length=f.aB.aF.length) (oo:∀ y∈f.aD,0≤y∧y < f.aE.aD) (aa:∀ y∈f.ab,0≤y∧y < f.aE.aF.length)
  (fr:∀ a:Int,0≤a→a < f.aB.aF.length→gi f.aE.aF (gi f.ab a)=gi f.aD (gi f.aB.aF a)) (to:∀ a:Int,0≤a→a < f.aB.aF.length→gi f.aE.To (gi f.ab a)=gi f.aD (gi f.aB.To a))
  (un:∀ x:Int,0≤x→x < f.aB.aD→gi f.ab (gi f.aB.aG x)=gi f.aE.aG (gi f.aD x))
  (co:∀ a b:Int,0≤a→a < f.aB.aF.length→0≤b→b < f.aB.aF.length→gi f.aB.To a=gi f.aB.aF b→gi f.ab (gk f.aB.aC a b)=gk f.aE.aC (gi f.ab a) (gi f.ab b)):ez f=true:=by
 have C:=uh h1
 have hc:=C.o0
 unfold ez sc u6 AS
 simp only [Bool.and_eq_true,Bool.not_eq_true',beq_iff_eq,nq,h1,h2,true_and]
 refine ⟨⟨⟨ol,al⟩,oo,aa⟩,?_,?_,?_⟩
 ·rw [ei]
  intro a a0 a1
  unfold uq
  rw [fr a a0 a1,to a a0 a1]; simp
 ·rw [ei]
  intro x x0 x1
  unfold wR
  rw [un x x0 (by omega)]; simp
 ·rw [ei]
  intro a a0 a1
  rw [ei]
  intro b b0 b1
  unfold rH
  by_cases e:gi f.aB.To a=gi f.aB.aF b
  ·rw [co a b a0 a1 b0 b1 e]; simp
  ·simp [e]
theorem I6 {f:aS} (hs:fv f):nU f=some (ez f):=by
 have ho:=hs.o
 have ha:=hs.a
 unfold nU ez sc
 rw [IY hs.s,aA]
 cases h1:lq f.aB with
 | false=>rfl
 | true=>
  have C:=uh h1
  rw [IY hs.t,aA]
  cases h2:lq f.aE with
  | false=>rfl
  | true=>
   have T:=uh h2
   simp only [Bool.not_true,cond_false,Bool.true_and]
   by_cases e1:(f.aD.length:Int)=f.aB.aD
   ·rw [ua e1,cond_false,np e1,Bool.true_and]
    by_cases e2:f.ab.length=f.aB.aF.length
    ·rw [ua (by omega),aA,cond_false,vM _ _ (by omega),aA,np e2,Bool.true_and]
     cases h3:mi f.aE.aD f.aD with
     | false=>rfl
     | true=>
      rw [vM _ _ (by omega),aA]
      cases h4:mi f.aE.aF.length f.ab with
      | false=>rfl
      | true=>
       have H:FHead f:=⟨C,T,e1,e2,nq.1 h3,nq.1 h4⟩
       have cm:=C.m
       have co:=C.o8
       simp only [Bool.not_true,cond_false,aA,Bool.and_self,Bool.true_and]
       rw [rY (n:=f.aB.aF.length) (uq f) (fun a bj=>?_) (by unfold nI; rw [au (by omega),cond_false])]
       ·unfold u6
        cases h5:(ns f.aB.aF.length).any (uq f) with
        | true=>rfl
        | false=>
         rw [cond_false,Bool.not_false,Bool.true_and]
         rw [rY (n:=f.aB.aD.toNat) (wR f) (fun x bj=>?_) (by unfold nJ; rw [au (by omega),cond_false])]
         ·unfold AS
          cases h6:(ns f.aB.aD.toNat).any (wR f) with
          | true=>rfl
          | false=>
           rw [cond_false,Bool.not_false,Bool.true_and]
           have E:Hb f:=D9 (by unfold sc; simp [h1,h2,h3,h4,e1,e2]) (by unfold u6; rw [h5]; rfl)
           rw [rY (n:=f.aB.aF.length) (fun a=>(ns f.aB.aF.length).any (rH f a)) (fun a bj=>?_) (by unfold nL; rw [au (by omega),cond_false])]
           ·cases (ns f.aB.aF.length).any fun a=>(ns f.aB.aF.length).any (rH f a) <;> rfl
           ·unfold nL
            rw [aq (by omega),cond_true]
            rw [rY (n:=f.aB.aF.length) (rH f a) (fun b hb=>?_) (by unfold nK; rw [au (by omega),cond_false])]
            ·rw [bK (by omega)]
            ·unfold nK
             rw [aq (by omega),cond_true,C.jx (by omega) (by omega),aA,C.jk (by omega) (by omega),aA]
             unfold rH
             by_cases e:gi f.aB.To a=gi f.aB.aF b
             ·have k:=C.cell a b (by omega) (by omega) (by omega) (by omega) e
              have ka:=H.ar (a:=(a:Int)) (by omega) (by omega)
              have kb:=H.ar (a:=(b:Int)) (by omega) (by omega)
              rw [np e,cond_true,C.qt (by omega) (by omega),aA,C.qu (by omega) (by omega) (by omega) (by omega),aA,H.rG k.1 k.2.1,aA,H.rG (by omega) (by omega),aA,T.qt ka.1 ka.2,aA,H.rG (by omega) (by omega),aA,T.qu ka.1 ka.2 kb.1 kb.2,aA,aA,Bool.true_and,bK (by omega)]; rfl
             ·rw [kh e,cond_false,aA,Bool.false_and,bK (by omega)]; rfl
         ·have kx:=H.ob (x:=(x:Int)) (by omega) (by omega)
          have ki:=C.id (x:=(x:Int)) (by omega) (by omega)
          unfold nJ
          rw [aq (by omega),cond_true,C.py (by omega) (by omega),aA,H.rG ki.1 ki.2,aA,H.uk (by omega) (by omega),aA,T.py kx.1 kx.2,aA,bK (by omega)]
          rfl
       ·have ka:=H.ar (a:=(a:Int)) (by omega) (by omega)
        have kf:=C.fr (f:=(a:Int)) (by omega) (by omega)
        have kt:=C.to (f:=(a:Int)) (by omega) (by omega)
        unfold nI
        rw [aq (by omega),cond_true,H.rG (by omega) (by omega),aA,T.jk ka.1 ka.2,aA,C.jk (by omega) (by omega),aA,H.uk kf.1 kf.2,aA,aA,T.jx ka.1 ka.2,aA,C.jx (by omega) (by omega),aA,H.uk kt.1 kt.2,aA,bK (by omega),u3,AM,aA]
        rfl
    ·rw [p5 (by omega),aA,cond_true,kh e2]; rfl
   ·rw [p5 e1,cond_true,aA,cond_true,kh e1]; rfl
theorem Jq {f:aS} (hs:fv f) (C:gp f.aB) (T:gp f.aE):jM f=some (((((f.aD.length:Int) == f.aB.aD) && (f.ab.length == f.aB.aF.length)) && (mi f.aE.aD f.aD && mi f.aE.aF.length f.ab)) && (u6 f && AS f)):=by
 have ho:=hs.o
 have ha:=hs.a
 have cm:=C.m
 have co:=C.o8
 have tm:=T.m
 have to:=T.o8
 have t0:=T.o0
 unfold jM
 by_cases e1:(f.aD.length:Int)=f.aB.aD
 ·rw [ua e1,cond_false,np e1,Bool.true_and]
  rw [show cE f.aB=some (f.aB.aF.length:Int) from rfl,aA]
  by_cases e2:f.ab.length=f.aB.aF.length
  ·rw [ua (by omega),cond_false,within _ _ (by omega) (by omega) (by omega),aA,np e2,Bool.true_and]
   cases h3:mi f.aE.aD f.aD with
   | false=>rfl
   | true=>
    rw [Bool.not_true,cond_false,show cE f.aE=some (f.aE.aF.length:Int) from rfl,aA,within _ _ (by omega) (by omega) (by omega),aA]
    cases h4:mi f.aE.aF.length f.ab with
    | false=>rfl
    | true=>
     have H:FHead f:=⟨C,T,e1,e2,nq.1 h3,nq.1 h4⟩
     have il:=C.il
     have kl:=C.kl
     simp only [Bool.not_true,cond_false,aA,Bool.and_self,Bool.true_and]
     rw [rY (n:=f.aB.aF.length) (uq f) (fun a bj=>?_) (by unfold kD; rw [au (by omega),cond_false])]
     ·unfold u6
      cases h5:(ns f.aB.aF.length).any (uq f) with
      | true=>rfl
      | false=>
       rw [cond_false,Bool.not_false,Bool.true_and]
       rw [rY (n:=f.aB.aD.toNat) (wR f) (fun x bj=>?_) (by unfold kE; rw [au (by omega),cond_false])]
       ·unfold AS
        cases h6:(ns f.aB.aD.toNat).any (wR f) with
        | true=>rfl
        | false=>
         rw [cond_false,Bool.not_false,Bool.true_and]
         rw [rY (n:=f.aB.aF.length) (fun a=>(ns f.aB.aF.length).any (rH f a)) (fun a bj=>?_) (by unfold kG; rw [au (by omega),cond_false])]
         ·cases (ns f.aB.aF.length).any fun a=>(ns f.aB.aF.length).any (rH f a) <;> rfl
         ·unfold kG
          have hr:=C.row (a:Int) (by omega) (by omega)
          rw [aq (by omega),cond_true,C.qt (by omega) (by omega),aA]
          rw [rY (n:=f.aB.aF.length) (rH f a) (fun b hb=>?_) (by unfold kF; rw [au (by omega),cond_false])]
          ·rw [bK (by omega)]
          ·unfold kF
           rw [aq (by omega),cond_true,C.qu (by omega) (by omega) (by omega) (by omega),aA]
           unfold rH
           by_cases e:gi f.aB.To a=gi f.aB.aF b
           ·have k:=C.cell a b (by omega) (by omega) (by omega) (by omega) e
            have ka:=H.ar (a:=(a:Int)) (by omega) (by omega)
            have kb:=H.ar (a:=(b:Int)) (by omega) (by omega)
            rw [np e,aq (show gk f.aB.aC a b ≥ 0 from k.1),cond_true,H.rG k.1 k.2.1,aA,H.rG (by omega) (by omega),aA,H.rG (by omega) (by omega),aA,T.nc ka.1 ka.2 kb.1 kb.2,aA,aA,Bool.true_and,bK (by omega)]; rfl
           ·have:=C.none a b (by omega) (by omega) (by omega) (by omega) e
            rw [kh e,au (show ¬ gk f.aB.aC a b ≥ 0 by omega),cond_false,aA,Bool.false_and,bK (by omega)]; rfl
       ·have kx:=H.ob (x:=(x:Int)) (by omega) (by omega)
        have ki:=C.id (x:=(x:Int)) (by omega) (by omega)
        unfold kE
        rw [aq (by omega),cond_true,C.py (by omega) (by omega),aA,H.rG ki.1 ki.2,aA,H.uk (by omega) (by omega),aA,T.py kx.1 kx.2,aA,bK (by omega)]
        rfl
     ·have ka:=H.ar (a:=(a:Int)) (by omega) (by omega)
      have kf:=C.fr (f:=(a:Int)) (by omega) (by omega)
      have kt:=C.to (f:=(a:Int)) (by omega) (by omega)
      unfold kD
      rw [aq (by omega),cond_true,H.rG (by omega) (by omega),aA,T.jk ka.1 ka.2,aA,C.jk (by omega) (by omega),aA,H.uk kf.1 kf.2,aA,T.jx ka.1 ka.2,aA,C.jx (by omega) (by omega),aA,H.uk kt.1 kt.2,aA,bK (by omega),u3,AM,aA]
      rfl
  ·rw [p5 (by omega),cond_true,kh e2]; rfl
 ·rw [p5 e1,cond_true,kh e1]; rfl
theorem BM (a b:List Int) (ha:a.length≤1048576) (hb:∀ x∈a,0≤x∧x < b.length):kZ a b=some (thenS a b):=by
 unfold kZ
 refine (congrArg an (uj a.length (fun i=>gi b (gi a i)) (fun acc i=>(acc,(i:Int))) rfl ?_ ?_)).trans rfl
 ·intro i acc hi px
  have hm:=hb _ (lp (l:=a) (j:=(i:Int)) (by omega) (by omega))
  show iY a b acc i=_
  unfold iY
  rw [aq (by omega),cond_true,cI (by omega) (by omega),aA,cI hm.1 hm.2,aA,cR (by omega) (by omega),aA,bK (by omega)]
 ·intro acc _
  show iY a b acc _=_
  unfold iY
  rw [au (by omega),cond_false]
theorem Ez (l:List aH) (hl:l.length≤1048576) (hs:∀ c∈l,de c):iZ l=some (l.all lq):=by
 unfold iZ
 refine (congrArg an (ib l (fun c=>!lq c) (fun i=>(i:Int)) rfl ?_ ?_ (e:=(l.length:Int)) (y:=false) ?_)).trans ?_
 ·intro i x hx hp
  have hi:=bd hx
  unfold gN
  rw [aq (by omega),cond_true,bh,hx,aA,IZ (hs x (List.mem_of_getElem? hx)),aA,show (!lq x)=false from hp,cond_false,bK (by omega)]
 ·intro i x hx hp
  have hi:=bd hx
  unfold gN
  rw [aq (by omega),cond_true,bh,hx,aA,IZ (hs x (List.mem_of_getElem? hx)),aA,show (!lq x)=true from hp,cond_true]
 ·unfold gN
  rw [au (by omega),cond_false]
 ·rw [lg]
  cases l.all lq <;> rfl
theorem xU {f:aS} (hs:fv f):eX f=some (ez f):=by
 unfold eX ez sc
 rw [Ez _ (by simp) (by intro c hc; simp at hc; rcases hc with rfl | rfl; exact hs.s; exact hs.t),aA]
 simp only [List.all_cons,List.all_nil,Bool.and_true]
 cases h1:lq f.aB with
 | false=>rfl
 | true=>
  cases h2:lq f.aE with
  | false=>rfl
  | true=>
   rw [Bool.true_and,cond_true,Jq hs (uh h1) (uh h2)]
   rfl
theorem EA (l:List aS) (hl:l.length≤1048576) (hs:∀ c∈l,fv c):kH l=some (l.all ez):=by
 unfold kH
 refine (congrArg an (ib l (fun c=>!ez c) (fun i=>(i:Int)) rfl ?_ ?_ (e:=(l.length:Int)) (y:=false) ?_)).trans ?_
 ·intro i x hx hp
  have hi:=bd hx
  unfold iP
  rw [aq (by omega),cond_true,bh,hx,aA,xU (hs x (List.mem_of_getElem? hx)),aA,show (!ez x)=false from hp,cond_false,bK (by omega)]
 ·intro i x hx hp
  have hi:=bd hx
  unfold iP
  rw [aq (by omega),cond_true,bh,hx,aA,xU (hs x (List.mem_of_getElem? hx)),aA,show (!ez x)=true from hp,cond_true]
 ·unfold iP
  rw [au (by omega),cond_false]
 ·rw [lg]
  cases l.all ez <;> rfl
theorem Jr (l:List Int) (hl:l.length≤1048576):gB l=some l:=by
 unfold gB
 rw [cR (by simp; omega) (by simp; omega),aA]; rfl
theorem vi {c d:aH} {o a:List Int} (hc:de c) (hd:de d) (ho:o.length≤1048576) (ha:a.length≤1048576):jX c d o a=some (aS.mk c d o a):=by
 unfold jX
 rw [DL hc,aA,DL hd,aA,Jr o ho,aA,Jr a ha,aA]; rfl
theorem yY {c d:aH} {o a:List Int} (hc:de c) (hd:de d) (ho:o.length≤1048576) (ha:a.length≤1048576):jS c d o a=some (aS.mk c d o a):=by
 unfold jS
 rw [DK hc,aA,DK hd,aA,qG o ho,aA,qG a ha,aA]; rfl
def sb (f g:aS):aS:=aS.mk f.aB g.aE (thenS f.aD g.aD) (thenS f.ab g.ab)
theorem n9 (a b:List Int):(thenS a b).length=a.length:=by unfold thenS; rw [bX]
theorem Ew {f g:aS} (hf:fv f) (hg:fv g):fv (sb f g):=⟨hf.s,hg.t,by show (thenS _ _).length≤_; rw [n9]; exact hf.o,by show (thenS _ _).length≤_; rw [n9]; exact hf.a⟩
section
variable {f g:aS} (F:FHead f) (G:FHead g) (e:f.aE=g.aB)
include F G e
theorem xX:(∀ x∈f.aD,0≤x∧x < g.aD.length)∧∀ x∈f.ab,0≤x∧x < g.ab.length:=by
 have h1:=G.ol
 have h2:=G.al
 rw [← e] at h1 h2
 exact ⟨fun x hx=>⟨(F.oo x hx).1,by have:=(F.oo x hx).2; omega⟩,fun x hx=>⟨(F.aa x hx).1,by have:=(F.aa x hx).2; omega⟩⟩
theorem I8 (hf:fv f) (hg:fv g):jN f g=some (sb f g):=by
 obtain ⟨h1,h2⟩:=xX F G e
 unfold jN
 rw [DZ _ _ hf.o h1,aA,DZ _ _ hf.a h2,aA,vi hf.s hg.t (by rw [n9]; exact hf.o) (by rw [n9]; exact hf.a),aA]; rfl
theorem I7 (hf:fv f) (hg:fv g):mT f g=some (sb f g):=by
 obtain ⟨h1,h2⟩:=xX F G e
 unfold mT
 rw [BM _ _ hf.o h1,aA,BM _ _ hf.a h2,aA,yY hf.s hg.t (by rw [n9]; exact hf.o) (by rw [n9]; exact hf.a),aA]; rfl
end
theorem Lc {f g:aS} (hf:ez f=true) (hg:ez g=true) (e:f.aE=g.aB):ez (sb f g)=true:=by
 have F:=ik hf
 have G:=ik hg
 have h1:lq f.aB=true:=by unfold ez sc at hf; simp only [Bool.and_eq_true] at hf; exact hf.1.1
 have h2:lq g.aE=true:=by unfold ez sc at hg; simp only [Bool.and_eq_true] at hg; exact hg.1.2.1
 have go:∀ x:Int,0≤x→x < f.aB.aD→gi (thenS f.aD g.aD) x=gi g.aD (gi f.aD x):=fun x x0 x1=>wQ x0 (by rw [F.ol]; exact x1)
 have ga:∀ a:Int,0≤a→a < f.aB.aF.length→gi (thenS f.ab g.ab) a=gi g.ab (gi f.ab a):=fun a a0 a1=>wQ a0 (by rw [F.al]; exact a1)
 have ob:∀ x:Int,0≤x→x < f.aB.aD→0≤gi f.aD x∧gi f.aD x < g.aB.aD:=fun x x0 x1=>by rw [← e]; exact F.ob x0 x1
 have ar:∀ a:Int,0≤a→a < f.aB.aF.length→0≤gi f.ab a∧gi f.ab a < g.aB.aF.length:=fun a a0 a1=>by rw [← e]; exact F.ar a0 a1
 obtain ⟨t1,t2⟩:=xX F.toFHead G.toFHead e
 refine Ja (f:=sb f g) h1 h2 ?_ ?_ ?_ ?_ ?_ ?_ ?_ ?_
 ·show ((thenS _ _).length:Int)=_; rw [n9]; exact F.ol
 ·show (thenS _ _).length=_; rw [n9]; exact F.al
 ·exact fun y hy=>BK t1 G.oo hy
 ·exact fun y hy=>BK t2 G.aa hy
 ·intro a a0 a1
  have kf:=F.c.fr a0 a1
  show gi g.aE.aF (gi (thenS f.ab g.ab) a)=gi (thenS f.aD g.aD) (gi f.aB.aF a)
  rw [ga a a0 a1,go _ kf.1 kf.2,G.fr _ (ar a a0 a1).1 (ar a a0 a1).2,← e,F.fr a a0 a1]
 ·intro a a0 a1
  have kf:=F.c.to a0 a1
  show gi g.aE.To (gi (thenS f.ab g.ab) a)=gi (thenS f.aD g.aD) (gi f.aB.To a)
  rw [ga a a0 a1,go _ kf.1 kf.2,G.to _ (ar a a0 a1).1 (ar a a0 a1).2,← e,F.to a a0 a1]
 ·intro x x0 x1
  have ki:=F.c.id x0 x1
  show gi (thenS f.ab g.ab) (gi f.aB.aG x)=gi g.aE.aG (gi (thenS f.aD g.aD) x)
  rw [ga _ ki.1 ki.2,go x x0 x1,F.un x x0 x1,← G.un _ (ob x x0 x1).1 (ob x x0 x1).2,e]
 ·intro a b a0 a1 b0 b1 h
  have k:=F.c.cell a b a0 a1 b0 b1 h
  show gi (thenS f.ab g.ab) (gk f.aB.aC a b)=gk g.aE.aC (gi (thenS f.ab g.ab) a) (gi (thenS f.ab g.ab) b)
  rw [ga _ k.1 k.2.1,ga a a0 a1,ga b b0 b1,F.co a b a0 a1 b0 b1 h,← G.co _ _ (ar a a0 a1).1 (ar a a0 a1).2 (ar b b0 b1).1 (ar b b0 b1).2 (by rw [← e,F.to a a0 a1,F.fr b b0 b1]; exact congrArg (gi f.aD) h),e]
theorem Ea {f g:aS} (h:fv f):gO f g=some (oK f.aB g.aB && oK f.aE g.aE):=by
 unfold gO
 rw [vk h.s,aA,vk h.t,aA,u3,Lh]; rfl
end Go.Proofs.YtcnehblmgfbfoaaGreat
namespace Go.Proofs.YtcnehblmgfbfoaaGreat
open Go Go.Li
set_option linter.unusedVariables false
structure xT (m:bO):Prop where
 s:fv m.aB
 t:fv m.aE
 p:m.bb.length≤1048576
def u4 (t:bO):Bool:=ez t.aB && (ez t.aE && ((oK t.aB.aB t.aE.aB && oK t.aB.aE t.aE.aE) && (((t.bb.length:Int) == t.aB.aB.aD) && mi t.aB.aE.aF.length t.bb)))
def zf (t:bO) (x:Int):Bool:=(gi t.aB.aE.aF (gi t.bb x) != gi t.aB.aD x) || (gi t.aB.aE.To (gi t.bb x) != gi t.aE.aD x)
def FP (f g:aS) (p:List Int) (a:Int):Bool:=gk f.aE.aC (gi f.ab a) (gi p (gi f.aB.To a)) == gk f.aE.aC (gi p (gi f.aB.aF a)) (gi g.ab a)
def D0 (t:bO):Bool:=!((ns t.aB.aB.aF.length).any fun a=>!(FP t.aB t.aE t.bb a))
def wP (t:bO):Bool:=!((ns t.bb.length).any (zf t))
def iu (t:bO):Bool:=(u4 t && wP t) && D0 t
structure THead (t:bO):Prop where
 f:Aa t.aB
 g:Aa t.aE
 fb:ez t.aB=true
 gb:ez t.aE=true
 es:t.aE.aB=t.aB.aB
 et:t.aE.aE=t.aB.aE
 pl:(t.bb.length:Int)=t.aB.aB.aD
 pp:∀ y∈t.bb,0≤y∧y < t.aB.aE.aF.length
theorem Eb {t:bO} (h:u4 t=true):THead t:=by
 unfold u4 at h
 simp only [Bool.and_eq_true,beq_iff_eq,nq,qH] at h
 obtain ⟨h1,h2,⟨h3,h4⟩,h5,h6⟩:=h
 exact ⟨ik h1,ik h2,h1,h2,h3.symm,h4.symm,h5,h6⟩
namespace THead
variable {t:bO} (H:THead t)
include H
theorem G6 {x:Int} (h0:0≤x) (h1:x < t.aB.aB.aD):idx t.bb x=some (gi t.bb x):=cI h0 (by rw [H.pl]; exact h1)
theorem cp {x:Int} (h0:0≤x) (h1:x < t.aB.aB.aD):0≤gi t.bb x∧gi t.bb x < t.aB.aE.aF.length:=H.pp _ (lp h0 (by rw [H.pl]; exact h1))
theorem Uy {a:Int} (h0:0≤a) (h1:a < t.aB.aB.aF.length):0≤gi t.aE.ab a∧gi t.aE.ab a < t.aB.aE.aF.length:=by have:=H.g.ar (a:=a) h0 (by rw [H.es]; exact h1); rwa [H.et] at this
theorem ME {a:Int} (h0:0≤a) (h1:a < t.aB.aB.aF.length):idx t.aE.ab a=some (gi t.aE.ab a):=H.g.rG h0 (by rw [H.es]; exact h1)
end THead
structure MY (t:bO):Prop extends THead t where
 pf:∀ x:Int,0≤x→x < t.aB.aB.aD→gi t.aB.aE.aF (gi t.bb x)=gi t.aB.aD x
 pt:∀ x:Int,0≤x→x < t.aB.aB.aD→gi t.aB.aE.To (gi t.bb x)=gi t.aE.aD x
theorem Ly {t:bO} (h1:u4 t=true) (h2:wP t=true):MY t:=by
 have H:=Eb h1
 have hl:=H.pl
 unfold wP at h2
 rw [Bool.not_eq_true',ei] at h2
 refine { H with pf:=fun a a0 a1=>?_,pt:=fun a a0 a1=>?_ } <;>
 ·have:=h2 a a0 (by omega)
  unfold zf at this
  simp only [Bool.or_eq_false_iff,bne_eq_false_iff_eq] at this
  first | exact this.1 | exact this.2
structure Yr (t:bO):Prop extends MY t where
 sq:∀ a:Int,0≤a→a < t.aB.aB.aF.length→gk t.aB.aE.aC (gi t.aB.ab a) (gi t.bb (gi t.aB.aB.To a))=gk t.aB.aE.aC (gi t.bb (gi t.aB.aB.aF a)) (gi t.aE.ab a)
theorem xV {t:bO} (h:iu t=true):Yr t:=by
 unfold iu at h
 simp only [Bool.and_eq_true] at h
 obtain ⟨⟨h1,h2⟩,h3⟩:=h
 unfold D0 at h3
 rw [Bool.not_eq_true',ei] at h3
 refine { Ly h1 h2 with sq:=fun a a0 a1=>?_ }
 have:=h3 a a0 a1
 unfold FP at this
 simpa using this
theorem Ec {t:bO} (H:THead t) {a:Int} (a0:0≤a) (a1:a < t.aB.aB.aF.length):gP t.aB t.aE t.bb a=some (FP t.aB t.aE t.bb a):=by
 have F:=H.f
 have kf:=F.c.fr a0 a1
 have kt:=F.c.to a0 a1
 have ka:=F.ar a0 a1
 have k1:=H.cp kt.1 kt.2
 have k2:=H.cp kf.1 kf.2
 have k3:=H.Uy a0 a1
 unfold gP FP
 rw [F.rG a0 a1,aA,F.c.jx a0 a1,aA,H.G6 kt.1 kt.2,aA,F.d.nc ka.1 ka.2 k1.1 k1.2,aA,F.c.jk a0 a1,aA,H.G6 kf.1 kf.2,aA,H.ME a0 a1,aA,F.d.nc k2.1 k2.2 k3.1 k3.2,aA]
 rfl
theorem Sl {n k:Nat} {A0:Int→Option (Out Int Int)} {p:Int→Bool} (a0:∀ a:Nat,a < n→A0 a=bif !(p a) then some (.ret (a:Int)) else some (.norm ((a+1:Nat):Int))) (a3:A0 n=some (.exit k (n:Int))) :
  ∃ y,an (S:=Unit) (aj (ah k (ai A0 (0:Int))) fun _=>some (.ret (-1:Int)))=some y∧decide (y < 0) = !((ns n).any fun a=>!(p a)):=by
 have hx:∀ i:Nat,i < n→((!(p i))=false∧A0 i=some (.norm ((i+1:Nat):Int)))∨((!(p i))=true∧∃ y,A0 i=some (.ret y)∧0≤y):=by
  intro i hi
  rw [a0 i hi]
  cases p i with
  | true=>exact .inl ⟨rfl,rfl⟩
  | false=>exact .inr ⟨rfl,_,rfl,by omega⟩
 rcases Xs (S:=Unit) (f:=fun _=>some (.ret (-1:Int))) (n:=n) (fun a=>!(p a)) (fun y:Int=>0≤y) hx a3 with ⟨h1,h2⟩ | ⟨h1,y,h2,h3⟩
 ·rw [h1,h2]; exact ⟨_,rfl,aq (by decide)⟩
 ·rw [h1,h2]; exact ⟨y,rfl,au (by omega)⟩
theorem Hc {t:bO} (H:THead t):∃ y,jO t (fun a0 a1 a2 a3=>gP a0 a1 a2 a3)=some y∧decide (y < 0)=D0 t:=by
 have cm:=H.f.c.m
 have al:=H.f.al
 unfold jO D0
 refine Sl (n:=t.aB.aB.aF.length) (fun a ha=>?_) (by unfold kI; rw [au (by omega),cond_false])
 unfold kI
 show (bif decide ((a:Int) < (t.aB.ab.length:Int)) then (gP t.aB t.aE t.bb a>>=_) else _)=_
 rw [aq (by omega),cond_true,Ec H (by omega) (by omega),aA,bK (by omega)]
theorem FR {t:bO} (hs:xT t):eI t=some (iu t):=by
 have hp:=hs.p
 unfold eI
 have key:eQ t=some (u4 t && wP t):=by
  unfold eQ u4
  rw [EA _ (by simp) (by intro c hc; simp at hc; rcases hc with rfl | rfl; exact hs.s; exact hs.t),aA]
  simp only [List.all_cons,List.all_nil,Bool.and_true]
  cases h1:ez t.aB with
  | false=>rfl
  | true=>
   have F:=ik h1
   cases h2:ez t.aE with
   | false=>rfl
   | true=>
    have G:=ik h2
    have dm:=F.d.m
    simp only [Bool.true_and,Bool.not_true,cond_false]
    rw [Ea hs.s,aA]
    cases h3:oK t.aB.aB t.aE.aB && oK t.aB.aE t.aE.aE with
    | false=>rfl
    | true=>
     have h4:=h3
     simp only [Bool.and_eq_true,qH] at h4
     rw [Bool.not_true,cond_false]
     by_cases e1:(t.bb.length:Int)=t.aB.aB.aD
     ·rw [ua e1,cond_false,show cE t.aB.aE=some (t.aB.aE.aF.length:Int) from rfl,aA,within _ _ (by omega) (by omega) (by omega),aA,aA,np e1,Bool.true_and,Bool.true_and]
      cases h:mi t.aB.aE.aF.length t.bb with
      | false=>rfl
      | true=>
       rw [Bool.not_true,cond_false,Bool.true_and]
       have wV:=nq.1 h
       rw [rY (n:=t.bb.length) (zf t) (fun x bj=>?_) (by unfold fK; rw [au (by omega),cond_false])]
       ·unfold wP
        cases (ns t.bb.length).any (zf t) <;> rfl
       ·have kc:=wV _ (lp (l:=t.bb) (j:=(x:Int)) (by omega) (by omega))
        unfold fK
        rw [aq (by omega),cond_true,cI (by omega) (by omega),aA,show dJ t.aB.aE (gi t.bb x)=some (oY.mk (gi t.aB.aE.aF (gi t.bb x)) (gi t.aB.aE.To (gi t.bb x))) by unfold dJ; rw [F.d.jk kc.1 kc.2,aA,F.d.jx kc.1 kc.2,aA]; rfl,aA,F.uk (by omega) (by omega),aA,G.uk (by omega) (by rw [← h4.1]; omega),aA,bK (by omega)]
        unfold zf
        rw [Bool.not_and]
        rfl
     ·rw [p5 e1,cond_true,aA,cond_true,kh e1]; rfl
 rw [key,aA]
 unfold iu
 cases h1:u4 t with
 | false=>rfl
 | true=>
  cases h2:wP t with
  | false=>rfl
  | true=>
   obtain ⟨y,e1,e2⟩:=Hc (Eb h1)
   simp only [Bool.and_self,cond_true]
   rw [e1,aA,e2]; rfl
theorem G4 (l:List bO) (hl:l.length≤1048576) (hs:∀ c∈l,xT c):jC l=some (l.all iu):=by
 unfold jC
 refine (congrArg an (ib l (fun c=>!iu c) (fun i=>(i:Int)) rfl ?_ ?_ (e:=(l.length:Int)) (y:=false) ?_)).trans ?_
 ·intro i x hx hp
  have hi:=bd hx
  unfold jB
  rw [aq (by omega),cond_true,bh,hx,aA,FR (hs x (List.mem_of_getElem? hx)),aA,show (!iu x)=false from hp,cond_false,bK (by omega)]
 ·intro i x hx hp
  have hi:=bd hx
  unfold jB
  rw [aq (by omega),cond_true,bh,hx,aA,FR (hs x (List.mem_of_getElem? hx)),aA,show (!iu x)=true from hp,cond_true]
 ·unfold jB
  rw [au (by omega),cond_false]
 ·rw [lg]
  cases l.all iu <;> rfl
end Go.Proofs.YtcnehblmgfbfoaaGreat
namespace Go.Proofs.YtcnehblmgfbfoaaGreat
open Go Go.Li
set_option linter.unusedVariables false
section
variable {t:bO} {g:aS} (ht:iu t=true) (hg:ez g=true) (e:t.aB.aE=g.aB)
include ht hg e
omit hg e in
end
section
variable {t:bO} {f:aS} (hf:ez f=true) (ht:iu t=true) (e:f.aE=t.aB.aB)
include hf ht e
end
section
variable {s t:bO} (hs:iu s=true) (ht:iu t=true) (e:s.aE=t.aB)
include hs ht e
end
end Go.Proofs.YtcnehblmgfbfoaaGreat
