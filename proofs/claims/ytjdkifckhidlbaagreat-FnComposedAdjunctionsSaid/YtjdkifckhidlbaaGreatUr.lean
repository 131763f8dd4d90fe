/- Opposite categories and functors: their tables; the reference reckons them so. No condition beside those that each theorem names. -/
import Derived.Test.YtjdkifckhidlbaaGreatYk
import Derived.Test.YtjdkifckhidlbaaGreatYt
namespace Go.Proofs.YtjdkifckhidlbaaGreat
open Go Go.Li
set_option linter.unusedVariables false
set_option linter.unusedSimpArgs false
theorem E5 {c:aI} (H:nr c):qx c=true:=by
 have h0:=H.o0
 have ux:=H.il
 unfold qx r7 Bb wM
 simp only [Bool.and_eq_true,decide_eq_true_eq,qm,beq_iff_eq,List.all_eq_true,Bool.not_eq_true',ei]
 refine ⟨⟨⟨⟨⟨H.o0,H.o8⟩,H.m,H.f⟩,⟨H.tl,H.t⟩,H.kl,H.il,H.i⟩,fun x hx=>?_,fun f hf=>?_⟩,fun f hf=>?_,fun f f0 f1=>?_⟩
 ·have:=gq.1 hx
  unfold Ah
  rw [H.vf x (by omega) (by omega),H.vZ x (by omega) (by omega)]; simp
 ·have kf:=gq.1 hf
  unfold yA
  rw [H.row f kf.1 kf.2]
  simp only [beq_self_eq_true,Bool.true_and,List.all_eq_true]
  intro g hg
  have kg:=gq.1 hg
  unfold vN
  by_cases e:gi c.To f=gi c.aH g
  ·rw [if_pos e]
   obtain ⟨h1,h2,h3,h4⟩:=H.cell f g kf.1 kf.2 kg.1 kg.2 e
   simp only [Bool.and_eq_true,decide_eq_true_eq,beq_iff_eq]
   exact ⟨⟨h1,h2⟩,h3,h4⟩
  ·rw [if_neg e,H.none f g kf.1 kf.2 kg.1 kg.2 e]; rfl
 ·have kf:=gq.1 hf
  unfold vO
  rw [H.CZ f kf.1 kf.2,H.C0 f kf.1 kf.2]; simp
 ·unfold FI
  rw [ei]
  intro g g0 g1
  unfold Ci
  by_cases e:gi c.To f=gi c.aH g
  ·rw [qd e,Bool.true_and,ei]
   intro h h0 h1
   unfold xg
   by_cases e2:gi c.To g=gi c.aH h
   ·rw [H.assoc f g h f0 f1 g0 g1 h0 h1 e e2]; simp
   ·rw [tj e2]; rfl
  ·rw [tj e]; rfl
def K0 (c:aI):List (List Int):=cn c.aH.length fun f=>cn c.aH.length fun g=>gk c.aE g f
def vQ (c:aI):aI:=aI.mk c.aA c.To c.aH c.aJ (K0 c)
theorem Jo {c:aI} {f g:Int} (f0:0≤f) (f1:f < c.aH.length) (g0:0≤g) (g1:g < c.aH.length):gk (K0 c) f g=gk c.aE g f:=by
 show gi (gr (cn c.aH.length fun f=>cn c.aH.length fun g=>gk c.aE g f) f) g=_
 rw [wC f0 f1,qo g0 g1]
theorem O4 {c:aI} (C:nr c):nr (vQ c):=by
  have hl:(vQ c).aH.length=c.aH.length:=C.tl
  have at_:∀ f g:Int,0≤f→f < (vQ c).aH.length→0≤g→g < (vQ c).aH.length→gk (vQ c).aE f g=gk c.aE g f:=fun f g f0 f1 g0 g1=>Jo f0 (by rw [← hl]; exact f1) g0 (by rw [← hl]; exact g1)
  refine { o0:=C.o0,o8:=C.o8,m:=by rw [hl]; exact C.m,f:=C.t,tl:=C.tl.symm,t:=C.f,kl:=by rw [hl]; exact cL _ _,il:=C.il,i:=fun x hx=>by rw [hl]; exact C.i x hx,
           vf:=C.vZ,vZ:=C.vf,row:=fun f f0 f1=>?_,cell:=fun f g f0 f1 g0 g1 e=>?_,none:=fun f g f0 f1 g0 g1 e=>?_,
           CZ:=fun f f0 f1=>?_,C0:=fun f f0 f1=>?_,assoc:=fun f g h f0 f1 g0 g1 h0 h1 e1 e2=>?_ }
  · show (gr (cn c.aH.length fun f=>cn c.aH.length fun g=>gk c.aE g f) f).length=_
    rw [hl] at f1
    rw [wC f0 f1,cL,hl]
  · rw [at_ f g f0 f1 g0 g1]
    rw [hl] at f1 g1 ⊢
    obtain ⟨h1,h2,h3,h4⟩:=C.cell g f g0 g1 f0 f1 e.symm
    exact ⟨h1,h2,h4,h3⟩
  · rw [at_ f g f0 f1 g0 g1]
    rw [hl] at f1 g1
    exact C.none g f g0 g1 f0 f1 fun h=>e h.symm
  · have k:=C.to (f:=f) f0 (by rw [← hl]; exact f1)
    have k2:=C.id (x:=gi c.To f) k.1 k.2
    show gk (vQ c).aE (gi c.aJ (gi c.To f)) f=f
    rw [at_ _ _ k2.1 (by rw [hl]; exact k2.2) f0 f1]
    exact C.C0 f f0 (by rw [← hl]; exact f1)
  · have k:=C.fr (f:=f) f0 (by rw [← hl]; exact f1)
    have k2:=C.id (x:=gi c.aH f) k.1 k.2
    show gk (vQ c).aE f (gi c.aJ (gi c.aH f))=f
    rw [at_ _ _ f0 f1 k2.1 (by rw [hl]; exact k2.2)]
    exact C.CZ f f0 (by rw [← hl]; exact f1)
  · rw [at_ f g f0 f1 g0 g1,at_ g h g0 g1 h0 h1]
    rw [hl] at f1 g1 h1
    have k1:=C.cell g f g0 g1 f0 f1 e1.symm
    have k2:=C.cell h g h0 h1 g0 g1 e2.symm
    rw [at_ _ h k1.1 (by rw [hl]; exact k1.2.1) h0 (by rw [hl]; exact h1),at_ f _ f0 (by rw [hl]; exact f1) k2.1 (by rw [hl]; exact k2.2.1)]
    exact (C.assoc h g f h0 h1 g0 g1 f0 f1 e2.symm e1.symm).symm
theorem Jp {c:aI} (C:nr c):fx (vQ c):=by
 have hm:=C.m
 have ht:=C.tl
 have hi:=C.il
 have h8:=C.o8
 refine ⟨by show c.To.length≤_; omega,by show c.aH.length≤_; omega,by show c.aJ.length≤_; omega,by show (K0 c).length≤_; unfold K0; rw [cL]; omega,fun x hx=>?_⟩
 obtain ⟨y,_,rfl⟩:=pw.1 hx
 rw [cL]; omega
theorem vi {c:aI} (C:nr c):fx c:=by
 have hm:=C.m
 have ht:=C.tl
 have hi:=C.il
 have h8:=C.o8
 have hk:=C.kl
 refine ⟨by omega,by omega,by omega,by omega,fun x hx=>?_⟩
 obtain ⟨i,hi,rfl⟩:=List.mem_iff_getElem.1 hx
 replace hi:i < c.aE.length:=hi
 have:=C.row (i:Int) (by omega) (by omega)
 unfold gr at this
 rw [List.getD_eq_getElem?_getD,Int.toNat_natCast,List.getElem?_eq_getElem hi] at this
 have e:c.aE[i].length=c.aH.length:=this
 omega
def yH (f:aO):aO:=aO.mk (vQ f.aB) (vQ f.aF) f.aA f.ae
theorem Fb {f:aO} (h:gn f=true):gn (yH f)=true:=by
 have F:=bp h
 refine Jb (f:=yH f) (E5 (O4 F.c)) (E5 (O4 F.d)) F.ol (F.al.trans F.c.tl.symm) F.oo (fun y hy=>by rw [show (yH f).aF.aH.length=f.aF.aH.length from F.d.tl]; exact F.aa y hy) (fun a a0 a1=>?_) (fun a a0 a1=>?_) F.un fun a b a0 a1 b0 b1 e=>?_
 all_goals rw [show (yH f).aB.aH.length=f.aB.aH.length from F.c.tl] at *
 ·exact F.to a a0 a1
 ·exact F.fr a a0 a1
 ·have k1:=F.ar a0 a1
  have k2:=F.ar b0 b1
  show gi f.ae (gk (K0 f.aB) a b)=gk (K0 f.aF) (gi f.ae a) (gi f.ae b)
  rw [Jo a0 a1 b0 b1,Jo k1.1 k1.2 k2.1 k2.2]
  exact F.co b a b0 b1 a0 a1 e.symm
theorem Cv {f:aO} (F:Cm f):jo f:=by
 have h1:=F.c.m
 have h2:=F.ol
 have h3:=F.al
 have h4:=F.c.o8
 exact ⟨vi F.c,vi F.d,by omega,by omega⟩
theorem O5 {c:aI} (C:nr c):gT c=some (vQ c):=by
 have c1:=C.m
 have c2:=C.tl
 have c3:=C.il
 have c4:=C.o8
 suffices h:Ok (gT c) fun e=>e=vQ c by
  obtain ⟨y,h1,h2⟩:=h
  rw [h1,h2]
 unfold gT
 refine jv (oe (ee _ (by omega)) (oe (ee _ (by omega)) (oe (ee _ (by omega)) ?_)))
 refine ol (fun z:Int×List (List Int)=>(0≤z.1∧z.1≤c.aH.length)∧z.2=cn z.1.toNat fun f=>cn c.aH.length fun g=>gk c.aE g f) (fun z=>(c.aH.length - z.1).toNat) ⟨⟨by show (0:Int)≤0; omega,by show (0:Int)≤_; omega⟩,rfl⟩ ?_
 rintro ⟨i,k⟩ ⟨⟨i0,i1⟩,hk⟩
 dsimp only at i0 i1 hk
 show Ok (jM c i k) _
 unfold jM
 have BA:k.length=i.toNat:=by rw [hk,cL]
 refine od (fun hi=>?_) fun hi=>os ⟨rfl,os ?_⟩
 ·refine ol (fun z:List Int×Int=>(0≤z.2∧z.2≤c.aH.length)∧z.1=cn z.2.toNat fun g=>gk c.aE g i) (fun z=>(c.aH.length - z.2).toNat) ⟨⟨by show (0:Int)≤0; omega,by show (0:Int)≤_; omega⟩,rfl⟩ ?_
  rintro ⟨row,j⟩ ⟨⟨j0,j1⟩,bg⟩
  dsimp only at j0 j1 bg
  show Ok (jL c i row j) _
  unfold jL
  have zM:row.length=j.toNat:=by rw [bg,cL]
  refine od (fun hj=>?_) fun hj=>os ⟨rfl,?_⟩
  ·have hw:=w1 j0 hj (by omega)
   refine oe (C.o5 j0 hj) (oe (C.nt j0 hj i0 hi) (fk (by omega) (by omega) (os ⟨⟨⟨?_,?_⟩,?_⟩,?_⟩)))
   ·dsimp only; rw [hw]; omega
   ·dsimp only; rw [hw]; omega
   ·dsimp only; rw [hw,show (j+1).toNat=j.toNat+1 by omega,mq,bg,show ((j.toNat:Nat):Int)=j by omega]
   ·dsimp only; rw [hw]; omega
  ·have hw:=w1 i0 hi (by omega)
   obtain rfl:j=c.aH.length:=by omega
   refine fk (by omega) (by omega) (os ⟨⟨⟨?_,?_⟩,?_⟩,?_⟩)
   ·dsimp only; rw [hw]; omega
   ·dsimp only; rw [hw]; omega
   ·dsimp only; rw [hw,show (i+1).toNat=i.toNat+1 by omega,mq,hk,show ((i.toNat:Nat):Int)=i by omega,bg,Int.toNat_natCast]
   ·dsimp only; rw [hw]; omega
 ·obtain rfl:i=c.aH.length:=by omega
  rw [hk,Int.toNat_natCast]; rfl
theorem C2 {f:aO} (h:gn f=true):jQ f=some (yH f):=by
 have F:=bp h
 have hs:=Cv F
 unfold jQ
 rw [O5 F.c,aG,O5 F.d,aG,sx (Jp F.c) (Jp F.d) hs.o hs.a]; rfl
end Go.Proofs.YtjdkifckhidlbaaGreat
