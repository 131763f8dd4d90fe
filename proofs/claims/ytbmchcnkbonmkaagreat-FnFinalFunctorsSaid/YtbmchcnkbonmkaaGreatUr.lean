/- Opposite categories and functors: their tables; the reference reckons them so. No condition beside those that each theorem names. -/
import Derived.Test.YtbmchcnkbonmkaaGreatYk
import Derived.Test.YtbmchcnkbonmkaaGreatYt
namespace Go.Proofs.YtbmchcnkbonmkaaGreat
open Go Go.Li
set_option linter.unusedVariables false
set_option linter.unusedSimpArgs false
theorem w6 {c:aG} (H:mc c):ri c=true:=by
 have h0:=H.o0
 have ux:=H.il
 unfold ri r5 Bz wI
 simp only [Bool.and_eq_true,decide_eq_true_eq,sT,beq_iff_eq,List.all_eq_true,Bool.not_eq_true',dy]
 refine ⟨⟨⟨⟨⟨H.o0,H.o8⟩,H.m,H.f⟩,⟨H.tl,H.t⟩,H.kl,H.il,H.i⟩,fun x hx=>?_,fun f hf=>?_⟩,fun f hf=>?_,fun f f0 f1=>?_⟩
 ·have:=bp.1 hx
  unfold Az
  rw [H.uK x (by omega) (by omega),H.vL x (by omega) (by omega)]; simp
 ·have kf:=bp.1 hf
  unfold yV
  rw [H.row f kf.1 kf.2]
  simp only [beq_self_eq_true,Bool.true_and,List.all_eq_true]
  intro g hg
  have kg:=bp.1 hg
  unfold vK
  by_cases e:gi c.To f=gi c.aC g
  ·rw [if_pos e]
   obtain ⟨h1,h2,h3,h4⟩:=H.cell f g kf.1 kf.2 kg.1 kg.2 e
   simp only [Bool.and_eq_true,decide_eq_true_eq,beq_iff_eq]
   exact ⟨⟨h1,h2⟩,h3,h4⟩
  ·rw [if_neg e,H.none f g kf.1 kf.2 kg.1 kg.2 e]; rfl
 ·have kf:=bp.1 hf
  unfold vM
  rw [H.vN f kf.1 kf.2,H.EZ f kf.1 kf.2]; simp
 ·unfold FX
  rw [dy]
  intro g g0 g1
  unfold CC
  by_cases e:gi c.To f=gi c.aC g
  ·rw [yS e,Bool.true_and,dy]
   intro h h0 h1
   unfold xq
   by_cases e2:gi c.To g=gi c.aC h
   ·rw [H.assoc f g h f0 f1 g0 g1 h0 h1 e e2]; simp
   ·rw [tV e2]; rfl
  ·rw [tV e]; rfl
def xD (c:aG):List (List Int):=db c.aC.length fun f=>db c.aC.length fun g=>gk c.aB g f
def sU (c:aG):aG:=aG.mk c.aA c.To c.aC c.aH (xD c)
theorem wZ {c:aG} {f g:Int} (f0:0≤f) (f1:f < c.aC.length) (g0:0≤g) (g1:g < c.aC.length):gk (xD c) f g=gk c.aB g f:=by
 show gi (gr (db c.aC.length fun f=>db c.aC.length fun g=>gk c.aB g f) f) g=_
 rw [ui f0 f1,qh g0 g1]
theorem Pk {c:aG} (C:mc c):mc (sU c):=by
  have hl:(sU c).aC.length=c.aC.length:=C.tl
  have at_:∀ f g:Int,0≤f→f < (sU c).aC.length→0≤g→g < (sU c).aC.length→gk (sU c).aB f g=gk c.aB g f:=fun f g f0 f1 g0 g1=>wZ f0 (by rw [← hl]; exact f1) g0 (by rw [← hl]; exact g1)
  refine { o0:=C.o0,o8:=C.o8,m:=by rw [hl]; exact C.m,f:=C.t,tl:=C.tl.symm,t:=C.f,kl:=by rw [hl]; exact bL _ _,il:=C.il,i:=fun x hx=>by rw [hl]; exact C.i x hx,
           uK:=C.vL,vL:=C.uK,row:=fun f f0 f1=>?_,cell:=fun f g f0 f1 g0 g1 e=>?_,none:=fun f g f0 f1 g0 g1 e=>?_,
           vN:=fun f f0 f1=>?_,EZ:=fun f f0 f1=>?_,assoc:=fun f g h f0 f1 g0 g1 h0 h1 e1 e2=>?_ }
  · show (gr (db c.aC.length fun f=>db c.aC.length fun g=>gk c.aB g f) f).length=_
    rw [hl] at f1
    rw [ui f0 f1,bL,hl]
  · rw [at_ f g f0 f1 g0 g1]
    rw [hl] at f1 g1 ⊢
    obtain ⟨h1,h2,h3,h4⟩:=C.cell g f g0 g1 f0 f1 e.symm
    exact ⟨h1,h2,h4,h3⟩
  · rw [at_ f g f0 f1 g0 g1]
    rw [hl] at f1 g1
    exact C.none g f g0 g1 f0 f1 fun h=>e h.symm
  · have k:=C.to (f:=f) f0 (by rw [← hl]; exact f1)
    have k2:=C.id (x:=gi c.To f) k.1 k.2
    show gk (sU c).aB (gi c.aH (gi c.To f)) f=f
    rw [at_ _ _ k2.1 (by rw [hl]; exact k2.2) f0 f1]
    exact C.EZ f f0 (by rw [← hl]; exact f1)
  · have k:=C.fr (f:=f) f0 (by rw [← hl]; exact f1)
    have k2:=C.id (x:=gi c.aC f) k.1 k.2
    show gk (sU c).aB f (gi c.aH (gi c.aC f))=f
    rw [at_ _ _ f0 f1 k2.1 (by rw [hl]; exact k2.2)]
    exact C.vN f f0 (by rw [← hl]; exact f1)
  · rw [at_ f g f0 f1 g0 g1,at_ g h g0 g1 h0 h1]
    rw [hl] at f1 g1 h1
    have k1:=C.cell g f g0 g1 f0 f1 e1.symm
    have k2:=C.cell h g h0 h1 g0 g1 e2.symm
    rw [at_ _ h k1.1 (by rw [hl]; exact k1.2.1) h0 (by rw [hl]; exact h1),at_ f _ f0 (by rw [hl]; exact f1) k2.1 (by rw [hl]; exact k2.2.1)]
    exact (C.assoc h g f h0 h1 g0 g1 f0 f1 e2.symm e1.symm).symm
theorem BD {c:aG} (C:mc c):ir (sU c):=by
 have hm:=C.m
 have ht:=C.tl
 have hi:=C.il
 have h8:=C.o8
 refine ⟨by show c.To.length≤_; omega,by show c.aC.length≤_; omega,by show c.aH.length≤_; omega,by show (xD c).length≤_; unfold xD; rw [bL]; omega,fun x hx=>?_⟩
 obtain ⟨y,_,rfl⟩:=o6.1 hx
 rw [bL]; omega
theorem w7 {c:aG} (C:mc c):ir c:=by
 have hm:=C.m
 have ht:=C.tl
 have hi:=C.il
 have h8:=C.o8
 have hk:=C.kl
 refine ⟨by omega,by omega,by omega,by omega,fun x hx=>?_⟩
 obtain ⟨i,hi,rfl⟩:=List.mem_iff_getElem.1 hx
 replace hi:i < c.aB.length:=hi
 have:=C.row (i:Int) (by omega) (by omega)
 unfold gr at this
 rw [List.getD_eq_getElem?_getD,Int.toNat_natCast,List.getElem?_eq_getElem hi] at this
 have e:c.aB[i].length=c.aC.length:=this
 omega
def pw (f:aJ):aJ:=aJ.mk (sU f.aE) (sU f.aF) f.aA f.ah
theorem vQ {f:aJ} (h:fk f=true):fk (pw f)=true:=by
 have F:=dq h
 refine E4 (f:=pw f) (w6 (Pk F.c)) (w6 (Pk F.d)) F.ol (F.al.trans F.c.tl.symm) F.oo (fun y hy=>by rw [show (pw f).aF.aC.length=f.aF.aC.length from F.d.tl]; exact F.aa y hy) (fun a a0 a1=>?_) (fun a a0 a1=>?_) F.un fun a b a0 a1 b0 b1 e=>?_
 all_goals rw [show (pw f).aE.aC.length=f.aE.aC.length from F.c.tl] at *
 ·exact F.to a a0 a1
 ·exact F.fr a a0 a1
 ·have k1:=F.ar a0 a1
  have k2:=F.ar b0 b1
  show gi f.ah (gk (xD f.aE) a b)=gk (xD f.aF) (gi f.ah a) (gi f.ah b)
  rw [wZ a0 a1 b0 b1,wZ k1.1 k1.2 k2.1 k2.2]
  exact F.co b a b0 b1 a0 a1 e.symm
theorem zI {f:aJ} (F:Lp f):tB f:=by
 have h1:=F.c.m
 have h2:=F.ol
 have h3:=F.al
 have h4:=F.c.o8
 exact ⟨w7 F.c,w7 F.d,by omega,by omega⟩
theorem Pl {c:aG} (C:mc c):iA c=some (sU c):=by
 have c1:=C.m
 have c2:=C.tl
 have c3:=C.il
 have c4:=C.o8
 suffices h:Ok (iA c) fun e=>e=sU c by
  obtain ⟨y,h1,h2⟩:=h
  rw [h1,h2]
 unfold iA
 refine jb (oe (iu _ (by omega)) (oe (iu _ (by omega)) (oe (iu _ (by omega)) ?_)))
 refine ol (fun z:Int×List (List Int)=>(0≤z.1∧z.1≤c.aC.length)∧z.2=db z.1.toNat fun f=>db c.aC.length fun g=>gk c.aB g f) (fun z=>(c.aC.length - z.1).toNat) ⟨⟨by show (0:Int)≤0; omega,by show (0:Int)≤_; omega⟩,rfl⟩ ?_
 rintro ⟨i,k⟩ ⟨⟨i0,i1⟩,hk⟩
 dsimp only at i0 i1 hk
 show Ok (lF c i k) _
 unfold lF
 have De:k.length=i.toNat:=by rw [hk,bL]
 refine od (fun hi=>?_) fun hi=>os ⟨rfl,os ?_⟩
 ·refine ol (fun z:List Int×Int=>(0≤z.2∧z.2≤c.aC.length)∧z.1=db z.2.toNat fun g=>gk c.aB g i) (fun z=>(c.aC.length - z.2).toNat) ⟨⟨by show (0:Int)≤0; omega,by show (0:Int)≤_; omega⟩,rfl⟩ ?_
  rintro ⟨row,j⟩ ⟨⟨j0,j1⟩,bg⟩
  dsimp only at j0 j1 bg
  show Ok (lE c i row j) _
  unfold lE
  have Ng:row.length=j.toNat:=by rw [bg,bL]
  refine od (fun hj=>?_) fun hj=>os ⟨rfl,?_⟩
  ·have hw:=w1 j0 hj (by omega)
   refine oe (C.mm j0 hj) (oe (C.l5 j0 hj i0 hi) (ew (by omega) (by omega) (os ⟨⟨⟨?_,?_⟩,?_⟩,?_⟩)))
   ·dsimp only; rw [hw]; omega
   ·dsimp only; rw [hw]; omega
   ·dsimp only; rw [hw,show (j+1).toNat=j.toNat+1 by omega,p7,bg,show ((j.toNat:Nat):Int)=j by omega]
   ·dsimp only; rw [hw]; omega
  ·have hw:=w1 i0 hi (by omega)
   obtain rfl:j=c.aC.length:=by omega
   refine ew (by omega) (by omega) (os ⟨⟨⟨?_,?_⟩,?_⟩,?_⟩)
   ·dsimp only; rw [hw]; omega
   ·dsimp only; rw [hw]; omega
   ·dsimp only; rw [hw,show (i+1).toNat=i.toNat+1 by omega,p7,hk,show ((i.toNat:Nat):Int)=i by omega,bg,Int.toNat_natCast]
   ·dsimp only; rw [hw]; omega
 ·obtain rfl:i=c.aC.length:=by omega
  rw [hk,Int.toNat_natCast]; rfl
theorem U2 {f:aJ} (h:fk f=true):qU f=some (pw f):=by
 have F:=dq h
 have hs:=zI F
 unfold qU
 rw [Pl F.c,aD,Pl F.d,aD,yZ (BD F.c) (BD F.d) hs.o hs.a]; rfl
end Go.Proofs.YtbmchcnkbonmkaaGreat
