/- Opposite categories and functors: their tables; the reference reckons them so. No condition beside those that each theorem names. -/
import Derived.Test.YtgjbmjjihmfppaaGreatYk
import Derived.Test.YtgjbmjjihmfppaaGreatYt
namespace Go.Proofs.YtgjbmjjihmfppaaGreat
open Go Go.Li
set_option linter.unusedVariables false
set_option linter.unusedSimpArgs false
theorem ET {c:aG} (H:nm c):qa c=true:=by
 have h0:=H.o0
 have tZ:=H.il
 unfold qa rb A6 wA
 simp only [Bool.and_eq_true,decide_eq_true_eq,sd,beq_iff_eq,List.all_eq_true,Bool.not_eq_true',ec]
 refine ⟨⟨⟨⟨⟨H.o0,H.o8⟩,H.m,H.f⟩,⟨H.tl,H.t⟩,H.kl,H.il,H.i⟩,fun x hx=>?_,fun f hf=>?_⟩,fun f hf=>?_,fun f f0 f1=>?_⟩
 ·have:=ca.1 hx
  unfold Ac
  rw [H.vx x (by omega) (by omega),H.wZ x (by omega) (by omega)]; simp
 ·have kf:=ca.1 hf
  unfold yD
  rw [H.row f kf.1 kf.2]
  simp only [beq_self_eq_true,Bool.true_and,List.all_eq_true]
  intro g hg
  have kg:=ca.1 hg
  unfold vw
  by_cases e:gi c.To f=gi c.aD g
  ·rw [if_pos e]
   obtain ⟨h1,h2,h3,h4⟩:=H.cell f g kf.1 kf.2 kg.1 kg.2 e
   simp only [Bool.and_eq_true,decide_eq_true_eq,beq_iff_eq]
   exact ⟨⟨h1,h2⟩,h3,h4⟩
  ·rw [if_neg e,H.none f g kf.1 kf.2 kg.1 kg.2 e]; rfl
 ·have kf:=ca.1 hf
  unfold vy
  rw [H.A7 f kf.1 kf.2,H.EL f kf.1 kf.2]; simp
 ·unfold Fx
  rw [ec]
  intro g g0 g1
  unfold Ck
  by_cases e:gi c.To f=gi c.aD g
  ·rw [yA e,Bool.true_and,ec]
   intro h h0 h1
   unfold xl
   by_cases e2:gi c.To g=gi c.aD h
   ·rw [H.assoc f g h f0 f1 g0 g1 h0 h1 e e2]; simp
   ·rw [sy e2]; rfl
  ·rw [sy e]; rfl
def EU (c:aG):List (List Int):=dt c.aD.length fun f=>dt c.aD.length fun g=>gk c.aB g f
def vB (c:aG):aG:=aG.mk c.aA c.To c.aD c.aH (EU c)
theorem Ju {c:aG} {f g:Int} (f0:0≤f) (f1:f < c.aD.length) (g0:0≤g) (g1:g < c.aD.length):gk (EU c) f g=gk c.aB g f:=by
 show gi (gr (dt c.aD.length fun f=>dt c.aD.length fun g=>gk c.aB g f) f) g=_
 rw [uU f0 f1,tb g0 g1]
theorem OT {c:aG} (C:nm c):nm (vB c):=by
  have hl:(vB c).aD.length=c.aD.length:=C.tl
  have at_:∀ f g:Int,0≤f→f < (vB c).aD.length→0≤g→g < (vB c).aD.length→gk (vB c).aB f g=gk c.aB g f:=fun f g f0 f1 g0 g1=>Ju f0 (by rw [← hl]; exact f1) g0 (by rw [← hl]; exact g1)
  refine { o0:=C.o0,o8:=C.o8,m:=by rw [hl]; exact C.m,f:=C.t,tl:=C.tl.symm,t:=C.f,kl:=by rw [hl]; exact cD _ _,il:=C.il,i:=fun x hx=>by rw [hl]; exact C.i x hx,
           vx:=C.wZ,wZ:=C.vx,row:=fun f f0 f1=>?_,cell:=fun f g f0 f1 g0 g1 e=>?_,none:=fun f g f0 f1 g0 g1 e=>?_,
           A7:=fun f f0 f1=>?_,EL:=fun f f0 f1=>?_,assoc:=fun f g h f0 f1 g0 g1 h0 h1 e1 e2=>?_ }
  · show (gr (dt c.aD.length fun f=>dt c.aD.length fun g=>gk c.aB g f) f).length=_
    rw [hl] at f1
    rw [uU f0 f1,cD,hl]
  · rw [at_ f g f0 f1 g0 g1]
    rw [hl] at f1 g1 ⊢
    obtain ⟨h1,h2,h3,h4⟩:=C.cell g f g0 g1 f0 f1 e.symm
    exact ⟨h1,h2,h4,h3⟩
  · rw [at_ f g f0 f1 g0 g1]
    rw [hl] at f1 g1
    exact C.none g f g0 g1 f0 f1 fun h=>e h.symm
  · have k:=C.to (f:=f) f0 (by rw [← hl]; exact f1)
    have k2:=C.id (x:=gi c.To f) k.1 k.2
    show gk (vB c).aB (gi c.aH (gi c.To f)) f=f
    rw [at_ _ _ k2.1 (by rw [hl]; exact k2.2) f0 f1]
    exact C.EL f f0 (by rw [← hl]; exact f1)
  · have k:=C.fr (f:=f) f0 (by rw [← hl]; exact f1)
    have k2:=C.id (x:=gi c.aD f) k.1 k.2
    show gk (vB c).aB f (gi c.aH (gi c.aD f))=f
    rw [at_ _ _ f0 f1 k2.1 (by rw [hl]; exact k2.2)]
    exact C.A7 f f0 (by rw [← hl]; exact f1)
  · rw [at_ f g f0 f1 g0 g1,at_ g h g0 g1 h0 h1]
    rw [hl] at f1 g1 h1
    have k1:=C.cell g f g0 g1 f0 f1 e1.symm
    have k2:=C.cell h g h0 h1 g0 g1 e2.symm
    rw [at_ _ h k1.1 (by rw [hl]; exact k1.2.1) h0 (by rw [hl]; exact h1),at_ f _ f0 (by rw [hl]; exact f1) k2.1 (by rw [hl]; exact k2.2.1)]
    exact (C.assoc h g f h0 h1 g0 g1 f0 f1 e2.symm e1.symm).symm
theorem Bc {c:aG} (C:nm c):gv (vB c):=by
 have hm:=C.m
 have ht:=C.tl
 have hi:=C.il
 have h8:=C.o8
 refine ⟨by show c.To.length≤_; omega,by show c.aD.length≤_; omega,by show c.aH.length≤_; omega,by show (EU c).length≤_; unfold EU; rw [cD]; omega,fun x hx=>?_⟩
 obtain ⟨y,_,rfl⟩:=ou.1 hx
 rw [cD]; omega
theorem zq {c:aG} (C:nm c):gv c:=by
 have hm:=C.m
 have ht:=C.tl
 have hi:=C.il
 have h8:=C.o8
 have hk:=C.kl
 refine ⟨by omega,by omega,by omega,by omega,fun x hx=>?_⟩
 obtain ⟨i,hi,rfl⟩:=List.mem_iff_getElem.1 hx
 replace hi:i < c.aB.length:=hi
 have:=C.row (i:Int) (by omega) (by omega)
 unfold gr at this
 rw [List.getD_eq_getElem?_getD,Int.toNat_natCast,List.getElem?_eq_getElem hi] at this
 have e:c.aB[i].length=c.aD.length:=this
 omega
def ed (f:aI):aI:=aI.mk (vB f.aC) (vB f.aE) f.aA f.ab
theorem sW {f:aI} (h:bx f=true):bx (ed f)=true:=by
 have F:=dh h
 refine Jv (f:=ed f) (ET (OT F.c)) (ET (OT F.d)) F.ol (F.al.trans F.c.tl.symm) F.oo (fun y hy=>by rw [show (ed f).aE.aD.length=f.aE.aD.length from F.d.tl]; exact F.aa y hy) (fun a a0 a1=>?_) (fun a a0 a1=>?_) F.un fun a b a0 a1 b0 b1 e=>?_
 all_goals rw [show (ed f).aC.aD.length=f.aC.aD.length from F.c.tl] at *
 ·exact F.to a a0 a1
 ·exact F.fr a a0 a1
 ·have k1:=F.ar a0 a1
  have k2:=F.ar b0 b1
  show gi f.ab (gk (EU f.aC) a b)=gk (EU f.aE) (gi f.ab a) (gi f.ab b)
  rw [Ju a0 a1 b0 b1,Ju k1.1 k1.2 k2.1 k2.2]
  exact F.co b a b0 b1 a0 a1 e.symm
theorem si {f:aI} (F:K0 f):dj f:=by
 have h1:=F.c.m
 have h2:=F.ol
 have h3:=F.al
 have h4:=F.c.o8
 exact ⟨zq F.c,zq F.d,by omega,by omega⟩
theorem OU {c:aG} (C:nm c):gW c=some (vB c):=by
 have c1:=C.m
 have c2:=C.tl
 have c3:=C.il
 have c4:=C.o8
 suffices h:Ok (gW c) fun e=>e=vB c by
  obtain ⟨y,h1,h2⟩:=h
  rw [h1,h2]
 unfold gW
 refine jo (oe (iu _ (by omega)) (oe (iu _ (by omega)) (oe (iu _ (by omega)) ?_)))
 refine ol (fun z:Int×List (List Int)=>(0≤z.1∧z.1≤c.aD.length)∧z.2=dt z.1.toNat fun f=>dt c.aD.length fun g=>gk c.aB g f) (fun z=>(c.aD.length - z.1).toNat) ⟨⟨by show (0:Int)≤0; omega,by show (0:Int)≤_; omega⟩,rfl⟩ ?_
 rintro ⟨i,k⟩ ⟨⟨i0,i1⟩,hk⟩
 dsimp only at i0 i1 hk
 show Ok (lR c i k) _
 unfold lR
 have C6:k.length=i.toNat:=by rw [hk,cD]
 refine od (fun hi=>?_) fun hi=>os ⟨rfl,os ?_⟩
 ·refine ol (fun z:List Int×Int=>(0≤z.2∧z.2≤c.aD.length)∧z.1=dt z.2.toNat fun g=>gk c.aB g i) (fun z=>(c.aD.length - z.2).toNat) ⟨⟨by show (0:Int)≤0; omega,by show (0:Int)≤_; omega⟩,rfl⟩ ?_
  rintro ⟨row,j⟩ ⟨⟨j0,j1⟩,bg⟩
  dsimp only at j0 j1 bg
  show Ok (lQ c i row j) _
  unfold lQ
  have MW:row.length=j.toNat:=by rw [bg,cD]
  refine od (fun hj=>?_) fun hj=>os ⟨rfl,?_⟩
  ·have hw:=w1 j0 hj (by omega)
   refine oe (C.mm j0 hj) (oe (C.l8 j0 hj i0 hi) (fk (by omega) (by omega) (os ⟨⟨⟨?_,?_⟩,?_⟩,?_⟩)))
   ·dsimp only; rw [hw]; omega
   ·dsimp only; rw [hw]; omega
   ·dsimp only; rw [hw,show (j+1).toNat=j.toNat+1 by omega,pg,bg,show ((j.toNat:Nat):Int)=j by omega]
   ·dsimp only; rw [hw]; omega
  ·have hw:=w1 i0 hi (by omega)
   obtain rfl:j=c.aD.length:=by omega
   refine fk (by omega) (by omega) (os ⟨⟨⟨?_,?_⟩,?_⟩,?_⟩)
   ·dsimp only; rw [hw]; omega
   ·dsimp only; rw [hw]; omega
   ·dsimp only; rw [hw,show (i+1).toNat=i.toNat+1 by omega,pg,hk,show ((i.toNat:Nat):Int)=i by omega,bg,Int.toNat_natCast]
   ·dsimp only; rw [hw]; omega
 ·obtain rfl:i=c.aD.length:=by omega
  rw [hk,Int.toNat_natCast]; rfl
theorem FB {f:aI} (h:bx f=true):iR f=some (ed f):=by
 have F:=dh h
 have hs:=si F
 unfold iR
 rw [OU F.c,aF,OU F.d,aF,wi (Bc F.c) (Bc F.d) hs.o hs.a]; rfl
end Go.Proofs.YtgjbmjjihmfppaaGreat
