/- Opposite categories and functors: their tables; the reference reckons them so. No condition beside those that each theorem names. -/
import Derived.Test.YtjdkifckhidlbaaGreatYk
import Derived.Test.YtjdkifckhidlbaaGreatYt
namespace Go.Proofs.YtjdkifckhidlbaaGreat
open Go Go.Li
set_option linter.unusedVariables false
set_option linter.unusedSimpArgs false
theorem Gn {c:aI} (H:nq c):ov c=true:=by
 have h0:=H.o0
 have sf:=H.il
 unfold ov py yN uG
 simp only [Bool.and_eq_true,decide_eq_true_eq,n7,beq_iff_eq,List.all_eq_true,Bool.not_eq_true',fi]
 refine ⟨⟨⟨⟨⟨H.o0,H.o8⟩,H.m,H.f⟩,⟨H.tl,H.t⟩,H.kl,H.il,H.i⟩,fun x hx=>?_,fun f hf=>?_⟩,fun f hf=>?_,fun f f0 f1=>?_⟩
 ·have:=eh.1 hx
  unfold xT
  rw [H.vo x (by omega) (by omega),H.wA x (by omega) (by omega)]; simp
 ·have kf:=eh.1 hf
  unfold wz
  rw [H.row f kf.1 kf.2]
  simp only [beq_self_eq_true,Bool.true_and,List.all_eq_true]
  intro g hg
  have kg:=eh.1 hg
  unfold tK
  by_cases e:gi c.To f=gi c.aG g
  ·rw [if_pos e]
   obtain ⟨h1,h2,h3,h4⟩:=H.cell f g kf.1 kf.2 kg.1 kg.2 e
   simp only [Bool.and_eq_true,decide_eq_true_eq,beq_iff_eq]
   exact ⟨⟨h1,h2⟩,h3,h4⟩
  ·rw [if_neg e,H.none f g kf.1 kf.2 kg.1 kg.2 e]; rfl
 ·have kf:=eh.1 hf
  unfold tL
  rw [H.I9 f kf.1 kf.2,H.Ea f kf.1 kf.2]; simp
 ·unfold CT
  rw [fi]
  intro g g0 g1
  unfold zT
  by_cases e:gi c.To f=gi c.aG g
  ·rw [sN e,Bool.true_and,fi]
   intro h h0 h1
   unfold vk
   by_cases e2:gi c.To g=gi c.aG h
   ·rw [H.assoc f g h f0 f1 g0 g1 h0 h1 e e2]; simp
   ·rw [r5 e2]; rfl
  ·rw [r5 e]; rfl
def opK (c:aI):List (List Int):=dk c.aG.length fun f=>dk c.aG.length fun g=>gk c.aB g f
def Cq (c:aI):aI:=aI.mk c.aA c.To c.aG c.aJ (opK c)
theorem u5 {c:aI} (C:nq c):fv c:=by
 have hm:=C.m
 have ht:=C.tl
 have hi:=C.il
 have h8:=C.o8
 have hk:=C.kl
 refine ⟨by omega,by omega,by omega,by omega,fun x hx=>?_⟩
 obtain ⟨i,hi,rfl⟩:=List.mem_iff_getElem.1 hx
 replace hi:i < c.aB.length:=hi
 have:=C.row (i:Int) (by omega) (by omega)
 unfold gr at this
 rw [List.getD_eq_getElem?_getD,Int.toNat_natCast,List.getElem?_eq_getElem hi] at this
 have e:c.aB[i].length=c.aG.length:=this
 omega
def WU (f:aP):aP:=aP.mk (Cq f.aE) (Cq f.aH) f.aA f.ae
end Go.Proofs.YtjdkifckhidlbaaGreat
