/- Opposite categories and functors: their tables; the reference reckons them so. No condition beside those that each theorem names. -/
import Derived.Test.YtilhlobfebngdaaGreatYk
import Derived.Test.YtilhlobfebngdaaGreatYt
namespace Go.Proofs.YtilhlobfebngdaaGreat
open Go Go.Li
set_option linter.unusedVariables false
set_option linter.unusedSimpArgs false
theorem J4 {c:aI} (H:km c):o7 c=true:=by
 have h0:=H.o0
 have uj:=H.il
 unfold o7 p8 BO w6
 simp only [Bool.and_eq_true,decide_eq_true_eq,ou,beq_iff_eq,List.all_eq_true,Bool.not_eq_true',ir]
 refine ⟨⟨⟨⟨⟨H.o0,H.o8⟩,H.m,H.f⟩,⟨H.tl,H.t⟩,H.kl,H.il,H.i⟩,fun x hx=>?_,fun f hf=>?_⟩,fun f hf=>?_,fun f f0 f1=>?_⟩
 ·have:=fj.1 hx
  unfold AP
  rw [H.xu x (by omega) (by omega),H.xS x (by omega) (by omega)]; simp
 ·have kf:=fj.1 hf
  unfold zk
  rw [H.row f kf.1 kf.2]
  simp only [beq_self_eq_true,Bool.true_and,List.all_eq_true]
  intro g hg
  have kg:=fj.1 hg
  unfold vZ
  by_cases e:gi c.To f=gi c.aG g
  ·rw [if_pos e]
   obtain ⟨h1,h2,h3,h4⟩:=H.cell f g kf.1 kf.2 kg.1 kg.2 e
   simp only [Bool.and_eq_true,decide_eq_true_eq,beq_iff_eq]
   exact ⟨⟨h1,h2⟩,h3,h4⟩
  ·rw [if_neg e,H.none f g kf.1 kf.2 kg.1 kg.2 e]; rfl
 ·have kf:=fj.1 hf
  unfold v7
  rw [H.Nb f kf.1 kf.2,H.HM f kf.1 kf.2]; simp
 ·unfold Gs
  rw [ir]
  intro g g0 g1
  unfold C4
  by_cases e:gi c.To f=gi c.aG g
  ·rw [ma e,Bool.true_and,ir]
   intro h h0 h1
   unfold xM
   by_cases e2:gi c.To g=gi c.aG h
   ·rw [H.assoc f g h f0 f1 g0 g1 h0 h1 e e2]; simp
   ·rw [nq e2]; rfl
  ·rw [nq e]; rfl
def opK (c:aI):List (List Int):=ec c.aG.length fun f=>ec c.aG.length fun g=>gk c.aE g f
def FK (c:aI):aI:=aI.mk c.aA c.To c.aG c.aJ (opK c)
theorem xw {c:aI} (C:km c):gq c:=by
 have hm:=C.m
 have ht:=C.tl
 have hi:=C.il
 have h8:=C.o8
 have hk:=C.kl
 refine ⟨by omega,by omega,by omega,by omega,fun x hx=>?_⟩
 obtain ⟨i,hi,rfl⟩:=List.mem_iff_getElem.1 hx
 replace hi:i < c.aE.length:=hi
 have:=C.row (i:Int) (by omega) (by omega)
 unfold gr at this
 rw [List.getD_eq_getElem?_getD,Int.toNat_natCast,List.getElem?_eq_getElem hi] at this
 have e:c.aE[i].length=c.aG.length:=this
 omega
def opF (f:aQ):aQ:=aQ.mk (FK f.aB) (FK f.aH) f.aA f.ab
end Go.Proofs.YtilhlobfebngdaaGreat
