/- Opposite categories and functors: their tables; the reference reckons them so. No condition beside those that each theorem names. -/
import Derived.Test.YtcnehblmgfbfoaaGreatYk
import Derived.Test.YtcnehblmgfbfoaaGreatYt
set_option linter.unusedVariables false
set_option linter.unusedSectionVars false
set_option linter.unusedSimpArgs false
namespace Go.Proofs.YtcnehblmgfbfoaaGreat
open Go Go.Li
set_option linter.unusedVariables false
set_option linter.unusedSimpArgs false
theorem Fb {c:aH} (H:lg c):p6 c=true:=by
 have h0:=H.o0
 have sW:=H.il
 unfold p6 qc Bv wg
 simp only [Bool.and_eq_true,decide_eq_true_eq,tD,beq_iff_eq,List.all_eq_true,Bool.not_eq_true',dy]
 refine ⟨⟨⟨⟨⟨H.o0,H.o8⟩,H.m,H.f⟩,⟨H.tl,H.t⟩,H.kl,H.il,H.i⟩,fun x hx=>?_,fun f hf=>?_⟩,fun f hf=>?_,fun f f0 f1=>?_⟩
 ·have:=dv.1 hx
  unfold Ag
  rw [H.zb x (by omega) (by omega),H.G5 x (by omega) (by omega)]; simp
 ·have kf:=dv.1 hf
  unfold yI
  rw [H.row f kf.1 kf.2]
  simp only [beq_self_eq_true,Bool.true_and,List.all_eq_true]
  intro g hg
  have kg:=dv.1 hg
  unfold vo
  by_cases e:gi c.To f=gi c.aG g
  ·rw [if_pos e]
   obtain ⟨h1,h2,h3,h4⟩:=H.cell f g kf.1 kf.2 kg.1 kg.2 e
   simp only [Bool.and_eq_true,decide_eq_true_eq,beq_iff_eq]
   exact ⟨⟨h1,h2⟩,h3,h4⟩
  ·rw [if_neg e,H.none f g kf.1 kf.2 kg.1 kg.2 e]; rfl
 ·have kf:=dv.1 hf
  unfold vq
  rw [H.HC f kf.1 kf.2,H.C3 f kf.1 kf.2]; simp
 ·unfold GB
  rw [dy]
  intro g g0 g1
  unfold CD
  by_cases e:gi c.To f=gi c.aG g
  ·rw [sk e,Bool.true_and,dy]
   intro h h0 h1
   unfold w3
   by_cases e2:gi c.To g=gi c.aG h
   ·rw [H.assoc f g h f0 f1 g0 g1 h0 h1 e e2]; simp
   ·rw [rz e2]; rfl
  ·rw [rz e]; rfl
theorem rb {c:aH} (C:lg c):dk c:=by
 have hm:=C.m
 have ht:=C.tl
 have hi:=C.il
 have h8:=C.o8
 have hk:=C.kl
 refine ⟨by omega,by omega,by omega,by omega,fun x hx=>?_⟩
 obtain ⟨i,hi,rfl⟩:=List.mem_iff_getElem.1 hx
 replace hi:i < c.aB.length:=hi
 have:=C.row (i:Int) (by omega) (by omega)
 unfold gr at this
 rw [List.getD_eq_getElem?_getD,Int.toNat_natCast,List.getElem?_eq_getElem hi] at this
 have e:c.aB[i].length=c.aG.length:=this
 omega
end Go.Proofs.YtcnehblmgfbfoaaGreat
