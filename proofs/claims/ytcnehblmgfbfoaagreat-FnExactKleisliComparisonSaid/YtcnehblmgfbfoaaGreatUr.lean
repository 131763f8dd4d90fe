/- Opposite categories and functors: their tables; the reference reckons them so. No condition beside those that each theorem names. -/
import Derived.Test.YtcnehblmgfbfoaaGreatYk
import Derived.Test.YtcnehblmgfbfoaaGreatVc
set_option linter.unusedVariables false
set_option linter.unusedSectionVars false
set_option linter.unusedSimpArgs false
namespace Go.Proofs.YtcnehblmgfbfoaaGreat
open Go Go.Li
set_option linter.unusedVariables false
set_option linter.unusedSimpArgs false
theorem Jb {c:aH} (H:gp c):lq c=true:=by
 have h0:=H.o0
 have qQ:=H.il
 unfold lq mj wM sa
 simp only [Bool.and_eq_true,decide_eq_true_eq,nq,beq_iff_eq,List.all_eq_true,Bool.not_eq_true',ei]
 refine ⟨⟨⟨⟨⟨H.o0,H.o8⟩,H.m,H.f⟩,⟨H.tl,H.t⟩,H.kl,H.il,H.i⟩,fun x hx=>?_,fun f hf=>?_⟩,fun f hf=>?_,fun f f0 f1=>?_⟩
 ·have:=cu.1 hx
  unfold vN
  rw [H.Fk x (by omega) (by omega),H.HZ x (by omega) (by omega)]; simp
 ·have kf:=cu.1 hf
  unfold ug
  rw [H.row f kf.1 kf.2]
  simp only [beq_self_eq_true,Bool.true_and,List.all_eq_true]
  intro g hg
  have kg:=cu.1 hg
  unfold rE
  by_cases e:gi c.To f=gi c.aF g
  ·rw [if_pos e]
   obtain ⟨h1,h2,h3,h4⟩:=H.cell f g kf.1 kf.2 kg.1 kg.2 e
   simp only [Bool.and_eq_true,decide_eq_true_eq,beq_iff_eq]
   exact ⟨⟨h1,h2⟩,h3,h4⟩
  ·rw [if_neg e,H.none f g kf.1 kf.2 kg.1 kg.2 e]; rfl
 ·have kf:=cu.1 hf
  unfold rF
  rw [H.BZ f kf.1 kf.2,H.zC f kf.1 kf.2]; simp
 ·unfold AH
  rw [ei]
  intro g g0 g1
  unfold xP
  by_cases e:gi c.To f=gi c.aF g
  ·rw [np e,Bool.true_and,ei]
   intro h h0 h1
   unfold sQ
   by_cases e2:gi c.To g=gi c.aF h
   ·rw [H.assoc f g h f0 f1 g0 g1 h0 h1 e e2]; simp
   ·rw [kh e2]; rfl
  ·rw [kh e]; rfl
theorem pX {c:aH} (C:gp c):de c:=by
 have hm:=C.m
 have ht:=C.tl
 have hi:=C.il
 have h8:=C.o8
 have hk:=C.kl
 refine ⟨by omega,by omega,by omega,by omega,fun x hx=>?_⟩
 obtain ⟨i,hi,rfl⟩:=List.mem_iff_getElem.1 hx
 replace hi:i < c.aC.length:=hi
 have:=C.row (i:Int) (by omega) (by omega)
 unfold gr at this
 rw [List.getD_eq_getElem?_getD,Int.toNat_natCast,List.getElem?_eq_getElem hi] at this
 have e:c.aC[i].length=c.aF.length:=this
 omega
end Go.Proofs.YtcnehblmgfbfoaaGreat
