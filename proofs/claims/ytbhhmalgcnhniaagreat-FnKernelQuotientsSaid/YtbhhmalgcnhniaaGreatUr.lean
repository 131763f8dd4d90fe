/- Opposite categories and functors: their tables; the reference reckons them so. No condition beside those that each theorem names. -/
import Derived.Test.YtbhhmalgcnhniaaGreatYk
import Derived.Test.YtbhhmalgcnhniaaGreatYt
set_option linter.unusedVariables false
set_option linter.unusedSectionVars false
set_option linter.unusedSimpArgs false
namespace Go.Proofs.YtbhhmalgcnhniaaGreat
open Go Go.Li
set_option linter.unusedVariables false
set_option linter.unusedSectionVars false
set_option linter.unusedSimpArgs false
theorem AF {c:aC} (H:l3 c):lz c=true:=by
 have h0:=H.o0
 have qY:=H.il
 unfold lz pV yY uw
 simp only [Bool.and_eq_true,decide_eq_true_eq,ni,beq_iff_eq,List.all_eq_true,Bool.not_eq_true',gu]
 refine ⟨⟨⟨⟨⟨H.o0,H.o8⟩,H.m,H.f⟩,⟨H.tl,H.t⟩,H.kl,H.il,H.i⟩,fun x hx=>?_,fun f hf=>?_⟩,fun f hf=>?_,fun f f0 f1=>?_⟩
 ·have:=dy.1 hx
  unfold xX
  rw [H.tM x (by omega) (by omega),H.rH x (by omega) (by omega)]; simp
 ·have kf:=dy.1 hf
  unfold wC
  rw [H.row f kf.1 kf.2]
  simp only [beq_self_eq_true,Bool.true_and,List.all_eq_true]
  intro g hg
  have kg:=dy.1 hg
  unfold tC
  by_cases e:gi c.To f=gi c.aA g
  ·rw [if_pos e]
   obtain ⟨h1,h2,h3,h4⟩:=H.cell f g kf.1 kf.2 kg.1 kg.2 e
   simp only [Bool.and_eq_true,decide_eq_true_eq,beq_iff_eq]
   exact ⟨⟨h1,h2⟩,h3,h4⟩
  ·rw [if_neg e,H.none f g kf.1 kf.2 kg.1 kg.2 e]; rfl
 ·have kf:=dy.1 hf
  unfold tD
  rw [H.A9 f kf.1 kf.2,H.yZ f kf.1 kf.2]; simp
 ·unfold DV
  rw [gu]
  intro g g0 g1
  unfold Aw
  by_cases e:gi c.To f=gi c.aA g
  ·rw [rG e,Bool.true_and,gu]
   intro h h0 h1
   unfold vc
   by_cases e2:gi c.To g=gi c.aA h
   ·rw [H.assoc f g h f0 f1 g0 g1 h0 h1 e e2]; simp
   ·rw [wA e2]; rfl
  ·rw [wA e]; rfl
theorem n5 {c:aC} (C:l3 c):fk c:=by
 have hm:=C.m
 have ht:=C.tl
 have hi:=C.il
 have h8:=C.o8
 have hk:=C.kl
 refine ⟨by omega,by omega,by omega,by omega,fun x hx=>?_⟩
 obtain ⟨i,hi,rfl⟩:=List.mem_iff_getElem.1 hx
 replace hi:i < c.aB.length:=hi
 have:=C.row (i:Int) (by omega) (by omega)
 unfold gr at this
 rw [List.getD_eq_getElem?_getD,Int.toNat_natCast,List.getElem?_eq_getElem hi] at this
 have e:c.aB[i].length=c.aA.length:=this
 omega
end Go.Proofs.YtbhhmalgcnhniaaGreat
