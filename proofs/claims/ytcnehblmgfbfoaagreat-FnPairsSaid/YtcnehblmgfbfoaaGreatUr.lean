/- Opposite categories and functors: their tables; the reference reckons them so. No condition beside those that each theorem names. -/
import Derived.Test.YtcnehblmgfbfoaaGreatYk
import Derived.Test.YtcnehblmgfbfoaaGreatYt
set_option linter.unusedVariables false
set_option linter.unusedSectionVars false
set_option linter.unusedSimpArgs false
namespace Go.Proofs.YtcnehblmgfbfoaaGreat
open Go Go.Li
set_option linter.unusedVariables false
set_option linter.unusedSimpArgs false
theorem p8 {c:aD} (H:gu c):ov c=true:=by
 have h0:=H.o0
 have qL:=H.il
 unfold ov pr yw tF
 simp only [Bool.and_eq_true,decide_eq_true_eq,qX,beq_iff_eq,List.all_eq_true,Bool.not_eq_true',jf]
 refine ⟨⟨⟨⟨⟨H.o0,H.o8⟩,H.m,H.f⟩,⟨H.tl,H.t⟩,H.kl,H.il,H.i⟩,fun x hx=>?_,fun f hf=>?_⟩,fun f hf=>?_,fun f f0 f1=>?_⟩
 ·have:=ez.1 hx
  unfold xz
  rw [H.qK x (by omega) (by omega),H.rz x (by omega) (by omega)]; simp
 ·have kf:=ez.1 hf
  unfold vW
  rw [H.row f kf.1 kf.2]
  simp only [beq_self_eq_true,Bool.true_and,List.all_eq_true]
  intro g hg
  have kg:=ez.1 hg
  unfold sT
  by_cases e:gi c.To f=gi c.aB g
  ·rw [if_pos e]
   obtain ⟨h1,h2,h3,h4⟩:=H.cell f g kf.1 kf.2 kg.1 kg.2 e
   simp only [Bool.and_eq_true,decide_eq_true_eq,beq_iff_eq]
   exact ⟨⟨h1,h2⟩,h3,h4⟩
  ·rw [if_neg e,H.none f g kf.1 kf.2 kg.1 kg.2 e]; rfl
 ·have kf:=ez.1 hf
  unfold sU
  rw [H.uI f kf.1 kf.2,H.uJ f kf.1 kf.2]; simp
 ·unfold Da
  rw [jf]
  intro g g0 g1
  unfold zP
  by_cases e:gi c.To f=gi c.aB g
  ·rw [pI e,Bool.true_and,jf]
   intro h h0 h1
   unfold uo
   by_cases e2:gi c.To g=gi c.aB h
   ·rw [H.assoc f g h f0 f1 g0 g1 h0 h1 e e2]; simp
   ·rw [rM e2]; rfl
  ·rw [rM e]; rfl
theorem DQ {c:aD} (C:gu c):dv c:=by
 have hm:=C.m
 have ht:=C.tl
 have hi:=C.il
 have h8:=C.o8
 have hk:=C.kl
 refine ⟨by omega,by omega,by omega,by omega,fun x hx=>?_⟩
 obtain ⟨i,hi,rfl⟩:=List.mem_iff_getElem.1 hx
 replace hi:i < c.aC.length:=hi
 have:=C.row (i:Int) (by omega) (by omega)
 unfold gr at this
 rw [List.getD_eq_getElem?_getD,Int.toNat_natCast,List.getElem?_eq_getElem hi] at this
 have e:c.aC[i].length=c.aB.length:=this
 omega
theorem qN {f:aN} (F:uw f):ew f:=by
 have h1:=F.c.m
 have h2:=F.ol
 have h3:=F.al
 have h4:=F.c.o8
 exact ⟨DQ F.c,DQ F.d,by omega,by omega⟩
end Go.Proofs.YtcnehblmgfbfoaaGreat
