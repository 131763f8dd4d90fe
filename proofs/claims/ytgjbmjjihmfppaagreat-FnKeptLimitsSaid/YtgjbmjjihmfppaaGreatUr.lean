/- Opposite categories and functors: their tables; the reference reckons them so. No condition beside those that each theorem names. -/
import Derived.Test.YtgjbmjjihmfppaaGreatYk
import Derived.Test.YtgjbmjjihmfppaaGreatYt
namespace Go.Proofs.YtgjbmjjihmfppaaGreat
open Go Go.Li
set_option linter.unusedVariables false
set_option linter.unusedSimpArgs false
theorem NP {c:aI} (H:oh c):o3 c=true:=by
 have h0:=H.o0
 have tw:=H.il
 unfold o3 qi Ap vG
 simp only [Bool.and_eq_true,decide_eq_true_eq,ru,beq_iff_eq,List.all_eq_true,Bool.not_eq_true',dv]
 refine ⟨⟨⟨⟨⟨H.o0,H.o8⟩,H.m,H.f⟩,⟨H.tl,H.t⟩,H.kl,H.il,H.i⟩,fun x hx=>?_,fun f hf=>?_⟩,fun f hf=>?_,fun f f0 f1=>?_⟩
 ·have:=bz.1 hx
  unfold zr
  rw [H.v7 x (by omega) (by omega),H.xR x (by omega) (by omega)]; simp
 ·have kf:=bz.1 hf
  unfold xQ
  rw [H.row f kf.1 kf.2]
  simp only [beq_self_eq_true,Bool.true_and,List.all_eq_true]
  intro g hg
  have kg:=bz.1 hg
  unfold uU
  by_cases e:gi c.To f=gi c.aF g
  ·rw [if_pos e]
   obtain ⟨h1,h2,h3,h4⟩:=H.cell f g kf.1 kf.2 kg.1 kg.2 e
   simp only [Bool.and_eq_true,decide_eq_true_eq,beq_iff_eq]
   exact ⟨⟨h1,h2⟩,h3,h4⟩
  ·rw [if_neg e,H.none f g kf.1 kf.2 kg.1 kg.2 e]; rfl
 ·have kf:=bz.1 hf
  unfold uV
  rw [H.D7 f kf.1 kf.2,H.Lv f kf.1 kf.2]; simp
 ·unfold EI
  rw [dv]
  intro g g0 g1
  unfold BO
  by_cases e:gi c.To f=gi c.aF g
  ·rw [xN e,Bool.true_and,dv]
   intro h h0 h1
   unfold wy
   by_cases e2:gi c.To g=gi c.aF h
   ·rw [H.assoc f g h f0 f1 g0 g1 h0 h1 e e2]; simp
   ·rw [r9 e2]; rfl
  ·rw [r9 e]; rfl
theorem yG {c:aI} (C:oh c):gh c:=by
 have hm:=C.m
 have ht:=C.tl
 have hi:=C.il
 have h8:=C.o8
 have hk:=C.kl
 refine ⟨by omega,by omega,by omega,by omega,fun x hx=>?_⟩
 obtain ⟨i,hi,rfl⟩:=List.mem_iff_getElem.1 hx
 replace hi:i < c.aD.length:=hi
 have:=C.row (i:Int) (by omega) (by omega)
 unfold gr at this
 rw [List.getD_eq_getElem?_getD,Int.toNat_natCast,List.getElem?_eq_getElem hi] at this
 have e:c.aD[i].length=c.aF.length:=this
 omega
theorem NK {f:aM} (F:Ka f):ik f:=by
 have h1:=F.c.m
 have h2:=F.ol
 have h3:=F.al
 have h4:=F.c.o8
 exact ⟨yG F.c,yG F.d,by omega,by omega⟩
end Go.Proofs.YtgjbmjjihmfppaaGreat
