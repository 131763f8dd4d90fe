/- Opposite categories and functors: their tables; the reference reckons them so. No condition beside those that each theorem names. -/
import Derived.Test.YtgjbmjjihmfppaaGreatYk
import Derived.Test.YtgjbmjjihmfppaaGreatYt
namespace Go.Proofs.YtgjbmjjihmfppaaGreat
open Go Go.Li
set_option linter.unusedVariables false
set_option linter.unusedSimpArgs false
theorem Pk {c:aG} (H:pq c):p9 c=true:=by
 have h0:=H.o0
 have uy:=H.il
 unfold p9 rf BC wW
 simp only [Bool.and_eq_true,decide_eq_true_eq,qt,beq_iff_eq,List.all_eq_true,Bool.not_eq_true',ec]
 refine ⟨⟨⟨⟨⟨H.o0,H.o8⟩,H.m,H.f⟩,⟨H.tl,H.t⟩,H.kl,H.il,H.i⟩,fun x hx=>?_,fun f hf=>?_⟩,fun f hf=>?_,fun f f0 f1=>?_⟩
 ·have:=bw.1 hx
  unfold AB
  rw [H.wh x (by omega) (by omega),H.xR x (by omega) (by omega)]; simp
 ·have kf:=bw.1 hf
  unfold yX
  rw [H.row f kf.1 kf.2]
  simp only [beq_self_eq_true,Bool.true_and,List.all_eq_true]
  intro g hg
  have kg:=bw.1 hg
  unfold vT
  by_cases e:gi c.To f=gi c.aE g
  ·rw [if_pos e]
   obtain ⟨h1,h2,h3,h4⟩:=H.cell f g kf.1 kf.2 kg.1 kg.2 e
   simp only [Bool.and_eq_true,decide_eq_true_eq,beq_iff_eq]
   exact ⟨⟨h1,h2⟩,h3,h4⟩
  ·rw [if_neg e,H.none f g kf.1 kf.2 kg.1 kg.2 e]; rfl
 ·have kf:=bw.1 hf
  unfold vU
  rw [H.Dg f kf.1 kf.2,H.Hs f kf.1 kf.2]; simp
 ·unfold F7
  rw [ec]
  intro g g0 g1
  unfold CH
  by_cases e:gi c.To f=gi c.aE g
  ·rw [uc e,Bool.true_and,ec]
   intro h h0 h1
   unfold xH
   by_cases e2:gi c.To g=gi c.aE h
   ·rw [H.assoc f g h f0 f1 g0 g1 h0 h1 e e2]; simp
   ·rw [o3 e2]; rfl
  ·rw [o3 e]; rfl
theorem zN {c:aG} (C:pq c):gx c:=by
 have hm:=C.m
 have ht:=C.tl
 have hi:=C.il
 have h8:=C.o8
 have hk:=C.kl
 refine ⟨by omega,by omega,by omega,by omega,fun x hx=>?_⟩
 obtain ⟨i,hi,rfl⟩:=List.mem_iff_getElem.1 hx
 replace hi:i < c.aB.length:=hi
 have:=C.row (i:Int) (by omega) (by omega)
 unfold gr at this
 rw [List.getD_eq_getElem?_getD,Int.toNat_natCast,List.getElem?_eq_getElem hi] at this
 have e:c.aB[i].length=c.aE.length:=this
 omega
theorem Pl {f:aI} (F:Lr f):fg f:=by
 have h1:=F.c.m
 have h2:=F.ol
 have h3:=F.al
 have h4:=F.c.o8
 exact ⟨zN F.c,zN F.d,by omega,by omega⟩
end Go.Proofs.YtgjbmjjihmfppaaGreat
