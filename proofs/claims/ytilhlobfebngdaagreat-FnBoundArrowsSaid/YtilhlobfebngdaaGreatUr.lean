/- Opposite categories and functors: their tables; the reference reckons them so. No condition beside those that each theorem names. -/
import Derived.Test.YtilhlobfebngdaaGreatYk
import Derived.Test.YtilhlobfebngdaaGreatYt
namespace Go.Proofs.YtilhlobfebngdaaGreat
open Go Go.Li
set_option linter.unusedVariables false
set_option linter.unusedSimpArgs false
theorem Ra {c:aF} (H:l5 c):py c=true:=by
 have h0:=H.o0
 have vp:=H.il
 unfold py qt CK x8
 simp only [Bool.and_eq_true,decide_eq_true_eq,qg,beq_iff_eq,List.all_eq_true,Bool.not_eq_true',ig]
 refine ⟨⟨⟨⟨⟨H.o0,H.o8⟩,H.m,H.f⟩,⟨H.tl,H.t⟩,H.kl,H.il,H.i⟩,fun x hx=>?_,fun f hf=>?_⟩,fun f hf=>?_,fun f f0 f1=>?_⟩
 ·have:=fg.1 hx
  unfold B0
  rw [H.yu x (by omega) (by omega),H.yS x (by omega) (by omega)]; simp
 ·have kf:=fg.1 hf
  unfold Ao
  rw [H.row f kf.1 kf.2]
  simp only [beq_self_eq_true,Bool.true_and,List.all_eq_true]
  intro g hg
  have kg:=fg.1 hg
  unfold w6
  by_cases e:gi c.To f=gi c.aE g
  ·rw [if_pos e]
   obtain ⟨h1,h2,h3,h4⟩:=H.cell f g kf.1 kf.2 kg.1 kg.2 e
   simp only [Bool.and_eq_true,decide_eq_true_eq,beq_iff_eq]
   exact ⟨⟨h1,h2⟩,h3,h4⟩
  ·rw [if_neg e,H.none f g kf.1 kf.2 kg.1 kg.2 e]; rfl
 ·have kf:=fg.1 hf
  unfold w7
  rw [H.Vz f kf.1 kf.2,H.Jf f kf.1 kf.2]; simp
 ·unfold HQ
  rw [ig]
  intro g g0 g1
  unfold Ea
  by_cases e:gi c.To f=gi c.aE g
  ·rw [n5 e,Bool.true_and,ig]
   intro h h0 h1
   unfold yJ
   by_cases e2:gi c.To g=gi c.aE h
   ·rw [H.assoc f g h f0 f1 g0 g1 h0 h1 e e2]; simp
   ·rw [sa e2]; rfl
  ·rw [sa e]; rfl
def opK (c:aF):List (List Int):=cg c.aE.length fun f=>cg c.aE.length fun g=>gk c.aC g f
def Hh (c:aF):aF:=aF.mk c.aA c.To c.aE c.aH (opK c)
theorem Bd {c:aF} (C:l5 c):gh c:=by
 have hm:=C.m
 have ht:=C.tl
 have hi:=C.il
 have h8:=C.o8
 have hk:=C.kl
 refine ⟨by omega,by omega,by omega,by omega,fun x hx=>?_⟩
 obtain ⟨i,hi,rfl⟩:=List.mem_iff_getElem.1 hx
 replace hi:i < c.aC.length:=hi
 have:=C.row (i:Int) (by omega) (by omega)
 unfold gr at this
 rw [List.getD_eq_getElem?_getD,Int.toNat_natCast,List.getElem?_eq_getElem hi] at this
 have e:c.aC[i].length=c.aE.length:=this
 omega
def opF (f:aP):aP:=aP.mk (Hh f.aB) (Hh f.aG) f.aA f.ab
end Go.Proofs.YtilhlobfebngdaaGreat
