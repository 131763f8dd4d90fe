/- There is one map from a free algebra to an algebra for each arrow to its object: the law. No condition beside those that the theorem names. -/
import Derived.Test.YtcnehblmgfbfoaaGreatRp
set_option linter.unusedVariables false
set_option linter.unusedSectionVars false
set_option linter.unusedSimpArgs false
namespace Go.Proofs.YtcnehblmgfbfoaaGreat
open Go Go.Li
set_option linter.unusedVariables false
set_option linter.unusedSectionVars false
set_option linter.unusedSimpArgs false
def ru (m:bB) (x h:Int):Bool:=((gi m.On.aB.aF h == oM m x) && (gi m.On.aB.To h == x)) && ((kM m (gi m.Unit x) h == gi m.On.aB.aG x) && (kM m (aM m h) h == kM m (gi m.ba x) h))
theorem Fg {m:bB} {x h:Int} (x0:0≤x) (x1:x < m.On.aB.aD) (h0:0≤h) (h1:h < m.On.aB.aF.length):ru m x h=true↔uN m x h:=by
 unfold ru
 simp only [Bool.and_eq_true,beq_iff_eq]
 exact ⟨fun ⟨⟨a,b⟩,c,d⟩=>⟨x0,x1,⟨⟨h0,h1⟩,a,b⟩,c,d⟩,fun A=>⟨⟨A.l.2.1,A.l.2.2⟩,A.un,A.UA⟩⟩
section
variable {m:bB} (M:Mon0 m)
include M
theorem Nr {x h:Int} (x0:0≤x) (x1:x < m.On.aB.aD) (h0:0≤h) (h1:h < m.On.aB.aF.length):nV m x h=some (ru m x h):=by
 have C:=M.mc
 unfold nV ru
 rw [C.jk h0 h1,aA,r7 M x0 x1,aA]
 by_cases ef:gi m.On.aB.aF h=oM m x
 ·rw [ua ef,np ef,cond_false,C.jx h0 h1,aA]
  by_cases et:gi m.On.aB.To h=x
  ·have H:cj m.On.aB (oM m x) x h:=⟨⟨h0,h1⟩,ef,et⟩
   have hu:=M.DU x0 x1
   have hj:=M.uP x0 x1
   have th:=M.qk H
   have c1:cj m.On.aB x x (gk m.On.aB.aC (gi m.Unit x) h):=M.zA hu H
   rw [ua et,np et,cond_false,xS M x0 x1,aA,ku C hu H,aA,AJ C c1,aA,aA,AL]
   unfold kM
   by_cases e1:gk m.On.aB.aC (gi m.Unit x) h=gi m.On.aB.aG x
   ·rw [ua e1,np e1,cond_false,ry M H,aA,ku C th H,aA,sO M x0 x1,aA,ku C hj H,aA]; rfl
   ·rw [p5 e1,kh e1]; rfl
  ·rw [p5 et,kh et]; rfl
 ·rw [p5 ef,kh ef]; rfl
theorem Ns {x h:Int} (x0:0≤x) (x1:x < m.On.aB.aD) (h0:0≤h) (h1:h < m.On.aB.aF.length):hJ m x h=some (ru m x h):=by
 have C:=M.mc
 unfold hJ ru cO cX
 rw [z7 C.tooE.toHead h0 h1,aA,r7 M x0 x1,aA]
 show an (S:=Unit) ((bif _ then _ else _)>>=_)=_
 dsimp only
 by_cases ef:gi m.On.aB.aF h=oM m x
 ·by_cases et:gi m.On.aB.To h=x
  ·have H:cj m.On.aB (oM m x) x h:=⟨⟨h0,h1⟩,ef,et⟩
   have hu:=M.DU x0 x1
   have hj:=M.uP x0 x1
   have th:=M.qk H
   rw [np ef,np et]
   simp only [Bool.and_self,cond_true,Bool.true_and]
   rw [xS M x0 x1,aA,kv C hu H,aA,C.py x0 x1,aA]
   unfold kM
   by_cases e1:gk m.On.aB.aC (gi m.Unit x) h=gi m.On.aB.aG x
   ·rw [np e1,cond_true,ry M H]
    show an (S:=Unit) ((bT _ _ _>>=_)>>=_)=_
    rw [kv C th H,aA,sO M x0 x1,aA,kv C hj H,aA]; rfl
   ·rw [kh e1]; rfl
  ·rw [np ef,kh et]; rfl
 ·rw [kh ef]; rfl
end
def jl (m:bB) (x h y k:Int):List Int:=(gh m.On.aB x y).filter fun g=>kM m h g == kM m (aM m g) k
section
variable {m:bB} (hs:mf m)
include hs
section
variable (hM:oy m=true)
include hM
end
end
end Go.Proofs.YtcnehblmgfbfoaaGreat
