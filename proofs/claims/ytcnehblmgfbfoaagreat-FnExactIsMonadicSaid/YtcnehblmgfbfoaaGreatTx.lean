/- There is one map from a free algebra to an algebra for each arrow to its object: the law. No condition beside those that the theorem names. -/
import Derived.Test.YtcnehblmgfbfoaaGreatRp
set_option linter.unusedVariables false
set_option linter.unusedSectionVars false
set_option linter.unusedSimpArgs false
namespace Go.Proofs.YtcnehblmgfbfoaaGreat
open Go Go.Li
set_option linter.unusedVariables false
set_option linter.unusedSectionVars false
set_option linter.unusedSimpArgs false
def r7 (m:cK) (x h:Int):Bool:=((gi m.On.aA.aH h == oM m x) && (gi m.On.aA.To h == x)) && ((kM m (gi m.Unit x) h == gi m.On.aA.aI x) && (kM m (aM m h) h == kM m (gi m.cb x) h))
theorem Gy {m:cK} {x h:Int} (x0:0≤x) (x1:x < m.On.aA.aE) (h0:0≤h) (h1:h < m.On.aA.aH.length):r7 m x h=true↔u7 m x h:=by
 unfold r7
 simp only [Bool.and_eq_true,beq_iff_eq]
 exact ⟨fun ⟨⟨a,b⟩,c,d⟩=>⟨x0,x1,⟨⟨h0,h1⟩,a,b⟩,c,d⟩,fun A=>⟨⟨A.l.2.1,A.l.2.2⟩,A.un,A.as9⟩⟩
section
variable {m:cK} (M:Mon0 m)
include M
theorem OP {x h:Int} (x0:0≤x) (x1:x < m.On.aA.aE) (h0:0≤h) (h1:h < m.On.aA.aH.length):pK m x h=some (r7 m x h):=by
 have C:=M.mc
 unfold pK r7
 rw [C.fx h0 h1,aB,Ab M x0 x1,aB]
 by_cases ef:gi m.On.aA.aH h=oM m x
 ·rw [sa ef,o5 ef,cond_false,C.gw h0 h1,aB]
  by_cases et:gi m.On.aA.To h=x
  ·have H:ch m.On.aA (oM m x) x h:=⟨⟨h0,h1⟩,ef,et⟩
   have hu:=M.N9 x0 x1
   have hj:=M.Oa x0 x1
   have th:=M.Ac H
   have c1:ch m.On.aA x x (gk m.On.aA.aG (gi m.Unit x) h):=M.NL hu H
   rw [sa et,o5 et,cond_false,Ie M x0 x1,aB,pZ C hu H,aB,Bq C c1,aB,aB,wq]
   unfold kM
   by_cases e1:gk m.On.aA.aG (gi m.Unit x) h=gi m.On.aA.aI x
   ·rw [sa e1,o5 e1,cond_false,yJ M H,aB,pZ C th H,aB,Ig M x0 x1,aB,pZ C hj H,aB]; rfl
   ·rw [qq e1,kz e1]; rfl
  ·rw [qq et,kz et]; rfl
 ·rw [qq ef,kz ef]; rfl
theorem OQ {x h:Int} (x0:0≤x) (x1:x < m.On.aA.aE) (h0:0≤h) (h1:h < m.On.aA.aH.length):jW m x h=some (r7 m x h):=by
 have C:=M.mc
 unfold jW r7 iA iI
 rw [wm C.topP.toHead h0 h1,aB,Ab M x0 x1,aB]
 show an (S:=Unit) ((bif _ then _ else _)>>=_)=_
 dsimp only
 by_cases ef:gi m.On.aA.aH h=oM m x
 ·by_cases et:gi m.On.aA.To h=x
  ·have H:ch m.On.aA (oM m x) x h:=⟨⟨h0,h1⟩,ef,et⟩
   have hu:=M.N9 x0 x1
   have hj:=M.Oa x0 x1
   have th:=M.Ac H
   rw [o5 ef,o5 et]
   simp only [Bool.and_self,cond_true,Bool.true_and]
   rw [Ie M x0 x1,aB,tZ C hu H,aB,C.lg x0 x1,aB]
   unfold kM
   by_cases e1:gk m.On.aA.aG (gi m.Unit x) h=gi m.On.aA.aI x
   ·rw [o5 e1,cond_true,yJ M H]
    show an (S:=Unit) ((cP _ _ _>>=_)>>=_)=_
    rw [tZ C th H,aB,Ig M x0 x1,aB,tZ C hj H,aB]; rfl
   ·rw [kz e1]; rfl
  ·rw [o5 ef,kz et]; rfl
 ·rw [kz ef]; rfl
end
def ju (m:cK) (x h y k:Int):List Int:=(du m.On.aA x y).filter fun g=>kM m h g == kM m (aM m g) k
section
variable {m:cK} (hs:Ak m)
include hs
section
variable (hM:DY m=true)
include hM
section
variable {x h y k:Int} (A:u7 m x h) (K:u7 m y k)
include A K
end
end
end
section
variable {x:List Int} (B:E6 x)
include B
end
end Go.Proofs.YtcnehblmgfbfoaaGreat
