/- Models that compute: their loops with fuel; what they give the models give. No condition beside those that each theorem names. -/
import Derived.Test.YtcnehblmgfbfoaaGreatYt
import Derived.KernelRfl
import Derived.Test.YtcnehblmgfbfoaaGreatYw
set_option linter.unusedVariables false
set_option linter.unusedSectionVars false
set_option linter.unusedSimpArgs false
namespace Go.Proofs.YtcnehblmgfbfoaaGreat
open Go Go.Li
set_option linter.unusedVariables false
def pw {α:Type} (m m':Option α):Prop:=∀ o,m=some o→m'=some o
theorem pw.refl {α:Type} (m:Option α):pw m m:=fun _ h=>h
theorem pw.an {S R:Type} {m m':Option (Out S R)} (h:pw m m'):pw (an m) (an m'):=fun o ho=>by
 have h1:=BN ho
 rw [h _ h1]; rfl
theorem pw.bind {α β:Type} {m m':Option α} {f f':α→Option β} (h:pw m m') (k:∀ x,pw (f x) (f' x)):pw (m>>=f) (m'>>=f'):=fun o ho=>by
 cases hm:m with
 | none=>rw [hm] at ho; cases ho
 | some x=>rw [hm] at ho; rw [h x hm]; exact k x o ho
theorem pw.cond {α:Type} {b:Bool} {x x' y y':Option α} (h:pw x x') (k:pw y y'):pw (bif b then x else y) (bif b then x' else y'):=by
 cases b with
 | true=>exact h
 | false=>exact k
theorem pw.aj {S S1 R:Type} {m m':Option (Out S1 R)} {f f':S1→Option (Out S R)} (h:pw m m') (k:∀ x,pw (f x) (f' x)):pw (aj m f) (aj m' f'):=fun o ho=>by
 unfold Go.Li.aj at ho ⊢
 cases hm:m with
 | none=>rw [hm] at ho; cases ho
 | some x=>
  rw [hm] at ho
  rw [h x hm]
  cases x with
  | norm s=>exact k s o ho
  | _=>exact ho
theorem pw.ag {S R:Type} {n:Nat} {m m':Option (Out S R)} (h:pw m m'):pw (ag n m) (ag n m'):=fun o ho=>by
 unfold Go.Li.ag at ho ⊢
 cases hm:m with
 | none=>rw [hm] at ho; cases ho
 | some x=>rw [hm] at ho; rw [h x hm]; exact ho
def Vd {S R:Type} (body:S→Option (Out S R)) (s:S):Option (Out S R):=me body 300 s
theorem M6 {S R:Type} {b b':S→Option (Out S R)} (h:∀ s,pw (b s) (b' s)):∀ k s,pw (me b k s) (me b' k s):=by
 intro k
 induction k with
 | zero=>intro s o ho; cases ho
 | succ k ih=>
  intro s o ho
  unfold me at ho ⊢
  cases hm:b s with
  | none=>rw [hm] at ho; cases ho
  | some x=>
   rw [hm] at ho
   rw [h s x hm]
   cases x with
   | norm s'=>exact ih s' o ho
   | _=>exact ho
theorem pw.loop {S R:Type} {b b':S→Option (Out S R)} {s:S} (h:∀ s,pw (b s) (b' s)):pw (Vd b s) (ai b' s):=fun o ho=>sX.2 ⟨300,M6 h 300 s o ho⟩
end Go.Proofs.YtcnehblmgfbfoaaGreat
set_option linter.unusedVariables false
set_option linter.unusedSimpArgs false
namespace Go.Proofs.YtcnehblmgfbfoaaGreat
open Go Go.Li
end Go.Proofs.YtcnehblmgfbfoaaGreat
