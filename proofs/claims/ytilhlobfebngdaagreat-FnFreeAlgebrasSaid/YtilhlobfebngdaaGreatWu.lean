/- Walks by the calculus D. No condition beside those that each theorem names. -/
import Derived.Test.YtilhlobfebngdaaGreatDp
import Derived.Test.YtilhlobfebngdaaGreatDi
import Derived.Test.YtilhlobfebngdaaGreatMo
import Derived.Test.YtilhlobfebngdaaGreatDs
import Derived.Test.YtilhlobfebngdaaGreatWc
import Derived.Test.YtilhlobfebngdaaGreatWf
import Derived.Test.YtilhlobfebngdaaGreatWv
namespace Go.Proofs.YtilhlobfebngdaaGreat
open Go Go.Li Go.Dk
set_option linter.unusedVariables false
set_option maxHeartbeats 16000000
set_option maxRecDepth 100000
theorem c27 {x0:aK} {dG:Nat} {cC:Value}:Ct Tryz.prog 27 false (nR x0) [.pointer (some (⟨dG,0,none⟩))] [.row dG [cC,.int .i64 (x0.At),.int .u64 (x0.av)] 91,.rd false (bH (aN .u8)) cC x0.Code] (fun y (v:Value×Value×Value×Value×Value×Value×Value×Value×Value×Value×Value×Value)=>[.agg #[.int .i64 y.1.On.aB.aA,v.1,v.2.1,v.2.2.1,v.2.2.2.1,.int .i64 y.1.On.aH.aA,v.2.2.2.2.1,v.2.2.2.2.2.1,v.2.2.2.2.2.2.1,v.2.2.2.2.2.2.2.1,v.2.2.2.2.2.2.2.2.1,v.2.2.2.2.2.2.2.2.2.1,v.2.2.2.2.2.2.2.2.2.2.1,v.2.2.2.2.2.2.2.2.2.2.2]]) (fun y v=>[rI v.1 y.1.On.aB.aG,rI v.2.1 y.1.On.aB.To,rI v.2.2.1 y.1.On.aB.aJ,rJ v.2.2.2.1 y.1.On.aB.aE,rI v.2.2.2.2.1 y.1.On.aH.aG,rI v.2.2.2.2.2.1 y.1.On.aH.To,rI v.2.2.2.2.2.2.1 y.1.On.aH.aJ,rJ v.2.2.2.2.2.2.2.1 y.1.On.aH.aE,rI v.2.2.2.2.2.2.2.2.1 y.1.On.aA,rI v.2.2.2.2.2.2.2.2.2.1 y.1.On.ab,rI v.2.2.2.2.2.2.2.2.2.2.1 y.1.Unit,rI v.2.2.2.2.2.2.2.2.2.2.2 y.1.bz,.row dG [cC,.int .i64 y.2.At,.int .u64 y.2.av] 91]):=by
 refine ct (S:=Unit) B6 Tryz.func27 rfl rfl ?_
 repeat' first
  | (apply Dk.fe; repeat' first | exact rfl | (refine @id.{0} _ ?_; constructor))
  | (intro (v:Value×Value×Value×Value×Value×Value×Value×Value×Value×Value×Value×Value); obtain ⟨_,_,_,_,_,_,_,_,_,_,_,_⟩:=v; dsimp only)
  | (intro (v:Value×Value×Value×Value×Value×Value×Value×Value×Value×Value); obtain ⟨_,_,_,_,_,_,_,_,_,_⟩:=v; dsimp only)
  | intro _
  | exact rfl
  | (refine @id.{0} _ ?_; constructor)
  | apply Dk.wK (id:=5) [Dk.aX.row _ _ 91] 9 [] [[],[],[],[],[],[],[],[],[11]] [[],[0],[],[],[3],[3,4],[3,4,5],[3,4,5,6],[2,3,4,5,6,7]] (by kernel_rfl)
  | apply c56
  | apply zu
  | apply YS
  | apply c57
  | exact ()
end Go.Proofs.YtilhlobfebngdaaGreat
