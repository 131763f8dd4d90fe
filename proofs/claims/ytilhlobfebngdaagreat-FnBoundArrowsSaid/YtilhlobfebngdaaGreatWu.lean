/- Walks by the calculus D. No condition beside those that each theorem names. -/
import Derived.Test.YtilhlobfebngdaaGreatDp
import Derived.Test.YtilhlobfebngdaaGreatDi
import Derived.Test.YtilhlobfebngdaaGreatMo
import Derived.Test.YtilhlobfebngdaaGreatDs
import Derived.Test.YtilhlobfebngdaaGreatWc
import Derived.Test.YtilhlobfebngdaaGreatWf
import Derived.Test.YtilhlobfebngdaaGreatWv
namespace Go.Proofs.YtilhlobfebngdaaGreat
open Go Go.Li Go.Dk
set_option linter.unusedVariables false
set_option maxHeartbeats 16000000
set_option maxRecDepth 100000
theorem c27 {x0:aJ} {dG:Nat} {cB:Value}:Ct Tryz.prog 27 false (oJ x0) [.pointer (some (⟨dG,0,none⟩))] [.row dG [cB,.int .i64 (x0.At),.int .u64 (x0.an)] 91,.rd false (bE (aL .u8)) cB x0.Code] (fun y (v:Value×Value×Value×Value×Value×Value×Value×Value×Value×Value×Value×Value)=>[.agg #[.int .i64 y.1.On.aB.aA,v.1,v.2.1,v.2.2.1,v.2.2.2.1,.int .i64 y.1.On.aG.aA,v.2.2.2.2.1,v.2.2.2.2.2.1,v.2.2.2.2.2.2.1,v.2.2.2.2.2.2.2.1,v.2.2.2.2.2.2.2.2.1,v.2.2.2.2.2.2.2.2.2.1,v.2.2.2.2.2.2.2.2.2.2.1,v.2.2.2.2.2.2.2.2.2.2.2]]) (fun y v=>[rI v.1 y.1.On.aB.aE,rI v.2.1 y.1.On.aB.To,rI v.2.2.1 y.1.On.aB.aH,rJ v.2.2.2.1 y.1.On.aB.aC,rI v.2.2.2.2.1 y.1.On.aG.aE,rI v.2.2.2.2.2.1 y.1.On.aG.To,rI v.2.2.2.2.2.2.1 y.1.On.aG.aH,rJ v.2.2.2.2.2.2.2.1 y.1.On.aG.aC,rI v.2.2.2.2.2.2.2.2.1 y.1.On.aA,rI v.2.2.2.2.2.2.2.2.2.1 y.1.On.ab,rI v.2.2.2.2.2.2.2.2.2.2.1 y.1.Unit,rI v.2.2.2.2.2.2.2.2.2.2.2 y.1.cn,.row dG [cB,.int .i64 y.2.At,.int .u64 y.2.an] 91]):=by
 refine ct (S:=Unit) C4 Tryz.func27 rfl rfl ?_
 repeat' first
  | (apply Dk.fe; repeat' first | exact rfl | (refine @id.{0} _ ?_; constructor))
  | (intro (v:Value×Value×Value×Value×Value×Value×Value×Value×Value×Value×Value×Value); obtain ⟨_,_,_,_,_,_,_,_,_,_,_,_⟩:=v; dsimp only)
  | (intro (v:Value×Value×Value×Value×Value×Value×Value×Value×Value×Value); obtain ⟨_,_,_,_,_,_,_,_,_,_⟩:=v; dsimp only)
  | intro _
  | exact rfl
  | (refine @id.{0} _ ?_; constructor)
  | apply Dk.xJ (id:=5) [Dk.av.row _ _ 91] 9 [] [[],[],[],[],[],[],[],[],[11]] [[],[0],[],[],[3],[3,4],[3,4,5],[3,4,5,6],[2,3,4,5,6,7]] (by kernel_rfl)
  | apply c56
  | apply Bo
  | apply c28
  | apply c57
  | exact ()
end Go.Proofs.YtilhlobfebngdaaGreat
