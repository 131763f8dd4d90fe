/- Walks by the calculus D. No condition beside those that each theorem names. -/
import Derived.Test.YtjdkifckhidlbaaGreatDp
import Derived.Test.YtjdkifckhidlbaaGreatDi
import Derived.Test.YtjdkifckhidlbaaGreatMo
import Derived.Test.YtjdkifckhidlbaaGreatDs
import Derived.Test.YtjdkifckhidlbaaGreatWc
import Derived.Test.YtjdkifckhidlbaaGreatWe
import Derived.Test.YtjdkifckhidlbaaGreatWz
namespace Go.Proofs.YtjdkifckhidlbaaGreat
open Go Go.Li Go.Dk
set_option linter.unusedVariables false
set_option maxHeartbeats 16000000
set_option maxRecDepth 100000
theorem c76 {x0:aL} {dM:Nat} {cQ:Value}:Ct Tryz.prog 76 false (pJ x0) [.pointer (some (⟨dM,0,none⟩))] [.row dM [cQ,.int .i64 (x0.At),.int .u64 (x0.av)] 193,.rd false (bY (aM .u8)) cQ x0.Code] (fun y (v:Value×Value×Value×Value×Value×Value×Value×Value×Value×Value)=>[.agg #[.int .i64 y.1.aB.aA,v.1,v.2.1,v.2.2.1,v.2.2.2.1,.int .i64 y.1.aF.aA,v.2.2.2.2.1,v.2.2.2.2.2.1,v.2.2.2.2.2.2.1,v.2.2.2.2.2.2.2.1,v.2.2.2.2.2.2.2.2.1,v.2.2.2.2.2.2.2.2.2]]) (fun y v=>[rI v.1 y.1.aB.aH,rI v.2.1 y.1.aB.To,rI v.2.2.1 y.1.aB.aJ,rJ v.2.2.2.1 y.1.aB.aE,rI v.2.2.2.2.1 y.1.aF.aH,rI v.2.2.2.2.2.1 y.1.aF.To,rI v.2.2.2.2.2.2.1 y.1.aF.aJ,rJ v.2.2.2.2.2.2.2.1 y.1.aF.aE,rI v.2.2.2.2.2.2.2.2.1 y.1.aA,rI v.2.2.2.2.2.2.2.2.2 y.1.ae,.row dM [cQ,.int .i64 y.2.At,.int .u64 y.2.av] 193]):=by
 refine ct (S:=Unit) HC Tryz.func76 rfl rfl ?_
 repeat' first
  | (apply Dk.fe; repeat' first | exact rfl | (refine @id.{0} _ ?_; constructor))
  | (intro (v:Value×Value×Value×Value×Value×Value×Value×Value×Value×Value); obtain ⟨_,_,_,_,_,_,_,_,_,_⟩:=v; dsimp only)
  | intro _
  | exact rfl
  | (refine @id.{0} _ ?_; constructor)
  | apply Dk.xf (id:=8) [Dk.aX.row _ _ 193] 12 [] [[],[],[],[],[14],[],[],[],[],[],[],[4]] [[],[0],[],[],[2,3],[],[],[6],[6,7],[6,7,8],[6,7,8,9],[2,3,4,5,6,7,8,9,10]] (by kernel_rfl)
  | apply Yw
  | apply Yt
  | apply Am
  | apply afA
  | exact ()
end Go.Proofs.YtjdkifckhidlbaaGreat
