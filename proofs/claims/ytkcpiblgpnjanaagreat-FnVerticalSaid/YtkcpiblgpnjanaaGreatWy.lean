/- Walks by the calculus D. No condition beside those that each theorem names. -/
import Derived.Test.YtkcpiblgpnjanaaGreatDi
import Derived.Test.YtkcpiblgpnjanaaGreatMo
import Derived.Test.YtkcpiblgpnjanaaGreatDp
import Derived.Test.YtkcpiblgpnjanaaGreatDs
import Derived.Test.YtkcpiblgpnjanaaGreatWa
import Derived.Test.YtkcpiblgpnjanaaGreatWc
import Derived.Test.YtkcpiblgpnjanaaGreatWf
import Derived.Test.YtkcpiblgpnjanaaGreatWh
import Derived.Test.YtkcpiblgpnjanaaGreatWi
import Derived.Test.YtkcpiblgpnjanaaGreatWl
import Derived.Test.YtkcpiblgpnjanaaGreatWz
namespace Go.Proofs.YtkcpiblgpnjanaaGreat
open Go Go.Li Go.Dk
set_option linter.unusedVariables false
set_option maxHeartbeats 16000000
set_option maxRecDepth 100000
theorem c54 {x0:aL} {dV:Nat} {cW:Value}:Ct Tryz.prog 54 false (jQ x0) [.pointer (some (⟨dV,0,none⟩))] [.row dV [cW,.int .i64 (x0.At),.int .u64 (x0.av)] 142,.rd false (aD (aB .u8)) cW x0.Code] (fun y (v:Value×Value×Value×Value×Value×Value×Value×Value×Value×Value×Value×Value×Value×Value×Value×Value×Value×Value×Value×Value×Value)=>[.agg #[.int .i64 y.1.aA.aA.aE,v.1,v.2.1,v.2.2.1,v.2.2.2.1,.int .i64 y.1.aA.aC.aE,v.2.2.2.2.1,v.2.2.2.2.2.1,v.2.2.2.2.2.2.1,v.2.2.2.2.2.2.2.1,v.2.2.2.2.2.2.2.2.1,v.2.2.2.2.2.2.2.2.2.1,.int .i64 y.1.aC.aA.aE,v.2.2.2.2.2.2.2.2.2.2.1,v.2.2.2.2.2.2.2.2.2.2.2.1,v.2.2.2.2.2.2.2.2.2.2.2.2.1,v.2.2.2.2.2.2.2.2.2.2.2.2.2.1,.int .i64 y.1.aC.aC.aE,v.2.2.2.2.2.2.2.2.2.2.2.2.2.2.1,v.2.2.2.2.2.2.2.2.2.2.2.2.2.2.2.1,v.2.2.2.2.2.2.2.2.2.2.2.2.2.2.2.2.1,v.2.2.2.2.2.2.2.2.2.2.2.2.2.2.2.2.2.1,v.2.2.2.2.2.2.2.2.2.2.2.2.2.2.2.2.2.2.1,v.2.2.2.2.2.2.2.2.2.2.2.2.2.2.2.2.2.2.2.1,v.2.2.2.2.2.2.2.2.2.2.2.2.2.2.2.2.2.2.2.2]]) (fun y v=>[.rd false (aD (aB .i64)) v.1 y.1.aA.aA.aG,.rd false (aD (aB .i64)) v.2.1 y.1.aA.aA.To,.rd false (aD (aB .i64)) v.2.2.1 y.1.aA.aA.aJ,.rd false (aD (aD (aB .i64))) v.2.2.2.1 y.1.aA.aA.aF,.rd false (aD (aB .i64)) v.2.2.2.2.1 y.1.aA.aC.aG,.rd false (aD (aB .i64)) v.2.2.2.2.2.1 y.1.aA.aC.To,.rd false (aD (aB .i64)) v.2.2.2.2.2.2.1 y.1.aA.aC.aJ,.rd false (aD (aD (aB .i64))) v.2.2.2.2.2.2.2.1 y.1.aA.aC.aF,.rd false (aD (aB .i64)) v.2.2.2.2.2.2.2.2.1 y.1.aA.aE,.rd false (aD (aB .i64)) v.2.2.2.2.2.2.2.2.2.1 y.1.aA.ae,.rd false (aD (aB .i64)) v.2.2.2.2.2.2.2.2.2.2.1 y.1.aC.aA.aG,.rd false (aD (aB .i64)) v.2.2.2.2.2.2.2.2.2.2.2.1 y.1.aC.aA.To,.rd false (aD (aB .i64)) v.2.2.2.2.2.2.2.2.2.2.2.2.1 y.1.aC.aA.aJ,.rd false (aD (aD (aB .i64))) v.2.2.2.2.2.2.2.2.2.2.2.2.2.1 y.1.aC.aA.aF,.rd false (aD (aB .i64)) v.2.2.2.2.2.2.2.2.2.2.2.2.2.2.1 y.1.aC.aC.aG,.rd false (aD (aB .i64)) v.2.2.2.2.2.2.2.2.2.2.2.2.2.2.2.1 y.1.aC.aC.To,.rd false (aD (aB .i64)) v.2.2.2.2.2.2.2.2.2.2.2.2.2.2.2.2.1 y.1.aC.aC.aJ,.rd false (aD (aD (aB .i64))) v.2.2.2.2.2.2.2.2.2.2.2.2.2.2.2.2.2.1 y.1.aC.aC.aF,.rd false (aD (aB .i64)) v.2.2.2.2.2.2.2.2.2.2.2.2.2.2.2.2.2.2.1 y.1.aC.aE,.rd false (aD (aB .i64)) v.2.2.2.2.2.2.2.2.2.2.2.2.2.2.2.2.2.2.2.1 y.1.aC.ae,.rd false (aD (aB .i64)) v.2.2.2.2.2.2.2.2.2.2.2.2.2.2.2.2.2.2.2.2 y.1.ag,.row dV [cW,.int .i64 y.2.At,.int .u64 y.2.av] 142]):=by
 refine ct (S:=Unit) Cq Tryz.func54 rfl rfl ?_
 repeat' first
  | ((first | show Dk.ER _ _ _ | show Dk.bb _ _ | show Dk.EF _ _ _ | show Dk.EO _ _ _ | show Dk.EP _ _ | show Dk.ba _ _ _ _ | show Dk.aw _ _ _ _ | show Dk.Kp _ _ _ _ | show Dk.bp _ _ | show Dk.bc _ _ _ _); repeat' first | exact rfl | (refine @id.{0} _ ?_; constructor))
  | (intro (v:Value×Value×Value×Value×Value×Value×Value×Value×Value×Value×Value×Value×Value×Value×Value×Value×Value×Value×Value×Value×Value); obtain ⟨_,_,_,_,_,_,_,_,_,_,_,_,_,_,_,_,_,_,_,_,_⟩:=v; dsimp only)
  | (intro (v:Value×Value×Value×Value×Value×Value×Value×Value×Value×Value×Value×Value×Value×Value×Value×Value×Value×Value×Value×Value); obtain ⟨_,_,_,_,_,_,_,_,_,_,_,_,_,_,_,_,_,_,_,_⟩:=v; dsimp only)
  | (intro (v:Value×Value×Value×Value×Value×Value×Value×Value×Value×Value); obtain ⟨_,_,_,_,_,_,_,_,_,_⟩:=v; dsimp only)
  | intro _
  | exact rfl
  | (apply Dk.MR (t:=59); exact rfl)
  | (refine @id.{0} _ ?_; constructor)
  | apply Dk.any (id:=8) 4 [] [] [[],[],[],[2]] (by kernel_rfl)
  | apply Dk.um (id:=11) [Dk.ay.row _ _ 142] 13 [] [[],[],[],[],[],[],[15],[],[],[],[],[],[6]] [[],[0],[],[],[3],[4,3],[2,5,4,3],[],[],[8],[9,8],[10,9,8],[7,11,10,9,8,6,2,5,4,3]] (by kernel_rfl)
  | apply c38
  | apply WY
  | apply Zh
  | apply Zq
  | apply AM
  | apply Zg
  | apply WZ
  | apply v7
  | apply adh
  | exact ()
end Go.Proofs.YtkcpiblgpnjanaaGreat
