/- Walks by the calculus D. No condition beside those that each theorem names. -/
import Derived.Test.YtbhhmalgcnhniaaGreatDi
import Derived.Test.YtbhhmalgcnhniaaGreatMo
import Derived.Test.YtbhhmalgcnhniaaGreatDp
import Derived.Test.YtbhhmalgcnhniaaGreatDs
import Derived.Test.YtbhhmalgcnhniaaGreatWb
import Derived.Test.YtbhhmalgcnhniaaGreatWc
import Derived.Test.YtbhhmalgcnhniaaGreatWe
import Derived.Test.YtbhhmalgcnhniaaGreatWg
import Derived.Test.YtbhhmalgcnhniaaGreatWy
import Derived.Test.YtbhhmalgcnhniaaGreatWz
namespace Go.Proofs.YtbhhmalgcnhniaaGreat
open Go Go.Li Go.Dk
set_option linter.unusedVariables false
set_option maxHeartbeats 16000000
set_option maxRecDepth 100000
theorem adL {x0:(List Int)} {cO:Value}:Ct Tryz.prog 125 false (rS x0) [cO] [.rd false (bG (aK .u8)) cO x0] (fun y (v:Value×Value×Value×Value×Value×Value×Value×Value×Value×Value)=>[.agg #[.int .i64 y.aD.aA,v.1,v.2.1,v.2.2.1,v.2.2.2.1,.int .i64 y.aB.aA,v.2.2.2.2.1,v.2.2.2.2.2.1,v.2.2.2.2.2.2.1,v.2.2.2.2.2.2.2.1,v.2.2.2.2.2.2.2.2.1,v.2.2.2.2.2.2.2.2.2]]) (fun y v=>[rI v.1 y.aD.aF,rI v.2.1 y.aD.To,rI v.2.2.1 y.aD.aH,rJ v.2.2.2.1 y.aD.aC,rI v.2.2.2.2.1 y.aB.aF,rI v.2.2.2.2.2.1 y.aB.To,rI v.2.2.2.2.2.2.1 y.aB.aH,rJ v.2.2.2.2.2.2.2.1 y.aB.aC,rI v.2.2.2.2.2.2.2.2.1 y.aA,rI v.2.2.2.2.2.2.2.2.2 y.ab]):=by
 refine ct (S:=Unit) Gi Tryz.func125 rfl rfl ?_
 repeat' first
  | (apply Dk.fe; repeat' first | exact rfl | (refine @id.{0} _ ?_; constructor))
  | intro _
  | exact rfl
  | (apply Dk.LS (t:=28); exact rfl)
  | (refine @id.{0} _ ?_; constructor)
  | apply c78
  | apply Cn
  | apply c82
  | apply Wv
  | apply adM
  | apply Wr
  | apply Wo
  | exact ()
theorem c42 {x0:(List Int)} {cO:Value}:Ct Tryz.prog 42 false (iZ x0) [cO] [.rd false (bG (aK .u8)) cO x0] (fun y (v:Value×Value×Value×Value×Value×Value×Value×Value×Value×Value)=>[.agg #[.int .i64 y.aD.aA,v.1,v.2.1,v.2.2.1,v.2.2.2.1,.int .i64 y.aB.aA,v.2.2.2.2.1,v.2.2.2.2.2.1,v.2.2.2.2.2.2.1,v.2.2.2.2.2.2.2.1,v.2.2.2.2.2.2.2.2.1,v.2.2.2.2.2.2.2.2.2]]) (fun y v=>[rI v.1 y.aD.aF,rI v.2.1 y.aD.To,rI v.2.2.1 y.aD.aH,rJ v.2.2.2.1 y.aD.aC,rI v.2.2.2.2.1 y.aB.aF,rI v.2.2.2.2.2.1 y.aB.To,rI v.2.2.2.2.2.2.1 y.aB.aH,rJ v.2.2.2.2.2.2.2.1 y.aB.aC,rI v.2.2.2.2.2.2.2.2.1 y.aA,rI v.2.2.2.2.2.2.2.2.2 y.ab]):=by
 refine ct (S:=Unit) Gi Tryz.func42 rfl rfl ?_
 repeat' first
  | (apply Dk.fe; repeat' first | exact rfl | (refine @id.{0} _ ?_; constructor))
  | intro _
  | exact rfl
  | (refine @id.{0} _ ?_; constructor)
  | apply adL
  | exact ()
end Go.Proofs.YtbhhmalgcnhniaaGreat
