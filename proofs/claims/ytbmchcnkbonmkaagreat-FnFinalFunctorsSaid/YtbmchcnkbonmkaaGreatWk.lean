/- Walks by the calculus D. No condition beside those that each theorem names. -/
import Derived.Test.YtbmchcnkbonmkaaGreatDi
import Derived.Test.YtbmchcnkbonmkaaGreatMo
import Derived.Test.YtbmchcnkbonmkaaGreatDp
import Derived.Test.YtbmchcnkbonmkaaGreatDs
import Derived.Test.YtbmchcnkbonmkaaGreatWb
import Derived.Test.YtbmchcnkbonmkaaGreatWf
import Derived.Test.YtbmchcnkbonmkaaGreatWh
namespace Go.Proofs.YtbmchcnkbonmkaaGreat
open Go Go.Li Go.Dk
set_option linter.unusedVariables false
set_option maxHeartbeats 16000000
set_option maxRecDepth 100000
theorem c26 {x0:aG} {cS:Addr} {aU aZ aN aK:Value}:Ct Tryz.prog 26 true (nZ x0) [.pointer (some (cS))] [.aw cS [.int .i64 (x0.aA),aU,aZ,aN,aK],rI aU x0.aC,rI aZ x0.To,rI aN x0.aH,rJ aK x0.aB] (fun y (v:Value×Value×Value×Value×Value×Value×Value×Value×Value×Value)=>[.agg #[.int .i64 y.aE.aA,v.1,v.2.1,v.2.2.1,v.2.2.2.1,.int .i64 y.aF.aA,v.2.2.2.2.1,v.2.2.2.2.2.1,v.2.2.2.2.2.2.1,v.2.2.2.2.2.2.2.1,v.2.2.2.2.2.2.2.2.1,v.2.2.2.2.2.2.2.2.2]]) (fun y v=>[.own (aI 2 (aL .i64)) v.1 y.aE.aC,.own (aI 2 (aL .i64)) v.2.1 y.aE.To,.own (aI 2 (aL .i64)) v.2.2.1 y.aE.aH,.own (aI 24 (aI 2 (aL .i64))) v.2.2.2.1 y.aE.aB,.own (aI 2 (aL .i64)) v.2.2.2.2.1 y.aF.aC,.own (aI 2 (aL .i64)) v.2.2.2.2.2.1 y.aF.To,.own (aI 2 (aL .i64)) v.2.2.2.2.2.2.1 y.aF.aH,.own (aI 24 (aI 2 (aL .i64))) v.2.2.2.2.2.2.2.1 y.aF.aB,.own (aI 2 (aL .i64)) v.2.2.2.2.2.2.2.2.1 y.aA,.own (aI 2 (aL .i64)) v.2.2.2.2.2.2.2.2.2 y.ah]):=by
 refine ct (S:=Unit) (bw fun _ _=>rfl) Tryz.func26 rfl rfl ?_
 repeat' first
  | (apply Dk.fe; repeat' first | exact rfl | (refine @id.{0} _ ?_; constructor))
  | intro _
  | exact rfl
  | (refine @id.{0} _ ?_; constructor)
  | apply c57
  | apply Lw
  | apply c54
  | exact ()
theorem W3 {x0:aG} {aU aZ aN aK:Value}:Ct Tryz.prog 11 true (iD x0) [.agg #[.int .i64 (x0.aA),aU,aZ,aN,aK]] [rI aU x0.aC,rI aZ x0.To,rI aN x0.aH,rJ aK x0.aB] (fun y (v:Value×Value×Value×Value×Value×Value×Value×Value×Value×Value)=>[.agg #[.int .i64 y.1.aE.aA,v.1,v.2.1,v.2.2.1,v.2.2.2.1,.int .i64 y.1.aF.aA,v.2.2.2.2.1,v.2.2.2.2.2.1,v.2.2.2.2.2.2.1,v.2.2.2.2.2.2.2.1,v.2.2.2.2.2.2.2.2.1,v.2.2.2.2.2.2.2.2.2],.int .i64 y.2]) (fun y v=>[.own (aI 2 (aL .i64)) v.1 y.1.aE.aC,.own (aI 2 (aL .i64)) v.2.1 y.1.aE.To,.own (aI 2 (aL .i64)) v.2.2.1 y.1.aE.aH,.own (aI 24 (aI 2 (aL .i64))) v.2.2.2.1 y.1.aE.aB,.own (aI 2 (aL .i64)) v.2.2.2.2.1 y.1.aF.aC,.own (aI 2 (aL .i64)) v.2.2.2.2.2.1 y.1.aF.To,.own (aI 2 (aL .i64)) v.2.2.2.2.2.2.1 y.1.aF.aH,.own (aI 24 (aI 2 (aL .i64))) v.2.2.2.2.2.2.2.1 y.1.aF.aB,.own (aI 2 (aL .i64)) v.2.2.2.2.2.2.2.2.1 y.1.aA,.own (aI 2 (aL .i64)) v.2.2.2.2.2.2.2.2.2 y.1.ah]):=by
 refine ct (S:=Unit) (bw fun _ _=>rfl) Tryz.func11 rfl rfl ?_
 repeat' first
  | (apply Dk.fe; repeat' first | exact rfl | (refine @id.{0} _ ?_; constructor))
  | intro _
  | exact rfl
  | (refine @id.{0} _ ?_; constructor)
  | apply c25
  | apply c26
  | exact ()
end Go.Proofs.YtbmchcnkbonmkaaGreat
