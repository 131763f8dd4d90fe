/- Walks by the calculus D. No condition beside those that each theorem names. -/
import Derived.Test.YtbhhmalgcnhniaaGreatDi
import Derived.Test.YtbhhmalgcnhniaaGreatMo
import Derived.Test.YtbhhmalgcnhniaaGreatDp
import Derived.Test.YtbhhmalgcnhniaaGreatDs
import Derived.Test.YtbhhmalgcnhniaaGreatWe
import Derived.Test.YtbhhmalgcnhniaaGreatWf
import Derived.Test.YtbhhmalgcnhniaaGreatWh
namespace Go.Proofs.YtbhhmalgcnhniaaGreat
open Go Go.Li Go.Dk
set_option linter.unusedVariables false
set_option maxHeartbeats 16000000
set_option maxRecDepth 100000
theorem aln {x0:aG} {aU bA aP aL:Value} {x1:aG} {bI bS bD aY:Value}:Ct Tryz.prog 99 false (mH x0 x1) [.agg #[.int .i64 (x0.aA),aU,bA,aP,aL],.agg #[.int .i64 (x1.aA),bI,bS,bD,aY]] [rI aU x0.aF,rI bA x0.To,rI aP x0.aH,rJ aL x0.aC,rI bI x1.aF,rI bS x1.To,rI bD x1.aH,rJ aY x1.aC] (fun y (v:Value)=>[v]) (fun y v=>[.rd false (bG (rf GV)) v y]):=by
 refine ct (S:=Unit) Gi Tryz.func99 rfl rfl ?_
 repeat' first
  | (apply Dk.fe; repeat' first | exact rfl | (refine @id.{0} _ ?_; constructor))
  | intro _
  | exact rfl
  | apply Dk.Yq (t:=116) tj
  | (refine @id.{0} _ ?_; constructor)
  | apply Wn
  | exact ()
theorem c46 {x0:aG} {aU bA aP aL:Value}:Ct Tryz.prog 46 true (jI x0) [.agg #[.int .i64 (x0.aA),aU,bA,aP,aL]] [rI aU x0.aF,rI bA x0.To,rI aP x0.aH,rJ aL x0.aC] (fun y (v:Value×Value×Value×Value×Value×Value×Value×Value×Value×Value)=>[.agg #[.int .i64 y.1.aD.aA,v.1,v.2.1,v.2.2.1,v.2.2.2.1,.int .i64 y.1.aB.aA,v.2.2.2.2.1,v.2.2.2.2.2.1,v.2.2.2.2.2.2.1,v.2.2.2.2.2.2.2.1,v.2.2.2.2.2.2.2.2.1,v.2.2.2.2.2.2.2.2.2],.int .i64 y.2]) (fun y v=>[.own (aI 2 (aK .i64)) v.1 y.1.aD.aF,.own (aI 2 (aK .i64)) v.2.1 y.1.aD.To,.own (aI 2 (aK .i64)) v.2.2.1 y.1.aD.aH,.own (aI 22 (aI 2 (aK .i64))) v.2.2.2.1 y.1.aD.aC,.own (aI 2 (aK .i64)) v.2.2.2.2.1 y.1.aB.aF,.own (aI 2 (aK .i64)) v.2.2.2.2.2.1 y.1.aB.To,.own (aI 2 (aK .i64)) v.2.2.2.2.2.2.1 y.1.aB.aH,.own (aI 22 (aI 2 (aK .i64))) v.2.2.2.2.2.2.2.1 y.1.aB.aC,.own (aI 2 (aK .i64)) v.2.2.2.2.2.2.2.2.1 y.1.aA,.own (aI 2 (aK .i64)) v.2.2.2.2.2.2.2.2.2 y.1.ab]):=by
 refine ct (S:=Unit) (bo fun _ _=>rfl) Tryz.func46 rfl rfl ?_
 repeat' first
  | (apply Dk.fe; repeat' first | exact rfl | (refine @id.{0} _ ?_; constructor))
  | intro _
  | exact rfl
  | (refine @id.{0} _ ?_; constructor)
  | apply Wt
  | apply YT
  | exact ()
end Go.Proofs.YtbhhmalgcnhniaaGreat
