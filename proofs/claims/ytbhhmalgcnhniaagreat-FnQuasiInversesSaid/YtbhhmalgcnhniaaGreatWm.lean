/- Walks by the calculus D. No condition beside those that each theorem names. -/
import Derived.Test.YtbhhmalgcnhniaaGreatDi
import Derived.Test.YtbhhmalgcnhniaaGreatMo
import Derived.Test.YtbhhmalgcnhniaaGreatDp
import Derived.Test.YtbhhmalgcnhniaaGreatDs
import Derived.Test.YtbhhmalgcnhniaaGreatWb
import Derived.Test.YtbhhmalgcnhniaaGreatWd
import Derived.Test.YtbhhmalgcnhniaaGreatWg
import Derived.Test.YtbhhmalgcnhniaaGreatWi
import Derived.Test.YtbhhmalgcnhniaaGreatWj
import Derived.Test.YtbhhmalgcnhniaaGreatWk
import Derived.Test.YtbhhmalgcnhniaaGreatWl
namespace Go.Proofs.YtbhhmalgcnhniaaGreat
open Go Go.Li Go.Dk
set_option linter.unusedVariables false
set_option maxHeartbeats 16000000
set_option maxRecDepth 100000
theorem c50 {x0:bX} {eB eL dN dD eC eM dP dE fC fP dX eI dJ dB dY eJ dK dC eY fD lR jM:Value}:Ct Tryz.prog 50 true (lD x0) [.agg #[.int .i64 (x0.Left.aD.aA),eB,eL,dN,dD,.int .i64 (x0.Left.aB.aA),eC,eM,dP,dE,fC,fP,.int .i64 (x0.au.aD.aA),dX,eI,dJ,dB,.int .i64 (x0.au.aB.aA),dY,eJ,dK,dC,eY,fD,lR,jM]] [rI eB x0.Left.aD.aF,rI eL x0.Left.aD.To,rI dN x0.Left.aD.aH,rJ dD x0.Left.aD.aC,rI eC x0.Left.aB.aF,rI eM x0.Left.aB.To,rI dP x0.Left.aB.aH,rJ dE x0.Left.aB.aC,rI fC x0.Left.aA,rI fP x0.Left.ab,rI dX x0.au.aD.aF,rI eI x0.au.aD.To,rI dJ x0.au.aD.aH,rJ dB x0.au.aD.aC,rI dY x0.au.aB.aF,rI eJ x0.au.aB.To,rI dK x0.au.aB.aH,rJ dC x0.au.aB.aC,rI eY x0.au.aA,rI fD x0.au.ab,rI lR x0.Unit,rI jM x0.jm] (fun y (_:Unit)=>[.bool y]) (fun y _=>[]):=by
 refine ct (S:=Unit) (bo fun _ _=>rfl) Tryz.func50 rfl rfl ?_
 repeat' first
  | (apply Dk.fe; repeat' first | exact rfl | (refine @id.{0} _ ?_; constructor))
  | intro _
  | exact rfl
  | (refine @id.{0} _ ?_; constructor)
  | apply adK
  | exact ()
theorem c6 {x0:(List Int)} {cO:Value}:Ct Tryz.prog 6 true (jK x0) [cO] [.rd false (bG (aK .u8)) cO x0] (fun y (_:Unit)=>[.bool y]) (fun y _=>[]):=by
 refine ct (S:=Unit) (bo fun _ _=>rfl) Tryz.func6 rfl rfl ?_
 repeat' first
  | (apply Dk.fe; repeat' first | exact rfl | (refine @id.{0} _ ?_; constructor))
  | intro _
  | exact rfl
  | (refine @id.{0} _ ?_; constructor)
  | apply c16
  | apply c42
  | apply c43
  | apply c44
  | apply c45
  | apply c20
  | apply Q6
  | apply c23
  | apply c46
  | apply c47
  | apply c48
  | apply c49
  | apply c50
  | exact ()
theorem rK {w:World} {x0:(List Int)} {cO:Value} {adN:List Nat} (adO:(bG (aK .u8)).rep w.heap [cO] x0 adN) {y:(Bool)} (hm:jK x0=some y):Calls Tryz.prog 6 #[cO] w (fun e w'=>e = .returned (.bool y)∧an [] w w'):=
 RL c6 (.fact (RM adO) (.nil)) hm
end Go.Proofs.YtbhhmalgcnhniaaGreat
