/- Walks by the calculus D. No condition beside those that each theorem names. -/
import Derived.Test.YtilhlobfebngdaaGreatDp
import Derived.Test.YtilhlobfebngdaaGreatDi
import Derived.Test.YtilhlobfebngdaaGreatMo
import Derived.Test.YtilhlobfebngdaaGreatDs
import Derived.Test.YtilhlobfebngdaaGreatWa
import Derived.Test.YtilhlobfebngdaaGreatWe
import Derived.Test.YtilhlobfebngdaaGreatWg
namespace Go.Proofs.YtilhlobfebngdaaGreat
open Go Go.Li Go.Dk
set_option linter.unusedVariables false
set_option maxHeartbeats 16000000
set_option maxRecDepth 100000
theorem ajy {x0:aP} {bG bN aV aR bH bP aW aS bV cA:Value}:Ct Tryz.prog 118 true (kF x0) [.agg #[.int .i64 (x0.aB.aA),bG,bN,aV,aR,.int .i64 (x0.aG.aA),bH,bP,aW,aS,bV,cA]] [rI bG x0.aB.aE,rI bN x0.aB.To,rI aV x0.aB.aH,rJ aR x0.aB.aC,rI bH x0.aG.aE,rI bP x0.aG.To,rI aW x0.aG.aH,rJ aS x0.aG.aC,rI bV x0.aA,rI cA x0.ab] (fun y (v:Value×Value×Value×Value×Value×Value×Value×Value×Value×Value×Value×Value×Value×Value×Value×Value×Value×Value×Value×Value×Value×Value)=>[.agg #[.int .i64 y.1.Left.aB.aA,v.1,v.2.1,v.2.2.1,v.2.2.2.1,.int .i64 y.1.Left.aG.aA,v.2.2.2.2.1,v.2.2.2.2.2.1,v.2.2.2.2.2.2.1,v.2.2.2.2.2.2.2.1,v.2.2.2.2.2.2.2.2.1,v.2.2.2.2.2.2.2.2.2.1,.int .i64 y.1.bw.aB.aA,v.2.2.2.2.2.2.2.2.2.2.1,v.2.2.2.2.2.2.2.2.2.2.2.1,v.2.2.2.2.2.2.2.2.2.2.2.2.1,v.2.2.2.2.2.2.2.2.2.2.2.2.2.1,.int .i64 y.1.bw.aG.aA,v.2.2.2.2.2.2.2.2.2.2.2.2.2.2.1,v.2.2.2.2.2.2.2.2.2.2.2.2.2.2.2.1,v.2.2.2.2.2.2.2.2.2.2.2.2.2.2.2.2.1,v.2.2.2.2.2.2.2.2.2.2.2.2.2.2.2.2.2.1,v.2.2.2.2.2.2.2.2.2.2.2.2.2.2.2.2.2.2.1,v.2.2.2.2.2.2.2.2.2.2.2.2.2.2.2.2.2.2.2.1,v.2.2.2.2.2.2.2.2.2.2.2.2.2.2.2.2.2.2.2.2.1,v.2.2.2.2.2.2.2.2.2.2.2.2.2.2.2.2.2.2.2.2.2],.bool y.2]) (fun y v=>[.own (aI 2 (aL .i64)) v.1 y.1.Left.aB.aE,.own (aI 2 (aL .i64)) v.2.1 y.1.Left.aB.To,.own (aI 2 (aL .i64)) v.2.2.1 y.1.Left.aB.aH,.own (aI 24 (aI 2 (aL .i64))) v.2.2.2.1 y.1.Left.aB.aC,.own (aI 2 (aL .i64)) v.2.2.2.2.1 y.1.Left.aG.aE,.own (aI 2 (aL .i64)) v.2.2.2.2.2.1 y.1.Left.aG.To,.own (aI 2 (aL .i64)) v.2.2.2.2.2.2.1 y.1.Left.aG.aH,.own (aI 24 (aI 2 (aL .i64))) v.2.2.2.2.2.2.2.1 y.1.Left.aG.aC,.own (aI 2 (aL .i64)) v.2.2.2.2.2.2.2.2.1 y.1.Left.aA,.own (aI 2 (aL .i64)) v.2.2.2.2.2.2.2.2.2.1 y.1.Left.ab,.own (aI 2 (aL .i64)) v.2.2.2.2.2.2.2.2.2.2.1 y.1.bw.aB.aE,.own (aI 2 (aL .i64)) v.2.2.2.2.2.2.2.2.2.2.2.1 y.1.bw.aB.To,.own (aI 2 (aL .i64)) v.2.2.2.2.2.2.2.2.2.2.2.2.1 y.1.bw.aB.aH,.own (aI 24 (aI 2 (aL .i64))) v.2.2.2.2.2.2.2.2.2.2.2.2.2.1 y.1.bw.aB.aC,.own (aI 2 (aL .i64)) v.2.2.2.2.2.2.2.2.2.2.2.2.2.2.1 y.1.bw.aG.aE,.own (aI 2 (aL .i64)) v.2.2.2.2.2.2.2.2.2.2.2.2.2.2.2.1 y.1.bw.aG.To,.own (aI 2 (aL .i64)) v.2.2.2.2.2.2.2.2.2.2.2.2.2.2.2.2.1 y.1.bw.aG.aH,.own (aI 24 (aI 2 (aL .i64))) v.2.2.2.2.2.2.2.2.2.2.2.2.2.2.2.2.2.1 y.1.bw.aG.aC,.own (aI 2 (aL .i64)) v.2.2.2.2.2.2.2.2.2.2.2.2.2.2.2.2.2.2.1 y.1.bw.aA,.own (aI 2 (aL .i64)) v.2.2.2.2.2.2.2.2.2.2.2.2.2.2.2.2.2.2.2.1 y.1.bw.ab,.own (aI 2 (aL .i64)) v.2.2.2.2.2.2.2.2.2.2.2.2.2.2.2.2.2.2.2.2.1 y.1.Unit,.own (aI 2 (aL .i64)) v.2.2.2.2.2.2.2.2.2.2.2.2.2.2.2.2.2.2.2.2.2 y.1.pr]):=by
 refine ct (S:=Unit) (bu fun _ _=>rfl) Tryz.func118 rfl rfl ?_
 repeat' first
  | (apply Dk.fe; repeat' first | exact rfl | (refine @id.{0} _ ?_; constructor))
  | intro _
  | exact rfl
  | (refine @id.{0} _ ?_; constructor)
  | apply Dk.loop 0 (V:=Value×Value) (fun (s:(List Int)×(List Int)×Int) v=>[.own (aI 2 (aL .i64)) v.1 s.1,.own (aI 2 (aL .i64)) v.2 s.2.1]) (fun s v=>[(6,v.1),(7,v.2),(10,.int .i64 (s.2.2))]) (_,_) [(1,_),(2,_),(4,_),(5,_),(8,_),(9,_)]
  | apply Dk.loop 2 (V:=Value) (fun (s:(List Int)×Int) v=>[.own (aI 2 (aL .i64)) v s.1]) (fun s v=>[(8,v),(14,.int .i64 (s.2))]) _ [(1,_),(2,_),(4,_),(5,_),(6,_),(7,_),(9,_)]
  | apply Dk.loop 4 (V:=Value) (fun (s:(List Int)×Int) v=>[.own (aI 2 (aL .i64)) v s.1]) (fun s v=>[(9,v),(17,.int .i64 (s.2))]) _ [(1,_),(2,_),(4,_),(5,_),(6,_),(7,_),(8,_)]
  | apply Dk.quiet (id:=14) (by kernel_rfl)
  | apply Dk.any (id:=1) 7 [] [[],[],[],[],[],[],[4]] [[],[0],[],[2],[],[],[0,1,4,5]] (by kernel_rfl)
  | apply Dk.any (id:=15) 21 [0] [] [[],[],[],[],[2,3],[2,3,4],[],[],[6,7],[6,7,8],[],[],[10,11],[10,11,12],[],[],[],[15,16],[15,16,17],[],[14,15,16,17,18,19]] (by kernel_rfl)
  | apply Dk.any (id:=20) 16 [0] [] [[],[],[],[],[],[3,4],[3,4,5],[],[],[7,8],[7,8,9],[],[11],[],[11,12,13],[11,12,13,14]] (by kernel_rfl)
  | apply Dk.any (id:=21) 9 [] [] [[],[0],[],[],[],[],[0,1,2,3,4,5],[],[]] (by kernel_rfl)
  | apply ajl
  | apply NI
  | apply aa7
  | apply abi
  | apply I0
  | exact ()
theorem c83 {x0:cV} {iG jB fY fN iI jC fZ fO kI lM gZ iY fS fF hY iZ fT fG jY kK cG pV:Value}:Ct Tryz.prog 83 true (lV x0) [.agg #[.int .i64 (x0.Left.aB.aA),iG,jB,fY,fN,.int .i64 (x0.Left.aG.aA),iI,jC,fZ,fO,kI,lM,.int .i64 (x0.bw.aB.aA),gZ,iY,fS,fF,.int .i64 (x0.bw.aG.aA),hY,iZ,fT,fG,jY,kK,cG,pV]] [rI iG x0.Left.aB.aE,rI jB x0.Left.aB.To,rI fY x0.Left.aB.aH,rJ fN x0.Left.aB.aC,rI iI x0.Left.aG.aE,rI jC x0.Left.aG.To,rI fZ x0.Left.aG.aH,rJ fO x0.Left.aG.aC,rI kI x0.Left.aA,rI lM x0.Left.ab,rI gZ x0.bw.aB.aE,rI iY x0.bw.aB.To,rI fS x0.bw.aB.aH,rJ fF x0.bw.aB.aC,rI hY x0.bw.aG.aE,rI iZ x0.bw.aG.To,rI fT x0.bw.aG.aH,rJ fG x0.bw.aG.aC,rI jY x0.bw.aA,rI kK x0.bw.ab,rI cG x0.Unit,rI pV x0.pr] (fun y (v:Value×Value×Value×Value×Value×Value×Value×Value×Value×Value×Value×Value×Value×Value×Value×Value×Value×Value×Value×Value×Value×Value)=>[.agg #[.int .i64 y.Left.aB.aA,v.1,v.2.1,v.2.2.1,v.2.2.2.1,.int .i64 y.Left.aG.aA,v.2.2.2.2.1,v.2.2.2.2.2.1,v.2.2.2.2.2.2.1,v.2.2.2.2.2.2.2.1,v.2.2.2.2.2.2.2.2.1,v.2.2.2.2.2.2.2.2.2.1,.int .i64 y.bw.aB.aA,v.2.2.2.2.2.2.2.2.2.2.1,v.2.2.2.2.2.2.2.2.2.2.2.1,v.2.2.2.2.2.2.2.2.2.2.2.2.1,v.2.2.2.2.2.2.2.2.2.2.2.2.2.1,.int .i64 y.bw.aG.aA,v.2.2.2.2.2.2.2.2.2.2.2.2.2.2.1,v.2.2.2.2.2.2.2.2.2.2.2.2.2.2.2.1,v.2.2.2.2.2.2.2.2.2.2.2.2.2.2.2.2.1,v.2.2.2.2.2.2.2.2.2.2.2.2.2.2.2.2.2.1,v.2.2.2.2.2.2.2.2.2.2.2.2.2.2.2.2.2.2.1,v.2.2.2.2.2.2.2.2.2.2.2.2.2.2.2.2.2.2.2.1,v.2.2.2.2.2.2.2.2.2.2.2.2.2.2.2.2.2.2.2.2.1,v.2.2.2.2.2.2.2.2.2.2.2.2.2.2.2.2.2.2.2.2.2]]) (fun y v=>[.own (aI 2 (aL .i64)) v.1 y.Left.aB.aE,.own (aI 2 (aL .i64)) v.2.1 y.Left.aB.To,.own (aI 2 (aL .i64)) v.2.2.1 y.Left.aB.aH,.own (aI 24 (aI 2 (aL .i64))) v.2.2.2.1 y.Left.aB.aC,.own (aI 2 (aL .i64)) v.2.2.2.2.1 y.Left.aG.aE,.own (aI 2 (aL .i64)) v.2.2.2.2.2.1 y.Left.aG.To,.own (aI 2 (aL .i64)) v.2.2.2.2.2.2.1 y.Left.aG.aH,.own (aI 24 (aI 2 (aL .i64))) v.2.2.2.2.2.2.2.1 y.Left.aG.aC,.own (aI 2 (aL .i64)) v.2.2.2.2.2.2.2.2.1 y.Left.aA,.own (aI 2 (aL .i64)) v.2.2.2.2.2.2.2.2.2.1 y.Left.ab,.own (aI 2 (aL .i64)) v.2.2.2.2.2.2.2.2.2.2.1 y.bw.aB.aE,.own (aI 2 (aL .i64)) v.2.2.2.2.2.2.2.2.2.2.2.1 y.bw.aB.To,.own (aI 2 (aL .i64)) v.2.2.2.2.2.2.2.2.2.2.2.2.1 y.bw.aB.aH,.own (aI 24 (aI 2 (aL .i64))) v.2.2.2.2.2.2.2.2.2.2.2.2.2.1 y.bw.aB.aC,.own (aI 2 (aL .i64)) v.2.2.2.2.2.2.2.2.2.2.2.2.2.2.1 y.bw.aG.aE,.own (aI 2 (aL .i64)) v.2.2.2.2.2.2.2.2.2.2.2.2.2.2.2.1 y.bw.aG.To,.own (aI 2 (aL .i64)) v.2.2.2.2.2.2.2.2.2.2.2.2.2.2.2.2.1 y.bw.aG.aH,.own (aI 24 (aI 2 (aL .i64))) v.2.2.2.2.2.2.2.2.2.2.2.2.2.2.2.2.2.1 y.bw.aG.aC,.own (aI 2 (aL .i64)) v.2.2.2.2.2.2.2.2.2.2.2.2.2.2.2.2.2.2.1 y.bw.aA,.own (aI 2 (aL .i64)) v.2.2.2.2.2.2.2.2.2.2.2.2.2.2.2.2.2.2.2.1 y.bw.ab,.own (aI 2 (aL .i64)) v.2.2.2.2.2.2.2.2.2.2.2.2.2.2.2.2.2.2.2.2.1 y.Unit,.own (aI 2 (aL .i64)) v.2.2.2.2.2.2.2.2.2.2.2.2.2.2.2.2.2.2.2.2.2 y.pr]):=by
 refine ct (S:=Unit) (bu fun _ _=>rfl) Tryz.func83 rfl rfl ?_
 repeat' first
  | (apply Dk.fe; repeat' first | exact rfl | (refine @id.{0} _ ?_; constructor))
  | intro _
  | exact rfl
  | (refine @id.{0} _ ?_; constructor)
  | apply Dk.any (id:=1) 11 [] [] [[],[0],[0,1],[],[3],[0,1,2,3,4],[],[6],[0,1,2,3,4,5,6,7],[],[9]] (by kernel_rfl)
  | apply abj
  | apply xV
  | exact ()
end Go.Proofs.YtilhlobfebngdaaGreat
