/- Walks by the calculus D. No condition beside those that each theorem names. -/
import Derived.Test.YtgjbmjjihmfppaaGreatDi
import Derived.Test.YtgjbmjjihmfppaaGreatMo
import Derived.Test.YtgjbmjjihmfppaaGreatDp
import Derived.Test.YtgjbmjjihmfppaaGreatDs
import Derived.Test.YtgjbmjjihmfppaaGreatWa
import Derived.Test.YtgjbmjjihmfppaaGreatWc
import Derived.Test.YtgjbmjjihmfppaaGreatWg
namespace Go.Proofs.YtgjbmjjihmfppaaGreat
open Go Go.Li Go.Dk
set_option linter.unusedVariables false
set_option maxHeartbeats 16000000
set_option maxRecDepth 100000
theorem ZF {x0:aM} {aU:Value} {aW:Value} {aR:Value} {aP:Value} {aV:Value} {aY:Value} {aS:Value} {aQ:Value} {bC:Value} {bF:Value}:Ct Tryz.prog 38 true (mK x0) [.agg #[.int .i64 (x0.aE.aA),aU,aW,aR,aP,.int .i64 (x0.aH.aA),aV,aY,aS,aQ,bC,bF]] [.rd false (aB (aC .i64)) aU x0.aE.aF,.rd false (aB (aC .i64)) aW x0.aE.To,.rd false (aB (aC .i64)) aR x0.aE.aJ,.rd false (aB (aB (aC .i64))) aP x0.aE.aD,.rd false (aB (aC .i64)) aV x0.aH.aF,.rd false (aB (aC .i64)) aY x0.aH.To,.rd false (aB (aC .i64)) aS x0.aH.aJ,.rd false (aB (aB (aC .i64))) aQ x0.aH.aD,.rd false (aB (aC .i64)) bC x0.aA,.rd false (aB (aC .i64)) bF x0.ab] (fun y (_:Unit)=>[.bool y]) (fun y _=>[]):=by
 refine ct (S:=Unit) (ca fun _ _=>rfl) Tryz.func38 rfl rfl ?_
 repeat' first
  | ((first | show Dk.ER _ _ _ | show Dk.ba _ _ | show Dk.EF _ _ _ | show Dk.EO _ _ _ | show Dk.EP _ _ | show Dk.aX _ _ _ _ | show Dk.aq _ _ _ _ | show Dk.Kp _ _ _ _ | show Dk.bn _ _ | show Dk.bb _ _ _ _); repeat' first | exact rfl | (refine @id.{0} _ ?_; constructor))
  | intro _
  | exact rfl
  | (refine Dk.ue (t:=136) rfl ?_ ?_)
  | (refine @id.{0} _ ?_; constructor)
  | apply Dk.loop 0 (V:=Unit) (fun (s:Int) v=>[]) (fun s v=>[(5,.int .i64 (s))]) () [(1,_),(3,_),(4,_)]
  | apply Dk.loop 2 (V:=Unit) (fun (s:Int) v=>[]) (fun s v=>[(6,.int .i64 (s))]) () [(1,_),(3,_),(4,_)]
  | apply Dk.loop 4 (V:=Unit) (fun (s:Int) v=>[]) (fun s v=>[(7,.int .i64 (s))]) () [(1,_),(3,_),(4,_)]
  | apply Dk.loop 6 (V:=Unit) (fun (s:Int) v=>[]) (fun s v=>[(8,.int .i64 (s))]) () [(1,_),(3,_),(4,_),(7,_)]
  | apply Dk.quiet (id:=9) (by kernel_rfl)
  | apply Dk.quiet (id:=14) (by kernel_rfl)
  | apply Dk.quiet (id:=22) (by kernel_rfl)
  | apply Dk.any (id:=1) 7 [] [[],[],[],[],[],[],[4]] [[],[0],[],[2],[],[],[4,1,0,0,1,0,4,5]] (by kernel_rfl)
  | apply c67
  | apply WQ
  | exact ()
theorem c87 {x0:aM} {aU:Value} {aW:Value} {aR:Value} {aP:Value} {aV:Value} {aY:Value} {aS:Value} {aQ:Value} {bC:Value} {bF:Value} {x1:aM} {bT:Value} {bZ:Value} {bI:Value} {bG:Value} {bU:Value} {cA:Value} {bJ:Value} {bH:Value} {cJ:Value} {cM:Value}:Ct Tryz.prog 87 true (pC x0 x1) [.agg #[.int .i64 (x0.aE.aA),aU,aW,aR,aP,.int .i64 (x0.aH.aA),aV,aY,aS,aQ,bC,bF],.agg #[.int .i64 (x1.aE.aA),bT,bZ,bI,bG,.int .i64 (x1.aH.aA),bU,cA,bJ,bH,cJ,cM]] [.rd false (aB (aC .i64)) aU x0.aE.aF,.rd false (aB (aC .i64)) aW x0.aE.To,.rd false (aB (aC .i64)) aR x0.aE.aJ,.rd false (aB (aB (aC .i64))) aP x0.aE.aD,.rd false (aB (aC .i64)) aV x0.aH.aF,.rd false (aB (aC .i64)) aY x0.aH.To,.rd false (aB (aC .i64)) aS x0.aH.aJ,.rd false (aB (aB (aC .i64))) aQ x0.aH.aD,.rd false (aB (aC .i64)) bC x0.aA,.rd false (aB (aC .i64)) bF x0.ab,.rd false (aB (aC .i64)) bT x1.aE.aF,.rd false (aB (aC .i64)) bZ x1.aE.To,.rd false (aB (aC .i64)) bI x1.aE.aJ,.rd false (aB (aB (aC .i64))) bG x1.aE.aD,.rd false (aB (aC .i64)) bU x1.aH.aF,.rd false (aB (aC .i64)) cA x1.aH.To,.rd false (aB (aC .i64)) bJ x1.aH.aJ,.rd false (aB (aB (aC .i64))) bH x1.aH.aD,.rd false (aB (aC .i64)) cJ x1.aA,.rd false (aB (aC .i64)) cM x1.ab] (fun y (v:Value×Value×Value×Value×Value×Value×Value×Value×Value×Value)=>[.agg #[.int .i64 y.aE.aA,v.1,v.2.1,v.2.2.1,v.2.2.2.1,.int .i64 y.aH.aA,v.2.2.2.2.1,v.2.2.2.2.2.1,v.2.2.2.2.2.2.1,v.2.2.2.2.2.2.2.1,v.2.2.2.2.2.2.2.2.1,v.2.2.2.2.2.2.2.2.2]]) (fun y v=>[.own (aL 2 (aC .i64)) v.1 y.aE.aF,.own (aL 2 (aC .i64)) v.2.1 y.aE.To,.own (aL 2 (aC .i64)) v.2.2.1 y.aE.aJ,.own (aL 24 (aL 2 (aC .i64))) v.2.2.2.1 y.aE.aD,.own (aL 2 (aC .i64)) v.2.2.2.2.1 y.aH.aF,.own (aL 2 (aC .i64)) v.2.2.2.2.2.1 y.aH.To,.own (aL 2 (aC .i64)) v.2.2.2.2.2.2.1 y.aH.aJ,.own (aL 24 (aL 2 (aC .i64))) v.2.2.2.2.2.2.2.1 y.aH.aD,.own (aL 2 (aC .i64)) v.2.2.2.2.2.2.2.2.1 y.aA,.own (aL 2 (aC .i64)) v.2.2.2.2.2.2.2.2.2 y.ab]):=by
 refine ct (S:=Unit) (ca fun _ _=>rfl) Tryz.func87 rfl rfl ?_
 repeat' first
  | ((first | show Dk.ER _ _ _ | show Dk.ba _ _ | show Dk.EF _ _ _ | show Dk.EO _ _ _ | show Dk.EP _ _ | show Dk.aX _ _ _ _ | show Dk.aq _ _ _ _ | show Dk.Kp _ _ _ _ | show Dk.bn _ _ | show Dk.bb _ _ _ _); repeat' first | exact rfl | (refine @id.{0} _ ?_; constructor))
  | intro _
  | exact rfl
  | (refine @id.{0} _ ?_; constructor)
  | apply Dk.any (id:=1) 14 [] [] [[],[0],[],[2],[],[4],[],[6],[5,4,7,6],[],[9],[],[11],[10,9,12,11,8,5,4,7,6]] (by kernel_rfl)
  | apply WX
  | apply RP
  | exact ()
theorem c47 {x0:aM} {aU:Value} {aW:Value} {aR:Value} {aP:Value} {aV:Value} {aY:Value} {aS:Value} {aQ:Value} {bC:Value} {bF:Value} {x1:aM} {bT:Value} {bZ:Value} {bI:Value} {bG:Value} {bU:Value} {cA:Value} {bJ:Value} {bH:Value} {cJ:Value} {cM:Value}:Ct Tryz.prog 47 true (qV x0 x1) [.agg #[.int .i64 (x0.aE.aA),aU,aW,aR,aP,.int .i64 (x0.aH.aA),aV,aY,aS,aQ,bC,bF],.agg #[.int .i64 (x1.aE.aA),bT,bZ,bI,bG,.int .i64 (x1.aH.aA),bU,cA,bJ,bH,cJ,cM]] [.rd false (aB (aC .i64)) aU x0.aE.aF,.rd false (aB (aC .i64)) aW x0.aE.To,.rd false (aB (aC .i64)) aR x0.aE.aJ,.rd false (aB (aB (aC .i64))) aP x0.aE.aD,.rd false (aB (aC .i64)) aV x0.aH.aF,.rd false (aB (aC .i64)) aY x0.aH.To,.rd false (aB (aC .i64)) aS x0.aH.aJ,.rd false (aB (aB (aC .i64))) aQ x0.aH.aD,.rd false (aB (aC .i64)) bC x0.aA,.rd false (aB (aC .i64)) bF x0.ab,.rd false (aB (aC .i64)) bT x1.aE.aF,.rd false (aB (aC .i64)) bZ x1.aE.To,.rd false (aB (aC .i64)) bI x1.aE.aJ,.rd false (aB (aB (aC .i64))) bG x1.aE.aD,.rd false (aB (aC .i64)) bU x1.aH.aF,.rd false (aB (aC .i64)) cA x1.aH.To,.rd false (aB (aC .i64)) bJ x1.aH.aJ,.rd false (aB (aB (aC .i64))) bH x1.aH.aD,.rd false (aB (aC .i64)) cJ x1.aA,.rd false (aB (aC .i64)) cM x1.ab] (fun y (v:Value×Value×Value×Value×Value×Value×Value×Value×Value×Value)=>[.agg #[.int .i64 y.1.aE.aA,v.1,v.2.1,v.2.2.1,v.2.2.2.1,.int .i64 y.1.aH.aA,v.2.2.2.2.1,v.2.2.2.2.2.1,v.2.2.2.2.2.2.1,v.2.2.2.2.2.2.2.1,v.2.2.2.2.2.2.2.2.1,v.2.2.2.2.2.2.2.2.2],.int .i64 y.2]) (fun y v=>[.own (aL 2 (aC .i64)) v.1 y.1.aE.aF,.own (aL 2 (aC .i64)) v.2.1 y.1.aE.To,.own (aL 2 (aC .i64)) v.2.2.1 y.1.aE.aJ,.own (aL 24 (aL 2 (aC .i64))) v.2.2.2.1 y.1.aE.aD,.own (aL 2 (aC .i64)) v.2.2.2.2.1 y.1.aH.aF,.own (aL 2 (aC .i64)) v.2.2.2.2.2.1 y.1.aH.To,.own (aL 2 (aC .i64)) v.2.2.2.2.2.2.1 y.1.aH.aJ,.own (aL 24 (aL 2 (aC .i64))) v.2.2.2.2.2.2.2.1 y.1.aH.aD,.own (aL 2 (aC .i64)) v.2.2.2.2.2.2.2.2.1 y.1.aA,.own (aL 2 (aC .i64)) v.2.2.2.2.2.2.2.2.2 y.1.ab]):=by
 refine ct (S:=Unit) (ca fun _ _=>rfl) Tryz.func47 rfl rfl ?_
 repeat' first
  | ((first | show Dk.ER _ _ _ | show Dk.ba _ _ | show Dk.EF _ _ _ | show Dk.EO _ _ _ | show Dk.EP _ _ | show Dk.aX _ _ _ _ | show Dk.aq _ _ _ _ | show Dk.Kp _ _ _ _ | show Dk.bn _ _ | show Dk.bb _ _ _ _); repeat' first | exact rfl | (refine @id.{0} _ ?_; constructor))
  | intro _
  | exact rfl
  | (refine @id.{0} _ ?_; constructor)
  | apply ZF
  | apply c86
  | apply c87
  | exact ()
end Go.Proofs.YtgjbmjjihmfppaaGreat
