/- Walks by the calculus D. No condition beside those that each theorem names. -/
import Derived.Test.YtjdkifckhidlbaaGreatDp
import Derived.Test.YtjdkifckhidlbaaGreatDi
import Derived.Test.YtjdkifckhidlbaaGreatMo
import Derived.Test.YtjdkifckhidlbaaGreatDs
import Derived.Test.YtjdkifckhidlbaaGreatWa
import Derived.Test.YtjdkifckhidlbaaGreatWe
import Derived.Test.YtjdkifckhidlbaaGreatWf
namespace Go.Proofs.YtjdkifckhidlbaaGreat
open Go Go.Li Go.Dk
set_option linter.unusedVariables false
set_option maxHeartbeats 16000000
set_option maxRecDepth 100000
theorem Yu {x0:aO} {bT cB bD bB bU cC bE bC cD cG:Value}:Ct Tryz.prog 136 true (iK x0) [.agg #[.int .i64 (x0.aB.aA),bT,cB,bD,bB,.int .i64 (x0.aF.aA),bU,cC,bE,bC,cD,cG]] [rI bT x0.aB.aH,rI cB x0.aB.To,rI bD x0.aB.aJ,rJ bB x0.aB.aE,rI bU x0.aF.aH,rI cC x0.aF.To,rI bE x0.aF.aJ,rJ bC x0.aF.aE,rI cD x0.aA,rI cG x0.ae] (fun y (v:Value×Value×Value×Value×Value×Value×Value×Value×Value×Value×Value×Value×Value×Value×Value×Value×Value×Value×Value×Value×Value×Value)=>[.agg #[.int .i64 y.1.Left.aB.aA,v.1,v.2.1,v.2.2.1,v.2.2.2.1,.int .i64 y.1.Left.aF.aA,v.2.2.2.2.1,v.2.2.2.2.2.1,v.2.2.2.2.2.2.1,v.2.2.2.2.2.2.2.1,v.2.2.2.2.2.2.2.2.1,v.2.2.2.2.2.2.2.2.2.1,.int .i64 y.1.ab.aB.aA,v.2.2.2.2.2.2.2.2.2.2.1,v.2.2.2.2.2.2.2.2.2.2.2.1,v.2.2.2.2.2.2.2.2.2.2.2.2.1,v.2.2.2.2.2.2.2.2.2.2.2.2.2.1,.int .i64 y.1.ab.aF.aA,v.2.2.2.2.2.2.2.2.2.2.2.2.2.2.1,v.2.2.2.2.2.2.2.2.2.2.2.2.2.2.2.1,v.2.2.2.2.2.2.2.2.2.2.2.2.2.2.2.2.1,v.2.2.2.2.2.2.2.2.2.2.2.2.2.2.2.2.2.1,v.2.2.2.2.2.2.2.2.2.2.2.2.2.2.2.2.2.2.1,v.2.2.2.2.2.2.2.2.2.2.2.2.2.2.2.2.2.2.2.1,v.2.2.2.2.2.2.2.2.2.2.2.2.2.2.2.2.2.2.2.2.1,v.2.2.2.2.2.2.2.2.2.2.2.2.2.2.2.2.2.2.2.2.2],.bool y.2]) (fun y v=>[.own (aK 2 (aM .i64)) v.1 y.1.Left.aB.aH,.own (aK 2 (aM .i64)) v.2.1 y.1.Left.aB.To,.own (aK 2 (aM .i64)) v.2.2.1 y.1.Left.aB.aJ,.own (aK 24 (aK 2 (aM .i64))) v.2.2.2.1 y.1.Left.aB.aE,.own (aK 2 (aM .i64)) v.2.2.2.2.1 y.1.Left.aF.aH,.own (aK 2 (aM .i64)) v.2.2.2.2.2.1 y.1.Left.aF.To,.own (aK 2 (aM .i64)) v.2.2.2.2.2.2.1 y.1.Left.aF.aJ,.own (aK 24 (aK 2 (aM .i64))) v.2.2.2.2.2.2.2.1 y.1.Left.aF.aE,.own (aK 2 (aM .i64)) v.2.2.2.2.2.2.2.2.1 y.1.Left.aA,.own (aK 2 (aM .i64)) v.2.2.2.2.2.2.2.2.2.1 y.1.Left.ae,.own (aK 2 (aM .i64)) v.2.2.2.2.2.2.2.2.2.2.1 y.1.ab.aB.aH,.own (aK 2 (aM .i64)) v.2.2.2.2.2.2.2.2.2.2.2.1 y.1.ab.aB.To,.own (aK 2 (aM .i64)) v.2.2.2.2.2.2.2.2.2.2.2.2.1 y.1.ab.aB.aJ,.own (aK 24 (aK 2 (aM .i64))) v.2.2.2.2.2.2.2.2.2.2.2.2.2.1 y.1.ab.aB.aE,.own (aK 2 (aM .i64)) v.2.2.2.2.2.2.2.2.2.2.2.2.2.2.1 y.1.ab.aF.aH,.own (aK 2 (aM .i64)) v.2.2.2.2.2.2.2.2.2.2.2.2.2.2.2.1 y.1.ab.aF.To,.own (aK 2 (aM .i64)) v.2.2.2.2.2.2.2.2.2.2.2.2.2.2.2.2.1 y.1.ab.aF.aJ,.own (aK 24 (aK 2 (aM .i64))) v.2.2.2.2.2.2.2.2.2.2.2.2.2.2.2.2.2.1 y.1.ab.aF.aE,.own (aK 2 (aM .i64)) v.2.2.2.2.2.2.2.2.2.2.2.2.2.2.2.2.2.2.1 y.1.ab.aA,.own (aK 2 (aM .i64)) v.2.2.2.2.2.2.2.2.2.2.2.2.2.2.2.2.2.2.2.1 y.1.ab.ae,.own (aK 2 (aM .i64)) v.2.2.2.2.2.2.2.2.2.2.2.2.2.2.2.2.2.2.2.2.1 y.1.Unit,.own (aK 2 (aM .i64)) v.2.2.2.2.2.2.2.2.2.2.2.2.2.2.2.2.2.2.2.2.2 y.1.ba]):=by
 refine ct (S:=Unit) (cf fun _ _=>rfl) Tryz.func136 rfl rfl ?_
 repeat' first
  | (apply Dk.fe; repeat' first | exact rfl | (refine @id.{0} _ ?_; constructor))
  | intro _
  | exact rfl
  | (refine @id.{0} _ ?_; constructor)
  | apply Dk.loop 0 (V:=Value×Value) (fun (s:(List Int)×(List Int)×Int) v=>[.own (aK 2 (aM .i64)) v.1 s.1,.own (aK 2 (aM .i64)) v.2 s.2.1]) (fun s v=>[(6,v.1),(7,v.2),(10,.int .i64 (s.2.2))]) (_,_) [(1,_),(2,_),(4,_),(5,_),(8,_),(9,_)]
  | apply Dk.loop 2 (V:=Value) (fun (s:(List Int)×Int) v=>[.own (aK 2 (aM .i64)) v s.1]) (fun s v=>[(8,v),(14,.int .i64 (s.2))]) _ [(1,_),(2,_),(4,_),(5,_),(6,_),(7,_),(9,_)]
  | apply Dk.loop 4 (V:=Value) (fun (s:(List Int)×Int) v=>[.own (aK 2 (aM .i64)) v s.1]) (fun s v=>[(9,v),(17,.int .i64 (s.2))]) _ [(1,_),(2,_),(4,_),(5,_),(6,_),(7,_),(8,_)]
  | apply Dk.quiet (id:=14) (by kernel_rfl)
  | apply Dk.any (id:=1) 7 [] [[],[],[],[],[],[],[4]] [[],[0],[],[2],[],[],[0,1,4,5]] (by kernel_rfl)
  | apply Dk.any (id:=15) 21 [0] [] [[],[],[],[],[2,3],[2,3,4],[],[],[6,7],[6,7,8],[],[],[10,11],[10,11,12],[],[],[],[15,16],[15,16,17],[],[14,15,16,17,18,19]] (by kernel_rfl)
  | apply Dk.any (id:=20) 16 [0] [] [[],[],[],[],[],[3,4],[3,4,5],[],[],[7,8],[7,8,9],[],[11],[],[11,12,13],[11,12,13,14]] (by kernel_rfl)
  | apply Dk.any (id:=21) 9 [] [] [[],[0],[],[],[],[],[0,1,2,3,4,5],[],[]] (by kernel_rfl)
  | apply afC
  | apply DX
  | apply Yg
  | apply afz
  | apply GR
  | exact ()
theorem Yv {x0:aS} {bJ bP aZ aT bK bQ bA aU bW cA bG bL aW aQ bH bN aY aR bS bX cS cN:Value}:Ct Tryz.prog 137 true (iB x0) [.agg #[.int .i64 (x0.Left.aB.aA),bJ,bP,aZ,aT,.int .i64 (x0.Left.aF.aA),bK,bQ,bA,aU,bW,cA,.int .i64 (x0.ab.aB.aA),bG,bL,aW,aQ,.int .i64 (x0.ab.aF.aA),bH,bN,aY,aR,bS,bX,cS,cN]] [rI bJ x0.Left.aB.aH,rI bP x0.Left.aB.To,rI aZ x0.Left.aB.aJ,rJ aT x0.Left.aB.aE,rI bK x0.Left.aF.aH,rI bQ x0.Left.aF.To,rI bA x0.Left.aF.aJ,rJ aU x0.Left.aF.aE,rI bW x0.Left.aA,rI cA x0.Left.ae,rI bG x0.ab.aB.aH,rI bL x0.ab.aB.To,rI aW x0.ab.aB.aJ,rJ aQ x0.ab.aB.aE,rI bH x0.ab.aF.aH,rI bN x0.ab.aF.To,rI aY x0.ab.aF.aJ,rJ aR x0.ab.aF.aE,rI bS x0.ab.aA,rI bX x0.ab.ae,rI cS x0.Unit,rI cN x0.ba] (fun y (v:Value×Value×Value×Value×Value×Value×Value×Value×Value×Value×Value×Value×Value×Value×Value×Value×Value×Value×Value×Value×Value×Value)=>[.agg #[.int .i64 y.Left.aB.aA,v.1,v.2.1,v.2.2.1,v.2.2.2.1,.int .i64 y.Left.aF.aA,v.2.2.2.2.1,v.2.2.2.2.2.1,v.2.2.2.2.2.2.1,v.2.2.2.2.2.2.2.1,v.2.2.2.2.2.2.2.2.1,v.2.2.2.2.2.2.2.2.2.1,.int .i64 y.ab.aB.aA,v.2.2.2.2.2.2.2.2.2.2.1,v.2.2.2.2.2.2.2.2.2.2.2.1,v.2.2.2.2.2.2.2.2.2.2.2.2.1,v.2.2.2.2.2.2.2.2.2.2.2.2.2.1,.int .i64 y.ab.aF.aA,v.2.2.2.2.2.2.2.2.2.2.2.2.2.2.1,v.2.2.2.2.2.2.2.2.2.2.2.2.2.2.2.1,v.2.2.2.2.2.2.2.2.2.2.2.2.2.2.2.2.1,v.2.2.2.2.2.2.2.2.2.2.2.2.2.2.2.2.2.1,v.2.2.2.2.2.2.2.2.2.2.2.2.2.2.2.2.2.2.1,v.2.2.2.2.2.2.2.2.2.2.2.2.2.2.2.2.2.2.2.1,v.2.2.2.2.2.2.2.2.2.2.2.2.2.2.2.2.2.2.2.2.1,v.2.2.2.2.2.2.2.2.2.2.2.2.2.2.2.2.2.2.2.2.2]]) (fun y v=>[.own (aK 2 (aM .i64)) v.1 y.Left.aB.aH,.own (aK 2 (aM .i64)) v.2.1 y.Left.aB.To,.own (aK 2 (aM .i64)) v.2.2.1 y.Left.aB.aJ,.own (aK 24 (aK 2 (aM .i64))) v.2.2.2.1 y.Left.aB.aE,.own (aK 2 (aM .i64)) v.2.2.2.2.1 y.Left.aF.aH,.own (aK 2 (aM .i64)) v.2.2.2.2.2.1 y.Left.aF.To,.own (aK 2 (aM .i64)) v.2.2.2.2.2.2.1 y.Left.aF.aJ,.own (aK 24 (aK 2 (aM .i64))) v.2.2.2.2.2.2.2.1 y.Left.aF.aE,.own (aK 2 (aM .i64)) v.2.2.2.2.2.2.2.2.1 y.Left.aA,.own (aK 2 (aM .i64)) v.2.2.2.2.2.2.2.2.2.1 y.Left.ae,.own (aK 2 (aM .i64)) v.2.2.2.2.2.2.2.2.2.2.1 y.ab.aB.aH,.own (aK 2 (aM .i64)) v.2.2.2.2.2.2.2.2.2.2.2.1 y.ab.aB.To,.own (aK 2 (aM .i64)) v.2.2.2.2.2.2.2.2.2.2.2.2.1 y.ab.aB.aJ,.own (aK 24 (aK 2 (aM .i64))) v.2.2.2.2.2.2.2.2.2.2.2.2.2.1 y.ab.aB.aE,.own (aK 2 (aM .i64)) v.2.2.2.2.2.2.2.2.2.2.2.2.2.2.1 y.ab.aF.aH,.own (aK 2 (aM .i64)) v.2.2.2.2.2.2.2.2.2.2.2.2.2.2.2.1 y.ab.aF.To,.own (aK 2 (aM .i64)) v.2.2.2.2.2.2.2.2.2.2.2.2.2.2.2.2.1 y.ab.aF.aJ,.own (aK 24 (aK 2 (aM .i64))) v.2.2.2.2.2.2.2.2.2.2.2.2.2.2.2.2.2.1 y.ab.aF.aE,.own (aK 2 (aM .i64)) v.2.2.2.2.2.2.2.2.2.2.2.2.2.2.2.2.2.2.1 y.ab.aA,.own (aK 2 (aM .i64)) v.2.2.2.2.2.2.2.2.2.2.2.2.2.2.2.2.2.2.2.1 y.ab.ae,.own (aK 2 (aM .i64)) v.2.2.2.2.2.2.2.2.2.2.2.2.2.2.2.2.2.2.2.2.1 y.Unit,.own (aK 2 (aM .i64)) v.2.2.2.2.2.2.2.2.2.2.2.2.2.2.2.2.2.2.2.2.2 y.ba]):=by
 refine ct (S:=Unit) (cf fun _ _=>rfl) Tryz.func137 rfl rfl ?_
 repeat' first
  | (apply Dk.fe; repeat' first | exact rfl | (refine @id.{0} _ ?_; constructor))
  | intro _
  | exact rfl
  | (refine @id.{0} _ ?_; constructor)
  | apply Dk.any (id:=1) 11 [] [] [[],[0],[0,1],[],[3],[0,1,2,3,4],[],[6],[0,1,2,3,4,5,6,7],[],[9]] (by kernel_rfl)
  | apply Yo
  | apply zJ
  | exact ()
end Go.Proofs.YtjdkifckhidlbaaGreat
