/- Walks by the calculus D. No condition beside those that each theorem names. -/
import Derived.Test.YtjdkifckhidlbaaGreatDp
import Derived.Test.YtjdkifckhidlbaaGreatDi
import Derived.Test.YtjdkifckhidlbaaGreatMo
import Derived.Test.YtjdkifckhidlbaaGreatDs
import Derived.Test.YtjdkifckhidlbaaGreatWa
import Derived.Test.YtjdkifckhidlbaaGreatWe
import Derived.Test.YtjdkifckhidlbaaGreatWh
import Derived.Test.YtjdkifckhidlbaaGreatWt
namespace Go.Proofs.YtjdkifckhidlbaaGreat
open Go Go.Li Go.Dk
set_option linter.unusedVariables false
set_option maxHeartbeats 16000000
set_option maxRecDepth 100000
theorem c43 {x0:aS} {bJ bP aZ aT bK bQ bA aU bW cA bG bL aW aQ bH bN aY aR bS bX cS cN:Value} {x1:aS} {eR fE dY dS eU fF dZ dT fO fZ eI eY dV dJ eJ eZ dW dK fK fP lP jV:Value}:Ct Tryz.prog 43 true (eX x0 x1) [.agg #[.int .i64 (x0.Left.aB.aA),bJ,bP,aZ,aT,.int .i64 (x0.Left.aF.aA),bK,bQ,bA,aU,bW,cA,.int .i64 (x0.ab.aB.aA),bG,bL,aW,aQ,.int .i64 (x0.ab.aF.aA),bH,bN,aY,aR,bS,bX,cS,cN],.agg #[.int .i64 (x1.Left.aB.aA),eR,fE,dY,dS,.int .i64 (x1.Left.aF.aA),eU,fF,dZ,dT,fO,fZ,.int .i64 (x1.ab.aB.aA),eI,eY,dV,dJ,.int .i64 (x1.ab.aF.aA),eJ,eZ,dW,dK,fK,fP,lP,jV]] [rI bJ x0.Left.aB.aH,rI bP x0.Left.aB.To,rI aZ x0.Left.aB.aJ,rJ aT x0.Left.aB.aE,rI bK x0.Left.aF.aH,rI bQ x0.Left.aF.To,rI bA x0.Left.aF.aJ,rJ aU x0.Left.aF.aE,rI bW x0.Left.aA,rI cA x0.Left.ae,rI bG x0.ab.aB.aH,rI bL x0.ab.aB.To,rI aW x0.ab.aB.aJ,rJ aQ x0.ab.aB.aE,rI bH x0.ab.aF.aH,rI bN x0.ab.aF.To,rI aY x0.ab.aF.aJ,rJ aR x0.ab.aF.aE,rI bS x0.ab.aA,rI bX x0.ab.ae,rI cS x0.Unit,rI cN x0.ba,rI eR x1.Left.aB.aH,rI fE x1.Left.aB.To,rI dY x1.Left.aB.aJ,rJ dS x1.Left.aB.aE,rI eU x1.Left.aF.aH,rI fF x1.Left.aF.To,rI dZ x1.Left.aF.aJ,rJ dT x1.Left.aF.aE,rI fO x1.Left.aA,rI fZ x1.Left.ae,rI eI x1.ab.aB.aH,rI eY x1.ab.aB.To,rI dV x1.ab.aB.aJ,rJ dJ x1.ab.aB.aE,rI eJ x1.ab.aF.aH,rI eZ x1.ab.aF.To,rI dW x1.ab.aF.aJ,rJ dK x1.ab.aF.aE,rI fK x1.ab.aA,rI fP x1.ab.ae,rI lP x1.Unit,rI jV x1.ba] (fun y (v:Value×Value×Value×Value×Value×Value×Value×Value×Value×Value×Value×Value×Value×Value×Value×Value×Value×Value×Value×Value×Value×Value)=>[.agg #[.int .i64 y.1.Left.aB.aA,v.1,v.2.1,v.2.2.1,v.2.2.2.1,.int .i64 y.1.Left.aF.aA,v.2.2.2.2.1,v.2.2.2.2.2.1,v.2.2.2.2.2.2.1,v.2.2.2.2.2.2.2.1,v.2.2.2.2.2.2.2.2.1,v.2.2.2.2.2.2.2.2.2.1,.int .i64 y.1.ab.aB.aA,v.2.2.2.2.2.2.2.2.2.2.1,v.2.2.2.2.2.2.2.2.2.2.2.1,v.2.2.2.2.2.2.2.2.2.2.2.2.1,v.2.2.2.2.2.2.2.2.2.2.2.2.2.1,.int .i64 y.1.ab.aF.aA,v.2.2.2.2.2.2.2.2.2.2.2.2.2.2.1,v.2.2.2.2.2.2.2.2.2.2.2.2.2.2.2.1,v.2.2.2.2.2.2.2.2.2.2.2.2.2.2.2.2.1,v.2.2.2.2.2.2.2.2.2.2.2.2.2.2.2.2.2.1,v.2.2.2.2.2.2.2.2.2.2.2.2.2.2.2.2.2.2.1,v.2.2.2.2.2.2.2.2.2.2.2.2.2.2.2.2.2.2.2.1,v.2.2.2.2.2.2.2.2.2.2.2.2.2.2.2.2.2.2.2.2.1,v.2.2.2.2.2.2.2.2.2.2.2.2.2.2.2.2.2.2.2.2.2],.int .i64 y.2]) (fun y v=>[.own (aK 2 (aM .i64)) v.1 y.1.Left.aB.aH,.own (aK 2 (aM .i64)) v.2.1 y.1.Left.aB.To,.own (aK 2 (aM .i64)) v.2.2.1 y.1.Left.aB.aJ,.own (aK 24 (aK 2 (aM .i64))) v.2.2.2.1 y.1.Left.aB.aE,.own (aK 2 (aM .i64)) v.2.2.2.2.1 y.1.Left.aF.aH,.own (aK 2 (aM .i64)) v.2.2.2.2.2.1 y.1.Left.aF.To,.own (aK 2 (aM .i64)) v.2.2.2.2.2.2.1 y.1.Left.aF.aJ,.own (aK 24 (aK 2 (aM .i64))) v.2.2.2.2.2.2.2.1 y.1.Left.aF.aE,.own (aK 2 (aM .i64)) v.2.2.2.2.2.2.2.2.1 y.1.Left.aA,.own (aK 2 (aM .i64)) v.2.2.2.2.2.2.2.2.2.1 y.1.Left.ae,.own (aK 2 (aM .i64)) v.2.2.2.2.2.2.2.2.2.2.1 y.1.ab.aB.aH,.own (aK 2 (aM .i64)) v.2.2.2.2.2.2.2.2.2.2.2.1 y.1.ab.aB.To,.own (aK 2 (aM .i64)) v.2.2.2.2.2.2.2.2.2.2.2.2.1 y.1.ab.aB.aJ,.own (aK 24 (aK 2 (aM .i64))) v.2.2.2.2.2.2.2.2.2.2.2.2.2.1 y.1.ab.aB.aE,.own (aK 2 (aM .i64)) v.2.2.2.2.2.2.2.2.2.2.2.2.2.2.1 y.1.ab.aF.aH,.own (aK 2 (aM .i64)) v.2.2.2.2.2.2.2.2.2.2.2.2.2.2.2.1 y.1.ab.aF.To,.own (aK 2 (aM .i64)) v.2.2.2.2.2.2.2.2.2.2.2.2.2.2.2.2.1 y.1.ab.aF.aJ,.own (aK 24 (aK 2 (aM .i64))) v.2.2.2.2.2.2.2.2.2.2.2.2.2.2.2.2.2.1 y.1.ab.aF.aE,.own (aK 2 (aM .i64)) v.2.2.2.2.2.2.2.2.2.2.2.2.2.2.2.2.2.2.1 y.1.ab.aA,.own (aK 2 (aM .i64)) v.2.2.2.2.2.2.2.2.2.2.2.2.2.2.2.2.2.2.2.1 y.1.ab.ae,.own (aK 2 (aM .i64)) v.2.2.2.2.2.2.2.2.2.2.2.2.2.2.2.2.2.2.2.2.1 y.1.Unit,.own (aK 2 (aM .i64)) v.2.2.2.2.2.2.2.2.2.2.2.2.2.2.2.2.2.2.2.2.2 y.1.ba]):=by
 refine ct (S:=Unit) (cf fun _ _=>rfl) Tryz.func43 rfl rfl ?_
 repeat' first
  | (apply Dk.fe; repeat' first | exact rfl | (refine @id.{0} _ ?_; constructor))
  | intro _
  | exact rfl
  | (refine @id.{0} _ ?_; constructor)
  | apply Dk.loop 0 (V:=Value) (fun (s:(List Int)×Int) v=>[.own (aK 2 (aM .i64)) v s.1]) (fun s v=>[(6,v),(8,.int .i64 (s.2))]) _ [(2,_),(3,_),(4,_),(7,_)]
  | apply Dk.loop 2 (V:=Value) (fun (s:(List Int)×Int) v=>[.own (aK 2 (aM .i64)) v s.1]) (fun s v=>[(7,v),(9,.int .i64 (s.2))]) _ [(2,_),(3,_),(4,_),(6,_)]
  | apply Dk.any (id:=9) 26 [] [] [[],[],[1],[1,2],[],[4],[],[4,5,6],[4,5,6,7],[],[9],[9,10],[],[12],[],[14],[14,15],[],[14,15,16,17],[14,15,16,17,18],[12,13,14,15,16,17,18,19],[12,13,14,15,16,17,18,19,20],[9,10,11,12,13,14,15,16,17,18,19,20,21],[9,10,11,12,13,14,15,16,17,18,19,20,21,22],[1,2,3,4,5,6,7,8,9,10,11,12,13,14,15,16,17,18,19,20,21,22,23],[1,2,3,4,5,6,7,8,9,10,11,12,13,14,15,16,17,18,19,20,21,22,23,24]] (by kernel_rfl)
  | apply Dk.any (id:=13) 26 [] [] [[],[],[1],[1,2],[],[4],[4,5],[],[7],[],[9],[9,10],[],[9,10,11,12],[9,10,11,12,13],[7,8,9,10,11,12,13,14],[7,8,9,10,11,12,13,14,15],[4,5,6,7,8,9,10,11,12,13,14,15,16],[4,5,6,7,8,9,10,11,12,13,14,15,16,17],[],[19],[],[19,20,21],[19,20,21,22],[1,2,3,4,5,6,7,8,9,10,11,12,13,14,15,16,17,18,19,20,21,22,23],[1,2,3,4,5,6,7,8,9,10,11,12,13,14,15,16,17,18,19,20,21,22,23,24]] (by kernel_rfl)
  | apply Dk.any (id:=14) 12 [] [] [[],[0],[],[2],[0,1,2,3],[],[5],[],[7],[0,1,2,3,4,5,6,7,8],[],[]] (by kernel_rfl)
  | apply RG
  | apply Yr
  | apply DX
  | apply Yp
  | exact ()
end Go.Proofs.YtjdkifckhidlbaaGreat
