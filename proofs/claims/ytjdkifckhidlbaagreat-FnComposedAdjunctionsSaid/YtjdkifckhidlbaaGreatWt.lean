/- Walks by the calculus D. No condition beside those that each theorem names. -/
import Derived.Test.YtjdkifckhidlbaaGreatDp
import Derived.Test.YtjdkifckhidlbaaGreatDi
import Derived.Test.YtjdkifckhidlbaaGreatMo
import Derived.Test.YtjdkifckhidlbaaGreatDs
import Derived.Test.YtjdkifckhidlbaaGreatWa
import Derived.Test.YtjdkifckhidlbaaGreatWc
import Derived.Test.YtjdkifckhidlbaaGreatWe
import Derived.Test.YtjdkifckhidlbaaGreatWg
import Derived.Test.YtjdkifckhidlbaaGreatWh
namespace Go.Proofs.YtjdkifckhidlbaaGreat
open Go Go.Li Go.Dk
set_option linter.unusedVariables false
set_option maxHeartbeats 16000000
set_option maxRecDepth 100000
theorem RG {x0:aS} {bJ bP aZ aT bK bQ bA aU bW cA bG bL aW aQ bH bN aY aR bS bX cS cN:Value}:Ct Tryz.prog 106 true (lT x0) [.agg #[.int .i64 (x0.Left.aB.aA),bJ,bP,aZ,aT,.int .i64 (x0.Left.aF.aA),bK,bQ,bA,aU,bW,cA,.int .i64 (x0.ab.aB.aA),bG,bL,aW,aQ,.int .i64 (x0.ab.aF.aA),bH,bN,aY,aR,bS,bX,cS,cN]] [rI bJ x0.Left.aB.aH,rI bP x0.Left.aB.To,rI aZ x0.Left.aB.aJ,rJ aT x0.Left.aB.aE,rI bK x0.Left.aF.aH,rI bQ x0.Left.aF.To,rI bA x0.Left.aF.aJ,rJ aU x0.Left.aF.aE,rI bW x0.Left.aA,rI cA x0.Left.ae,rI bG x0.ab.aB.aH,rI bL x0.ab.aB.To,rI aW x0.ab.aB.aJ,rJ aQ x0.ab.aB.aE,rI bH x0.ab.aF.aH,rI bN x0.ab.aF.To,rI aY x0.ab.aF.aJ,rJ aR x0.ab.aF.aE,rI bS x0.ab.aA,rI bX x0.ab.ae,rI cS x0.Unit,rI cN x0.ba] (fun y (_:Unit)=>[.bool y]) (fun y _=>[]):=by
 refine ct (S:=Unit) (cf fun _ _=>rfl) Tryz.func106 rfl rfl ?_
 repeat' first
  | (apply Dk.fe; repeat' first | exact rfl | (refine @id.{0} _ ?_; constructor))
  | intro _
  | exact rfl
  | (refine @id.{0} _ ?_; constructor)
  | apply Dk.loop 0 (V:=Unit) (fun (s:Int) v=>[]) (fun s v=>[(7,.int .i64 (s))]) () [(1,_),(3,_),(4,_),(5,_),(6,_)]
  | apply Dk.loop 2 (V:=Unit) (fun (s:Int) v=>[]) (fun s v=>[(8,.int .i64 (s))]) () [(1,_),(4,_),(5,_),(6,_)]
  | apply Dk.quiet (id:=10) (by kernel_rfl)
  | apply Dk.quiet (id:=15) (by kernel_rfl)
  | apply Dk.any (id:=1) 7 [] [[],[],[],[],[],[],[4]] [[],[0],[],[2],[],[],[0,1,4,5]] (by kernel_rfl)
  | apply Dk.any (id:=4) 7 [] [[],[],[],[],[],[],[4]] [[],[0],[],[2],[],[],[0,1,4,5]] (by kernel_rfl)
  | apply Dk.ab6 (id:=5) 9 40 [[],[],[],[],[],[],[],[],[],[],[],[],[],[],[],[],[],[],[],[]] [[],[0],[],[],[0,1,2,3],[],[5],[0,1,2,3,4,5,6],[0,1,2,3,4,5,6,7],[0,1,2,3,4,5,6,7,8],[0,1,2,3,4,5,6,7,8,9],[0,1,2,3,4,5,6,7,8,9],[0,1,2,3,4,5,6,7,8,9,10,11],[0,1,2,3,4,5,6,7,8,9],[0,1,2,3,4,5,6,7,8,9,10,11,12,13],[0,1,2,3,4,5,6,7,8,9],[0,1,2,3,4,5,6,7,8,9,15],[0,1,2,3,4,5,6,7,8,9,10,11,12,13,14,15,16],[0,1,2,3,4,5,6,7,8,9,10,11,12,13,14,15,16,17],[0,1,2,3,4,5,6,7,8,9,10,11,12,13,14,15,16,17,18]] (by kernel_rfl)
  | apply afJ
  | apply afQ
  | apply Ti
  | apply Yp
  | apply ae6
  | apply DX
  | apply Yi
  | exact ()
end Go.Proofs.YtjdkifckhidlbaaGreat
