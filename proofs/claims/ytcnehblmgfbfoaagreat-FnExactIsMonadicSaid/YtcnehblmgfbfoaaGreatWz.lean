/- Walks by the calculus D. No condition beside those that each theorem names. -/
import Derived.Test.YtcnehblmgfbfoaaGreatDp
import Derived.Test.YtcnehblmgfbfoaaGreatDi
import Derived.Test.YtcnehblmgfbfoaaGreatMo
import Derived.Test.YtcnehblmgfbfoaaGreatDs
import Derived.Test.YtcnehblmgfbfoaaGreatWb
import Derived.Test.YtcnehblmgfbfoaaGreatWe
import Derived.Test.YtcnehblmgfbfoaaGreatWg
import Derived.Test.YtcnehblmgfbfoaaGreatWh
namespace Go.Proofs.YtcnehblmgfbfoaaGreat
open Go Go.Li Go.Dk
set_option linter.unusedVariables false
set_option maxHeartbeats 16000000
set_option maxRecDepth 100000
theorem ZX {x0:bI} {bL bS bE aZ bM bT bF bA bZ cE bJ bP bC aU bK bQ bD aV bV cA cG cT:Value}:Ct Tryz.prog 149 true (pI x0) [.agg #[.int .i64 (x0.Left.aA.aE),bL,bS,bE,aZ,.int .i64 (x0.Left.aF.aE),bM,bT,bF,bA,bZ,cE,.int .i64 (x0.ae.aA.aE),bJ,bP,bC,aU,.int .i64 (x0.ae.aF.aE),bK,bQ,bD,aV,bV,cA,cG,cT]] [rI bL x0.Left.aA.aH,rI bS x0.Left.aA.To,rI bE x0.Left.aA.aI,rJ aZ x0.Left.aA.aG,rI bM x0.Left.aF.aH,rI bT x0.Left.aF.To,rI bF x0.Left.aF.aI,rJ bA x0.Left.aF.aG,rI bZ x0.Left.aE,rI cE x0.Left.ab,rI bJ x0.ae.aA.aH,rI bP x0.ae.aA.To,rI bC x0.ae.aA.aI,rJ aU x0.ae.aA.aG,rI bK x0.ae.aF.aH,rI bQ x0.ae.aF.To,rI bD x0.ae.aF.aI,rJ aV x0.ae.aF.aG,rI bV x0.ae.aE,rI cA x0.ae.ab,rI cG x0.Unit,rI cT x0.aw] (fun y (_:Unit)=>[.bool y]) (fun y _=>[]):=by
 refine ct (S:=Unit) (bn fun _ _=>rfl) Tryz.func149 rfl rfl ?_
 repeat' first
  | (apply Dk.fe; repeat' first | exact rfl | (refine @id.{0} _ ?_; constructor))
  | intro _
  | exact rfl
  | (refine @id.{0} _ ?_; constructor)
  | apply Dk.loop 0 (V:=Unit) (fun (s:Int) v=>[]) (fun s v=>[(7,.int .i64 (s))]) () [(1,_),(3,_),(4,_),(5,_),(6,_)]
  | apply Dk.loop 2 (V:=Unit) (fun (s:Int) v=>[]) (fun s v=>[(8,.int .i64 (s))]) () [(1,_),(4,_),(5,_),(6,_)]
  | apply Dk.quiet (id:=10) (by kernel_rfl)
  | apply Dk.quiet (id:=15) (by kernel_rfl)
  | apply Dk.any (id:=1) 7 [] [[],[],[],[],[],[],[4]] [[],[0],[],[2],[],[],[0,1,4,5]] (by kernel_rfl)
  | apply Dk.any (id:=4) 7 [] [[],[],[],[],[],[],[4]] [[],[0],[],[2],[],[],[0,1,4,5]] (by kernel_rfl)
  | apply Dk.QY (id:=5) 9 40 [[],[],[],[],[],[],[],[],[],[],[],[],[],[],[],[],[],[],[],[]] [[],[0],[],[],[0,1,2,3],[],[5],[0,1,2,3,4,5,6],[0,1,2,3,4,5,6,7],[0,1,2,3,4,5,6,7,8],[0,1,2,3,4,5,6,7,8,9],[0,1,2,3,4,5,6,7,8,9],[0,1,2,3,4,5,6,7,8,9,10,11],[0,1,2,3,4,5,6,7,8,9],[0,1,2,3,4,5,6,7,8,9,10,11,12,13],[0,1,2,3,4,5,6,7,8,9],[0,1,2,3,4,5,6,7,8,9,15],[0,1,2,3,4,5,6,7,8,9,10,11,12,13,14,15,16],[0,1,2,3,4,5,6,7,8,9,10,11,12,13,14,15,16,17],[0,1,2,3,4,5,6,7,8,9,10,11,12,13,14,15,16,17,18]] (by kernel_rfl)
  | apply Tg
  | apply ZR
  | apply Tv
  | apply MZ
  | apply Td
  | apply Fa
  | apply Im
  | exact ()
end Go.Proofs.YtcnehblmgfbfoaaGreat
