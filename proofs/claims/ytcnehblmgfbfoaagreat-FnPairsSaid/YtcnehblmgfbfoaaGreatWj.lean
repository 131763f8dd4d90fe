/- Walks by the calculus D. No condition beside those that each theorem names. -/
import Derived.Test.YtcnehblmgfbfoaaGreatDp
import Derived.Test.YtcnehblmgfbfoaaGreatDi
import Derived.Test.YtcnehblmgfbfoaaGreatMo
import Derived.Test.YtcnehblmgfbfoaaGreatDs
import Derived.Test.YtcnehblmgfbfoaaGreatWa
import Derived.Test.YtcnehblmgfbfoaaGreatWb
import Derived.Test.YtcnehblmgfbfoaaGreatWc
import Derived.Test.YtcnehblmgfbfoaaGreatWd
import Derived.Test.YtcnehblmgfbfoaaGreatWe
import Derived.Test.YtcnehblmgfbfoaaGreatWh
namespace Go.Proofs.YtcnehblmgfbfoaaGreat
open Go Go.Li Go.Dk
set_option linter.unusedVariables false
set_option maxHeartbeats 16000000
set_option maxRecDepth 100000
theorem Ul {x0:aD} {aO aR aK aJ:Value}:Ct Tryz.prog 103 true (eA x0) [.agg #[.int .i64 (x0.aA),aO,aR,aK,aJ]] [rI aO x0.aB,rI aR x0.To,rI aK x0.aF,rJ aJ x0.aC] (fun y (v:Value×Value×Value×Value×Value×Value×Value×Value×Value×Value)=>[.agg #[.int .i64 y.aG.aA,v.1,v.2.1,v.2.2.1,v.2.2.2.1,.int .i64 y.aH.aA,v.2.2.2.2.1,v.2.2.2.2.2.1,v.2.2.2.2.2.2.1,v.2.2.2.2.2.2.2.1,v.2.2.2.2.2.2.2.2.1,v.2.2.2.2.2.2.2.2.2]]) (fun y v=>[.own (aI 2 (aL .i64)) v.1 y.aG.aB,.own (aI 2 (aL .i64)) v.2.1 y.aG.To,.own (aI 2 (aL .i64)) v.2.2.1 y.aG.aF,.own (aI 22 (aI 2 (aL .i64))) v.2.2.2.1 y.aG.aC,.own (aI 2 (aL .i64)) v.2.2.2.2.1 y.aH.aB,.own (aI 2 (aL .i64)) v.2.2.2.2.2.1 y.aH.To,.own (aI 2 (aL .i64)) v.2.2.2.2.2.2.1 y.aH.aF,.own (aI 22 (aI 2 (aL .i64))) v.2.2.2.2.2.2.2.1 y.aH.aC,.own (aI 2 (aL .i64)) v.2.2.2.2.2.2.2.2.1 y.aA,.own (aI 2 (aL .i64)) v.2.2.2.2.2.2.2.2.2 y.ae]):=by
 refine ct (S:=Unit) (cf fun _ _=>rfl) Tryz.func103 rfl rfl ?_
 repeat' first
  | (apply Dk.fe; repeat' first | exact rfl | (refine @id.{0} _ ?_; constructor))
  | intro _
  | exact rfl
  | (refine @id.{0} _ ?_; constructor)
  | apply Dk.loop 0 (V:=Value) (fun (s:(List Int)×Int) v=>[.own (aI 2 (aL .i64)) v s.1]) (fun s v=>[(3,v),(5,.int .i64 (s.2))]) _ [(1,_),(2,_),(4,_)]
  | apply Dk.loop 2 (V:=Value) (fun (s:(List Int)×Int) v=>[.own (aI 2 (aL .i64)) v s.1]) (fun s v=>[(4,v),(6,.int .i64 (s.2))]) _ [(1,_),(2,_),(3,_)]
  | apply Lr
  | exact ()
theorem aaC {x0:aN} {bF bK aY aU bG bL aZ aV bQ bS:Value}:Ct Tryz.prog 168 true (lX x0) [.agg #[.int .i64 (x0.aG.aA),bF,bK,aY,aU,.int .i64 (x0.aH.aA),bG,bL,aZ,aV,bQ,bS]] [rI bF x0.aG.aB,rI bK x0.aG.To,rI aY x0.aG.aF,rJ aU x0.aG.aC,rI bG x0.aH.aB,rI bL x0.aH.To,rI aZ x0.aH.aF,rJ aV x0.aH.aC,rI bQ x0.aA,rI bS x0.ae] (fun y (_:Unit)=>[.bool y]) (fun y _=>[]):=by
 refine ct (S:=Unit) (cf fun _ _=>rfl) Tryz.func168 rfl rfl ?_
 repeat' first
  | (apply Dk.fe; repeat' first | exact rfl | (refine @id.{0} _ ?_; constructor))
  | intro _
  | exact rfl
  | (refine Dk.ry (t:=136) rfl ?_ ?_)
  | (refine @id.{0} _ ?_; constructor)
  | apply Dk.loop 0 (V:=Unit) (fun (s:Int) v=>[]) (fun s v=>[(5,.int .i64 (s))]) () [(1,_),(3,_),(4,_)]
  | apply Dk.loop 2 (V:=Unit) (fun (s:Int) v=>[]) (fun s v=>[(6,.int .i64 (s))]) () [(1,_),(3,_),(4,_)]
  | apply Dk.loop 4 (V:=Unit) (fun (s:Int) v=>[]) (fun s v=>[(7,.int .i64 (s))]) () [(1,_),(3,_),(4,_)]
  | apply Dk.loop 6 (V:=Unit) (fun (s:Int) v=>[]) (fun s v=>[(8,.int .i64 (s))]) () [(1,_),(3,_),(4,_),(7,_)]
  | apply Dk.quiet (id:=9) (by kernel_rfl)
  | apply Dk.quiet (id:=14) (by kernel_rfl)
  | apply Dk.quiet (id:=22) (by kernel_rfl)
  | apply Dk.any (id:=1) 7 [] [[],[],[],[],[],[],[4]] [[],[0],[],[2],[],[],[0,1,4,5]] (by kernel_rfl)
  | apply Ui
  | apply NS
  | exact ()
theorem WH {x0:aN} {bF bK aY aU bG bL aZ aV bQ bS:Value} {x1:aN} {bT bY bN bH bU bZ bP bI cD cE:Value}:Ct Tryz.prog 90 true (kO x0 x1) [.agg #[.int .i64 (x0.aG.aA),bF,bK,aY,aU,.int .i64 (x0.aH.aA),bG,bL,aZ,aV,bQ,bS],.agg #[.int .i64 (x1.aG.aA),bT,bY,bN,bH,.int .i64 (x1.aH.aA),bU,bZ,bP,bI,cD,cE]] [rI bF x0.aG.aB,rI bK x0.aG.To,rI aY x0.aG.aF,rJ aU x0.aG.aC,rI bG x0.aH.aB,rI bL x0.aH.To,rI aZ x0.aH.aF,rJ aV x0.aH.aC,rI bQ x0.aA,rI bS x0.ae,rI bT x1.aG.aB,rI bY x1.aG.To,rI bN x1.aG.aF,rJ bH x1.aG.aC,rI bU x1.aH.aB,rI bZ x1.aH.To,rI bP x1.aH.aF,rJ bI x1.aH.aC,rI cD x1.aA,rI cE x1.ae] (fun y (_:Unit)=>[.int .i64 y]) (fun y _=>[]):=by
 refine ct (S:=Unit) (cf fun _ _=>rfl) Tryz.func90 rfl rfl ?_
 repeat' first
  | (apply Dk.fe; repeat' first | exact rfl | (refine @id.{0} _ ?_; constructor))
  | intro _
  | exact rfl
  | (refine @id.{0} _ ?_; constructor)
  | apply aaC
  | exact ()
theorem c25 {x0:aN} {bF bK aY aU bG bL aZ aV bQ bS:Value} {x1:aN} {bT bY bN bH bU bZ bP bI cD cE:Value}:Ct Tryz.prog 25 true (hJ x0 x1) [.agg #[.int .i64 (x0.aG.aA),bF,bK,aY,aU,.int .i64 (x0.aH.aA),bG,bL,aZ,aV,bQ,bS],.agg #[.int .i64 (x1.aG.aA),bT,bY,bN,bH,.int .i64 (x1.aH.aA),bU,bZ,bP,bI,cD,cE]] [rI bF x0.aG.aB,rI bK x0.aG.To,rI aY x0.aG.aF,rJ aU x0.aG.aC,rI bG x0.aH.aB,rI bL x0.aH.To,rI aZ x0.aH.aF,rJ aV x0.aH.aC,rI bQ x0.aA,rI bS x0.ae,rI bT x1.aG.aB,rI bY x1.aG.To,rI bN x1.aG.aF,rJ bH x1.aG.aC,rI bU x1.aH.aB,rI bZ x1.aH.To,rI bP x1.aH.aF,rJ bI x1.aH.aC,rI cD x1.aA,rI cE x1.ae] (fun y (v:Value×Value×Value×Value×Value×Value×Value×Value×Value×Value)=>[.agg #[.int .i64 y.1.aG.aA,v.1,v.2.1,v.2.2.1,v.2.2.2.1,.int .i64 y.1.aH.aA,v.2.2.2.2.1,v.2.2.2.2.2.1,v.2.2.2.2.2.2.1,v.2.2.2.2.2.2.2.1,v.2.2.2.2.2.2.2.2.1,v.2.2.2.2.2.2.2.2.2],.int .i64 y.2]) (fun y v=>[.own (aI 2 (aL .i64)) v.1 y.1.aG.aB,.own (aI 2 (aL .i64)) v.2.1 y.1.aG.To,.own (aI 2 (aL .i64)) v.2.2.1 y.1.aG.aF,.own (aI 22 (aI 2 (aL .i64))) v.2.2.2.1 y.1.aG.aC,.own (aI 2 (aL .i64)) v.2.2.2.2.1 y.1.aH.aB,.own (aI 2 (aL .i64)) v.2.2.2.2.2.1 y.1.aH.To,.own (aI 2 (aL .i64)) v.2.2.2.2.2.2.1 y.1.aH.aF,.own (aI 22 (aI 2 (aL .i64))) v.2.2.2.2.2.2.2.1 y.1.aH.aC,.own (aI 2 (aL .i64)) v.2.2.2.2.2.2.2.2.1 y.1.aA,.own (aI 2 (aL .i64)) v.2.2.2.2.2.2.2.2.2 y.1.ae]):=by
 refine ct (S:=Unit) (cf fun _ _=>rfl) Tryz.func25 rfl rfl ?_
 repeat' first
  | (apply Dk.fe; repeat' first | exact rfl | (refine @id.{0} _ ?_; constructor))
  | intro _
  | exact rfl
  | (refine @id.{0} _ ?_; constructor)
  | apply Dk.any (id:=9) 20 [] [] [[],[0],[],[],[3],[],[5],[],[7],[7,8],[3,4,5,6,7,8,9],[],[11],[],[13],[],[15],[15,16],[15,16,17],[3,4,5,6,7,8,9,10,11,12,13,14,15,16,17,18]] (by kernel_rfl)
  | apply WH
  | apply WG
  | apply WE
  | apply Pe
  | apply c94
  | apply Lr
  | exact ()
theorem c32 {x0:aN} {bF bK aY aU bG bL aZ aV bQ bS:Value} {x1:aN} {bT bY bN bH bU bZ bP bI cD cE:Value}:Ct Tryz.prog 32 true (gJ x0 x1) [.agg #[.int .i64 (x0.aG.aA),bF,bK,aY,aU,.int .i64 (x0.aH.aA),bG,bL,aZ,aV,bQ,bS],.agg #[.int .i64 (x1.aG.aA),bT,bY,bN,bH,.int .i64 (x1.aH.aA),bU,bZ,bP,bI,cD,cE]] [rI bF x0.aG.aB,rI bK x0.aG.To,rI aY x0.aG.aF,rJ aU x0.aG.aC,rI bG x0.aH.aB,rI bL x0.aH.To,rI aZ x0.aH.aF,rJ aV x0.aH.aC,rI bQ x0.aA,rI bS x0.ae,rI bT x1.aG.aB,rI bY x1.aG.To,rI bN x1.aG.aF,rJ bH x1.aG.aC,rI bU x1.aH.aB,rI bZ x1.aH.To,rI bP x1.aH.aF,rJ bI x1.aH.aC,rI cD x1.aA,rI cE x1.ae] (fun y (v:Value×Value×Value×Value×Value×Value×Value×Value×Value×Value)=>[.agg #[.int .i64 y.1.aG.aA,v.1,v.2.1,v.2.2.1,v.2.2.2.1,.int .i64 y.1.aH.aA,v.2.2.2.2.1,v.2.2.2.2.2.1,v.2.2.2.2.2.2.1,v.2.2.2.2.2.2.2.1,v.2.2.2.2.2.2.2.2.1,v.2.2.2.2.2.2.2.2.2],.int .i64 y.2]) (fun y v=>[.own (aI 2 (aL .i64)) v.1 y.1.aG.aB,.own (aI 2 (aL .i64)) v.2.1 y.1.aG.To,.own (aI 2 (aL .i64)) v.2.2.1 y.1.aG.aF,.own (aI 22 (aI 2 (aL .i64))) v.2.2.2.1 y.1.aG.aC,.own (aI 2 (aL .i64)) v.2.2.2.2.1 y.1.aH.aB,.own (aI 2 (aL .i64)) v.2.2.2.2.2.1 y.1.aH.To,.own (aI 2 (aL .i64)) v.2.2.2.2.2.2.1 y.1.aH.aF,.own (aI 22 (aI 2 (aL .i64))) v.2.2.2.2.2.2.2.1 y.1.aH.aC,.own (aI 2 (aL .i64)) v.2.2.2.2.2.2.2.2.1 y.1.aA,.own (aI 2 (aL .i64)) v.2.2.2.2.2.2.2.2.2 y.1.ae]):=by
 refine ct (S:=Unit) (cf fun _ _=>rfl) Tryz.func32 rfl rfl ?_
 repeat' first
  | (apply Dk.fe; repeat' first | exact rfl | (refine @id.{0} _ ?_; constructor))
  | intro _
  | exact rfl
  | apply Dk.AD.Ds (d:=39)
  | apply Dk.AD.Ds (d:=45)
  | (refine @id.{0} _ ?_; constructor)
  | apply Dk.any (id:=9) 15 [] [[],[],[],[],[],[],[],[],[5],[],[],[],[],[],[11]] [[],[],[1],[],[3],[3,4],[],[6],[3,4,5,6,7],[],[9],[3,4,6,7,8,9,10],[],[12],[3,4,6,7,8,9,10,11,12,13]] (by kernel_rfl)
  | apply WH
  | apply WG
  | apply NW
  | apply Pe
  | apply yz
  | apply Lr
  | exact ()
end Go.Proofs.YtcnehblmgfbfoaaGreat
