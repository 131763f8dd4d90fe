/- Walks by the calculus D. No condition beside those that each theorem names. -/
import Derived.Test.YtcnehblmgfbfoaaGreatDp
import Derived.Test.YtcnehblmgfbfoaaGreatDi
import Derived.Test.YtcnehblmgfbfoaaGreatMo
import Derived.Test.YtcnehblmgfbfoaaGreatDs
import Derived.Test.YtcnehblmgfbfoaaGreatWb
import Derived.Test.YtcnehblmgfbfoaaGreatWd
import Derived.Test.YtcnehblmgfbfoaaGreatWe
import Derived.Test.YtcnehblmgfbfoaaGreatWf
import Derived.Test.YtcnehblmgfbfoaaGreatWg
import Derived.Test.YtcnehblmgfbfoaaGreatWh
namespace Go.Proofs.YtcnehblmgfbfoaaGreat
open Go Go.Li Go.Dk
set_option linter.unusedVariables false
set_option maxHeartbeats 16000000
set_option maxRecDepth 100000
theorem Yg {x0:aS} {bI bP bF bC bJ bQ bG bD bU bV:Value}:Ct Tryz.prog 168 true (nU x0) [.agg #[.int .i64 (x0.aB.aD),bI,bP,bF,bC,.int .i64 (x0.aE.aD),bJ,bQ,bG,bD,bU,bV]] [rI bI x0.aB.aF,rI bP x0.aB.To,rI bF x0.aB.aG,rJ bC x0.aB.aC,rI bJ x0.aE.aF,rI bQ x0.aE.To,rI bG x0.aE.aG,rJ bD x0.aE.aC,rI bU x0.aD,rI bV x0.ab] (fun y (_:Unit)=>[.bool y]) (fun y _=>[]):=by
 refine ct (S:=Unit) (bp fun _ _=>rfl) Tryz.func168 rfl rfl ?_
 repeat' first
  | (apply Dk.fe; repeat' first | exact rfl | (refine @id.{0} _ ?_; constructor))
  | intro _
  | exact rfl
  | (refine Dk.zv (t:=136) rfl ?_ ?_)
  | (refine @id.{0} _ ?_; constructor)
  | apply Dk.loop 0 (V:=Unit) (fun (s:Int) v=>[]) (fun s v=>[(5,.int .i64 (s))]) () [(1,_),(3,_),(4,_)]
  | apply Dk.loop 2 (V:=Unit) (fun (s:Int) v=>[]) (fun s v=>[(6,.int .i64 (s))]) () [(1,_),(3,_),(4,_)]
  | apply Dk.loop 4 (V:=Unit) (fun (s:Int) v=>[]) (fun s v=>[(7,.int .i64 (s))]) () [(1,_),(3,_),(4,_)]
  | apply Dk.loop 6 (V:=Unit) (fun (s:Int) v=>[]) (fun s v=>[(8,.int .i64 (s))]) () [(1,_),(3,_),(4,_),(7,_)]
  | apply Dk.quiet (id:=9) (by kernel_rfl)
  | apply Dk.quiet (id:=14) (by kernel_rfl)
  | apply Dk.quiet (id:=22) (by kernel_rfl)
  | apply Dk.any (id:=1) 7 [] [[],[],[],[],[],[],[4]] [[],[0],[],[2],[],[],[0,1,4,5]] (by kernel_rfl)
  | apply Yb
  | apply G9
  | exact ()
theorem Yh {x0:aH} {bH bR aW aT:Value}:Ct Tryz.prog 103 true (kW x0) [.agg #[.int .i64 (x0.aD),bH,bR,aW,aT]] [rI bH x0.aF,rI bR x0.To,rI aW x0.aG,rJ aT x0.aC] (fun y (v:Value×Value×Value×Value×Value×Value×Value×Value×Value×Value)=>[.agg #[.int .i64 y.aB.aD,v.1,v.2.1,v.2.2.1,v.2.2.2.1,.int .i64 y.aE.aD,v.2.2.2.2.1,v.2.2.2.2.2.1,v.2.2.2.2.2.2.1,v.2.2.2.2.2.2.2.1,v.2.2.2.2.2.2.2.2.1,v.2.2.2.2.2.2.2.2.2]]) (fun y v=>[.own (aI 2 (aJ .i64)) v.1 y.aB.aF,.own (aI 2 (aJ .i64)) v.2.1 y.aB.To,.own (aI 2 (aJ .i64)) v.2.2.1 y.aB.aG,.own (aI 22 (aI 2 (aJ .i64))) v.2.2.2.1 y.aB.aC,.own (aI 2 (aJ .i64)) v.2.2.2.2.1 y.aE.aF,.own (aI 2 (aJ .i64)) v.2.2.2.2.2.1 y.aE.To,.own (aI 2 (aJ .i64)) v.2.2.2.2.2.2.1 y.aE.aG,.own (aI 22 (aI 2 (aJ .i64))) v.2.2.2.2.2.2.2.1 y.aE.aC,.own (aI 2 (aJ .i64)) v.2.2.2.2.2.2.2.2.1 y.aD,.own (aI 2 (aJ .i64)) v.2.2.2.2.2.2.2.2.2 y.ab]):=by
 refine ct (S:=Unit) (bp fun _ _=>rfl) Tryz.func103 rfl rfl ?_
 repeat' first
  | (apply Dk.fe; repeat' first | exact rfl | (refine @id.{0} _ ?_; constructor))
  | intro _
  | exact rfl
  | (refine @id.{0} _ ?_; constructor)
  | apply Dk.loop 0 (V:=Value) (fun (s:(List Int)×Int) v=>[.own (aI 2 (aJ .i64)) v s.1]) (fun s v=>[(3,v),(5,.int .i64 (s.2))]) _ [(1,_),(2,_),(4,_)]
  | apply Dk.loop 2 (V:=Value) (fun (s:(List Int)×Int) v=>[.own (aI 2 (aJ .i64)) v s.1]) (fun s v=>[(4,v),(6,.int .i64 (s.2))]) _ [(1,_),(2,_),(3,_)]
  | apply RV
  | exact ()
theorem Yi {x0:aS} {bI bP bF bC bJ bQ bG bD bU bV:Value} {x1:aS} {cF cP cB bY cG cQ cC bZ cY dE:Value}:Ct Tryz.prog 235 true (mT x0 x1) [.agg #[.int .i64 (x0.aB.aD),bI,bP,bF,bC,.int .i64 (x0.aE.aD),bJ,bQ,bG,bD,bU,bV],.agg #[.int .i64 (x1.aB.aD),cF,cP,cB,bY,.int .i64 (x1.aE.aD),cG,cQ,cC,bZ,cY,dE]] [rI bI x0.aB.aF,rI bP x0.aB.To,rI bF x0.aB.aG,rJ bC x0.aB.aC,rI bJ x0.aE.aF,rI bQ x0.aE.To,rI bG x0.aE.aG,rJ bD x0.aE.aC,rI bU x0.aD,rI bV x0.ab,rI cF x1.aB.aF,rI cP x1.aB.To,rI cB x1.aB.aG,rJ bY x1.aB.aC,rI cG x1.aE.aF,rI cQ x1.aE.To,rI cC x1.aE.aG,rJ bZ x1.aE.aC,rI cY x1.aD,rI dE x1.ab] (fun y (v:Value×Value×Value×Value×Value×Value×Value×Value×Value×Value)=>[.agg #[.int .i64 y.aB.aD,v.1,v.2.1,v.2.2.1,v.2.2.2.1,.int .i64 y.aE.aD,v.2.2.2.2.1,v.2.2.2.2.2.1,v.2.2.2.2.2.2.1,v.2.2.2.2.2.2.2.1,v.2.2.2.2.2.2.2.2.1,v.2.2.2.2.2.2.2.2.2]]) (fun y v=>[.own (aI 2 (aJ .i64)) v.1 y.aB.aF,.own (aI 2 (aJ .i64)) v.2.1 y.aB.To,.own (aI 2 (aJ .i64)) v.2.2.1 y.aB.aG,.own (aI 22 (aI 2 (aJ .i64))) v.2.2.2.1 y.aB.aC,.own (aI 2 (aJ .i64)) v.2.2.2.2.1 y.aE.aF,.own (aI 2 (aJ .i64)) v.2.2.2.2.2.1 y.aE.To,.own (aI 2 (aJ .i64)) v.2.2.2.2.2.2.1 y.aE.aG,.own (aI 22 (aI 2 (aJ .i64))) v.2.2.2.2.2.2.2.1 y.aE.aC,.own (aI 2 (aJ .i64)) v.2.2.2.2.2.2.2.2.1 y.aD,.own (aI 2 (aJ .i64)) v.2.2.2.2.2.2.2.2.2 y.ab]):=by
 refine ct (S:=Unit) (bp fun _ _=>rfl) Tryz.func235 rfl rfl ?_
 repeat' first
  | (apply Dk.fe; repeat' first | exact rfl | (refine @id.{0} _ ?_; constructor))
  | intro _
  | exact rfl
  | (refine @id.{0} _ ?_; constructor)
  | apply Dk.any (id:=1) 14 [] [] [[],[0],[],[2],[],[4],[],[6],[4,5,6,7],[],[9],[],[11],[4,5,6,7,8,9,10,11,12]] (by kernel_rfl)
  | apply XG
  | apply RV
  | exact ()
theorem Yj {x0:aS} {bI bP bF bC bJ bQ bG bD bU bV:Value}:Ct Tryz.prog 219 true (mE x0) [.agg #[.int .i64 (x0.aB.aD),bI,bP,bF,bC,.int .i64 (x0.aE.aD),bJ,bQ,bG,bD,bU,bV]] [rI bI x0.aB.aF,rI bP x0.aB.To,rI bF x0.aB.aG,rJ bC x0.aB.aC,rI bJ x0.aE.aF,rI bQ x0.aE.To,rI bG x0.aE.aG,rJ bD x0.aE.aC,rI bU x0.aD,rI bV x0.ab] (fun y (v:Value×Value×Value×Value×Value×Value×Value×Value×Value×Value)=>[.agg #[.int .i64 y.aB.aD,v.1,v.2.1,v.2.2.1,v.2.2.2.1,.int .i64 y.aE.aD,v.2.2.2.2.1,v.2.2.2.2.2.1,v.2.2.2.2.2.2.1,v.2.2.2.2.2.2.2.1,v.2.2.2.2.2.2.2.2.1,v.2.2.2.2.2.2.2.2.2]]) (fun y v=>[.own (aI 2 (aJ .i64)) v.1 y.aB.aF,.own (aI 2 (aJ .i64)) v.2.1 y.aB.To,.own (aI 2 (aJ .i64)) v.2.2.1 y.aB.aG,.own (aI 22 (aI 2 (aJ .i64))) v.2.2.2.1 y.aB.aC,.own (aI 2 (aJ .i64)) v.2.2.2.2.1 y.aE.aF,.own (aI 2 (aJ .i64)) v.2.2.2.2.2.1 y.aE.To,.own (aI 2 (aJ .i64)) v.2.2.2.2.2.2.1 y.aE.aG,.own (aI 22 (aI 2 (aJ .i64))) v.2.2.2.2.2.2.2.1 y.aE.aC,.own (aI 2 (aJ .i64)) v.2.2.2.2.2.2.2.2.1 y.aD,.own (aI 2 (aJ .i64)) v.2.2.2.2.2.2.2.2.2 y.ab]):=by
 refine ct (S:=Unit) (bp fun _ _=>rfl) Tryz.func219 rfl rfl ?_
 repeat' first
  | (apply Dk.fe; repeat' first | exact rfl | (refine @id.{0} _ ?_; constructor))
  | intro _
  | exact rfl
  | (refine @id.{0} _ ?_; constructor)
  | apply Yi
  | exact ()
theorem Sh {x0:bB} {aQ aU aO aL aR aV aP aN aZ bA bM bN:Value}:Ct Tryz.prog 134 true (mW x0) [.agg #[.int .i64 (x0.On.aB.aD),aQ,aU,aO,aL,.int .i64 (x0.On.aE.aD),aR,aV,aP,aN,aZ,bA,bM,bN]] [rI aQ x0.On.aB.aF,rI aU x0.On.aB.To,rI aO x0.On.aB.aG,rJ aL x0.On.aB.aC,rI aR x0.On.aE.aF,rI aV x0.On.aE.To,rI aP x0.On.aE.aG,rJ aN x0.On.aE.aC,rI aZ x0.On.aD,rI bA x0.On.ab,rI bM x0.Unit,rI bN x0.ba] (fun y (_:Unit)=>[.bool y]) (fun y _=>[]):=by
 refine ct (S:=Unit) (bp fun _ _=>rfl) Tryz.func134 rfl rfl ?_
 repeat' first
  | (apply Dk.fe; repeat' first | exact rfl | (refine @id.{0} _ ?_; constructor))
  | intro _
  | exact rfl
  | (refine @id.{0} _ ?_; constructor)
  | apply Dk.Vf (id:=4) 8 25 [[],[],[],[],[],[],[],[],[],[],[],[],[],[],[],[],[]] [[],[0],[0,1],[],[],[4],[0,1,2,3,4,5],[0,1,2,3,4,5,6],[0,1,2,3,4,5,6,7],[0,1,2,3,4,5,6,7,8],[0,1,2,3,4,5,6,7,8,9],[0,1,2,3,4,5,6,7,8],[0,1,2,3,4,5,6,7,8],[0,1,2,3,4,5,6,7,8,12],[0,1,2,3,4,5,6,7,8,9,10,11,12,13],[0,1,2,3,4,5,6,7,8,9,10,11,12,13,14],[0,1,2,3,4,5,6,7,8,9,10,11,12,13,14,15]] (by kernel_rfl)
  | apply Yg
  | apply c91
  | apply Yh
  | apply XF
  | apply Yj
  | apply XH
  | exact ()
theorem c55 {x0:bB} {aQ aU aO aL aR aV aP aN aZ bA bM bN:Value}:Ct Tryz.prog 55 true (jR x0) [.agg #[.int .i64 (x0.On.aB.aD),aQ,aU,aO,aL,.int .i64 (x0.On.aE.aD),aR,aV,aP,aN,aZ,bA,bM,bN]] [rI aQ x0.On.aB.aF,rI aU x0.On.aB.To,rI aO x0.On.aB.aG,rJ aL x0.On.aB.aC,rI aR x0.On.aE.aF,rI aV x0.On.aE.To,rI aP x0.On.aE.aG,rJ aN x0.On.aE.aC,rI aZ x0.On.aD,rI bA x0.On.ab,rI bM x0.Unit,rI bN x0.ba] (fun y (v:Value×Value×Value×Value×Value×Value)=>[.agg #[.int .i64 y.1.aD,v.1,v.2.1,v.2.2.1,v.2.2.2.1],v.2.2.2.2.1,v.2.2.2.2.2,.int .i64 y.2.2.2]) (fun y v=>[.own (aI 2 (aJ .i64)) v.1 y.1.aF,.own (aI 2 (aJ .i64)) v.2.1 y.1.To,.own (aI 2 (aJ .i64)) v.2.2.1 y.1.aG,.own (aI 22 (aI 2 (aJ .i64))) v.2.2.2.1 y.1.aC,.own (aI 22 (aI 2 (aJ .i64))) v.2.2.2.2.1 y.2.1,.own (aI 22 (aI 2 (aJ .i64))) v.2.2.2.2.2 y.2.2.1]):=by
 refine ct (S:=Unit) (bp fun _ _=>rfl) Tryz.func55 rfl rfl ?_
 repeat' first
  | (apply Dk.fe; repeat' first | exact rfl | (refine @id.{0} _ ?_; constructor))
  | intro _
  | exact rfl
  | (refine @id.{0} _ ?_; constructor)
  | apply Sh
  | apply X2
  | apply MJ
  | exact ()
theorem c56 {x0:bB} {aQ aU aO aL aR aV aP aN aZ bA bM bN:Value}:Ct Tryz.prog 56 true (mX x0) [.agg #[.int .i64 (x0.On.aB.aD),aQ,aU,aO,aL,.int .i64 (x0.On.aE.aD),aR,aV,aP,aN,aZ,bA,bM,bN]] [rI aQ x0.On.aB.aF,rI aU x0.On.aB.To,rI aO x0.On.aB.aG,rJ aL x0.On.aB.aC,rI aR x0.On.aE.aF,rI aV x0.On.aE.To,rI aP x0.On.aE.aG,rJ aN x0.On.aE.aC,rI aZ x0.On.aD,rI bA x0.On.ab,rI bM x0.Unit,rI bN x0.ba] (fun y (v:Value×Value×Value×Value×Value)=>[.agg #[.int .i64 y.1.aD,v.1,v.2.1,v.2.2.1,v.2.2.2.1],v.2.2.2.2,.int .i64 y.2.2]) (fun y v=>[.own (aI 2 (aJ .i64)) v.1 y.1.aF,.own (aI 2 (aJ .i64)) v.2.1 y.1.To,.own (aI 2 (aJ .i64)) v.2.2.1 y.1.aG,.own (aI 22 (aI 2 (aJ .i64))) v.2.2.2.1 y.1.aC,.own (aI 22 (aI 2 (aJ .i64))) v.2.2.2.2 y.2.1]):=by
 refine ct (S:=Unit) (bp fun _ _=>rfl) Tryz.func56 rfl rfl ?_
 repeat' first
  | (apply Dk.fe; repeat' first | exact rfl | (refine @id.{0} _ ?_; constructor))
  | intro _
  | exact rfl
  | (refine @id.{0} _ ?_; constructor)
  | apply Sh
  | apply Yd
  | apply MJ
  | exact ()
theorem c9 {x0:bB} {aQ aU aO aL aR aV aP aN aZ bA bM bN:Value}:Ct Tryz.prog 9 true (eC x0) [.agg #[.int .i64 (x0.On.aB.aD),aQ,aU,aO,aL,.int .i64 (x0.On.aE.aD),aR,aV,aP,aN,aZ,bA,bM,bN]] [rI aQ x0.On.aB.aF,rI aU x0.On.aB.To,rI aO x0.On.aB.aG,rJ aL x0.On.aB.aC,rI aR x0.On.aE.aF,rI aV x0.On.aE.To,rI aP x0.On.aE.aG,rJ aN x0.On.aE.aC,rI aZ x0.On.aD,rI bA x0.On.ab,rI bM x0.Unit,rI bN x0.ba] (fun y (v:Value×Value×Value×Value×Value×Value×Value×Value×Value×Value)=>[.agg #[.int .i64 y.1.aB.aD,v.1,v.2.1,v.2.2.1,v.2.2.2.1,.int .i64 y.1.aE.aD,v.2.2.2.2.1,v.2.2.2.2.2.1,v.2.2.2.2.2.2.1,v.2.2.2.2.2.2.2.1,v.2.2.2.2.2.2.2.2.1,v.2.2.2.2.2.2.2.2.2],.int .i64 y.2]) (fun y v=>[.own (aI 2 (aJ .i64)) v.1 y.1.aB.aF,.own (aI 2 (aJ .i64)) v.2.1 y.1.aB.To,.own (aI 2 (aJ .i64)) v.2.2.1 y.1.aB.aG,.own (aI 22 (aI 2 (aJ .i64))) v.2.2.2.1 y.1.aB.aC,.own (aI 2 (aJ .i64)) v.2.2.2.2.1 y.1.aE.aF,.own (aI 2 (aJ .i64)) v.2.2.2.2.2.1 y.1.aE.To,.own (aI 2 (aJ .i64)) v.2.2.2.2.2.2.1 y.1.aE.aG,.own (aI 22 (aI 2 (aJ .i64))) v.2.2.2.2.2.2.2.1 y.1.aE.aC,.own (aI 2 (aJ .i64)) v.2.2.2.2.2.2.2.2.1 y.1.aD,.own (aI 2 (aJ .i64)) v.2.2.2.2.2.2.2.2.2 y.1.ab]):=by
 refine ct (S:=Unit) (bp fun _ _=>rfl) Tryz.func9 rfl rfl ?_
 repeat' first
  | (apply Dk.fe; repeat' first | exact rfl | (refine @id.{0} _ ?_; constructor))
  | intro _
  | exact rfl
  | (refine @id.{0} _ ?_; constructor)
  | apply Dk.loop 0 (V:=Value) (fun (s:(List Int)×Int) v=>[.own (aI 2 (aJ .i64)) v s.1]) (fun s v=>[(12,v),(14,.int .i64 (s.2))]) _ [(1,_),(2,_),(4,_),(5,_),(6,_),(8,_),(9,_),(11,_),(13,_)]
  | apply Dk.loop 2 (V:=Value) (fun (s:(List Int)×Int) v=>[.own (aI 2 (aJ .i64)) v s.1]) (fun s v=>[(13,v),(15,.int .i64 (s.2))]) _ [(1,_),(2,_),(4,_),(6,_),(8,_),(9,_),(11,_),(12,_)]
  | apply Dk.quiet (id:=16) (by kernel_rfl)
  | apply Dk.any (id:=12) 16 [] [] [[],[],[],[2],[2,3],[],[2,3,4,5],[2,3,4,5,6],[],[8],[],[8,9,10],[8,9,10,11],[2,3,4,5,6,7,8,9,10,11,12],[1,2,3,4,5,6,7,8,9,10,11,12,13],[1,2,3,4,5,6,7,8,9,10,11,12,13,14]] (by kernel_rfl)
  | apply Dk.any (id:=17) 24 [] [] [[],[],[],[],[],[3,4],[3,4,5],[3,4,5,6],[3,4,5,6,7],[2,3,4,5,6,7,8],[2,3,4,5,6,7,8,9],[],[],[],[12,13],[12,13,14],[12,13,14,15],[12,13,14,15,16],[11,12,13,14,15,16,17],[11,12,13,14,15,16,17,18],[],[2,3,4,5,6,7,8,9,10,11,12,13,14,15,16,17,18,19,20],[1,2,3,4,5,6,7,8,9,10,11,12,13,14,15,16,17,18,19,20,21],[1,2,3,4,5,6,7,8,9,10,11,12,13,14,15,16,17,18,19,20,21,22]] (by kernel_rfl)
  | apply c55
  | apply c56
  | apply RS
  | apply D4
  | apply RV
  | exact ()
end Go.Proofs.YtcnehblmgfbfoaaGreat
