/- Walks by the calculus D. No condition beside those that each theorem names. -/
import Derived.Test.YtilhlobfebngdaaGreatDp
import Derived.Test.YtilhlobfebngdaaGreatDi
import Derived.Test.YtilhlobfebngdaaGreatMo
import Derived.Test.YtilhlobfebngdaaGreatDs
import Derived.Test.YtilhlobfebngdaaGreatWa
import Derived.Test.YtilhlobfebngdaaGreatWb
import Derived.Test.YtilhlobfebngdaaGreatWc
import Derived.Test.YtilhlobfebngdaaGreatWd
namespace Go.Proofs.YtilhlobfebngdaaGreat
open Go Go.Li Go.Dk
set_option linter.unusedVariables false
set_option maxHeartbeats 16000000
set_option maxRecDepth 100000
theorem ajj {x0:(List (List Int))} {cU:Value}:Ct Tryz.prog 134 true (kX x0) [cU] [rJ cU x0] (fun y (v:Value×Value×Value×Value)=>[.agg #[.int .i64 y.aA,v.1,v.2.1,v.2.2.1,v.2.2.2]]) (fun y v=>[.own (aI 2 (aL .i64)) v.1 y.aE,.own (aI 2 (aL .i64)) v.2.1 y.To,.own (aI 2 (aL .i64)) v.2.2.1 y.aH,.own (aI 24 (aI 2 (aL .i64))) v.2.2.2 y.aC]):=by
 refine ct (S:=Unit) (bu fun _ _=>rfl) Tryz.func134 rfl rfl ?_
 repeat' first
  | (apply Dk.fe; repeat' first | exact rfl | (refine @id.{0} _ ?_; constructor))
  | intro _
  | exact rfl
  | (refine @id.{0} _ ?_; constructor)
  | apply Dk.any (id:=2) 7 [] [] [[],[0],[],[2],[],[],[5]] (by kernel_rfl)
  | apply aa3
  | exact ()
theorem ajk {x0:aP} {bG bN aV aR bH bP aW aS bV cA:Value} {x1:Int} {x2:Int} {x3:Int}:Ct Tryz.prog 155 true (mJ x0 x1 x2 x3) [.agg #[.int .i64 (x0.aB.aA),bG,bN,aV,aR,.int .i64 (x0.aG.aA),bH,bP,aW,aS,bV,cA],.int .i64 (x1),.int .i64 (x2),.int .i64 (x3)] [rI bG x0.aB.aE,rI bN x0.aB.To,rI aV x0.aB.aH,rJ aR x0.aB.aC,rI bH x0.aG.aE,rI bP x0.aG.To,rI aW x0.aG.aH,rJ aS x0.aG.aC,rI bV x0.aA,rI cA x0.ab] (fun y (_:Unit)=>[.bool y]) (fun y _=>[]):=by
 refine ct (S:=Unit) (bu fun _ _=>rfl) Tryz.func155 rfl rfl ?_
 repeat' first
  | (apply Dk.fe; repeat' first | exact rfl | (refine @id.{0} _ ?_; constructor))
  | intro _
  | exact rfl
  | (refine @id.{0} _ ?_; constructor)
  | apply Dk.loop 0 (V:=Unit) (fun (s:Int) v=>[]) (fun s v=>[(9,.int .i64 (s))]) () [(1,_),(2,_),(3,_),(4,_)]
  | apply Dk.loop 2 (V:=Unit) (fun (s:Int) v=>[]) (fun s v=>[(11,.int .i64 (s))]) () [(1,_),(2,_),(3,_),(4,_),(9,_),(10,_)]
  | apply Dk.any (id:=4) 8 [] [] [[],[0],[],[2],[],[2,3,4],[2,3,4,5],[]] (by kernel_rfl)
  | apply Dk.any (id:=8) 8 [] [] [[],[],[],[],[],[],[4,5],[4,5,6]] (by kernel_rfl)
  | apply Hj
  | apply aa7
  | exact ()
theorem ajl {x0:aP} {bG bN aV aR bH bP aW aS bV cA:Value} {x1:Int}:Ct Tryz.prog 141 true (rN x0 x1) [.agg #[.int .i64 (x0.aB.aA),bG,bN,aV,aR,.int .i64 (x0.aG.aA),bH,bP,aW,aS,bV,cA],.int .i64 (x1)] [rI bG x0.aB.aE,rI bN x0.aB.To,rI aV x0.aB.aH,rJ aR x0.aB.aC,rI bH x0.aG.aE,rI bP x0.aG.To,rI aW x0.aG.aH,rJ aS x0.aG.aC,rI bV x0.aA,rI cA x0.ab] (fun y (_:Unit)=>[.int .i64 y.1,.int .i64 y.2.1,.bool y.2.2]) (fun y _=>[]):=by
 refine ct (S:=Unit) (bu fun _ _=>rfl) Tryz.func141 rfl rfl ?_
 repeat' first
  | (apply Dk.fe; repeat' first | exact rfl | (refine @id.{0} _ ?_; constructor))
  | intro _
  | exact rfl
  | (refine @id.{0} _ ?_; constructor)
  | apply Dk.loop 0 (V:=Unit) (fun (s:Int) v=>[]) (fun s v=>[(7,.int .i64 (s))]) () [(1,_),(2,_)]
  | apply Dk.loop 2 (V:=Unit) (fun (s:Int) v=>[]) (fun s v=>[(9,.int .i64 (s))]) () [(1,_),(2,_),(7,_),(8,_)]
  | apply Dk.quiet (id:=8) (by kernel_rfl)
  | apply Dk.quiet (id:=9) (by kernel_rfl)
  | apply Dk.any (id:=4) 8 [] [] [[],[0],[],[2],[],[2,3,4],[2,3,4,5],[]] (by kernel_rfl)
  | apply Hj
  | apply ajk
  | exact ()
theorem ajm {x0:aF} {aQ bC aO aN:Value}:Ct Tryz.prog 123 true (rT x0) [.agg #[.int .i64 (x0.aA),aQ,bC,aO,aN]] [rI aQ x0.aE,rI bC x0.To,rI aO x0.aH,rJ aN x0.aC] (fun y (_:Unit)=>[.bool y]) (fun y _=>[]):=by
 refine ct (S:=Unit) (bu fun _ _=>rfl) Tryz.func123 rfl rfl ?_
 repeat' first
  | (apply Dk.fe; repeat' first | exact rfl | (refine @id.{0} _ ?_; constructor))
  | intro _
  | exact rfl
  | (refine Dk.uo (t:=102) rfl ?_ ?_)
  | (refine @id.{0} _ ?_; constructor)
  | apply Dk.loop 0 (V:=Unit) (fun (s:Int) v=>[]) (fun s v=>[(4,.int .i64 (s))]) () [(1,_),(3,_)]
  | apply Dk.loop 2 (V:=Unit) (fun (s:Int) v=>[]) (fun s v=>[(5,.int .i64 (s))]) () [(1,_),(3,_)]
  | apply Dk.loop 4 (V:=Unit) (fun (s:Int) v=>[]) (fun s v=>[(6,.int .i64 (s))]) () [(1,_),(3,_),(5,_)]
  | apply Dk.quiet (id:=9) (by kernel_rfl)
  | apply Dk.quiet (id:=20) (by kernel_rfl)
  | apply Dk.quiet (id:=23) (by kernel_rfl)
  | apply aiY
  | apply aiP
  | apply VV
  | exact ()
theorem c86 {x0:aF} {aQ bC aO aN:Value}:Ct Tryz.prog 86 true (rU x0) [.agg #[.int .i64 (x0.aA),aQ,bC,aO,aN]] [rI aQ x0.aE,rI bC x0.To,rI aO x0.aH,rJ aN x0.aC] (fun y (_:Unit)=>[.bool y]) (fun y _=>[]):=by
 refine ct (S:=Unit) (bu fun _ _=>rfl) Tryz.func86 rfl rfl ?_
 repeat' first
  | (apply Dk.fe; repeat' first | exact rfl | (refine @id.{0} _ ?_; constructor))
  | intro _
  | exact rfl
  | (refine @id.{0} _ ?_; constructor)
  | apply ajm
  | apply aja
  | exact ()
theorem c59 {x0:aP} {bG bN aV aR bH bP aW aS bV cA:Value}:Ct Tryz.prog 59 true (tQ x0) [.agg #[.int .i64 (x0.aB.aA),bG,bN,aV,aR,.int .i64 (x0.aG.aA),bH,bP,aW,aS,bV,cA]] [rI bG x0.aB.aE,rI bN x0.aB.To,rI aV x0.aB.aH,rJ aR x0.aB.aC,rI bH x0.aG.aE,rI bP x0.aG.To,rI aW x0.aG.aH,rJ aS x0.aG.aC,rI bV x0.aA,rI cA x0.ab] (fun y (_:Unit)=>[.bool y]) (fun y _=>[]):=by
 refine ct (S:=Unit) (bu fun _ _=>rfl) Tryz.func59 rfl rfl ?_
 repeat' first
  | (apply Dk.fe; repeat' first | exact rfl | (refine @id.{0} _ ?_; constructor))
  | intro _
  | exact rfl
  | (refine Dk.uo (t:=136) rfl ?_ ?_)
  | (refine @id.{0} _ ?_; constructor)
  | apply Dk.loop 0 (V:=Unit) (fun (s:Int) v=>[]) (fun s v=>[(5,.int .i64 (s))]) () [(1,_),(3,_),(4,_)]
  | apply Dk.loop 2 (V:=Unit) (fun (s:Int) v=>[]) (fun s v=>[(6,.int .i64 (s))]) () [(1,_),(3,_),(4,_)]
  | apply Dk.loop 4 (V:=Unit) (fun (s:Int) v=>[]) (fun s v=>[(7,.int .i64 (s))]) () [(1,_),(3,_),(4,_)]
  | apply Dk.loop 6 (V:=Unit) (fun (s:Int) v=>[]) (fun s v=>[(8,.int .i64 (s))]) () [(1,_),(3,_),(4,_),(7,_)]
  | apply Dk.quiet (id:=9) (by kernel_rfl)
  | apply Dk.quiet (id:=14) (by kernel_rfl)
  | apply Dk.quiet (id:=22) (by kernel_rfl)
  | apply Dk.any (id:=1) 7 [] [[],[],[],[],[],[],[4]] [[],[0],[],[2],[],[],[0,1,4,5]] (by kernel_rfl)
  | apply c86
  | apply VV
  | exact ()
theorem ajn {x0:aF} {dM:Addr} {aQ bC aO aN:Value}:Ct Tryz.prog 127 true (jU x0) [.pointer (some (dM))] [.bc dM [.int .i64 (x0.aA),aQ,bC,aO,aN],rI aQ x0.aE,rI bC x0.To,rI aO x0.aH,rJ aN x0.aC] (fun y (v:Value×Value×Value×Value)=>[.agg #[.int .i64 y.aA,v.1,v.2.1,v.2.2.1,v.2.2.2]]) (fun y v=>[.own (aI 2 (aL .i64)) v.1 y.aE,.own (aI 2 (aL .i64)) v.2.1 y.To,.own (aI 2 (aL .i64)) v.2.2.1 y.aH,.own (aI 24 (aI 2 (aL .i64))) v.2.2.2 y.aC]):=by
 refine ct (S:=Unit) (bu fun _ _=>rfl) Tryz.func127 rfl rfl ?_
 repeat' first
  | (apply Dk.fe; repeat' first | exact rfl | (refine @id.{0} _ ?_; constructor))
  | intro _
  | exact rfl
  | (refine @id.{0} _ ?_; constructor)
  | apply Dk.any (id:=1) 24 [] [] [[],[0],[0,1],[0,1,2],[],[4],[4,5],[4,5,6],[4,5,6,7],[],[9],[9,10],[9,10,11],[4,5,6,7,8,9,10,11,12],[],[14],[14,15],[14,15,16],[4,5,6,7,8,9,10,11,12,13,14,15,16,17],[],[19],[19,20],[19,20,21],[4,5,6,7,8,9,10,11,12,13,14,15,16,17,18,19,20,21,22]] (by kernel_rfl)
  | apply Uy
  | apply ajb
  | exact ()
theorem c95 {x0:aF} {dM:Addr} {aQ bC aO aN:Value} {x1:aF} {rW:Addr} {bW cF bF aZ:Value} {x2:(List Int)} {eI:Value} {x3:(List Int)} {iX:Value}:Ct Tryz.prog 95 true (oR x0 x1 x2 x3) [.pointer (some (dM)),.pointer (some (rW)),eI,iX] [.bc rW [.int .i64 (x1.aA),bW,cF,bF,aZ],.bc dM [.int .i64 (x0.aA),aQ,bC,aO,aN],rI aQ x0.aE,rI bC x0.To,rI aO x0.aH,rJ aN x0.aC,rI bW x1.aE,rI cF x1.To,rI bF x1.aH,rJ aZ x1.aC,rI eI x2,rI iX x3] (fun y (v:Value×Value×Value×Value×Value×Value×Value×Value×Value×Value)=>[.agg #[.int .i64 y.aB.aA,v.1,v.2.1,v.2.2.1,v.2.2.2.1,.int .i64 y.aG.aA,v.2.2.2.2.1,v.2.2.2.2.2.1,v.2.2.2.2.2.2.1,v.2.2.2.2.2.2.2.1,v.2.2.2.2.2.2.2.2.1,v.2.2.2.2.2.2.2.2.2]]) (fun y v=>[.own (aI 2 (aL .i64)) v.1 y.aB.aE,.own (aI 2 (aL .i64)) v.2.1 y.aB.To,.own (aI 2 (aL .i64)) v.2.2.1 y.aB.aH,.own (aI 24 (aI 2 (aL .i64))) v.2.2.2.1 y.aB.aC,.own (aI 2 (aL .i64)) v.2.2.2.2.1 y.aG.aE,.own (aI 2 (aL .i64)) v.2.2.2.2.2.1 y.aG.To,.own (aI 2 (aL .i64)) v.2.2.2.2.2.2.1 y.aG.aH,.own (aI 24 (aI 2 (aL .i64))) v.2.2.2.2.2.2.2.1 y.aG.aC,.own (aI 2 (aL .i64)) v.2.2.2.2.2.2.2.2.1 y.aA,.own (aI 2 (aL .i64)) v.2.2.2.2.2.2.2.2.2 y.ab]):=by
 refine ct (S:=Unit) (bu fun _ _=>rfl) Tryz.func95 rfl rfl ?_
 repeat' first
  | (apply Dk.fe; repeat' first | exact rfl | (refine @id.{0} _ ?_; constructor))
  | intro _
  | exact rfl
  | (refine @id.{0} _ ?_; constructor)
  | apply ajn
  | apply Uy
  | exact ()
theorem c67 {x0:aF} {dM:Addr} {aQ bC aO aN:Value}:Ct Tryz.prog 67 true (qB x0) [.pointer (some (dM))] [.bc dM [.int .i64 (x0.aA),aQ,bC,aO,aN],rI aQ x0.aE,rI bC x0.To,rI aO x0.aH,rJ aN x0.aC] (fun y (v:Value×Value×Value×Value×Value×Value×Value×Value×Value×Value)=>[.agg #[.int .i64 y.aB.aA,v.1,v.2.1,v.2.2.1,v.2.2.2.1,.int .i64 y.aG.aA,v.2.2.2.2.1,v.2.2.2.2.2.1,v.2.2.2.2.2.2.1,v.2.2.2.2.2.2.2.1,v.2.2.2.2.2.2.2.2.1,v.2.2.2.2.2.2.2.2.2]]) (fun y v=>[.own (aI 2 (aL .i64)) v.1 y.aB.aE,.own (aI 2 (aL .i64)) v.2.1 y.aB.To,.own (aI 2 (aL .i64)) v.2.2.1 y.aB.aH,.own (aI 24 (aI 2 (aL .i64))) v.2.2.2.1 y.aB.aC,.own (aI 2 (aL .i64)) v.2.2.2.2.1 y.aG.aE,.own (aI 2 (aL .i64)) v.2.2.2.2.2.1 y.aG.To,.own (aI 2 (aL .i64)) v.2.2.2.2.2.2.1 y.aG.aH,.own (aI 24 (aI 2 (aL .i64))) v.2.2.2.2.2.2.2.1 y.aG.aC,.own (aI 2 (aL .i64)) v.2.2.2.2.2.2.2.2.1 y.aA,.own (aI 2 (aL .i64)) v.2.2.2.2.2.2.2.2.2 y.ab]):=by
 refine ct (S:=Unit) (bu fun _ _=>rfl) Tryz.func67 rfl rfl ?_
 repeat' first
  | (apply Dk.fe; repeat' first | exact rfl | (refine @id.{0} _ ?_; constructor))
  | intro _
  | exact rfl
  | (refine @id.{0} _ ?_; constructor)
  | apply c96
  | apply LS
  | apply c95
  | exact ()
theorem c68 {x0:aP} {dM:Addr} {bG bN aV aR bH bP aW aS bV cA:Value} {x1:aP} {rW:Addr} {cW dE cH cC cX dF cI cD dQ dU:Value}:Ct Tryz.prog 68 true (mL x0 x1) [.pointer (some (dM)),.pointer (some (rW))] [.bc rW [.int .i64 (x1.aB.aA),cW,dE,cH,cC,.int .i64 (x1.aG.aA),cX,dF,cI,cD,dQ,dU],.bc dM [.int .i64 (x0.aB.aA),bG,bN,aV,aR,.int .i64 (x0.aG.aA),bH,bP,aW,aS,bV,cA],rI bG x0.aB.aE,rI bN x0.aB.To,rI aV x0.aB.aH,rJ aR x0.aB.aC,rI bH x0.aG.aE,rI bP x0.aG.To,rI aW x0.aG.aH,rJ aS x0.aG.aC,rI bV x0.aA,rI cA x0.ab,rI cW x1.aB.aE,rI dE x1.aB.To,rI cH x1.aB.aH,rJ cC x1.aB.aC,rI cX x1.aG.aE,rI dF x1.aG.To,rI cI x1.aG.aH,rJ cD x1.aG.aC,rI dQ x1.aA,rI dU x1.ab] (fun y (v:Value×Value×Value×Value×Value×Value×Value×Value×Value×Value)=>[.agg #[.int .i64 y.aB.aA,v.1,v.2.1,v.2.2.1,v.2.2.2.1,.int .i64 y.aG.aA,v.2.2.2.2.1,v.2.2.2.2.2.1,v.2.2.2.2.2.2.1,v.2.2.2.2.2.2.2.1,v.2.2.2.2.2.2.2.2.1,v.2.2.2.2.2.2.2.2.2]]) (fun y v=>[.own (aI 2 (aL .i64)) v.1 y.aB.aE,.own (aI 2 (aL .i64)) v.2.1 y.aB.To,.own (aI 2 (aL .i64)) v.2.2.1 y.aB.aH,.own (aI 24 (aI 2 (aL .i64))) v.2.2.2.1 y.aB.aC,.own (aI 2 (aL .i64)) v.2.2.2.2.1 y.aG.aE,.own (aI 2 (aL .i64)) v.2.2.2.2.2.1 y.aG.To,.own (aI 2 (aL .i64)) v.2.2.2.2.2.2.1 y.aG.aH,.own (aI 24 (aI 2 (aL .i64))) v.2.2.2.2.2.2.2.1 y.aG.aC,.own (aI 2 (aL .i64)) v.2.2.2.2.2.2.2.2.1 y.aA,.own (aI 2 (aL .i64)) v.2.2.2.2.2.2.2.2.2 y.ab]):=by
 refine ct (S:=Unit) (bu fun _ _=>rfl) Tryz.func68 rfl rfl ?_
 repeat' first
  | (apply Dk.fe; repeat' first | exact rfl | (refine @id.{0} _ ?_; constructor))
  | intro _
  | exact rfl
  | (refine @id.{0} _ ?_; constructor)
  | apply Dk.any (id:=1) 24 [] [] [[],[0],[0,1],[],[3],[3,4],[],[6],[6,7],[6,7,8],[],[10],[10,11],[10,11,12],[6,7,8,9,10,11,12,13],[],[15],[15,16],[15,16,17],[],[19],[19,20],[19,20,21],[6,7,8,9,10,11,12,13,14,15,16,17,18,19,20,21,22]] (by kernel_rfl)
  | apply c97
  | apply c95
  | exact ()
theorem Rs {x0:bU} {dM:Addr} {eL eU eC dV eM eV eD dW fC fL eN eW eE dX eP eX eG dY fD fM gR:Value}:Ct Tryz.prog 130 true (mM x0 (fun a0 a1 a2 a3=>kG a0 a1 a2 a3)) [.pointer (some (dM)),.func (.func 131) #[] #[]] [.bc dM [.int .i64 (x0.aB.aB.aA),eL,eU,eC,dV,.int .i64 (x0.aB.aG.aA),eM,eV,eD,dW,fC,fL,.int .i64 (x0.aG.aB.aA),eN,eW,eE,dX,.int .i64 (x0.aG.aG.aA),eP,eX,eG,dY,fD,fM,gR],rI eL x0.aB.aB.aE,rI eU x0.aB.aB.To,rI eC x0.aB.aB.aH,rJ dV x0.aB.aB.aC,rI eM x0.aB.aG.aE,rI eV x0.aB.aG.To,rI eD x0.aB.aG.aH,rJ dW x0.aB.aG.aC,rI fC x0.aB.aA,rI fL x0.aB.ab,rI eN x0.aG.aB.aE,rI eW x0.aG.aB.To,rI eE x0.aG.aB.aH,rJ dX x0.aG.aB.aC,rI eP x0.aG.aG.aE,rI eX x0.aG.aG.To,rI eG x0.aG.aG.aH,rJ dY x0.aG.aG.aC,rI fD x0.aG.aA,rI fM x0.aG.ab,rI gR x0.bj] (fun y (_:Unit)=>[.int .i64 y]) (fun y _=>[]):=by
 refine ct (S:=Unit) (bu fun _ _=>rfl) Tryz.func130 rfl rfl ?_
 repeat' first
  | (apply Dk.fe; repeat' first | exact rfl | (refine @id.{0} _ ?_; constructor))
  | intro _
  | exact rfl
  | (refine @id.{0} _ ?_; constructor)
  | apply Dk.loop 0 (V:=Unit) (fun (s:Int) v=>[]) (fun s v=>[(12,.int .i64 (s))]) () [(0,_),(1,_),(11,_)]
  | apply Dk.quiet (id:=4) (by kernel_rfl)
  | apply aiT
  | exact ()
theorem c13 {x0:aF} {aQ bC aO aN:Value} {x1:aF} {bW cF bF aZ:Value}:Ct Tryz.prog 13 true (gM x0 x1) [.agg #[.int .i64 (x0.aA),aQ,bC,aO,aN],.agg #[.int .i64 (x1.aA),bW,cF,bF,aZ]] [rI aQ x0.aE,rI bC x0.To,rI aO x0.aH,rJ aN x0.aC,rI bW x1.aE,rI cF x1.To,rI bF x1.aH,rJ aZ x1.aC] (fun y (_:Unit)=>[.bool y]) (fun y _=>[]):=by
 refine ct (S:=Unit) (bu fun _ _=>rfl) Tryz.func13 rfl rfl ?_
 repeat' first
  | (apply Dk.fe; repeat' first | exact rfl | (refine @id.{0} _ ?_; constructor))
  | intro _
  | exact rfl
  | (refine @id.{0} _ ?_; constructor)
  | apply c15
  | apply c14
  | exact ()
end Go.Proofs.YtilhlobfebngdaaGreat
