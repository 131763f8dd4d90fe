/- Walks by the calculus D. No condition beside those that each theorem names. -/
import Derived.Test.YtjdkifckhidlbaaGreatDp
import Derived.Test.YtjdkifckhidlbaaGreatDi
import Derived.Test.YtjdkifckhidlbaaGreatMo
import Derived.Test.YtjdkifckhidlbaaGreatDs
import Derived.Test.YtjdkifckhidlbaaGreatWa
import Derived.Test.YtjdkifckhidlbaaGreatWb
import Derived.Test.YtjdkifckhidlbaaGreatWc
import Derived.Test.YtjdkifckhidlbaaGreatWd
namespace Go.Proofs.YtjdkifckhidlbaaGreat
open Go Go.Li Go.Dk
set_option linter.unusedVariables false
set_option maxHeartbeats 16000000
set_option maxRecDepth 100000
theorem afB {x0:aO} {bT cB bD bB bU cC bE bC cD cG:Value} {x1:Int} {x2:Int} {x3:Int}:Ct Tryz.prog 284 true (lC x0 x1 x2 x3) [.agg #[.int .i64 (x0.aB.aA),bT,cB,bD,bB,.int .i64 (x0.aF.aA),bU,cC,bE,bC,cD,cG],.int .i64 (x1),.int .i64 (x2),.int .i64 (x3)] [rI bT x0.aB.aH,rI cB x0.aB.To,rI bD x0.aB.aJ,rJ bB x0.aB.aE,rI bU x0.aF.aH,rI cC x0.aF.To,rI bE x0.aF.aJ,rJ bC x0.aF.aE,rI cD x0.aA,rI cG x0.ae] (fun y (_:Unit)=>[.bool y]) (fun y _=>[]):=by
 refine ct (S:=Unit) (cf fun _ _=>rfl) Tryz.func284 rfl rfl ?_
 repeat' first
  | (apply Dk.fe; repeat' first | exact rfl | (refine @id.{0} _ ?_; constructor))
  | intro _
  | exact rfl
  | (refine @id.{0} _ ?_; constructor)
  | apply Dk.loop 0 (V:=Unit) (fun (s:Int) v=>[]) (fun s v=>[(9,.int .i64 (s))]) () [(1,_),(2,_),(3,_),(4,_)]
  | apply Dk.loop 2 (V:=Unit) (fun (s:Int) v=>[]) (fun s v=>[(11,.int .i64 (s))]) () [(1,_),(2,_),(3,_),(4,_),(9,_),(10,_)]
  | apply Dk.any (id:=4) 8 [] [] [[],[0],[],[2],[],[2,3,4],[2,3,4,5],[]] (by kernel_rfl)
  | apply Dk.any (id:=8) 8 [] [] [[],[],[],[],[],[],[4,5],[4,5,6]] (by kernel_rfl)
  | apply FW
  | apply Yg
  | exact ()
theorem afC {x0:aO} {bT cB bD bB bU cC bE bC cD cG:Value} {x1:Int}:Ct Tryz.prog 215 true (pF x0 x1) [.agg #[.int .i64 (x0.aB.aA),bT,cB,bD,bB,.int .i64 (x0.aF.aA),bU,cC,bE,bC,cD,cG],.int .i64 (x1)] [rI bT x0.aB.aH,rI cB x0.aB.To,rI bD x0.aB.aJ,rJ bB x0.aB.aE,rI bU x0.aF.aH,rI cC x0.aF.To,rI bE x0.aF.aJ,rJ bC x0.aF.aE,rI cD x0.aA,rI cG x0.ae] (fun y (_:Unit)=>[.int .i64 y.1,.int .i64 y.2.1,.bool y.2.2]) (fun y _=>[]):=by
 refine ct (S:=Unit) (cf fun _ _=>rfl) Tryz.func215 rfl rfl ?_
 repeat' first
  | (apply Dk.fe; repeat' first | exact rfl | (refine @id.{0} _ ?_; constructor))
  | intro _
  | exact rfl
  | (refine @id.{0} _ ?_; constructor)
  | apply Dk.loop 0 (V:=Unit) (fun (s:Int) v=>[]) (fun s v=>[(7,.int .i64 (s))]) () [(1,_),(2,_)]
  | apply Dk.loop 2 (V:=Unit) (fun (s:Int) v=>[]) (fun s v=>[(9,.int .i64 (s))]) () [(1,_),(2,_),(7,_),(8,_)]
  | apply Dk.quiet (id:=8) (by kernel_rfl)
  | apply Dk.quiet (id:=9) (by kernel_rfl)
  | apply Dk.any (id:=4) 8 [] [] [[],[0],[],[2],[],[2,3,4],[2,3,4,5],[]] (by kernel_rfl)
  | apply FW
  | apply afB
  | exact ()
theorem afD {x0:aO} {cZ:Addr} {bT cB bD bB bU cC bE bC cD cG:Value}:Ct Tryz.prog 195 true (lD x0) [.pointer (some (cZ))] [.bb cZ [.int .i64 (x0.aB.aA),bT,cB,bD,bB,.int .i64 (x0.aF.aA),bU,cC,bE,bC,cD,cG],rI bT x0.aB.aH,rI cB x0.aB.To,rI bD x0.aB.aJ,rJ bB x0.aB.aE,rI bU x0.aF.aH,rI cC x0.aF.To,rI bE x0.aF.aJ,rJ bC x0.aF.aE,rI cD x0.aA,rI cG x0.ae] (fun y (_:Unit)=>[.bool y]) (fun y _=>[]):=by
 refine ct (S:=Unit) (cf fun _ _=>rfl) Tryz.func195 rfl rfl ?_
 repeat' first
  | (apply Dk.fe; repeat' first | exact rfl | (refine @id.{0} _ ?_; constructor))
  | intro _
  | exact rfl
  | (refine @id.{0} _ ?_; constructor)
  | apply Dk.loop 0 (V:=Unit) (fun (s:Int) v=>[]) (fun s v=>[(66,.int .i64 (s))]) () [(0,_),(3,_),(4,_),(64,_),(65,_)]
  | apply Dk.loop 2 (V:=Unit) (fun (s:Int) v=>[]) (fun s v=>[(121,.int .i64 (s))]) () [(0,_),(3,_),(4,_),(119,_),(120,_)]
  | apply Dk.loop 4 (V:=Unit) (fun (s:Int) v=>[]) (fun s v=>[(153,.int .i64 (s))]) () [(0,_),(4,_),(151,_),(152,_)]
  | apply Dk.loop 6 (V:=Unit) (fun (s:Int) v=>[]) (fun s v=>[(160,.int .i64 (s))]) () [(0,_),(4,_),(9,_),(151,_),(152,_),(153,_),(158,_),(159,_)]
  | apply Dk.quiet (id:=1) (by kernel_rfl)
  | apply Dk.quiet (id:=2) (by kernel_rfl)
  | apply Dk.quiet (id:=7) (by kernel_rfl)
  | apply Dk.quiet (id:=13) (by kernel_rfl)
  | apply Dk.quiet (id:=22) (by kernel_rfl)
  | apply Js
  | apply RE
  | apply FX
  | exact ()
theorem afE {x0:aI} {cZ:Addr} {bF bV aP aN:Value}:Ct Tryz.prog 159 true (jE x0) [.pointer (some (cZ))] [.bb cZ [.int .i64 (x0.aA),bF,bV,aP,aN],rI bF x0.aH,rI bV x0.To,rI aP x0.aJ,rJ aN x0.aE] (fun y (v:Value×Value×Value×Value)=>[.agg #[.int .i64 y.aA,v.1,v.2.1,v.2.2.1,v.2.2.2]]) (fun y v=>[.own (aK 2 (aM .i64)) v.1 y.aH,.own (aK 2 (aM .i64)) v.2.1 y.To,.own (aK 2 (aM .i64)) v.2.2.1 y.aJ,.own (aK 24 (aK 2 (aM .i64))) v.2.2.2 y.aE]):=by
 refine ct (S:=Unit) (cf fun _ _=>rfl) Tryz.func159 rfl rfl ?_
 repeat' first
  | (apply Dk.fe; repeat' first | exact rfl | (refine @id.{0} _ ?_; constructor))
  | intro _
  | exact rfl
  | (refine @id.{0} _ ?_; constructor)
  | apply Dk.any (id:=1) 24 [] [] [[],[0],[0,1],[0,1,2],[],[4],[4,5],[4,5,6],[4,5,6,7],[],[9],[9,10],[9,10,11],[4,5,6,7,8,9,10,11,12],[],[14],[14,15],[14,15,16],[4,5,6,7,8,9,10,11,12,13,14,15,16,17],[],[19],[19,20],[19,20,21],[4,5,6,7,8,9,10,11,12,13,14,15,16,17,18,19,20,21,22]] (by kernel_rfl)
  | apply Tg
  | apply afd
  | exact ()
theorem Yq {x0:aI} {cZ:Addr} {bF bV aP aN:Value} {x1:aI} {lO:Addr} {cF cR bR bI:Value} {x2:(List Int)} {eB:Value} {x3:(List Int)} {gS:Value}:Ct Tryz.prog 82 true (lN x0 x1 x2 x3) [.pointer (some (cZ)),.pointer (some (lO)),eB,gS] [.bb lO [.int .i64 (x1.aA),cF,cR,bR,bI],.bb cZ [.int .i64 (x0.aA),bF,bV,aP,aN],rI bF x0.aH,rI bV x0.To,rI aP x0.aJ,rJ aN x0.aE,rI cF x1.aH,rI cR x1.To,rI bR x1.aJ,rJ bI x1.aE,rI eB x2,rI gS x3] (fun y (v:Value×Value×Value×Value×Value×Value×Value×Value×Value×Value)=>[.agg #[.int .i64 y.aB.aA,v.1,v.2.1,v.2.2.1,v.2.2.2.1,.int .i64 y.aF.aA,v.2.2.2.2.1,v.2.2.2.2.2.1,v.2.2.2.2.2.2.1,v.2.2.2.2.2.2.2.1,v.2.2.2.2.2.2.2.2.1,v.2.2.2.2.2.2.2.2.2]]) (fun y v=>[.own (aK 2 (aM .i64)) v.1 y.aB.aH,.own (aK 2 (aM .i64)) v.2.1 y.aB.To,.own (aK 2 (aM .i64)) v.2.2.1 y.aB.aJ,.own (aK 24 (aK 2 (aM .i64))) v.2.2.2.1 y.aB.aE,.own (aK 2 (aM .i64)) v.2.2.2.2.1 y.aF.aH,.own (aK 2 (aM .i64)) v.2.2.2.2.2.1 y.aF.To,.own (aK 2 (aM .i64)) v.2.2.2.2.2.2.1 y.aF.aJ,.own (aK 24 (aK 2 (aM .i64))) v.2.2.2.2.2.2.2.1 y.aF.aE,.own (aK 2 (aM .i64)) v.2.2.2.2.2.2.2.2.1 y.aA,.own (aK 2 (aM .i64)) v.2.2.2.2.2.2.2.2.2 y.ae]):=by
 refine ct (S:=Unit) (cf fun _ _=>rfl) Tryz.func82 rfl rfl ?_
 repeat' first
  | (apply Dk.fe; repeat' first | exact rfl | (refine @id.{0} _ ?_; constructor))
  | intro _
  | exact rfl
  | (refine @id.{0} _ ?_; constructor)
  | apply afE
  | apply Tg
  | exact ()
theorem c93 {x0:aO} {cZ:Addr} {bT cB bD bB bU cC bE bC cD cG:Value} {x1:aO} {lO:Addr} {cT cV cO cJ cU cW cP cK dA dD:Value}:Ct Tryz.prog 93 true (gH x0 x1) [.pointer (some (cZ)),.pointer (some (lO))] [.bb lO [.int .i64 (x1.aB.aA),cT,cV,cO,cJ,.int .i64 (x1.aF.aA),cU,cW,cP,cK,dA,dD],.bb cZ [.int .i64 (x0.aB.aA),bT,cB,bD,bB,.int .i64 (x0.aF.aA),bU,cC,bE,bC,cD,cG],rI bT x0.aB.aH,rI cB x0.aB.To,rI bD x0.aB.aJ,rJ bB x0.aB.aE,rI bU x0.aF.aH,rI cC x0.aF.To,rI bE x0.aF.aJ,rJ bC x0.aF.aE,rI cD x0.aA,rI cG x0.ae,rI cT x1.aB.aH,rI cV x1.aB.To,rI cO x1.aB.aJ,rJ cJ x1.aB.aE,rI cU x1.aF.aH,rI cW x1.aF.To,rI cP x1.aF.aJ,rJ cK x1.aF.aE,rI dA x1.aA,rI dD x1.ae] (fun y (v:Value×Value×Value×Value×Value×Value×Value×Value×Value×Value)=>[.agg #[.int .i64 y.aB.aA,v.1,v.2.1,v.2.2.1,v.2.2.2.1,.int .i64 y.aF.aA,v.2.2.2.2.1,v.2.2.2.2.2.1,v.2.2.2.2.2.2.1,v.2.2.2.2.2.2.2.1,v.2.2.2.2.2.2.2.2.1,v.2.2.2.2.2.2.2.2.2]]) (fun y v=>[.own (aK 2 (aM .i64)) v.1 y.aB.aH,.own (aK 2 (aM .i64)) v.2.1 y.aB.To,.own (aK 2 (aM .i64)) v.2.2.1 y.aB.aJ,.own (aK 24 (aK 2 (aM .i64))) v.2.2.2.1 y.aB.aE,.own (aK 2 (aM .i64)) v.2.2.2.2.1 y.aF.aH,.own (aK 2 (aM .i64)) v.2.2.2.2.2.1 y.aF.To,.own (aK 2 (aM .i64)) v.2.2.2.2.2.2.1 y.aF.aJ,.own (aK 24 (aK 2 (aM .i64))) v.2.2.2.2.2.2.2.1 y.aF.aE,.own (aK 2 (aM .i64)) v.2.2.2.2.2.2.2.2.1 y.aA,.own (aK 2 (aM .i64)) v.2.2.2.2.2.2.2.2.2 y.ae]):=by
 refine ct (S:=Unit) (cf fun _ _=>rfl) Tryz.func93 rfl rfl ?_
 repeat' first
  | (apply Dk.fe; repeat' first | exact rfl | (refine @id.{0} _ ?_; constructor))
  | intro _
  | exact rfl
  | (refine @id.{0} _ ?_; constructor)
  | apply Dk.any (id:=1) 24 [] [] [[],[0],[0,1],[],[3],[3,4],[],[6],[6,7],[6,7,8],[],[10],[10,11],[10,11,12],[6,7,8,9,10,11,12,13],[],[15],[15,16],[15,16,17],[],[19],[19,20],[19,20,21],[6,7,8,9,10,11,12,13,14,15,16,17,18,19,20,21,22]] (by kernel_rfl)
  | apply afm
  | apply Yq
  | exact ()
theorem afF {x0:aI} {cZ:Addr} {bF bV aP aN:Value}:Ct Tryz.prog 147 true (mA x0) [.pointer (some (cZ))] [.bb cZ [.int .i64 (x0.aA),bF,bV,aP,aN],rI bF x0.aH,rI bV x0.To,rI aP x0.aJ,rJ aN x0.aE] (fun y (v:Value×Value×Value×Value×Value×Value×Value×Value×Value×Value)=>[.agg #[.int .i64 y.aB.aA,v.1,v.2.1,v.2.2.1,v.2.2.2.1,.int .i64 y.aF.aA,v.2.2.2.2.1,v.2.2.2.2.2.1,v.2.2.2.2.2.2.1,v.2.2.2.2.2.2.2.1,v.2.2.2.2.2.2.2.2.1,v.2.2.2.2.2.2.2.2.2]]) (fun y v=>[.own (aK 2 (aM .i64)) v.1 y.aB.aH,.own (aK 2 (aM .i64)) v.2.1 y.aB.To,.own (aK 2 (aM .i64)) v.2.2.1 y.aB.aJ,.own (aK 24 (aK 2 (aM .i64))) v.2.2.2.1 y.aB.aE,.own (aK 2 (aM .i64)) v.2.2.2.2.1 y.aF.aH,.own (aK 2 (aM .i64)) v.2.2.2.2.2.1 y.aF.To,.own (aK 2 (aM .i64)) v.2.2.2.2.2.2.1 y.aF.aJ,.own (aK 24 (aK 2 (aM .i64))) v.2.2.2.2.2.2.2.1 y.aF.aE,.own (aK 2 (aM .i64)) v.2.2.2.2.2.2.2.2.1 y.aA,.own (aK 2 (aM .i64)) v.2.2.2.2.2.2.2.2.2 y.ae]):=by
 refine ct (S:=Unit) (cf fun _ _=>rfl) Tryz.func147 rfl rfl ?_
 repeat' first
  | (apply Dk.fe; repeat' first | exact rfl | (refine @id.{0} _ ?_; constructor))
  | intro _
  | exact rfl
  | (refine @id.{0} _ ?_; constructor)
  | apply afe
  | apply Js
  | apply Yq
  | exact ()
theorem abk {x0:aS} {cZ:Addr} {bJ bP aZ aT bK bQ bA aU bW cA bG bL aW aQ bH bN aY aR bS bX cS cN:Value} {x1:Int} {x2:Int} {x3:Int} {x4:aI} {sL:Addr} {qM rK mB kZ:Value} {x5:qW} {x6:Int} {fh:aS} {Cy:Addr} {lv mr jq iz ly mw jr iH nu o6 lj mc jg iv ll me jh iw nq nv uI tD:Value}:Ct Tryz.prog 110 true (fM x0 x1 x2 x3 x4 x5 x6 (fun a0 a1=>fB fh a0 a1)) [.pointer (some (cZ)),.int .i64 (x1),.int .i64 (x2),.int .i64 (x3),.pointer (some (sL)),.agg #[.int .i64 (x5.aH),.int .i64 (x5.To)],.int .i64 (x6),.func (.func 114) #[.pointer (some (Cy))] #[]] [.bb sL [.int .i64 (x4.aA),qM,rK,mB,kZ],.bb cZ [.int .i64 (x0.Left.aB.aA),bJ,bP,aZ,aT,.int .i64 (x0.Left.aF.aA),bK,bQ,bA,aU,bW,cA,.int .i64 (x0.ab.aB.aA),bG,bL,aW,aQ,.int .i64 (x0.ab.aF.aA),bH,bN,aY,aR,bS,bX,cS,cN],rI bJ x0.Left.aB.aH,rI bP x0.Left.aB.To,rI aZ x0.Left.aB.aJ,rJ aT x0.Left.aB.aE,rI bK x0.Left.aF.aH,rI bQ x0.Left.aF.To,rI bA x0.Left.aF.aJ,rJ aU x0.Left.aF.aE,rI bW x0.Left.aA,rI cA x0.Left.ae,rI bG x0.ab.aB.aH,rI bL x0.ab.aB.To,rI aW x0.ab.aB.aJ,rJ aQ x0.ab.aB.aE,rI bH x0.ab.aF.aH,rI bN x0.ab.aF.To,rI aY x0.ab.aF.aJ,rJ aR x0.ab.aF.aE,rI bS x0.ab.aA,rI bX x0.ab.ae,rI cS x0.Unit,rI cN x0.ba,rI qM x4.aH,rI rK x4.To,rI mB x4.aJ,rJ kZ x4.aE,.bb Cy [.int .i64 (fh.Left.aB.aA),lv,mr,jq,iz,.int .i64 (fh.Left.aF.aA),ly,mw,jr,iH,nu,o6,.int .i64 (fh.ab.aB.aA),lj,mc,jg,iv,.int .i64 (fh.ab.aF.aA),ll,me,jh,iw,nq,nv,uI,tD],rI lv fh.Left.aB.aH,rI mr fh.Left.aB.To,rI jq fh.Left.aB.aJ,rJ iz fh.Left.aB.aE,rI ly fh.Left.aF.aH,rI mw fh.Left.aF.To,rI jr fh.Left.aF.aJ,rJ iH fh.Left.aF.aE,rI nu fh.Left.aA,rI o6 fh.Left.ae,rI lj fh.ab.aB.aH,rI mc fh.ab.aB.To,rI jg fh.ab.aB.aJ,rJ iv fh.ab.aB.aE,rI ll fh.ab.aF.aH,rI me fh.ab.aF.To,rI jh fh.ab.aF.aJ,rJ iw fh.ab.aF.aE,rI nq fh.ab.aA,rI nv fh.ab.ae,rI uI fh.Unit,rI tD fh.ba] (fun y (_:Unit)=>[.int .i64 y.1,.int .i64 y.2]) (fun y _=>[]):=by
 refine ct (S:=Unit) (cf fun _ _=>rfl) Tryz.func110 rfl rfl ?_
 repeat' first
  | (apply Dk.fe; repeat' first | exact rfl | (refine @id.{0} _ ?_; constructor))
  | intro _
  | exact rfl
  | (refine @id.{0} _ ?_; constructor)
  | apply Dk.quiet (id:=3) (by kernel_rfl)
  | apply Js
  | apply Jt
  | apply MJ
  | apply Yh
  | exact ()
theorem afG {x0:aO} {cZ:Addr} {bT cB bD bB bU cC bE bC cD cG:Value}:Ct Tryz.prog 221 true (jO x0) [.pointer (some (cZ))] [.bb cZ [.int .i64 (x0.aB.aA),bT,cB,bD,bB,.int .i64 (x0.aF.aA),bU,cC,bE,bC,cD,cG],rI bT x0.aB.aH,rI cB x0.aB.To,rI bD x0.aB.aJ,rJ bB x0.aB.aE,rI bU x0.aF.aH,rI cC x0.aF.To,rI bE x0.aF.aJ,rJ bC x0.aF.aE,rI cD x0.aA,rI cG x0.ae] (fun y (v:Value×Value×Value×Value×Value×Value×Value×Value×Value×Value)=>[.agg #[.int .i64 y.aB.aA,v.1,v.2.1,v.2.2.1,v.2.2.2.1,.int .i64 y.aF.aA,v.2.2.2.2.1,v.2.2.2.2.2.1,v.2.2.2.2.2.2.1,v.2.2.2.2.2.2.2.1,v.2.2.2.2.2.2.2.2.1,v.2.2.2.2.2.2.2.2.2]]) (fun y v=>[.own (aK 2 (aM .i64)) v.1 y.aB.aH,.own (aK 2 (aM .i64)) v.2.1 y.aB.To,.own (aK 2 (aM .i64)) v.2.2.1 y.aB.aJ,.own (aK 24 (aK 2 (aM .i64))) v.2.2.2.1 y.aB.aE,.own (aK 2 (aM .i64)) v.2.2.2.2.1 y.aF.aH,.own (aK 2 (aM .i64)) v.2.2.2.2.2.1 y.aF.To,.own (aK 2 (aM .i64)) v.2.2.2.2.2.2.1 y.aF.aJ,.own (aK 24 (aK 2 (aM .i64))) v.2.2.2.2.2.2.2.1 y.aF.aE,.own (aK 2 (aM .i64)) v.2.2.2.2.2.2.2.2.1 y.aA,.own (aK 2 (aM .i64)) v.2.2.2.2.2.2.2.2.2 y.ae]):=by
 refine ct (S:=Unit) (cf fun _ _=>rfl) Tryz.func221 rfl rfl ?_
 repeat' first
  | (apply Dk.fe; repeat' first | exact rfl | (refine @id.{0} _ ?_; constructor))
  | intro _
  | exact rfl
  | (refine @id.{0} _ ?_; constructor)
  | apply Dk.any (id:=1) 14 [] [] [[],[0],[0,1],[],[3],[3,4],[],[6],[6,7],[6,7,8],[],[10],[10,11],[10,11,12]] (by kernel_rfl)
  | apply Yq
  | exact ()
end Go.Proofs.YtjdkifckhidlbaaGreat
