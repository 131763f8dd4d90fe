/- Walks by the calculus D. No condition beside those that each theorem names. -/
import Derived.Test.YtjdkifckhidlbaaGreatDp
import Derived.Test.YtjdkifckhidlbaaGreatDi
import Derived.Test.YtjdkifckhidlbaaGreatMo
import Derived.Test.YtjdkifckhidlbaaGreatDs
namespace Go.Proofs.YtjdkifckhidlbaaGreat
open Go Go.Li Go.Dk
set_option linter.unusedVariables false
set_option maxHeartbeats 16000000
set_option maxRecDepth 100000
theorem ae8 {x0:(List Int)} {cX:Value} {x1:(List Int)} {fH:Value}:Ct Tryz.prog 308 true (mN x0 x1) [cX,fH] [rI cX x0,rI fH x1] (fun y (_:Unit)=>[.bool y]) (fun y _=>[]):=by
 refine ct (S:=Unit) (cf fun _ _=>rfl) Tryz.func308 rfl rfl ?_
 repeat' first
  | (apply Dk.fe; repeat' first | exact rfl | (refine @id.{0} _ ?_; constructor))
  | intro _
  | exact rfl
  | (refine @id.{0} _ ?_; constructor)
  | apply Dk.loop 0 (V:=Unit) (fun (s:Int) v=>[]) (fun s v=>[(5,.int .i64 (s))]) () [(0,_),(1,_)]
  | apply Dk.quiet (id:=4) (by kernel_rfl)
  | apply Dk.quiet (id:=5) (by kernel_rfl)
  | exact ()
theorem ae9 {x0:cE} {sG:Value} {x1:cE} {sH:Value}:Ct Tryz.prog 307 true (jW x0 x1) [.agg #[.int .i64 (x0.aH),.int .i64 (x0.To),sG],.agg #[.int .i64 (x1.aH),.int .i64 (x1.To),sH]] [rI sG x0.nk,rI sH x1.nk] (fun y (_:Unit)=>[.bool y]) (fun y _=>[]):=by
 refine ct (S:=Unit) (cf fun _ _=>rfl) Tryz.func307 rfl rfl ?_
 repeat' first
  | (apply Dk.fe; repeat' first | exact rfl | (refine @id.{0} _ ?_; constructor))
  | intro _
  | exact rfl
  | (refine @id.{0} _ ?_; constructor)
  | apply ae8
  | exact ()
theorem afa {x0:aI} {bF bV aP aN:Value}:Ct Tryz.prog 187 true (nX x0) [.agg #[.int .i64 (x0.aA),bF,bV,aP,aN]] [rI bF x0.aH,rI bV x0.To,rI aP x0.aJ,rJ aN x0.aE] (fun y (_:Unit)=>[.int .i64 y.1,.int .i64 y.2.1,.int .i64 y.2.2.1,.int .i64 y.2.2.2]) (fun y _=>[]):=by
 refine ct (S:=Unit) (cf fun _ _=>rfl) Tryz.func187 rfl rfl ?_
 repeat' first
  | (apply Dk.fe; repeat' first | exact rfl | (refine @id.{0} _ ?_; constructor))
  | intro _
  | exact rfl
  | (refine Dk.va (t:=65) rfl ?_ ?_)
  | (refine Dk.va (t:=81) rfl ?_ ?_)
  | (refine @id.{0} _ ?_; constructor)
  | apply Dk.loop 0 (V:=Unit) (fun (s:Int) v=>[]) (fun s v=>[(7,.int .i64 (s))]) () [(1,_),(6,_)]
  | apply Dk.loop 2 (V:=Unit) (fun (s:Int) v=>[]) (fun s v=>[(8,.int .i64 (s))]) () [(1,_),(6,_)]
  | apply Dk.loop 4 (V:=Unit) (fun (s:Int) v=>[]) (fun s v=>[(9,.int .i64 (s))]) () [(1,_),(6,_),(8,_)]
  | apply Dk.loop 6 (V:=Unit) (fun (s:Int) v=>[]) (fun s v=>[(10,.int .i64 (s))]) () [(1,_),(6,_),(8,_),(9,_)]
  | apply Dk.quiet (id:=5) (by kernel_rfl)
  | apply Dk.quiet (id:=13) (by kernel_rfl)
  | apply Dk.quiet (id:=17) (by kernel_rfl)
  | exact ()
theorem afb {x0:(List Int)} {cX:Value} {x1:(List Int)} {fH:Value}:Ct Tryz.prog 222 true (mR x0 x1) [cX,fH] [rI cX x0,rI fH x1] (fun y (v:Value)=>[v]) (fun y v=>[.own (aK 2 (aM .i64)) v y]):=by
 refine ct (S:=Unit) (cf fun _ _=>rfl) Tryz.func222 rfl rfl ?_
 repeat' first
  | (apply Dk.fe; repeat' first | exact rfl | (refine @id.{0} _ ?_; constructor))
  | intro _
  | exact rfl
  | (refine @id.{0} _ ?_; constructor)
  | apply Dk.loop 0 (V:=Value) (fun (s:(List Int)×Int) v=>[.own (aK 2 (aM .i64)) v s.1]) (fun s v=>[(5,v),(6,.int .i64 (s.2))]) _ [(0,_),(1,_)]
  | exact ()
theorem Js {x0:aI} {cZ:Addr} {bF bV aP aN:Value}:Ct Tryz.prog 81 true (dB x0) [.pointer (some (cZ))] [.bb cZ [.int .i64 (x0.aA),bF,bV,aP,aN],rI bF x0.aH,rI bV x0.To,rI aP x0.aJ,rJ aN x0.aE] (fun y (_:Unit)=>[.int .i64 y]) (fun y _=>[]):=by
 refine ct (S:=Unit) (cf fun _ _=>rfl) Tryz.func81 rfl rfl ?_
 repeat' first
  | (apply Dk.fe; repeat' first | exact rfl | (refine @id.{0} _ ?_; constructor))
  | intro _
  | exact rfl
  | (refine @id.{0} _ ?_; constructor)
  | exact ()
theorem MJ {x0:aI} {cZ:Addr} {bF bV aP aN:Value} {x1:Int}:Ct Tryz.prog 121 true (eV x0 x1) [.pointer (some (cZ)),.int .i64 (x1)] [.bb cZ [.int .i64 (x0.aA),bF,bV,aP,aN],rI bF x0.aH,rI bV x0.To,rI aP x0.aJ,rJ aN x0.aE] (fun y (_:Unit)=>[.agg #[.int .i64 y.aH,.int .i64 y.To]]) (fun y _=>[]):=by
 refine ct (S:=Unit) (cf fun _ _=>rfl) Tryz.func121 rfl rfl ?_
 repeat' first
  | (apply Dk.fe; repeat' first | exact rfl | (refine @id.{0} _ ?_; constructor))
  | intro _
  | exact rfl
  | (refine @id.{0} _ ?_; constructor)
  | apply Dk.any (id:=1) 14 [] [] [[],[0],[0,1],[0,1,2],[],[0,1,2,3,4],[0,1,2,3,4,5],[],[7],[7,8],[7,8,9],[],[7,8,9,10,11],[7,8,9,10,11,12]] (by kernel_rfl)
  | exact ()
theorem FX {x0:aI} {cZ:Addr} {bF bV aP aN:Value} {x1:Int} {x2:Int}:Ct Tryz.prog 179 true (cY x0 x1 x2) [.pointer (some (cZ)),.int .i64 (x1),.int .i64 (x2)] [.bb cZ [.int .i64 (x0.aA),bF,bV,aP,aN],rI bF x0.aH,rI bV x0.To,rI aP x0.aJ,rJ aN x0.aE] (fun y (_:Unit)=>[.int .i64 y]) (fun y _=>[]):=by
 refine ct (S:=Unit) (cf fun _ _=>rfl) Tryz.func179 rfl rfl ?_
 repeat' first
  | (apply Dk.fe; repeat' first | exact rfl | (refine @id.{0} _ ?_; constructor))
  | intro _
  | exact rfl
  | (refine @id.{0} _ ?_; constructor)
  | exact ()
theorem afc {x0:aI} {cZ:Addr} {bF bV aP aN:Value}:Ct Tryz.prog 202 true (kN x0) [.pointer (some (cZ))] [.bb cZ [.int .i64 (x0.aA),bF,bV,aP,aN],rI bF x0.aH,rI bV x0.To,rI aP x0.aJ,rJ aN x0.aE] (fun y (_:Unit)=>[.int .i64 y.1,.int .i64 y.2.1,.int .i64 y.2.2.1,.int .i64 y.2.2.2]) (fun y _=>[]):=by
 refine ct (S:=Unit) (cf fun _ _=>rfl) Tryz.func202 rfl rfl ?_
 repeat' first
  | (apply Dk.fe; repeat' first | exact rfl | (refine @id.{0} _ ?_; constructor))
  | intro _
  | exact rfl
  | (refine Dk.va (t:=64) rfl ?_ ?_)
  | (refine Dk.va (t:=74) rfl ?_ ?_)
  | (refine @id.{0} _ ?_; constructor)
  | apply Dk.loop 0 (V:=Unit) (fun (s:Int) v=>[]) (fun s v=>[(7,.int .i64 (s))]) () [(0,_),(6,_)]
  | apply Dk.loop 2 (V:=Unit) (fun (s:Int) v=>[]) (fun s v=>[(8,.int .i64 (s))]) () [(0,_),(6,_)]
  | apply Dk.loop 4 (V:=Unit) (fun (s:Int) v=>[]) (fun s v=>[(9,.int .i64 (s))]) () [(0,_),(6,_),(8,_)]
  | apply Dk.loop 6 (V:=Unit) (fun (s:Int) v=>[]) (fun s v=>[(10,.int .i64 (s))]) () [(0,_),(6,_),(8,_),(9,_)]
  | apply Dk.quiet (id:=5) (by kernel_rfl)
  | apply Js
  | apply FX
  | exact ()
theorem Tg {x0:(List Int)} {cX:Value}:Ct Tryz.prog 80 true (gU x0) [cX] [rI cX x0] (fun y (v:Value)=>[v]) (fun y v=>[.own (aK 2 (aM .i64)) v y]):=by
 refine ct (S:=Unit) (cf fun _ _=>rfl) Tryz.func80 rfl rfl ?_
 repeat' first
  | (apply Dk.fe; repeat' first | exact rfl | (refine @id.{0} _ ?_; constructor))
  | intro _
  | exact rfl
  | (refine @id.{0} _ ?_; constructor)
  | exact ()
theorem afd {x0:(List (List Int))} {cX:Value}:Ct Tryz.prog 250 true (qK x0) [cX] [rJ cX x0] (fun y (v:Value)=>[v]) (fun y v=>[.own (aK 24 (aK 2 (aM .i64))) v y]):=by
 refine ct (S:=Unit) (cf fun _ _=>rfl) Tryz.func250 rfl rfl ?_
 repeat' first
  | (apply Dk.fe; repeat' first | exact rfl | (refine @id.{0} _ ?_; constructor))
  | intro _
  | exact rfl
  | (refine @id.{0} _ ?_; constructor)
  | apply Dk.loop 0 (V:=Value) (fun (s:(List (List Int))×Int) v=>[.own (aK 24 (aK 2 (aM .i64))) v s.1]) (fun s v=>[(3,v),(11,.int .i64 (s.2))]) _ [(9,_),(10,_)]
  | apply Tg
  | exact ()
theorem afe {x0:Int}:Ct Tryz.prog 128 true (mW x0) [.int .i64 (x0)] [] (fun y (v:Value)=>[v]) (fun y v=>[.own (aK 2 (aM .i64)) v y]):=by
 refine ct (S:=Unit) (cf fun _ _=>rfl) Tryz.func128 rfl rfl ?_
 repeat' first
  | (apply Dk.fe; repeat' first | exact rfl | (refine @id.{0} _ ?_; constructor))
  | intro _
  | exact rfl
  | (refine @id.{0} _ ?_; constructor)
  | apply Dk.j5 0 (V:=Unit) (A:=Value) _ (fun a (s:Int×(List Int)) v=>[.own (aK 2 (aM .i64)) a s.2]) (fun a s v=>[(3,a),(9,.int .i64 (s.1))]) () [(8,_)]
  | exact ()
theorem aff {x0:aO} {cZ:Addr} {bT cB bD bB bU cC bE bC cD cG:Value} {x1:aO} {lO:Addr} {cT cV cO cJ cU cW cP cK dA dD:Value} {x2:(List Int)} {eB:Value} {x3:Int}:Ct Tryz.prog 235 true (jN x0 x1 x2 x3) [.pointer (some (cZ)),.pointer (some (lO)),eB,.int .i64 (x3)] [.bb lO [.int .i64 (x1.aB.aA),cT,cV,cO,cJ,.int .i64 (x1.aF.aA),cU,cW,cP,cK,dA,dD],.bb cZ [.int .i64 (x0.aB.aA),bT,cB,bD,bB,.int .i64 (x0.aF.aA),bU,cC,bE,bC,cD,cG],rI bT x0.aB.aH,rI cB x0.aB.To,rI bD x0.aB.aJ,rJ bB x0.aB.aE,rI bU x0.aF.aH,rI cC x0.aF.To,rI bE x0.aF.aJ,rJ bC x0.aF.aE,rI cD x0.aA,rI cG x0.ae,rI cT x1.aB.aH,rI cV x1.aB.To,rI cO x1.aB.aJ,rJ cJ x1.aB.aE,rI cU x1.aF.aH,rI cW x1.aF.To,rI cP x1.aF.aJ,rJ cK x1.aF.aE,rI dA x1.aA,rI dD x1.ae,rI eB x2] (fun y (_:Unit)=>[.bool y]) (fun y _=>[]):=by
 refine ct (S:=Unit) (cf fun _ _=>rfl) Tryz.func235 rfl rfl ?_
 repeat' first
  | (apply Dk.fe; repeat' first | exact rfl | (refine @id.{0} _ ?_; constructor))
  | intro _
  | exact rfl
  | (refine @id.{0} _ ?_; constructor)
  | apply Dk.quiet (id:=1) (by kernel_rfl)
  | apply Dk.quiet (id:=2) (by kernel_rfl)
  | apply FX
  | exact ()
theorem RD {x0:aS} {cZ:Addr} {bJ bP aZ aT bK bQ bA aU bW cA bG bL aW aQ bH bN aY aR bS bX cS cN:Value} {x1:Int} {x2:Int}:Ct Tryz.prog 111 true (fA x0 x1 x2) [.pointer (some (cZ)),.int .i64 (x1),.int .i64 (x2)] [.bb cZ [.int .i64 (x0.Left.aB.aA),bJ,bP,aZ,aT,.int .i64 (x0.Left.aF.aA),bK,bQ,bA,aU,bW,cA,.int .i64 (x0.ab.aB.aA),bG,bL,aW,aQ,.int .i64 (x0.ab.aF.aA),bH,bN,aY,aR,bS,bX,cS,cN],rI bJ x0.Left.aB.aH,rI bP x0.Left.aB.To,rI aZ x0.Left.aB.aJ,rJ aT x0.Left.aB.aE,rI bK x0.Left.aF.aH,rI bQ x0.Left.aF.To,rI bA x0.Left.aF.aJ,rJ aU x0.Left.aF.aE,rI bW x0.Left.aA,rI cA x0.Left.ae,rI bG x0.ab.aB.aH,rI bL x0.ab.aB.To,rI aW x0.ab.aB.aJ,rJ aQ x0.ab.aB.aE,rI bH x0.ab.aF.aH,rI bN x0.ab.aF.To,rI aY x0.ab.aF.aJ,rJ aR x0.ab.aF.aE,rI bS x0.ab.aA,rI bX x0.ab.ae,rI cS x0.Unit,rI cN x0.ba] (fun y (_:Unit)=>[.int .i64 y]) (fun y _=>[]):=by
 refine ct (S:=Unit) (cf fun _ _=>rfl) Tryz.func111 rfl rfl ?_
 repeat' first
  | (apply Dk.fe; repeat' first | exact rfl | (refine @id.{0} _ ?_; constructor))
  | intro _
  | exact rfl
  | (refine @id.{0} _ ?_; constructor)
  | apply Dk.quiet (id:=1) (by kernel_rfl)
  | apply FX
  | exact ()
theorem Yh {x0:aS} {cZ:Addr} {bJ bP aZ aT bK bQ bA aU bW cA bG bL aW aQ bH bN aY aR bS bX cS cN:Value} {x1:Int} {x2:Int}:Ct Tryz.prog 114 true (fB x0 x1 x2) [.pointer (some (cZ)),.int .i64 (x1),.int .i64 (x2)] [.bb cZ [.int .i64 (x0.Left.aB.aA),bJ,bP,aZ,aT,.int .i64 (x0.Left.aF.aA),bK,bQ,bA,aU,bW,cA,.int .i64 (x0.ab.aB.aA),bG,bL,aW,aQ,.int .i64 (x0.ab.aF.aA),bH,bN,aY,aR,bS,bX,cS,cN],rI bJ x0.Left.aB.aH,rI bP x0.Left.aB.To,rI aZ x0.Left.aB.aJ,rJ aT x0.Left.aB.aE,rI bK x0.Left.aF.aH,rI bQ x0.Left.aF.To,rI bA x0.Left.aF.aJ,rJ aU x0.Left.aF.aE,rI bW x0.Left.aA,rI cA x0.Left.ae,rI bG x0.ab.aB.aH,rI bL x0.ab.aB.To,rI aW x0.ab.aB.aJ,rJ aQ x0.ab.aB.aE,rI bH x0.ab.aF.aH,rI bN x0.ab.aF.To,rI aY x0.ab.aF.aJ,rJ aR x0.ab.aF.aE,rI bS x0.ab.aA,rI bX x0.ab.ae,rI cS x0.Unit,rI cN x0.ba] (fun y (_:Unit)=>[.int .i64 y]) (fun y _=>[]):=by
 refine ct (S:=Unit) (cf fun _ _=>rfl) Tryz.func114 rfl rfl ?_
 repeat' first
  | (apply Dk.fe; repeat' first | exact rfl | (refine @id.{0} _ ?_; constructor))
  | intro _
  | exact rfl
  | (refine @id.{0} _ ?_; constructor)
  | apply Dk.quiet (id:=1) (by kernel_rfl)
  | apply FX
  | exact ()
end Go.Proofs.YtjdkifckhidlbaaGreat
