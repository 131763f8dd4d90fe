/- Walks by the calculus D. No condition beside those that each theorem names. -/
import Derived.Test.YtcnehblmgfbfoaaGreatDp
import Derived.Test.YtcnehblmgfbfoaaGreatDi
import Derived.Test.YtcnehblmgfbfoaaGreatMo
import Derived.Test.YtcnehblmgfbfoaaGreatDs
import Derived.Test.YtcnehblmgfbfoaaGreatWa
import Derived.Test.YtcnehblmgfbfoaaGreatWc
import Derived.Test.YtcnehblmgfbfoaaGreatWd
import Derived.Test.YtcnehblmgfbfoaaGreatWe
import Derived.Test.YtcnehblmgfbfoaaGreatWf
import Derived.Test.YtcnehblmgfbfoaaGreatWh
namespace Go.Proofs.YtcnehblmgfbfoaaGreat
open Go Go.Li Go.Dk
set_option linter.unusedVariables false
set_option maxHeartbeats 16000000
set_option maxRecDepth 100000
theorem Yk {x0:(List aH)} {cA:Value}:Ct Tryz.prog 171 true (iZ x0) [cA] [.rd false (bE (kn Ki)) cA x0] (fun y (_:Unit)=>[.bool y]) (fun y _=>[]):=by
 refine ct (S:=Unit) (bp fun _ _=>rfl) Tryz.func171 rfl rfl ?_
 repeat' first
  | (apply Dk.fe; repeat' first | exact rfl | (refine @id.{0} _ ?_; constructor))
  | intro _
  | exact rfl
  | (refine @id.{0} _ ?_; constructor)
  | apply Dk.loop 0 (V:=Unit) (fun (s:Int) v=>[]) (fun s v=>[(7,.int .i64 (s))]) () [(5,_),(6,_)]
  | apply X6
  | exact ()
theorem Si {x0:aS} {cD:Addr} {bI bP bF bC bJ bQ bG bD bU bV:Value}:Ct Tryz.prog 109 true (eX x0) [.pointer (some (cD))] [.aw cD [.int .i64 (x0.aB.aD),bI,bP,bF,bC,.int .i64 (x0.aE.aD),bJ,bQ,bG,bD,bU,bV],rI bI x0.aB.aF,rI bP x0.aB.To,rI bF x0.aB.aG,rJ bC x0.aB.aC,rI bJ x0.aE.aF,rI bQ x0.aE.To,rI bG x0.aE.aG,rJ bD x0.aE.aC,rI bU x0.aD,rI bV x0.ab] (fun y (_:Unit)=>[.bool y]) (fun y _=>[]):=by
 refine ct (S:=Unit) (bp fun _ _=>rfl) Tryz.func109 rfl rfl ?_
 repeat' first
  | (apply Dk.fe; repeat' first | exact rfl | (refine @id.{0} _ ?_; constructor))
  | intro _
  | exact rfl
  | (refine @id.{0} _ ?_; constructor)
  | apply Dk.Pz (id:=1) 7 [] [[],[0],[0,1],[],[3],[3,4],[0,1,2,3,4,5]] (by kernel_rfl)
  | apply Yk
  | apply X3
  | exact ()
theorem Yl {x0:aH} {cD:Addr} {bH bR aW aT:Value}:Ct Tryz.prog 202 true (mG x0) [.pointer (some (cD))] [.aw cD [.int .i64 (x0.aD),bH,bR,aW,aT],rI bH x0.aF,rI bR x0.To,rI aW x0.aG,rJ aT x0.aC] (fun y (v:Value×Value×Value×Value×Value×Value×Value×Value×Value×Value)=>[.agg #[.int .i64 y.aB.aD,v.1,v.2.1,v.2.2.1,v.2.2.2.1,.int .i64 y.aE.aD,v.2.2.2.2.1,v.2.2.2.2.2.1,v.2.2.2.2.2.2.1,v.2.2.2.2.2.2.2.1,v.2.2.2.2.2.2.2.2.1,v.2.2.2.2.2.2.2.2.2]]) (fun y v=>[.own (aI 2 (aJ .i64)) v.1 y.aB.aF,.own (aI 2 (aJ .i64)) v.2.1 y.aB.To,.own (aI 2 (aJ .i64)) v.2.2.1 y.aB.aG,.own (aI 22 (aI 2 (aJ .i64))) v.2.2.2.1 y.aB.aC,.own (aI 2 (aJ .i64)) v.2.2.2.2.1 y.aE.aF,.own (aI 2 (aJ .i64)) v.2.2.2.2.2.1 y.aE.To,.own (aI 2 (aJ .i64)) v.2.2.2.2.2.2.1 y.aE.aG,.own (aI 22 (aI 2 (aJ .i64))) v.2.2.2.2.2.2.2.1 y.aE.aC,.own (aI 2 (aJ .i64)) v.2.2.2.2.2.2.2.2.1 y.aD,.own (aI 2 (aJ .i64)) v.2.2.2.2.2.2.2.2.2 y.ab]):=by
 refine ct (S:=Unit) (bp fun _ _=>rfl) Tryz.func202 rfl rfl ?_
 repeat' first
  | (apply Dk.fe; repeat' first | exact rfl | (refine @id.{0} _ ?_; constructor))
  | intro _
  | exact rfl
  | (refine @id.{0} _ ?_; constructor)
  | apply XN
  | apply D2
  | apply Sg
  | exact ()
theorem c99 {x0:aS} {cD:Addr} {bI bP bF bC bJ bQ bG bD bU bV:Value} {x1:aS} {kA:Addr} {cF cP cB bY cG cQ cC bZ cY dE:Value}:Ct Tryz.prog 99 true (jN x0 x1) [.pointer (some (cD)),.pointer (some (kA))] [.aw kA [.int .i64 (x1.aB.aD),cF,cP,cB,bY,.int .i64 (x1.aE.aD),cG,cQ,cC,bZ,cY,dE],.aw cD [.int .i64 (x0.aB.aD),bI,bP,bF,bC,.int .i64 (x0.aE.aD),bJ,bQ,bG,bD,bU,bV],rI bI x0.aB.aF,rI bP x0.aB.To,rI bF x0.aB.aG,rJ bC x0.aB.aC,rI bJ x0.aE.aF,rI bQ x0.aE.To,rI bG x0.aE.aG,rJ bD x0.aE.aC,rI bU x0.aD,rI bV x0.ab,rI cF x1.aB.aF,rI cP x1.aB.To,rI cB x1.aB.aG,rJ bY x1.aB.aC,rI cG x1.aE.aF,rI cQ x1.aE.To,rI cC x1.aE.aG,rJ bZ x1.aE.aC,rI cY x1.aD,rI dE x1.ab] (fun y (v:Value×Value×Value×Value×Value×Value×Value×Value×Value×Value)=>[.agg #[.int .i64 y.aB.aD,v.1,v.2.1,v.2.2.1,v.2.2.2.1,.int .i64 y.aE.aD,v.2.2.2.2.1,v.2.2.2.2.2.1,v.2.2.2.2.2.2.1,v.2.2.2.2.2.2.2.1,v.2.2.2.2.2.2.2.2.1,v.2.2.2.2.2.2.2.2.2]]) (fun y v=>[.own (aI 2 (aJ .i64)) v.1 y.aB.aF,.own (aI 2 (aJ .i64)) v.2.1 y.aB.To,.own (aI 2 (aJ .i64)) v.2.2.1 y.aB.aG,.own (aI 22 (aI 2 (aJ .i64))) v.2.2.2.1 y.aB.aC,.own (aI 2 (aJ .i64)) v.2.2.2.2.1 y.aE.aF,.own (aI 2 (aJ .i64)) v.2.2.2.2.2.1 y.aE.To,.own (aI 2 (aJ .i64)) v.2.2.2.2.2.2.1 y.aE.aG,.own (aI 22 (aI 2 (aJ .i64))) v.2.2.2.2.2.2.2.1 y.aE.aC,.own (aI 2 (aJ .i64)) v.2.2.2.2.2.2.2.2.1 y.aD,.own (aI 2 (aJ .i64)) v.2.2.2.2.2.2.2.2.2 y.ab]):=by
 refine ct (S:=Unit) (bp fun _ _=>rfl) Tryz.func99 rfl rfl ?_
 repeat' first
  | (apply Dk.fe; repeat' first | exact rfl | (refine @id.{0} _ ?_; constructor))
  | intro _
  | exact rfl
  | (refine @id.{0} _ ?_; constructor)
  | apply Dk.any (id:=1) 24 [] [] [[],[0],[0,1],[],[3],[3,4],[],[6],[6,7],[6,7,8],[],[10],[10,11],[10,11,12],[6,7,8,9,10,11,12,13],[],[15],[15,16],[15,16,17],[],[19],[19,20],[19,20,21],[6,7,8,9,10,11,12,13,14,15,16,17,18,19,20,21,22]] (by kernel_rfl)
  | apply XX
  | apply Sg
  | exact ()
theorem c84 {x0:(List aS)} {cA:Value}:Ct Tryz.prog 84 true (kH x0) [cA] [.rd false (bE (kn Kj)) cA x0] (fun y (_:Unit)=>[.bool y]) (fun y _=>[]):=by
 refine ct (S:=Unit) (bp fun _ _=>rfl) Tryz.func84 rfl rfl ?_
 repeat' first
  | (apply Dk.fe; repeat' first | exact rfl | (refine @id.{0} _ ?_; constructor))
  | intro _
  | exact rfl
  | (refine @id.{0} _ ?_; constructor)
  | apply Dk.loop 0 (V:=Unit) (fun (s:Int) v=>[]) (fun s v=>[(7,.int .i64 (s))]) () [(5,_),(6,_)]
  | apply Si
  | exact ()
theorem Ym {x0:bO} {cD:Addr} {cZ dF cS cK dA dG cT cL dO dW dB dH cU cM dC dI cV cN dP dX eR:Value}:Ct Tryz.prog 287 true (eQ x0) [.pointer (some (cD))] [.aw cD [.int .i64 (x0.aB.aB.aD),cZ,dF,cS,cK,.int .i64 (x0.aB.aE.aD),dA,dG,cT,cL,dO,dW,.int .i64 (x0.aE.aB.aD),dB,dH,cU,cM,.int .i64 (x0.aE.aE.aD),dC,dI,cV,cN,dP,dX,eR],rI cZ x0.aB.aB.aF,rI dF x0.aB.aB.To,rI cS x0.aB.aB.aG,rJ cK x0.aB.aB.aC,rI dA x0.aB.aE.aF,rI dG x0.aB.aE.To,rI cT x0.aB.aE.aG,rJ cL x0.aB.aE.aC,rI dO x0.aB.aD,rI dW x0.aB.ab,rI dB x0.aE.aB.aF,rI dH x0.aE.aB.To,rI cU x0.aE.aB.aG,rJ cM x0.aE.aB.aC,rI dC x0.aE.aE.aF,rI dI x0.aE.aE.To,rI cV x0.aE.aE.aG,rJ cN x0.aE.aE.aC,rI dP x0.aE.aD,rI dX x0.aE.ab,rI eR x0.bb] (fun y (_:Unit)=>[.bool y]) (fun y _=>[]):=by
 refine ct (S:=Unit) (bp fun _ _=>rfl) Tryz.func287 rfl rfl ?_
 repeat' first
  | (apply Dk.fe; repeat' first | exact rfl | (refine @id.{0} _ ?_; constructor))
  | intro _
  | exact rfl
  | (refine @id.{0} _ ?_; constructor)
  | apply Dk.loop 0 (V:=Unit) (fun (s:Int) v=>[]) (fun s v=>[(54,.int .i64 (s))]) () [(3,_),(4,_),(52,_),(53,_)]
  | apply Dk.quiet (id:=1) (by kernel_rfl)
  | apply Dk.quiet (id:=7) (by kernel_rfl)
  | apply Dk.Pz (id:=2) 3 [] [[],[],[0,1]] (by kernel_rfl)
  | apply c84
  | apply Yf
  | apply D2
  | apply Lu
  | apply Lo
  | exact ()
theorem Yn {x0:bO} {cD:Addr} {cZ dF cS cK dA dG cT cL dO dW dB dH cU cM dC dI cV cN dP dX eR:Value}:Ct Tryz.prog 275 true (eI x0) [.pointer (some (cD))] [.aw cD [.int .i64 (x0.aB.aB.aD),cZ,dF,cS,cK,.int .i64 (x0.aB.aE.aD),dA,dG,cT,cL,dO,dW,.int .i64 (x0.aE.aB.aD),dB,dH,cU,cM,.int .i64 (x0.aE.aE.aD),dC,dI,cV,cN,dP,dX,eR],rI cZ x0.aB.aB.aF,rI dF x0.aB.aB.To,rI cS x0.aB.aB.aG,rJ cK x0.aB.aB.aC,rI dA x0.aB.aE.aF,rI dG x0.aB.aE.To,rI cT x0.aB.aE.aG,rJ cL x0.aB.aE.aC,rI dO x0.aB.aD,rI dW x0.aB.ab,rI dB x0.aE.aB.aF,rI dH x0.aE.aB.To,rI cU x0.aE.aB.aG,rJ cM x0.aE.aB.aC,rI dC x0.aE.aE.aF,rI dI x0.aE.aE.To,rI cV x0.aE.aE.aG,rJ cN x0.aE.aE.aC,rI dP x0.aE.aD,rI dX x0.aE.ab,rI eR x0.bb] (fun y (_:Unit)=>[.bool y]) (fun y _=>[]):=by
 refine ct (S:=Unit) (bp fun _ _=>rfl) Tryz.func275 rfl rfl ?_
 repeat' first
  | (apply Dk.fe; repeat' first | exact rfl | (refine @id.{0} _ ?_; constructor))
  | intro _
  | exact rfl
  | (refine @id.{0} _ ?_; constructor)
  | apply Ym
  | apply Jg
  | exact ()
theorem Yo {x0:(List bO)} {cA:Value}:Ct Tryz.prog 226 true (jC x0) [cA] [.rd false (bE (kn Gu)) cA x0] (fun y (_:Unit)=>[.bool y]) (fun y _=>[]):=by
 refine ct (S:=Unit) (bp fun _ _=>rfl) Tryz.func226 rfl rfl ?_
 repeat' first
  | (apply Dk.fe; repeat' first | exact rfl | (refine @id.{0} _ ?_; constructor))
  | intro _
  | exact rfl
  | (refine @id.{0} _ ?_; constructor)
  | apply Dk.loop 0 (V:=Unit) (fun (s:Int) v=>[]) (fun s v=>[(7,.int .i64 (s))]) () [(5,_),(6,_)]
  | apply Yn
  | exact ()
theorem Sj {x0:bB} {cD:Addr} {aQ aU aO aL aR aV aP aN aZ bA bM bN:Value}:Ct Tryz.prog 140 true (gF x0) [.pointer (some (cD))] [.aw cD [.int .i64 (x0.On.aB.aD),aQ,aU,aO,aL,.int .i64 (x0.On.aE.aD),aR,aV,aP,aN,aZ,bA,bM,bN],rI aQ x0.On.aB.aF,rI aU x0.On.aB.To,rI aO x0.On.aB.aG,rJ aL x0.On.aB.aC,rI aR x0.On.aE.aF,rI aV x0.On.aE.To,rI aP x0.On.aE.aG,rJ aN x0.On.aE.aC,rI aZ x0.On.aD,rI bA x0.On.ab,rI bM x0.Unit,rI bN x0.ba] (fun y (_:Unit)=>[.bool y]) (fun y _=>[]):=by
 refine ct (S:=Unit) (bp fun _ _=>rfl) Tryz.func140 rfl rfl ?_
 repeat' first
  | (apply Dk.fe; repeat' first | exact rfl | (refine @id.{0} _ ?_; constructor))
  | intro _
  | exact rfl
  | apply Dk.AD.val (d:=45)
  | apply Dk.AD.val (d:=55)
  | (apply Dk.rwU (t:=2); exact rfl)
  | (refine @id.{0} _ ?_; constructor)
  | apply Dk.quiet (id:=1) (by kernel_rfl)
  | apply Dk.any (id:=3) 14 [] [] [[],[0],[0,1],[0,1,2],[0,1,2,3],[],[5],[5,6],[],[8],[8,9],[0,1,2,3,4,5,6,7,8,9,10],[],[]] (by kernel_rfl)
  | apply Dk.any (id:=4) 11 [] [] [[],[],[1],[1,2],[1,2,3],[],[5],[5,6],[5,6,7],[0,1,2,3,4,5,6,7,8],[]] (by kernel_rfl)
  | apply Dk.any (id:=5) 11 [] [] [[],[],[1],[1,2],[1,2,3],[],[5],[5,6],[5,6,7],[0,1,2,3,4,5,6,7,8],[]] (by kernel_rfl)
  | apply Si
  | apply UE
  | apply Yl
  | apply c99
  | apply Yo
  | apply Xy
  | exact ()
end Go.Proofs.YtcnehblmgfbfoaaGreat
