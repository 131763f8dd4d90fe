/- Walks by the calculus D. No condition beside those that each theorem names. -/
import Derived.Test.YtjdkifckhidlbaaGreatDp
import Derived.Test.YtjdkifckhidlbaaGreatDi
import Derived.Test.YtjdkifckhidlbaaGreatMo
import Derived.Test.YtjdkifckhidlbaaGreatDs
import Derived.Test.YtjdkifckhidlbaaGreatWb
import Derived.Test.YtjdkifckhidlbaaGreatWc
import Derived.Test.YtjdkifckhidlbaaGreatWd
namespace Go.Proofs.YtjdkifckhidlbaaGreat
open Go Go.Li Go.Dk
set_option linter.unusedVariables false
set_option maxHeartbeats 16000000
set_option maxRecDepth 100000
theorem c95 {x0:aI} {aQ bF aO aM:Value} {x1:aI} {cE cL bJ bC:Value}:Ct Tryz.prog 95 true (kN x0 x1) [.agg #[.int .i64 (x0.aA),aQ,bF,aO,aM],.agg #[.int .i64 (x1.aA),cE,cL,bJ,bC]] [rI aQ x0.aG,rI bF x0.To,rI aO x0.aJ,rJ aM x0.aB,rI cE x1.aG,rI cL x1.To,rI bJ x1.aJ,rJ bC x1.aB] (fun y (_:Unit)=>[.bool y]) (fun y _=>[]):=by
 refine ct (S:=Unit) (bw fun _ _=>rfl) Tryz.func95 rfl rfl ?_
 repeat' first
  | (apply Dk.fe; repeat' first | exact rfl | (refine @id.{0} _ ?_; constructor))
  | intro _
  | exact rfl
  | (apply Dk.Ou (t:=4); exact rfl)
  | (refine @id.{0} _ ?_; constructor)
  | apply aa9
  | exact ()
theorem c84 {x0:aI} {aQ bF aO aM:Value} {x1:aI} {cE cL bJ bC:Value}:Ct Tryz.prog 84 true (lF x0 x1) [.agg #[.int .i64 (x0.aA),aQ,bF,aO,aM],.agg #[.int .i64 (x1.aA),cE,cL,bJ,bC]] [rI aQ x0.aG,rI bF x0.To,rI aO x0.aJ,rJ aM x0.aB,rI cE x1.aG,rI cL x1.To,rI bJ x1.aJ,rJ bC x1.aB] (fun y (_:Unit)=>[.bool y]) (fun y _=>[]):=by
 refine ct (S:=Unit) (bw fun _ _=>rfl) Tryz.func84 rfl rfl ?_
 repeat' first
  | (apply Dk.fe; repeat' first | exact rfl | (refine @id.{0} _ ?_; constructor))
  | intro _
  | exact rfl
  | (refine @id.{0} _ ?_; constructor)
  | apply Jl
  | apply abf
  | exact ()
theorem abr {x0:aP} {bU bZ bD aY bV cA bE aZ cG cJ:Value} {x1:aP} {cU dA cP cM cV dB cQ cN dH dP:Value}:Ct Tryz.prog 198 true (mP x0 x1) [.agg #[.int .i64 (x0.aE.aA),bU,bZ,bD,aY,.int .i64 (x0.aH.aA),bV,cA,bE,aZ,cG,cJ],.agg #[.int .i64 (x1.aE.aA),cU,dA,cP,cM,.int .i64 (x1.aH.aA),cV,dB,cQ,cN,dH,dP]] [rI bU x0.aE.aG,rI bZ x0.aE.To,rI bD x0.aE.aJ,rJ aY x0.aE.aB,rI bV x0.aH.aG,rI cA x0.aH.To,rI bE x0.aH.aJ,rJ aZ x0.aH.aB,rI cG x0.aA,rI cJ x0.ae,rI cU x1.aE.aG,rI dA x1.aE.To,rI cP x1.aE.aJ,rJ cM x1.aE.aB,rI cV x1.aH.aG,rI dB x1.aH.To,rI cQ x1.aH.aJ,rJ cN x1.aH.aB,rI dH x1.aA,rI dP x1.ae] (fun y (_:Unit)=>[.bool y]) (fun y _=>[]):=by
 refine ct (S:=Unit) (bw fun _ _=>rfl) Tryz.func198 rfl rfl ?_
 repeat' first
  | (apply Dk.fe; repeat' first | exact rfl | (refine @id.{0} _ ?_; constructor))
  | intro _
  | exact rfl
  | (refine @id.{0} _ ?_; constructor)
  | apply c84
  | exact ()
theorem abt {x0:aI} {cW:Addr} {aQ bF aO aM:Value}:Ct Tryz.prog 159 true (gZ x0) [.pointer (some (cW))] [.bd cW [.int .i64 (x0.aA),aQ,bF,aO,aM],rI aQ x0.aG,rI bF x0.To,rI aO x0.aJ,rJ aM x0.aB] (fun y (v:Value×Value×Value×Value)=>[.agg #[.int .i64 y.aA,v.1,v.2.1,v.2.2.1,v.2.2.2]]) (fun y v=>[.own (aL 2 (aN .i64)) v.1 y.aG,.own (aL 2 (aN .i64)) v.2.1 y.To,.own (aL 2 (aN .i64)) v.2.2.1 y.aJ,.own (aL 24 (aL 2 (aN .i64))) v.2.2.2 y.aB]):=by
 refine ct (S:=Unit) (bw fun _ _=>rfl) Tryz.func159 rfl rfl ?_
 repeat' first
  | (apply Dk.fe; repeat' first | exact rfl | (refine @id.{0} _ ?_; constructor))
  | intro _
  | exact rfl
  | (refine @id.{0} _ ?_; constructor)
  | apply Dk.any (id:=1) 24 [] [] [[],[0],[0,1],[0,1,2],[],[4],[4,5],[4,5,6],[4,5,6,7],[],[9],[9,10],[9,10,11],[4,5,6,7,8,9,10,11,12],[],[14],[14,15],[14,15,16],[4,5,6,7,8,9,10,11,12,13,14,15,16,17],[],[19],[19,20],[19,20,21],[4,5,6,7,8,9,10,11,12,13,14,15,16,17,18,19,20,21,22]] (by kernel_rfl)
  | apply Ud
  | apply abc
  | exact ()
theorem W0 {x0:aI} {cW:Addr} {aQ bF aO aM:Value} {x1:aI} {lS:Addr} {cE cL bJ bC:Value} {x2:(List Int)} {dS:Value} {x3:(List Int)} {gF:Value}:Ct Tryz.prog 82 true (lM x0 x1 x2 x3) [.pointer (some (cW)),.pointer (some (lS)),dS,gF] [.bd lS [.int .i64 (x1.aA),cE,cL,bJ,bC],.bd cW [.int .i64 (x0.aA),aQ,bF,aO,aM],rI aQ x0.aG,rI bF x0.To,rI aO x0.aJ,rJ aM x0.aB,rI cE x1.aG,rI cL x1.To,rI bJ x1.aJ,rJ bC x1.aB,rI dS x2,rI gF x3] (fun y (v:Value×Value×Value×Value×Value×Value×Value×Value×Value×Value)=>[.agg #[.int .i64 y.aE.aA,v.1,v.2.1,v.2.2.1,v.2.2.2.1,.int .i64 y.aH.aA,v.2.2.2.2.1,v.2.2.2.2.2.1,v.2.2.2.2.2.2.1,v.2.2.2.2.2.2.2.1,v.2.2.2.2.2.2.2.2.1,v.2.2.2.2.2.2.2.2.2]]) (fun y v=>[.own (aL 2 (aN .i64)) v.1 y.aE.aG,.own (aL 2 (aN .i64)) v.2.1 y.aE.To,.own (aL 2 (aN .i64)) v.2.2.1 y.aE.aJ,.own (aL 24 (aL 2 (aN .i64))) v.2.2.2.1 y.aE.aB,.own (aL 2 (aN .i64)) v.2.2.2.2.1 y.aH.aG,.own (aL 2 (aN .i64)) v.2.2.2.2.2.1 y.aH.To,.own (aL 2 (aN .i64)) v.2.2.2.2.2.2.1 y.aH.aJ,.own (aL 24 (aL 2 (aN .i64))) v.2.2.2.2.2.2.2.1 y.aH.aB,.own (aL 2 (aN .i64)) v.2.2.2.2.2.2.2.2.1 y.aA,.own (aL 2 (aN .i64)) v.2.2.2.2.2.2.2.2.2 y.ae]):=by
 refine ct (S:=Unit) (bw fun _ _=>rfl) Tryz.func82 rfl rfl ?_
 repeat' first
  | (apply Dk.fe; repeat' first | exact rfl | (refine @id.{0} _ ?_; constructor))
  | intro _
  | exact rfl
  | (refine @id.{0} _ ?_; constructor)
  | apply abt
  | apply Ud
  | exact ()
theorem c93 {x0:aP} {cW:Addr} {bU bZ bD aY bV cA bE aZ cG cJ:Value} {x1:aP} {lS:Addr} {cU dA cP cM cV dB cQ cN dH dP:Value}:Ct Tryz.prog 93 true (iF x0 x1) [.pointer (some (cW)),.pointer (some (lS))] [.bd lS [.int .i64 (x1.aE.aA),cU,dA,cP,cM,.int .i64 (x1.aH.aA),cV,dB,cQ,cN,dH,dP],.bd cW [.int .i64 (x0.aE.aA),bU,bZ,bD,aY,.int .i64 (x0.aH.aA),bV,cA,bE,aZ,cG,cJ],rI bU x0.aE.aG,rI bZ x0.aE.To,rI bD x0.aE.aJ,rJ aY x0.aE.aB,rI bV x0.aH.aG,rI cA x0.aH.To,rI bE x0.aH.aJ,rJ aZ x0.aH.aB,rI cG x0.aA,rI cJ x0.ae,rI cU x1.aE.aG,rI dA x1.aE.To,rI cP x1.aE.aJ,rJ cM x1.aE.aB,rI cV x1.aH.aG,rI dB x1.aH.To,rI cQ x1.aH.aJ,rJ cN x1.aH.aB,rI dH x1.aA,rI dP x1.ae] (fun y (v:Value×Value×Value×Value×Value×Value×Value×Value×Value×Value)=>[.agg #[.int .i64 y.aE.aA,v.1,v.2.1,v.2.2.1,v.2.2.2.1,.int .i64 y.aH.aA,v.2.2.2.2.1,v.2.2.2.2.2.1,v.2.2.2.2.2.2.1,v.2.2.2.2.2.2.2.1,v.2.2.2.2.2.2.2.2.1,v.2.2.2.2.2.2.2.2.2]]) (fun y v=>[.own (aL 2 (aN .i64)) v.1 y.aE.aG,.own (aL 2 (aN .i64)) v.2.1 y.aE.To,.own (aL 2 (aN .i64)) v.2.2.1 y.aE.aJ,.own (aL 24 (aL 2 (aN .i64))) v.2.2.2.1 y.aE.aB,.own (aL 2 (aN .i64)) v.2.2.2.2.1 y.aH.aG,.own (aL 2 (aN .i64)) v.2.2.2.2.2.1 y.aH.To,.own (aL 2 (aN .i64)) v.2.2.2.2.2.2.1 y.aH.aJ,.own (aL 24 (aL 2 (aN .i64))) v.2.2.2.2.2.2.2.1 y.aH.aB,.own (aL 2 (aN .i64)) v.2.2.2.2.2.2.2.2.1 y.aA,.own (aL 2 (aN .i64)) v.2.2.2.2.2.2.2.2.2 y.ae]):=by
 refine ct (S:=Unit) (bw fun _ _=>rfl) Tryz.func93 rfl rfl ?_
 repeat' first
  | (apply Dk.fe; repeat' first | exact rfl | (refine @id.{0} _ ?_; constructor))
  | intro _
  | exact rfl
  | (refine @id.{0} _ ?_; constructor)
  | apply Dk.any (id:=1) 24 [] [] [[],[0],[0,1],[],[3],[3,4],[],[6],[6,7],[6,7,8],[],[10],[10,11],[10,11,12],[6,7,8,9,10,11,12,13],[],[15],[15,16],[15,16,17],[],[19],[19,20],[19,20,21],[6,7,8,9,10,11,12,13,14,15,16,17,18,19,20,21,22]] (by kernel_rfl)
  | apply abi
  | apply W0
  | exact ()
theorem abu {x0:aI} {cW:Addr} {aQ bF aO aM:Value}:Ct Tryz.prog 147 true (kO x0) [.pointer (some (cW))] [.bd cW [.int .i64 (x0.aA),aQ,bF,aO,aM],rI aQ x0.aG,rI bF x0.To,rI aO x0.aJ,rJ aM x0.aB] (fun y (v:Value×Value×Value×Value×Value×Value×Value×Value×Value×Value)=>[.agg #[.int .i64 y.aE.aA,v.1,v.2.1,v.2.2.1,v.2.2.2.1,.int .i64 y.aH.aA,v.2.2.2.2.1,v.2.2.2.2.2.1,v.2.2.2.2.2.2.1,v.2.2.2.2.2.2.2.1,v.2.2.2.2.2.2.2.2.1,v.2.2.2.2.2.2.2.2.2]]) (fun y v=>[.own (aL 2 (aN .i64)) v.1 y.aE.aG,.own (aL 2 (aN .i64)) v.2.1 y.aE.To,.own (aL 2 (aN .i64)) v.2.2.1 y.aE.aJ,.own (aL 24 (aL 2 (aN .i64))) v.2.2.2.1 y.aE.aB,.own (aL 2 (aN .i64)) v.2.2.2.2.1 y.aH.aG,.own (aL 2 (aN .i64)) v.2.2.2.2.2.1 y.aH.To,.own (aL 2 (aN .i64)) v.2.2.2.2.2.2.1 y.aH.aJ,.own (aL 24 (aL 2 (aN .i64))) v.2.2.2.2.2.2.2.1 y.aH.aB,.own (aL 2 (aN .i64)) v.2.2.2.2.2.2.2.2.1 y.aA,.own (aL 2 (aN .i64)) v.2.2.2.2.2.2.2.2.2 y.ae]):=by
 refine ct (S:=Unit) (bw fun _ _=>rfl) Tryz.func147 rfl rfl ?_
 repeat' first
  | (apply Dk.fe; repeat' first | exact rfl | (refine @id.{0} _ ?_; constructor))
  | intro _
  | exact rfl
  | (refine @id.{0} _ ?_; constructor)
  | apply aa4
  | apply Gy
  | apply W0
  | exact ()
theorem Lj {x0:bN} {cW:Addr} {bK bR bA aT bL bS bB aU bX cB bG bP aV aR bH bQ aW aS bW bY cS cO:Value} {x1:Int} {x2:Int} {x3:Int} {x4:aI} {qY:Addr} {pF pZ kP jO:Value} {x5:pD} {x6:Int} {dq:bN} {z8:Addr} {jv ks iu gx jw kv iv gy l8 mw jm j9 ik gn jo kh iq gp l5 l9 sB rC:Value}:Ct Tryz.prog 110 true (eD x0 x1 x2 x3 x4 x5 x6 (fun a0 a1=>eG dq a0 a1)) [.pointer (some (cW)),.int .i64 (x1),.int .i64 (x2),.int .i64 (x3),.pointer (some (qY)),.agg #[.int .i64 (x5.aG),.int .i64 (x5.To)],.int .i64 (x6),.func (.func 114) #[.pointer (some (z8))] #[]] [.bd qY [.int .i64 (x4.aA),pF,pZ,kP,jO],.bd cW [.int .i64 (x0.Left.aE.aA),bK,bR,bA,aT,.int .i64 (x0.Left.aH.aA),bL,bS,bB,aU,bX,cB,.int .i64 (x0.ab.aE.aA),bG,bP,aV,aR,.int .i64 (x0.ab.aH.aA),bH,bQ,aW,aS,bW,bY,cS,cO],rI bK x0.Left.aE.aG,rI bR x0.Left.aE.To,rI bA x0.Left.aE.aJ,rJ aT x0.Left.aE.aB,rI bL x0.Left.aH.aG,rI bS x0.Left.aH.To,rI bB x0.Left.aH.aJ,rJ aU x0.Left.aH.aB,rI bX x0.Left.aA,rI cB x0.Left.ae,rI bG x0.ab.aE.aG,rI bP x0.ab.aE.To,rI aV x0.ab.aE.aJ,rJ aR x0.ab.aE.aB,rI bH x0.ab.aH.aG,rI bQ x0.ab.aH.To,rI aW x0.ab.aH.aJ,rJ aS x0.ab.aH.aB,rI bW x0.ab.aA,rI bY x0.ab.ae,rI cS x0.Unit,rI cO x0.br,rI pF x4.aG,rI pZ x4.To,rI kP x4.aJ,rJ jO x4.aB,.bd z8 [.int .i64 (dq.Left.aE.aA),jv,ks,iu,gx,.int .i64 (dq.Left.aH.aA),jw,kv,iv,gy,l8,mw,.int .i64 (dq.ab.aE.aA),jm,j9,ik,gn,.int .i64 (dq.ab.aH.aA),jo,kh,iq,gp,l5,l9,sB,rC],rI jv dq.Left.aE.aG,rI ks dq.Left.aE.To,rI iu dq.Left.aE.aJ,rJ gx dq.Left.aE.aB,rI jw dq.Left.aH.aG,rI kv dq.Left.aH.To,rI iv dq.Left.aH.aJ,rJ gy dq.Left.aH.aB,rI l8 dq.Left.aA,rI mw dq.Left.ae,rI jm dq.ab.aE.aG,rI j9 dq.ab.aE.To,rI ik dq.ab.aE.aJ,rJ gn dq.ab.aE.aB,rI jo dq.ab.aH.aG,rI kh dq.ab.aH.To,rI iq dq.ab.aH.aJ,rJ gp dq.ab.aH.aB,rI l5 dq.ab.aA,rI l9 dq.ab.ae,rI sB dq.Unit,rI rC dq.br] (fun y (_:Unit)=>[.int .i64 y.1,.int .i64 y.2]) (fun y _=>[]):=by
 refine ct (S:=Unit) (bw fun _ _=>rfl) Tryz.func110 rfl rfl ?_
 repeat' first
  | (apply Dk.fe; repeat' first | exact rfl | (refine @id.{0} _ ?_; constructor))
  | intro _
  | exact rfl
  | (refine @id.{0} _ ?_; constructor)
  | apply Dk.quiet (id:=3) (by kernel_rfl)
  | apply Gy
  | apply Gz
  | apply Jk
  | apply T9
  | exact ()
end Go.Proofs.YtjdkifckhidlbaaGreat
