/- Walks by the calculus D. No condition beside those that each theorem names. -/
import Derived.Test.YtcnehblmgfbfoaaGreatDp
import Derived.Test.YtcnehblmgfbfoaaGreatDi
import Derived.Test.YtcnehblmgfbfoaaGreatMo
import Derived.Test.YtcnehblmgfbfoaaGreatDs
import Derived.Test.YtcnehblmgfbfoaaGreatWa
import Derived.Test.YtcnehblmgfbfoaaGreatWb
import Derived.Test.YtcnehblmgfbfoaaGreatWc
import Derived.Test.YtcnehblmgfbfoaaGreatWd
import Derived.Test.YtcnehblmgfbfoaaGreatWe
import Derived.Test.YtcnehblmgfbfoaaGreatWf
import Derived.Test.YtcnehblmgfbfoaaGreatWg
import Derived.Test.YtcnehblmgfbfoaaGreatWh
import Derived.Test.YtcnehblmgfbfoaaGreatWz
namespace Go.Proofs.YtcnehblmgfbfoaaGreat
open Go Go.Li Go.Dk
set_option linter.unusedVariables false
set_option maxHeartbeats 16000000
set_option maxRecDepth 100000
theorem ZU {x0:bI} {bL bS bE aZ bM bT bF bA bZ cE bJ bP bC aU bK bQ bD aV bV cA cG cT:Value}:Ct Tryz.prog 150 true (pG x0) [.agg #[.int .i64 (x0.Left.aA.aE),bL,bS,bE,aZ,.int .i64 (x0.Left.aF.aE),bM,bT,bF,bA,bZ,cE,.int .i64 (x0.ae.aA.aE),bJ,bP,bC,aU,.int .i64 (x0.ae.aF.aE),bK,bQ,bD,aV,bV,cA,cG,cT]] [rI bL x0.Left.aA.aH,rI bS x0.Left.aA.To,rI bE x0.Left.aA.aI,rJ aZ x0.Left.aA.aG,rI bM x0.Left.aF.aH,rI bT x0.Left.aF.To,rI bF x0.Left.aF.aI,rJ bA x0.Left.aF.aG,rI bZ x0.Left.aE,rI cE x0.Left.ab,rI bJ x0.ae.aA.aH,rI bP x0.ae.aA.To,rI bC x0.ae.aA.aI,rJ aU x0.ae.aA.aG,rI bK x0.ae.aF.aH,rI bQ x0.ae.aF.To,rI bD x0.ae.aF.aI,rJ aV x0.ae.aF.aG,rI bV x0.ae.aE,rI cA x0.ae.ab,rI cG x0.Unit,rI cT x0.aw] (fun y (v:Value×Value×Value×Value×Value×Value×Value×Value×Value×Value×Value×Value)=>[.agg #[.int .i64 y.On.aA.aE,v.1,v.2.1,v.2.2.1,v.2.2.2.1,.int .i64 y.On.aF.aE,v.2.2.2.2.1,v.2.2.2.2.2.1,v.2.2.2.2.2.2.1,v.2.2.2.2.2.2.2.1,v.2.2.2.2.2.2.2.2.1,v.2.2.2.2.2.2.2.2.2.1,v.2.2.2.2.2.2.2.2.2.2.1,v.2.2.2.2.2.2.2.2.2.2.2]]) (fun y v=>[.own (aL 2 (aK .i64)) v.1 y.On.aA.aH,.own (aL 2 (aK .i64)) v.2.1 y.On.aA.To,.own (aL 2 (aK .i64)) v.2.2.1 y.On.aA.aI,.own (aL 22 (aL 2 (aK .i64))) v.2.2.2.1 y.On.aA.aG,.own (aL 2 (aK .i64)) v.2.2.2.2.1 y.On.aF.aH,.own (aL 2 (aK .i64)) v.2.2.2.2.2.1 y.On.aF.To,.own (aL 2 (aK .i64)) v.2.2.2.2.2.2.1 y.On.aF.aI,.own (aL 22 (aL 2 (aK .i64))) v.2.2.2.2.2.2.2.1 y.On.aF.aG,.own (aL 2 (aK .i64)) v.2.2.2.2.2.2.2.2.1 y.On.aE,.own (aL 2 (aK .i64)) v.2.2.2.2.2.2.2.2.2.1 y.On.ab,.own (aL 2 (aK .i64)) v.2.2.2.2.2.2.2.2.2.2.1 y.Unit,.own (aL 2 (aK .i64)) v.2.2.2.2.2.2.2.2.2.2.2 y.cb]):=by
 refine ct (S:=Unit) (bn fun _ _=>rfl) Tryz.func150 rfl rfl ?_
 repeat' first
  | (apply Dk.fe; repeat' first | exact rfl | (refine @id.{0} _ ?_; constructor))
  | intro _
  | exact rfl
  | (refine @id.{0} _ ?_; constructor)
  | apply Dk.loop 0 (V:=Value) (fun (s:(List Int)×Int) v=>[.own (aL 2 (aK .i64)) v s.1]) (fun s v=>[(3,v),(4,.int .i64 (s.2))]) _ [(1,_),(2,_)]
  | apply Dk.any (id:=5) 17 [] [] [[],[],[1],[1,2],[],[4],[],[6],[6,7],[],[6,7,8,9],[6,7,8,9,10],[4,5,6,7,8,9,10,11],[4,5,6,7,8,9,10,11,12],[1,2,3,4,5,6,7,8,9,10,11,12,13],[1,2,3,4,5,6,7,8,9,10,11,12,13,14],[1,2,3,4,5,6,7,8,9,10,11,12,13,14,15]] (by kernel_rfl)
  | apply Dk.any (id:=6) 9 [] [] [[],[0],[],[2],[0,1,2,3],[],[5],[0,1,2,3,4,5,6],[]] (by kernel_rfl)
  | apply MZ
  | apply Io
  | exact ()
theorem ZV {x0:aN} {aW bG aQ aO aY bH aR aP bN bU:Value}:Ct Tryz.prog 219 true (oA x0) [.agg #[.int .i64 (x0.aA.aE),aW,bG,aQ,aO,.int .i64 (x0.aF.aE),aY,bH,aR,aP,bN,bU]] [rI aW x0.aA.aH,rI bG x0.aA.To,rI aQ x0.aA.aI,rJ aO x0.aA.aG,rI aY x0.aF.aH,rI bH x0.aF.To,rI aR x0.aF.aI,rJ aP x0.aF.aG,rI bN x0.aE,rI bU x0.ab] (fun y (v:Value×Value×Value×Value×Value×Value×Value×Value×Value×Value)=>[.agg #[.int .i64 y.aA.aE,v.1,v.2.1,v.2.2.1,v.2.2.2.1,.int .i64 y.aF.aE,v.2.2.2.2.1,v.2.2.2.2.2.1,v.2.2.2.2.2.2.1,v.2.2.2.2.2.2.2.1,v.2.2.2.2.2.2.2.2.1,v.2.2.2.2.2.2.2.2.2]]) (fun y v=>[.own (aL 2 (aK .i64)) v.1 y.aA.aH,.own (aL 2 (aK .i64)) v.2.1 y.aA.To,.own (aL 2 (aK .i64)) v.2.2.1 y.aA.aI,.own (aL 22 (aL 2 (aK .i64))) v.2.2.2.1 y.aA.aG,.own (aL 2 (aK .i64)) v.2.2.2.2.1 y.aF.aH,.own (aL 2 (aK .i64)) v.2.2.2.2.2.1 y.aF.To,.own (aL 2 (aK .i64)) v.2.2.2.2.2.2.1 y.aF.aI,.own (aL 22 (aL 2 (aK .i64))) v.2.2.2.2.2.2.2.1 y.aF.aG,.own (aL 2 (aK .i64)) v.2.2.2.2.2.2.2.2.1 y.aE,.own (aL 2 (aK .i64)) v.2.2.2.2.2.2.2.2.2 y.ab]):=by
 refine ct (S:=Unit) (bn fun _ _=>rfl) Tryz.func219 rfl rfl ?_
 repeat' first
  | (apply Dk.fe; repeat' first | exact rfl | (refine @id.{0} _ ?_; constructor))
  | intro _
  | exact rfl
  | (refine @id.{0} _ ?_; constructor)
  | apply MZ
  | exact ()
theorem ZW {x0:cK} {cH cN cC bW cI cO cD bX cU cW cG dH:Value}:Ct Tryz.prog 134 true (pJ x0) [.agg #[.int .i64 (x0.On.aA.aE),cH,cN,cC,bW,.int .i64 (x0.On.aF.aE),cI,cO,cD,bX,cU,cW,cG,dH]] [rI cH x0.On.aA.aH,rI cN x0.On.aA.To,rI cC x0.On.aA.aI,rJ bW x0.On.aA.aG,rI cI x0.On.aF.aH,rI cO x0.On.aF.To,rI cD x0.On.aF.aI,rJ bX x0.On.aF.aG,rI cU x0.On.aE,rI cW x0.On.ab,rI cG x0.Unit,rI dH x0.cb] (fun y (_:Unit)=>[.bool y]) (fun y _=>[]):=by
 refine ct (S:=Unit) (bn fun _ _=>rfl) Tryz.func134 rfl rfl ?_
 repeat' first
  | (apply Dk.fe; repeat' first | exact rfl | (refine @id.{0} _ ?_; constructor))
  | intro _
  | exact rfl
  | (refine @id.{0} _ ?_; constructor)
  | apply Dk.QY (id:=4) 8 25 [[],[],[],[],[],[],[],[],[],[],[],[],[],[],[],[],[]] [[],[0],[0,1],[],[],[4],[0,1,2,3,4,5],[0,1,2,3,4,5,6],[0,1,2,3,4,5,6,7],[0,1,2,3,4,5,6,7,8],[0,1,2,3,4,5,6,7,8,9],[0,1,2,3,4,5,6,7,8],[0,1,2,3,4,5,6,7,8],[0,1,2,3,4,5,6,7,8,12],[0,1,2,3,4,5,6,7,8,9,10,11,12,13],[0,1,2,3,4,5,6,7,8,9,10,11,12,13,14],[0,1,2,3,4,5,6,7,8,9,10,11,12,13,14,15]] (by kernel_rfl)
  | apply Tg
  | apply Wk
  | apply Tv
  | apply Td
  | apply ZV
  | apply Y6
  | exact ()
theorem c55 {x0:cK} {cH cN cC bW cI cO cD bX cU cW cG dH:Value}:Ct Tryz.prog 55 true (oG x0) [.agg #[.int .i64 (x0.On.aA.aE),cH,cN,cC,bW,.int .i64 (x0.On.aF.aE),cI,cO,cD,bX,cU,cW,cG,dH]] [rI cH x0.On.aA.aH,rI cN x0.On.aA.To,rI cC x0.On.aA.aI,rJ bW x0.On.aA.aG,rI cI x0.On.aF.aH,rI cO x0.On.aF.To,rI cD x0.On.aF.aI,rJ bX x0.On.aF.aG,rI cU x0.On.aE,rI cW x0.On.ab,rI cG x0.Unit,rI dH x0.cb] (fun y (v:Value×Value×Value×Value×Value×Value)=>[.agg #[.int .i64 y.1.aE,v.1,v.2.1,v.2.2.1,v.2.2.2.1],v.2.2.2.2.1,v.2.2.2.2.2,.int .i64 y.2.2.2]) (fun y v=>[.own (aL 2 (aK .i64)) v.1 y.1.aH,.own (aL 2 (aK .i64)) v.2.1 y.1.To,.own (aL 2 (aK .i64)) v.2.2.1 y.1.aI,.own (aL 22 (aL 2 (aK .i64))) v.2.2.2.1 y.1.aG,.own (aL 22 (aL 2 (aK .i64))) v.2.2.2.2.1 y.2.1,.own (aL 22 (aL 2 (aK .i64))) v.2.2.2.2.2 y.2.2.1]):=by
 refine ct (S:=Unit) (bn fun _ _=>rfl) Tryz.func55 rfl rfl ?_
 repeat' first
  | (apply Dk.fe; repeat' first | exact rfl | (refine @id.{0} _ ?_; constructor))
  | intro _
  | exact rfl
  | (refine @id.{0} _ ?_; constructor)
  | apply ZW
  | apply ZF
  | apply Wh
  | exact ()
theorem c75 {x0:bI} {bL bS bE aZ bM bT bF bA bZ cE bJ bP bC aU bK bQ bD aV bV cA cG cT:Value}:Ct Tryz.prog 75 true (jB x0) [.agg #[.int .i64 (x0.Left.aA.aE),bL,bS,bE,aZ,.int .i64 (x0.Left.aF.aE),bM,bT,bF,bA,bZ,cE,.int .i64 (x0.ae.aA.aE),bJ,bP,bC,aU,.int .i64 (x0.ae.aF.aE),bK,bQ,bD,aV,bV,cA,cG,cT]] [rI bL x0.Left.aA.aH,rI bS x0.Left.aA.To,rI bE x0.Left.aA.aI,rJ aZ x0.Left.aA.aG,rI bM x0.Left.aF.aH,rI bT x0.Left.aF.To,rI bF x0.Left.aF.aI,rJ bA x0.Left.aF.aG,rI bZ x0.Left.aE,rI cE x0.Left.ab,rI bJ x0.ae.aA.aH,rI bP x0.ae.aA.To,rI bC x0.ae.aA.aI,rJ aU x0.ae.aA.aG,rI bK x0.ae.aF.aH,rI bQ x0.ae.aF.To,rI bD x0.ae.aF.aI,rJ aV x0.ae.aF.aG,rI bV x0.ae.aE,rI cA x0.ae.ab,rI cG x0.Unit,rI cT x0.aw] (fun y (v:Value×Value×Value×Value×Value×Value×Value×Value×Value×Value)=>[.agg #[.int .i64 y.1.aA.aE,v.1,v.2.1,v.2.2.1,v.2.2.2.1,.int .i64 y.1.aF.aE,v.2.2.2.2.1,v.2.2.2.2.2.1,v.2.2.2.2.2.2.1,v.2.2.2.2.2.2.2.1,v.2.2.2.2.2.2.2.2.1,v.2.2.2.2.2.2.2.2.2],.int .i64 y.2]) (fun y v=>[.own (aL 2 (aK .i64)) v.1 y.1.aA.aH,.own (aL 2 (aK .i64)) v.2.1 y.1.aA.To,.own (aL 2 (aK .i64)) v.2.2.1 y.1.aA.aI,.own (aL 22 (aL 2 (aK .i64))) v.2.2.2.1 y.1.aA.aG,.own (aL 2 (aK .i64)) v.2.2.2.2.1 y.1.aF.aH,.own (aL 2 (aK .i64)) v.2.2.2.2.2.1 y.1.aF.To,.own (aL 2 (aK .i64)) v.2.2.2.2.2.2.1 y.1.aF.aI,.own (aL 22 (aL 2 (aK .i64))) v.2.2.2.2.2.2.2.1 y.1.aF.aG,.own (aL 2 (aK .i64)) v.2.2.2.2.2.2.2.2.1 y.1.aE,.own (aL 2 (aK .i64)) v.2.2.2.2.2.2.2.2.2 y.1.ab]):=by
 refine ct (S:=Unit) (bn fun _ _=>rfl) Tryz.func75 rfl rfl ?_
 repeat' first
  | (apply Dk.fe; repeat' first | exact rfl | (refine @id.{0} _ ?_; constructor))
  | intro _
  | exact rfl
  | (refine @id.{0} _ ?_; constructor)
  | apply Dk.loop 0 (V:=Value) (fun (s:(List Int)×Int) v=>[.own (aL 2 (aK .i64)) v s.1]) (fun s v=>[(9,v),(11,.int .i64 (s.2))]) _ [(1,_),(2,_),(4,_),(5,_),(6,_),(8,_),(10,_)]
  | apply Dk.loop 2 (V:=Value) (fun (s:(List Int)×Int) v=>[.own (aL 2 (aK .i64)) v s.1]) (fun s v=>[(10,v),(12,.int .i64 (s.2))]) _ [(1,_),(2,_),(4,_),(6,_),(8,_),(9,_)]
  | apply Dk.any (id:=11) 21 [] [] [[],[],[],[2],[2,3],[],[2,3,4,5],[2,3,4,5,6],[],[8],[8,9],[],[11],[],[11,12,13],[11,12,13,14],[8,9,10,11,12,13,14,15],[8,9,10,11,12,13,14,15,16],[2,3,4,5,6,7,8,9,10,11,12,13,14,15,16,17],[1,2,3,4,5,6,7,8,9,10,11,12,13,14,15,16,17,18],[1,2,3,4,5,6,7,8,9,10,11,12,13,14,15,16,17,18,19]] (by kernel_rfl)
  | apply Dk.any (id:=15) 27 [] [] [[],[],[],[],[3],[],[3,4,5],[3,4,5,6],[2,3,4,5,6,7],[2,3,4,5,6,7,8],[],[],[11],[],[11,12,13],[11,12,13,14],[10,11,12,13,14,15],[10,11,12,13,14,15,16],[],[18],[18,19],[],[18,19,20,21],[18,19,20,21,22],[2,3,4,5,6,7,8,9,10,11,12,13,14,15,16,17,18,19,20,21,22,23],[1,2,3,4,5,6,7,8,9,10,11,12,13,14,15,16,17,18,19,20,21,22,23,24],[1,2,3,4,5,6,7,8,9,10,11,12,13,14,15,16,17,18,19,20,21,22,23,24,25]] (by kernel_rfl)
  | apply ZX
  | apply ZU
  | apply c55
  | apply We
  | apply Tu
  | exact ()
theorem EX {x0:bI} {bL bS bE aZ bM bT bF bA bZ cE bJ bP bC aU bK bQ bD aV bV cA cG cT:Value}:Ct Tryz.prog 18 true (nK x0) [.agg #[.int .i64 (x0.Left.aA.aE),bL,bS,bE,aZ,.int .i64 (x0.Left.aF.aE),bM,bT,bF,bA,bZ,cE,.int .i64 (x0.ae.aA.aE),bJ,bP,bC,aU,.int .i64 (x0.ae.aF.aE),bK,bQ,bD,aV,bV,cA,cG,cT]] [rI bL x0.Left.aA.aH,rI bS x0.Left.aA.To,rI bE x0.Left.aA.aI,rJ aZ x0.Left.aA.aG,rI bM x0.Left.aF.aH,rI bT x0.Left.aF.To,rI bF x0.Left.aF.aI,rJ bA x0.Left.aF.aG,rI bZ x0.Left.aE,rI cE x0.Left.ab,rI bJ x0.ae.aA.aH,rI bP x0.ae.aA.To,rI bC x0.ae.aA.aI,rJ aU x0.ae.aA.aG,rI bK x0.ae.aF.aH,rI bQ x0.ae.aF.To,rI bD x0.ae.aF.aI,rJ aV x0.ae.aF.aG,rI bV x0.ae.aE,rI cA x0.ae.ab,rI cG x0.Unit,rI cT x0.aw] (fun y (_:Unit)=>[.bool y.1,.int .i64 y.2]) (fun y _=>[]):=by
 refine ct (S:=Unit) (bn fun _ _=>rfl) Tryz.func18 rfl rfl ?_
 repeat' first
  | (apply Dk.fe; repeat' first | exact rfl | (refine @id.{0} _ ?_; constructor))
  | intro _
  | exact rfl
  | (refine @id.{0} _ ?_; constructor)
  | apply c75
  | apply c76
  | exact ()
theorem ZY {x0:aN} {cV:Addr} {aW bG aQ aO aY bH aR aP bN bU:Value}:Ct Tryz.prog 109 true (iQ x0) [.pointer (some (cV))] [.bb cV [.int .i64 (x0.aA.aE),aW,bG,aQ,aO,.int .i64 (x0.aF.aE),aY,bH,aR,aP,bN,bU],rI aW x0.aA.aH,rI bG x0.aA.To,rI aQ x0.aA.aI,rJ aO x0.aA.aG,rI aY x0.aF.aH,rI bH x0.aF.To,rI aR x0.aF.aI,rJ aP x0.aF.aG,rI bN x0.aE,rI bU x0.ab] (fun y (_:Unit)=>[.bool y]) (fun y _=>[]):=by
 refine ct (S:=Unit) (bn fun _ _=>rfl) Tryz.func109 rfl rfl ?_
 repeat' first
  | (apply Dk.fe; repeat' first | exact rfl | (refine @id.{0} _ ?_; constructor))
  | intro _
  | exact rfl
  | (refine @id.{0} _ ?_; constructor)
  | apply Dk.Lc (id:=1) 7 [] [[],[0],[0,1],[],[3],[3,4],[0,1,2,3,4,5]] (by kernel_rfl)
  | apply ZA
  | apply ZG
  | exact ()
theorem Wl {x0:(List aN)} {dC:Value}:Ct Tryz.prog 84 true (kH x0) [dC] [.rd false (bB (lv Lu)) dC x0] (fun y (_:Unit)=>[.bool y]) (fun y _=>[]):=by
 refine ct (S:=Unit) (bn fun _ _=>rfl) Tryz.func84 rfl rfl ?_
 repeat' first
  | (apply Dk.fe; repeat' first | exact rfl | (refine @id.{0} _ ?_; constructor))
  | intro _
  | exact rfl
  | (refine @id.{0} _ ?_; constructor)
  | apply Dk.loop 0 (V:=Unit) (fun (s:Int) v=>[]) (fun s v=>[(7,.int .i64 (s))]) () [(5,_),(6,_)]
  | apply ZY
  | exact ()
theorem ZZ {x0:bY} {cV:Addr} {eE eQ dR dJ eF eR dS dK fC fG eG eS dT dL eH eT dU dM fD fH gD:Value}:Ct Tryz.prog 287 true (gB x0) [.pointer (some (cV))] [.bb cV [.int .i64 (x0.aA.aA.aE),eE,eQ,dR,dJ,.int .i64 (x0.aA.aF.aE),eF,eR,dS,dK,fC,fG,.int .i64 (x0.aF.aA.aE),eG,eS,dT,dL,.int .i64 (x0.aF.aF.aE),eH,eT,dU,dM,fD,fH,gD],rI eE x0.aA.aA.aH,rI eQ x0.aA.aA.To,rI dR x0.aA.aA.aI,rJ dJ x0.aA.aA.aG,rI eF x0.aA.aF.aH,rI eR x0.aA.aF.To,rI dS x0.aA.aF.aI,rJ dK x0.aA.aF.aG,rI fC x0.aA.aE,rI fG x0.aA.ab,rI eG x0.aF.aA.aH,rI eS x0.aF.aA.To,rI dT x0.aF.aA.aI,rJ dL x0.aF.aA.aG,rI eH x0.aF.aF.aH,rI eT x0.aF.aF.To,rI dU x0.aF.aF.aI,rJ dM x0.aF.aF.aG,rI fD x0.aF.aE,rI fH x0.aF.ab,rI gD x0.aX] (fun y (_:Unit)=>[.bool y]) (fun y _=>[]):=by
 refine ct (S:=Unit) (bn fun _ _=>rfl) Tryz.func287 rfl rfl ?_
 repeat' first
  | (apply Dk.fe; repeat' first | exact rfl | (refine @id.{0} _ ?_; constructor))
  | intro _
  | exact rfl
  | (refine @id.{0} _ ?_; constructor)
  | apply Dk.loop 0 (V:=Unit) (fun (s:Int) v=>[]) (fun s v=>[(54,.int .i64 (s))]) () [(3,_),(4,_),(52,_),(53,_)]
  | apply Dk.quiet (id:=1) (by kernel_rfl)
  | apply Dk.quiet (id:=7) (by kernel_rfl)
  | apply Dk.Lc (id:=2) 3 [] [[],[],[0,1]] (by kernel_rfl)
  | apply Wl
  | apply ZP
  | apply G0
  | apply MU
  | apply Ik
  | exact ()
theorem Z0 {x0:bY} {cV:Addr} {eE eQ dR dJ eF eR dS dK fC fG eG eS dT dL eH eT dU dM fD fH gD:Value}:Ct Tryz.prog 275 true (fQ x0) [.pointer (some (cV))] [.bb cV [.int .i64 (x0.aA.aA.aE),eE,eQ,dR,dJ,.int .i64 (x0.aA.aF.aE),eF,eR,dS,dK,fC,fG,.int .i64 (x0.aF.aA.aE),eG,eS,dT,dL,.int .i64 (x0.aF.aF.aE),eH,eT,dU,dM,fD,fH,gD],rI eE x0.aA.aA.aH,rI eQ x0.aA.aA.To,rI dR x0.aA.aA.aI,rJ dJ x0.aA.aA.aG,rI eF x0.aA.aF.aH,rI eR x0.aA.aF.To,rI dS x0.aA.aF.aI,rJ dK x0.aA.aF.aG,rI fC x0.aA.aE,rI fG x0.aA.ab,rI eG x0.aF.aA.aH,rI eS x0.aF.aA.To,rI dT x0.aF.aA.aI,rJ dL x0.aF.aA.aG,rI eH x0.aF.aF.aH,rI eT x0.aF.aF.To,rI dU x0.aF.aF.aI,rJ dM x0.aF.aF.aG,rI fD x0.aF.aE,rI fH x0.aF.ab,rI gD x0.aX] (fun y (_:Unit)=>[.bool y]) (fun y _=>[]):=by
 refine ct (S:=Unit) (bn fun _ _=>rfl) Tryz.func275 rfl rfl ?_
 repeat' first
  | (apply Dk.fe; repeat' first | exact rfl | (refine @id.{0} _ ?_; constructor))
  | intro _
  | exact rfl
  | (refine @id.{0} _ ?_; constructor)
  | apply ZZ
  | apply Kr
  | exact ()
theorem Z1 {x0:(List bY)} {dC:Value}:Ct Tryz.prog 226 true (lF x0) [dC] [.rd false (bB (lv HA)) dC x0] (fun y (_:Unit)=>[.bool y]) (fun y _=>[]):=by
 refine ct (S:=Unit) (bn fun _ _=>rfl) Tryz.func226 rfl rfl ?_
 repeat' first
  | (apply Dk.fe; repeat' first | exact rfl | (refine @id.{0} _ ?_; constructor))
  | intro _
  | exact rfl
  | (refine @id.{0} _ ?_; constructor)
  | apply Dk.loop 0 (V:=Unit) (fun (s:Int) v=>[]) (fun s v=>[(7,.int .i64 (s))]) () [(5,_),(6,_)]
  | apply Z0
  | exact ()
theorem Z4 {x0:bI} {cV:Addr} {bL bS bE aZ bM bT bF bA bZ cE bJ bP bC aU bK bQ bD aV bV cA cG cT:Value}:Ct Tryz.prog 242 true (jV x0) [.pointer (some (cV))] [.bb cV [.int .i64 (x0.Left.aA.aE),bL,bS,bE,aZ,.int .i64 (x0.Left.aF.aE),bM,bT,bF,bA,bZ,cE,.int .i64 (x0.ae.aA.aE),bJ,bP,bC,aU,.int .i64 (x0.ae.aF.aE),bK,bQ,bD,aV,bV,cA,cG,cT],rI bL x0.Left.aA.aH,rI bS x0.Left.aA.To,rI bE x0.Left.aA.aI,rJ aZ x0.Left.aA.aG,rI bM x0.Left.aF.aH,rI bT x0.Left.aF.To,rI bF x0.Left.aF.aI,rJ bA x0.Left.aF.aG,rI bZ x0.Left.aE,rI cE x0.Left.ab,rI bJ x0.ae.aA.aH,rI bP x0.ae.aA.To,rI bC x0.ae.aA.aI,rJ aU x0.ae.aA.aG,rI bK x0.ae.aF.aH,rI bQ x0.ae.aF.To,rI bD x0.ae.aF.aI,rJ aV x0.ae.aF.aG,rI bV x0.ae.aE,rI cA x0.ae.ab,rI cG x0.Unit,rI cT x0.aw] (fun y (_:Unit)=>[.bool y]) (fun y _=>[]):=by
 refine ct (S:=Unit) (bn fun _ _=>rfl) Tryz.func242 rfl rfl ?_
 repeat' first
  | (apply Dk.fe; repeat' first | exact rfl | (refine @id.{0} _ ?_; constructor))
  | intro _
  | exact rfl
  | apply Dk.AD.val (d:=47)
  | apply Dk.AD.val (d:=54)
  | (refine @id.{0} _ ?_; constructor)
  | apply Dk.loop 0 (V:=Unit) (fun (s:Int) v=>[]) (fun s v=>[(64,.int .i64 (s))]) () [(0,_),(3,_),(4,_),(62,_),(63,_)]
  | apply Dk.loop 2 (V:=Unit) (fun (s:Int) v=>[]) (fun s v=>[(107,.int .i64 (s))]) () [(0,_),(3,_),(105,_),(106,_)]
  | apply Dk.quiet (id:=1) (by kernel_rfl)
  | apply Dk.quiet (id:=11) (by kernel_rfl)
  | apply Dk.quiet (id:=17) (by kernel_rfl)
  | apply Dk.any (id:=2) 16 [] [] [[],[0],[0,1],[],[3],[3,4],[0,1,2,3,4,5],[],[7],[7,8],[],[10],[10,11],[0,1,2,3,4,5,6,7,8,9,10,11,12],[],[]] (by kernel_rfl)
  | apply Dk.any (id:=4) 8 [] [] [[],[],[],[2],[2,3],[2,3,4],[0,1,2,3,4,5],[]] (by kernel_rfl)
  | apply Dk.any (id:=5) 8 [] [] [[],[],[],[2],[2,3],[2,3,4],[0,1,2,3,4,5],[]] (by kernel_rfl)
  | apply Wi
  | apply ZC
  | apply Z1
  | apply Cd
  | exact ()
theorem Z5 {x0:bI} {cV:Addr} {bL bS bE aZ bM bT bF bA bZ cE bJ bP bC aU bK bQ bD aV bV cA cG cT:Value}:Ct Tryz.prog 154 true (fX x0) [.pointer (some (cV))] [.bb cV [.int .i64 (x0.Left.aA.aE),bL,bS,bE,aZ,.int .i64 (x0.Left.aF.aE),bM,bT,bF,bA,bZ,cE,.int .i64 (x0.ae.aA.aE),bJ,bP,bC,aU,.int .i64 (x0.ae.aF.aE),bK,bQ,bD,aV,bV,cA,cG,cT],rI bL x0.Left.aA.aH,rI bS x0.Left.aA.To,rI bE x0.Left.aA.aI,rJ aZ x0.Left.aA.aG,rI bM x0.Left.aF.aH,rI bT x0.Left.aF.To,rI bF x0.Left.aF.aI,rJ bA x0.Left.aF.aG,rI bZ x0.Left.aE,rI cE x0.Left.ab,rI bJ x0.ae.aA.aH,rI bP x0.ae.aA.To,rI bC x0.ae.aA.aI,rJ aU x0.ae.aA.aG,rI bK x0.ae.aF.aH,rI bQ x0.ae.aF.To,rI bD x0.ae.aF.aI,rJ aV x0.ae.aF.aG,rI bV x0.ae.aE,rI cA x0.ae.ab,rI cG x0.Unit,rI cT x0.aw] (fun y (_:Unit)=>[.bool y]) (fun y _=>[]):=by
 refine ct (S:=Unit) (bn fun _ _=>rfl) Tryz.func154 rfl rfl ?_
 repeat' first
  | (apply Dk.fe; repeat' first | exact rfl | (refine @id.{0} _ ?_; constructor))
  | intro _
  | exact rfl
  | (refine @id.{0} _ ?_; constructor)
  | apply Dk.Lc (id:=1) 7 [] [[],[0],[0,1],[],[3],[3,4],[0,1,2,3,4,5]] (by kernel_rfl)
  | apply Wl
  | apply ZO
  | apply Z4
  | exact ()
theorem Z6 {x0:aN} {cV:Addr} {aW bG aQ aO aY bH aR aP bN bU:Value} {x1:(List Int)} {fM:Value} {x2:(List Int)} {mI:Value}:Ct Tryz.prog 243 true (pN x0 x1 x2) [.pointer (some (cV)),fM,mI] [.bb cV [.int .i64 (x0.aA.aE),aW,bG,aQ,aO,.int .i64 (x0.aF.aE),aY,bH,aR,aP,bN,bU],rI aW x0.aA.aH,rI bG x0.aA.To,rI aQ x0.aA.aI,rJ aO x0.aA.aG,rI aY x0.aF.aH,rI bH x0.aF.To,rI aR x0.aF.aI,rJ aP x0.aF.aG,rI bN x0.aE,rI bU x0.ab,rI fM x1,rI mI x2] (fun y (v:Value×Value×Value×Value×Value×Value×Value×Value×Value×Value×Value×Value)=>[.agg #[.int .i64 y.On.aA.aE,v.1,v.2.1,v.2.2.1,v.2.2.2.1,.int .i64 y.On.aF.aE,v.2.2.2.2.1,v.2.2.2.2.2.1,v.2.2.2.2.2.2.1,v.2.2.2.2.2.2.2.1,v.2.2.2.2.2.2.2.2.1,v.2.2.2.2.2.2.2.2.2.1,v.2.2.2.2.2.2.2.2.2.2.1,v.2.2.2.2.2.2.2.2.2.2.2]]) (fun y v=>[.own (aL 2 (aK .i64)) v.1 y.On.aA.aH,.own (aL 2 (aK .i64)) v.2.1 y.On.aA.To,.own (aL 2 (aK .i64)) v.2.2.1 y.On.aA.aI,.own (aL 22 (aL 2 (aK .i64))) v.2.2.2.1 y.On.aA.aG,.own (aL 2 (aK .i64)) v.2.2.2.2.1 y.On.aF.aH,.own (aL 2 (aK .i64)) v.2.2.2.2.2.1 y.On.aF.To,.own (aL 2 (aK .i64)) v.2.2.2.2.2.2.1 y.On.aF.aI,.own (aL 22 (aL 2 (aK .i64))) v.2.2.2.2.2.2.2.1 y.On.aF.aG,.own (aL 2 (aK .i64)) v.2.2.2.2.2.2.2.2.1 y.On.aE,.own (aL 2 (aK .i64)) v.2.2.2.2.2.2.2.2.2.1 y.On.ab,.own (aL 2 (aK .i64)) v.2.2.2.2.2.2.2.2.2.2.1 y.Unit,.own (aL 2 (aK .i64)) v.2.2.2.2.2.2.2.2.2.2.2 y.cb]):=by
 refine ct (S:=Unit) (bn fun _ _=>rfl) Tryz.func243 rfl rfl ?_
 repeat' first
  | (apply Dk.fe; repeat' first | exact rfl | (refine @id.{0} _ ?_; constructor))
  | intro _
  | exact rfl
  | (refine @id.{0} _ ?_; constructor)
  | apply ZD
  | apply Og
  | exact ()
theorem Z7 {x0:bI} {cV:Addr} {bL bS bE aZ bM bT bF bA bZ cE bJ bP bC aU bK bQ bD aV bV cA cG cT:Value}:Ct Tryz.prog 155 true (oF x0) [.pointer (some (cV))] [.bb cV [.int .i64 (x0.Left.aA.aE),bL,bS,bE,aZ,.int .i64 (x0.Left.aF.aE),bM,bT,bF,bA,bZ,cE,.int .i64 (x0.ae.aA.aE),bJ,bP,bC,aU,.int .i64 (x0.ae.aF.aE),bK,bQ,bD,aV,bV,cA,cG,cT],rI bL x0.Left.aA.aH,rI bS x0.Left.aA.To,rI bE x0.Left.aA.aI,rJ aZ x0.Left.aA.aG,rI bM x0.Left.aF.aH,rI bT x0.Left.aF.To,rI bF x0.Left.aF.aI,rJ bA x0.Left.aF.aG,rI bZ x0.Left.aE,rI cE x0.Left.ab,rI bJ x0.ae.aA.aH,rI bP x0.ae.aA.To,rI bC x0.ae.aA.aI,rJ aU x0.ae.aA.aG,rI bK x0.ae.aF.aH,rI bQ x0.ae.aF.To,rI bD x0.ae.aF.aI,rJ aV x0.ae.aF.aG,rI bV x0.ae.aE,rI cA x0.ae.ab,rI cG x0.Unit,rI cT x0.aw] (fun y (v:Value×Value×Value×Value×Value×Value×Value×Value×Value×Value×Value×Value)=>[.agg #[.int .i64 y.On.aA.aE,v.1,v.2.1,v.2.2.1,v.2.2.2.1,.int .i64 y.On.aF.aE,v.2.2.2.2.1,v.2.2.2.2.2.1,v.2.2.2.2.2.2.1,v.2.2.2.2.2.2.2.1,v.2.2.2.2.2.2.2.2.1,v.2.2.2.2.2.2.2.2.2.1,v.2.2.2.2.2.2.2.2.2.2.1,v.2.2.2.2.2.2.2.2.2.2.2]]) (fun y v=>[.own (aL 2 (aK .i64)) v.1 y.On.aA.aH,.own (aL 2 (aK .i64)) v.2.1 y.On.aA.To,.own (aL 2 (aK .i64)) v.2.2.1 y.On.aA.aI,.own (aL 22 (aL 2 (aK .i64))) v.2.2.2.1 y.On.aA.aG,.own (aL 2 (aK .i64)) v.2.2.2.2.1 y.On.aF.aH,.own (aL 2 (aK .i64)) v.2.2.2.2.2.1 y.On.aF.To,.own (aL 2 (aK .i64)) v.2.2.2.2.2.2.1 y.On.aF.aI,.own (aL 22 (aL 2 (aK .i64))) v.2.2.2.2.2.2.2.1 y.On.aF.aG,.own (aL 2 (aK .i64)) v.2.2.2.2.2.2.2.2.1 y.On.aE,.own (aL 2 (aK .i64)) v.2.2.2.2.2.2.2.2.2.1 y.On.ab,.own (aL 2 (aK .i64)) v.2.2.2.2.2.2.2.2.2.2.1 y.Unit,.own (aL 2 (aK .i64)) v.2.2.2.2.2.2.2.2.2.2.2 y.cb]):=by
 refine ct (S:=Unit) (bn fun _ _=>rfl) Tryz.func155 rfl rfl ?_
 repeat' first
  | (apply Dk.fe; repeat' first | exact rfl | (refine @id.{0} _ ?_; constructor))
  | intro _
  | exact rfl
  | (refine @id.{0} _ ?_; constructor)
  | apply Dk.loop 0 (V:=Value) (fun (s:(List Int)×Int) v=>[.own (aL 2 (aK .i64)) v s.1]) (fun s v=>[(4,v),(21,.int .i64 (s.2))]) _ [(0,_),(2,_),(3,_),(19,_),(20,_)]
  | apply Dk.any (id:=1) 8 [] [] [[],[0],[0,1],[],[3],[3,4],[0,1,2,3,4,5],[]] (by kernel_rfl)
  | apply Dk.any (id:=6) 16 [] [] [[],[],[1],[1,2],[1,2,3],[1,2,3,4],[],[6],[6,7],[6,7,8],[],[6,7,8,9,10],[6,7,8,9,10,11],[1,2,3,4,5,6,7,8,9,10,11,12],[1,2,3,4,5,6,7,8,9,10,11,12,13],[1,2,3,4,5,6,7,8,9,10,11,12,13,14]] (by kernel_rfl)
  | apply Wi
  | apply Z6
  | exact ()
theorem c77 {x0:bI} {cV:Addr} {bL bS bE aZ bM bT bF bA bZ cE bJ bP bC aU bK bQ bD aV bV cA cG cT:Value}:Ct Tryz.prog 77 true (jC x0) [.pointer (some (cV))] [.bb cV [.int .i64 (x0.Left.aA.aE),bL,bS,bE,aZ,.int .i64 (x0.Left.aF.aE),bM,bT,bF,bA,bZ,cE,.int .i64 (x0.ae.aA.aE),bJ,bP,bC,aU,.int .i64 (x0.ae.aF.aE),bK,bQ,bD,aV,bV,cA,cG,cT],rI bL x0.Left.aA.aH,rI bS x0.Left.aA.To,rI bE x0.Left.aA.aI,rJ aZ x0.Left.aA.aG,rI bM x0.Left.aF.aH,rI bT x0.Left.aF.To,rI bF x0.Left.aF.aI,rJ bA x0.Left.aF.aG,rI bZ x0.Left.aE,rI cE x0.Left.ab,rI bJ x0.ae.aA.aH,rI bP x0.ae.aA.To,rI bC x0.ae.aA.aI,rJ aU x0.ae.aA.aG,rI bK x0.ae.aF.aH,rI bQ x0.ae.aF.To,rI bD x0.ae.aF.aI,rJ aV x0.ae.aF.aG,rI bV x0.ae.aE,rI cA x0.ae.ab,rI cG x0.Unit,rI cT x0.aw] (fun y (v:Value×Value×Value×Value×Value×Value×Value×Value×Value×Value)=>[.agg #[.int .i64 y.1.aA.aE,v.1,v.2.1,v.2.2.1,v.2.2.2.1,.int .i64 y.1.aF.aE,v.2.2.2.2.1,v.2.2.2.2.2.1,v.2.2.2.2.2.2.1,v.2.2.2.2.2.2.2.1,v.2.2.2.2.2.2.2.2.1,v.2.2.2.2.2.2.2.2.2],.int .i64 y.2]) (fun y v=>[.own (aL 2 (aK .i64)) v.1 y.1.aA.aH,.own (aL 2 (aK .i64)) v.2.1 y.1.aA.To,.own (aL 2 (aK .i64)) v.2.2.1 y.1.aA.aI,.own (aL 22 (aL 2 (aK .i64))) v.2.2.2.1 y.1.aA.aG,.own (aL 2 (aK .i64)) v.2.2.2.2.1 y.1.aF.aH,.own (aL 2 (aK .i64)) v.2.2.2.2.2.1 y.1.aF.To,.own (aL 2 (aK .i64)) v.2.2.2.2.2.2.1 y.1.aF.aI,.own (aL 22 (aL 2 (aK .i64))) v.2.2.2.2.2.2.2.1 y.1.aF.aG,.own (aL 2 (aK .i64)) v.2.2.2.2.2.2.2.2.1 y.1.aE,.own (aL 2 (aK .i64)) v.2.2.2.2.2.2.2.2.2 y.1.ab]):=by
 refine ct (S:=Unit) (bn fun _ _=>rfl) Tryz.func77 rfl rfl ?_
 repeat' first
  | (apply Dk.fe; repeat' first | exact rfl | (refine @id.{0} _ ?_; constructor))
  | intro _
  | exact rfl
  | (apply Dk.QU (e:=37); · (repeat (first | exact Dk.dy.row | apply Dk.dy.there)))
  | (refine @id.{0} _ ?_; constructor)
  | apply Z5
  | apply Z7
  | apply ZJ
  | apply MW
  | exact ()
theorem EZ {x0:bI} {bL bS bE aZ bM bT bF bA bZ cE bJ bP bC aU bK bQ bD aV bV cA cG cT:Value}:Ct Tryz.prog 20 true (nL x0) [.agg #[.int .i64 (x0.Left.aA.aE),bL,bS,bE,aZ,.int .i64 (x0.Left.aF.aE),bM,bT,bF,bA,bZ,cE,.int .i64 (x0.ae.aA.aE),bJ,bP,bC,aU,.int .i64 (x0.ae.aF.aE),bK,bQ,bD,aV,bV,cA,cG,cT]] [rI bL x0.Left.aA.aH,rI bS x0.Left.aA.To,rI bE x0.Left.aA.aI,rJ aZ x0.Left.aA.aG,rI bM x0.Left.aF.aH,rI bT x0.Left.aF.To,rI bF x0.Left.aF.aI,rJ bA x0.Left.aF.aG,rI bZ x0.Left.aE,rI cE x0.Left.ab,rI bJ x0.ae.aA.aH,rI bP x0.ae.aA.To,rI bC x0.ae.aA.aI,rJ aU x0.ae.aA.aG,rI bK x0.ae.aF.aH,rI bQ x0.ae.aF.To,rI bD x0.ae.aF.aI,rJ aV x0.ae.aF.aG,rI bV x0.ae.aE,rI cA x0.ae.ab,rI cG x0.Unit,rI cT x0.aw] (fun y (_:Unit)=>[.bool y.1,.int .i64 y.2]) (fun y _=>[]):=by
 refine ct (S:=Unit) (bn fun _ _=>rfl) Tryz.func20 rfl rfl ?_
 repeat' first
  | (apply Dk.fe; repeat' first | exact rfl | (refine @id.{0} _ ?_; constructor))
  | intro _
  | exact rfl
  | (refine @id.{0} _ ?_; constructor)
  | apply c77
  | apply c78
  | exact ()
theorem c4 {x0:bI} {bL bS bE aZ bM bT bF bA bZ cE bJ bP bC aU bK bQ bD aV bV cA cG cT:Value}:Ct Tryz.prog 4 true (jD x0) [.agg #[.int .i64 (x0.Left.aA.aE),bL,bS,bE,aZ,.int .i64 (x0.Left.aF.aE),bM,bT,bF,bA,bZ,cE,.int .i64 (x0.ae.aA.aE),bJ,bP,bC,aU,.int .i64 (x0.ae.aF.aE),bK,bQ,bD,aV,bV,cA,cG,cT]] [rI bL x0.Left.aA.aH,rI bS x0.Left.aA.To,rI bE x0.Left.aA.aI,rJ aZ x0.Left.aA.aG,rI bM x0.Left.aF.aH,rI bT x0.Left.aF.To,rI bF x0.Left.aF.aI,rJ bA x0.Left.aF.aG,rI bZ x0.Left.aE,rI cE x0.Left.ab,rI bJ x0.ae.aA.aH,rI bP x0.ae.aA.To,rI bC x0.ae.aA.aI,rJ aU x0.ae.aA.aG,rI bK x0.ae.aF.aH,rI bQ x0.ae.aF.To,rI bD x0.ae.aF.aI,rJ aV x0.ae.aF.aG,rI bV x0.ae.aE,rI cA x0.ae.ab,rI cG x0.Unit,rI cT x0.aw] (fun y (_:Unit)=>[.bool y]) (fun y _=>[]):=by
 refine ct (S:=Unit) (bn fun _ _=>rfl) Tryz.func4 rfl rfl ?_
 repeat' first
  | (apply Dk.fe; repeat' first | exact rfl | (refine @id.{0} _ ?_; constructor))
  | intro _
  | exact rfl
  | (refine @id.{0} _ ?_; constructor)
  | apply Dk.any (id:=10) 3 [] [] [[],[],[1]] (by kernel_rfl)
  | apply EW
  | apply EY
  | apply EX
  | apply EZ
  | apply E0
  | exact ()
theorem oZ {w:World} {x0:bI} {bL:Value} {wu:List Nat} {bS:Value} {xJ:List Nat} {bE:Value} {tQ:List Nat} {aZ:Value} {s9:List Nat} {bM:Value} {wx:List Nat} {bT:Value} {xK:List Nat} {bF:Value} {tR:List Nat} {bA:Value} {ta:List Nat} {bZ:Value} {yU:List Nat} {cE:Value} {zJ:List Nat} {bJ:Value} {vC:List Nat} {bP:Value} {xh:List Nat} {bC:Value} {tz:List Nat} {aU:Value} {sE:List Nat} {bK:Value} {vD:List Nat} {bQ:Value} {xi:List Nat} {bD:Value} {tA:List Nat} {aV:Value} {sF:List Nat} {bV:Value} {yx:List Nat} {cA:Value} {yV:List Nat} {cG:Value} {Ks:List Nat} {cT:Value} {FL:List Nat} (wy:(bB (aK .i64)).rep w.heap [bL] x0.Left.aA.aH wu) (xL:(bB (aK .i64)).rep w.heap [bS] x0.Left.aA.To xJ) (tS:(bB (aK .i64)).rep w.heap [bE] x0.Left.aA.aI tQ) (tb:(bB (bB (aK .i64))).rep w.heap [aZ] x0.Left.aA.aG s9) (wz:(bB (aK .i64)).rep w.heap [bM] x0.Left.aF.aH wx) (xM:(bB (aK .i64)).rep w.heap [bT] x0.Left.aF.To xK) (tT:(bB (aK .i64)).rep w.heap [bF] x0.Left.aF.aI tR) (tc:(bB (bB (aK .i64))).rep w.heap [bA] x0.Left.aF.aG ta) (yW:(bB (aK .i64)).rep w.heap [bZ] x0.Left.aE yU) (zK:(bB (aK .i64)).rep w.heap [cE] x0.Left.ab zJ) (vE:(bB (aK .i64)).rep w.heap [bJ] x0.ae.aA.aH vC) (xj:(bB (aK .i64)).rep w.heap [bP] x0.ae.aA.To xh) (tB:(bB (aK .i64)).rep w.heap [bC] x0.ae.aA.aI tz) (sG:(bB (bB (aK .i64))).rep w.heap [aU] x0.ae.aA.aG sE) (vF:(bB (aK .i64)).rep w.heap [bK] x0.ae.aF.aH vD) (xk:(bB (aK .i64)).rep w.heap [bQ] x0.ae.aF.To xi) (tC:(bB (aK .i64)).rep w.heap [bD] x0.ae.aF.aI tA) (sH:(bB (bB (aK .i64))).rep w.heap [aV] x0.ae.aF.aG sF) (yy:(bB (aK .i64)).rep w.heap [bV] x0.ae.aE yx) (yX:(bB (aK .i64)).rep w.heap [cA] x0.ae.ab yV) (Kt:(bB (aK .i64)).rep w.heap [cG] x0.Unit Ks) (FM:(bB (aK .i64)).rep w.heap [cT] x0.aw FL) {y:(Bool)} (hm:jD x0=some y):Calls Tryz.prog 4 #[.agg #[.int .i64 (x0.Left.aA.aE),bL,bS,bE,aZ,.int .i64 (x0.Left.aF.aE),bM,bT,bF,bA,bZ,cE,.int .i64 (x0.ae.aA.aE),bJ,bP,bC,aU,.int .i64 (x0.ae.aF.aE),bK,bQ,bD,aV,bV,cA,cG,cT]] w (fun e w'=>e = .returned (.bool y)∧aq [] w w'):=
 OL c4 (.fact (fv wy) (.fact (fv xL) (.fact (fv tS) (.fact (fv tb) (.fact (fv wz) (.fact (fv xM) (.fact (fv tT) (.fact (fv tc) (.fact (fv yW) (.fact (fv zK) (.fact (fv vE) (.fact (fv xj) (.fact (fv tB) (.fact (fv sG) (.fact (fv vF) (.fact (fv xk) (.fact (fv tC) (.fact (fv sH) (.fact (fv yy) (.fact (fv yX) (.fact (fv Kt) (.fact (fv FM) (.nil))))))))))))))))))))))) hm
end Go.Proofs.YtcnehblmgfbfoaaGreat
