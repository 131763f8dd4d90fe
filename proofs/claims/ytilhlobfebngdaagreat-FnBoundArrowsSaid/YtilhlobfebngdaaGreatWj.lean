/- Walks by the calculus D. No condition beside those that each theorem names. -/
import Derived.Test.YtilhlobfebngdaaGreatDp
import Derived.Test.YtilhlobfebngdaaGreatDi
import Derived.Test.YtilhlobfebngdaaGreatMo
import Derived.Test.YtilhlobfebngdaaGreatDs
import Derived.Test.YtilhlobfebngdaaGreatWb
import Derived.Test.YtilhlobfebngdaaGreatWc
import Derived.Test.YtilhlobfebngdaaGreatWd
import Derived.Test.YtilhlobfebngdaaGreatWf
import Derived.Test.YtilhlobfebngdaaGreatWg
import Derived.Test.YtilhlobfebngdaaGreatWh
namespace Go.Proofs.YtilhlobfebngdaaGreat
open Go Go.Li Go.Dk
set_option linter.unusedVariables false
set_option maxHeartbeats 16000000
set_option maxRecDepth 100000
theorem c65 {x0:aP} {dM:Addr} {bG bN aV aR bH bP aW aS bV cA:Value}:Ct Tryz.prog 65 true (gW x0) [.pointer (some (dM))] [.bc dM [.int .i64 (x0.aB.aA),bG,bN,aV,aR,.int .i64 (x0.aG.aA),bH,bP,aW,aS,bV,cA],rI bG x0.aB.aE,rI bN x0.aB.To,rI aV x0.aB.aH,rJ aR x0.aB.aC,rI bH x0.aG.aE,rI bP x0.aG.To,rI aW x0.aG.aH,rJ aS x0.aG.aC,rI bV x0.aA,rI cA x0.ab] (fun y (_:Unit)=>[.bool y]) (fun y _=>[]):=by
 refine ct (S:=Unit) (bu fun _ _=>rfl) Tryz.func65 rfl rfl ?_
 repeat' first
  | (apply Dk.fe; repeat' first | exact rfl | (refine @id.{0} _ ?_; constructor))
  | intro _
  | exact rfl
  | (refine @id.{0} _ ?_; constructor)
  | apply Dk.YI (id:=1) 7 [] [[],[0],[0,1],[],[3],[3,4],[0,1,2,3,4,5]] (by kernel_rfl)
  | apply c92
  | apply c93
  | exact ()
theorem ajt {x0:(List aP)} {cU:Value}:Ct Tryz.prog 148 true (nE x0) [cU] [.rd false (bE (yD Kz)) cU x0] (fun y (_:Unit)=>[.bool y]) (fun y _=>[]):=by
 refine ct (S:=Unit) (bu fun _ _=>rfl) Tryz.func148 rfl rfl ?_
 repeat' first
  | (apply Dk.fe; repeat' first | exact rfl | (refine @id.{0} _ ?_; constructor))
  | intro _
  | exact rfl
  | (refine @id.{0} _ ?_; constructor)
  | apply Dk.loop 0 (V:=Unit) (fun (s:Int) v=>[]) (fun s v=>[(7,.int .i64 (s))]) () [(5,_),(6,_)]
  | apply c65
  | exact ()
theorem aju {x0:bU} {dM:Addr} {eL eU eC dV eM eV eD dW fC fL eN eW eE dX eP eX eG dY fD fM gR:Value}:Ct Tryz.prog 129 true (gQ x0) [.pointer (some (dM))] [.bc dM [.int .i64 (x0.aB.aB.aA),eL,eU,eC,dV,.int .i64 (x0.aB.aG.aA),eM,eV,eD,dW,fC,fL,.int .i64 (x0.aG.aB.aA),eN,eW,eE,dX,.int .i64 (x0.aG.aG.aA),eP,eX,eG,dY,fD,fM,gR],rI eL x0.aB.aB.aE,rI eU x0.aB.aB.To,rI eC x0.aB.aB.aH,rJ dV x0.aB.aB.aC,rI eM x0.aB.aG.aE,rI eV x0.aB.aG.To,rI eD x0.aB.aG.aH,rJ dW x0.aB.aG.aC,rI fC x0.aB.aA,rI fL x0.aB.ab,rI eN x0.aG.aB.aE,rI eW x0.aG.aB.To,rI eE x0.aG.aB.aH,rJ dX x0.aG.aB.aC,rI eP x0.aG.aG.aE,rI eX x0.aG.aG.To,rI eG x0.aG.aG.aH,rJ dY x0.aG.aG.aC,rI fD x0.aG.aA,rI fM x0.aG.ab,rI gR x0.bj] (fun y (_:Unit)=>[.bool y]) (fun y _=>[]):=by
 refine ct (S:=Unit) (bu fun _ _=>rfl) Tryz.func129 rfl rfl ?_
 repeat' first
  | (apply Dk.fe; repeat' first | exact rfl | (refine @id.{0} _ ?_; constructor))
  | intro _
  | exact rfl
  | (refine @id.{0} _ ?_; constructor)
  | apply Dk.loop 0 (V:=Unit) (fun (s:Int) v=>[]) (fun s v=>[(54,.int .i64 (s))]) () [(3,_),(4,_),(52,_),(53,_)]
  | apply Dk.quiet (id:=1) (by kernel_rfl)
  | apply Dk.quiet (id:=7) (by kernel_rfl)
  | apply Dk.YI (id:=2) 3 [] [[],[],[0,1]] (by kernel_rfl)
  | apply ajt
  | apply aji
  | apply LS
  | apply VW
  | apply c37
  | exact ()
theorem c98 {x0:bU} {dM:Addr} {eL eU eC dV eM eV eD dW fC fL eN eW eE dX eP eX eG dY fD fM gR:Value}:Ct Tryz.prog 98 true (gA x0) [.pointer (some (dM))] [.bc dM [.int .i64 (x0.aB.aB.aA),eL,eU,eC,dV,.int .i64 (x0.aB.aG.aA),eM,eV,eD,dW,fC,fL,.int .i64 (x0.aG.aB.aA),eN,eW,eE,dX,.int .i64 (x0.aG.aG.aA),eP,eX,eG,dY,fD,fM,gR],rI eL x0.aB.aB.aE,rI eU x0.aB.aB.To,rI eC x0.aB.aB.aH,rJ dV x0.aB.aB.aC,rI eM x0.aB.aG.aE,rI eV x0.aB.aG.To,rI eD x0.aB.aG.aH,rJ dW x0.aB.aG.aC,rI fC x0.aB.aA,rI fL x0.aB.ab,rI eN x0.aG.aB.aE,rI eW x0.aG.aB.To,rI eE x0.aG.aB.aH,rJ dX x0.aG.aB.aC,rI eP x0.aG.aG.aE,rI eX x0.aG.aG.To,rI eG x0.aG.aG.aH,rJ dY x0.aG.aG.aC,rI fD x0.aG.aA,rI fM x0.aG.ab,rI gR x0.bj] (fun y (_:Unit)=>[.bool y]) (fun y _=>[]):=by
 refine ct (S:=Unit) (bu fun _ _=>rfl) Tryz.func98 rfl rfl ?_
 repeat' first
  | (apply Dk.fe; repeat' first | exact rfl | (refine @id.{0} _ ?_; constructor))
  | intro _
  | exact rfl
  | (refine @id.{0} _ ?_; constructor)
  | apply aju
  | apply Rs
  | exact ()
theorem c69 {x0:(List bU)} {cU:Value}:Ct Tryz.prog 69 true (lZ x0) [cU] [.rd false (bE (yD Ot)) cU x0] (fun y (_:Unit)=>[.bool y]) (fun y _=>[]):=by
 refine ct (S:=Unit) (bu fun _ _=>rfl) Tryz.func69 rfl rfl ?_
 repeat' first
  | (apply Dk.fe; repeat' first | exact rfl | (refine @id.{0} _ ?_; constructor))
  | intro _
  | exact rfl
  | (refine @id.{0} _ ?_; constructor)
  | apply Dk.loop 0 (V:=Unit) (fun (s:Int) v=>[]) (fun s v=>[(7,.int .i64 (s))]) () [(5,_),(6,_)]
  | apply c98
  | exact ()
theorem c33 {x0:bT} {dM:Addr} {bI bK bA aT bJ bL bB aU bS bX cG cS:Value}:Ct Tryz.prog 33 true (jV x0) [.pointer (some (dM))] [.bc dM [.int .i64 (x0.On.aB.aA),bI,bK,bA,aT,.int .i64 (x0.On.aG.aA),bJ,bL,bB,aU,bS,bX,cG,cS],rI bI x0.On.aB.aE,rI bK x0.On.aB.To,rI bA x0.On.aB.aH,rJ aT x0.On.aB.aC,rI bJ x0.On.aG.aE,rI bL x0.On.aG.To,rI bB x0.On.aG.aH,rJ aU x0.On.aG.aC,rI bS x0.On.aA,rI bX x0.On.ab,rI cG x0.Unit,rI cS x0.cn] (fun y (_:Unit)=>[.bool y]) (fun y _=>[]):=by
 refine ct (S:=Unit) (bu fun _ _=>rfl) Tryz.func33 rfl rfl ?_
 repeat' first
  | (apply Dk.fe; repeat' first | exact rfl | (refine @id.{0} _ ?_; constructor))
  | intro _
  | exact rfl
  | apply Dk.AD.val (d:=45)
  | apply Dk.AD.val (d:=55)
  | (apply Dk.M5 (t:=2); exact rfl)
  | (refine @id.{0} _ ?_; constructor)
  | apply Dk.quiet (id:=1) (by kernel_rfl)
  | apply Dk.any (id:=3) 14 [] [] [[],[0],[0,1],[0,1,2],[0,1,2,3],[],[5],[5,6],[],[8],[8,9],[0,1,2,3,4,5,6,7,8,9,10],[],[]] (by kernel_rfl)
  | apply Dk.any (id:=4) 11 [] [] [[],[],[1],[1,2],[1,2,3],[],[5],[5,6],[5,6,7],[0,1,2,3,4,5,6,7,8],[]] (by kernel_rfl)
  | apply Dk.any (id:=5) 11 [] [] [[],[],[1],[1,2],[1,2,3],[],[5],[5,6],[5,6,7],[0,1,2,3,4,5,6,7,8],[]] (by kernel_rfl)
  | apply c65
  | apply c66
  | apply c67
  | apply c68
  | apply c69
  | apply c70
  | exact ()
theorem c7 {x0:bT} {bI bK bA aT bJ bL bB aU bS bX cG cS:Value} {x1:Int} {x2:Int} {x3:Int} {x4:Int}:Ct Tryz.prog 7 true (fH x0 x1 x2 x3 x4) [.agg #[.int .i64 (x0.On.aB.aA),bI,bK,bA,aT,.int .i64 (x0.On.aG.aA),bJ,bL,bB,aU,bS,bX,cG,cS],.int .i64 (x1),.int .i64 (x2),.int .i64 (x3),.int .i64 (x4)] [rI bI x0.On.aB.aE,rI bK x0.On.aB.To,rI bA x0.On.aB.aH,rJ aT x0.On.aB.aC,rI bJ x0.On.aG.aE,rI bL x0.On.aG.To,rI bB x0.On.aG.aH,rJ aU x0.On.aG.aC,rI bS x0.On.aA,rI bX x0.On.ab,rI cG x0.Unit,rI cS x0.cn] (fun y (_:Unit)=>[.int .i64 y.1,.int .i64 y.2]) (fun y _=>[]):=by
 refine ct (S:=Unit) (bu fun _ _=>rfl) Tryz.func7 rfl rfl ?_
 repeat' first
  | (apply Dk.fe; repeat' first | exact rfl | (refine @id.{0} _ ?_; constructor))
  | intro _
  | exact rfl
  | (apply Dk.M5 (t:=34); exact rfl)
  | (refine @id.{0} _ ?_; constructor)
  | apply Dk.quiet (id:=6) (by kernel_rfl)
  | apply c33
  | apply VW
  | apply LS
  | apply c36
  | apply c37
  | apply c38
  | apply c72
  | exact ()
theorem c41 {x0:bT} {dM:Addr} {bI bK bA aT bJ bL bB aU bS bX cG cS:Value}:Ct Tryz.prog 41 true (lL x0) [.pointer (some (dM))] [.bc dM [.int .i64 (x0.On.aB.aA),bI,bK,bA,aT,.int .i64 (x0.On.aG.aA),bJ,bL,bB,aU,bS,bX,cG,cS],rI bI x0.On.aB.aE,rI bK x0.On.aB.To,rI bA x0.On.aB.aH,rJ aT x0.On.aB.aC,rI bJ x0.On.aG.aE,rI bL x0.On.aG.To,rI bB x0.On.aG.aH,rJ aU x0.On.aG.aC,rI bS x0.On.aA,rI bX x0.On.ab,rI cG x0.Unit,rI cS x0.cn] (fun y (v:Value×Value×Value×Value×Value)=>[.agg #[.int .i64 y.1.aA,v.1,v.2.1,v.2.2.1,v.2.2.2.1],v.2.2.2.2,.int .i64 y.2.2]) (fun y v=>[.own (aI 2 (aL .i64)) v.1 y.1.aE,.own (aI 2 (aL .i64)) v.2.1 y.1.To,.own (aI 2 (aL .i64)) v.2.2.1 y.1.aH,.own (aI 24 (aI 2 (aL .i64))) v.2.2.2.1 y.1.aC,.own (aI 24 (aI 2 (aL .i64))) v.2.2.2.2 y.2.1]):=by
 refine ct (S:=Unit) (bu fun _ _=>rfl) Tryz.func41 rfl rfl ?_
 repeat' first
  | (apply Dk.fe; repeat' first | exact rfl | (refine @id.{0} _ ?_; constructor))
  | intro _
  | exact rfl
  | (refine @id.{0} _ ?_; constructor)
  | apply c33
  | apply c73
  | exact ()
theorem c9 {x0:bT} {bI bK bA aT bJ bL bB aU bS bX cG cS:Value}:Ct Tryz.prog 9 true (nG x0) [.agg #[.int .i64 (x0.On.aB.aA),bI,bK,bA,aT,.int .i64 (x0.On.aG.aA),bJ,bL,bB,aU,bS,bX,cG,cS]] [rI bI x0.On.aB.aE,rI bK x0.On.aB.To,rI bA x0.On.aB.aH,rJ aT x0.On.aB.aC,rI bJ x0.On.aG.aE,rI bL x0.On.aG.To,rI bB x0.On.aG.aH,rJ aU x0.On.aG.aC,rI bS x0.On.aA,rI bX x0.On.ab,rI cG x0.Unit,rI cS x0.cn] (fun y (v:Value×Value×Value×Value)=>[.agg #[.int .i64 y.1.aA,v.1,v.2.1,v.2.2.1,v.2.2.2],.int .i64 y.2]) (fun y v=>[.own (aI 2 (aL .i64)) v.1 y.1.aE,.own (aI 2 (aL .i64)) v.2.1 y.1.To,.own (aI 2 (aL .i64)) v.2.2.1 y.1.aH,.own (aI 24 (aI 2 (aL .i64))) v.2.2.2 y.1.aC]):=by
 refine ct (S:=Unit) (bu fun _ _=>rfl) Tryz.func9 rfl rfl ?_
 repeat' first
  | (apply Dk.fe; repeat' first | exact rfl | (refine @id.{0} _ ?_; constructor))
  | intro _
  | exact rfl
  | (refine @id.{0} _ ?_; constructor)
  | apply c41
  | exact ()
theorem c10 {x0:bT} {bI bK bA aT bJ bL bB aU bS bX cG cS:Value}:Ct Tryz.prog 10 true (oT x0) [.agg #[.int .i64 (x0.On.aB.aA),bI,bK,bA,aT,.int .i64 (x0.On.aG.aA),bJ,bL,bB,aU,bS,bX,cG,cS]] [rI bI x0.On.aB.aE,rI bK x0.On.aB.To,rI bA x0.On.aB.aH,rJ aT x0.On.aB.aC,rI bJ x0.On.aG.aE,rI bL x0.On.aG.To,rI bB x0.On.aG.aH,rJ aU x0.On.aG.aC,rI bS x0.On.aA,rI bX x0.On.ab,rI cG x0.Unit,rI cS x0.cn] (fun y (v:Value)=>[v,.int .i64 y.2]) (fun y v=>[.own (aI 24 (aI 2 (aL .i64))) v y.1]):=by
 refine ct (S:=Unit) (bu fun _ _=>rfl) Tryz.func10 rfl rfl ?_
 repeat' first
  | (apply Dk.fe; repeat' first | exact rfl | (refine @id.{0} _ ?_; constructor))
  | intro _
  | exact rfl
  | (refine @id.{0} _ ?_; constructor)
  | apply c41
  | exact ()
end Go.Proofs.YtilhlobfebngdaaGreat
