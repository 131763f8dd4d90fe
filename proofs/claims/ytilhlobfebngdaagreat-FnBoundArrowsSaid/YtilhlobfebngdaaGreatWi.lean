/- Walks by the calculus D. No condition beside those that each theorem names. -/
import Derived.Test.YtilhlobfebngdaaGreatDp
import Derived.Test.YtilhlobfebngdaaGreatDi
import Derived.Test.YtilhlobfebngdaaGreatMo
import Derived.Test.YtilhlobfebngdaaGreatDs
import Derived.Test.YtilhlobfebngdaaGreatWa
import Derived.Test.YtilhlobfebngdaaGreatWb
import Derived.Test.YtilhlobfebngdaaGreatWc
import Derived.Test.YtilhlobfebngdaaGreatWd
import Derived.Test.YtilhlobfebngdaaGreatWe
import Derived.Test.YtilhlobfebngdaaGreatWf
import Derived.Test.YtilhlobfebngdaaGreatWg
import Derived.Test.YtilhlobfebngdaaGreatWh
import Derived.Test.YtilhlobfebngdaaGreatWu
import Derived.Test.YtilhlobfebngdaaGreatWz
namespace Go.Proofs.YtilhlobfebngdaaGreat
open Go Go.Li Go.Dk
set_option linter.unusedVariables false
set_option maxHeartbeats 16000000
set_option maxRecDepth 100000
theorem c29 {x0:bT} {bI bK bA aT bJ bL bB aU bS bX cG cS:Value}:Ct Tryz.prog 29 true (pC x0) [.agg #[.int .i64 (x0.On.aB.aA),bI,bK,bA,aT,.int .i64 (x0.On.aG.aA),bJ,bL,bB,aU,bS,bX,cG,cS]] [rI bI x0.On.aB.aE,rI bK x0.On.aB.To,rI bA x0.On.aB.aH,rJ aT x0.On.aB.aC,rI bJ x0.On.aG.aE,rI bL x0.On.aG.To,rI bB x0.On.aG.aH,rJ aU x0.On.aG.aC,rI bS x0.On.aA,rI bX x0.On.ab,rI cG x0.Unit,rI cS x0.cn] (fun y (_:Unit)=>[.bool y]) (fun y _=>[]):=by
 refine ct (S:=Unit) (bu fun _ _=>rfl) Tryz.func29 rfl rfl ?_
 repeat' first
  | (apply Dk.fe; repeat' first | exact rfl | (refine @id.{0} _ ?_; constructor))
  | intro _
  | exact rfl
  | (refine @id.{0} _ ?_; constructor)
  | apply Dk.afg (id:=4) 8 25 [[],[],[],[],[],[],[],[],[],[],[],[],[],[],[],[],[]] [[],[0],[0,1],[],[],[4],[0,1,2,3,4,5],[0,1,2,3,4,5,6],[0,1,2,3,4,5,6,7],[0,1,2,3,4,5,6,7,8],[0,1,2,3,4,5,6,7,8,9],[0,1,2,3,4,5,6,7,8],[0,1,2,3,4,5,6,7,8],[0,1,2,3,4,5,6,7,8,12],[0,1,2,3,4,5,6,7,8,9,10,11,12,13],[0,1,2,3,4,5,6,7,8,9,10,11,12,13,14],[0,1,2,3,4,5,6,7,8,9,10,11,12,13,14,15]] (by kernel_rfl)
  | apply c59
  | apply c60
  | apply Rq
  | apply c61
  | apply c63
  | apply c64
  | exact ()
theorem c6 {x0:(List Int)} {cU:Value}:Ct Tryz.prog 6 false (lN x0) [cU] [.rd false (bE (aL .u8)) cU x0] (fun y (v:Value×Value×Value×Value×Value×Value×Value×Value×Value×Value×Value×Value)=>[.agg #[.int .i64 y.1.On.aB.aA,v.1,v.2.1,v.2.2.1,v.2.2.2.1,.int .i64 y.1.On.aG.aA,v.2.2.2.2.1,v.2.2.2.2.2.1,v.2.2.2.2.2.2.1,v.2.2.2.2.2.2.2.1,v.2.2.2.2.2.2.2.2.1,v.2.2.2.2.2.2.2.2.2.1,v.2.2.2.2.2.2.2.2.2.2.1,v.2.2.2.2.2.2.2.2.2.2.2],.int .i64 y.2.1,.int .i64 y.2.2.1,.int .i64 y.2.2.2.1,.int .i64 y.2.2.2.2]) (fun y v=>[rI v.1 y.1.On.aB.aE,rI v.2.1 y.1.On.aB.To,rI v.2.2.1 y.1.On.aB.aH,rJ v.2.2.2.1 y.1.On.aB.aC,rI v.2.2.2.2.1 y.1.On.aG.aE,rI v.2.2.2.2.2.1 y.1.On.aG.To,rI v.2.2.2.2.2.2.1 y.1.On.aG.aH,rJ v.2.2.2.2.2.2.2.1 y.1.On.aG.aC,rI v.2.2.2.2.2.2.2.2.1 y.1.On.aA,rI v.2.2.2.2.2.2.2.2.2.1 y.1.On.ab,rI v.2.2.2.2.2.2.2.2.2.2.1 y.1.Unit,rI v.2.2.2.2.2.2.2.2.2.2.2 y.1.cn]):=by
 refine ct (S:=Unit) C4 Tryz.func6 rfl rfl ?_
 repeat' first
  | (apply Dk.fe; repeat' first | exact rfl | (refine @id.{0} _ ?_; constructor))
  | intro _
  | exact rfl
  | (apply Dk.M5 (t:=58); exact rfl)
  | (refine @id.{0} _ ?_; constructor)
  | apply Dk.loop 0 (V:=Value) (fun (s:(List Int)×Int) v=>[.own (aI 2 (aL .i64)) v s.1]) (fun s v=>[(14,v),(15,.int .i64 (s.2))]) _ [(2,_),(7,_),(8,_),(9,_),(10,_),(11,_)]
  | apply Dk.xJ (id:=4) [Dk.av.row _ _ 91] 7 [] [[],[],[],[10],[],[],[]] [[],[],[1],[0,1,2],[],[],[5]] (by kernel_rfl)
  | apply Dk.xJ (id:=5) [Dk.av.row _ _ 91] 9 [] [[],[],[],[],[12],[],[],[],[]] [[],[],[1],[1,2],[0,1,2,3],[],[],[6],[6,7]] (by kernel_rfl)
  | apply Dk.any (id:=11) 10 [] [] [[],[],[],[],[3],[3,4],[],[3,4,5,6],[3,4,5,6,7],[1,2,3,4,5,6,7,8]] (by kernel_rfl)
  | apply Dk.any (id:=13) 8 [] [] [[],[],[],[2],[2,3],[],[2,3,4,5],[2,3,4,5,6]] (by kernel_rfl)
  | apply Dk.any (id:=16) 8 [] [] [[],[],[],[2],[2,3],[],[2,3,4,5],[2,3,4,5,6]] (by kernel_rfl)
  | apply c26
  | apply c27
  | apply c28
  | apply c29
  | apply c30
  | apply Bo
  | apply Hj
  | exact ()
theorem c8 {x0:bT} {bI bK bA aT bJ bL bB aU bS bX cG cS:Value} {x1:Int} {x2:Int} {x3:Int} {x4:Int}:Ct Tryz.prog 8 true (kD x0 x1 x2 x3 x4) [.agg #[.int .i64 (x0.On.aB.aA),bI,bK,bA,aT,.int .i64 (x0.On.aG.aA),bJ,bL,bB,aU,bS,bX,cG,cS],.int .i64 (x1),.int .i64 (x2),.int .i64 (x3),.int .i64 (x4)] [rI bI x0.On.aB.aE,rI bK x0.On.aB.To,rI bA x0.On.aB.aH,rJ aT x0.On.aB.aC,rI bJ x0.On.aG.aE,rI bL x0.On.aG.To,rI bB x0.On.aG.aH,rJ aU x0.On.aG.aC,rI bS x0.On.aA,rI bX x0.On.ab,rI cG x0.Unit,rI cS x0.cn] (fun y (_:Unit)=>[.int .i64 y.1,.int .i64 y.2]) (fun y _=>[]):=by
 refine ct (S:=Unit) (bu fun _ _=>rfl) Tryz.func8 rfl rfl ?_
 repeat' first
  | (apply Dk.fe; repeat' first | exact rfl | (refine @id.{0} _ ?_; constructor))
  | intro _
  | exact rfl
  | (refine @id.{0} _ ?_; constructor)
  | apply Dk.quiet (id:=6) (by kernel_rfl)
  | apply c29
  | apply c30
  | apply c39
  | apply c40
  | exact ()
theorem c42 {x0:bT} {bI bK bA aT bJ bL bB aU bS bX cG cS:Value}:Ct Tryz.prog 42 true (oU x0) [.agg #[.int .i64 (x0.On.aB.aA),bI,bK,bA,aT,.int .i64 (x0.On.aG.aA),bJ,bL,bB,aU,bS,bX,cG,cS]] [rI bI x0.On.aB.aE,rI bK x0.On.aB.To,rI bA x0.On.aB.aH,rJ aT x0.On.aB.aC,rI bJ x0.On.aG.aE,rI bL x0.On.aG.To,rI bB x0.On.aG.aH,rJ aU x0.On.aG.aC,rI bS x0.On.aA,rI bX x0.On.ab,rI cG x0.Unit,rI cS x0.cn] (fun y (v:Value×Value×Value×Value×Value)=>[.agg #[.int .i64 y.1.aA,v.1,v.2.1,v.2.2.1,v.2.2.2.1],v.2.2.2.2,.int .i64 y.2.2]) (fun y v=>[.own (aI 2 (aL .i64)) v.1 y.1.aE,.own (aI 2 (aL .i64)) v.2.1 y.1.To,.own (aI 2 (aL .i64)) v.2.2.1 y.1.aH,.own (aI 24 (aI 2 (aL .i64))) v.2.2.2.1 y.1.aC,.own (aI 24 (aI 2 (aL .i64))) v.2.2.2.2 y.2.1]):=by
 refine ct (S:=Unit) (bu fun _ _=>rfl) Tryz.func42 rfl rfl ?_
 repeat' first
  | (apply Dk.fe; repeat' first | exact rfl | (refine @id.{0} _ ?_; constructor))
  | intro _
  | exact rfl
  | (refine @id.{0} _ ?_; constructor)
  | apply c29
  | apply c74
  | apply Rp
  | exact ()
theorem c11 {x0:bT} {bI bK bA aT bJ bL bB aU bS bX cG cS:Value}:Ct Tryz.prog 11 true (nH x0) [.agg #[.int .i64 (x0.On.aB.aA),bI,bK,bA,aT,.int .i64 (x0.On.aG.aA),bJ,bL,bB,aU,bS,bX,cG,cS]] [rI bI x0.On.aB.aE,rI bK x0.On.aB.To,rI bA x0.On.aB.aH,rJ aT x0.On.aB.aC,rI bJ x0.On.aG.aE,rI bL x0.On.aG.To,rI bB x0.On.aG.aH,rJ aU x0.On.aG.aC,rI bS x0.On.aA,rI bX x0.On.ab,rI cG x0.Unit,rI cS x0.cn] (fun y (v:Value×Value×Value×Value)=>[.agg #[.int .i64 y.1.aA,v.1,v.2.1,v.2.2.1,v.2.2.2],.int .i64 y.2]) (fun y v=>[.own (aI 2 (aL .i64)) v.1 y.1.aE,.own (aI 2 (aL .i64)) v.2.1 y.1.To,.own (aI 2 (aL .i64)) v.2.2.1 y.1.aH,.own (aI 24 (aI 2 (aL .i64))) v.2.2.2 y.1.aC]):=by
 refine ct (S:=Unit) (bu fun _ _=>rfl) Tryz.func11 rfl rfl ?_
 repeat' first
  | (apply Dk.fe; repeat' first | exact rfl | (refine @id.{0} _ ?_; constructor))
  | intro _
  | exact rfl
  | (refine @id.{0} _ ?_; constructor)
  | apply c42
  | exact ()
theorem c12 {x0:bT} {bI bK bA aT bJ bL bB aU bS bX cG cS:Value}:Ct Tryz.prog 12 true (oV x0) [.agg #[.int .i64 (x0.On.aB.aA),bI,bK,bA,aT,.int .i64 (x0.On.aG.aA),bJ,bL,bB,aU,bS,bX,cG,cS]] [rI bI x0.On.aB.aE,rI bK x0.On.aB.To,rI bA x0.On.aB.aH,rJ aT x0.On.aB.aC,rI bJ x0.On.aG.aE,rI bL x0.On.aG.To,rI bB x0.On.aG.aH,rJ aU x0.On.aG.aC,rI bS x0.On.aA,rI bX x0.On.ab,rI cG x0.Unit,rI cS x0.cn] (fun y (v:Value)=>[v,.int .i64 y.2]) (fun y v=>[.own (aI 24 (aI 2 (aL .i64))) v y.1]):=by
 refine ct (S:=Unit) (bu fun _ _=>rfl) Tryz.func12 rfl rfl ?_
 repeat' first
  | (apply Dk.fe; repeat' first | exact rfl | (refine @id.{0} _ ?_; constructor))
  | intro _
  | exact rfl
  | (refine @id.{0} _ ?_; constructor)
  | apply c42
  | exact ()
end Go.Proofs.YtilhlobfebngdaaGreat
