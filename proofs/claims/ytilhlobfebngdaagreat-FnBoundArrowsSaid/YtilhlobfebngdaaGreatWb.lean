/- Walks by the calculus D. No condition beside those that each theorem names. -/
import Derived.Test.YtilhlobfebngdaaGreatDp
import Derived.Test.YtilhlobfebngdaaGreatDi
import Derived.Test.YtilhlobfebngdaaGreatMo
import Derived.Test.YtilhlobfebngdaaGreatDs
namespace Go.Proofs.YtilhlobfebngdaaGreat
open Go Go.Li Go.Dk
set_option linter.unusedVariables false
set_option maxHeartbeats 16000000
set_option maxRecDepth 100000
theorem c5 {x0:(List Int)} {cU:Value}:Ct Tryz.prog 5 true (uX x0) [cU] [.rd false (bE (aL .u8)) cU x0] (fun y (_:Unit)=>[.bool y]) (fun y _=>[]):=by
 refine ct (S:=Unit) (bu fun _ _=>rfl) Tryz.func5 rfl rfl ?_
 repeat' first
  | (apply Dk.fe; repeat' first | exact rfl | (refine @id.{0} _ ?_; constructor))
  | intro _
  | exact rfl
  | (refine @id.{0} _ ?_; constructor)
  | exact ()
theorem c26 {x0:(List Int)} {cU:Value}:Ct Tryz.prog 26 true (qX x0) [cU] [.rd false (bE (aL .u8)) cU x0] (fun y (v:Nat)=>[(match y with | none=>Value.pointer none | some _=>.pointer (some (⟨v,0,none⟩)))]) (fun y v=>match y with | none=>[] | some m0=>[.row v [cU,.int .i64 (m0.At),.int .u64 (m0.an)] 91]):=by
 refine ct (S:=Unit) (by intro _ y v; obtain _ | _:=y <;> rfl) Tryz.func26 rfl rfl ?_
 repeat' first
  | (apply Dk.fe; repeat' first | exact rfl | (refine @id.{0} _ ?_; constructor))
  | intro _
  | exact rfl
  | apply Dk.D.vx (d:=9)
  | apply Dk.AD.vx (d:=9)
  | apply Dk.D.vx (d:=27)
  | apply Dk.AD.vx (d:=27)
  | apply Dk.D.vx (d:=33)
  | apply Dk.AD.vx (d:=33)
  | apply Dk.D.vx (d:=34)
  | apply Dk.AD.vx (d:=34)
  | (refine @id.{0} _ ?_; constructor)
  | apply Dk.iv 0 (V:=Unit) (A:=Nat) _ (fun a (s:Int×Int) v=>[.row a [cU,.int .i64 ((0:Int)),.int .u64 (s.2)] 91]) (fun a s v=>[(3,.pointer (some ⟨a,0,none⟩)),(4,.int .i64 (s.1))]) () [(0,_)]
  | apply Dk.any (id:=5) 11 [0] [] [[],[],[1],[1,2],[1,2,3],[1,2,3,4],[],[],[6,7],[6,7,8],[6,7,8,9]] (by kernel_rfl)
  | exact ()
 all_goals try first | exact Value.nilFunc | exact (0:Nat)
theorem aiQ {x0:aP} {bG bN aV aR bH bP aW aS bV cA:Value} {x1:aP} {cW dE cH cC cX dF cI cD dQ dU:Value} {x2:(List Int)} {eI:Value} {x3:Int}:Ct Tryz.prog 163 true (kY x0 x1 x2 x3) [.agg #[.int .i64 (x0.aB.aA),bG,bN,aV,aR,.int .i64 (x0.aG.aA),bH,bP,aW,aS,bV,cA],.agg #[.int .i64 (x1.aB.aA),cW,dE,cH,cC,.int .i64 (x1.aG.aA),cX,dF,cI,cD,dQ,dU],eI,.int .i64 (x3)] [rI bG x0.aB.aE,rI bN x0.aB.To,rI aV x0.aB.aH,rJ aR x0.aB.aC,rI bH x0.aG.aE,rI bP x0.aG.To,rI aW x0.aG.aH,rJ aS x0.aG.aC,rI bV x0.aA,rI cA x0.ab,rI cW x1.aB.aE,rI dE x1.aB.To,rI cH x1.aB.aH,rJ cC x1.aB.aC,rI cX x1.aG.aE,rI dF x1.aG.To,rI cI x1.aG.aH,rJ cD x1.aG.aC,rI dQ x1.aA,rI dU x1.ab,rI eI x2] (fun y (_:Unit)=>[.bool y]) (fun y _=>[]):=by
 refine ct (S:=Unit) (bu fun _ _=>rfl) Tryz.func163 rfl rfl ?_
 repeat' first
  | (apply Dk.fe; repeat' first | exact rfl | (refine @id.{0} _ ?_; constructor))
  | intro _
  | exact rfl
  | (refine @id.{0} _ ?_; constructor)
  | apply Dk.quiet (id:=2) (by kernel_rfl)
  | apply Dk.any (id:=1) 7 [] [[],[],[],[],[],[],[4]] [[],[0],[],[2],[],[],[0,1,4,5]] (by kernel_rfl)
  | exact ()
theorem aiR {x0:(List Int)} {cU:Value} {x1:(List Int)} {eB:Value}:Ct Tryz.prog 125 true (oG x0 x1) [cU,eB] [rI cU x0,rI eB x1] (fun y (v:Value)=>[v]) (fun y v=>[.own (aI 2 (aL .i64)) v y]):=by
 refine ct (S:=Unit) (bu fun _ _=>rfl) Tryz.func125 rfl rfl ?_
 repeat' first
  | (apply Dk.fe; repeat' first | exact rfl | (refine @id.{0} _ ?_; constructor))
  | intro _
  | exact rfl
  | (refine @id.{0} _ ?_; constructor)
  | apply Dk.loop 0 (V:=Value) (fun (s:(List Int)×Int) v=>[.own (aI 2 (aL .i64)) v s.1]) (fun s v=>[(5,v),(6,.int .i64 (s.2))]) _ [(0,_),(1,_)]
  | exact ()
theorem LS {x0:aF} {dM:Addr} {aQ bC aO aN:Value}:Ct Tryz.prog 35 true (cY x0) [.pointer (some (dM))] [.bc dM [.int .i64 (x0.aA),aQ,bC,aO,aN],rI aQ x0.aE,rI bC x0.To,rI aO x0.aH,rJ aN x0.aC] (fun y (_:Unit)=>[.int .i64 y]) (fun y _=>[]):=by
 refine ct (S:=Unit) (bu fun _ _=>rfl) Tryz.func35 rfl rfl ?_
 repeat' first
  | (apply Dk.fe; repeat' first | exact rfl | (refine @id.{0} _ ?_; constructor))
  | intro _
  | exact rfl
  | (refine @id.{0} _ ?_; constructor)
  | exact ()
theorem Ro {x0:aF} {dM:Addr} {aQ bC aO aN:Value} {x1:Int} {x2:Int}:Ct Tryz.prog 46 true (cT x0 x1 x2) [.pointer (some (dM)),.int .i64 (x1),.int .i64 (x2)] [.bc dM [.int .i64 (x0.aA),aQ,bC,aO,aN],rI aQ x0.aE,rI bC x0.To,rI aO x0.aH,rJ aN x0.aC] (fun y (_:Unit)=>[.int .i64 y]) (fun y _=>[]):=by
 refine ct (S:=Unit) (bu fun _ _=>rfl) Tryz.func46 rfl rfl ?_
 repeat' first
  | (apply Dk.fe; repeat' first | exact rfl | (refine @id.{0} _ ?_; constructor))
  | intro _
  | exact rfl
  | (refine @id.{0} _ ?_; constructor)
  | exact ()
theorem aiS {x0:aF} {dM:Addr} {aQ bC aO aN:Value}:Ct Tryz.prog 108 true (lO x0) [.pointer (some (dM))] [.bc dM [.int .i64 (x0.aA),aQ,bC,aO,aN],rI aQ x0.aE,rI bC x0.To,rI aO x0.aH,rJ aN x0.aC] (fun y (_:Unit)=>[.int .i64 y.1,.int .i64 y.2.1,.int .i64 y.2.2.1,.int .i64 y.2.2.2]) (fun y _=>[]):=by
 refine ct (S:=Unit) (bu fun _ _=>rfl) Tryz.func108 rfl rfl ?_
 repeat' first
  | (apply Dk.fe; repeat' first | exact rfl | (refine @id.{0} _ ?_; constructor))
  | intro _
  | exact rfl
  | (refine Dk.uo (t:=64) rfl ?_ ?_)
  | (refine Dk.uo (t:=74) rfl ?_ ?_)
  | (refine @id.{0} _ ?_; constructor)
  | apply Dk.loop 0 (V:=Unit) (fun (s:Int) v=>[]) (fun s v=>[(7,.int .i64 (s))]) () [(0,_),(6,_)]
  | apply Dk.loop 2 (V:=Unit) (fun (s:Int) v=>[]) (fun s v=>[(8,.int .i64 (s))]) () [(0,_),(6,_)]
  | apply Dk.loop 4 (V:=Unit) (fun (s:Int) v=>[]) (fun s v=>[(9,.int .i64 (s))]) () [(0,_),(6,_),(8,_)]
  | apply Dk.loop 6 (V:=Unit) (fun (s:Int) v=>[]) (fun s v=>[(10,.int .i64 (s))]) () [(0,_),(6,_),(8,_),(9,_)]
  | apply Dk.quiet (id:=5) (by kernel_rfl)
  | apply LS
  | apply Ro
  | exact ()
theorem c96 {x0:Int}:Ct Tryz.prog 96 true (oQ x0) [.int .i64 (x0)] [] (fun y (v:Value)=>[v]) (fun y v=>[.own (aI 2 (aL .i64)) v y]):=by
 refine ct (S:=Unit) (bu fun _ _=>rfl) Tryz.func96 rfl rfl ?_
 repeat' first
  | (apply Dk.fe; repeat' first | exact rfl | (refine @id.{0} _ ?_; constructor))
  | intro _
  | exact rfl
  | (refine @id.{0} _ ?_; constructor)
  | apply Dk.iv 0 (V:=Unit) (A:=Value) _ (fun a (s:Int×(List Int)) v=>[.own (aI 2 (aL .i64)) a s.2]) (fun a s v=>[(3,a),(9,.int .i64 (s.1))]) () [(8,_)]
  | exact ()
theorem aiT {x0:aP} {dM:Addr} {bG bN aV aR bH bP aW aS bV cA:Value} {x1:aP} {rW:Addr} {cW dE cH cC cX dF cI cD dQ dU:Value} {x2:(List Int)} {eI:Value} {x3:Int}:Ct Tryz.prog 131 true (kG x0 x1 x2 x3) [.pointer (some (dM)),.pointer (some (rW)),eI,.int .i64 (x3)] [.bc rW [.int .i64 (x1.aB.aA),cW,dE,cH,cC,.int .i64 (x1.aG.aA),cX,dF,cI,cD,dQ,dU],.bc dM [.int .i64 (x0.aB.aA),bG,bN,aV,aR,.int .i64 (x0.aG.aA),bH,bP,aW,aS,bV,cA],rI bG x0.aB.aE,rI bN x0.aB.To,rI aV x0.aB.aH,rJ aR x0.aB.aC,rI bH x0.aG.aE,rI bP x0.aG.To,rI aW x0.aG.aH,rJ aS x0.aG.aC,rI bV x0.aA,rI cA x0.ab,rI cW x1.aB.aE,rI dE x1.aB.To,rI cH x1.aB.aH,rJ cC x1.aB.aC,rI cX x1.aG.aE,rI dF x1.aG.To,rI cI x1.aG.aH,rJ cD x1.aG.aC,rI dQ x1.aA,rI dU x1.ab,rI eI x2] (fun y (_:Unit)=>[.bool y]) (fun y _=>[]):=by
 refine ct (S:=Unit) (bu fun _ _=>rfl) Tryz.func131 rfl rfl ?_
 repeat' first
  | (apply Dk.fe; repeat' first | exact rfl | (refine @id.{0} _ ?_; constructor))
  | intro _
  | exact rfl
  | (refine @id.{0} _ ?_; constructor)
  | apply Dk.quiet (id:=1) (by kernel_rfl)
  | apply Dk.quiet (id:=2) (by kernel_rfl)
  | apply Ro
  | exact ()
theorem c36 {x0:bT} {dM:Addr} {bI bK bA aT bJ bL bB aU bS bX cG cS:Value} {x1:Int}:Ct Tryz.prog 36 true (dP x0 x1) [.pointer (some (dM)),.int .i64 (x1)] [.bc dM [.int .i64 (x0.On.aB.aA),bI,bK,bA,aT,.int .i64 (x0.On.aG.aA),bJ,bL,bB,aU,bS,bX,cG,cS],rI bI x0.On.aB.aE,rI bK x0.On.aB.To,rI bA x0.On.aB.aH,rJ aT x0.On.aB.aC,rI bJ x0.On.aG.aE,rI bL x0.On.aG.To,rI bB x0.On.aG.aH,rJ aU x0.On.aG.aC,rI bS x0.On.aA,rI bX x0.On.ab,rI cG x0.Unit,rI cS x0.cn] (fun y (_:Unit)=>[.int .i64 y]) (fun y _=>[]):=by
 refine ct (S:=Unit) (bu fun _ _=>rfl) Tryz.func36 rfl rfl ?_
 repeat' first
  | (apply Dk.fe; repeat' first | exact rfl | (refine @id.{0} _ ?_; constructor))
  | intro _
  | exact rfl
  | (refine @id.{0} _ ?_; constructor)
  | exact ()
theorem c47 {x0:bT} {dM:Addr} {bI bK bA aT bJ bL bB aU bS bX cG cS:Value} {x1:Int}:Ct Tryz.prog 47 true (lJ x0 x1) [.pointer (some (dM)),.int .i64 (x1)] [.bc dM [.int .i64 (x0.On.aB.aA),bI,bK,bA,aT,.int .i64 (x0.On.aG.aA),bJ,bL,bB,aU,bS,bX,cG,cS],rI bI x0.On.aB.aE,rI bK x0.On.aB.To,rI bA x0.On.aB.aH,rJ aT x0.On.aB.aC,rI bJ x0.On.aG.aE,rI bL x0.On.aG.To,rI bB x0.On.aG.aH,rJ aU x0.On.aG.aC,rI bS x0.On.aA,rI bX x0.On.ab,rI cG x0.Unit,rI cS x0.cn] (fun y (_:Unit)=>[.int .i64 y]) (fun y _=>[]):=by
 refine ct (S:=Unit) (bu fun _ _=>rfl) Tryz.func47 rfl rfl ?_
 repeat' first
  | (apply Dk.fe; repeat' first | exact rfl | (refine @id.{0} _ ?_; constructor))
  | intro _
  | exact rfl
  | (refine @id.{0} _ ?_; constructor)
  | exact ()
theorem c70 {x0:bT} {dM:Addr} {bI bK bA aT bJ bL bB aU bS bX cG cS:Value}:Ct Tryz.prog 70 true (lQ x0) [.pointer (some (dM))] [.bc dM [.int .i64 (x0.On.aB.aA),bI,bK,bA,aT,.int .i64 (x0.On.aG.aA),bJ,bL,bB,aU,bS,bX,cG,cS],rI bI x0.On.aB.aE,rI bK x0.On.aB.To,rI bA x0.On.aB.aH,rJ aT x0.On.aB.aC,rI bJ x0.On.aG.aE,rI bL x0.On.aG.To,rI bB x0.On.aG.aH,rJ aU x0.On.aG.aC,rI bS x0.On.aA,rI bX x0.On.ab,rI cG x0.Unit,rI cS x0.cn] (fun y (_:Unit)=>[.bool y]) (fun y _=>[]):=by
 refine ct (S:=Unit) (bu fun _ _=>rfl) Tryz.func70 rfl rfl ?_
 repeat' first
  | (apply Dk.fe; repeat' first | exact rfl | (refine @id.{0} _ ?_; constructor))
  | intro _
  | exact rfl
  | (refine @id.{0} _ ?_; constructor)
  | apply Dk.loop 0 (V:=Unit) (fun (s:Int) v=>[]) (fun s v=>[(4,.int .i64 (s))]) () [(0,_),(3,_)]
  | apply Dk.quiet (id:=6) (by kernel_rfl)
  | apply Dk.quiet (id:=8) (by kernel_rfl)
  | apply c36
  | apply c47
  | apply Ro
  | exact ()
theorem c72 {x0:Int} {x1:Int} {x2:Int} {x3:aF} {vN vP:Addr} {vI vM uH uB:Value} {x4:bT} {vO vQ:Addr} {sG tN pE nZ sH tO pF oA uC uF vJ vK:Value}:Ct Tryz.prog 72 true (fW x0 x1 x2 x3 x4) [.int .i64 (x0),.int .i64 (x1),.int .i64 (x2),.pointer (some (vN)),.pointer (some (vO))] [.bc vO [.pointer (some (vQ))],.bc vQ [.int .i64 (x4.On.aB.aA),sG,tN,pE,nZ,.int .i64 (x4.On.aG.aA),sH,tO,pF,oA,uC,uF,vJ,vK],.bc vN [.pointer (some (vP))],.bc vP [.int .i64 (x3.aA),vI,vM,uH,uB],rI vI x3.aE,rI vM x3.To,rI uH x3.aH,rJ uB x3.aC,rI sG x4.On.aB.aE,rI tN x4.On.aB.To,rI pE x4.On.aB.aH,rJ nZ x4.On.aB.aC,rI sH x4.On.aG.aE,rI tO x4.On.aG.To,rI pF x4.On.aG.aH,rJ oA x4.On.aG.aC,rI uC x4.On.aA,rI uF x4.On.ab,rI vJ x4.Unit,rI vK x4.cn] (fun y (_:Unit)=>[.int .i64 y]) (fun y _=>[]):=by
 refine ct (S:=Unit) (bu fun _ _=>rfl) Tryz.func72 rfl rfl ?_
 repeat' first
  | (apply Dk.fe; repeat' first | exact rfl | (refine @id.{0} _ ?_; constructor))
  | intro _
  | exact rfl
  | (refine @id.{0} _ ?_; constructor)
  | apply Dk.quiet (id:=1) (by kernel_rfl)
  | apply Ro
  | exact ()
theorem c55 {x0:aF} {dM:Addr} {aQ bC aO aN:Value} {x1:Int} {x2:Int}:Ct Tryz.prog 55 true (kH x0 x1 x2) [.pointer (some (dM)),.int .i64 (x1),.int .i64 (x2)] [.bc dM [.int .i64 (x0.aA),aQ,bC,aO,aN],rI aQ x0.aE,rI bC x0.To,rI aO x0.aH,rJ aN x0.aC] (fun y (v:Value)=>[v]) (fun y v=>[.own (aI 2 (aL .i64)) v y]):=by
 refine ct (S:=Unit) (bu fun _ _=>rfl) Tryz.func55 rfl rfl ?_
 repeat' first
  | (apply Dk.fe; repeat' first | exact rfl | (refine @id.{0} _ ?_; constructor))
  | intro _
  | exact rfl
  | (refine @id.{0} _ ?_; constructor)
  | apply Dk.loop 0 (V:=Value) (fun (s:(List Int)×Int) v=>[.own (aI 2 (aL .i64)) v s.1]) (fun s v=>[(7,v),(15,.int .i64 (s.2))]) _ [(0,_),(1,_),(2,_),(14,_)]
  | exact ()
theorem c99 {x0:bT} {dM:Addr} {bI bK bA aT bJ bL bB aU bS bX cG cS:Value}:Ct Tryz.prog 99 true (iW x0) [.pointer (some (dM))] [.bc dM [.int .i64 (x0.On.aB.aA),bI,bK,bA,aT,.int .i64 (x0.On.aG.aA),bJ,bL,bB,aU,bS,bX,cG,cS],rI bI x0.On.aB.aE,rI bK x0.On.aB.To,rI bA x0.On.aB.aH,rJ aT x0.On.aB.aC,rI bJ x0.On.aG.aE,rI bL x0.On.aG.To,rI bB x0.On.aG.aH,rJ aU x0.On.aG.aC,rI bS x0.On.aA,rI bX x0.On.ab,rI cG x0.Unit,rI cS x0.cn] (fun y (v:Value)=>[v]) (fun y v=>[.own (aI 24 (aI 2 (aL .i64))) v y]):=by
 refine ct (S:=Unit) (bu fun _ _=>rfl) Tryz.func99 rfl rfl ?_
 repeat' first
  | (apply Dk.fe; repeat' first | exact rfl | (refine @id.{0} _ ?_; constructor))
  | intro _
  | exact rfl
  | (refine Dk.uo (t:=27) rfl ?_ ?_)
  | apply Dk.xM (d:=45)
  | (refine @id.{0} _ ?_; constructor)
  | apply Dk.loop 0 (V:=Value) (fun (s:(List (List Int))×Int) v=>[.own (aI 24 (aI 2 (aL .i64))) v s.1]) (fun s v=>[(4,v),(5,.int .i64 (s.2))]) _ [(0,_),(3,_)]
  | apply Dk.loop 2 (V:=Value) (fun (s:(List (List Int))×Int) v=>[.own (aI 24 (aI 2 (aL .i64))) v s.1]) (fun s v=>[(4,v),(6,.int .i64 (s.2))]) _ [(0,_),(3,_),(5,_)]
  | apply Dk.loop 4 (V:=Value) (fun (s:(List (List Int))×Int) v=>[.own (aI 24 (aI 2 (aL .i64))) v s.1]) (fun s v=>[(4,v),(37,.int .i64 (s.2))]) _ [(0,_),(3,_),(5,_),(6,_),(35,_),(36,_)]
  | apply c36
  | apply c55
  | exact ()
theorem aiU {x0:(List (List Int))} {cU:Value} {x1:Int}:Ct Tryz.prog 101 true (pU x0 x1) [cU,.int .i64 (x1)] [rJ cU x0] (fun y (v:Value)=>[v]) (fun y v=>[.own (aI 2 (aL .i64)) v y]):=by
 refine ct (S:=Unit) (bu fun _ _=>rfl) Tryz.func101 rfl rfl ?_
 repeat' first
  | (apply Dk.fe; repeat' first | exact rfl | (refine @id.{0} _ ?_; constructor))
  | intro _
  | exact rfl
  | (refine @id.{0} _ ?_; constructor)
  | apply Dk.loop 0 (V:=Value) (fun (s:(List Int)×Int) v=>[.own (aI 2 (aL .i64)) v s.1]) (fun s v=>[(5,v),(11,.int .i64 (s.2))]) _ [(1,_),(9,_),(10,_)]
  | exact ()
end Go.Proofs.YtilhlobfebngdaaGreat
