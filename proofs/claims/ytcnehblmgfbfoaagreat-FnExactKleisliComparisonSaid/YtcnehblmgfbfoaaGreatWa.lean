/- Walks by the calculus D. No condition beside those that each theorem names. -/
import Derived.Test.YtcnehblmgfbfoaaGreatDp
import Derived.Test.YtcnehblmgfbfoaaGreatDi
import Derived.Test.YtcnehblmgfbfoaaGreatMo
import Derived.Test.YtcnehblmgfbfoaaGreatDs
namespace Go.Proofs.YtcnehblmgfbfoaaGreat
open Go Go.Li Go.Dk
set_option linter.unusedVariables false
set_option maxHeartbeats 16000000
set_option maxRecDepth 100000
theorem D2 {x0:aH} {cD:Addr} {bH bR aW aT:Value}:Ct Tryz.prog 88 true (cE x0) [.pointer (some (cD))] [.aw cD [.int .i64 (x0.aD),bH,bR,aW,aT],rI bH x0.aF,rI bR x0.To,rI aW x0.aG,rJ aT x0.aC] (fun y (_:Unit)=>[.int .i64 y]) (fun y _=>[]):=by
 refine ct (S:=Unit) (bp fun _ _=>rfl) Tryz.func88 rfl rfl ?_
 repeat' first
  | (apply Dk.fe; repeat' first | exact rfl | (refine @id.{0} _ ?_; constructor))
  | intro _
  | exact rfl
  | (refine @id.{0} _ ?_; constructor)
  | exact ()
theorem Lo {x0:aH} {cD:Addr} {bH bR aW aT:Value} {x1:Int}:Ct Tryz.prog 245 true (dJ x0 x1) [.pointer (some (cD)),.int .i64 (x1)] [.aw cD [.int .i64 (x0.aD),bH,bR,aW,aT],rI bH x0.aF,rI bR x0.To,rI aW x0.aG,rJ aT x0.aC] (fun y (_:Unit)=>[.agg #[.int .i64 y.aF,.int .i64 y.To]]) (fun y _=>[]):=by
 refine ct (S:=Unit) (bp fun _ _=>rfl) Tryz.func245 rfl rfl ?_
 repeat' first
  | (apply Dk.fe; repeat' first | exact rfl | (refine @id.{0} _ ?_; constructor))
  | intro _
  | exact rfl
  | (refine @id.{0} _ ?_; constructor)
  | apply Dk.any (id:=1) 14 [] [] [[],[0],[0,1],[0,1,2],[],[0,1,2,3,4],[0,1,2,3,4,5],[],[7],[7,8],[7,8,9],[],[7,8,9,10,11],[7,8,9,10,11,12]] (by kernel_rfl)
  | exact ()
theorem Ad {x0:aH} {cD:Addr} {bH bR aW aT:Value} {x1:Int} {x2:Int}:Ct Tryz.prog 67 true (bT x0 x1 x2) [.pointer (some (cD)),.int .i64 (x1),.int .i64 (x2)] [.aw cD [.int .i64 (x0.aD),bH,bR,aW,aT],rI bH x0.aF,rI bR x0.To,rI aW x0.aG,rJ aT x0.aC] (fun y (_:Unit)=>[.int .i64 y]) (fun y _=>[]):=by
 refine ct (S:=Unit) (bp fun _ _=>rfl) Tryz.func67 rfl rfl ?_
 repeat' first
  | (apply Dk.fe; repeat' first | exact rfl | (refine @id.{0} _ ?_; constructor))
  | intro _
  | exact rfl
  | (refine @id.{0} _ ?_; constructor)
  | exact ()
theorem Xw {x0:aH} {cD:Addr} {bH bR aW aT:Value}:Ct Tryz.prog 268 true (iO x0) [.pointer (some (cD))] [.aw cD [.int .i64 (x0.aD),bH,bR,aW,aT],rI bH x0.aF,rI bR x0.To,rI aW x0.aG,rJ aT x0.aC] (fun y (_:Unit)=>[.int .i64 y.1,.int .i64 y.2.1,.int .i64 y.2.2.1,.int .i64 y.2.2.2]) (fun y _=>[]):=by
 refine ct (S:=Unit) (bp fun _ _=>rfl) Tryz.func268 rfl rfl ?_
 repeat' first
  | (apply Dk.fe; repeat' first | exact rfl | (refine @id.{0} _ ?_; constructor))
  | intro _
  | exact rfl
  | (refine Dk.zv (t:=64) rfl ?_ ?_)
  | (refine Dk.zv (t:=74) rfl ?_ ?_)
  | (refine @id.{0} _ ?_; constructor)
  | apply Dk.loop 0 (V:=Unit) (fun (s:Int) v=>[]) (fun s v=>[(7,.int .i64 (s))]) () [(0,_),(6,_)]
  | apply Dk.loop 2 (V:=Unit) (fun (s:Int) v=>[]) (fun s v=>[(8,.int .i64 (s))]) () [(0,_),(6,_)]
  | apply Dk.loop 4 (V:=Unit) (fun (s:Int) v=>[]) (fun s v=>[(9,.int .i64 (s))]) () [(0,_),(6,_),(8,_)]
  | apply Dk.loop 6 (V:=Unit) (fun (s:Int) v=>[]) (fun s v=>[(10,.int .i64 (s))]) () [(0,_),(6,_),(8,_),(9,_)]
  | apply Dk.quiet (id:=5) (by kernel_rfl)
  | apply D2
  | apply Ad
  | exact ()
theorem Xx {x0:aS} {cD:Addr} {bI bP bF bC bJ bQ bG bD bU bV:Value} {x1:aS} {kA:Addr} {cF cP cB bY cG cQ cC bZ cY dE:Value} {x2:(List Int)} {lE:Value} {x3:Int}:Ct Tryz.prog 289 true (gP x0 x1 x2 x3) [.pointer (some (cD)),.pointer (some (kA)),lE,.int .i64 (x3)] [.aw kA [.int .i64 (x1.aB.aD),cF,cP,cB,bY,.int .i64 (x1.aE.aD),cG,cQ,cC,bZ,cY,dE],.aw cD [.int .i64 (x0.aB.aD),bI,bP,bF,bC,.int .i64 (x0.aE.aD),bJ,bQ,bG,bD,bU,bV],rI bI x0.aB.aF,rI bP x0.aB.To,rI bF x0.aB.aG,rJ bC x0.aB.aC,rI bJ x0.aE.aF,rI bQ x0.aE.To,rI bG x0.aE.aG,rJ bD x0.aE.aC,rI bU x0.aD,rI bV x0.ab,rI cF x1.aB.aF,rI cP x1.aB.To,rI cB x1.aB.aG,rJ bY x1.aB.aC,rI cG x1.aE.aF,rI cQ x1.aE.To,rI cC x1.aE.aG,rJ bZ x1.aE.aC,rI cY x1.aD,rI dE x1.ab,rI lE x2] (fun y (_:Unit)=>[.bool y]) (fun y _=>[]):=by
 refine ct (S:=Unit) (bp fun _ _=>rfl) Tryz.func289 rfl rfl ?_
 repeat' first
  | (apply Dk.fe; repeat' first | exact rfl | (refine @id.{0} _ ?_; constructor))
  | intro _
  | exact rfl
  | (refine @id.{0} _ ?_; constructor)
  | apply Dk.quiet (id:=1) (by kernel_rfl)
  | apply Dk.quiet (id:=2) (by kernel_rfl)
  | apply Ad
  | exact ()
theorem D3 {x0:bB} {cD:Addr} {aQ aU aO aL aR aV aP aN aZ bA bM bN:Value} {x1:Int}:Ct Tryz.prog 145 true (cO x0 x1) [.pointer (some (cD)),.int .i64 (x1)] [.aw cD [.int .i64 (x0.On.aB.aD),aQ,aU,aO,aL,.int .i64 (x0.On.aE.aD),aR,aV,aP,aN,aZ,bA,bM,bN],rI aQ x0.On.aB.aF,rI aU x0.On.aB.To,rI aO x0.On.aB.aG,rJ aL x0.On.aB.aC,rI aR x0.On.aE.aF,rI aV x0.On.aE.To,rI aP x0.On.aE.aG,rJ aN x0.On.aE.aC,rI aZ x0.On.aD,rI bA x0.On.ab,rI bM x0.Unit,rI bN x0.ba] (fun y (_:Unit)=>[.int .i64 y]) (fun y _=>[]):=by
 refine ct (S:=Unit) (bp fun _ _=>rfl) Tryz.func145 rfl rfl ?_
 repeat' first
  | (apply Dk.fe; repeat' first | exact rfl | (refine @id.{0} _ ?_; constructor))
  | intro _
  | exact rfl
  | (refine @id.{0} _ ?_; constructor)
  | exact ()
theorem MI {x0:bB} {cD:Addr} {aQ aU aO aL aR aV aP aN aZ bA bM bN:Value} {x1:Int}:Ct Tryz.prog 68 true (cX x0 x1) [.pointer (some (cD)),.int .i64 (x1)] [.aw cD [.int .i64 (x0.On.aB.aD),aQ,aU,aO,aL,.int .i64 (x0.On.aE.aD),aR,aV,aP,aN,aZ,bA,bM,bN],rI aQ x0.On.aB.aF,rI aU x0.On.aB.To,rI aO x0.On.aB.aG,rJ aL x0.On.aB.aC,rI aR x0.On.aE.aF,rI aV x0.On.aE.To,rI aP x0.On.aE.aG,rJ aN x0.On.aE.aC,rI aZ x0.On.aD,rI bA x0.On.ab,rI bM x0.Unit,rI bN x0.ba] (fun y (_:Unit)=>[.int .i64 y]) (fun y _=>[]):=by
 refine ct (S:=Unit) (bp fun _ _=>rfl) Tryz.func68 rfl rfl ?_
 repeat' first
  | (apply Dk.fe; repeat' first | exact rfl | (refine @id.{0} _ ?_; constructor))
  | intro _
  | exact rfl
  | (refine @id.{0} _ ?_; constructor)
  | exact ()
theorem Xy {x0:bB} {cD:Addr} {aQ aU aO aL aR aV aP aN aZ bA bM bN:Value}:Ct Tryz.prog 227 true (iQ x0) [.pointer (some (cD))] [.aw cD [.int .i64 (x0.On.aB.aD),aQ,aU,aO,aL,.int .i64 (x0.On.aE.aD),aR,aV,aP,aN,aZ,bA,bM,bN],rI aQ x0.On.aB.aF,rI aU x0.On.aB.To,rI aO x0.On.aB.aG,rJ aL x0.On.aB.aC,rI aR x0.On.aE.aF,rI aV x0.On.aE.To,rI aP x0.On.aE.aG,rJ aN x0.On.aE.aC,rI aZ x0.On.aD,rI bA x0.On.ab,rI bM x0.Unit,rI bN x0.ba] (fun y (_:Unit)=>[.bool y]) (fun y _=>[]):=by
 refine ct (S:=Unit) (bp fun _ _=>rfl) Tryz.func227 rfl rfl ?_
 repeat' first
  | (apply Dk.fe; repeat' first | exact rfl | (refine @id.{0} _ ?_; constructor))
  | intro _
  | exact rfl
  | (refine @id.{0} _ ?_; constructor)
  | apply Dk.loop 0 (V:=Unit) (fun (s:Int) v=>[]) (fun s v=>[(4,.int .i64 (s))]) () [(0,_),(3,_)]
  | apply Dk.quiet (id:=6) (by kernel_rfl)
  | apply Dk.quiet (id:=8) (by kernel_rfl)
  | apply D3
  | apply MI
  | apply Ad
  | exact ()
theorem Lp {x0:aH} {cD:Addr} {bH bR aW aT:Value} {x1:Int} {x2:Int}:Ct Tryz.prog 191 true (dQ x0 x1 x2) [.pointer (some (cD)),.int .i64 (x1),.int .i64 (x2)] [.aw cD [.int .i64 (x0.aD),bH,bR,aW,aT],rI bH x0.aF,rI bR x0.To,rI aW x0.aG,rJ aT x0.aC] (fun y (v:Value)=>[v]) (fun y v=>[.own (aI 2 (aJ .i64)) v y]):=by
 refine ct (S:=Unit) (bp fun _ _=>rfl) Tryz.func191 rfl rfl ?_
 repeat' first
  | (apply Dk.fe; repeat' first | exact rfl | (refine @id.{0} _ ?_; constructor))
  | intro _
  | exact rfl
  | (refine @id.{0} _ ?_; constructor)
  | apply Dk.loop 0 (V:=Value) (fun (s:(List Int)×Int) v=>[.own (aI 2 (aJ .i64)) v s.1]) (fun s v=>[(7,v),(15,.int .i64 (s.2))]) _ [(0,_),(1,_),(2,_),(14,_)]
  | exact ()
theorem Xz {x0:bB} {cD:Addr} {aQ aU aO aL aR aV aP aN aZ bA bM bN:Value}:Ct Tryz.prog 228 true (fM x0) [.pointer (some (cD))] [.aw cD [.int .i64 (x0.On.aB.aD),aQ,aU,aO,aL,.int .i64 (x0.On.aE.aD),aR,aV,aP,aN,aZ,bA,bM,bN],rI aQ x0.On.aB.aF,rI aU x0.On.aB.To,rI aO x0.On.aB.aG,rJ aL x0.On.aB.aC,rI aR x0.On.aE.aF,rI aV x0.On.aE.To,rI aP x0.On.aE.aG,rJ aN x0.On.aE.aC,rI aZ x0.On.aD,rI bA x0.On.ab,rI bM x0.Unit,rI bN x0.ba] (fun y (v:Value)=>[v]) (fun y v=>[.own (aI 22 (aI 2 (aJ .i64))) v y]):=by
 refine ct (S:=Unit) (bp fun _ _=>rfl) Tryz.func228 rfl rfl ?_
 repeat' first
  | (apply Dk.fe; repeat' first | exact rfl | (refine @id.{0} _ ?_; constructor))
  | intro _
  | exact rfl
  | (refine Dk.zv (t:=27) rfl ?_ ?_)
  | apply Dk.Gr (d:=45)
  | (refine @id.{0} _ ?_; constructor)
  | apply Dk.loop 0 (V:=Value) (fun (s:(List (List Int))×Int) v=>[.own (aI 22 (aI 2 (aJ .i64))) v s.1]) (fun s v=>[(4,v),(5,.int .i64 (s.2))]) _ [(0,_),(3,_)]
  | apply Dk.loop 2 (V:=Value) (fun (s:(List (List Int))×Int) v=>[.own (aI 22 (aI 2 (aJ .i64))) v s.1]) (fun s v=>[(4,v),(6,.int .i64 (s.2))]) _ [(0,_),(3,_),(5,_)]
  | apply Dk.loop 4 (V:=Value) (fun (s:(List (List Int))×Int) v=>[.own (aI 22 (aI 2 (aJ .i64))) v s.1]) (fun s v=>[(4,v),(37,.int .i64 (s.2))]) _ [(0,_),(3,_),(5,_),(6,_),(35,_),(36,_)]
  | apply D3
  | apply Lp
  | exact ()
theorem XA {x0:Int} {x1:Int} {x2:Int} {x3:aH} {pC oZ:Addr} {oR pB oF nX:Value} {x4:bB} {pD pF:Addr} {mY nN lQ kP mZ nO lR kQ nY oB oS oT:Value}:Ct Tryz.prog 276 true (fP x0 x1 x2 x3 x4) [.int .i64 (x0),.int .i64 (x1),.int .i64 (x2),.pointer (some (pC)),.pointer (some (pD))] [.aw pD [.pointer (some (pF))],.aw pF [.int .i64 (x4.On.aB.aD),mY,nN,lQ,kP,.int .i64 (x4.On.aE.aD),mZ,nO,lR,kQ,nY,oB,oS,oT],.aw pC [.pointer (some (oZ))],.aw oZ [.int .i64 (x3.aD),oR,pB,oF,nX],rI oR x3.aF,rI pB x3.To,rI oF x3.aG,rJ nX x3.aC,rI mY x4.On.aB.aF,rI nN x4.On.aB.To,rI lQ x4.On.aB.aG,rJ kP x4.On.aB.aC,rI mZ x4.On.aE.aF,rI nO x4.On.aE.To,rI lR x4.On.aE.aG,rJ kQ x4.On.aE.aC,rI nY x4.On.aD,rI oB x4.On.ab,rI oS x4.Unit,rI oT x4.ba] (fun y (_:Unit)=>[.int .i64 y]) (fun y _=>[]):=by
 refine ct (S:=Unit) (bp fun _ _=>rfl) Tryz.func276 rfl rfl ?_
 repeat' first
  | (apply Dk.fe; repeat' first | exact rfl | (refine @id.{0} _ ?_; constructor))
  | intro _
  | exact rfl
  | (refine @id.{0} _ ?_; constructor)
  | apply Dk.quiet (id:=1) (by kernel_rfl)
  | apply Ad
  | exact ()
theorem XB {x0:bB} {cD:Addr} {aQ aU aO aL aR aV aP aN aZ bA bM bN:Value} {x1:Int} {x2:Int}:Ct Tryz.prog 277 true (hJ x0 x1 x2) [.pointer (some (cD)),.int .i64 (x1),.int .i64 (x2)] [.aw cD [.int .i64 (x0.On.aB.aD),aQ,aU,aO,aL,.int .i64 (x0.On.aE.aD),aR,aV,aP,aN,aZ,bA,bM,bN],rI aQ x0.On.aB.aF,rI aU x0.On.aB.To,rI aO x0.On.aB.aG,rJ aL x0.On.aB.aC,rI aR x0.On.aE.aF,rI aV x0.On.aE.To,rI aP x0.On.aE.aG,rJ aN x0.On.aE.aC,rI aZ x0.On.aD,rI bA x0.On.ab,rI bM x0.Unit,rI bN x0.ba] (fun y (_:Unit)=>[.bool y]) (fun y _=>[]):=by
 refine ct (S:=Unit) (bp fun _ _=>rfl) Tryz.func277 rfl rfl ?_
 repeat' first
  | (apply Dk.fe; repeat' first | exact rfl | (refine @id.{0} _ ?_; constructor))
  | intro _
  | exact rfl
  | (refine @id.{0} _ ?_; constructor)
  | apply Dk.quiet (id:=2) (by kernel_rfl)
  | apply Lo
  | apply D3
  | apply Ad
  | apply MI
  | exact ()
theorem XC {x0:bB} {cD:Addr} {aQ aU aO aL aR aV aP aN aZ bA bM bN:Value} {x1:bW} {kA:Addr} {x2:bW} {pA:Addr}:Ct Tryz.prog 232 true (eT x0 x1 x2) [.pointer (some (cD)),.pointer (some (kA)),.pointer (some (pA))] [.aw pA [.int .i64 (x2.X),.int .i64 (x2.H)],.aw kA [.int .i64 (x1.X),.int .i64 (x1.H)],.aw cD [.int .i64 (x0.On.aB.aD),aQ,aU,aO,aL,.int .i64 (x0.On.aE.aD),aR,aV,aP,aN,aZ,bA,bM,bN],rI aQ x0.On.aB.aF,rI aU x0.On.aB.To,rI aO x0.On.aB.aG,rJ aL x0.On.aB.aC,rI aR x0.On.aE.aF,rI aV x0.On.aE.To,rI aP x0.On.aE.aG,rJ aN x0.On.aE.aC,rI aZ x0.On.aD,rI bA x0.On.ab,rI bM x0.Unit,rI bN x0.ba] (fun y (v:Value)=>[v]) (fun y v=>[.own (aI 2 (aJ .i64)) v y]):=by
 refine ct (S:=Unit) (bp fun _ _=>rfl) Tryz.func232 rfl rfl ?_
 repeat' first
  | (apply Dk.fe; repeat' first | exact rfl | (refine @id.{0} _ ?_; constructor))
  | intro _
  | exact rfl
  | (refine @id.{0} _ ?_; constructor)
  | apply Dk.loop 0 (V:=Value) (fun (s:(List Int)×Int) v=>[.own (aI 2 (aJ .i64)) v s.1]) (fun s v=>[(8,v),(27,.int .i64 (s.2))]) _ [(0,_),(1,_),(2,_),(7,_),(25,_),(26,_)]
  | apply Dk.quiet (id:=6) (by kernel_rfl)
  | apply Dk.any (id:=3) 12 [] [] [[],[],[1],[1,2],[1,2,3],[],[5],[5,6],[5,6,7],[0,1,2,3,4,5,6,7,8],[0,1,2,3,4,5,6,7,8,9],[]] (by kernel_rfl)
  | apply Lp
  | apply Ad
  | apply MI
  | exact ()
theorem c65 {x0:bB} {cD:Addr} {aQ aU aO aL aR aV aP aN aZ bA bM bN:Value} {x1:Int}:Ct Tryz.prog 65 true (gJ x0 x1) [.pointer (some (cD)),.int .i64 (x1)] [.aw cD [.int .i64 (x0.On.aB.aD),aQ,aU,aO,aL,.int .i64 (x0.On.aE.aD),aR,aV,aP,aN,aZ,bA,bM,bN],rI aQ x0.On.aB.aF,rI aU x0.On.aB.To,rI aO x0.On.aB.aG,rJ aL x0.On.aB.aC,rI aR x0.On.aE.aF,rI aV x0.On.aE.To,rI aP x0.On.aE.aG,rJ aN x0.On.aE.aC,rI aZ x0.On.aD,rI bA x0.On.ab,rI bM x0.Unit,rI bN x0.ba] (fun y (v:Nat)=>[(match y with | none=>Value.pointer none | some _=>.pointer (some (⟨v,0,none⟩)))]) (fun y v=>match y with | none=>[] | some m0=>[.row v [.int .i64 (m0.X),.int .i64 (m0.H)] 187]):=by
 refine ct (S:=Unit) (by intro _ y v; obtain _ | _:=y <;> rfl) Tryz.func65 rfl rfl ?_
 repeat' first
  | (apply Dk.fe; repeat' first | exact rfl | (refine @id.{0} _ ?_; constructor))
  | intro _
  | exact rfl
  | (refine @id.{0} _ ?_; constructor)
  | apply Dk.any (id:=1) 10 [] [] [[],[],[0,1],[],[3],[3,4],[3,4,5],[],[3,4,5,6,7],[3,4,5,6,7,8]] (by kernel_rfl)
  | apply D3
  | exact ()
 all_goals try first | exact Value.nilFunc | exact (0:Nat)
theorem c66 {x0:Int} {x1:aH} {pE kA:Addr} {dV fF cW cH:Value} {x2:bB} {pA:Addr} {nA nP lS kR nB nQ lU kS nZ oC oU oV:Value} {x3:(List (List Int))} {oZ:Addr} {oJ:Value}:Ct Tryz.prog 66 true (dR x0 x1 x2 x3) [.int .i64 (x0),.pointer (some (pE)),.pointer (some (pA)),.pointer (some (oZ))] [.aw oZ [oJ],.aw pA [.int .i64 (x2.On.aB.aD),nA,nP,lS,kR,.int .i64 (x2.On.aE.aD),nB,nQ,lU,kS,nZ,oC,oU,oV],.aw pE [.pointer (some (kA))],.aw kA [.int .i64 (x1.aD),dV,fF,cW,cH],rI dV x1.aF,rI fF x1.To,rI cW x1.aG,rJ cH x1.aC,rI nA x2.On.aB.aF,rI nP x2.On.aB.To,rI lS x2.On.aB.aG,rJ kR x2.On.aB.aC,rI nB x2.On.aE.aF,rI nQ x2.On.aE.To,rI lU x2.On.aE.aG,rJ kS x2.On.aE.aC,rI nZ x2.On.aD,rI oC x2.On.ab,rI oU x2.Unit,rI oV x2.ba,rJ oJ x3] (fun y (_:Unit)=>[.int .i64 y]) (fun y _=>[]):=by
 refine ct (S:=Unit) (bp fun _ _=>rfl) Tryz.func66 rfl rfl ?_
 repeat' first
  | (apply Dk.fe; repeat' first | exact rfl | (refine @id.{0} _ ?_; constructor))
  | intro _
  | exact rfl
  | (refine @id.{0} _ ?_; constructor)
  | apply Dk.quiet (id:=1) (by kernel_rfl)
  | apply MI
  | apply Ad
  | exact ()
end Go.Proofs.YtcnehblmgfbfoaaGreat
