/- Walks by the calculus D. No condition beside those that each theorem names. -/
import Derived.Test.YtcnehblmgfbfoaaGreatDp
import Derived.Test.YtcnehblmgfbfoaaGreatDi
import Derived.Test.YtcnehblmgfbfoaaGreatMo
import Derived.Test.YtcnehblmgfbfoaaGreatDs
namespace Go.Proofs.YtcnehblmgfbfoaaGreat
open Go Go.Li Go.Dk
set_option linter.unusedVariables false
set_option maxHeartbeats 16000000
set_option maxRecDepth 100000
theorem G0 {x0:aJ} {cV:Addr} {bO cF aT aS:Value}:Ct Tryz.prog 88 true (dD x0) [.pointer (some (cV))] [.bb cV [.int .i64 (x0.aE),bO,cF,aT,aS],rI bO x0.aH,rI cF x0.To,rI aT x0.aI,rJ aS x0.aG] (fun y (_:Unit)=>[.int .i64 y]) (fun y _=>[]):=by
 refine ct (S:=Unit) (bn fun _ _=>rfl) Tryz.func88 rfl rfl ?_
 repeat' first
  | (apply Dk.fe; repeat' first | exact rfl | (refine @id.{0} _ ?_; constructor))
  | intro _
  | exact rfl
  | (refine @id.{0} _ ?_; constructor)
  | exact ()
theorem Ik {x0:aJ} {cV:Addr} {bO cF aT aS:Value} {x1:Int}:Ct Tryz.prog 245 true (eC x0 x1) [.pointer (some (cV)),.int .i64 (x1)] [.bb cV [.int .i64 (x0.aE),bO,cF,aT,aS],rI bO x0.aH,rI cF x0.To,rI aT x0.aI,rJ aS x0.aG] (fun y (_:Unit)=>[.agg #[.int .i64 y.aH,.int .i64 y.To]]) (fun y _=>[]):=by
 refine ct (S:=Unit) (bn fun _ _=>rfl) Tryz.func245 rfl rfl ?_
 repeat' first
  | (apply Dk.fe; repeat' first | exact rfl | (refine @id.{0} _ ?_; constructor))
  | intro _
  | exact rfl
  | (refine @id.{0} _ ?_; constructor)
  | apply Dk.any (id:=1) 14 [] [] [[],[0],[0,1],[0,1,2],[],[0,1,2,3,4],[0,1,2,3,4,5],[],[7],[7,8],[7,8,9],[],[7,8,9,10,11],[7,8,9,10,11,12]] (by kernel_rfl)
  | exact ()
theorem Cd {x0:aJ} {cV:Addr} {bO cF aT aS:Value} {x1:Int} {x2:Int}:Ct Tryz.prog 67 true (cP x0 x1 x2) [.pointer (some (cV)),.int .i64 (x1),.int .i64 (x2)] [.bb cV [.int .i64 (x0.aE),bO,cF,aT,aS],rI bO x0.aH,rI cF x0.To,rI aT x0.aI,rJ aS x0.aG] (fun y (_:Unit)=>[.int .i64 y]) (fun y _=>[]):=by
 refine ct (S:=Unit) (bn fun _ _=>rfl) Tryz.func67 rfl rfl ?_
 repeat' first
  | (apply Dk.fe; repeat' first | exact rfl | (refine @id.{0} _ ?_; constructor))
  | intro _
  | exact rfl
  | (refine @id.{0} _ ?_; constructor)
  | exact ()
theorem YW {x0:aJ} {cV:Addr} {bO cF aT aS:Value}:Ct Tryz.prog 268 true (kN x0) [.pointer (some (cV))] [.bb cV [.int .i64 (x0.aE),bO,cF,aT,aS],rI bO x0.aH,rI cF x0.To,rI aT x0.aI,rJ aS x0.aG] (fun y (_:Unit)=>[.int .i64 y.1,.int .i64 y.2.1,.int .i64 y.2.2.1,.int .i64 y.2.2.2]) (fun y _=>[]):=by
 refine ct (S:=Unit) (bn fun _ _=>rfl) Tryz.func268 rfl rfl ?_
 repeat' first
  | (apply Dk.fe; repeat' first | exact rfl | (refine @id.{0} _ ?_; constructor))
  | intro _
  | exact rfl
  | (refine Dk.z7 (t:=64) rfl ?_ ?_)
  | (refine Dk.z7 (t:=74) rfl ?_ ?_)
  | (refine @id.{0} _ ?_; constructor)
  | apply Dk.loop 0 (V:=Unit) (fun (s:Int) v=>[]) (fun s v=>[(7,.int .i64 (s))]) () [(0,_),(6,_)]
  | apply Dk.loop 2 (V:=Unit) (fun (s:Int) v=>[]) (fun s v=>[(8,.int .i64 (s))]) () [(0,_),(6,_)]
  | apply Dk.loop 4 (V:=Unit) (fun (s:Int) v=>[]) (fun s v=>[(9,.int .i64 (s))]) () [(0,_),(6,_),(8,_)]
  | apply Dk.loop 6 (V:=Unit) (fun (s:Int) v=>[]) (fun s v=>[(10,.int .i64 (s))]) () [(0,_),(6,_),(8,_),(9,_)]
  | apply Dk.quiet (id:=5) (by kernel_rfl)
  | apply G0
  | apply Cd
  | exact ()
theorem Ta {x0:(List Int)} {dC:Value} {x1:(List Int)} {fM:Value}:Ct Tryz.prog 173 true (nI x0 x1) [dC,fM] [rI dC x0,rI fM x1] (fun y (v:Value)=>[v]) (fun y v=>[.own (aL 2 (aK .i64)) v y]):=by
 refine ct (S:=Unit) (bn fun _ _=>rfl) Tryz.func173 rfl rfl ?_
 repeat' first
  | (apply Dk.fe; repeat' first | exact rfl | (refine @id.{0} _ ?_; constructor))
  | intro _
  | exact rfl
  | (refine @id.{0} _ ?_; constructor)
  | apply Dk.q9 0 (V:=Unit) (A:=Value) _ (fun a (s:Int×(List Int)) v=>[.own (aL 2 (aK .i64)) a s.2]) (fun a s v=>[(5,a),(13,.int .i64 (s.1))]) () [(1,_),(11,_),(12,_)]
  | exact ()
theorem YX {x0:aN} {cV:Addr} {aW bG aQ aO aY bH aR aP bN bU:Value} {x1:aN} {iZ:Addr} {cY dA cR cL cZ dB cS cM dG dI:Value} {x2:(List Int)} {mI:Value} {x3:Int}:Ct Tryz.prog 289 true (jJ x0 x1 x2 x3) [.pointer (some (cV)),.pointer (some (iZ)),mI,.int .i64 (x3)] [.bb iZ [.int .i64 (x1.aA.aE),cY,dA,cR,cL,.int .i64 (x1.aF.aE),cZ,dB,cS,cM,dG,dI],.bb cV [.int .i64 (x0.aA.aE),aW,bG,aQ,aO,.int .i64 (x0.aF.aE),aY,bH,aR,aP,bN,bU],rI aW x0.aA.aH,rI bG x0.aA.To,rI aQ x0.aA.aI,rJ aO x0.aA.aG,rI aY x0.aF.aH,rI bH x0.aF.To,rI aR x0.aF.aI,rJ aP x0.aF.aG,rI bN x0.aE,rI bU x0.ab,rI cY x1.aA.aH,rI dA x1.aA.To,rI cR x1.aA.aI,rJ cL x1.aA.aG,rI cZ x1.aF.aH,rI dB x1.aF.To,rI cS x1.aF.aI,rJ cM x1.aF.aG,rI dG x1.aE,rI dI x1.ab,rI mI x2] (fun y (_:Unit)=>[.bool y]) (fun y _=>[]):=by
 refine ct (S:=Unit) (bn fun _ _=>rfl) Tryz.func289 rfl rfl ?_
 repeat' first
  | (apply Dk.fe; repeat' first | exact rfl | (refine @id.{0} _ ?_; constructor))
  | intro _
  | exact rfl
  | (refine @id.{0} _ ?_; constructor)
  | apply Dk.quiet (id:=1) (by kernel_rfl)
  | apply Dk.quiet (id:=2) (by kernel_rfl)
  | apply Cd
  | exact ()
theorem Tb {x0:cK} {cV:Addr} {cH cN cC bW cI cO cD bX cU cW cG dH:Value} {x1:Int}:Ct Tryz.prog 145 true (iA x0 x1) [.pointer (some (cV)),.int .i64 (x1)] [.bb cV [.int .i64 (x0.On.aA.aE),cH,cN,cC,bW,.int .i64 (x0.On.aF.aE),cI,cO,cD,bX,cU,cW,cG,dH],rI cH x0.On.aA.aH,rI cN x0.On.aA.To,rI cC x0.On.aA.aI,rJ bW x0.On.aA.aG,rI cI x0.On.aF.aH,rI cO x0.On.aF.To,rI cD x0.On.aF.aI,rJ bX x0.On.aF.aG,rI cU x0.On.aE,rI cW x0.On.ab,rI cG x0.Unit,rI dH x0.cb] (fun y (_:Unit)=>[.int .i64 y]) (fun y _=>[]):=by
 refine ct (S:=Unit) (bn fun _ _=>rfl) Tryz.func145 rfl rfl ?_
 repeat' first
  | (apply Dk.fe; repeat' first | exact rfl | (refine @id.{0} _ ?_; constructor))
  | intro _
  | exact rfl
  | (refine @id.{0} _ ?_; constructor)
  | exact ()
theorem E9 {x0:aJ} {cV:Addr} {bO cF aT aS:Value} {x1:Int} {x2:Int}:Ct Tryz.prog 191 true (eI x0 x1 x2) [.pointer (some (cV)),.int .i64 (x1),.int .i64 (x2)] [.bb cV [.int .i64 (x0.aE),bO,cF,aT,aS],rI bO x0.aH,rI cF x0.To,rI aT x0.aI,rJ aS x0.aG] (fun y (v:Value)=>[v]) (fun y v=>[.own (aL 2 (aK .i64)) v y]):=by
 refine ct (S:=Unit) (bn fun _ _=>rfl) Tryz.func191 rfl rfl ?_
 repeat' first
  | (apply Dk.fe; repeat' first | exact rfl | (refine @id.{0} _ ?_; constructor))
  | intro _
  | exact rfl
  | (refine @id.{0} _ ?_; constructor)
  | apply Dk.loop 0 (V:=Value) (fun (s:(List Int)×Int) v=>[.own (aL 2 (aK .i64)) v s.1]) (fun s v=>[(7,v),(15,.int .i64 (s.2))]) _ [(0,_),(1,_),(2,_),(14,_)]
  | exact ()
theorem Wd {x0:cK} {cV:Addr} {cH cN cC bW cI cO cD bX cU cW cG dH:Value} {x1:Int}:Ct Tryz.prog 68 true (iI x0 x1) [.pointer (some (cV)),.int .i64 (x1)] [.bb cV [.int .i64 (x0.On.aA.aE),cH,cN,cC,bW,.int .i64 (x0.On.aF.aE),cI,cO,cD,bX,cU,cW,cG,dH],rI cH x0.On.aA.aH,rI cN x0.On.aA.To,rI cC x0.On.aA.aI,rJ bW x0.On.aA.aG,rI cI x0.On.aF.aH,rI cO x0.On.aF.To,rI cD x0.On.aF.aI,rJ bX x0.On.aF.aG,rI cU x0.On.aE,rI cW x0.On.ab,rI cG x0.Unit,rI dH x0.cb] (fun y (_:Unit)=>[.int .i64 y]) (fun y _=>[]):=by
 refine ct (S:=Unit) (bn fun _ _=>rfl) Tryz.func68 rfl rfl ?_
 repeat' first
  | (apply Dk.fe; repeat' first | exact rfl | (refine @id.{0} _ ?_; constructor))
  | intro _
  | exact rfl
  | (refine @id.{0} _ ?_; constructor)
  | exact ()
theorem YY {x0:cK} {cV:Addr} {cH cN cC bW cI cO cD bX cU cW cG dH:Value} {x1:Int} {x2:Int}:Ct Tryz.prog 277 true (jW x0 x1 x2) [.pointer (some (cV)),.int .i64 (x1),.int .i64 (x2)] [.bb cV [.int .i64 (x0.On.aA.aE),cH,cN,cC,bW,.int .i64 (x0.On.aF.aE),cI,cO,cD,bX,cU,cW,cG,dH],rI cH x0.On.aA.aH,rI cN x0.On.aA.To,rI cC x0.On.aA.aI,rJ bW x0.On.aA.aG,rI cI x0.On.aF.aH,rI cO x0.On.aF.To,rI cD x0.On.aF.aI,rJ bX x0.On.aF.aG,rI cU x0.On.aE,rI cW x0.On.ab,rI cG x0.Unit,rI dH x0.cb] (fun y (_:Unit)=>[.bool y]) (fun y _=>[]):=by
 refine ct (S:=Unit) (bn fun _ _=>rfl) Tryz.func277 rfl rfl ?_
 repeat' first
  | (apply Dk.fe; repeat' first | exact rfl | (refine @id.{0} _ ?_; constructor))
  | intro _
  | exact rfl
  | (refine @id.{0} _ ?_; constructor)
  | apply Dk.quiet (id:=2) (by kernel_rfl)
  | apply Ik
  | apply Tb
  | apply Cd
  | apply Wd
  | exact ()
theorem YZ {x0:cK} {cV:Addr} {cH cN cC bW cI cO cD bX cU cW cG dH:Value} {x1:cQ} {iZ:Addr} {x2:cQ} {pY:Addr}:Ct Tryz.prog 232 true (gE x0 x1 x2) [.pointer (some (cV)),.pointer (some (iZ)),.pointer (some (pY))] [.bb pY [.int .i64 (x2.X),.int .i64 (x2.H)],.bb iZ [.int .i64 (x1.X),.int .i64 (x1.H)],.bb cV [.int .i64 (x0.On.aA.aE),cH,cN,cC,bW,.int .i64 (x0.On.aF.aE),cI,cO,cD,bX,cU,cW,cG,dH],rI cH x0.On.aA.aH,rI cN x0.On.aA.To,rI cC x0.On.aA.aI,rJ bW x0.On.aA.aG,rI cI x0.On.aF.aH,rI cO x0.On.aF.To,rI cD x0.On.aF.aI,rJ bX x0.On.aF.aG,rI cU x0.On.aE,rI cW x0.On.ab,rI cG x0.Unit,rI dH x0.cb] (fun y (v:Value)=>[v]) (fun y v=>[.own (aL 2 (aK .i64)) v y]):=by
 refine ct (S:=Unit) (bn fun _ _=>rfl) Tryz.func232 rfl rfl ?_
 repeat' first
  | (apply Dk.fe; repeat' first | exact rfl | (refine @id.{0} _ ?_; constructor))
  | intro _
  | exact rfl
  | (refine @id.{0} _ ?_; constructor)
  | apply Dk.loop 0 (V:=Value) (fun (s:(List Int)×Int) v=>[.own (aL 2 (aK .i64)) v s.1]) (fun s v=>[(8,v),(27,.int .i64 (s.2))]) _ [(0,_),(1,_),(2,_),(7,_),(25,_),(26,_)]
  | apply Dk.quiet (id:=6) (by kernel_rfl)
  | apply Dk.any (id:=3) 12 [] [] [[],[],[1],[1,2],[1,2,3],[],[5],[5,6],[5,6,7],[0,1,2,3,4,5,6,7,8],[0,1,2,3,4,5,6,7,8,9],[]] (by kernel_rfl)
  | apply E9
  | apply Cd
  | apply Wd
  | exact ()
theorem Y0 {x0:(List Int)} {dC:Value} {x1:Int}:Ct Tryz.prog 244 true (pO x0 x1) [dC,.int .i64 (x1)] [rI dC x0] (fun y (_:Unit)=>[.bool y]) (fun y _=>[]):=by
 refine ct (S:=Unit) (bn fun _ _=>rfl) Tryz.func244 rfl rfl ?_
 repeat' first
  | (apply Dk.fe; repeat' first | exact rfl | (refine @id.{0} _ ?_; constructor))
  | intro _
  | exact rfl
  | (refine @id.{0} _ ?_; constructor)
  | apply Dk.loop 0 (V:=Unit) (fun (s:Int) v=>[]) (fun s v=>[(9,.int .i64 (s))]) () [(1,_),(7,_),(8,_)]
  | exact ()
theorem Y1 {x0:aN} {cV:Addr} {aW bG aQ aO aY bH aR aP bN bU:Value}:Ct Tryz.prog 158 true (kQ x0) [.pointer (some (cV))] [.bb cV [.int .i64 (x0.aA.aE),aW,bG,aQ,aO,.int .i64 (x0.aF.aE),aY,bH,aR,aP,bN,bU],rI aW x0.aA.aH,rI bG x0.aA.To,rI aQ x0.aA.aI,rJ aO x0.aA.aG,rI aY x0.aF.aH,rI bH x0.aF.To,rI aR x0.aF.aI,rJ aP x0.aF.aG,rI bN x0.aE,rI bU x0.ab] (fun y (_:Unit)=>[.bool y]) (fun y _=>[]):=by
 refine ct (S:=Unit) (bn fun _ _=>rfl) Tryz.func158 rfl rfl ?_
 repeat' first
  | (apply Dk.fe; repeat' first | exact rfl | (refine @id.{0} _ ?_; constructor))
  | intro _
  | exact rfl
  | (refine Dk.z7 (t:=25) rfl ?_ ?_)
  | (refine @id.{0} _ ?_; constructor)
  | apply Dk.loop 0 (V:=Unit) (fun (s:Int) v=>[]) (fun s v=>[(4,.int .i64 (s))]) () [(0,_),(3,_)]
  | apply Dk.loop 2 (V:=Unit) (fun (s:Int) v=>[]) (fun s v=>[(5,.int .i64 (s))]) () [(0,_),(3,_),(4,_)]
  | apply Dk.loop 4 (V:=Unit) (fun (s:Int) v=>[]) (fun s v=>[(56,.int .i64 (s))]) () [(0,_),(3,_),(4,_),(5,_),(6,_),(54,_),(55,_)]
  | apply Dk.any (id:=8) 8 [] [] [[],[],[],[0,1,2],[],[4],[4,5],[4,5,6]] (by kernel_rfl)
  | apply Dk.any (id:=9) 20 [] [] [[],[0],[0,1],[],[3],[3,4],[3,4,5],[],[3,4,5,6,7],[3,4,5,6,7,8],[],[10],[10,11],[10,11,12],[],[10,11,12,13,14],[10,11,12,13,14,15],[0,1,2,3,4,5,6,7,8,9,10,11,12,13,14,15,16],[0,1,2,3,4,5,6,7,8,9,10,11,12,13,14,15,16,17],[]] (by kernel_rfl)
  | apply E9
  | apply Ta
  | apply Y0
  | exact ()
theorem Y2 {x0:aN} {cV:Addr} {aW bG aQ aO aY bH aR aP bN bU:Value}:Ct Tryz.prog 159 true (iF x0) [.pointer (some (cV))] [.bb cV [.int .i64 (x0.aA.aE),aW,bG,aQ,aO,.int .i64 (x0.aF.aE),aY,bH,aR,aP,bN,bU],rI aW x0.aA.aH,rI bG x0.aA.To,rI aQ x0.aA.aI,rJ aO x0.aA.aG,rI aY x0.aF.aH,rI bH x0.aF.To,rI aR x0.aF.aI,rJ aP x0.aF.aG,rI bN x0.aE,rI bU x0.ab] (fun y (_:Unit)=>[.bool y]) (fun y _=>[]):=by
 refine ct (S:=Unit) (bn fun _ _=>rfl) Tryz.func159 rfl rfl ?_
 repeat' first
  | (apply Dk.fe; repeat' first | exact rfl | (refine @id.{0} _ ?_; constructor))
  | intro _
  | exact rfl
  | apply Dk.slX (t:=22)
  | (refine @id.{0} _ ?_; constructor)
  | apply Dk.loop 0 (V:=Unit) (fun (s:Int) v=>[]) (fun s v=>[(10,.int .i64 (s))]) () [(0,_),(9,_)]
  | apply Dk.loop 2 (V:=Unit) (fun (s:Int) v=>[]) (fun s v=>[(20,.int .i64 (s))]) () [(0,_),(3,_),(9,_),(10,_),(19,_)]
  | apply Dk.quiet (id:=7) (by kernel_rfl)
  | apply Ik
  | exact ()
theorem Y3 {x0:aJ} {cV:Addr} {bO cF aT aS:Value} {x1:Int}:Ct Tryz.prog 280 true (jH x0 x1) [.pointer (some (cV)),.int .i64 (x1)] [.bb cV [.int .i64 (x0.aE),bO,cF,aT,aS],rI bO x0.aH,rI cF x0.To,rI aT x0.aI,rJ aS x0.aG] (fun y (_:Unit)=>[.int .i64 y]) (fun y _=>[]):=by
 refine ct (S:=Unit) (bn fun _ _=>rfl) Tryz.func280 rfl rfl ?_
 repeat' first
  | (apply Dk.fe; repeat' first | exact rfl | (refine @id.{0} _ ?_; constructor))
  | intro _
  | exact rfl
  | (refine @id.{0} _ ?_; constructor)
  | apply Dk.loop 0 (V:=Unit) (fun (s:Int) v=>[]) (fun s v=>[(28,.int .i64 (s))]) () [(0,_),(1,_),(5,_),(6,_),(26,_),(27,_)]
  | apply Dk.quiet (id:=1) (by kernel_rfl)
  | apply Dk.quiet (id:=5) (by kernel_rfl)
  | apply E9
  | apply Cd
  | exact ()
end Go.Proofs.YtcnehblmgfbfoaaGreat
