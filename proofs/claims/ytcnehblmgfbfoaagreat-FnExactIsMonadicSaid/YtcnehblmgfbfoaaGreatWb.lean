/- Walks by the calculus D. No condition beside those that each theorem names. -/
import Derived.Test.YtcnehblmgfbfoaaGreatDp
import Derived.Test.YtcnehblmgfbfoaaGreatDi
import Derived.Test.YtcnehblmgfbfoaaGreatMo
import Derived.Test.YtcnehblmgfbfoaaGreatDs
namespace Go.Proofs.YtcnehblmgfbfoaaGreat
open Go Go.Li Go.Dk
set_option linter.unusedVariables false
set_option maxHeartbeats 16000000
set_option maxRecDepth 100000
theorem Y4 {x0:Int} {x1:Int} {x2:Int}:Ct Tryz.prog 257 true (pH x0 x1 x2) [.int .i64 (x0),.int .i64 (x1),.int .i64 (x2)] [] (fun y (_:Unit)=>[.bool y]) (fun y _=>[]):=by
 refine ct (S:=Unit) (bn fun _ _=>rfl) Tryz.func257 rfl rfl ?_
 repeat' first
  | (apply Dk.fe; repeat' first | exact rfl | (refine @id.{0} _ ?_; constructor))
  | intro _
  | exact rfl
  | (refine @id.{0} _ ?_; constructor)
  | exact ()
theorem Il {x0:Int} {x1:(List Int)} {fM:Value}:Ct Tryz.prog 256 true (jX x0 x1) [.int .i64 (x0),fM] [rI fM x1] (fun y (_:Unit)=>[.bool y]) (fun y _=>[]):=by
 refine ct (S:=Unit) (bn fun _ _=>rfl) Tryz.func256 rfl rfl ?_
 repeat' first
  | (apply Dk.fe; repeat' first | exact rfl | (refine @id.{0} _ ?_; constructor))
  | intro _
  | exact rfl
  | (refine @id.{0} _ ?_; constructor)
  | apply Dk.loop 0 (V:=Unit) (fun (s:Int) v=>[]) (fun s v=>[(5,.int .i64 (s))]) () [(0,_),(1,_)]
  | exact ()
theorem Y5 {x0:(List Int)} {dC:Value} {x1:Int} {x2:Int}:Ct Tryz.prog 258 true (nD x0 x1 x2) [dC,.int .i64 (x1),.int .i64 (x2)] [rI dC x0] (fun y (_:Unit)=>[.bool y]) (fun y _=>[]):=by
 refine ct (S:=Unit) (bn fun _ _=>rfl) Tryz.func258 rfl rfl ?_
 repeat' first
  | (apply Dk.fe; repeat' first | exact rfl | (refine @id.{0} _ ?_; constructor))
  | intro _
  | exact rfl
  | (refine @id.{0} _ ?_; constructor)
  | apply Il
  | exact ()
theorem Tc {x0:(List Int)} {dC:Value} {x1:(List Int)} {fM:Value}:Ct Tryz.prog 237 true (kF x0 x1) [dC,fM] [rI dC x0,rI fM x1] (fun y (v:Value)=>[v]) (fun y v=>[.own (aL 2 (aK .i64)) v y]):=by
 refine ct (S:=Unit) (bn fun _ _=>rfl) Tryz.func237 rfl rfl ?_
 repeat' first
  | (apply Dk.fe; repeat' first | exact rfl | (refine @id.{0} _ ?_; constructor))
  | intro _
  | exact rfl
  | (refine @id.{0} _ ?_; constructor)
  | apply Dk.loop 0 (V:=Value) (fun (s:(List Int)×Int) v=>[.own (aL 2 (aK .i64)) v s.1]) (fun s v=>[(5,v),(6,.int .i64 (s.2))]) _ [(0,_),(1,_)]
  | exact ()
theorem Fa {x0:aJ} {bO cF aT aS:Value} {x1:Int} {x2:Int}:Ct Tryz.prog 58 true (dF x0 x1 x2) [.agg #[.int .i64 (x0.aE),bO,cF,aT,aS],.int .i64 (x1),.int .i64 (x2)] [rI bO x0.aH,rI cF x0.To,rI aT x0.aI,rJ aS x0.aG] (fun y (_:Unit)=>[.int .i64 y]) (fun y _=>[]):=by
 refine ct (S:=Unit) (bn fun _ _=>rfl) Tryz.func58 rfl rfl ?_
 repeat' first
  | (apply Dk.fe; repeat' first | exact rfl | (refine @id.{0} _ ?_; constructor))
  | intro _
  | exact rfl
  | (refine @id.{0} _ ?_; constructor)
  | exact ()
theorem Td {x0:aN} {aW bG aQ aO aY bH aR aP bN bU:Value} {x1:aN} {cY dA cR cL cZ dB cS cM dG dI:Value} {x2:(List Int)} {mI:Value}:Ct Tryz.prog 218 true (eD x0 x1 x2) [.agg #[.int .i64 (x0.aA.aE),aW,bG,aQ,aO,.int .i64 (x0.aF.aE),aY,bH,aR,aP,bN,bU],.agg #[.int .i64 (x1.aA.aE),cY,dA,cR,cL,.int .i64 (x1.aF.aE),cZ,dB,cS,cM,dG,dI],mI] [rI aW x0.aA.aH,rI bG x0.aA.To,rI aQ x0.aA.aI,rJ aO x0.aA.aG,rI aY x0.aF.aH,rI bH x0.aF.To,rI aR x0.aF.aI,rJ aP x0.aF.aG,rI bN x0.aE,rI bU x0.ab,rI cY x1.aA.aH,rI dA x1.aA.To,rI cR x1.aA.aI,rJ cL x1.aA.aG,rI cZ x1.aF.aH,rI dB x1.aF.To,rI cS x1.aF.aI,rJ cM x1.aF.aG,rI dG x1.aE,rI dI x1.ab,rI mI x2] (fun y (_:Unit)=>[.bool y]) (fun y _=>[]):=by
 refine ct (S:=Unit) (bn fun _ _=>rfl) Tryz.func218 rfl rfl ?_
 repeat' first
  | (apply Dk.fe; repeat' first | exact rfl | (refine @id.{0} _ ?_; constructor))
  | intro _
  | exact rfl
  | (refine @id.{0} _ ?_; constructor)
  | apply Dk.loop 0 (V:=Unit) (fun (s:Int) v=>[]) (fun s v=>[(9,.int .i64 (s))]) () [(2,_),(3,_),(4,_),(7,_),(8,_)]
  | apply Dk.loop 2 (V:=Unit) (fun (s:Int) v=>[]) (fun s v=>[(10,.int .i64 (s))]) () [(2,_),(3,_),(4,_),(7,_),(8,_)]
  | apply Dk.quiet (id:=7) (by kernel_rfl)
  | apply Dk.quiet (id:=12) (by kernel_rfl)
  | apply Dk.any (id:=1) 7 [] [[],[],[],[],[],[],[4]] [[],[0],[],[2],[],[],[0,1,4,5]] (by kernel_rfl)
  | apply Il
  | apply Fa
  | exact ()
theorem Im {x0:aJ} {bO cF aT aS:Value} {x1:Int}:Ct Tryz.prog 236 true (eJ x0 x1) [.agg #[.int .i64 (x0.aE),bO,cF,aT,aS],.int .i64 (x1)] [rI bO x0.aH,rI cF x0.To,rI aT x0.aI,rJ aS x0.aG] (fun y (_:Unit)=>[.bool y]) (fun y _=>[]):=by
 refine ct (S:=Unit) (bn fun _ _=>rfl) Tryz.func236 rfl rfl ?_
 repeat' first
  | (apply Dk.fe; repeat' first | exact rfl | (refine @id.{0} _ ?_; constructor))
  | intro _
  | exact rfl
  | (refine @id.{0} _ ?_; constructor)
  | apply Dk.quiet (id:=1) (by kernel_rfl)
  | exact ()
theorem Y6 {x0:aN} {aW bG aQ aO aY bH aR aP bN bU:Value} {x1:(List Int)} {fM:Value} {x2:(List Int)} {mI:Value}:Ct Tryz.prog 220 true (oO x0 x1 x2) [.agg #[.int .i64 (x0.aA.aE),aW,bG,aQ,aO,.int .i64 (x0.aF.aE),aY,bH,aR,aP,bN,bU],fM,mI] [rI aW x0.aA.aH,rI bG x0.aA.To,rI aQ x0.aA.aI,rJ aO x0.aA.aG,rI aY x0.aF.aH,rI bH x0.aF.To,rI aR x0.aF.aI,rJ aP x0.aF.aG,rI bN x0.aE,rI bU x0.ab,rI fM x1,rI mI x2] (fun y (_:Unit)=>[.bool y]) (fun y _=>[]):=by
 refine ct (S:=Unit) (bn fun _ _=>rfl) Tryz.func220 rfl rfl ?_
 repeat' first
  | (apply Dk.fe; repeat' first | exact rfl | (refine @id.{0} _ ?_; constructor))
  | intro _
  | exact rfl
  | (refine @id.{0} _ ?_; constructor)
  | apply Dk.loop 0 (V:=Unit) (fun (s:Int) v=>[]) (fun s v=>[(8,.int .i64 (s))]) () [(1,_),(2,_),(3,_),(7,_)]
  | apply Dk.quiet (id:=6) (by kernel_rfl)
  | apply Dk.quiet (id:=8) (by kernel_rfl)
  | apply Fa
  | apply Im
  | exact ()
theorem Fb {x0:aJ} {bO cF aT aS:Value} {x1:Int} {x2:Int}:Ct Tryz.prog 196 true (fT x0 x1 x2) [.agg #[.int .i64 (x0.aE),bO,cF,aT,aS],.int .i64 (x1),.int .i64 (x2)] [rI bO x0.aH,rI cF x0.To,rI aT x0.aI,rJ aS x0.aG] (fun y (v:Value)=>[v]) (fun y v=>[.own (aL 2 (aK .i64)) v y]):=by
 refine ct (S:=Unit) (bn fun _ _=>rfl) Tryz.func196 rfl rfl ?_
 repeat' first
  | (apply Dk.fe; repeat' first | exact rfl | (refine @id.{0} _ ?_; constructor))
  | intro _
  | exact rfl
  | (refine @id.{0} _ ?_; constructor)
  | apply Dk.loop 0 (V:=Value) (fun (s:(List Int)×Int) v=>[.own (aL 2 (aK .i64)) v s.1]) (fun s v=>[(7,v),(8,.int .i64 (s.2))]) _ [(1,_),(2,_),(3,_)]
  | exact ()
theorem Y7 {x0:cK} {cH cN cC bW cI cO cD bX cU cW cG dH:Value} {x1:Int} {x2:Int}:Ct Tryz.prog 274 true (pK x0 x1 x2) [.agg #[.int .i64 (x0.On.aA.aE),cH,cN,cC,bW,.int .i64 (x0.On.aF.aE),cI,cO,cD,bX,cU,cW,cG,dH],.int .i64 (x1),.int .i64 (x2)] [rI cH x0.On.aA.aH,rI cN x0.On.aA.To,rI cC x0.On.aA.aI,rJ bW x0.On.aA.aG,rI cI x0.On.aF.aH,rI cO x0.On.aF.To,rI cD x0.On.aF.aI,rJ bX x0.On.aF.aG,rI cU x0.On.aE,rI cW x0.On.ab,rI cG x0.Unit,rI dH x0.cb] (fun y (_:Unit)=>[.bool y]) (fun y _=>[]):=by
 refine ct (S:=Unit) (bn fun _ _=>rfl) Tryz.func274 rfl rfl ?_
 repeat' first
  | (apply Dk.fe; repeat' first | exact rfl | (refine @id.{0} _ ?_; constructor))
  | intro _
  | exact rfl
  | (refine @id.{0} _ ?_; constructor)
  | apply Dk.quiet (id:=2) (by kernel_rfl)
  | apply Dk.quiet (id:=4) (by kernel_rfl)
  | apply Fa
  | apply Im
  | exact ()
theorem Y8 {x0:cK} {cH cN cC bW cI cO cD bX cU cW cG dH:Value} {x1:(List Int)} {fM:Value} {x2:(List Int)} {mI:Value}:Ct Tryz.prog 222 true (oE x0 x1 x2) [.agg #[.int .i64 (x0.On.aA.aE),cH,cN,cC,bW,.int .i64 (x0.On.aF.aE),cI,cO,cD,bX,cU,cW,cG,dH],fM,mI] [rI cH x0.On.aA.aH,rI cN x0.On.aA.To,rI cC x0.On.aA.aI,rJ bW x0.On.aA.aG,rI cI x0.On.aF.aH,rI cO x0.On.aF.To,rI cD x0.On.aF.aI,rJ bX x0.On.aF.aG,rI cU x0.On.aE,rI cW x0.On.ab,rI cG x0.Unit,rI dH x0.cb,rI fM x1,rI mI x2] (fun y (v:Value)=>[v]) (fun y v=>[.own (aL 2 (aK .i64)) v y]):=by
 refine ct (S:=Unit) (bn fun _ _=>rfl) Tryz.func222 rfl rfl ?_
 repeat' first
  | (apply Dk.fe; repeat' first | exact rfl | (refine @id.{0} _ ?_; constructor))
  | intro _
  | exact rfl
  | (refine @id.{0} _ ?_; constructor)
  | apply Dk.loop 0 (V:=Value) (fun (s:(List Int)×Int) v=>[.own (aL 2 (aK .i64)) v s.1]) (fun s v=>[(9,v),(10,.int .i64 (s.2))]) _ [(1,_),(2,_),(3,_),(7,_),(8,_)]
  | apply Dk.quiet (id:=7) (by kernel_rfl)
  | apply Dk.any (id:=2) 7 [] [] [[],[],[1],[1,2],[],[4],[4,5]] (by kernel_rfl)
  | apply Fb
  | apply Fa
  | exact ()
theorem Y9 {x0:(List Int)} {dC:Value} {x1:Int}:Ct Tryz.prog 238 true (oV x0 x1) [dC,.int .i64 (x1)] [rI dC x0] (fun y (_:Unit)=>[.bool y]) (fun y _=>[]):=by
 refine ct (S:=Unit) (bn fun _ _=>rfl) Tryz.func238 rfl rfl ?_
 repeat' first
  | (apply Dk.fe; repeat' first | exact rfl | (refine @id.{0} _ ?_; constructor))
  | intro _
  | exact rfl
  | (refine @id.{0} _ ?_; constructor)
  | apply Dk.loop 0 (V:=Unit) (fun (s:Int) v=>[]) (fun s v=>[(5,.int .i64 (s))]) () [(0,_),(1,_)]
  | exact ()
theorem Za {x0:aN} {aW bG aQ aO aY bH aR aP bN bU:Value}:Ct Tryz.prog 151 true (oR x0) [.agg #[.int .i64 (x0.aA.aE),aW,bG,aQ,aO,.int .i64 (x0.aF.aE),aY,bH,aR,aP,bN,bU]] [rI aW x0.aA.aH,rI bG x0.aA.To,rI aQ x0.aA.aI,rJ aO x0.aA.aG,rI aY x0.aF.aH,rI bH x0.aF.To,rI aR x0.aF.aI,rJ aP x0.aF.aG,rI bN x0.aE,rI bU x0.ab] (fun y (_:Unit)=>[.bool y]) (fun y _=>[]):=by
 refine ct (S:=Unit) (bn fun _ _=>rfl) Tryz.func151 rfl rfl ?_
 repeat' first
  | (apply Dk.fe; repeat' first | exact rfl | (refine @id.{0} _ ?_; constructor))
  | intro _
  | exact rfl
  | (refine Dk.z7 (t:=19) rfl ?_ ?_)
  | (refine @id.{0} _ ?_; constructor)
  | apply Dk.loop 0 (V:=Unit) (fun (s:Int) v=>[]) (fun s v=>[(3,.int .i64 (s))]) () [(1,_)]
  | apply Dk.loop 2 (V:=Unit) (fun (s:Int) v=>[]) (fun s v=>[(4,.int .i64 (s))]) () [(1,_),(3,_)]
  | apply Dk.loop 4 (V:=Unit) (fun (s:Int) v=>[]) (fun s v=>[(7,.int .i64 (s))]) () [(1,_),(3,_),(4,_),(5,_),(6,_)]
  | apply Dk.any (id:=7) 7 [] [] [[],[0],[],[],[0,1,2,3],[],[5]] (by kernel_rfl)
  | apply Dk.any (id:=8) 12 [] [] [[],[0],[],[2],[],[2,3,4],[2,3,4,5],[],[7],[],[7,8,9],[7,8,9,10]] (by kernel_rfl)
  | apply Fb
  | apply Tc
  | apply Y9
  | exact ()
theorem Zb {x0:aJ} {bO cF aT aS:Value} {x1:Int}:Ct Tryz.prog 278 true (nC x0 x1) [.agg #[.int .i64 (x0.aE),bO,cF,aT,aS],.int .i64 (x1)] [rI bO x0.aH,rI cF x0.To,rI aT x0.aI,rJ aS x0.aG] (fun y (_:Unit)=>[.int .i64 y]) (fun y _=>[]):=by
 refine ct (S:=Unit) (bn fun _ _=>rfl) Tryz.func278 rfl rfl ?_
 repeat' first
  | (apply Dk.fe; repeat' first | exact rfl | (refine @id.{0} _ ?_; constructor))
  | intro _
  | exact rfl
  | (refine @id.{0} _ ?_; constructor)
  | apply Dk.loop 0 (V:=Unit) (fun (s:Int) v=>[]) (fun s v=>[(6,.int .i64 (s))]) () [(1,_),(2,_),(5,_)]
  | apply Dk.quiet (id:=5) (by kernel_rfl)
  | apply Dk.any (id:=1) 11 [] [] [[],[],[1],[],[1,2,3],[1,2,3,4],[],[6],[],[6,7,8],[6,7,8,9]] (by kernel_rfl)
  | apply Fb
  | apply Fa
  | apply Im
  | exact ()
end Go.Proofs.YtcnehblmgfbfoaaGreat
