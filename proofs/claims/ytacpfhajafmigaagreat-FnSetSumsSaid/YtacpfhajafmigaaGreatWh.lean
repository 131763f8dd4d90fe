/- Walks by the calculus D. No condition beside those that each theorem names. -/
import Derived.Test.YtacpfhajafmigaaGreatDi
import Derived.Test.YtacpfhajafmigaaGreatMo
import Derived.Test.YtacpfhajafmigaaGreatDg
import Derived.Test.YtacpfhajafmigaaGreatDs
import Derived.Test.YtacpfhajafmigaaGreatWa
import Derived.Test.YtacpfhajafmigaaGreatWc
import Derived.Test.YtacpfhajafmigaaGreatWd
namespace Go.Proofs.YtacpfhajafmigaaGreat
open Go Go.Li Go.Dk
set_option linter.unusedVariables false
set_option maxHeartbeats 16000000
set_option maxRecDepth 100000
theorem c121 {x0:(List (List Int))} {cE:Value}:Ct Tryz.prog 121 true (gH x0) [cE] [.rd false (aB (aB (aC .i64))) cE x0] (fun y (v:Value×Value×Value×Value)=>[.agg #[.int .i64 y.aH,v.1,v.2.1,v.2.2.1,v.2.2.2]]) (fun y v=>[.own (aJ 2 (aC .i64)) v.1 y.aG,.own (aJ 2 (aC .i64)) v.2.1 y.To,.own (aJ 2 (aC .i64)) v.2.2.1 y.aO,.own (aJ 24 (aJ 2 (aC .i64))) v.2.2.2 y.aE]):=by
 refine ct (S:=Unit) (owt fun _ _=>rfl) Tryz.func121 rfl rfl ?_
 repeat' first
  | intro _
  | exact rfl
  | (refine @id.{0} _ ?_; constructor)
  | apply Dk.any (id:=2) 7 [] [] [[],[0,0],[],[2,2],[],[],[5]] (by kernel_rfl)
  | apply c49
  | exact ()
theorem c93 {x0:cH} {cZ:Addr} {cM:Value} {cS:Value} {cC:Value} {bX:Value} {dH:Value} {cX:Value} {cN:Value} {cT:Value} {cD:Value} {bY:Value} {dI:Value} {cY:Value} {dP:Value} {x1:(List (List Int))} {dG:Value} {x2:Int} {x3:Int} {x4:Int}:Ct Tryz.prog 93 true (fN x0 x1 x2 x3 x4) [.pointer (some (cZ)),dG,.int .i64 (x2),.int .i64 (x3),.int .i64 (x4)] [.ats cZ [.int .i64 (x0.F.aA.aH),cM,cS,cC,bX,dH,cX,.int .i64 (x0.G.aA.aH),cN,cT,cD,bY,dI,cY,.bool (x0.Onto),.int .i64 (x0.Most),dP],.rd false (aB (aC .i64)) cM x0.F.aA.aG,.rd false (aB (aC .i64)) cS x0.F.aA.To,.rd false (aB (aC .i64)) cC x0.F.aA.aO,.rd false (aB (aB (aC .i64))) bX x0.F.aA.aE,.rd false (aB (aC .i64)) dH x0.F.aM,.rd false (aB (aB (aC .i64))) cX x0.F.aN,.rd false (aB (aC .i64)) cN x0.G.aA.aG,.rd false (aB (aC .i64)) cT x0.G.aA.To,.rd false (aB (aC .i64)) cD x0.G.aA.aO,.rd false (aB (aB (aC .i64))) bY x0.G.aA.aE,.rd false (aB (aC .i64)) dI x0.G.aM,.rd false (aB (aB (aC .i64))) cY x0.G.aN,.rd false (aB (aB (aB (aC .i64)))) dP x0.Found,.rd false (aB (aB (aC .i64))) dG x1] (fun y (v:Value)=>[v,.bool y.2]) (fun y v=>[.own (aJ 24 (aJ 2 (aC .i64))) v y.1]):=by
 refine ct (S:=Unit) (owt fun _ _=>rfl) Tryz.func93 rfl rfl ?_
 repeat' first
  | intro _
  | exact rfl
  | (refine @id.{0} _ ?_; constructor)
  | apply Dk.loopA 0 (V:=Unit) (A:=Value) _ (fun a (s:Int×(List (List Int))) v=>[.own (aJ 24 (aJ 2 (aC .i64))) a s.2]) (fun a s v=>[(12,a),(13,.int .i64 (s.1))]) () [(0,_),(2,_),(3,_),(4,_)]
  | apply Dk.quiet (id:=6) (by kernel_rfl)
  | apply c49
  | apply c104
  | exact ()
theorem c92 {x0:cH} {cZ:Addr} {cM:Value} {cS:Value} {cC:Value} {bX:Value} {dH:Value} {cX:Value} {cN:Value} {cT:Value} {cD:Value} {bY:Value} {dI:Value} {cY:Value} {dP:Value} {x1:(List (List Int))} {dG:Value} {x2:Int} {x3:Int}:Ct Tryz.prog 92 true (iB x0 x1 x2 x3) [.pointer (some (cZ)),dG,.int .i64 (x2),.int .i64 (x3)] [.ats cZ [.int .i64 (x0.F.aA.aH),cM,cS,cC,bX,dH,cX,.int .i64 (x0.G.aA.aH),cN,cT,cD,bY,dI,cY,.bool (x0.Onto),.int .i64 (x0.Most),dP],.rd false (aB (aC .i64)) cM x0.F.aA.aG,.rd false (aB (aC .i64)) cS x0.F.aA.To,.rd false (aB (aC .i64)) cC x0.F.aA.aO,.rd false (aB (aB (aC .i64))) bX x0.F.aA.aE,.rd false (aB (aC .i64)) dH x0.F.aM,.rd false (aB (aB (aC .i64))) cX x0.F.aN,.rd false (aB (aC .i64)) cN x0.G.aA.aG,.rd false (aB (aC .i64)) cT x0.G.aA.To,.rd false (aB (aC .i64)) cD x0.G.aA.aO,.rd false (aB (aB (aC .i64))) bY x0.G.aA.aE,.rd false (aB (aC .i64)) dI x0.G.aM,.rd false (aB (aB (aC .i64))) cY x0.G.aN,.rd false (aB (aB (aB (aC .i64)))) dP x0.Found,.rd false (aB (aB (aC .i64))) dG x1] (fun y (v:Value)=>[v]) (fun y v=>[.own (aJ 2 (aC .i64)) v y]):=by
 refine ct (S:=Unit) (owt fun _ _=>rfl) Tryz.func92 rfl rfl ?_
 repeat' first
  | intro _
  | exact rfl
  | (refine @id.{0} _ ?_; constructor)
  | apply Dk.loop 0 (V:=Value) (fun (s:(List Int)×Int) v=>[.own (aJ 2 (aC .i64)) v s.1]) (fun s v=>[(9,v),(10,.int .i64 (s.2))]) _ [(0,_),(1,_),(2,_),(3,_)]
  | apply c93
  | exact ()
theorem c81 {x0:(List Int)} {cE:Value} {x1:Int} {x2:Int}:Ct Tryz.prog 81 true (kY x0 x1 x2) [cE,.int .i64 (x1),.int .i64 (x2)] [.rd false (aB (aC .i64)) cE x0] (fun y (_:Unit)=>[.bool y]) (fun y _=>[]):=by
 refine ct (S:=Unit) (owt fun _ _=>rfl) Tryz.func81 rfl rfl ?_
 repeat' first
  | intro _
  | exact rfl
  | (refine @id.{0} _ ?_; constructor)
  | apply c43
  | exact ()
theorem c38 {x0:aI} {cZ:Addr} {bR:Value} {cF:Value} {bB:Value} {aW:Value} {x1:aI} {oG:Addr} {dM:Value} {dS:Value} {cR:Value} {cL:Value}:Ct Tryz.prog 38 true (fE x0 x1) [.pointer (some (cZ)),.pointer (some (oG))] [.ats oG [.int .i64 (x1.aH),dM,dS,cR,cL],.ats cZ [.int .i64 (x0.aH),bR,cF,bB,aW],.rd false (aB (aC .i64)) bR x0.aG,.rd false (aB (aC .i64)) cF x0.To,.rd false (aB (aC .i64)) bB x0.aO,.rd false (aB (aB (aC .i64))) aW x0.aE,.rd false (aB (aC .i64)) dM x1.aG,.rd false (aB (aC .i64)) dS x1.To,.rd false (aB (aC .i64)) cR x1.aO,.rd false (aB (aB (aC .i64))) cL x1.aE] (fun y (_:Unit)=>[.bool y]) (fun y _=>[]):=by
 refine ct (S:=Unit) (owt fun _ _=>rfl) Tryz.func38 rfl rfl ?_
 repeat' first
  | intro _
  | exact rfl
  | (refine @id.{0} _ ?_; constructor)
  | apply Dk.loop 0 (V:=Unit) (fun (s:Int) v=>[]) (fun s v=>[(69,.int .i64 (s))]) () [(0,_),(1,_),(68,_)]
  | apply Dk.quiet (id:=1) (by kernel_rfl)
  | apply Dk.quiet (id:=6) (by kernel_rfl)
  | apply c39
  | exact ()
theorem c94 {x0:aZ} {cZ:Addr} {bI:Value} {bP:Value} {bG:Value} {bC:Value} {bZ:Value} {bT:Value} {bJ:Value} {bQ:Value} {bH:Value} {bD:Value} {cA:Value} {bU:Value} {dA:Value}:Ct Tryz.prog 94 true (jM x0) [.pointer (some (cZ))] [.ats cZ [.int .i64 (x0.aK.aA.aH),bI,bP,bG,bC,bZ,bT,.int .i64 (x0.aQ.aA.aH),bJ,bQ,bH,bD,cA,bU,dA],.rd false (aB (aC .i64)) bI x0.aK.aA.aG,.rd false (aB (aC .i64)) bP x0.aK.aA.To,.rd false (aB (aC .i64)) bG x0.aK.aA.aO,.rd false (aB (aB (aC .i64))) bC x0.aK.aA.aE,.rd false (aB (aC .i64)) bZ x0.aK.aM,.rd false (aB (aB (aC .i64))) bT x0.aK.aN,.rd false (aB (aC .i64)) bJ x0.aQ.aA.aG,.rd false (aB (aC .i64)) bQ x0.aQ.aA.To,.rd false (aB (aC .i64)) bH x0.aQ.aA.aO,.rd false (aB (aB (aC .i64))) bD x0.aQ.aA.aE,.rd false (aB (aC .i64)) cA x0.aQ.aM,.rd false (aB (aB (aC .i64))) bU x0.aQ.aN,.rd false (aB (aB (aC .i64))) dA x0.bN] (fun y (_:Unit)=>[.bool y]) (fun y _=>[]):=by
 refine ct (S:=Unit) (owt fun _ _=>rfl) Tryz.func94 rfl rfl ?_
 repeat' first
  | intro _
  | exact rfl
  | (refine @id.{0} _ ?_; constructor)
  | apply Dk.loop 0 (V:=Unit) (fun (s:Int) v=>[]) (fun s v=>[(22,.int .i64 (s))]) () [(0,_),(20,_),(21,_)]
  | apply Dk.quiet (id:=1) (by kernel_rfl)
  | apply Dk.quiet (id:=6) (by kernel_rfl)
  | apply c81
  | exact ()
theorem c15 {x0:aF} {cZ:Addr} {aS:Value} {aU:Value} {aR:Value} {aP:Value} {aY:Value} {aV:Value} {x1:aF} {oG:Addr} {bK:Value} {bV:Value} {bE:Value} {bA:Value} {cI:Value} {cB:Value}:Ct Tryz.prog 15 true (jT x0 x1) [.pointer (some (cZ)),.pointer (some (oG))] [.ats oG [.int .i64 (x1.aA.aH),bK,bV,bE,bA,cI,cB],.ats cZ [.int .i64 (x0.aA.aH),aS,aU,aR,aP,aY,aV],.rd false (aB (aC .i64)) aS x0.aA.aG,.rd false (aB (aC .i64)) aU x0.aA.To,.rd false (aB (aC .i64)) aR x0.aA.aO,.rd false (aB (aB (aC .i64))) aP x0.aA.aE,.rd false (aB (aC .i64)) aY x0.aM,.rd false (aB (aB (aC .i64))) aV x0.aN,.rd false (aB (aC .i64)) bK x1.aA.aG,.rd false (aB (aC .i64)) bV x1.aA.To,.rd false (aB (aC .i64)) bE x1.aA.aO,.rd false (aB (aB (aC .i64))) bA x1.aA.aE,.rd false (aB (aC .i64)) cI x1.aM,.rd false (aB (aB (aC .i64))) cB x1.aN] (fun y (_:Unit)=>[.bool y]) (fun y _=>[]):=by
 refine ct (S:=Unit) (owt fun _ _=>rfl) Tryz.func15 rfl rfl ?_
 repeat' first
  | intro _
  | exact rfl
  | (refine @id.{0} _ ?_; constructor)
  | apply Dk.loop 0 (V:=Unit) (fun (s:Int) v=>[]) (fun s v=>[(44,.int .i64 (s))]) () [(0,_),(1,_),(43,_)]
  | apply Dk.quiet (id:=1) (by kernel_rfl)
  | apply Dk.quiet (id:=6) (by kernel_rfl)
  | apply c38
  | apply c39
  | exact ()
theorem c17 {x0:(List Int)} {cE:Value}:Ct Tryz.prog 17 true (lB x0) [cE] [.rd false (aB (aC .i64)) cE x0] (fun y (_:Unit)=>[.bool y]) (fun y _=>[]):=by
 refine ct (S:=Unit) (owt fun _ _=>rfl) Tryz.func17 rfl rfl ?_
 repeat' first
  | intro _
  | exact rfl
  | (refine @id.{0} _ ?_; constructor)
  | apply c43
  | exact ()
end Go.Proofs.YtacpfhajafmigaaGreat
