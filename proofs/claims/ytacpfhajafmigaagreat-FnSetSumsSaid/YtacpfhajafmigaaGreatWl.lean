/- Walks by the calculus D. No condition beside those that each theorem names. -/
import Derived.Test.YtacpfhajafmigaaGreatDi
import Derived.Test.YtacpfhajafmigaaGreatMo
import Derived.Test.YtacpfhajafmigaaGreatDg
import Derived.Test.YtacpfhajafmigaaGreatDs
import Derived.Test.YtacpfhajafmigaaGreatWa
import Derived.Test.YtacpfhajafmigaaGreatWb
import Derived.Test.YtacpfhajafmigaaGreatWd
import Derived.Test.YtacpfhajafmigaaGreatWf
import Derived.Test.YtacpfhajafmigaaGreatWg
import Derived.Test.YtacpfhajafmigaaGreatWh
namespace Go.Proofs.YtacpfhajafmigaaGreat
open Go Go.Li Go.Dk
set_option linter.unusedVariables false
set_option maxHeartbeats 16000000
set_option maxRecDepth 100000
theorem c70_s {rc:cH→(List (List Int))→Option (cH)} (ih:∀ {x0:cH} {cU:Nat} {cM:Value} {cS:Value} {cC:Value} {bX:Value} {dH:Value} {cX:Value} {cN:Value} {cT:Value} {cD:Value} {bY:Value} {dI:Value} {cY:Value} {dP:Value} {x1:(List (List Int))} {dG:Value},Ct Tryz.prog 70 false (rc x0 x1) [.pointer (some (⟨cU,0,none⟩)),dG] [.row cU [.int .i64 (x0.F.aA.aH),cM,cS,cC,bX,dH,cX,.int .i64 (x0.G.aA.aH),cN,cT,cD,bY,dI,cY,.bool (x0.Onto),.int .i64 (x0.Most),dP] 109,.rd false (aB (aC .i64)) cM x0.F.aA.aG,.rd false (aB (aC .i64)) cS x0.F.aA.To,.rd false (aB (aC .i64)) cC x0.F.aA.aO,.rd false (aB (aB (aC .i64))) bX x0.F.aA.aE,.rd false (aB (aC .i64)) dH x0.F.aM,.rd false (aB (aB (aC .i64))) cX x0.F.aN,.rd false (aB (aC .i64)) cN x0.G.aA.aG,.rd false (aB (aC .i64)) cT x0.G.aA.To,.rd false (aB (aC .i64)) cD x0.G.aA.aO,.rd false (aB (aB (aC .i64))) bY x0.G.aA.aE,.rd false (aB (aC .i64)) dI x0.G.aM,.rd false (aB (aB (aC .i64))) cY x0.G.aN,.om 25 (aB (aB (aC .i64))) dP x0.Found,.rd false (aB (aB (aC .i64))) dG x1] (fun y (v:Value)=>[]) (fun y v=>[.row cU [.int .i64 y.F.aA.aH,cM,cS,cC,bX,dH,cX,.int .i64 y.G.aA.aH,cN,cT,cD,bY,dI,cY,.bool y.Onto,.int .i64 y.Most,v] 109,.om 25 (aB (aB (aC .i64))) v y.Found])) {x0:cH} {cU:Nat} {cM:Value} {cS:Value} {cC:Value} {bX:Value} {dH:Value} {cX:Value} {cN:Value} {cT:Value} {cD:Value} {bY:Value} {dI:Value} {cY:Value} {dP:Value} {x1:(List (List Int))} {dG:Value}:Ct Tryz.prog 70 false (oB rc x0 x1) [.pointer (some (⟨cU,0,none⟩)),dG] [.row cU [.int .i64 (x0.F.aA.aH),cM,cS,cC,bX,dH,cX,.int .i64 (x0.G.aA.aH),cN,cT,cD,bY,dI,cY,.bool (x0.Onto),.int .i64 (x0.Most),dP] 109,.rd false (aB (aC .i64)) cM x0.F.aA.aG,.rd false (aB (aC .i64)) cS x0.F.aA.To,.rd false (aB (aC .i64)) cC x0.F.aA.aO,.rd false (aB (aB (aC .i64))) bX x0.F.aA.aE,.rd false (aB (aC .i64)) dH x0.F.aM,.rd false (aB (aB (aC .i64))) cX x0.F.aN,.rd false (aB (aC .i64)) cN x0.G.aA.aG,.rd false (aB (aC .i64)) cT x0.G.aA.To,.rd false (aB (aC .i64)) cD x0.G.aA.aO,.rd false (aB (aB (aC .i64))) bY x0.G.aA.aE,.rd false (aB (aC .i64)) dI x0.G.aM,.rd false (aB (aB (aC .i64))) cY x0.G.aN,.om 25 (aB (aB (aC .i64))) dP x0.Found,.rd false (aB (aB (aC .i64))) dG x1] (fun y (v:Value)=>[]) (fun y v=>[.row cU [.int .i64 y.F.aA.aH,cM,cS,cC,bX,dH,cX,.int .i64 y.G.aA.aH,cN,cT,cD,bY,dI,cY,.bool y.Onto,.int .i64 y.Most,v] 109,.om 25 (aB (aB (aC .i64))) v y.Found]):=by
 refine ctv owf Tryz.func70 rfl rfl ?_
 repeat' first
  | intro _
  | exact rfl
  | (refine @id.{0} _ ?_; constructor)
  | apply ih
  | apply Dk.loop 0 (V:=Unit) (fun (s:Int×Int×Int) v=>[.om 25 (aB (aB (aC .i64))) dP x0.Found]) (fun s v=>[(4,.int .i64 (s.1)),(5,.int .i64 (s.2.1)),(6,.int .i64 (s.2.2))]) () [(0,_),(1,_)]
  | apply Dk.loop 2 (V:=Unit) (fun (s:Int×Int×Int) v=>[.om 25 (aB (aB (aC .i64))) dP x0.Found]) (fun s v=>[(4,.int .i64 (s.1)),(5,.int .i64 (s.2.1)),(7,.int .i64 (s.2.2))]) () [(0,_),(1,_),(6,_)]
  | apply Dk.loop 4 (V:=Value) (fun (s:Int×Int×Int×Bool×Int×(List (List (List Int)))) v=>[.row cU [.int .i64 (s.2.1),cM,cS,cC,bX,dH,cX,.int .i64 (s.2.2.1),cN,cT,cD,bY,dI,cY,.bool (s.2.2.2.1),.int .i64 (s.2.2.2.2.1),v] 109,.om 25 (aB (aB (aC .i64))) v s.2.2.2.2.2]) (fun s v=>[(9,.int .i64 (s.1))]) _ [(0,_),(1,_),(4,_),(5,_),(8,_)]
  | apply Dk.quiet (id:=14) (by kernel_rfl)
  | apply c92
  | apply c93
  | exact ()
theorem c70_n (n:Nat):∀ {x0:cH} {cU:Nat} {cM:Value} {cS:Value} {cC:Value} {bX:Value} {dH:Value} {cX:Value} {cN:Value} {cT:Value} {cD:Value} {bY:Value} {dI:Value} {cY:Value} {dP:Value} {x1:(List (List Int))} {dG:Value},Ct Tryz.prog 70 false (jJ n x0 x1) [.pointer (some (⟨cU,0,none⟩)),dG] [.row cU [.int .i64 (x0.F.aA.aH),cM,cS,cC,bX,dH,cX,.int .i64 (x0.G.aA.aH),cN,cT,cD,bY,dI,cY,.bool (x0.Onto),.int .i64 (x0.Most),dP] 109,.rd false (aB (aC .i64)) cM x0.F.aA.aG,.rd false (aB (aC .i64)) cS x0.F.aA.To,.rd false (aB (aC .i64)) cC x0.F.aA.aO,.rd false (aB (aB (aC .i64))) bX x0.F.aA.aE,.rd false (aB (aC .i64)) dH x0.F.aM,.rd false (aB (aB (aC .i64))) cX x0.F.aN,.rd false (aB (aC .i64)) cN x0.G.aA.aG,.rd false (aB (aC .i64)) cT x0.G.aA.To,.rd false (aB (aC .i64)) cD x0.G.aA.aO,.rd false (aB (aB (aC .i64))) bY x0.G.aA.aE,.rd false (aB (aC .i64)) dI x0.G.aM,.rd false (aB (aB (aC .i64))) cY x0.G.aN,.om 25 (aB (aB (aC .i64))) dP x0.Found,.rd false (aB (aB (aC .i64))) dG x1] (fun y (v:Value)=>[]) (fun y v=>[.row cU [.int .i64 y.F.aA.aH,cM,cS,cC,bX,dH,cX,.int .i64 y.G.aA.aH,cN,cT,cD,bY,dI,cY,.bool y.Onto,.int .i64 y.Most,v] 109,.om 25 (aB (aB (aC .i64))) v y.Found]):=by
 induction n with
 | zero=>intros; rw [ct_eq]; exact ⟨owf,fun _ _ _ _ _ _ _ y hy=>nomatch (show none=some y from hy)⟩
 | succ n ih=>exact c70_s ih
theorem c70 {x0:cH} {cU:Nat} {cM:Value} {cS:Value} {cC:Value} {bX:Value} {dH:Value} {cX:Value} {cN:Value} {cT:Value} {cD:Value} {bY:Value} {dI:Value} {cY:Value} {dP:Value} {x1:(List (List Int))} {dG:Value}:Ct Tryz.prog 70 false (jJ 64 x0 x1) [.pointer (some (⟨cU,0,none⟩)),dG] [.row cU [.int .i64 (x0.F.aA.aH),cM,cS,cC,bX,dH,cX,.int .i64 (x0.G.aA.aH),cN,cT,cD,bY,dI,cY,.bool (x0.Onto),.int .i64 (x0.Most),dP] 109,.rd false (aB (aC .i64)) cM x0.F.aA.aG,.rd false (aB (aC .i64)) cS x0.F.aA.To,.rd false (aB (aC .i64)) cC x0.F.aA.aO,.rd false (aB (aB (aC .i64))) bX x0.F.aA.aE,.rd false (aB (aC .i64)) dH x0.F.aM,.rd false (aB (aB (aC .i64))) cX x0.F.aN,.rd false (aB (aC .i64)) cN x0.G.aA.aG,.rd false (aB (aC .i64)) cT x0.G.aA.To,.rd false (aB (aC .i64)) cD x0.G.aA.aO,.rd false (aB (aB (aC .i64))) bY x0.G.aA.aE,.rd false (aB (aC .i64)) dI x0.G.aM,.rd false (aB (aB (aC .i64))) cY x0.G.aN,.om 25 (aB (aB (aC .i64))) dP x0.Found,.rd false (aB (aB (aC .i64))) dG x1] (fun y (v:Value)=>[]) (fun y v=>[.row cU [.int .i64 y.F.aA.aH,cM,cS,cC,bX,dH,cX,.int .i64 y.G.aA.aH,cN,cT,cD,bY,dI,cY,.bool y.Onto,.int .i64 y.Most,v] 109,.om 25 (aB (aB (aC .i64))) v y.Found]):=by
 exact c70_n 64
theorem c36 {x0:aF} {aS:Value} {aU:Value} {aR:Value} {aP:Value} {aY:Value} {aV:Value} {x1:aF} {bK:Value} {bV:Value} {bE:Value} {bA:Value} {cI:Value} {cB:Value} {x2:Bool} {x3:Int}:Ct Tryz.prog 36 false (kX x0 x1 x2 x3) [.agg #[.int .i64 (x0.aA.aH),aS,aU,aR,aP,aY,aV],.agg #[.int .i64 (x1.aA.aH),bK,bV,bE,bA,cI,cB],.bool (x2),.int .i64 (x3)] [.rd false (aB (aC .i64)) aS x0.aA.aG,.rd false (aB (aC .i64)) aU x0.aA.To,.rd false (aB (aC .i64)) aR x0.aA.aO,.rd false (aB (aB (aC .i64))) aP x0.aA.aE,.rd false (aB (aC .i64)) aY x0.aM,.rd false (aB (aB (aC .i64))) aV x0.aN,.rd false (aB (aC .i64)) bK x1.aA.aG,.rd false (aB (aC .i64)) bV x1.aA.To,.rd false (aB (aC .i64)) bE x1.aA.aO,.rd false (aB (aB (aC .i64))) bA x1.aA.aE,.rd false (aB (aC .i64)) cI x1.aM,.rd false (aB (aB (aC .i64))) cB x1.aN] (fun y (v:Value)=>[v]) (fun y v=>[.rd false (aB (aB (aB (aC .i64)))) v y]):=by
 refine ct (S:=Unit) owf Tryz.func36 rfl rfl ?_
 repeat' first
  | intro _
  | exact rfl
  | (refine @id.{0} _ ?_; constructor)
  | apply c71
  | apply c70
  | exact ()
theorem c19 {x0:aF} {cZ:Addr} {aS:Value} {aU:Value} {aR:Value} {aP:Value} {aY:Value} {aV:Value} {x1:aF} {oG:Addr} {bK:Value} {bV:Value} {bE:Value} {bA:Value} {cI:Value} {cB:Value} {x2:(List (List Int))} {lD:Value}:Ct Tryz.prog 19 true (jW x0 x1 x2) [.pointer (some (cZ)),.pointer (some (oG)),lD] [.ats oG [.int .i64 (x1.aA.aH),bK,bV,bE,bA,cI,cB],.ats cZ [.int .i64 (x0.aA.aH),aS,aU,aR,aP,aY,aV],.rd false (aB (aC .i64)) aS x0.aA.aG,.rd false (aB (aC .i64)) aU x0.aA.To,.rd false (aB (aC .i64)) aR x0.aA.aO,.rd false (aB (aB (aC .i64))) aP x0.aA.aE,.rd false (aB (aC .i64)) aY x0.aM,.rd false (aB (aB (aC .i64))) aV x0.aN,.rd false (aB (aC .i64)) bK x1.aA.aG,.rd false (aB (aC .i64)) bV x1.aA.To,.rd false (aB (aC .i64)) bE x1.aA.aO,.rd false (aB (aB (aC .i64))) bA x1.aA.aE,.rd false (aB (aC .i64)) cI x1.aM,.rd false (aB (aB (aC .i64))) cB x1.aN,.rd false (aB (aB (aC .i64))) lD x2] (fun y (v:Value×Value×Value×Value×Value×Value×Value×Value×Value×Value×Value×Value×Value)=>[.agg #[.int .i64 y.aK.aA.aH,v.1,v.2.1,v.2.2.1,v.2.2.2.1,v.2.2.2.2.1,v.2.2.2.2.2.1,.int .i64 y.aQ.aA.aH,v.2.2.2.2.2.2.1,v.2.2.2.2.2.2.2.1,v.2.2.2.2.2.2.2.2.1,v.2.2.2.2.2.2.2.2.2.1,v.2.2.2.2.2.2.2.2.2.2.1,v.2.2.2.2.2.2.2.2.2.2.2.1,v.2.2.2.2.2.2.2.2.2.2.2.2]]) (fun y v=>[.own (aJ 2 (aC .i64)) v.1 y.aK.aA.aG,.own (aJ 2 (aC .i64)) v.2.1 y.aK.aA.To,.own (aJ 2 (aC .i64)) v.2.2.1 y.aK.aA.aO,.own (aJ 24 (aJ 2 (aC .i64))) v.2.2.2.1 y.aK.aA.aE,.own (aJ 2 (aC .i64)) v.2.2.2.2.1 y.aK.aM,.own (aJ 24 (aJ 2 (aC .i64))) v.2.2.2.2.2.1 y.aK.aN,.own (aJ 2 (aC .i64)) v.2.2.2.2.2.2.1 y.aQ.aA.aG,.own (aJ 2 (aC .i64)) v.2.2.2.2.2.2.2.1 y.aQ.aA.To,.own (aJ 2 (aC .i64)) v.2.2.2.2.2.2.2.2.1 y.aQ.aA.aO,.own (aJ 24 (aJ 2 (aC .i64))) v.2.2.2.2.2.2.2.2.2.1 y.aQ.aA.aE,.own (aJ 2 (aC .i64)) v.2.2.2.2.2.2.2.2.2.2.1 y.aQ.aM,.own (aJ 24 (aJ 2 (aC .i64))) v.2.2.2.2.2.2.2.2.2.2.2.1 y.aQ.aN,.own (aJ 24 (aJ 2 (aC .i64))) v.2.2.2.2.2.2.2.2.2.2.2.2 y.bN]):=by
 refine ct (S:=Unit) (owt fun _ _=>rfl) Tryz.func19 rfl rfl ?_
 repeat' first
  | intro _
  | exact rfl
  | (refine @id.{0} _ ?_; constructor)
  | apply c44
  | apply c45
  | exact ()
theorem c8 {x0:aZ} {bI:Value} {bP:Value} {bG:Value} {bC:Value} {bZ:Value} {bT:Value} {bJ:Value} {bQ:Value} {bH:Value} {bD:Value} {cA:Value} {bU:Value} {dA:Value} {x1:aZ} {cV:Value} {dB:Value} {cO:Value} {cJ:Value} {dK:Value} {dE:Value} {cW:Value} {dC:Value} {cP:Value} {cK:Value} {dL:Value} {dF:Value} {eD:Value}:Ct Tryz.prog 8 true (gZ x0 x1) [.agg #[.int .i64 (x0.aK.aA.aH),bI,bP,bG,bC,bZ,bT,.int .i64 (x0.aQ.aA.aH),bJ,bQ,bH,bD,cA,bU,dA],.agg #[.int .i64 (x1.aK.aA.aH),cV,dB,cO,cJ,dK,dE,.int .i64 (x1.aQ.aA.aH),cW,dC,cP,cK,dL,dF,eD]] [.rd false (aB (aC .i64)) bI x0.aK.aA.aG,.rd false (aB (aC .i64)) bP x0.aK.aA.To,.rd false (aB (aC .i64)) bG x0.aK.aA.aO,.rd false (aB (aB (aC .i64))) bC x0.aK.aA.aE,.rd false (aB (aC .i64)) bZ x0.aK.aM,.rd false (aB (aB (aC .i64))) bT x0.aK.aN,.rd false (aB (aC .i64)) bJ x0.aQ.aA.aG,.rd false (aB (aC .i64)) bQ x0.aQ.aA.To,.rd false (aB (aC .i64)) bH x0.aQ.aA.aO,.rd false (aB (aB (aC .i64))) bD x0.aQ.aA.aE,.rd false (aB (aC .i64)) cA x0.aQ.aM,.rd false (aB (aB (aC .i64))) bU x0.aQ.aN,.rd false (aB (aB (aC .i64))) dA x0.bN,.rd false (aB (aC .i64)) cV x1.aK.aA.aG,.rd false (aB (aC .i64)) dB x1.aK.aA.To,.rd false (aB (aC .i64)) cO x1.aK.aA.aO,.rd false (aB (aB (aC .i64))) cJ x1.aK.aA.aE,.rd false (aB (aC .i64)) dK x1.aK.aM,.rd false (aB (aB (aC .i64))) dE x1.aK.aN,.rd false (aB (aC .i64)) cW x1.aQ.aA.aG,.rd false (aB (aC .i64)) dC x1.aQ.aA.To,.rd false (aB (aC .i64)) cP x1.aQ.aA.aO,.rd false (aB (aB (aC .i64))) cK x1.aQ.aA.aE,.rd false (aB (aC .i64)) dL x1.aQ.aM,.rd false (aB (aB (aC .i64))) dF x1.aQ.aN,.rd false (aB (aB (aC .i64))) eD x1.bN] (fun y (_:Unit)=>[.bool y]) (fun y _=>[]):=by
 refine ct (S:=Unit) (owt fun _ _=>rfl) Tryz.func8 rfl rfl ?_
 repeat' first
  | intro _
  | exact rfl
  | (refine @id.{0} _ ?_; constructor)
  | apply c25
  | apply c26
  | exact ()
end Go.Proofs.YtacpfhajafmigaaGreat
