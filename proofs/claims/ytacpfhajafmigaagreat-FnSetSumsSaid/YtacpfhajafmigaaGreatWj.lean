/- Walks by the calculus D. No condition beside those that each theorem names. -/
import Derived.Test.YtacpfhajafmigaaGreatDi
import Derived.Test.YtacpfhajafmigaaGreatMo
import Derived.Test.YtacpfhajafmigaaGreatDg
import Derived.Test.YtacpfhajafmigaaGreatDs
import Derived.Test.YtacpfhajafmigaaGreatWa
import Derived.Test.YtacpfhajafmigaaGreatWd
import Derived.Test.YtacpfhajafmigaaGreatWe
import Derived.Test.YtacpfhajafmigaaGreatWf
namespace Go.Proofs.YtacpfhajafmigaaGreat
open Go Go.Li Go.Dk
set_option linter.unusedVariables false
set_option maxHeartbeats 16000000
set_option maxRecDepth 100000
theorem c100 {x0:aF} {aS:Value} {aU:Value} {aR:Value} {aP:Value} {aY:Value} {aV:Value}:Ct Tryz.prog 100 true (lT x0) [.agg #[.int .i64 (x0.aA.aH),aS,aU,aR,aP,aY,aV]] [.rd false (aB (aC .i64)) aS x0.aA.aG,.rd false (aB (aC .i64)) aU x0.aA.To,.rd false (aB (aC .i64)) aR x0.aA.aO,.rd false (aB (aB (aC .i64))) aP x0.aA.aE,.rd false (aB (aC .i64)) aY x0.aM,.rd false (aB (aB (aC .i64))) aV x0.aN] (fun y (_:Unit)=>[.bool y]) (fun y _=>[]):=by
 refine ct (S:=Unit) (owt fun _ _=>rfl) Tryz.func100 rfl rfl ?_
 repeat' first
  | intro _
  | exact rfl
  | (refine @id.{0} _ ?_; constructor)
  | apply Dk.loop 0 (V:=Unit) (fun (s:Int) v=>[]) (fun s v=>[(3,.int .i64 (s))]) () [(1,_)]
  | apply Dk.loop 2 (V:=Unit) (fun (s:Int) v=>[]) (fun s v=>[(4,.int .i64 (s))]) () [(1,_)]
  | apply Dk.quiet (id:=11) (by kernel_rfl)
  | apply c98
  | apply c112
  | apply c87
  | exact ()
theorem c86 {x0:aF} {aS:Value} {aU:Value} {aR:Value} {aP:Value} {aY:Value} {aV:Value}:Ct Tryz.prog 86 true (nX x0) [.agg #[.int .i64 (x0.aA.aH),aS,aU,aR,aP,aY,aV]] [.rd false (aB (aC .i64)) aS x0.aA.aG,.rd false (aB (aC .i64)) aU x0.aA.To,.rd false (aB (aC .i64)) aR x0.aA.aO,.rd false (aB (aB (aC .i64))) aP x0.aA.aE,.rd false (aB (aC .i64)) aY x0.aM,.rd false (aB (aB (aC .i64))) aV x0.aN] (fun y (_:Unit)=>[.bool y]) (fun y _=>[]):=by
 refine ct (S:=Unit) (owt fun _ _=>rfl) Tryz.func86 rfl rfl ?_
 repeat' first
  | intro _
  | exact rfl
  | (refine @id.{0} _ ?_; constructor)
  | apply c100
  | apply c101
  | exact ()
theorem c63 {x0:aF} {aS:Value} {aU:Value} {aR:Value} {aP:Value} {aY:Value} {aV:Value} {x1:aF} {bK:Value} {bV:Value} {bE:Value} {bA:Value} {cI:Value} {cB:Value}:Ct Tryz.prog 63 true (fU x0 x1) [.agg #[.int .i64 (x0.aA.aH),aS,aU,aR,aP,aY,aV],.agg #[.int .i64 (x1.aA.aH),bK,bV,bE,bA,cI,cB]] [.rd false (aB (aC .i64)) aS x0.aA.aG,.rd false (aB (aC .i64)) aU x0.aA.To,.rd false (aB (aC .i64)) aR x0.aA.aO,.rd false (aB (aB (aC .i64))) aP x0.aA.aE,.rd false (aB (aC .i64)) aY x0.aM,.rd false (aB (aB (aC .i64))) aV x0.aN,.rd false (aB (aC .i64)) bK x1.aA.aG,.rd false (aB (aC .i64)) bV x1.aA.To,.rd false (aB (aC .i64)) bE x1.aA.aO,.rd false (aB (aB (aC .i64))) bA x1.aA.aE,.rd false (aB (aC .i64)) cI x1.aM,.rd false (aB (aB (aC .i64))) cB x1.aN] (fun y (_:Unit)=>[.bool y]) (fun y _=>[]):=by
 refine ct (S:=Unit) (owt fun _ _=>rfl) Tryz.func63 rfl rfl ?_
 repeat' first
  | intro _
  | exact rfl
  | (refine @id.{0} _ ?_; constructor)
  | apply c86
  | apply c76
  | exact ()
theorem c24 {x0:aF} {aS:Value} {aU:Value} {aR:Value} {aP:Value} {aY:Value} {aV:Value} {x1:aF} {bK:Value} {bV:Value} {bE:Value} {bA:Value} {cI:Value} {cB:Value} {x2:(List (List Int))} {lD:Value}:Ct Tryz.prog 24 true (eI x0 x1 x2) [.agg #[.int .i64 (x0.aA.aH),aS,aU,aR,aP,aY,aV],.agg #[.int .i64 (x1.aA.aH),bK,bV,bE,bA,cI,cB],lD] [.rd false (aB (aC .i64)) aS x0.aA.aG,.rd false (aB (aC .i64)) aU x0.aA.To,.rd false (aB (aC .i64)) aR x0.aA.aO,.rd false (aB (aB (aC .i64))) aP x0.aA.aE,.rd false (aB (aC .i64)) aY x0.aM,.rd false (aB (aB (aC .i64))) aV x0.aN,.rd false (aB (aC .i64)) bK x1.aA.aG,.rd false (aB (aC .i64)) bV x1.aA.To,.rd false (aB (aC .i64)) bE x1.aA.aO,.rd false (aB (aB (aC .i64))) bA x1.aA.aE,.rd false (aB (aC .i64)) cI x1.aM,.rd false (aB (aB (aC .i64))) cB x1.aN,.rd false (aB (aB (aC .i64))) lD x2] (fun y (v:Value×Value×Value×Value×Value×Value×Value×Value×Value×Value×Value×Value×Value)=>[.agg #[.int .i64 y.aK.aA.aH,v.1,v.2.1,v.2.2.1,v.2.2.2.1,v.2.2.2.2.1,v.2.2.2.2.2.1,.int .i64 y.aQ.aA.aH,v.2.2.2.2.2.2.1,v.2.2.2.2.2.2.2.1,v.2.2.2.2.2.2.2.2.1,v.2.2.2.2.2.2.2.2.2.1,v.2.2.2.2.2.2.2.2.2.2.1,v.2.2.2.2.2.2.2.2.2.2.2.1,v.2.2.2.2.2.2.2.2.2.2.2.2]]) (fun y v=>[.own (aJ 2 (aC .i64)) v.1 y.aK.aA.aG,.own (aJ 2 (aC .i64)) v.2.1 y.aK.aA.To,.own (aJ 2 (aC .i64)) v.2.2.1 y.aK.aA.aO,.own (aJ 24 (aJ 2 (aC .i64))) v.2.2.2.1 y.aK.aA.aE,.own (aJ 2 (aC .i64)) v.2.2.2.2.1 y.aK.aM,.own (aJ 24 (aJ 2 (aC .i64))) v.2.2.2.2.2.1 y.aK.aN,.own (aJ 2 (aC .i64)) v.2.2.2.2.2.2.1 y.aQ.aA.aG,.own (aJ 2 (aC .i64)) v.2.2.2.2.2.2.2.1 y.aQ.aA.To,.own (aJ 2 (aC .i64)) v.2.2.2.2.2.2.2.2.1 y.aQ.aA.aO,.own (aJ 24 (aJ 2 (aC .i64))) v.2.2.2.2.2.2.2.2.2.1 y.aQ.aA.aE,.own (aJ 2 (aC .i64)) v.2.2.2.2.2.2.2.2.2.2.1 y.aQ.aM,.own (aJ 24 (aJ 2 (aC .i64))) v.2.2.2.2.2.2.2.2.2.2.2.1 y.aQ.aN,.own (aJ 24 (aJ 2 (aC .i64))) v.2.2.2.2.2.2.2.2.2.2.2.2 y.bN]):=by
 refine ct (S:=Unit) (owt fun _ _=>rfl) Tryz.func24 rfl rfl ?_
 repeat' first
  | intro _
  | exact rfl
  | (refine @id.{0} _ ?_; constructor)
  | apply Dk.any (id:=1) 5 [] [] [[],[0],[],[2,1,0],[]] (by kernel_rfl)
  | apply c48
  | apply c49
  | exact ()
theorem c32 {x0:aZ} {bI:Value} {bP:Value} {bG:Value} {bC:Value} {bZ:Value} {bT:Value} {bJ:Value} {bQ:Value} {bH:Value} {bD:Value} {cA:Value} {bU:Value} {dA:Value}:Ct Tryz.prog 32 true (gY x0) [.agg #[.int .i64 (x0.aK.aA.aH),bI,bP,bG,bC,bZ,bT,.int .i64 (x0.aQ.aA.aH),bJ,bQ,bH,bD,cA,bU,dA]] [.rd false (aB (aC .i64)) bI x0.aK.aA.aG,.rd false (aB (aC .i64)) bP x0.aK.aA.To,.rd false (aB (aC .i64)) bG x0.aK.aA.aO,.rd false (aB (aB (aC .i64))) bC x0.aK.aA.aE,.rd false (aB (aC .i64)) bZ x0.aK.aM,.rd false (aB (aB (aC .i64))) bT x0.aK.aN,.rd false (aB (aC .i64)) bJ x0.aQ.aA.aG,.rd false (aB (aC .i64)) bQ x0.aQ.aA.To,.rd false (aB (aC .i64)) bH x0.aQ.aA.aO,.rd false (aB (aB (aC .i64))) bD x0.aQ.aA.aE,.rd false (aB (aC .i64)) cA x0.aQ.aM,.rd false (aB (aB (aC .i64))) bU x0.aQ.aN,.rd false (aB (aB (aC .i64))) dA x0.bN] (fun y (_:Unit)=>[.bool y]) (fun y _=>[]):=by
 refine ct (S:=Unit) (owt fun _ _=>rfl) Tryz.func32 rfl rfl ?_
 repeat' first
  | intro _
  | exact rfl
  | (refine @id.{0} _ ?_; constructor)
  | apply c63
  | apply c65
  | apply c66
  | exact ()
theorem c20 {x0:aZ} {bI:Value} {bP:Value} {bG:Value} {bC:Value} {bZ:Value} {bT:Value} {bJ:Value} {bQ:Value} {bH:Value} {bD:Value} {cA:Value} {bU:Value} {dA:Value} {x1:aZ} {cV:Value} {dB:Value} {cO:Value} {cJ:Value} {dK:Value} {dE:Value} {cW:Value} {dC:Value} {cP:Value} {cK:Value} {dL:Value} {dF:Value} {eD:Value} {x2:Bool} {x3:Bool}:Ct Tryz.prog 20 true (oD x0 x1 x2 x3) [.agg #[.int .i64 (x0.aK.aA.aH),bI,bP,bG,bC,bZ,bT,.int .i64 (x0.aQ.aA.aH),bJ,bQ,bH,bD,cA,bU,dA],.agg #[.int .i64 (x1.aK.aA.aH),cV,dB,cO,cJ,dK,dE,.int .i64 (x1.aQ.aA.aH),cW,dC,cP,cK,dL,dF,eD],.bool (x2),.bool (x3)] [.rd false (aB (aC .i64)) bI x0.aK.aA.aG,.rd false (aB (aC .i64)) bP x0.aK.aA.To,.rd false (aB (aC .i64)) bG x0.aK.aA.aO,.rd false (aB (aB (aC .i64))) bC x0.aK.aA.aE,.rd false (aB (aC .i64)) bZ x0.aK.aM,.rd false (aB (aB (aC .i64))) bT x0.aK.aN,.rd false (aB (aC .i64)) bJ x0.aQ.aA.aG,.rd false (aB (aC .i64)) bQ x0.aQ.aA.To,.rd false (aB (aC .i64)) bH x0.aQ.aA.aO,.rd false (aB (aB (aC .i64))) bD x0.aQ.aA.aE,.rd false (aB (aC .i64)) cA x0.aQ.aM,.rd false (aB (aB (aC .i64))) bU x0.aQ.aN,.rd false (aB (aB (aC .i64))) dA x0.bN,.rd false (aB (aC .i64)) cV x1.aK.aA.aG,.rd false (aB (aC .i64)) dB x1.aK.aA.To,.rd false (aB (aC .i64)) cO x1.aK.aA.aO,.rd false (aB (aB (aC .i64))) cJ x1.aK.aA.aE,.rd false (aB (aC .i64)) dK x1.aK.aM,.rd false (aB (aB (aC .i64))) dE x1.aK.aN,.rd false (aB (aC .i64)) cW x1.aQ.aA.aG,.rd false (aB (aC .i64)) dC x1.aQ.aA.To,.rd false (aB (aC .i64)) cP x1.aQ.aA.aO,.rd false (aB (aB (aC .i64))) cK x1.aQ.aA.aE,.rd false (aB (aC .i64)) dL x1.aQ.aM,.rd false (aB (aB (aC .i64))) dF x1.aQ.aN,.rd false (aB (aB (aC .i64))) eD x1.bN] (fun y (_:Unit)=>[.int .i64 y]) (fun y _=>[]):=by
 refine ct (S:=Unit) (owt fun _ _=>rfl) Tryz.func20 rfl rfl ?_
 repeat' first
  | intro _
  | exact rfl
  | (refine @id.{0} _ ?_; constructor)
  | apply c32
  | apply c46
  | exact ()
theorem c7 {x0:aZ} {bI:Value} {bP:Value} {bG:Value} {bC:Value} {bZ:Value} {bT:Value} {bJ:Value} {bQ:Value} {bH:Value} {bD:Value} {cA:Value} {bU:Value} {dA:Value} {x1:aZ} {cV:Value} {dB:Value} {cO:Value} {cJ:Value} {dK:Value} {dE:Value} {cW:Value} {dC:Value} {cP:Value} {cK:Value} {dL:Value} {dF:Value} {eD:Value}:Ct Tryz.prog 7 true (iN x0 x1) [.agg #[.int .i64 (x0.aK.aA.aH),bI,bP,bG,bC,bZ,bT,.int .i64 (x0.aQ.aA.aH),bJ,bQ,bH,bD,cA,bU,dA],.agg #[.int .i64 (x1.aK.aA.aH),cV,dB,cO,cJ,dK,dE,.int .i64 (x1.aQ.aA.aH),cW,dC,cP,cK,dL,dF,eD]] [.rd false (aB (aC .i64)) bI x0.aK.aA.aG,.rd false (aB (aC .i64)) bP x0.aK.aA.To,.rd false (aB (aC .i64)) bG x0.aK.aA.aO,.rd false (aB (aB (aC .i64))) bC x0.aK.aA.aE,.rd false (aB (aC .i64)) bZ x0.aK.aM,.rd false (aB (aB (aC .i64))) bT x0.aK.aN,.rd false (aB (aC .i64)) bJ x0.aQ.aA.aG,.rd false (aB (aC .i64)) bQ x0.aQ.aA.To,.rd false (aB (aC .i64)) bH x0.aQ.aA.aO,.rd false (aB (aB (aC .i64))) bD x0.aQ.aA.aE,.rd false (aB (aC .i64)) cA x0.aQ.aM,.rd false (aB (aB (aC .i64))) bU x0.aQ.aN,.rd false (aB (aB (aC .i64))) dA x0.bN,.rd false (aB (aC .i64)) cV x1.aK.aA.aG,.rd false (aB (aC .i64)) dB x1.aK.aA.To,.rd false (aB (aC .i64)) cO x1.aK.aA.aO,.rd false (aB (aB (aC .i64))) cJ x1.aK.aA.aE,.rd false (aB (aC .i64)) dK x1.aK.aM,.rd false (aB (aB (aC .i64))) dE x1.aK.aN,.rd false (aB (aC .i64)) cW x1.aQ.aA.aG,.rd false (aB (aC .i64)) dC x1.aQ.aA.To,.rd false (aB (aC .i64)) cP x1.aQ.aA.aO,.rd false (aB (aB (aC .i64))) cK x1.aQ.aA.aE,.rd false (aB (aC .i64)) dL x1.aQ.aM,.rd false (aB (aB (aC .i64))) dF x1.aQ.aN,.rd false (aB (aB (aC .i64))) eD x1.bN] (fun y (v:Value×Value×Value×Value×Value×Value×Value×Value×Value×Value×Value×Value×Value)=>[.agg #[.int .i64 y.1.aK.aA.aH,v.1,v.2.1,v.2.2.1,v.2.2.2.1,v.2.2.2.2.1,v.2.2.2.2.2.1,.int .i64 y.1.aQ.aA.aH,v.2.2.2.2.2.2.1,v.2.2.2.2.2.2.2.1,v.2.2.2.2.2.2.2.2.1,v.2.2.2.2.2.2.2.2.2.1,v.2.2.2.2.2.2.2.2.2.2.1,v.2.2.2.2.2.2.2.2.2.2.2.1,v.2.2.2.2.2.2.2.2.2.2.2.2],.int .i64 y.2]) (fun y v=>[.own (aJ 2 (aC .i64)) v.1 y.1.aK.aA.aG,.own (aJ 2 (aC .i64)) v.2.1 y.1.aK.aA.To,.own (aJ 2 (aC .i64)) v.2.2.1 y.1.aK.aA.aO,.own (aJ 24 (aJ 2 (aC .i64))) v.2.2.2.1 y.1.aK.aA.aE,.own (aJ 2 (aC .i64)) v.2.2.2.2.1 y.1.aK.aM,.own (aJ 24 (aJ 2 (aC .i64))) v.2.2.2.2.2.1 y.1.aK.aN,.own (aJ 2 (aC .i64)) v.2.2.2.2.2.2.1 y.1.aQ.aA.aG,.own (aJ 2 (aC .i64)) v.2.2.2.2.2.2.2.1 y.1.aQ.aA.To,.own (aJ 2 (aC .i64)) v.2.2.2.2.2.2.2.2.1 y.1.aQ.aA.aO,.own (aJ 24 (aJ 2 (aC .i64))) v.2.2.2.2.2.2.2.2.2.1 y.1.aQ.aA.aE,.own (aJ 2 (aC .i64)) v.2.2.2.2.2.2.2.2.2.2.1 y.1.aQ.aM,.own (aJ 24 (aJ 2 (aC .i64))) v.2.2.2.2.2.2.2.2.2.2.2.1 y.1.aQ.aN,.own (aJ 24 (aJ 2 (aC .i64))) v.2.2.2.2.2.2.2.2.2.2.2.2 y.1.bN]):=by
 refine ct (S:=Unit) (owt fun _ _=>rfl) Tryz.func7 rfl rfl ?_
 repeat' first
  | intro _
  | exact rfl
  | apply Dk.AD.apR (d:=52)
  | (refine @id.{0} _ ?_; constructor)
  | apply Dk.loop 0 (V:=Value) (fun (s:(List (List Int))×Int) v=>[.own (aJ 24 (aJ 2 (aC .i64))) v s.1]) (fun s v=>[(10,v),(11,.int .i64 (s.2))]) _ [(2,_),(3,_),(4,_),(7,_)]
  | apply Dk.any (id:=11) 14 [] [[],[],[],[],[],[],[],[],[],[],[],[],[6],[]] [[],[],[1],[],[2,1,3],[4,2,1,3],[5,4,2,1,3],[],[7],[],[8,7,9],[10,8,7,9],[6,5,4,2,1,3,11,10,8,7,9,6,5,4,2,1,3],[12,5,4,2,1,3,11,10,8,7,9,5,4,2,1,3]] (by kernel_rfl)
  | apply c20
  | apply c21
  | apply c22
  | apply c23
  | apply c24
  | exact ()
end Go.Proofs.YtacpfhajafmigaaGreat
