/- Walks by the calculus D. No condition beside those that each theorem names. -/
import Derived.Test.YtacpfhajafmigaaGreatDi
import Derived.Test.YtacpfhajafmigaaGreatMo
import Derived.Test.YtacpfhajafmigaaGreatDg
import Derived.Test.YtacpfhajafmigaaGreatDs
import Derived.Test.YtacpfhajafmigaaGreatWa
import Derived.Test.YtacpfhajafmigaaGreatWb
import Derived.Test.YtacpfhajafmigaaGreatWc
import Derived.Test.YtacpfhajafmigaaGreatWd
import Derived.Test.YtacpfhajafmigaaGreatWf
import Derived.Test.YtacpfhajafmigaaGreatWh
import Derived.Test.YtacpfhajafmigaaGreatWi
import Derived.Test.YtacpfhajafmigaaGreatWj
import Derived.Test.YtacpfhajafmigaaGreatWk
import Derived.Test.YtacpfhajafmigaaGreatWl
import Derived.Test.YtacpfhajafmigaaGreatWz
namespace Go.Proofs.YtacpfhajafmigaaGreat
open Go Go.Li Go.Dk
set_option linter.unusedVariables false
set_option maxHeartbeats 16000000
set_option maxRecDepth 100000
theorem c12 {x0:aL} {cU:Nat} {bL:Value}:Ct Tryz.prog 12 false (oC x0) [.pointer (some (⟨cU,0,none⟩))] [.row cU [bL,.int .i64 (x0.At),.int .u64 (x0.Hash)] 72,.rd false (aB (aC .u8)) bL x0.Code] (fun y (v:Value×Value×Value×Value×Value×Value×Value×Value×Value×Value×Value×Value×Value×Value×Value×Value×Value×Value×Value×Value×Value×Value×Value×Value×Value×Value)=>[.agg #[.int .i64 y.1.aK.aA.aH,v.1,v.2.1,v.2.2.1,v.2.2.2.1,v.2.2.2.2.1,v.2.2.2.2.2.1,.int .i64 y.1.aQ.aA.aH,v.2.2.2.2.2.2.1,v.2.2.2.2.2.2.2.1,v.2.2.2.2.2.2.2.2.1,v.2.2.2.2.2.2.2.2.2.1,v.2.2.2.2.2.2.2.2.2.2.1,v.2.2.2.2.2.2.2.2.2.2.2.1,v.2.2.2.2.2.2.2.2.2.2.2.2.1],.agg #[.int .i64 y.2.1.aK.aA.aH,v.2.2.2.2.2.2.2.2.2.2.2.2.2.1,v.2.2.2.2.2.2.2.2.2.2.2.2.2.2.1,v.2.2.2.2.2.2.2.2.2.2.2.2.2.2.2.1,v.2.2.2.2.2.2.2.2.2.2.2.2.2.2.2.2.1,v.2.2.2.2.2.2.2.2.2.2.2.2.2.2.2.2.2.1,v.2.2.2.2.2.2.2.2.2.2.2.2.2.2.2.2.2.2.1,.int .i64 y.2.1.aQ.aA.aH,v.2.2.2.2.2.2.2.2.2.2.2.2.2.2.2.2.2.2.2.1,v.2.2.2.2.2.2.2.2.2.2.2.2.2.2.2.2.2.2.2.2.1,v.2.2.2.2.2.2.2.2.2.2.2.2.2.2.2.2.2.2.2.2.2.1,v.2.2.2.2.2.2.2.2.2.2.2.2.2.2.2.2.2.2.2.2.2.2.1,v.2.2.2.2.2.2.2.2.2.2.2.2.2.2.2.2.2.2.2.2.2.2.2.1,v.2.2.2.2.2.2.2.2.2.2.2.2.2.2.2.2.2.2.2.2.2.2.2.2.1,v.2.2.2.2.2.2.2.2.2.2.2.2.2.2.2.2.2.2.2.2.2.2.2.2.2]]) (fun y v=>[.rd false (aB (aC .i64)) v.1 y.1.aK.aA.aG,.rd false (aB (aC .i64)) v.2.1 y.1.aK.aA.To,.rd false (aB (aC .i64)) v.2.2.1 y.1.aK.aA.aO,.rd false (aB (aB (aC .i64))) v.2.2.2.1 y.1.aK.aA.aE,.rd false (aB (aC .i64)) v.2.2.2.2.1 y.1.aK.aM,.rd false (aB (aB (aC .i64))) v.2.2.2.2.2.1 y.1.aK.aN,.rd false (aB (aC .i64)) v.2.2.2.2.2.2.1 y.1.aQ.aA.aG,.rd false (aB (aC .i64)) v.2.2.2.2.2.2.2.1 y.1.aQ.aA.To,.rd false (aB (aC .i64)) v.2.2.2.2.2.2.2.2.1 y.1.aQ.aA.aO,.rd false (aB (aB (aC .i64))) v.2.2.2.2.2.2.2.2.2.1 y.1.aQ.aA.aE,.rd false (aB (aC .i64)) v.2.2.2.2.2.2.2.2.2.2.1 y.1.aQ.aM,.rd false (aB (aB (aC .i64))) v.2.2.2.2.2.2.2.2.2.2.2.1 y.1.aQ.aN,.rd false (aB (aB (aC .i64))) v.2.2.2.2.2.2.2.2.2.2.2.2.1 y.1.bN,.rd false (aB (aC .i64)) v.2.2.2.2.2.2.2.2.2.2.2.2.2.1 y.2.1.aK.aA.aG,.rd false (aB (aC .i64)) v.2.2.2.2.2.2.2.2.2.2.2.2.2.2.1 y.2.1.aK.aA.To,.rd false (aB (aC .i64)) v.2.2.2.2.2.2.2.2.2.2.2.2.2.2.2.1 y.2.1.aK.aA.aO,.rd false (aB (aB (aC .i64))) v.2.2.2.2.2.2.2.2.2.2.2.2.2.2.2.2.1 y.2.1.aK.aA.aE,.rd false (aB (aC .i64)) v.2.2.2.2.2.2.2.2.2.2.2.2.2.2.2.2.2.1 y.2.1.aK.aM,.rd false (aB (aB (aC .i64))) v.2.2.2.2.2.2.2.2.2.2.2.2.2.2.2.2.2.2.1 y.2.1.aK.aN,.rd false (aB (aC .i64)) v.2.2.2.2.2.2.2.2.2.2.2.2.2.2.2.2.2.2.2.1 y.2.1.aQ.aA.aG,.rd false (aB (aC .i64)) v.2.2.2.2.2.2.2.2.2.2.2.2.2.2.2.2.2.2.2.2.1 y.2.1.aQ.aA.To,.rd false (aB (aC .i64)) v.2.2.2.2.2.2.2.2.2.2.2.2.2.2.2.2.2.2.2.2.2.1 y.2.1.aQ.aA.aO,.rd false (aB (aB (aC .i64))) v.2.2.2.2.2.2.2.2.2.2.2.2.2.2.2.2.2.2.2.2.2.2.1 y.2.1.aQ.aA.aE,.rd false (aB (aC .i64)) v.2.2.2.2.2.2.2.2.2.2.2.2.2.2.2.2.2.2.2.2.2.2.2.1 y.2.1.aQ.aM,.rd false (aB (aB (aC .i64))) v.2.2.2.2.2.2.2.2.2.2.2.2.2.2.2.2.2.2.2.2.2.2.2.2.1 y.2.1.aQ.aN,.rd false (aB (aB (aC .i64))) v.2.2.2.2.2.2.2.2.2.2.2.2.2.2.2.2.2.2.2.2.2.2.2.2.2 y.2.1.bN,.row cU [bL,.int .i64 y.2.2.At,.int .u64 y.2.2.Hash] 72]):=by
 refine ct (S:=Unit) owf Tryz.func12 rfl rfl ?_
 repeat' first
  | intro _
  | exact rfl
  | (refine Dk.rwU (t:=16) rfl ?_)
  | apply Dk.AD.callR (f:=31)
  | apply Dk.AD.callHR (f:=31)
  | apply Dk.AD.callMR (f:=31)
  | (refine @id.{0} _ ?_; constructor)
  | apply Dk.anyH (id:=3) [Dk.Ent.row _ _ 72] 3 [] [[],[],[5]] [[],[],[1]] (by kernel_rfl)
  | apply Dk.anyH (id:=8) [Dk.Ent.row _ _ 72] 12 [] [[],[],[],[],[],[],[],[],[14],[],[],[]] [[],[],[],[2],[],[],[],[6],[5,7,6],[4,8,5,7,6],[9,4,8,5,7,6],[1,3,2,10,9,4,8,5,7,6,8,5,7,6]] (by kernel_rfl)
  | apply Dk.anyS (id:=9) [0,1] [2,3] (by kernel_rfl)
  | apply c31
  | apply c32
  | apply c33
  | apply c34
  | apply c35
  | apply c36
  | apply c24
  | exact ()
theorem c5 {x0:(List Int)} {cE:Value}:Ct Tryz.prog 5 false (fO x0) [cE] [.rd false (aB (aC .u8)) cE x0] (fun y (v:Value×Value×Value×Value×Value×Value×Value×Value×Value×Value×Value×Value×Value×Value×Value×Value×Value×Value×Value×Value×Value×Value×Value×Value×Value×Value)=>[.agg #[.int .i64 y.1.aK.aA.aH,v.1,v.2.1,v.2.2.1,v.2.2.2.1,v.2.2.2.2.1,v.2.2.2.2.2.1,.int .i64 y.1.aQ.aA.aH,v.2.2.2.2.2.2.1,v.2.2.2.2.2.2.2.1,v.2.2.2.2.2.2.2.2.1,v.2.2.2.2.2.2.2.2.2.1,v.2.2.2.2.2.2.2.2.2.2.1,v.2.2.2.2.2.2.2.2.2.2.2.1,v.2.2.2.2.2.2.2.2.2.2.2.2.1],.agg #[.int .i64 y.2.aK.aA.aH,v.2.2.2.2.2.2.2.2.2.2.2.2.2.1,v.2.2.2.2.2.2.2.2.2.2.2.2.2.2.1,v.2.2.2.2.2.2.2.2.2.2.2.2.2.2.2.1,v.2.2.2.2.2.2.2.2.2.2.2.2.2.2.2.2.1,v.2.2.2.2.2.2.2.2.2.2.2.2.2.2.2.2.2.1,v.2.2.2.2.2.2.2.2.2.2.2.2.2.2.2.2.2.2.1,.int .i64 y.2.aQ.aA.aH,v.2.2.2.2.2.2.2.2.2.2.2.2.2.2.2.2.2.2.2.1,v.2.2.2.2.2.2.2.2.2.2.2.2.2.2.2.2.2.2.2.2.1,v.2.2.2.2.2.2.2.2.2.2.2.2.2.2.2.2.2.2.2.2.2.1,v.2.2.2.2.2.2.2.2.2.2.2.2.2.2.2.2.2.2.2.2.2.2.1,v.2.2.2.2.2.2.2.2.2.2.2.2.2.2.2.2.2.2.2.2.2.2.2.1,v.2.2.2.2.2.2.2.2.2.2.2.2.2.2.2.2.2.2.2.2.2.2.2.2.1,v.2.2.2.2.2.2.2.2.2.2.2.2.2.2.2.2.2.2.2.2.2.2.2.2.2]]) (fun y v=>[.rd false (aB (aC .i64)) v.1 y.1.aK.aA.aG,.rd false (aB (aC .i64)) v.2.1 y.1.aK.aA.To,.rd false (aB (aC .i64)) v.2.2.1 y.1.aK.aA.aO,.rd false (aB (aB (aC .i64))) v.2.2.2.1 y.1.aK.aA.aE,.rd false (aB (aC .i64)) v.2.2.2.2.1 y.1.aK.aM,.rd false (aB (aB (aC .i64))) v.2.2.2.2.2.1 y.1.aK.aN,.rd false (aB (aC .i64)) v.2.2.2.2.2.2.1 y.1.aQ.aA.aG,.rd false (aB (aC .i64)) v.2.2.2.2.2.2.2.1 y.1.aQ.aA.To,.rd false (aB (aC .i64)) v.2.2.2.2.2.2.2.2.1 y.1.aQ.aA.aO,.rd false (aB (aB (aC .i64))) v.2.2.2.2.2.2.2.2.2.1 y.1.aQ.aA.aE,.rd false (aB (aC .i64)) v.2.2.2.2.2.2.2.2.2.2.1 y.1.aQ.aM,.rd false (aB (aB (aC .i64))) v.2.2.2.2.2.2.2.2.2.2.2.1 y.1.aQ.aN,.rd false (aB (aB (aC .i64))) v.2.2.2.2.2.2.2.2.2.2.2.2.1 y.1.bN,.rd false (aB (aC .i64)) v.2.2.2.2.2.2.2.2.2.2.2.2.2.1 y.2.aK.aA.aG,.rd false (aB (aC .i64)) v.2.2.2.2.2.2.2.2.2.2.2.2.2.2.1 y.2.aK.aA.To,.rd false (aB (aC .i64)) v.2.2.2.2.2.2.2.2.2.2.2.2.2.2.2.1 y.2.aK.aA.aO,.rd false (aB (aB (aC .i64))) v.2.2.2.2.2.2.2.2.2.2.2.2.2.2.2.2.1 y.2.aK.aA.aE,.rd false (aB (aC .i64)) v.2.2.2.2.2.2.2.2.2.2.2.2.2.2.2.2.2.1 y.2.aK.aM,.rd false (aB (aB (aC .i64))) v.2.2.2.2.2.2.2.2.2.2.2.2.2.2.2.2.2.2.1 y.2.aK.aN,.rd false (aB (aC .i64)) v.2.2.2.2.2.2.2.2.2.2.2.2.2.2.2.2.2.2.2.1 y.2.aQ.aA.aG,.rd false (aB (aC .i64)) v.2.2.2.2.2.2.2.2.2.2.2.2.2.2.2.2.2.2.2.2.1 y.2.aQ.aA.To,.rd false (aB (aC .i64)) v.2.2.2.2.2.2.2.2.2.2.2.2.2.2.2.2.2.2.2.2.2.1 y.2.aQ.aA.aO,.rd false (aB (aB (aC .i64))) v.2.2.2.2.2.2.2.2.2.2.2.2.2.2.2.2.2.2.2.2.2.2.1 y.2.aQ.aA.aE,.rd false (aB (aC .i64)) v.2.2.2.2.2.2.2.2.2.2.2.2.2.2.2.2.2.2.2.2.2.2.2.1 y.2.aQ.aM,.rd false (aB (aB (aC .i64))) v.2.2.2.2.2.2.2.2.2.2.2.2.2.2.2.2.2.2.2.2.2.2.2.2.1 y.2.aQ.aN,.rd false (aB (aB (aC .i64))) v.2.2.2.2.2.2.2.2.2.2.2.2.2.2.2.2.2.2.2.2.2.2.2.2.2 y.2.bN]):=by
 refine ct (S:=Unit) owf Tryz.func5 rfl rfl ?_
 repeat' first
  | intro _
  | exact rfl
  | (refine @id.{0} _ ?_; constructor)
  | apply Dk.anyS (id:=2) [0,1] [2,3] (by kernel_rfl)
  | apply c13
  | apply c12
  | exact ()
theorem c6 {x0:aZ} {bI:Value} {bP:Value} {bG:Value} {bC:Value} {bZ:Value} {bT:Value} {bJ:Value} {bQ:Value} {bH:Value} {bD:Value} {cA:Value} {bU:Value} {dA:Value} {x1:aZ} {cV:Value} {dB:Value} {cO:Value} {cJ:Value} {dK:Value} {dE:Value} {cW:Value} {dC:Value} {cP:Value} {cK:Value} {dL:Value} {dF:Value} {eD:Value}:Ct Tryz.prog 6 true (iM x0 x1) [.agg #[.int .i64 (x0.aK.aA.aH),bI,bP,bG,bC,bZ,bT,.int .i64 (x0.aQ.aA.aH),bJ,bQ,bH,bD,cA,bU,dA],.agg #[.int .i64 (x1.aK.aA.aH),cV,dB,cO,cJ,dK,dE,.int .i64 (x1.aQ.aA.aH),cW,dC,cP,cK,dL,dF,eD]] [.rd false (aB (aC .i64)) bI x0.aK.aA.aG,.rd false (aB (aC .i64)) bP x0.aK.aA.To,.rd false (aB (aC .i64)) bG x0.aK.aA.aO,.rd false (aB (aB (aC .i64))) bC x0.aK.aA.aE,.rd false (aB (aC .i64)) bZ x0.aK.aM,.rd false (aB (aB (aC .i64))) bT x0.aK.aN,.rd false (aB (aC .i64)) bJ x0.aQ.aA.aG,.rd false (aB (aC .i64)) bQ x0.aQ.aA.To,.rd false (aB (aC .i64)) bH x0.aQ.aA.aO,.rd false (aB (aB (aC .i64))) bD x0.aQ.aA.aE,.rd false (aB (aC .i64)) cA x0.aQ.aM,.rd false (aB (aB (aC .i64))) bU x0.aQ.aN,.rd false (aB (aB (aC .i64))) dA x0.bN,.rd false (aB (aC .i64)) cV x1.aK.aA.aG,.rd false (aB (aC .i64)) dB x1.aK.aA.To,.rd false (aB (aC .i64)) cO x1.aK.aA.aO,.rd false (aB (aB (aC .i64))) cJ x1.aK.aA.aE,.rd false (aB (aC .i64)) dK x1.aK.aM,.rd false (aB (aB (aC .i64))) dE x1.aK.aN,.rd false (aB (aC .i64)) cW x1.aQ.aA.aG,.rd false (aB (aC .i64)) dC x1.aQ.aA.To,.rd false (aB (aC .i64)) cP x1.aQ.aA.aO,.rd false (aB (aB (aC .i64))) cK x1.aQ.aA.aE,.rd false (aB (aC .i64)) dL x1.aQ.aM,.rd false (aB (aB (aC .i64))) dF x1.aQ.aN,.rd false (aB (aB (aC .i64))) eD x1.bN] (fun y (v:Value×Value×Value×Value×Value×Value×Value×Value×Value×Value×Value×Value×Value)=>[.agg #[.int .i64 y.1.aK.aA.aH,v.1,v.2.1,v.2.2.1,v.2.2.2.1,v.2.2.2.2.1,v.2.2.2.2.2.1,.int .i64 y.1.aQ.aA.aH,v.2.2.2.2.2.2.1,v.2.2.2.2.2.2.2.1,v.2.2.2.2.2.2.2.2.1,v.2.2.2.2.2.2.2.2.2.1,v.2.2.2.2.2.2.2.2.2.2.1,v.2.2.2.2.2.2.2.2.2.2.2.1,v.2.2.2.2.2.2.2.2.2.2.2.2],.int .i64 y.2]) (fun y v=>[.own (aJ 2 (aC .i64)) v.1 y.1.aK.aA.aG,.own (aJ 2 (aC .i64)) v.2.1 y.1.aK.aA.To,.own (aJ 2 (aC .i64)) v.2.2.1 y.1.aK.aA.aO,.own (aJ 24 (aJ 2 (aC .i64))) v.2.2.2.1 y.1.aK.aA.aE,.own (aJ 2 (aC .i64)) v.2.2.2.2.1 y.1.aK.aM,.own (aJ 24 (aJ 2 (aC .i64))) v.2.2.2.2.2.1 y.1.aK.aN,.own (aJ 2 (aC .i64)) v.2.2.2.2.2.2.1 y.1.aQ.aA.aG,.own (aJ 2 (aC .i64)) v.2.2.2.2.2.2.2.1 y.1.aQ.aA.To,.own (aJ 2 (aC .i64)) v.2.2.2.2.2.2.2.2.1 y.1.aQ.aA.aO,.own (aJ 24 (aJ 2 (aC .i64))) v.2.2.2.2.2.2.2.2.2.1 y.1.aQ.aA.aE,.own (aJ 2 (aC .i64)) v.2.2.2.2.2.2.2.2.2.2.1 y.1.aQ.aM,.own (aJ 24 (aJ 2 (aC .i64))) v.2.2.2.2.2.2.2.2.2.2.2.1 y.1.aQ.aN,.own (aJ 24 (aJ 2 (aC .i64))) v.2.2.2.2.2.2.2.2.2.2.2.2 y.1.bN]):=by
 refine ct (S:=Unit) (owt fun _ _=>rfl) Tryz.func6 rfl rfl ?_
 repeat' first
  | intro _
  | exact rfl
  | apply Dk.AD.apR (d:=51)
  | (refine @id.{0} _ ?_; constructor)
  | apply Dk.loop 0 (V:=Value) (fun (s:(List (List Int))×Int) v=>[.own (aJ 24 (aJ 2 (aC .i64))) v s.1]) (fun s v=>[(9,v),(36,.int .i64 (s.2))]) _ [(2,_),(3,_),(4,_),(6,_),(35,_)]
  | apply Dk.any (id:=12) 14 [] [[],[],[],[],[],[],[],[],[],[],[],[],[6],[]] [[],[],[1],[],[2,1,3],[4,2,1,3],[5,4,2,1,3],[],[7],[],[8,7,9],[10,8,7,9],[6,5,4,2,1,3,11,10,8,7,9,6,5,4,2,1,3],[12,5,4,2,1,3,11,10,8,7,9,5,4,2,1,3]] (by kernel_rfl)
  | apply c14
  | apply c15
  | apply c16
  | apply c17
  | apply c18
  | apply c19
  | exact ()
theorem c10 {x0:aZ} {bI:Value} {bP:Value} {bG:Value} {bC:Value} {bZ:Value} {bT:Value} {bJ:Value} {bQ:Value} {bH:Value} {bD:Value} {cA:Value} {bU:Value} {dA:Value} {x1:aZ} {cV:Value} {dB:Value} {cO:Value} {cJ:Value} {dK:Value} {dE:Value} {cW:Value} {dC:Value} {cP:Value} {cK:Value} {dL:Value} {dF:Value} {eD:Value}:Ct Tryz.prog 10 true (eO x0 x1) [.agg #[.int .i64 (x0.aK.aA.aH),bI,bP,bG,bC,bZ,bT,.int .i64 (x0.aQ.aA.aH),bJ,bQ,bH,bD,cA,bU,dA],.agg #[.int .i64 (x1.aK.aA.aH),cV,dB,cO,cJ,dK,dE,.int .i64 (x1.aQ.aA.aH),cW,dC,cP,cK,dL,dF,eD]] [.rd false (aB (aC .i64)) bI x0.aK.aA.aG,.rd false (aB (aC .i64)) bP x0.aK.aA.To,.rd false (aB (aC .i64)) bG x0.aK.aA.aO,.rd false (aB (aB (aC .i64))) bC x0.aK.aA.aE,.rd false (aB (aC .i64)) bZ x0.aK.aM,.rd false (aB (aB (aC .i64))) bT x0.aK.aN,.rd false (aB (aC .i64)) bJ x0.aQ.aA.aG,.rd false (aB (aC .i64)) bQ x0.aQ.aA.To,.rd false (aB (aC .i64)) bH x0.aQ.aA.aO,.rd false (aB (aB (aC .i64))) bD x0.aQ.aA.aE,.rd false (aB (aC .i64)) cA x0.aQ.aM,.rd false (aB (aB (aC .i64))) bU x0.aQ.aN,.rd false (aB (aB (aC .i64))) dA x0.bN,.rd false (aB (aC .i64)) cV x1.aK.aA.aG,.rd false (aB (aC .i64)) dB x1.aK.aA.To,.rd false (aB (aC .i64)) cO x1.aK.aA.aO,.rd false (aB (aB (aC .i64))) cJ x1.aK.aA.aE,.rd false (aB (aC .i64)) dK x1.aK.aM,.rd false (aB (aB (aC .i64))) dE x1.aK.aN,.rd false (aB (aC .i64)) cW x1.aQ.aA.aG,.rd false (aB (aC .i64)) dC x1.aQ.aA.To,.rd false (aB (aC .i64)) cP x1.aQ.aA.aO,.rd false (aB (aB (aC .i64))) cK x1.aQ.aA.aE,.rd false (aB (aC .i64)) dL x1.aQ.aM,.rd false (aB (aB (aC .i64))) dF x1.aQ.aN,.rd false (aB (aB (aC .i64))) eD x1.bN] (fun y (v:Value×Value×Value×Value×Value×Value×Value×Value×Value×Value×Value×Value×Value)=>[.agg #[.int .i64 y.1.aK.aA.aH,v.1,v.2.1,v.2.2.1,v.2.2.2.1,v.2.2.2.2.1,v.2.2.2.2.2.1,.int .i64 y.1.aQ.aA.aH,v.2.2.2.2.2.2.1,v.2.2.2.2.2.2.2.1,v.2.2.2.2.2.2.2.2.1,v.2.2.2.2.2.2.2.2.2.1,v.2.2.2.2.2.2.2.2.2.2.1,v.2.2.2.2.2.2.2.2.2.2.2.1,v.2.2.2.2.2.2.2.2.2.2.2.2],.int .i64 y.2]) (fun y v=>[.own (aJ 2 (aC .i64)) v.1 y.1.aK.aA.aG,.own (aJ 2 (aC .i64)) v.2.1 y.1.aK.aA.To,.own (aJ 2 (aC .i64)) v.2.2.1 y.1.aK.aA.aO,.own (aJ 24 (aJ 2 (aC .i64))) v.2.2.2.1 y.1.aK.aA.aE,.own (aJ 2 (aC .i64)) v.2.2.2.2.1 y.1.aK.aM,.own (aJ 24 (aJ 2 (aC .i64))) v.2.2.2.2.2.1 y.1.aK.aN,.own (aJ 2 (aC .i64)) v.2.2.2.2.2.2.1 y.1.aQ.aA.aG,.own (aJ 2 (aC .i64)) v.2.2.2.2.2.2.2.1 y.1.aQ.aA.To,.own (aJ 2 (aC .i64)) v.2.2.2.2.2.2.2.2.1 y.1.aQ.aA.aO,.own (aJ 24 (aJ 2 (aC .i64))) v.2.2.2.2.2.2.2.2.2.1 y.1.aQ.aA.aE,.own (aJ 2 (aC .i64)) v.2.2.2.2.2.2.2.2.2.2.1 y.1.aQ.aM,.own (aJ 24 (aJ 2 (aC .i64))) v.2.2.2.2.2.2.2.2.2.2.2.1 y.1.aQ.aN,.own (aJ 24 (aJ 2 (aC .i64))) v.2.2.2.2.2.2.2.2.2.2.2.2 y.1.bN]):=by
 refine ct (S:=Unit) (owt fun _ _=>rfl) Tryz.func10 rfl rfl ?_
 repeat' first
  | intro _
  | exact rfl
  | (refine @id.{0} _ ?_; constructor)
  | apply c14
  | apply c15
  | apply c28
  | apply c19
  | exact ()
theorem c3 {x0:(List Int)} {cE:Value}:Ct Tryz.prog 3 true (lK x0) [cE] [.rd false (aB (aC .u8)) cE x0] (fun y (_:Unit)=>[.bool y]) (fun y _=>[]):=by
 refine ct (S:=Unit) (owt fun _ _=>rfl) Tryz.func3 rfl rfl ?_
 repeat' first
  | intro _
  | exact rfl
  | (refine @id.{0} _ ?_; constructor)
  | apply c4
  | apply c5
  | apply c6
  | apply c7
  | apply c8
  | apply c9
  | apply c10
  | apply c11
  | exact ()
theorem pR {w:World} {x0:(List Int)} {cE:Value} {f_x0:List Nat} (h_x0:(aB (aC .u8)).rep w.heap [cE] x0 f_x0) {y:(Bool)} (hm:lK x0=some y):Calls Tryz.prog 3 #[cE] w (fun e w'=>e = .returned (.bool y)∧Chg [] w w'):=
 ct_read c3 (.fact (fact_rd h_x0) (.nil)) hm
end Go.Proofs.YtacpfhajafmigaaGreat
