/- Walks by the calculus D. No condition beside those that each theorem names. -/
import Derived.Test.YtacpfhajafmigaaGreatDi
import Derived.Test.YtacpfhajafmigaaGreatMo
import Derived.Test.YtacpfhajafmigaaGreatDg
import Derived.Test.YtacpfhajafmigaaGreatDs
namespace Go.Proofs.YtacpfhajafmigaaGreat
open Go Go.Li Go.Dk
set_option linter.unusedVariables false
set_option maxHeartbeats 16000000
set_option maxRecDepth 100000
theorem c89 {x0:aI} {bR:Value} {cF:Value} {bB:Value} {aW:Value} {x1:Int} {x2:Int}:Ct Tryz.prog 89 true (mZ x0 x1 x2) [.agg #[.int .i64 (x0.aH),bR,cF,bB,aW],.int .i64 (x1),.int .i64 (x2)] [.rd false (aB (aC .i64)) bR x0.aG,.rd false (aB (aC .i64)) cF x0.To,.rd false (aB (aC .i64)) bB x0.aO,.rd false (aB (aB (aC .i64))) aW x0.aE] (fun y (_:Unit)=>[.int .i64 y]) (fun y _=>[]):=by
 refine ct (S:=Unit) (owt fun _ _=>rfl) Tryz.func89 rfl rfl ?_
 repeat' first
  | intro _
  | exact rfl
  | (refine @id.{0} _ ?_; constructor)
  | exact ()
theorem c103 {x0:(List Int)} {cE:Value} {x1:Int}:Ct Tryz.prog 103 true (jP x0 x1) [cE,.int .i64 (x1)] [.rd false (aB (aC .i64)) cE x0] (fun y (_:Unit)=>[.int .i64 y]) (fun y _=>[]):=by
 refine ct (S:=Unit) (owt fun _ _=>rfl) Tryz.func103 rfl rfl ?_
 repeat' first
  | intro _
  | exact rfl
  | (refine @id.{0} _ ?_; constructor)
  | apply Dk.loop 0 (V:=Unit) (fun (s:Int) v=>[]) (fun s v=>[(5,.int .i64 (s))]) () [(0,_),(1,_)]
  | exact ()
theorem c102 {x0:(List Int)} {cE:Value}:Ct Tryz.prog 102 true (kG x0) [cE] [.rd false (aB (aC .i64)) cE x0] (fun y (v:Value)=>[v]) (fun y v=>[.own (aJ 2 (aC .i64)) v y]):=by
 refine ct (S:=Unit) (owt fun _ _=>rfl) Tryz.func102 rfl rfl ?_
 repeat' first
  | intro _
  | exact rfl
  | (refine @id.{0} _ ?_; constructor)
  | apply Dk.loop 0 (V:=Value×Value) (fun (s:(List Int)×(List Int)×Int) v=>[.own (aJ 2 (aC .i64)) v.1 s.1,.own (aJ 2 (aC .i64)) v.2 s.2.1]) (fun s v=>[(3,v.1),(4,v.2),(5,.int .i64 (s.2.2))]) (_,_) [(0,_)]
  | apply c103
  | exact ()
theorem c91 {x0:(List Int)} {cE:Value}:Ct Tryz.prog 91 true (jQ x0) [cE] [.rd false (aB (aC .i64)) cE x0] (fun y (v:Value)=>[v]) (fun y v=>[.own (aJ 24 (aJ 2 (aC .i64))) v y]):=by
 refine ct (S:=Unit) (owt fun _ _=>rfl) Tryz.func91 rfl rfl ?_
 repeat' first
  | intro _
  | exact rfl
  | apply Dk.litO (d:=20)
  | (refine @id.{0} _ ?_; constructor)
  | apply Dk.loop 0 (V:=Value) (fun (s:(List (List Int))×Int) v=>[.own (aJ 24 (aJ 2 (aC .i64))) v s.1]) (fun s v=>[(3,v),(4,.int .i64 (s.2))]) _ [(0,_)]
  | apply c103
  | exact ()
theorem c71 {x0:aF} {aS:Value} {aU:Value} {aR:Value} {aP:Value} {aY:Value} {aV:Value}:Ct Tryz.prog 71 true (oA x0) [.agg #[.int .i64 (x0.aA.aH),aS,aU,aR,aP,aY,aV]] [.rd false (aB (aC .i64)) aS x0.aA.aG,.rd false (aB (aC .i64)) aU x0.aA.To,.rd false (aB (aC .i64)) aR x0.aA.aO,.rd false (aB (aB (aC .i64))) aP x0.aA.aE,.rd false (aB (aC .i64)) aY x0.aM,.rd false (aB (aB (aC .i64))) aV x0.aN] (fun y (v:Value)=>[v]) (fun y v=>[.own (aJ 24 (aJ 2 (aC .i64))) v y]):=by
 refine ct (S:=Unit) (owt fun _ _=>rfl) Tryz.func71 rfl rfl ?_
 repeat' first
  | intro _
  | exact rfl
  | (refine @id.{0} _ ?_; constructor)
  | apply Dk.loop 0 (V:=Value) (fun (s:(List (List Int))×Int) v=>[.own (aJ 24 (aJ 2 (aC .i64))) v s.1]) (fun s v=>[(3,v),(4,.int .i64 (s.2))]) _ [(1,_)]
  | apply Dk.loop 2 (V:=Value) (fun (s:(List Int)×Int) v=>[.own (aJ 2 (aC .i64)) v s.1]) (fun s v=>[(5,v),(6,.int .i64 (s.2))]) _ [(1,_),(3,_),(4,_)]
  | exact ()
theorem c55 {x0:aF} {cZ:Addr} {aS:Value} {aU:Value} {aR:Value} {aP:Value} {aY:Value} {aV:Value}:Ct Tryz.prog 55 true (fW x0) [.pointer (some (cZ))] [.ats cZ [.int .i64 (x0.aA.aH),aS,aU,aR,aP,aY,aV],.rd false (aB (aC .i64)) aS x0.aA.aG,.rd false (aB (aC .i64)) aU x0.aA.To,.rd false (aB (aC .i64)) aR x0.aA.aO,.rd false (aB (aB (aC .i64))) aP x0.aA.aE,.rd false (aB (aC .i64)) aY x0.aM,.rd false (aB (aB (aC .i64))) aV x0.aN] (fun y (_:Unit)=>[.int .i64 y.1,.int .i64 y.2.1,.int .i64 y.2.2.1,.int .i64 y.2.2.2]) (fun y _=>[]):=by
 refine ct (S:=Unit) (owt fun _ _=>rfl) Tryz.func55 rfl rfl ?_
 repeat' first
  | intro _
  | exact rfl
  | (refine @id.{0} _ ?_; constructor)
  | apply Dk.loop 0 (V:=Unit) (fun (s:Int) v=>[]) (fun s v=>[(25,.int .i64 (s))]) () [(0,_),(6,_),(23,_),(24,_)]
  | apply Dk.loop 2 (V:=Unit) (fun (s:Int) v=>[]) (fun s v=>[(38,.int .i64 (s))]) () [(0,_),(6,_),(7,_),(23,_),(24,_),(25,_),(36,_),(37,_)]
  | apply Dk.loop 4 (V:=Unit) (fun (s:Int) v=>[]) (fun s v=>[(55,.int .i64 (s))]) () [(0,_),(53,_),(54,_)]
  | apply Dk.loop 6 (V:=Unit) (fun (s:Int) v=>[]) (fun s v=>[(62,.int .i64 (s))]) () [(0,_),(11,_),(53,_),(54,_),(55,_),(60,_),(61,_)]
  | apply Dk.loop 8 (V:=Unit) (fun (s:Int) v=>[]) (fun s v=>[(77,.int .i64 (s))]) () [(0,_),(11,_),(13,_),(14,_),(53,_),(54,_),(55,_),(60,_),(61,_),(62,_),(75,_),(76,_)]
  | apply Dk.quiet (id:=22) (by kernel_rfl)
  | exact ()
theorem c73 {x0:aZ} {cZ:Addr} {bI:Value} {bP:Value} {bG:Value} {bC:Value} {bZ:Value} {bT:Value} {bJ:Value} {bQ:Value} {bH:Value} {bD:Value} {cA:Value} {bU:Value} {dA:Value}:Ct Tryz.prog 73 true (fX x0) [.pointer (some (cZ))] [.ats cZ [.int .i64 (x0.aK.aA.aH),bI,bP,bG,bC,bZ,bT,.int .i64 (x0.aQ.aA.aH),bJ,bQ,bH,bD,cA,bU,dA],.rd false (aB (aC .i64)) bI x0.aK.aA.aG,.rd false (aB (aC .i64)) bP x0.aK.aA.To,.rd false (aB (aC .i64)) bG x0.aK.aA.aO,.rd false (aB (aB (aC .i64))) bC x0.aK.aA.aE,.rd false (aB (aC .i64)) bZ x0.aK.aM,.rd false (aB (aB (aC .i64))) bT x0.aK.aN,.rd false (aB (aC .i64)) bJ x0.aQ.aA.aG,.rd false (aB (aC .i64)) bQ x0.aQ.aA.To,.rd false (aB (aC .i64)) bH x0.aQ.aA.aO,.rd false (aB (aB (aC .i64))) bD x0.aQ.aA.aE,.rd false (aB (aC .i64)) cA x0.aQ.aM,.rd false (aB (aB (aC .i64))) bU x0.aQ.aN,.rd false (aB (aB (aC .i64))) dA x0.bN] (fun y (_:Unit)=>[.int .i64 y.1,.int .i64 y.2]) (fun y _=>[]):=by
 refine ct (S:=Unit) (owt fun _ _=>rfl) Tryz.func73 rfl rfl ?_
 repeat' first
  | intro _
  | exact rfl
  | (refine @id.{0} _ ?_; constructor)
  | apply Dk.loop 0 (V:=Unit) (fun (s:Int) v=>[]) (fun s v=>[(17,.int .i64 (s))]) () [(0,_),(4,_),(16,_)]
  | apply Dk.loop 2 (V:=Unit) (fun (s:Int) v=>[]) (fun s v=>[(29,.int .i64 (s))]) () [(0,_),(4,_),(5,_),(16,_),(17,_),(27,_),(28,_)]
  | apply Dk.quiet (id:=8) (by kernel_rfl)
  | exact ()
theorem c42 {x0:(List Int)} {cE:Value} {x1:Int}:Ct Tryz.prog 42 true (kZ x0 x1) [cE,.int .i64 (x1)] [.rd false (aB (aC .i64)) cE x0] (fun y (v:Value)=>[v]) (fun y v=>[.own (aJ 2 (aC .i64)) v y]):=by
 refine ct (S:=Unit) (owt fun _ _=>rfl) Tryz.func42 rfl rfl ?_
 repeat' first
  | intro _
  | exact rfl
  | (refine @id.{0} _ ?_; constructor)
  | apply Dk.loop 0 (V:=Value) (fun (s:(List Int)×Int) v=>[.own (aJ 2 (aC .i64)) v s.1]) (fun s v=>[(5,v),(11,.int .i64 (s.2))]) _ [(1,_),(9,_),(10,_)]
  | exact ()
theorem c53 {x0:(List Int)} {cE:Value} {x1:(List Int)} {dG:Value}:Ct Tryz.prog 53 true (pQ x0 x1) [cE,dG] [.rd false (aB (aC .i64)) cE x0,.rd false (aB (aC .i64)) dG x1] (fun y (v:Value)=>[v]) (fun y v=>[.own (aJ 2 (aC .i64)) v y]):=by
 refine ct (S:=Unit) (owt fun _ _=>rfl) Tryz.func53 rfl rfl ?_
 repeat' first
  | intro _
  | exact rfl
  | (refine @id.{0} _ ?_; constructor)
  | apply Dk.loopA 0 (V:=Unit) (A:=Value) _ (fun a (s:Int×(List Int)) v=>[.own (aJ 2 (aC .i64)) a s.2]) (fun a s v=>[(5,a),(13,.int .i64 (s.1))]) () [(1,_),(11,_),(12,_)]
  | exact ()
theorem c28 {x0:(List (List Int))} {cE:Value} {x1:(List (List Int))} {dG:Value}:Ct Tryz.prog 28 true (lJ x0 x1) [cE,dG] [.rd false (aB (aB (aC .i64))) cE x0,.rd false (aB (aB (aC .i64))) dG x1] (fun y (v:Value)=>[v]) (fun y v=>[.own (aJ 24 (aJ 2 (aC .i64))) v y]):=by
 refine ct (S:=Unit) (owt fun _ _=>rfl) Tryz.func28 rfl rfl ?_
 repeat' first
  | intro _
  | exact rfl
  | (refine @id.{0} _ ?_; constructor)
  | apply Dk.loop 0 (V:=Value) (fun (s:(List (List Int))×Int) v=>[.own (aJ 24 (aJ 2 (aC .i64))) v s.1]) (fun s v=>[(5,v),(10,.int .i64 (s.2))]) _ [(0,_),(1,_),(9,_)]
  | apply Dk.any (id:=5) 11 [] [] [[],[],[],[1,2],[3,1,2],[],[],[5,6],[7,5,6],[4,3,1,2,8,7,5,6],[9,4,3,1,2,8,7,5,6]] (by kernel_rfl)
  | apply c53
  | exact ()
theorem c58 {x0:aF} {cZ:Addr} {aS:Value} {aU:Value} {aR:Value} {aP:Value} {aY:Value} {aV:Value}:Ct Tryz.prog 58 true (fD x0) [.pointer (some (cZ))] [.ats cZ [.int .i64 (x0.aA.aH),aS,aU,aR,aP,aY,aV],.rd false (aB (aC .i64)) aS x0.aA.aG,.rd false (aB (aC .i64)) aU x0.aA.To,.rd false (aB (aC .i64)) aR x0.aA.aO,.rd false (aB (aB (aC .i64))) aP x0.aA.aE,.rd false (aB (aC .i64)) aY x0.aM,.rd false (aB (aB (aC .i64))) aV x0.aN] (fun y (_:Unit)=>[.int .i64 y]) (fun y _=>[]):=by
 refine ct (S:=Unit) (owt fun _ _=>rfl) Tryz.func58 rfl rfl ?_
 repeat' first
  | intro _
  | exact rfl
  | (refine @id.{0} _ ?_; constructor)
  | apply Dk.loop 0 (V:=Unit) (fun (s:Int×Int) v=>[]) (fun s v=>[(3,.int .i64 (s.1)),(11,.int .i64 (s.2))]) () [(9,_),(10,_)]
  | exact ()
theorem c82 {x0:(List Int)} {cE:Value} {x1:Int}:Ct Tryz.prog 82 true (fM x0 x1) [cE,.int .i64 (x1)] [.own (aJ 2 (aC .i64)) cE x0] (fun y (_:Unit)=>[.int .i64 y.1]) (fun y _=>[.own (aJ 2 (aC .i64)) cE y.2]):=by
 refine ct (S:=Unit) (owt fun _ _=>rfl) Tryz.func82 rfl rfl ?_
 repeat' first
  | intro _
  | exact rfl
  | (refine @id.{0} _ ?_; constructor)
  | apply Dk.loop 0 (V:=Unit) (fun (s:Int×(List Int)) v=>[.own (aJ 2 (aC .i64)) cE s.2]) (fun s v=>[(1,.int .i64 (s.1))]) () [(0,_)]
  | exact ()
theorem c59 {x0:(List Int)} {cE:Value} {x1:Int} {x2:Int}:Ct Tryz.prog 59 true (jO x0 x1 x2) [cE,.int .i64 (x1),.int .i64 (x2)] [.own (aJ 2 (aC .i64)) cE x0] (fun y (_:Unit)=>[.bool y.1]) (fun y _=>[.own (aJ 2 (aC .i64)) cE y.2]):=by
 refine ct (S:=Unit) (owt fun _ _=>rfl) Tryz.func59 rfl rfl ?_
 repeat' first
  | intro _
  | exact rfl
  | (refine @id.{0} _ ?_; constructor)
  | apply c82
  | exact ()
theorem c83 {x0:(List Int)} {cE:Value}:Ct Tryz.prog 83 true (pE x0) [cE] [.rd false (aB (aC .i64)) cE x0] (fun y (v:Value)=>[v]) (fun y v=>[.own (aJ 2 (aC .i64)) v y]):=by
 refine ct (S:=Unit) (owt fun _ _=>rfl) Tryz.func83 rfl rfl ?_
 repeat' first
  | intro _
  | exact rfl
  | (refine @id.{0} _ ?_; constructor)
  | apply Dk.loopA 0 (V:=Unit) (A:=Value×Value) (_,_) (fun a (s:Int×(List (Int×Int))×(List Int)) v=>Dk.pc (fun a0 a1=>[.own (sMp (Value.int .i64) (Value.int .i64)) a0 s.2.1,.own (aJ 2 (aC .i64)) a1 s.2.2]) a) (fun a s v=>Dk.pc (fun a0 a1=>[(3,a0),(4,a1),(15,.int .i64 (s.1))]) a) () [(13,_),(14,_)]
  | exact ()
theorem c60 {x0:(List Int)} {cE:Value}:Ct Tryz.prog 60 true (fZ x0) [cE] [.own (aJ 2 (aC .i64)) cE x0] (fun y (v:Value)=>[v]) (fun y v=>[.own (aJ 2 (aC .i64)) v y.1,.own (aJ 2 (aC .i64)) cE y.2]):=by
 refine ct (S:=Unit) (owt fun _ _=>rfl) Tryz.func60 rfl rfl ?_
 repeat' first
  | intro _
  | exact rfl
  | (refine @id.{0} _ ?_; constructor)
  | apply Dk.loopA 0 (V:=Unit) (A:=Value) _ (fun a (s:Int×(List Int)×(List Int)) v=>[.own (aJ 2 (aC .i64)) cE s.2.1,.own (aJ 2 (aC .i64)) a s.2.2]) (fun a s v=>[(3,a),(10,.int .i64 (s.1))]) () [(0,_),(9,_)]
  | apply c82
  | apply c83
  | exact ()
end Go.Proofs.YtacpfhajafmigaaGreat
