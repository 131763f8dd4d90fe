/- Walks by the calculus D. No condition beside those that each theorem names. -/
import Derived.Test.YtacpfhajafmigaaGreatDi
import Derived.Test.YtacpfhajafmigaaGreatMo
import Derived.Test.YtacpfhajafmigaaGreatDg
import Derived.Test.YtacpfhajafmigaaGreatDs
import Derived.Test.YtacpfhajafmigaaGreatWa
import Derived.Test.YtacpfhajafmigaaGreatWb
import Derived.Test.YtacpfhajafmigaaGreatWc
import Derived.Test.YtacpfhajafmigaaGreatWd
namespace Go.Proofs.YtacpfhajafmigaaGreat
open Go Go.Li Go.Dk
set_option linter.unusedVariables false
set_option maxHeartbeats 16000000
set_option maxRecDepth 100000
theorem c109 {x0:aI} {bR:Value} {cF:Value} {bB:Value} {aW:Value}:Ct Tryz.prog 109 true (mX x0) [.agg #[.int .i64 (x0.aH),bR,cF,bB,aW]] [.rd false (aB (aC .i64)) bR x0.aG,.rd false (aB (aC .i64)) cF x0.To,.rd false (aB (aC .i64)) bB x0.aO,.rd false (aB (aB (aC .i64))) aW x0.aE] (fun y (_:Unit)=>[.bool y]) (fun y _=>[]):=by
 refine ct (S:=Unit) (owt fun _ _=>rfl) Tryz.func109 rfl rfl ?_
 repeat' first
  | intro _
  | exact rfl
  | (refine Dk.cdR (t:=102) rfl ?_ ?_)
  | (refine @id.{0} _ ?_; constructor)
  | apply Dk.loop 0 (V:=Unit) (fun (s:Int) v=>[]) (fun s v=>[(4,.int .i64 (s))]) () [(1,_),(3,_)]
  | apply Dk.loop 2 (V:=Unit) (fun (s:Int) v=>[]) (fun s v=>[(5,.int .i64 (s))]) () [(1,_),(3,_)]
  | apply Dk.loop 4 (V:=Unit) (fun (s:Int) v=>[]) (fun s v=>[(6,.int .i64 (s))]) () [(1,_),(3,_),(5,_)]
  | apply Dk.quiet (id:=9) (by kernel_rfl)
  | apply Dk.quiet (id:=20) (by kernel_rfl)
  | apply Dk.quiet (id:=23) (by kernel_rfl)
  | apply c112
  | apply c118
  | apply c87
  | exact ()
theorem c98 {x0:aI} {bR:Value} {cF:Value} {bB:Value} {aW:Value}:Ct Tryz.prog 98 true (mY x0) [.agg #[.int .i64 (x0.aH),bR,cF,bB,aW]] [.rd false (aB (aC .i64)) bR x0.aG,.rd false (aB (aC .i64)) cF x0.To,.rd false (aB (aC .i64)) bB x0.aO,.rd false (aB (aB (aC .i64))) aW x0.aE] (fun y (_:Unit)=>[.bool y]) (fun y _=>[]):=by
 refine ct (S:=Unit) (owt fun _ _=>rfl) Tryz.func98 rfl rfl ?_
 repeat' first
  | intro _
  | exact rfl
  | (refine @id.{0} _ ?_; constructor)
  | apply c109
  | apply c110
  | exact ()
theorem c76 {x0:aI} {bR:Value} {cF:Value} {bB:Value} {aW:Value} {x1:aI} {dM:Value} {dS:Value} {cR:Value} {cL:Value}:Ct Tryz.prog 76 true (kV x0 x1) [.agg #[.int .i64 (x0.aH),bR,cF,bB,aW],.agg #[.int .i64 (x1.aH),dM,dS,cR,cL]] [.rd false (aB (aC .i64)) bR x0.aG,.rd false (aB (aC .i64)) cF x0.To,.rd false (aB (aC .i64)) bB x0.aO,.rd false (aB (aB (aC .i64))) aW x0.aE,.rd false (aB (aC .i64)) dM x1.aG,.rd false (aB (aC .i64)) dS x1.To,.rd false (aB (aC .i64)) cR x1.aO,.rd false (aB (aB (aC .i64))) cL x1.aE] (fun y (_:Unit)=>[.bool y]) (fun y _=>[]):=by
 refine ct (S:=Unit) (owt fun _ _=>rfl) Tryz.func76 rfl rfl ?_
 repeat' first
  | intro _
  | exact rfl
  | (refine @id.{0} _ ?_; constructor)
  | apply c77
  | apply c78
  | exact ()
theorem c40 {x0:aI} {cZ:Addr} {bR:Value} {cF:Value} {bB:Value} {aW:Value}:Ct Tryz.prog 40 true (fT x0) [.pointer (some (cZ))] [.ats cZ [.int .i64 (x0.aH),bR,cF,bB,aW],.rd false (aB (aC .i64)) bR x0.aG,.rd false (aB (aC .i64)) cF x0.To,.rd false (aB (aC .i64)) bB x0.aO,.rd false (aB (aB (aC .i64))) aW x0.aE] (fun y (v:Value×Value×Value×Value)=>[.agg #[.int .i64 y.aH,v.1,v.2.1,v.2.2.1,v.2.2.2]]) (fun y v=>[.own (aJ 2 (aC .i64)) v.1 y.aG,.own (aJ 2 (aC .i64)) v.2.1 y.To,.own (aJ 2 (aC .i64)) v.2.2.1 y.aO,.own (aJ 24 (aJ 2 (aC .i64))) v.2.2.2 y.aE]):=by
 refine ct (S:=Unit) (owt fun _ _=>rfl) Tryz.func40 rfl rfl ?_
 repeat' first
  | intro _
  | exact rfl
  | (refine @id.{0} _ ?_; constructor)
  | apply Dk.any (id:=1) 24 [] [] [[],[0],[1,0],[2,1,0],[],[4],[5,4],[6,5,4],[7,6,5,4],[],[9],[10,9],[11,10,9],[12,11,10,9,8,7,6,5,4],[],[14],[15,14],[16,15,14],[17,16,15,14,13,12,11,10,9,8,7,6,5,4],[],[19],[20,19],[21,20,19],[22,21,20,19,18,17,16,15,14,13,12,11,10,9,8,7,6,5,4]] (by kernel_rfl)
  | apply c18
  | apply c45
  | exact ()
theorem c16 {x0:aF} {cZ:Addr} {aS:Value} {aU:Value} {aR:Value} {aP:Value} {aY:Value} {aV:Value} {x1:aF} {oG:Addr} {bK:Value} {bV:Value} {bE:Value} {bA:Value} {cI:Value} {cB:Value}:Ct Tryz.prog 16 true (lA x0 x1) [.pointer (some (cZ)),.pointer (some (oG))] [.ats oG [.int .i64 (x1.aA.aH),bK,bV,bE,bA,cI,cB],.ats cZ [.int .i64 (x0.aA.aH),aS,aU,aR,aP,aY,aV],.rd false (aB (aC .i64)) aS x0.aA.aG,.rd false (aB (aC .i64)) aU x0.aA.To,.rd false (aB (aC .i64)) aR x0.aA.aO,.rd false (aB (aB (aC .i64))) aP x0.aA.aE,.rd false (aB (aC .i64)) aY x0.aM,.rd false (aB (aB (aC .i64))) aV x0.aN,.rd false (aB (aC .i64)) bK x1.aA.aG,.rd false (aB (aC .i64)) bV x1.aA.To,.rd false (aB (aC .i64)) bE x1.aA.aO,.rd false (aB (aB (aC .i64))) bA x1.aA.aE,.rd false (aB (aC .i64)) cI x1.aM,.rd false (aB (aB (aC .i64))) cB x1.aN] (fun y (v:Value×Value×Value×Value×Value×Value×Value×Value)=>[.agg #[.int .i64 y.1.aA.aH,v.1,v.2.1,v.2.2.1,v.2.2.2.1,v.2.2.2.2.1,v.2.2.2.2.2.1],v.2.2.2.2.2.2.1,v.2.2.2.2.2.2.2]) (fun y v=>[.own (aJ 2 (aC .i64)) v.1 y.1.aA.aG,.own (aJ 2 (aC .i64)) v.2.1 y.1.aA.To,.own (aJ 2 (aC .i64)) v.2.2.1 y.1.aA.aO,.own (aJ 24 (aJ 2 (aC .i64))) v.2.2.2.1 y.1.aA.aE,.own (aJ 2 (aC .i64)) v.2.2.2.2.1 y.1.aM,.own (aJ 24 (aJ 2 (aC .i64))) v.2.2.2.2.2.1 y.1.aN,.own (aJ 24 (aJ 2 (aC .i64))) v.2.2.2.2.2.2.1 y.2.1,.own (aJ 24 (aJ 2 (aC .i64))) v.2.2.2.2.2.2.2 y.2.2]):=by
 refine ct (S:=Unit) (owt fun _ _=>rfl) Tryz.func16 rfl rfl ?_
 repeat' first
  | intro _
  | exact rfl
  | apply Dk.AD.apO (d:=103)
  | (refine @id.{0} _ ?_; constructor)
  | apply Dk.loopA 0 (V:=Value×Value×Value) (A:=Nat×Value×Value×Value×Value×Value×Value) (_,_,_,_,_,_,_) (fun a (s:(List (List Int))×(List (List Int))×Int×(List Int)) v=>Dk.pc (fun a0=>Dk.pc (fun a1=>Dk.pc (fun a2=>Dk.pc (fun a3=>Dk.pc (fun a4=>Dk.pc (fun a5 a6=>[.row a0 [a1,a2,a3,a4,a5,v.2.2,a6] 29,.own (aJ 24 (aJ 2 (aC .i64))) v.1 s.1,.own (aJ 24 (aJ 2 (aC .i64))) v.2.1 s.2.1,.own (aJ 2 (aC .i64)) v.2.2 s.2.2.2])))))) a) (fun a s v=>Dk.pc (fun a0=>Dk.pc (fun a1=>Dk.pc (fun a2=>Dk.pc (fun a3=>Dk.pc (fun a4=>Dk.pc (fun a5 a6=>[(7,.pointer (some ⟨a0,0,none⟩)),(8,v.1),(9,v.2.1),(25,.int .i64 (s.2.2.1))])))))) a) (_,_,_) [(0,_),(1,_),(4,_),(23,_),(24,_)]
  | apply Dk.loopA 2 (V:=Value) (A:=Nat×Value×Value×Value×Value×Value×Value) (_,_,_,_,_,_,_) (fun a (s:Int×(List (List Int))) v=>Dk.pc (fun a0=>Dk.pc (fun a1=>Dk.pc (fun a2=>Dk.pc (fun a3=>Dk.pc (fun a4=>Dk.pc (fun a5 a6=>[.row a0 [a1,a2,a3,a4,a5,a6,v] 29,.own (aJ 24 (aJ 2 (aC .i64))) v s.2])))))) a) (fun a s v=>Dk.pc (fun a0=>Dk.pc (fun a1=>Dk.pc (fun a2=>Dk.pc (fun a3=>Dk.pc (fun a4=>Dk.pc (fun a5 a6=>[(7,.pointer (some ⟨a0,0,none⟩)),(68,.int .i64 (s.1))])))))) a) _ [(0,_),(1,_),(4,_),(8,_),(9,_),(67,_)]
  | apply Dk.any (id:=6) 12 [] [] [[],[0],[],[],[3],[4,3],[5,4,3],[],[6,5,4,3,7],[8,6,5,4,3,7],[2,9,8,6,5,4,3,7],[10,2,9,8,6,5,4,3,7]] (by kernel_rfl)
  | apply Dk.any (id:=13) 34 [] [[],[],[],[],[],[],[],[],[],[],[],[],[],[],[],[],[],[],[],[],[],[],[],[],[],[],[],[],[],[],[],[],[9],[]] [[],[0],[],[2],[3,2],[4,3,2],[],[5,4,3,2,6],[7,5,4,3,2,6],[8,7,5,4,3,2,6],[],[10],[11,10],[12,11,10],[],[13,12,11,10,14],[15,13,12,11,10,14],[],[17],[18,17],[19,18,17],[],[21],[22,21],[23,22,21],[24,23,22,21],[],[25,24,23,22,21,26],[27,25,24,23,22,21,26],[20,19,18,17,28,27,25,24,23,22,21,26],[29,20,19,18,17,28,27,25,24,23,22,21,26],[16,15,13,12,11,10,14,30,29,20,19,18,17,28,27,25,24,23,22,21,26,9,8,7,5,4,3,2,6],[9,8,7,5,4,3,2,6,31,16,15,13,12,11,10,14,30,29,20,19,18,17,28,27,25,24,23,22,21,26,9,8,7,5,4,3,2,6,31,16,15,13,12,11,10,14,30,29,20,19,18,17,28,27,25,24,23,22,21,26,9,8,7,5,4,3,2,6],[32,8,7,5,4,3,2,6,31,16,15,13,12,11,10,14,30,29,20,19,18,17,28,27,25,24,23,22,21,26,8,7,5,4,3,2,6,31,16,15,13,12,11,10,14,30,29,20,19,18,17,28,27,25,24,23,22,21,26,8,7,5,4,3,2,6]] (by kernel_rfl)
  | apply c40
  | apply c41
  | apply c42
  | apply c18
  | exact ()
theorem c44 {x0:aF} {cZ:Addr} {aS:Value} {aU:Value} {aR:Value} {aP:Value} {aY:Value} {aV:Value}:Ct Tryz.prog 44 true (fA x0) [.pointer (some (cZ))] [.ats cZ [.int .i64 (x0.aA.aH),aS,aU,aR,aP,aY,aV],.rd false (aB (aC .i64)) aS x0.aA.aG,.rd false (aB (aC .i64)) aU x0.aA.To,.rd false (aB (aC .i64)) aR x0.aA.aO,.rd false (aB (aB (aC .i64))) aP x0.aA.aE,.rd false (aB (aC .i64)) aY x0.aM,.rd false (aB (aB (aC .i64))) aV x0.aN] (fun y (v:Value×Value×Value×Value×Value×Value)=>[.agg #[.int .i64 y.aA.aH,v.1,v.2.1,v.2.2.1,v.2.2.2.1,v.2.2.2.2.1,v.2.2.2.2.2]]) (fun y v=>[.own (aJ 2 (aC .i64)) v.1 y.aA.aG,.own (aJ 2 (aC .i64)) v.2.1 y.aA.To,.own (aJ 2 (aC .i64)) v.2.2.1 y.aA.aO,.own (aJ 24 (aJ 2 (aC .i64))) v.2.2.2.1 y.aA.aE,.own (aJ 2 (aC .i64)) v.2.2.2.2.1 y.aM,.own (aJ 24 (aJ 2 (aC .i64))) v.2.2.2.2.2 y.aN]):=by
 refine ct (S:=Unit) (owt fun _ _=>rfl) Tryz.func44 rfl rfl ?_
 repeat' first
  | intro _
  | exact rfl
  | (refine @id.{0} _ ?_; constructor)
  | apply Dk.any (id:=1) 13 [] [] [[],[0],[1,0],[2,1,0],[],[4],[5,4],[6,5,4],[7,6,5,4,3,2,1,0],[],[9],[10,9],[11,10,9]] (by kernel_rfl)
  | apply c40
  | apply c18
  | apply c45
  | exact ()
theorem c46 {x0:aF} {aS:Value} {aU:Value} {aR:Value} {aP:Value} {aY:Value} {aV:Value} {x1:aF} {bK:Value} {bV:Value} {bE:Value} {bA:Value} {cI:Value} {cB:Value}:Ct Tryz.prog 46 true (iU x0 x1) [.agg #[.int .i64 (x0.aA.aH),aS,aU,aR,aP,aY,aV],.agg #[.int .i64 (x1.aA.aH),bK,bV,bE,bA,cI,cB]] [.rd false (aB (aC .i64)) aS x0.aA.aG,.rd false (aB (aC .i64)) aU x0.aA.To,.rd false (aB (aC .i64)) aR x0.aA.aO,.rd false (aB (aB (aC .i64))) aP x0.aA.aE,.rd false (aB (aC .i64)) aY x0.aM,.rd false (aB (aB (aC .i64))) aV x0.aN,.rd false (aB (aC .i64)) bK x1.aA.aG,.rd false (aB (aC .i64)) bV x1.aA.To,.rd false (aB (aC .i64)) bE x1.aA.aO,.rd false (aB (aB (aC .i64))) bA x1.aA.aE,.rd false (aB (aC .i64)) cI x1.aM,.rd false (aB (aB (aC .i64))) cB x1.aN] (fun y (_:Unit)=>[.bool y]) (fun y _=>[]):=by
 refine ct (S:=Unit) (owt fun _ _=>rfl) Tryz.func46 rfl rfl ?_
 repeat' first
  | intro _
  | exact rfl
  | (refine @id.{0} _ ?_; constructor)
  | apply c76
  | apply c77
  | apply c78
  | exact ()
end Go.Proofs.YtacpfhajafmigaaGreat
