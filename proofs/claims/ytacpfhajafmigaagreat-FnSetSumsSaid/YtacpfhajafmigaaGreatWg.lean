/- Walks by the calculus D. No condition beside those that each theorem names. -/
import Derived.Test.YtacpfhajafmigaaGreatDi
import Derived.Test.YtacpfhajafmigaaGreatMo
import Derived.Test.YtacpfhajafmigaaGreatDg
import Derived.Test.YtacpfhajafmigaaGreatDs
import Derived.Test.YtacpfhajafmigaaGreatWa
import Derived.Test.YtacpfhajafmigaaGreatWb
import Derived.Test.YtacpfhajafmigaaGreatWc
import Derived.Test.YtacpfhajafmigaaGreatWd
namespace Go.Proofs.YtacpfhajafmigaaGreat
open Go Go.Li Go.Dk
set_option linter.unusedVariables false
set_option maxHeartbeats 16000000
set_option maxRecDepth 100000
theorem c126 {x0:Int} {x1:(List Int)} {dG:Value} {x2:(List Int)} {lD:Value}:Ct Tryz.prog 126 false (pC x0 x1 x2) [.int .i64 (x0),dG,lD] [.rd false (aB (aC .i64)) dG x1,.rd false (aB (aC .i64)) lD x2] (fun y (v:Value)=>[v]) (fun y v=>[.rd false (aB (sStr sS151)) v y]):=by
 refine ct (S:=Unit) owf Tryz.func126 rfl rfl ?_
 repeat' first
  | intro _
  | exact rfl
  | (refine (id (α:=@Eq (List Value) _ _) ?_); dsimp only; try exact rfl)
  | apply Dk.lgS (t:=148) (S:=sS151)
  | apply Dk.lnS (t:=148)
  | apply Dk.ixS (t:=148)
  | apply Dk.apS (t:=148) (cG.mk _ _ _)
  | apply Dk.laS (n:=3)
  | apply Dk.laS0 (n:=3)
  | apply Dk.lsS (n:=3)
  | apply Dk.stS (n:=3) (S:=sS151) _
  | apply Dk.AD.idxG
  | apply Dk.AD.laG (n:=3)
  | apply Dk.AD.laG0 (n:=3)
  | (refine @id.{0} _ ?_; constructor)
  | apply Dk.loopP 0 (V:=Value) (W:=List (List Value)) (fun (s:(List cG)×Int) v u=>[.own (aJ 151 (sCel 3)) v u,.rd false (sGh sS151) (.bool true) (u,s.1)]) (fun s v u=>[(7,v),(8,.int .i64 (s.2))]) _ _ [(0,_),(1,_),(2,_)]
  | apply Dk.loopP 2 (V:=Value) (W:=List (List Value)) (fun (s:(List cG)×Int) v u=>[.own (aJ 151 (sCel 3)) v u,.rd false (sGh sS151) (.bool true) (u,s.1)]) (fun s v u=>[(7,v),(9,.int .i64 (s.2))]) _ _ [(0,_),(1,_),(2,_)]
  | apply Dk.loopP 4 (V:=Value) (W:=List (List Value)) (fun (s:(List cG)×Int) v u=>[.own (aJ 151 (sCel 3)) v u,.rd false (sGh sS151) (.bool true) (u,s.1)]) (fun s v u=>[(7,v),(10,.int .i64 (s.2))]) _ _ [(0,_),(1,_),(2,_),(9,_)]
  | apply Dk.loopP 6 (V:=Value) (W:=List (List Value)) (fun (s:(List cG)×Int) v u=>[.own (aJ 151 (sCel 3)) v u,.rd false (sGh sS151) (.bool true) (u,s.1)]) (fun s v u=>[(7,v),(11,.int .i64 (s.2))]) _ _ []
  | apply Dk.loopP 8 (V:=Value) (W:=List (List Value)) (fun (s:(List cG)×Int) v u=>[.own (aJ 151 (sCel 3)) v u,.rd false (sGh sS151) (.bool true) (u,s.1)]) (fun s v u=>[(7,v),(12,.int .i64 (s.2))]) _ _ [(11,_)]
  | apply Dk.quiet (id:=12) (by kernel_rfl)
  | apply Dk.quiet (id:=18) (by kernel_rfl)
  | apply Dk.any (id:=13) 19 [0] [[],[],[],[],[],[],[],[],[],[],[],[],[],[],[],[],[],[],[15]] [[],[],[],[1,2],[3,1,2],[4,3,1,2],[],[],[6,7],[8,6,7],[],[],[10,11],[12,10,11],[13,12,10,11],[14,13,12,10,11],[],[16],[15,14,13,12,10,11,17,16,15,14,13,12,10,11]] (by kernel_rfl)
  | apply c23
  | apply c127
  | exact ()
theorem c120 {x0:Int} {x1:(List Int)} {dG:Value} {x2:(List Int)} {lD:Value}:Ct Tryz.prog 120 true (gW x0 x1 x2) [.int .i64 (x0),dG,lD] [.rd false (aB (aC .i64)) dG x1,.rd false (aB (aC .i64)) lD x2] (fun y (v:Value×Value×Value×Value)=>[.agg #[.int .i64 y.aH,v.1,v.2.1,v.2.2.1,v.2.2.2]]) (fun y v=>[.own (aJ 2 (aC .i64)) v.1 y.aG,.own (aJ 2 (aC .i64)) v.2.1 y.To,.own (aJ 2 (aC .i64)) v.2.2.1 y.aO,.own (aJ 24 (aJ 2 (aC .i64))) v.2.2.2 y.aE]):=by
 refine ct (S:=Unit) (owt fun _ _=>rfl) Tryz.func120 rfl rfl ?_
 repeat' first
  | intro _
  | exact rfl
  | (refine Dk.cdR (t:=83) rfl ?_ ?_)
  | apply Dk.AD.apR (d:=108)
  | (refine Dk.cdR (t:=112) rfl ?_ ?_)
  | (refine @id.{0} _ ?_; constructor)
  | apply Dk.loopA 0 (V:=Value×Value) (A:=Nat×Value×Value) (_,_,_) (fun a (s:Int×(List Int)×(List Int)×(List Int)) v=>Dk.pc (fun a0=>Dk.pc (fun a1 a2=>[.row a0 [.int .i64 (x0),v.1,v.2,a1,a2] 27,.own (aJ 2 (aC .i64)) a1 s.2.2.2,.own (aJ 2 (aC .i64)) v.1 s.2.1,.own (aJ 2 (aC .i64)) v.2 s.2.2.1])) a) (fun a s v=>Dk.pc (fun a0=>Dk.pc (fun a1 a2=>[(8,.pointer (some ⟨a0,0,none⟩)),(9,.int .i64 (s.1))])) a) (_,_) [(6,_),(7,_)]
  | apply Dk.loopA 2 (V:=Value) (A:=Nat×Value×Value×Value) (_,_,_,_) (fun a (s:Int×(List (List Int))) v=>Dk.pc (fun a0=>Dk.pc (fun a1=>Dk.pc (fun a2 a3=>[.row a0 [.int .i64 (x0),a1,a2,a3,v] 27,.own (aJ 24 (aJ 2 (aC .i64))) v s.2]))) a) (fun a s v=>Dk.pc (fun a0=>Dk.pc (fun a1=>Dk.pc (fun a2 a3=>[(8,.pointer (some ⟨a0,0,none⟩)),(10,.int .i64 (s.1))]))) a) _ [(6,_),(7,_)]
  | apply Dk.loop 4 (V:=Value) (fun (s:(List Int)×Int) v=>[.own (aJ 2 (aC .i64)) v s.1]) (fun s v=>[(11,v),(12,.int .i64 (s.2))]) _ [(6,_),(7,_),(8,_),(10,_)]
  | apply Dk.loop 6 (V:=Unit) (fun (s:Int×Int) v=>[]) (fun s v=>[(13,.int .i64 (s.1)),(15,.int .i64 (s.2))]) () [(6,_),(7,_),(8,_),(10,_),(11,_),(12,_),(14,_)]
  | apply Dk.quiet (id:=20) (by kernel_rfl)
  | apply Dk.quiet (id:=25) (by kernel_rfl)
  | apply Dk.any (id:=6) 8 [] [] [[],[0],[],[],[2,3],[4,2,3],[5,4,2,3],[6,5,4,2,3]] (by kernel_rfl)
  | apply Dk.any (id:=7) 8 [] [] [[],[0],[],[],[2,3],[4,2,3],[5,4,2,3],[6,5,4,2,3]] (by kernel_rfl)
  | apply Dk.any (id:=9) 8 [] [] [[],[0],[],[],[2,3],[4,2,3],[5,4,2,3],[]] (by kernel_rfl)
  | apply Dk.any (id:=21) 11 [] [] [[],[],[0,1],[2,0,1],[3,2,0,1],[4,3,2,0,1],[],[],[6,7],[8,6,7],[9,8,6,7]] (by kernel_rfl)
  | apply c126
  | apply c116
  | apply c23
  | apply c77
  | exact ()
theorem c95 {x0:aI} {cZ:Addr} {bR:Value} {cF:Value} {bB:Value} {aW:Value}:Ct Tryz.prog 95 true (fV x0) [.pointer (some (cZ))] [.ats cZ [.int .i64 (x0.aH),bR,cF,bB,aW],.rd false (aB (aC .i64)) bR x0.aG,.rd false (aB (aC .i64)) cF x0.To,.rd false (aB (aC .i64)) bB x0.aO,.rd false (aB (aB (aC .i64))) aW x0.aE] (fun y (_:Unit)=>[.bool y]) (fun y _=>[]):=by
 refine ct (S:=Unit) (owt fun _ _=>rfl) Tryz.func95 rfl rfl ?_
 repeat' first
  | intro _
  | exact rfl
  | (refine @id.{0} _ ?_; constructor)
  | apply Dk.loop 0 (V:=Unit) (fun (s:Int) v=>[]) (fun s v=>[(88,.int .i64 (s))]) () [(0,_),(3,_),(86,_),(87,_)]
  | apply Dk.loop 2 (V:=Unit) (fun (s:Int) v=>[]) (fun s v=>[(106,.int .i64 (s))]) () [(0,_),(3,_),(104,_),(105,_)]
  | apply Dk.loop 4 (V:=Unit) (fun (s:Int) v=>[]) (fun s v=>[(117,.int .i64 (s))]) () [(0,_),(3,_),(6,_),(104,_),(105,_),(106,_),(115,_),(116,_)]
  | apply Dk.quiet (id:=2) (by kernel_rfl)
  | apply Dk.quiet (id:=4) (by kernel_rfl)
  | apply Dk.quiet (id:=20) (by kernel_rfl)
  | apply Dk.quiet (id:=23) (by kernel_rfl)
  | apply c80
  | apply c75
  | apply c43
  | apply c105
  | exact ()
theorem c79 {x0:aI} {cZ:Addr} {bR:Value} {cF:Value} {bB:Value} {aW:Value}:Ct Tryz.prog 79 true (eY x0) [.pointer (some (cZ))] [.ats cZ [.int .i64 (x0.aH),bR,cF,bB,aW],.rd false (aB (aC .i64)) bR x0.aG,.rd false (aB (aC .i64)) cF x0.To,.rd false (aB (aC .i64)) bB x0.aO,.rd false (aB (aB (aC .i64))) aW x0.aE] (fun y (_:Unit)=>[.bool y]) (fun y _=>[]):=by
 refine ct (S:=Unit) (owt fun _ _=>rfl) Tryz.func79 rfl rfl ?_
 repeat' first
  | intro _
  | exact rfl
  | (refine @id.{0} _ ?_; constructor)
  | apply c95
  | apply c96
  | exact ()
theorem c50 {x0:aI} {bR:Value} {cF:Value} {bB:Value} {aW:Value} {x1:aI} {dM:Value} {dS:Value} {cR:Value} {cL:Value}:Ct Tryz.prog 50 true (lV x0 x1) [.agg #[.int .i64 (x0.aH),bR,cF,bB,aW],.agg #[.int .i64 (x1.aH),dM,dS,cR,cL]] [.rd false (aB (aC .i64)) bR x0.aG,.rd false (aB (aC .i64)) cF x0.To,.rd false (aB (aC .i64)) bB x0.aO,.rd false (aB (aB (aC .i64))) aW x0.aE,.rd false (aB (aC .i64)) dM x1.aG,.rd false (aB (aC .i64)) dS x1.To,.rd false (aB (aC .i64)) cR x1.aO,.rd false (aB (aB (aC .i64))) cL x1.aE] (fun y (_:Unit)=>[.bool y]) (fun y _=>[]):=by
 refine ct (S:=Unit) (owt fun _ _=>rfl) Tryz.func50 rfl rfl ?_
 repeat' first
  | intro _
  | exact rfl
  | (refine @id.{0} _ ?_; constructor)
  | apply c51
  | apply c26
  | exact ()
theorem c25 {x0:aF} {aS:Value} {aU:Value} {aR:Value} {aP:Value} {aY:Value} {aV:Value} {x1:aF} {bK:Value} {bV:Value} {bE:Value} {bA:Value} {cI:Value} {cB:Value}:Ct Tryz.prog 25 true (jA x0 x1) [.agg #[.int .i64 (x0.aA.aH),aS,aU,aR,aP,aY,aV],.agg #[.int .i64 (x1.aA.aH),bK,bV,bE,bA,cI,cB]] [.rd false (aB (aC .i64)) aS x0.aA.aG,.rd false (aB (aC .i64)) aU x0.aA.To,.rd false (aB (aC .i64)) aR x0.aA.aO,.rd false (aB (aB (aC .i64))) aP x0.aA.aE,.rd false (aB (aC .i64)) aY x0.aM,.rd false (aB (aB (aC .i64))) aV x0.aN,.rd false (aB (aC .i64)) bK x1.aA.aG,.rd false (aB (aC .i64)) bV x1.aA.To,.rd false (aB (aC .i64)) bE x1.aA.aO,.rd false (aB (aB (aC .i64))) bA x1.aA.aE,.rd false (aB (aC .i64)) cI x1.aM,.rd false (aB (aB (aC .i64))) cB x1.aN] (fun y (_:Unit)=>[.bool y]) (fun y _=>[]):=by
 refine ct (S:=Unit) (owt fun _ _=>rfl) Tryz.func25 rfl rfl ?_
 repeat' first
  | intro _
  | exact rfl
  | (refine @id.{0} _ ?_; constructor)
  | apply c50
  | apply c51
  | apply c26
  | exact ()
theorem c30 {x0:aF} {cZ:Addr} {aS:Value} {aU:Value} {aR:Value} {aP:Value} {aY:Value} {aV:Value}:Ct Tryz.prog 30 true (eN x0) [.pointer (some (cZ))] [.ats cZ [.int .i64 (x0.aA.aH),aS,aU,aR,aP,aY,aV],.rd false (aB (aC .i64)) aS x0.aA.aG,.rd false (aB (aC .i64)) aU x0.aA.To,.rd false (aB (aC .i64)) aR x0.aA.aO,.rd false (aB (aB (aC .i64))) aP x0.aA.aE,.rd false (aB (aC .i64)) aY x0.aM,.rd false (aB (aB (aC .i64))) aV x0.aN] (fun y (v:Value)=>[v,.int .i64 y.2]) (fun y v=>[.own (aJ 24 (aJ 2 (aC .i64))) v y.1]):=by
 refine ct (S:=Unit) (owt fun _ _=>rfl) Tryz.func30 rfl rfl ?_
 repeat' first
  | intro _
  | exact rfl
  | apply Dk.AD.slH (t:=95)
  | (refine @id.{0} _ ?_; constructor)
  | apply Dk.loopA 0 (V:=Unit) (A:=Value) _ (fun a (s:Int×(List Int)) v=>[.own (aJ 2 (aC .i64)) a s.2]) (fun a s v=>[(5,a),(24,.int .i64 (s.1))]) () [(0,_),(4,_),(22,_),(23,_)]
  | apply Dk.loopA 2 (V:=Unit) (A:=Value) _ (fun a (s:Int×(List Int)) v=>[.own (aJ 2 (aC .i64)) a s.2]) (fun a s v=>[(5,a),(31,.int .i64 (s.1))]) () [(0,_),(4,_),(6,_),(22,_),(23,_),(24,_),(29,_),(30,_)]
  | apply Dk.loop 4 (V:=Value) (fun (s:(List (List Int))×Int) v=>[.own (aJ 24 (aJ 2 (aC .i64))) v s.1]) (fun s v=>[(11,v),(74,.int .i64 (s.2))]) _ [(4,_),(10,_),(72,_),(73,_)]
  | apply Dk.any (id:=9) 27 [] [] [[],[],[],[2],[3,2],[4,3,2],[5,4,3,2],[],[6,5,4,3,2,7],[8,6,5,4,3,2,7],[1,9,8,6,5,4,3,2,7],[10,1,9,8,6,5,4,3,2,7],[],[11,10,1,9,8,6,5,4,3,2,7,12],[],[],[15],[16,15],[17,16,15],[18,17,16,15],[],[19,18,17,16,15,20],[21,19,18,17,16,15,20],[14,22,21,19,18,17,16,15,20],[23,14,22,21,19,18,17,16,15,20],[],[24,23,14,22,21,19,18,17,16,15,20,25]] (by kernel_rfl)
  | apply Dk.any (id:=17) 15 [] [] [[],[],[],[],[2,3],[4,2,3],[],[],[6,7],[8,6,7],[],[9,8,6,7,10],[1,5,4,2,3,11,9,8,6,7,10],[12,1,5,4,2,3,11,9,8,6,7,10],[13,12,1,5,4,2,3,11,9,8,6,7,10]] (by kernel_rfl)
  | apply c56
  | apply c58
  | apply c57
  | apply c59
  | apply c60
  | apply c18
  | apply c61
  | exact ()
end Go.Proofs.YtacpfhajafmigaaGreat
