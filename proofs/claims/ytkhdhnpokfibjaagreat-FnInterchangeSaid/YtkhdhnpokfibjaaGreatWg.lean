/- Walks by the calculus D. No condition beside those that each theorem names. -/
import Derived.Test.YtkhdhnpokfibjaaGreatDi
import Derived.Test.YtkhdhnpokfibjaaGreatMo
import Derived.Test.YtkhdhnpokfibjaaGreatDp
import Derived.Test.YtkhdhnpokfibjaaGreatDs
import Derived.Test.YtkhdhnpokfibjaaGreatWa
import Derived.Test.YtkhdhnpokfibjaaGreatWb
import Derived.Test.YtkhdhnpokfibjaaGreatWc
import Derived.Test.YtkhdhnpokfibjaaGreatWd
namespace Go.Proofs.YtkhdhnpokfibjaaGreat
open Go Go.Li Go.Dk
set_option linter.unusedVariables false
set_option maxHeartbeats 16000000
set_option maxRecDepth 100000
theorem c141 {x0:Int} {x1:(List Int)} {eV:Value} {x2:(List Int)} {eL:Value}:Ct Tryz.prog 141 false (kZ x0 x1 x2) [.int .i64 (x0),eV,eL] [.rd false (aE (aC .i64)) eV x1,.rd false (aE (aC .i64)) eL x2] (fun y (v:Value)=>[v]) (fun y v=>[.rd false (aE (sStr sS158)) v y]):=by
 refine ct (S:=Unit) owf Tryz.func141 rfl rfl ?_
 repeat' first
  | intro _
  | exact rfl
  | (refine (id (α:=@Eq (List Value) _ _) ?_); dsimp only; try exact rfl)
  | apply Dk.lgS (t:=155) (S:=sS158)
  | apply Dk.lnS (t:=155)
  | apply Dk.ixS (t:=155)
  | apply Dk.apS (t:=155) (cG.mk _ _ _)
  | apply Dk.laS (n:=3)
  | apply Dk.laS0 (n:=3)
  | apply Dk.lsS (n:=3)
  | apply Dk.stS (n:=3) (S:=sS158) _
  | apply Dk.AD.idxG
  | apply Dk.AD.laG (n:=3)
  | apply Dk.AD.laG0 (n:=3)
  | (refine @id.{0} _ ?_; constructor)
  | apply Dk.loopP 0 (V:=Value) (W:=List (List Value)) (fun (s:(List cG)×Int) v u=>[.own (aK 158 (sCel 3)) v u,.rd false (sGh sS158) (.bool true) (u,s.1)]) (fun s v u=>[(7,v),(8,.int .i64 (s.2))]) _ _ [(0,_),(1,_),(2,_)]
  | apply Dk.loopP 2 (V:=Value) (W:=List (List Value)) (fun (s:(List cG)×Int) v u=>[.own (aK 158 (sCel 3)) v u,.rd false (sGh sS158) (.bool true) (u,s.1)]) (fun s v u=>[(7,v),(9,.int .i64 (s.2))]) _ _ [(0,_),(1,_),(2,_)]
  | apply Dk.loopP 4 (V:=Value) (W:=List (List Value)) (fun (s:(List cG)×Int) v u=>[.own (aK 158 (sCel 3)) v u,.rd false (sGh sS158) (.bool true) (u,s.1)]) (fun s v u=>[(7,v),(10,.int .i64 (s.2))]) _ _ [(0,_),(1,_),(2,_),(9,_)]
  | apply Dk.loopP 6 (V:=Value) (W:=List (List Value)) (fun (s:(List cG)×Int) v u=>[.own (aK 158 (sCel 3)) v u,.rd false (sGh sS158) (.bool true) (u,s.1)]) (fun s v u=>[(7,v),(11,.int .i64 (s.2))]) _ _ []
  | apply Dk.loopP 8 (V:=Value) (W:=List (List Value)) (fun (s:(List cG)×Int) v u=>[.own (aK 158 (sCel 3)) v u,.rd false (sGh sS158) (.bool true) (u,s.1)]) (fun s v u=>[(7,v),(12,.int .i64 (s.2))]) _ _ [(11,_)]
  | apply Dk.quiet (id:=12) (by kernel_rfl)
  | apply Dk.quiet (id:=18) (by kernel_rfl)
  | apply Dk.any (id:=13) 19 [0] [[],[],[],[],[],[],[],[],[],[],[],[],[],[],[],[],[],[],[15]] [[],[],[],[1,2],[3,1,2],[4,3,1,2],[],[],[6,7],[8,6,7],[],[],[10,11],[12,10,11],[13,12,10,11],[14,13,12,10,11],[],[16],[15,14,13,12,10,11,17,16,15,14,13,12,10,11]] (by kernel_rfl)
  | apply c60
  | apply c146
  | exact ()
theorem c124 {x0:Int} {x1:(List Int)} {eV:Value} {x2:(List Int)} {eL:Value}:Ct Tryz.prog 124 true (fW x0 x1 x2) [.int .i64 (x0),eV,eL] [.rd false (aE (aC .i64)) eV x1,.rd false (aE (aC .i64)) eL x2] (fun y (v:Value×Value×Value×Value)=>[.agg #[.int .i64 y.aD,v.1,v.2.1,v.2.2.1,v.2.2.2]]) (fun y v=>[.own (aK 2 (aC .i64)) v.1 y.aG,.own (aK 2 (aC .i64)) v.2.1 y.To,.own (aK 2 (aC .i64)) v.2.2.1 y.aJ,.own (aK 24 (aK 2 (aC .i64))) v.2.2.2 y.aF]):=by
 refine ct (S:=Unit) (owt fun _ _=>rfl) Tryz.func124 rfl rfl ?_
 repeat' first
  | intro _
  | exact rfl
  | (refine Dk.cdR (t:=83) rfl ?_ ?_)
  | apply Dk.AD.apR (d:=108)
  | (refine Dk.cdR (t:=112) rfl ?_ ?_)
  | (refine @id.{0} _ ?_; constructor)
  | apply Dk.loopA 0 (V:=Value×Value) (A:=Nat×Value×Value) (_,_,_) (fun a (s:Int×(List Int)×(List Int)×(List Int)) v=>Dk.pc (fun a0=>Dk.pc (fun a1 a2=>[.row a0 [.int .i64 (x0),v.1,v.2,a1,a2] 27,.own (aK 2 (aC .i64)) a1 s.2.2.2,.own (aK 2 (aC .i64)) v.1 s.2.1,.own (aK 2 (aC .i64)) v.2 s.2.2.1])) a) (fun a s v=>Dk.pc (fun a0=>Dk.pc (fun a1 a2=>[(8,.pointer (some ⟨a0,0,none⟩)),(9,.int .i64 (s.1))])) a) (_,_) [(6,_),(7,_)]
  | apply Dk.loopA 2 (V:=Value) (A:=Nat×Value×Value×Value) (_,_,_,_) (fun a (s:Int×(List (List Int))) v=>Dk.pc (fun a0=>Dk.pc (fun a1=>Dk.pc (fun a2 a3=>[.row a0 [.int .i64 (x0),a1,a2,a3,v] 27,.own (aK 24 (aK 2 (aC .i64))) v s.2]))) a) (fun a s v=>Dk.pc (fun a0=>Dk.pc (fun a1=>Dk.pc (fun a2 a3=>[(8,.pointer (some ⟨a0,0,none⟩)),(10,.int .i64 (s.1))]))) a) _ [(6,_),(7,_)]
  | apply Dk.loop 4 (V:=Value) (fun (s:(List Int)×Int) v=>[.own (aK 2 (aC .i64)) v s.1]) (fun s v=>[(11,v),(12,.int .i64 (s.2))]) _ [(6,_),(7,_),(8,_),(10,_)]
  | apply Dk.loop 6 (V:=Unit) (fun (s:Int×Int) v=>[]) (fun s v=>[(13,.int .i64 (s.1)),(15,.int .i64 (s.2))]) () [(6,_),(7,_),(8,_),(10,_),(11,_),(12,_),(14,_)]
  | apply Dk.quiet (id:=20) (by kernel_rfl)
  | apply Dk.quiet (id:=25) (by kernel_rfl)
  | apply Dk.any (id:=6) 8 [] [] [[],[0],[],[],[2,3],[4,2,3],[5,4,2,3],[6,5,4,2,3]] (by kernel_rfl)
  | apply Dk.any (id:=7) 8 [] [] [[],[0],[],[],[2,3],[4,2,3],[5,4,2,3],[6,5,4,2,3]] (by kernel_rfl)
  | apply Dk.any (id:=9) 8 [] [] [[],[0],[],[],[2,3],[4,2,3],[5,4,2,3],[]] (by kernel_rfl)
  | apply Dk.any (id:=21) 11 [] [] [[],[],[0,1],[2,0,1],[3,2,0,1],[4,3,2,0,1],[],[],[6,7],[8,6,7],[9,8,6,7]] (by kernel_rfl)
  | apply c141
  | apply c104
  | apply c60
  | apply c76
  | exact ()
theorem c121 {x0:aI} {aV:Value} {bK:Value} {aP:Value} {aO:Value}:Ct Tryz.prog 121 true (oC x0) [.agg #[.int .i64 (x0.aD),aV,bK,aP,aO]] [.rd false (aE (aC .i64)) aV x0.aG,.rd false (aE (aC .i64)) bK x0.To,.rd false (aE (aC .i64)) aP x0.aJ,.rd false (aE (aE (aC .i64))) aO x0.aF] (fun y (_:Unit)=>[.bool y]) (fun y _=>[]):=by
 refine ct (S:=Unit) (owt fun _ _=>rfl) Tryz.func121 rfl rfl ?_
 repeat' first
  | intro _
  | exact rfl
  | (refine Dk.cdR (t:=102) rfl ?_ ?_)
  | (refine @id.{0} _ ?_; constructor)
  | apply Dk.loop 0 (V:=Unit) (fun (s:Int) v=>[]) (fun s v=>[(4,.int .i64 (s))]) () [(1,_),(3,_)]
  | apply Dk.loop 2 (V:=Unit) (fun (s:Int) v=>[]) (fun s v=>[(5,.int .i64 (s))]) () [(1,_),(3,_)]
  | apply Dk.loop 4 (V:=Unit) (fun (s:Int) v=>[]) (fun s v=>[(6,.int .i64 (s))]) () [(1,_),(3,_),(5,_)]
  | apply Dk.quiet (id:=9) (by kernel_rfl)
  | apply Dk.quiet (id:=20) (by kernel_rfl)
  | apply Dk.quiet (id:=23) (by kernel_rfl)
  | apply c139
  | apply c140
  | apply c97
  | exact ()
theorem c96 {x0:aI} {aV:Value} {bK:Value} {aP:Value} {aO:Value}:Ct Tryz.prog 96 true (oD x0) [.agg #[.int .i64 (x0.aD),aV,bK,aP,aO]] [.rd false (aE (aC .i64)) aV x0.aG,.rd false (aE (aC .i64)) bK x0.To,.rd false (aE (aC .i64)) aP x0.aJ,.rd false (aE (aE (aC .i64))) aO x0.aF] (fun y (_:Unit)=>[.bool y]) (fun y _=>[]):=by
 refine ct (S:=Unit) (owt fun _ _=>rfl) Tryz.func96 rfl rfl ?_
 repeat' first
  | intro _
  | exact rfl
  | (refine @id.{0} _ ?_; constructor)
  | apply c121
  | apply c122
  | exact ()
theorem c58 {x0:aN} {aW:Value} {bC:Value} {aS:Value} {aQ:Value} {aY:Value} {bD:Value} {aT:Value} {aR:Value} {bS:Value} {bV:Value}:Ct Tryz.prog 58 true (jP x0) [.agg #[.int .i64 (x0.aA.aD),aW,bC,aS,aQ,.int .i64 (x0.aB.aD),aY,bD,aT,aR,bS,bV]] [.rd false (aE (aC .i64)) aW x0.aA.aG,.rd false (aE (aC .i64)) bC x0.aA.To,.rd false (aE (aC .i64)) aS x0.aA.aJ,.rd false (aE (aE (aC .i64))) aQ x0.aA.aF,.rd false (aE (aC .i64)) aY x0.aB.aG,.rd false (aE (aC .i64)) bD x0.aB.To,.rd false (aE (aC .i64)) aT x0.aB.aJ,.rd false (aE (aE (aC .i64))) aR x0.aB.aF,.rd false (aE (aC .i64)) bS x0.aD,.rd false (aE (aC .i64)) bV x0.Arrows] (fun y (_:Unit)=>[.bool y]) (fun y _=>[]):=by
 refine ct (S:=Unit) (owt fun _ _=>rfl) Tryz.func58 rfl rfl ?_
 repeat' first
  | intro _
  | exact rfl
  | (refine Dk.cdR (t:=136) rfl ?_ ?_)
  | (refine @id.{0} _ ?_; constructor)
  | apply Dk.loop 0 (V:=Unit) (fun (s:Int) v=>[]) (fun s v=>[(5,.int .i64 (s))]) () [(1,_),(3,_),(4,_)]
  | apply Dk.loop 2 (V:=Unit) (fun (s:Int) v=>[]) (fun s v=>[(6,.int .i64 (s))]) () [(1,_),(3,_),(4,_)]
  | apply Dk.loop 4 (V:=Unit) (fun (s:Int) v=>[]) (fun s v=>[(7,.int .i64 (s))]) () [(1,_),(3,_),(4,_)]
  | apply Dk.loop 6 (V:=Unit) (fun (s:Int) v=>[]) (fun s v=>[(8,.int .i64 (s))]) () [(1,_),(3,_),(4,_),(7,_)]
  | apply Dk.quiet (id:=9) (by kernel_rfl)
  | apply Dk.quiet (id:=14) (by kernel_rfl)
  | apply Dk.quiet (id:=22) (by kernel_rfl)
  | apply Dk.any (id:=1) 7 [] [[],[],[],[],[],[],[4]] [[],[0],[],[2],[],[],[4,1,0,0,1,0,4,5]] (by kernel_rfl)
  | apply c96
  | apply c97
  | exact ()
theorem c61 {x0:aL} {eP:Nat} {dF:Value} {x1:Int}:Ct Tryz.prog 61 true (kJ x0 x1) [.pointer (some (⟨eP,0,none⟩)),.int .i64 (x1)] [.row eP [dF,.int .i64 (x0.At),.int .u64 (x0.Hash)] 87,.rd false (aE (aC .u8)) dF x0.Code] (fun y (_:Unit)=>[.int .i64 y.1]) (fun y _=>[.row eP [dF,.int .i64 y.2.At,.int .u64 y.2.Hash] 87]):=by
 refine ct (S:=Unit) (owt fun _ _=>rfl) Tryz.func61 rfl rfl ?_
 repeat' first
  | intro _
  | exact rfl
  | (refine @id.{0} _ ?_; constructor)
  | apply c28
  | apply c98
  | exact ()
theorem c81_k82 {x0:aM} {eR:Addr} {bW:Value} {cA:Value} {bN:Value} {bG:Value} {bX:Value} {cB:Value} {bP:Value} {bH:Value} {cI:Value} {cL:Value} {bY:Value} {cC:Value} {bQ:Value} {bI:Value} {bZ:Value} {cD:Value} {bR:Value} {bJ:Value} {cJ:Value} {cM:Value} {cV:Value}:Ct Tryz.prog 81 true (kC x0 (fun a0 a1 a2 a3=>iO a0 a1 a2 a3)) [.pointer (some (eR)),.func (.func 82) #[] #[]] [.ats eR [.int .i64 (x0.aA.aA.aD),bW,cA,bN,bG,.int .i64 (x0.aA.aB.aD),bX,cB,bP,bH,cI,cL,.int .i64 (x0.aB.aA.aD),bY,cC,bQ,bI,.int .i64 (x0.aB.aB.aD),bZ,cD,bR,bJ,cJ,cM,cV],.rd false (aE (aC .i64)) bW x0.aA.aA.aG,.rd false (aE (aC .i64)) cA x0.aA.aA.To,.rd false (aE (aC .i64)) bN x0.aA.aA.aJ,.rd false (aE (aE (aC .i64))) bG x0.aA.aA.aF,.rd false (aE (aC .i64)) bX x0.aA.aB.aG,.rd false (aE (aC .i64)) cB x0.aA.aB.To,.rd false (aE (aC .i64)) bP x0.aA.aB.aJ,.rd false (aE (aE (aC .i64))) bH x0.aA.aB.aF,.rd false (aE (aC .i64)) cI x0.aA.aD,.rd false (aE (aC .i64)) cL x0.aA.Arrows,.rd false (aE (aC .i64)) bY x0.aB.aA.aG,.rd false (aE (aC .i64)) cC x0.aB.aA.To,.rd false (aE (aC .i64)) bQ x0.aB.aA.aJ,.rd false (aE (aE (aC .i64))) bI x0.aB.aA.aF,.rd false (aE (aC .i64)) bZ x0.aB.aB.aG,.rd false (aE (aC .i64)) cD x0.aB.aB.To,.rd false (aE (aC .i64)) bR x0.aB.aB.aJ,.rd false (aE (aE (aC .i64))) bJ x0.aB.aB.aF,.rd false (aE (aC .i64)) cJ x0.aB.aD,.rd false (aE (aC .i64)) cM x0.aB.Arrows,.rd false (aE (aC .i64)) cV x0.Components] (fun y (_:Unit)=>[.int .i64 y]) (fun y _=>[]):=by
 refine ct (S:=Unit) (owt fun _ _=>rfl) Tryz.func81 rfl rfl ?_
 repeat' first
  | intro _
  | exact rfl
  | (refine @id.{0} _ ?_; constructor)
  | apply Dk.loop 0 (V:=Unit) (fun (s:Int) v=>[]) (fun s v=>[(12,.int .i64 (s))]) () [(0,_),(1,_),(11,_)]
  | apply Dk.quiet (id:=4) (by kernel_rfl)
  | apply c82
  | exact ()
theorem c111 {x0:aI} {eR:Addr} {aV:Value} {bK:Value} {aP:Value} {aO:Value}:Ct Tryz.prog 111 true (iG x0) [.pointer (some (eR))] [.ats eR [.int .i64 (x0.aD),aV,bK,aP,aO],.rd false (aE (aC .i64)) aV x0.aG,.rd false (aE (aC .i64)) bK x0.To,.rd false (aE (aC .i64)) aP x0.aJ,.rd false (aE (aE (aC .i64))) aO x0.aF] (fun y (v:Value×Value×Value×Value)=>[.agg #[.int .i64 y.aD,v.1,v.2.1,v.2.2.1,v.2.2.2]]) (fun y v=>[.own (aK 2 (aC .i64)) v.1 y.aG,.own (aK 2 (aC .i64)) v.2.1 y.To,.own (aK 2 (aC .i64)) v.2.2.1 y.aJ,.own (aK 24 (aK 2 (aC .i64))) v.2.2.2 y.aF]):=by
 refine ct (S:=Unit) (owt fun _ _=>rfl) Tryz.func111 rfl rfl ?_
 repeat' first
  | intro _
  | exact rfl
  | (refine @id.{0} _ ?_; constructor)
  | apply Dk.any (id:=1) 24 [] [] [[],[0],[1,0],[2,1,0],[],[4],[5,4],[6,5,4],[7,6,5,4],[],[9],[10,9],[11,10,9],[12,11,10,9,8,7,6,5,4],[],[14],[15,14],[16,15,14],[17,16,15,14,13,12,11,10,9,8,7,6,5,4],[],[19],[20,19],[21,20,19],[22,21,20,19,18,17,16,15,14,13,12,11,10,9,8,7,6,5,4]] (by kernel_rfl)
  | apply c74
  | apply c133
  | exact ()
theorem c72 {x0:aI} {eR:Addr} {aV:Value} {bK:Value} {aP:Value} {aO:Value} {x1:aI} {kM:Addr} {cK:Value} {dA:Value} {bL:Value} {bB:Value} {x2:(List Int)} {eL:Value} {x3:(List Int)} {gS:Value}:Ct Tryz.prog 72 true (lX x0 x1 x2 x3) [.pointer (some (eR)),.pointer (some (kM)),eL,gS] [.ats kM [.int .i64 (x1.aD),cK,dA,bL,bB],.ats eR [.int .i64 (x0.aD),aV,bK,aP,aO],.rd false (aE (aC .i64)) aV x0.aG,.rd false (aE (aC .i64)) bK x0.To,.rd false (aE (aC .i64)) aP x0.aJ,.rd false (aE (aE (aC .i64))) aO x0.aF,.rd false (aE (aC .i64)) cK x1.aG,.rd false (aE (aC .i64)) dA x1.To,.rd false (aE (aC .i64)) bL x1.aJ,.rd false (aE (aE (aC .i64))) bB x1.aF,.rd false (aE (aC .i64)) eL x2,.rd false (aE (aC .i64)) gS x3] (fun y (v:Value×Value×Value×Value×Value×Value×Value×Value×Value×Value)=>[.agg #[.int .i64 y.aA.aD,v.1,v.2.1,v.2.2.1,v.2.2.2.1,.int .i64 y.aB.aD,v.2.2.2.2.1,v.2.2.2.2.2.1,v.2.2.2.2.2.2.1,v.2.2.2.2.2.2.2.1,v.2.2.2.2.2.2.2.2.1,v.2.2.2.2.2.2.2.2.2]]) (fun y v=>[.own (aK 2 (aC .i64)) v.1 y.aA.aG,.own (aK 2 (aC .i64)) v.2.1 y.aA.To,.own (aK 2 (aC .i64)) v.2.2.1 y.aA.aJ,.own (aK 24 (aK 2 (aC .i64))) v.2.2.2.1 y.aA.aF,.own (aK 2 (aC .i64)) v.2.2.2.2.1 y.aB.aG,.own (aK 2 (aC .i64)) v.2.2.2.2.2.1 y.aB.To,.own (aK 2 (aC .i64)) v.2.2.2.2.2.2.1 y.aB.aJ,.own (aK 24 (aK 2 (aC .i64))) v.2.2.2.2.2.2.2.1 y.aB.aF,.own (aK 2 (aC .i64)) v.2.2.2.2.2.2.2.2.1 y.aD,.own (aK 2 (aC .i64)) v.2.2.2.2.2.2.2.2.2 y.Arrows]):=by
 refine ct (S:=Unit) (owt fun _ _=>rfl) Tryz.func72 rfl rfl ?_
 repeat' first
  | intro _
  | exact rfl
  | (refine @id.{0} _ ?_; constructor)
  | apply c111
  | apply c74
  | exact ()
theorem c37 {x0:aN} {eR:Addr} {aW:Value} {bC:Value} {aS:Value} {aQ:Value} {aY:Value} {bD:Value} {aT:Value} {aR:Value} {bS:Value} {bV:Value} {x1:aN} {kM:Addr} {bT:Value} {cE:Value} {bE:Value} {aZ:Value} {bU:Value} {cF:Value} {bF:Value} {bA:Value} {cN:Value} {cO:Value}:Ct Tryz.prog 37 true (fF x0 x1) [.pointer (some (eR)),.pointer (some (kM))] [.ats kM [.int .i64 (x1.aA.aD),bT,cE,bE,aZ,.int .i64 (x1.aB.aD),bU,cF,bF,bA,cN,cO],.ats eR [.int .i64 (x0.aA.aD),aW,bC,aS,aQ,.int .i64 (x0.aB.aD),aY,bD,aT,aR,bS,bV],.rd false (aE (aC .i64)) aW x0.aA.aG,.rd false (aE (aC .i64)) bC x0.aA.To,.rd false (aE (aC .i64)) aS x0.aA.aJ,.rd false (aE (aE (aC .i64))) aQ x0.aA.aF,.rd false (aE (aC .i64)) aY x0.aB.aG,.rd false (aE (aC .i64)) bD x0.aB.To,.rd false (aE (aC .i64)) aT x0.aB.aJ,.rd false (aE (aE (aC .i64))) aR x0.aB.aF,.rd false (aE (aC .i64)) bS x0.aD,.rd false (aE (aC .i64)) bV x0.Arrows,.rd false (aE (aC .i64)) bT x1.aA.aG,.rd false (aE (aC .i64)) cE x1.aA.To,.rd false (aE (aC .i64)) bE x1.aA.aJ,.rd false (aE (aE (aC .i64))) aZ x1.aA.aF,.rd false (aE (aC .i64)) bU x1.aB.aG,.rd false (aE (aC .i64)) cF x1.aB.To,.rd false (aE (aC .i64)) bF x1.aB.aJ,.rd false (aE (aE (aC .i64))) bA x1.aB.aF,.rd false (aE (aC .i64)) cN x1.aD,.rd false (aE (aC .i64)) cO x1.Arrows] (fun y (v:Value×Value×Value×Value×Value×Value×Value×Value×Value×Value)=>[.agg #[.int .i64 y.aA.aD,v.1,v.2.1,v.2.2.1,v.2.2.2.1,.int .i64 y.aB.aD,v.2.2.2.2.1,v.2.2.2.2.2.1,v.2.2.2.2.2.2.1,v.2.2.2.2.2.2.2.1,v.2.2.2.2.2.2.2.2.1,v.2.2.2.2.2.2.2.2.2]]) (fun y v=>[.own (aK 2 (aC .i64)) v.1 y.aA.aG,.own (aK 2 (aC .i64)) v.2.1 y.aA.To,.own (aK 2 (aC .i64)) v.2.2.1 y.aA.aJ,.own (aK 24 (aK 2 (aC .i64))) v.2.2.2.1 y.aA.aF,.own (aK 2 (aC .i64)) v.2.2.2.2.1 y.aB.aG,.own (aK 2 (aC .i64)) v.2.2.2.2.2.1 y.aB.To,.own (aK 2 (aC .i64)) v.2.2.2.2.2.2.1 y.aB.aJ,.own (aK 24 (aK 2 (aC .i64))) v.2.2.2.2.2.2.2.1 y.aB.aF,.own (aK 2 (aC .i64)) v.2.2.2.2.2.2.2.2.1 y.aD,.own (aK 2 (aC .i64)) v.2.2.2.2.2.2.2.2.2 y.Arrows]):=by
 refine ct (S:=Unit) (owt fun _ _=>rfl) Tryz.func37 rfl rfl ?_
 repeat' first
  | intro _
  | exact rfl
  | (refine @id.{0} _ ?_; constructor)
  | apply Dk.any (id:=1) 24 [] [] [[],[0],[1,0],[],[3],[4,3],[],[6],[7,6],[8,7,6],[],[10],[11,10],[12,11,10],[9,8,7,6,13,12,11,10],[],[15],[16,15],[17,16,15],[],[19],[20,19],[21,20,19],[18,17,16,15,22,21,20,19,14,9,8,7,6,13,12,11,10]] (by kernel_rfl)
  | apply c38
  | apply c72
  | exact ()
theorem c73 {x0:aN} {eR:Addr} {aW:Value} {bC:Value} {aS:Value} {aQ:Value} {aY:Value} {bD:Value} {aT:Value} {aR:Value} {bS:Value} {bV:Value}:Ct Tryz.prog 73 true (iP x0) [.pointer (some (eR))] [.ats eR [.int .i64 (x0.aA.aD),aW,bC,aS,aQ,.int .i64 (x0.aB.aD),aY,bD,aT,aR,bS,bV],.rd false (aE (aC .i64)) aW x0.aA.aG,.rd false (aE (aC .i64)) bC x0.aA.To,.rd false (aE (aC .i64)) aS x0.aA.aJ,.rd false (aE (aE (aC .i64))) aQ x0.aA.aF,.rd false (aE (aC .i64)) aY x0.aB.aG,.rd false (aE (aC .i64)) bD x0.aB.To,.rd false (aE (aC .i64)) aT x0.aB.aJ,.rd false (aE (aE (aC .i64))) aR x0.aB.aF,.rd false (aE (aC .i64)) bS x0.aD,.rd false (aE (aC .i64)) bV x0.Arrows] (fun y (v:Value×Value×Value×Value×Value×Value×Value×Value×Value×Value)=>[.agg #[.int .i64 y.aA.aD,v.1,v.2.1,v.2.2.1,v.2.2.2.1,.int .i64 y.aB.aD,v.2.2.2.2.1,v.2.2.2.2.2.1,v.2.2.2.2.2.2.1,v.2.2.2.2.2.2.2.1,v.2.2.2.2.2.2.2.2.1,v.2.2.2.2.2.2.2.2.2]]) (fun y v=>[.own (aK 2 (aC .i64)) v.1 y.aA.aG,.own (aK 2 (aC .i64)) v.2.1 y.aA.To,.own (aK 2 (aC .i64)) v.2.2.1 y.aA.aJ,.own (aK 24 (aK 2 (aC .i64))) v.2.2.2.1 y.aA.aF,.own (aK 2 (aC .i64)) v.2.2.2.2.1 y.aB.aG,.own (aK 2 (aC .i64)) v.2.2.2.2.2.1 y.aB.To,.own (aK 2 (aC .i64)) v.2.2.2.2.2.2.1 y.aB.aJ,.own (aK 24 (aK 2 (aC .i64))) v.2.2.2.2.2.2.2.1 y.aB.aF,.own (aK 2 (aC .i64)) v.2.2.2.2.2.2.2.2.1 y.aD,.own (aK 2 (aC .i64)) v.2.2.2.2.2.2.2.2.2 y.Arrows]):=by
 refine ct (S:=Unit) (owt fun _ _=>rfl) Tryz.func73 rfl rfl ?_
 repeat' first
  | intro _
  | exact rfl
  | (refine @id.{0} _ ?_; constructor)
  | apply Dk.any (id:=1) 14 [] [] [[],[0],[1,0],[],[3],[4,3],[],[6],[7,6],[8,7,6],[],[10],[11,10],[12,11,10]] (by kernel_rfl)
  | apply c72
  | exact ()
end Go.Proofs.YtkhdhnpokfibjaaGreat
