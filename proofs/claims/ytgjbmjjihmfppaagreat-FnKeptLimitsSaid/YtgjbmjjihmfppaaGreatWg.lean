/- Walks by the calculus D. No condition beside those that each theorem names. -/
import Derived.Test.YtgjbmjjihmfppaaGreatDi
import Derived.Test.YtgjbmjjihmfppaaGreatMo
import Derived.Test.YtgjbmjjihmfppaaGreatDp
import Derived.Test.YtgjbmjjihmfppaaGreatDs
import Derived.Test.YtgjbmjjihmfppaaGreatWa
import Derived.Test.YtgjbmjjihmfppaaGreatWb
import Derived.Test.YtgjbmjjihmfppaaGreatWc
import Derived.Test.YtgjbmjjihmfppaaGreatWd
namespace Go.Proofs.YtgjbmjjihmfppaaGreat
open Go Go.Li Go.Dk
set_option linter.unusedVariables false
set_option maxHeartbeats 16000000
set_option maxRecDepth 100000
theorem Qq {x0:aI} {aT:Value} {bB:Value} {aO:Value} {aN:Value}:Ct Tryz.prog 110 true (jO x0) [.agg #[.int .i64 (x0.aA),aT,bB,aO,aN]] [.rd false (aB (aC .i64)) aT x0.aF,.rd false (aB (aC .i64)) bB x0.To,.rd false (aB (aC .i64)) aO x0.aJ,.rd false (aB (aB (aC .i64))) aN x0.aD] (fun y (v:Value×Value×Value×Value)=>[.agg #[.int .i64 y.aA,v.1,v.2.1,v.2.2.1,v.2.2.2]]) (fun y v=>[.own (aL 2 (aC .i64)) v.1 y.aF,.own (aL 2 (aC .i64)) v.2.1 y.To,.own (aL 2 (aC .i64)) v.2.2.1 y.aJ,.own (aL 24 (aL 2 (aC .i64))) v.2.2.2 y.aD]):=by
 refine ct (S:=Unit) (ca fun _ _=>rfl) Tryz.func110 rfl rfl ?_
 repeat' first
  | ((first | show Dk.ER _ _ _ | show Dk.ba _ _ | show Dk.EF _ _ _ | show Dk.EO _ _ _ | show Dk.EP _ _ | show Dk.aX _ _ _ _ | show Dk.aq _ _ _ _ | show Dk.Kp _ _ _ _ | show Dk.bn _ _ | show Dk.bb _ _ _ _); repeat' first | exact rfl | (refine @id.{0} _ ?_; constructor))
  | intro _
  | exact rfl
  | (refine @id.{0} _ ?_; constructor)
  | apply Dk.any (id:=1) 14 [] [] [[],[0],[],[2],[3,2],[],[5],[6,5,4,3,2],[],[8],[9,8,7,6,5,4,3,2],[],[11],[12,11,10,9,8,7,6,5,4,3,2]] (by kernel_rfl)
  | apply yU
  | apply WM
  | exact ()
theorem W5 {x0:aI} {aT:Value} {bB:Value} {aO:Value} {aN:Value} {x1:aI} {bS:Value} {cG:Value} {bD:Value} {aZ:Value}:Ct Tryz.prog 132 true (iG x0 x1) [.agg #[.int .i64 (x0.aA),aT,bB,aO,aN],.agg #[.int .i64 (x1.aA),bS,cG,bD,aZ]] [.rd false (aB (aC .i64)) aT x0.aF,.rd false (aB (aC .i64)) bB x0.To,.rd false (aB (aC .i64)) aO x0.aJ,.rd false (aB (aB (aC .i64))) aN x0.aD,.rd false (aB (aC .i64)) bS x1.aF,.rd false (aB (aC .i64)) cG x1.To,.rd false (aB (aC .i64)) bD x1.aJ,.rd false (aB (aB (aC .i64))) aZ x1.aD] (fun y (v:Value×Value×Value×Value)=>[.agg #[.int .i64 y.aA,v.1,v.2.1,v.2.2.1,v.2.2.2]]) (fun y v=>[.own (aL 2 (aC .i64)) v.1 y.aF,.own (aL 2 (aC .i64)) v.2.1 y.To,.own (aL 2 (aC .i64)) v.2.2.1 y.aJ,.own (aL 24 (aL 2 (aC .i64))) v.2.2.2 y.aD]):=by
 refine ct (S:=Unit) (ca fun _ _=>rfl) Tryz.func132 rfl rfl ?_
 repeat' first
  | ((first | show Dk.ER _ _ _ | show Dk.ba _ _ | show Dk.EF _ _ _ | show Dk.EO _ _ _ | show Dk.EP _ _ | show Dk.aX _ _ _ _ | show Dk.aq _ _ _ _ | show Dk.Kp _ _ _ _ | show Dk.bn _ _ | show Dk.bb _ _ _ _); repeat' first | exact rfl | (refine @id.{0} _ ?_; constructor))
  | intro _
  | exact rfl
  | apply Dk.YS (d:=69)
  | apply Dk.ixH (d:=70)
  | apply Dk.stR (e:=24) (t:=24)
  | (refine @id.{0} _ ?_; constructor)
  | apply Dk.jr 0 (V:=Value) (A:=Nat×Value×Value×Value) (_,_,_,_) (fun a (s:Int×(List Int)) v=>Dk.pc (fun a0=>Dk.pc (fun a1=>Dk.pc (fun a2 a3=>[.row a0 [.int .i64 (aj (x0.aA+x1.aA)),a1,a2,v,a3] 27,.own (aL 2 (aC .i64)) v s.2]))) a) (fun a s v=>Dk.pc (fun a0=>Dk.pc (fun a1=>Dk.pc (fun a2 a3=>[(7,.pointer (some ⟨a0,0,none⟩)),(8,.int .i64 (s.1))]))) a) _ [(3,_),(4,_),(5,_),(6,_)]
  | apply Dk.jr 2 (V:=Unit) (A:=Value) _ (fun a (s:Int×(List (List Int))) v=>[.own (aL 24 (aL 2 (aC .i64))) a s.2]) (fun a s v=>[(9,.int .i64 (s.1))]) () [(3,_),(4,_),(5,_),(6,_),(7,_)]
  | apply Dk.jr 4 (V:=Unit) (A:=Value) _ (fun a (s:Int×(List (List Int))) v=>[.own (aL 24 (aL 2 (aC .i64))) a s.2]) (fun a s v=>[(10,.int .i64 (s.1))]) () [(3,_),(4,_),(5,_),(6,_),(7,_),(9,_)]
  | apply Dk.jr 6 (V:=Value×Value×Value) (A:=Nat×Value) (_,_) (fun a (s:Int×(List Int)×(List Int)×(List (List Int))) v=>Dk.pc (fun a0 a1=>[.row a0 [.int .i64 (aj (x0.aA+x1.aA)),v.1,v.2.1,a1,v.2.2] 27,.own (aL 2 (aC .i64)) v.1 s.2.1,.own (aL 2 (aC .i64)) v.2.1 s.2.2.1,.own (aL 24 (aL 2 (aC .i64))) v.2.2 s.2.2.2]) a) (fun a s v=>Dk.pc (fun a0 a1=>[(7,.pointer (some ⟨a0,0,none⟩)),(11,.int .i64 (s.1))]) a) (_,_,_) [(3,_),(4,_),(5,_),(6,_)]
  | apply Dk.loop 8 (V:=Value) (fun (s:(List Int)×Int) v=>[.own (aL 2 (aC .i64)) v s.1]) (fun s v=>[(12,v),(13,.int .i64 (s.2))]) _ [(3,_),(4,_),(5,_),(6,_),(7,_),(11,_)]
  | apply Dk.loop 10 (V:=Value) (fun (s:(List Int)×Int) v=>[.own (aL 2 (aC .i64)) v s.1]) (fun s v=>[(12,v),(14,.int .i64 (s.2))]) _ [(3,_),(4,_),(5,_),(6,_),(7,_),(11,_)]
  | apply Dk.quiet (id:=1) (by kernel_rfl)
  | apply Dk.any (id:=7) 10 [] [] [[],[0],[],[2],[],[3,2,4],[5,3,2,4],[],[6,5,3,2,4,7],[8,6,5,3,2,4,7]] (by kernel_rfl)
  | apply Dk.wq (id:=14) [Dk.aw.own (aL 24 (aL 2 (aC .i64))) _ _] 10 [] [[],[],[],[],[],[],[],[],[],[12]] [[],[0],[],[],[3],[],[4,3,5],[6,4,3,5],[],[7,6,4,3,5,8]] (by kernel_rfl)
  | apply Dk.any (id:=18) 10 [] [] [[],[0],[],[2],[],[3,2,4],[5,3,2,4],[],[6,5,3,2,4,7],[8,6,5,3,2,4,7]] (by kernel_rfl)
  | apply Dk.any (id:=19) 10 [] [] [[],[0],[],[2],[],[3,2,4],[5,3,2,4],[],[6,5,3,2,4,7],[8,6,5,3,2,4,7]] (by kernel_rfl)
  | apply Qq
  | exact ()
theorem RP {x0:aI} {aT:Value} {bB:Value} {aO:Value} {aN:Value} {x1:aI} {bS:Value} {cG:Value} {bD:Value} {aZ:Value} {x2:(List Int)} {dX:Value} {x3:(List Int)} {fX:Value}:Ct Tryz.prog 71 true (iR x0 x1 x2 x3) [.agg #[.int .i64 (x0.aA),aT,bB,aO,aN],.agg #[.int .i64 (x1.aA),bS,cG,bD,aZ],dX,fX] [.rd false (aB (aC .i64)) aT x0.aF,.rd false (aB (aC .i64)) bB x0.To,.rd false (aB (aC .i64)) aO x0.aJ,.rd false (aB (aB (aC .i64))) aN x0.aD,.rd false (aB (aC .i64)) bS x1.aF,.rd false (aB (aC .i64)) cG x1.To,.rd false (aB (aC .i64)) bD x1.aJ,.rd false (aB (aB (aC .i64))) aZ x1.aD,.rd false (aB (aC .i64)) dX x2,.rd false (aB (aC .i64)) fX x3] (fun y (v:Value×Value×Value×Value×Value×Value×Value×Value×Value×Value)=>[.agg #[.int .i64 y.aE.aA,v.1,v.2.1,v.2.2.1,v.2.2.2.1,.int .i64 y.aH.aA,v.2.2.2.2.1,v.2.2.2.2.2.1,v.2.2.2.2.2.2.1,v.2.2.2.2.2.2.2.1,v.2.2.2.2.2.2.2.2.1,v.2.2.2.2.2.2.2.2.2]]) (fun y v=>[.own (aL 2 (aC .i64)) v.1 y.aE.aF,.own (aL 2 (aC .i64)) v.2.1 y.aE.To,.own (aL 2 (aC .i64)) v.2.2.1 y.aE.aJ,.own (aL 24 (aL 2 (aC .i64))) v.2.2.2.1 y.aE.aD,.own (aL 2 (aC .i64)) v.2.2.2.2.1 y.aH.aF,.own (aL 2 (aC .i64)) v.2.2.2.2.2.1 y.aH.To,.own (aL 2 (aC .i64)) v.2.2.2.2.2.2.1 y.aH.aJ,.own (aL 24 (aL 2 (aC .i64))) v.2.2.2.2.2.2.2.1 y.aH.aD,.own (aL 2 (aC .i64)) v.2.2.2.2.2.2.2.2.1 y.aA,.own (aL 2 (aC .i64)) v.2.2.2.2.2.2.2.2.2 y.ab]):=by
 refine ct (S:=Unit) (ca fun _ _=>rfl) Tryz.func71 rfl rfl ?_
 repeat' first
  | ((first | show Dk.ER _ _ _ | show Dk.ba _ _ | show Dk.EF _ _ _ | show Dk.EO _ _ _ | show Dk.EP _ _ | show Dk.aX _ _ _ _ | show Dk.aq _ _ _ _ | show Dk.Kp _ _ _ _ | show Dk.bn _ _ | show Dk.bb _ _ _ _); repeat' first | exact rfl | (refine @id.{0} _ ?_; constructor))
  | intro _
  | exact rfl
  | (refine @id.{0} _ ?_; constructor)
  | apply Dk.any (id:=1) 7 [] [] [[],[0],[],[2,1,0],[],[4,3,2,1,0],[]] (by kernel_rfl)
  | apply Qq
  | apply yU
  | exact ()
theorem adA {x0:aK} {cV:Nat} {bW:Value} {x1:aI} {bS:Value} {cG:Value} {bD:Value} {aZ:Value}:Ct Tryz.prog 102 false (oU x0 x1) [.pointer (some (⟨cV,0,none⟩)),.agg #[.int .i64 (x1.aA),bS,cG,bD,aZ]] [.row cV [bW,.int .i64 (x0.At),.int .u64 (x0.ao)] 81,.rd false (aB (aC .u8)) bW x0.Code,.rd false (aB (aC .i64)) bS x1.aF,.rd false (aB (aC .i64)) cG x1.To,.rd false (aB (aC .i64)) bD x1.aJ,.rd false (aB (aB (aC .i64))) aZ x1.aD] (fun y (v:Value×Value×Value×Value)=>[.agg #[.int .i64 y.1.aA,v.1,v.2.1,v.2.2.1,v.2.2.2]]) (fun y v=>[.rd false (aB (aC .i64)) v.1 y.1.aF,.rd false (aB (aC .i64)) v.2.1 y.1.To,.rd false (aB (aC .i64)) v.2.2.1 y.1.aJ,.rd false (aB (aB (aC .i64))) v.2.2.2 y.1.aD,.row cV [bW,.int .i64 y.2.At,.int .u64 y.2.ao] 81]):=by
 refine ct (S:=Unit) tZ Tryz.func102 rfl rfl ?_
 repeat' first
  | ((first | show Dk.ER _ _ _ | show Dk.ba _ _ | show Dk.EF _ _ _ | show Dk.EO _ _ _ | show Dk.EP _ _ | show Dk.aX _ _ _ _ | show Dk.aq _ _ _ _ | show Dk.Kp _ _ _ _ | show Dk.bn _ _ | show Dk.bb _ _ _ _); repeat' first | exact rfl | (refine @id.{0} _ ?_; constructor))
  | intro _
  | exact rfl
  | (refine Dk.ue (t:=58) rfl ?_ ?_)
  | apply Dk.slT (t:=24)
  | apply Dk.stN
  | (refine @id.{0} _ ?_; constructor)
  | apply Dk.wq (id:=13) [Dk.aw.row _ _ 81] 6 [] [[],[],[],[],[],[8]] [[],[0],[],[],[3],[2,4,3]] (by kernel_rfl)
  | apply Dk.wq (id:=18) [Dk.aw.row _ _ 81] 13 [] [[],[],[],[],[],[],[],[15],[],[],[],[7],[]] [[],[0],[],[1,0,2],[3,1,0,2],[],[],[5,6],[],[],[9],[8,10,9,7,5,6],[11,8,10,9,5,6]] (by kernel_rfl)
  | apply Dk.wq (id:=21) [Dk.aw.row _ _ 81] 8 [] [[],[],[],[],[],[],[],[10]] [[],[0],[],[],[],[4],[5,4],[3,6,5,4]] (by kernel_rfl)
  | apply Dk.XW (id:=6) 9 (e:=24) (e2:=2) (T:=(aC .i64)) (by kernel_rfl)
  | apply Qq
  | apply zB
  | apply adg
  | exact ()
theorem adB {x0:aI} {aT:Value} {bB:Value} {aO:Value} {aN:Value}:Ct Tryz.prog 106 true (oX x0) [.agg #[.int .i64 (x0.aA),aT,bB,aO,aN]] [.rd false (aB (aC .i64)) aT x0.aF,.rd false (aB (aC .i64)) bB x0.To,.rd false (aB (aC .i64)) aO x0.aJ,.rd false (aB (aB (aC .i64))) aN x0.aD] (fun y (_:Unit)=>[.bool y]) (fun y _=>[]):=by
 refine ct (S:=Unit) (ca fun _ _=>rfl) Tryz.func106 rfl rfl ?_
 repeat' first
  | ((first | show Dk.ER _ _ _ | show Dk.ba _ _ | show Dk.EF _ _ _ | show Dk.EO _ _ _ | show Dk.EP _ _ | show Dk.aX _ _ _ _ | show Dk.aq _ _ _ _ | show Dk.Kp _ _ _ _ | show Dk.bn _ _ | show Dk.bb _ _ _ _); repeat' first | exact rfl | (refine @id.{0} _ ?_; constructor))
  | intro _
  | exact rfl
  | (refine Dk.ue (t:=102) rfl ?_ ?_)
  | (refine @id.{0} _ ?_; constructor)
  | apply Dk.loop 0 (V:=Unit) (fun (s:Int) v=>[]) (fun s v=>[(4,.int .i64 (s))]) () [(1,_),(3,_)]
  | apply Dk.loop 2 (V:=Unit) (fun (s:Int) v=>[]) (fun s v=>[(5,.int .i64 (s))]) () [(1,_),(3,_)]
  | apply Dk.loop 4 (V:=Unit) (fun (s:Int) v=>[]) (fun s v=>[(6,.int .i64 (s))]) () [(1,_),(3,_),(5,_)]
  | apply Dk.quiet (id:=9) (by kernel_rfl)
  | apply Dk.quiet (id:=20) (by kernel_rfl)
  | apply Dk.quiet (id:=23) (by kernel_rfl)
  | apply adn
  | apply ac2
  | apply WQ
  | exact ()
theorem c67 {x0:aI} {aT:Value} {bB:Value} {aO:Value} {aN:Value}:Ct Tryz.prog 67 true (oY x0) [.agg #[.int .i64 (x0.aA),aT,bB,aO,aN]] [.rd false (aB (aC .i64)) aT x0.aF,.rd false (aB (aC .i64)) bB x0.To,.rd false (aB (aC .i64)) aO x0.aJ,.rd false (aB (aB (aC .i64))) aN x0.aD] (fun y (_:Unit)=>[.bool y]) (fun y _=>[]):=by
 refine ct (S:=Unit) (ca fun _ _=>rfl) Tryz.func67 rfl rfl ?_
 repeat' first
  | ((first | show Dk.ER _ _ _ | show Dk.ba _ _ | show Dk.EF _ _ _ | show Dk.EO _ _ _ | show Dk.EP _ _ | show Dk.aX _ _ _ _ | show Dk.aq _ _ _ _ | show Dk.Kp _ _ _ _ | show Dk.bn _ _ | show Dk.bb _ _ _ _); repeat' first | exact rfl | (refine @id.{0} _ ?_; constructor))
  | intro _
  | exact rfl
  | (refine @id.{0} _ ?_; constructor)
  | apply adB
  | apply ac8
  | exact ()
theorem c86 {x0:aI} {aT:Value} {bB:Value} {aO:Value} {aN:Value} {x1:aI} {bS:Value} {cG:Value} {bD:Value} {aZ:Value}:Ct Tryz.prog 86 true (pB x0 x1) [.agg #[.int .i64 (x0.aA),aT,bB,aO,aN],.agg #[.int .i64 (x1.aA),bS,cG,bD,aZ]] [.rd false (aB (aC .i64)) aT x0.aF,.rd false (aB (aC .i64)) bB x0.To,.rd false (aB (aC .i64)) aO x0.aJ,.rd false (aB (aB (aC .i64))) aN x0.aD,.rd false (aB (aC .i64)) bS x1.aF,.rd false (aB (aC .i64)) cG x1.To,.rd false (aB (aC .i64)) bD x1.aJ,.rd false (aB (aB (aC .i64))) aZ x1.aD] (fun y (_:Unit)=>[.bool y]) (fun y _=>[]):=by
 refine ct (S:=Unit) (ca fun _ _=>rfl) Tryz.func86 rfl rfl ?_
 repeat' first
  | ((first | show Dk.ER _ _ _ | show Dk.ba _ _ | show Dk.EF _ _ _ | show Dk.EO _ _ _ | show Dk.EP _ _ | show Dk.aX _ _ _ _ | show Dk.aq _ _ _ _ | show Dk.Kp _ _ _ _ | show Dk.bn _ _ | show Dk.bb _ _ _ _); repeat' first | exact rfl | (refine @id.{0} _ ?_; constructor))
  | intro _
  | exact rfl
  | (refine @id.{0} _ ?_; constructor)
  | apply WV
  | apply adk
  | exact ()
theorem ZA {x0:aM} {dE:Addr} {aU:Value} {aW:Value} {aR:Value} {aP:Value} {aV:Value} {aY:Value} {aS:Value} {aQ:Value} {bC:Value} {bF:Value} {x1:bE} {eZ:Value}:Ct Tryz.prog 53 true (nC x0 x1) [.pointer (some (dE)),.agg #[.int .i64 (x1.fv),eZ]] [.au dE [.int .i64 (x0.aE.aA),aU,aW,aR,aP,.int .i64 (x0.aH.aA),aV,aY,aS,aQ,bC,bF],.rd false (aB (aC .i64)) aU x0.aE.aF,.rd false (aB (aC .i64)) aW x0.aE.To,.rd false (aB (aC .i64)) aR x0.aE.aJ,.rd false (aB (aB (aC .i64))) aP x0.aE.aD,.rd false (aB (aC .i64)) aV x0.aH.aF,.rd false (aB (aC .i64)) aY x0.aH.To,.rd false (aB (aC .i64)) aS x0.aH.aJ,.rd false (aB (aB (aC .i64))) aQ x0.aH.aD,.rd false (aB (aC .i64)) bC x0.aA,.rd false (aB (aC .i64)) bF x0.ab,.rd false (aB (aC .i64)) eZ x1.bw] (fun y (_:Unit)=>[.bool y]) (fun y _=>[]):=by
 refine ct (S:=Unit) (ca fun _ _=>rfl) Tryz.func53 rfl rfl ?_
 repeat' first
  | ((first | show Dk.ER _ _ _ | show Dk.ba _ _ | show Dk.EF _ _ _ | show Dk.EO _ _ _ | show Dk.EP _ _ | show Dk.aX _ _ _ _ | show Dk.aq _ _ _ _ | show Dk.Kp _ _ _ _ | show Dk.bn _ _ | show Dk.bb _ _ _ _); repeat' first | exact rfl | (refine @id.{0} _ ?_; constructor))
  | intro _
  | exact rfl
  | (refine @id.{0} _ ?_; constructor)
  | apply Dk.loop 0 (V:=Unit) (fun (s:Int) v=>[]) (fun s v=>[(44,.int .i64 (s))]) () [(0,_),(3,_),(5,_),(42,_),(43,_)]
  | apply Dk.loop 2 (V:=Unit) (fun (s:Int) v=>[]) (fun s v=>[(69,.int .i64 (s))]) () [(0,_),(3,_),(5,_),(67,_),(68,_)]
  | apply Dk.quiet (id:=2) (by kernel_rfl)
  | apply Dk.quiet (id:=7) (by kernel_rfl)
  | apply Dk.quiet (id:=13) (by kernel_rfl)
  | apply WZ
  | apply N1
  | apply W0
  | apply Zx
  | apply Ki
  | exact ()
theorem c75 {x0:qE} {rQ:Addr} {dG:Value} {dQ:Value} {cT:Value} {cR:Value} {dH:Value} {dR:Value} {cU:Value} {cS:Value} {dU:Value} {dY:Value} {x1:(List bE)} {dP:Value}:Ct Tryz.prog 75 true (nM x0 x1) [.iface 130 (.agg #[.pointer (some (rQ))]),dP] [.au rQ [.int .i64 (x0.D.aE.aA),dG,dQ,cT,cR,.int .i64 (x0.D.aH.aA),dH,dR,cU,cS,dU,dY],.rd false (aB (aC .i64)) dG x0.D.aE.aF,.rd false (aB (aC .i64)) dQ x0.D.aE.To,.rd false (aB (aC .i64)) cT x0.D.aE.aJ,.rd false (aB (aB (aC .i64))) cR x0.D.aE.aD,.rd false (aB (aC .i64)) dH x0.D.aH.aF,.rd false (aB (aC .i64)) dR x0.D.aH.To,.rd false (aB (aC .i64)) cU x0.D.aH.aJ,.rd false (aB (aB (aC .i64))) cS x0.D.aH.aD,.rd false (aB (aC .i64)) dU x0.D.aA,.rd false (aB (aC .i64)) dY x0.D.ab,.rd false (aB (iy kz)) dP x1] (fun y (_:Unit)=>[.int .i64 y]) (fun y _=>[]):=by
 refine ct (S:=Unit) (ca fun _ _=>rfl) Tryz.func75 rfl rfl ?_
 repeat' first
  | ((first | show Dk.ER _ _ _ | show Dk.ba _ _ | show Dk.EF _ _ _ | show Dk.EO _ _ _ | show Dk.EP _ _ | show Dk.aX _ _ _ _ | show Dk.aq _ _ _ _ | show Dk.Kp _ _ _ _ | show Dk.bn _ _ | show Dk.bb _ _ _ _); repeat' first | exact rfl | (refine @id.{0} _ ?_; constructor))
  | intro _
  | exact rfl
  | (refine @id.{0} _ ?_; constructor)
  | apply Dk.loop 0 (V:=Unit) (fun (s:Int) v=>[]) (fun s v=>[(9,.int .i64 (s))]) () [(0,_),(7,_),(8,_)]
  | apply Dk.quiet (id:=4) (by kernel_rfl)
  | apply ZA
  | apply W1
  | exact Dk.Tk (by kernel_rfl)
  | exact ()
end Go.Proofs.YtgjbmjjihmfppaaGreat
