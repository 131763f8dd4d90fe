/- Walks by the calculus D. No condition beside those that each theorem names. -/
import Derived.Test.YtkcpiblgpnjanaaGreatDi
import Derived.Test.YtkcpiblgpnjanaaGreatMo
import Derived.Test.YtkcpiblgpnjanaaGreatDp
import Derived.Test.YtkcpiblgpnjanaaGreatDs
import Derived.Test.YtkcpiblgpnjanaaGreatWa
import Derived.Test.YtkcpiblgpnjanaaGreatWb
import Derived.Test.YtkcpiblgpnjanaaGreatWc
import Derived.Test.YtkcpiblgpnjanaaGreatWd
namespace Go.Proofs.YtkcpiblgpnjanaaGreat
open Go Go.Li Go.Dk
set_option linter.unusedVariables false
set_option maxHeartbeats 16000000
set_option maxRecDepth 100000
theorem Qs {x0:aI} {aU:Value} {bC:Value} {aO:Value} {aM:Value}:Ct Tryz.prog 138 true (kO x0) [.agg #[.int .i64 (x0.aC),aU,bC,aO,aM]] [.rd false (aD (aA .i64)) aU x0.aG,.rd false (aD (aA .i64)) bC x0.To,.rd false (aD (aA .i64)) aO x0.aJ,.rd false (aD (aD (aA .i64))) aM x0.aF] (fun y (v:Value×Value×Value×Value)=>[.agg #[.int .i64 y.aC,v.1,v.2.1,v.2.2.1,v.2.2.2]]) (fun y v=>[.own (aK 2 (aA .i64)) v.1 y.aG,.own (aK 2 (aA .i64)) v.2.1 y.To,.own (aK 2 (aA .i64)) v.2.2.1 y.aJ,.own (aK 24 (aK 2 (aA .i64))) v.2.2.2 y.aF]):=by
 refine ct (S:=Unit) (cf fun _ _=>rfl) Tryz.func138 rfl rfl ?_
 repeat' first
  | ((first | show Dk.ER _ _ _ | show Dk.bd _ _ | show Dk.EF _ _ _ | show Dk.EO _ _ _ | show Dk.EP _ _ | show Dk.bb _ _ _ _ | show Dk.av _ _ _ _ | show Dk.Kp _ _ _ _ | show Dk.bp _ _ | show Dk.bg _ _ _ _); repeat' first | exact rfl | (refine @id.{0} _ ?_; constructor))
  | intro _
  | exact rfl
  | (refine @id.{0} _ ?_; constructor)
  | apply Dk.any (id:=1) 14 [] [] [[],[0],[],[2],[3,2],[],[5],[6,5,4,3,2],[],[8],[9,8,7,6,5,4,3,2],[],[11],[12,11,10,9,8,7,6,5,4,3,2]] (by kernel_rfl)
  | apply yC
  | apply WM
  | exact ()
theorem WZ {x0:aI} {aU:Value} {bC:Value} {aO:Value} {aM:Value} {x1:aI} {bZ:Value} {cM:Value} {bF:Value} {aW:Value}:Ct Tryz.prog 195 true (jM x0 x1) [.agg #[.int .i64 (x0.aC),aU,bC,aO,aM],.agg #[.int .i64 (x1.aC),bZ,cM,bF,aW]] [.rd false (aD (aA .i64)) aU x0.aG,.rd false (aD (aA .i64)) bC x0.To,.rd false (aD (aA .i64)) aO x0.aJ,.rd false (aD (aD (aA .i64))) aM x0.aF,.rd false (aD (aA .i64)) bZ x1.aG,.rd false (aD (aA .i64)) cM x1.To,.rd false (aD (aA .i64)) bF x1.aJ,.rd false (aD (aD (aA .i64))) aW x1.aF] (fun y (v:Value×Value×Value×Value)=>[.agg #[.int .i64 y.aC,v.1,v.2.1,v.2.2.1,v.2.2.2]]) (fun y v=>[.own (aK 2 (aA .i64)) v.1 y.aG,.own (aK 2 (aA .i64)) v.2.1 y.To,.own (aK 2 (aA .i64)) v.2.2.1 y.aJ,.own (aK 24 (aK 2 (aA .i64))) v.2.2.2 y.aF]):=by
 refine ct (S:=Unit) (cf fun _ _=>rfl) Tryz.func195 rfl rfl ?_
 repeat' first
  | ((first | show Dk.ER _ _ _ | show Dk.bd _ _ | show Dk.EF _ _ _ | show Dk.EO _ _ _ | show Dk.EP _ _ | show Dk.bb _ _ _ _ | show Dk.av _ _ _ _ | show Dk.Kp _ _ _ _ | show Dk.bp _ _ | show Dk.bg _ _ _ _); repeat' first | exact rfl | (refine @id.{0} _ ?_; constructor))
  | intro _
  | exact rfl
  | apply Dk.Q0 (d:=69)
  | apply Dk.ixH (d:=70)
  | apply Dk.stR (e:=24) (t:=24)
  | (refine @id.{0} _ ?_; constructor)
  | apply Dk.jq 0 (V:=Value) (A:=Nat×Value×Value×Value) (_,_,_,_) (fun a (s:Int×(List Int)) v=>Dk.pc (fun a0=>Dk.pc (fun a1=>Dk.pc (fun a2 a3=>[.row a0 [.int .i64 (aj (x0.aC+x1.aC)),a1,a2,v,a3] 27,.own (aK 2 (aA .i64)) v s.2]))) a) (fun a s v=>Dk.pc (fun a0=>Dk.pc (fun a1=>Dk.pc (fun a2 a3=>[(7,.pointer (some ⟨a0,0,none⟩)),(8,.int .i64 (s.1))]))) a) _ [(3,_),(4,_),(5,_),(6,_)]
  | apply Dk.jq 2 (V:=Unit) (A:=Value) _ (fun a (s:Int×(List (List Int))) v=>[.own (aK 24 (aK 2 (aA .i64))) a s.2]) (fun a s v=>[(9,.int .i64 (s.1))]) () [(3,_),(4,_),(5,_),(6,_),(7,_)]
  | apply Dk.jq 4 (V:=Unit) (A:=Value) _ (fun a (s:Int×(List (List Int))) v=>[.own (aK 24 (aK 2 (aA .i64))) a s.2]) (fun a s v=>[(10,.int .i64 (s.1))]) () [(3,_),(4,_),(5,_),(6,_),(7,_),(9,_)]
  | apply Dk.jq 6 (V:=Value×Value×Value) (A:=Nat×Value) (_,_) (fun a (s:Int×(List Int)×(List Int)×(List (List Int))) v=>Dk.pc (fun a0 a1=>[.row a0 [.int .i64 (aj (x0.aC+x1.aC)),v.1,v.2.1,a1,v.2.2] 27,.own (aK 2 (aA .i64)) v.1 s.2.1,.own (aK 2 (aA .i64)) v.2.1 s.2.2.1,.own (aK 24 (aK 2 (aA .i64))) v.2.2 s.2.2.2]) a) (fun a s v=>Dk.pc (fun a0 a1=>[(7,.pointer (some ⟨a0,0,none⟩)),(11,.int .i64 (s.1))]) a) (_,_,_) [(3,_),(4,_),(5,_),(6,_)]
  | apply Dk.loop 8 (V:=Value) (fun (s:(List Int)×Int) v=>[.own (aK 2 (aA .i64)) v s.1]) (fun s v=>[(12,v),(13,.int .i64 (s.2))]) _ [(3,_),(4,_),(5,_),(6,_),(7,_),(11,_)]
  | apply Dk.loop 10 (V:=Value) (fun (s:(List Int)×Int) v=>[.own (aK 2 (aA .i64)) v s.1]) (fun s v=>[(12,v),(14,.int .i64 (s.2))]) _ [(3,_),(4,_),(5,_),(6,_),(7,_),(11,_)]
  | apply Dk.quiet (id:=1) (by kernel_rfl)
  | apply Dk.any (id:=7) 10 [] [] [[],[0],[],[2],[],[3,2,4],[5,3,2,4],[],[6,5,3,2,4,7],[8,6,5,3,2,4,7]] (by kernel_rfl)
  | apply Dk.w9 (id:=14) [Dk.aw.own (aK 24 (aK 2 (aA .i64))) _ _] 10 [] [[],[],[],[],[],[],[],[],[],[12]] [[],[0],[],[],[3],[],[4,3,5],[6,4,3,5],[],[7,6,4,3,5,8]] (by kernel_rfl)
  | apply Dk.any (id:=18) 10 [] [] [[],[0],[],[2],[],[3,2,4],[5,3,2,4],[],[6,5,3,2,4,7],[8,6,5,3,2,4,7]] (by kernel_rfl)
  | apply Dk.any (id:=19) 10 [] [] [[],[0],[],[2],[],[3,2,4],[5,3,2,4],[],[6,5,3,2,4,7],[8,6,5,3,2,4,7]] (by kernel_rfl)
  | apply Qs
  | exact ()
theorem W0 {x0:aI} {aU:Value} {bC:Value} {aO:Value} {aM:Value} {x1:aI} {bZ:Value} {cM:Value} {bF:Value} {aW:Value} {x2:(List Int)} {eB:Value} {x3:(List Int)} {hY:Value}:Ct Tryz.prog 72 true (kX x0 x1 x2 x3) [.agg #[.int .i64 (x0.aC),aU,bC,aO,aM],.agg #[.int .i64 (x1.aC),bZ,cM,bF,aW],eB,hY] [.rd false (aD (aA .i64)) aU x0.aG,.rd false (aD (aA .i64)) bC x0.To,.rd false (aD (aA .i64)) aO x0.aJ,.rd false (aD (aD (aA .i64))) aM x0.aF,.rd false (aD (aA .i64)) bZ x1.aG,.rd false (aD (aA .i64)) cM x1.To,.rd false (aD (aA .i64)) bF x1.aJ,.rd false (aD (aD (aA .i64))) aW x1.aF,.rd false (aD (aA .i64)) eB x2,.rd false (aD (aA .i64)) hY x3] (fun y (v:Value×Value×Value×Value×Value×Value×Value×Value×Value×Value)=>[.agg #[.int .i64 y.aB.aC,v.1,v.2.1,v.2.2.1,v.2.2.2.1,.int .i64 y.aE.aC,v.2.2.2.2.1,v.2.2.2.2.2.1,v.2.2.2.2.2.2.1,v.2.2.2.2.2.2.2.1,v.2.2.2.2.2.2.2.2.1,v.2.2.2.2.2.2.2.2.2]]) (fun y v=>[.own (aK 2 (aA .i64)) v.1 y.aB.aG,.own (aK 2 (aA .i64)) v.2.1 y.aB.To,.own (aK 2 (aA .i64)) v.2.2.1 y.aB.aJ,.own (aK 24 (aK 2 (aA .i64))) v.2.2.2.1 y.aB.aF,.own (aK 2 (aA .i64)) v.2.2.2.2.1 y.aE.aG,.own (aK 2 (aA .i64)) v.2.2.2.2.2.1 y.aE.To,.own (aK 2 (aA .i64)) v.2.2.2.2.2.2.1 y.aE.aJ,.own (aK 24 (aK 2 (aA .i64))) v.2.2.2.2.2.2.2.1 y.aE.aF,.own (aK 2 (aA .i64)) v.2.2.2.2.2.2.2.2.1 y.aC,.own (aK 2 (aA .i64)) v.2.2.2.2.2.2.2.2.2 y.af]):=by
 refine ct (S:=Unit) (cf fun _ _=>rfl) Tryz.func72 rfl rfl ?_
 repeat' first
  | ((first | show Dk.ER _ _ _ | show Dk.bd _ _ | show Dk.EF _ _ _ | show Dk.EO _ _ _ | show Dk.EP _ _ | show Dk.bb _ _ _ _ | show Dk.av _ _ _ _ | show Dk.Kp _ _ _ _ | show Dk.bp _ _ | show Dk.bg _ _ _ _); repeat' first | exact rfl | (refine @id.{0} _ ?_; constructor))
  | intro _
  | exact rfl
  | (refine @id.{0} _ ?_; constructor)
  | apply Dk.any (id:=1) 7 [] [] [[],[0],[],[2,1,0],[],[4,3,2,1,0],[]] (by kernel_rfl)
  | apply Qs
  | apply yC
  | exact ()
theorem adi {x0:aN} {dX:Nat} {dC:Value} {x1:aI} {bZ:Value} {cM:Value} {bF:Value} {aW:Value}:Ct Tryz.prog 163 false (oO x0 x1) [.pointer (some (⟨dX,0,none⟩)),.agg #[.int .i64 (x1.aC),bZ,cM,bF,aW]] [.row dX [dC,.int .i64 (x0.At),.int .u64 (x0.ay)] 142,.rd false (aD (aA .u8)) dC x0.Code,.rd false (aD (aA .i64)) bZ x1.aG,.rd false (aD (aA .i64)) cM x1.To,.rd false (aD (aA .i64)) bF x1.aJ,.rd false (aD (aD (aA .i64))) aW x1.aF] (fun y (v:Value×Value×Value×Value)=>[.agg #[.int .i64 y.1.aC,v.1,v.2.1,v.2.2.1,v.2.2.2]]) (fun y v=>[.rd false (aD (aA .i64)) v.1 y.1.aG,.rd false (aD (aA .i64)) v.2.1 y.1.To,.rd false (aD (aA .i64)) v.2.2.1 y.1.aJ,.rd false (aD (aD (aA .i64))) v.2.2.2 y.1.aF,.row dX [dC,.int .i64 y.2.At,.int .u64 y.2.ay] 142]):=by
 refine ct (S:=Unit) Dq Tryz.func163 rfl rfl ?_
 repeat' first
  | ((first | show Dk.ER _ _ _ | show Dk.bd _ _ | show Dk.EF _ _ _ | show Dk.EO _ _ _ | show Dk.EP _ _ | show Dk.bb _ _ _ _ | show Dk.av _ _ _ _ | show Dk.Kp _ _ _ _ | show Dk.bp _ _ | show Dk.bg _ _ _ _); repeat' first | exact rfl | (refine @id.{0} _ ?_; constructor))
  | intro _
  | exact rfl
  | (refine Dk.tA (t:=58) rfl ?_ ?_)
  | apply Dk.slT (t:=24)
  | apply Dk.stN
  | (refine @id.{0} _ ?_; constructor)
  | apply Dk.w9 (id:=13) [Dk.aw.row _ _ 142] 6 [] [[],[],[],[],[],[8]] [[],[0],[],[],[3],[2,4,3]] (by kernel_rfl)
  | apply Dk.w9 (id:=18) [Dk.aw.row _ _ 142] 13 [] [[],[],[],[],[],[],[],[15],[],[],[],[7],[]] [[],[0],[],[1,0,2],[3,1,0,2],[],[],[5,6],[],[],[9],[8,10,9,7,5,6],[11,8,10,9,5,6]] (by kernel_rfl)
  | apply Dk.w9 (id:=21) [Dk.aw.row _ _ 142] 8 [] [[],[],[],[],[],[],[],[10]] [[],[0],[],[],[],[4],[5,4],[3,6,5,4]] (by kernel_rfl)
  | apply Dk.XK (id:=6) 9 (e:=24) (e2:=2) (T:=(aA .i64)) (by kernel_rfl)
  | apply Qs
  | apply Ed
  | apply acZ
  | exact ()
theorem adj {x0:aI} {dK:Addr} {aU:Value} {bC:Value} {aO:Value} {aM:Value}:Ct Tryz.prog 185 true (jE x0) [.pointer (some (dK))] [.ak dK [.int .i64 (x0.aC),aU,bC,aO,aM],.rd false (aD (aA .i64)) aU x0.aG,.rd false (aD (aA .i64)) bC x0.To,.rd false (aD (aA .i64)) aO x0.aJ,.rd false (aD (aD (aA .i64))) aM x0.aF] (fun y (_:Unit)=>[.bool y]) (fun y _=>[]):=by
 refine ct (S:=Unit) (cf fun _ _=>rfl) Tryz.func185 rfl rfl ?_
 repeat' first
  | ((first | show Dk.ER _ _ _ | show Dk.bd _ _ | show Dk.EF _ _ _ | show Dk.EO _ _ _ | show Dk.EP _ _ | show Dk.bb _ _ _ _ | show Dk.av _ _ _ _ | show Dk.Kp _ _ _ _ | show Dk.bp _ _ | show Dk.bg _ _ _ _); repeat' first | exact rfl | (refine @id.{0} _ ?_; constructor))
  | intro _
  | exact rfl
  | (refine @id.{0} _ ?_; constructor)
  | apply Dk.loop 0 (V:=Unit) (fun (s:Int) v=>[]) (fun s v=>[(88,.int .i64 (s))]) () [(0,_),(3,_),(86,_),(87,_)]
  | apply Dk.loop 2 (V:=Unit) (fun (s:Int) v=>[]) (fun s v=>[(106,.int .i64 (s))]) () [(0,_),(3,_),(104,_),(105,_)]
  | apply Dk.loop 4 (V:=Unit) (fun (s:Int) v=>[]) (fun s v=>[(117,.int .i64 (s))]) () [(0,_),(3,_),(6,_),(104,_),(105,_),(106,_),(115,_),(116,_)]
  | apply Dk.quiet (id:=2) (by kernel_rfl)
  | apply Dk.quiet (id:=4) (by kernel_rfl)
  | apply Dk.quiet (id:=20) (by kernel_rfl)
  | apply Dk.quiet (id:=23) (by kernel_rfl)
  | apply Ll
  | apply WQ
  | apply WR
  | apply WV
  | exact ()
theorem adk {x0:aI} {dK:Addr} {aU:Value} {bC:Value} {aO:Value} {aM:Value}:Ct Tryz.prog 145 true (gV x0) [.pointer (some (dK))] [.ak dK [.int .i64 (x0.aC),aU,bC,aO,aM],.rd false (aD (aA .i64)) aU x0.aG,.rd false (aD (aA .i64)) bC x0.To,.rd false (aD (aA .i64)) aO x0.aJ,.rd false (aD (aD (aA .i64))) aM x0.aF] (fun y (_:Unit)=>[.bool y]) (fun y _=>[]):=by
 refine ct (S:=Unit) (cf fun _ _=>rfl) Tryz.func145 rfl rfl ?_
 repeat' first
  | ((first | show Dk.ER _ _ _ | show Dk.bd _ _ | show Dk.EF _ _ _ | show Dk.EO _ _ _ | show Dk.EP _ _ | show Dk.bb _ _ _ _ | show Dk.av _ _ _ _ | show Dk.Kp _ _ _ _ | show Dk.bp _ _ | show Dk.bg _ _ _ _); repeat' first | exact rfl | (refine @id.{0} _ ?_; constructor))
  | intro _
  | exact rfl
  | (refine @id.{0} _ ?_; constructor)
  | apply adj
  | apply acR
  | exact ()
theorem Zo {x0:aV} {dK:Addr} {cB:Value} {cH:Value} {bT:Value} {bL:Value} {cC:Value} {cI:Value} {bU:Value} {bN:Value} {cR:Value} {cY:Value} {cD:Value} {cJ:Value} {bV:Value} {bP:Value} {cE:Value} {cK:Value} {bW:Value} {bQ:Value} {cS:Value} {cZ:Value} {dH:Value}:Ct Tryz.prog 46 true (fF x0) [.pointer (some (dK))] [.ak dK [.int .i64 (x0.aB.aB.aC),cB,cH,bT,bL,.int .i64 (x0.aB.aE.aC),cC,cI,bU,bN,cR,cY,.int .i64 (x0.aE.aB.aC),cD,cJ,bV,bP,.int .i64 (x0.aE.aE.aC),cE,cK,bW,bQ,cS,cZ,dH],.rd false (aD (aA .i64)) cB x0.aB.aB.aG,.rd false (aD (aA .i64)) cH x0.aB.aB.To,.rd false (aD (aA .i64)) bT x0.aB.aB.aJ,.rd false (aD (aD (aA .i64))) bL x0.aB.aB.aF,.rd false (aD (aA .i64)) cC x0.aB.aE.aG,.rd false (aD (aA .i64)) cI x0.aB.aE.To,.rd false (aD (aA .i64)) bU x0.aB.aE.aJ,.rd false (aD (aD (aA .i64))) bN x0.aB.aE.aF,.rd false (aD (aA .i64)) cR x0.aB.aC,.rd false (aD (aA .i64)) cY x0.aB.af,.rd false (aD (aA .i64)) cD x0.aE.aB.aG,.rd false (aD (aA .i64)) cJ x0.aE.aB.To,.rd false (aD (aA .i64)) bV x0.aE.aB.aJ,.rd false (aD (aD (aA .i64))) bP x0.aE.aB.aF,.rd false (aD (aA .i64)) cE x0.aE.aE.aG,.rd false (aD (aA .i64)) cK x0.aE.aE.To,.rd false (aD (aA .i64)) bW x0.aE.aE.aJ,.rd false (aD (aD (aA .i64))) bQ x0.aE.aE.aF,.rd false (aD (aA .i64)) cS x0.aE.aC,.rd false (aD (aA .i64)) cZ x0.aE.af,.rd false (aD (aA .i64)) dH x0.au] (fun y (_:Unit)=>[.bool y]) (fun y _=>[]):=by
 refine ct (S:=Unit) (cf fun _ _=>rfl) Tryz.func46 rfl rfl ?_
 repeat' first
  | ((first | show Dk.ER _ _ _ | show Dk.bd _ _ | show Dk.EF _ _ _ | show Dk.EO _ _ _ | show Dk.EP _ _ | show Dk.bb _ _ _ _ | show Dk.av _ _ _ _ | show Dk.Kp _ _ _ _ | show Dk.bp _ _ | show Dk.bg _ _ _ _); repeat' first | exact rfl | (refine @id.{0} _ ?_; constructor))
  | intro _
  | exact rfl
  | (refine @id.{0} _ ?_; constructor)
  | apply Dk.loop 0 (V:=Unit) (fun (s:Int) v=>[]) (fun s v=>[(10,.int .i64 (s))]) () [(0,_),(8,_),(9,_)]
  | apply WS
  | exact ()
theorem c31 {x0:aI} {aU:Value} {bC:Value} {aO:Value} {aM:Value} {x1:aI} {bZ:Value} {cM:Value} {bF:Value} {aW:Value}:Ct Tryz.prog 31 true (lN x0 x1) [.agg #[.int .i64 (x0.aC),aU,bC,aO,aM],.agg #[.int .i64 (x1.aC),bZ,cM,bF,aW]] [.rd false (aD (aA .i64)) aU x0.aG,.rd false (aD (aA .i64)) bC x0.To,.rd false (aD (aA .i64)) aO x0.aJ,.rd false (aD (aD (aA .i64))) aM x0.aF,.rd false (aD (aA .i64)) bZ x1.aG,.rd false (aD (aA .i64)) cM x1.To,.rd false (aD (aA .i64)) bF x1.aJ,.rd false (aD (aD (aA .i64))) aW x1.aF] (fun y (_:Unit)=>[.bool y]) (fun y _=>[]):=by
 refine ct (S:=Unit) (cf fun _ _=>rfl) Tryz.func31 rfl rfl ?_
 repeat' first
  | ((first | show Dk.ER _ _ _ | show Dk.bd _ _ | show Dk.EF _ _ _ | show Dk.EO _ _ _ | show Dk.EP _ _ | show Dk.bb _ _ _ _ | show Dk.av _ _ _ _ | show Dk.Kp _ _ _ _ | show Dk.bp _ _ | show Dk.bg _ _ _ _); repeat' first | exact rfl | (refine @id.{0} _ ?_; constructor))
  | intro _
  | exact rfl
  | (refine @id.{0} _ ?_; constructor)
  | apply G6
  | apply c32
  | exact ()
theorem c24 {x0:aL} {bA:Value} {bG:Value} {aS:Value} {aP:Value} {bB:Value} {bH:Value} {aT:Value} {aQ:Value} {bI:Value} {bR:Value} {x1:aL} {bJ:Value} {bX:Value} {bD:Value} {aY:Value} {bK:Value} {bY:Value} {bE:Value} {aZ:Value} {cF:Value} {cL:Value}:Ct Tryz.prog 24 true (lO x0 x1) [.agg #[.int .i64 (x0.aB.aC),bA,bG,aS,aP,.int .i64 (x0.aE.aC),bB,bH,aT,aQ,bI,bR],.agg #[.int .i64 (x1.aB.aC),bJ,bX,bD,aY,.int .i64 (x1.aE.aC),bK,bY,bE,aZ,cF,cL]] [.rd false (aD (aA .i64)) bA x0.aB.aG,.rd false (aD (aA .i64)) bG x0.aB.To,.rd false (aD (aA .i64)) aS x0.aB.aJ,.rd false (aD (aD (aA .i64))) aP x0.aB.aF,.rd false (aD (aA .i64)) bB x0.aE.aG,.rd false (aD (aA .i64)) bH x0.aE.To,.rd false (aD (aA .i64)) aT x0.aE.aJ,.rd false (aD (aD (aA .i64))) aQ x0.aE.aF,.rd false (aD (aA .i64)) bI x0.aC,.rd false (aD (aA .i64)) bR x0.af,.rd false (aD (aA .i64)) bJ x1.aB.aG,.rd false (aD (aA .i64)) bX x1.aB.To,.rd false (aD (aA .i64)) bD x1.aB.aJ,.rd false (aD (aD (aA .i64))) aY x1.aB.aF,.rd false (aD (aA .i64)) bK x1.aE.aG,.rd false (aD (aA .i64)) bY x1.aE.To,.rd false (aD (aA .i64)) bE x1.aE.aJ,.rd false (aD (aD (aA .i64))) aZ x1.aE.aF,.rd false (aD (aA .i64)) cF x1.aC,.rd false (aD (aA .i64)) cL x1.af] (fun y (_:Unit)=>[.bool y]) (fun y _=>[]):=by
 refine ct (S:=Unit) (cf fun _ _=>rfl) Tryz.func24 rfl rfl ?_
 repeat' first
  | ((first | show Dk.ER _ _ _ | show Dk.bd _ _ | show Dk.EF _ _ _ | show Dk.EO _ _ _ | show Dk.EP _ _ | show Dk.bb _ _ _ _ | show Dk.av _ _ _ _ | show Dk.Kp _ _ _ _ | show Dk.bp _ _ | show Dk.bg _ _ _ _); repeat' first | exact rfl | (refine @id.{0} _ ?_; constructor))
  | intro _
  | exact rfl
  | (refine @id.{0} _ ?_; constructor)
  | apply c31
  | apply G6
  | exact ()
end Go.Proofs.YtkcpiblgpnjanaaGreat
