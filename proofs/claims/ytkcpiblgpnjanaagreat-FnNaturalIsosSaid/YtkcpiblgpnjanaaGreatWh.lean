/- Walks by the calculus D. No condition beside those that each theorem names. -/
import Derived.Test.YtkcpiblgpnjanaaGreatDi
import Derived.Test.YtkcpiblgpnjanaaGreatMo
import Derived.Test.YtkcpiblgpnjanaaGreatDp
import Derived.Test.YtkcpiblgpnjanaaGreatDs
import Derived.Test.YtkcpiblgpnjanaaGreatWa
import Derived.Test.YtkcpiblgpnjanaaGreatWb
import Derived.Test.YtkcpiblgpnjanaaGreatWc
namespace Go.Proofs.YtkcpiblgpnjanaaGreat
open Go Go.Li Go.Dk
set_option linter.unusedVariables false
set_option maxHeartbeats 16000000
set_option maxRecDepth 100000
theorem adl {x0:Int} {x1:(List Int)} {eC:Value} {x2:(List Int)} {eB:Value}:Ct Tryz.prog 216 false (lP x0 x1 x2) [.int .i64 (x0),eC,eB] [.rd false (aD (aA .i64)) eC x1,.rd false (aD (aA .i64)) eB x2] (fun y (v:Value)=>[v]) (fun y v=>[.rd false (aD (r4 vw)) v y]):=by
 refine ct (S:=Unit) Dq Tryz.func216 rfl rfl ?_
 repeat' first
  | ((first | show Dk.ER _ _ _ | show Dk.bd _ _ | show Dk.EF _ _ _ | show Dk.EO _ _ _ | show Dk.EP _ _ | show Dk.bb _ _ _ _ | show Dk.av _ _ _ _ | show Dk.Kp _ _ _ _ | show Dk.bp _ _ | show Dk.bg _ _ _ _); repeat' first | exact rfl | (refine @id.{0} _ ?_; constructor))
  | intro _
  | exact rfl
  | (refine (id (α:=@Eq (List Value) _ _) ?_); dsimp only; try exact rfl)
  | apply Dk.lgS (t:=239) (S:=vw)
  | apply Dk.lnS (t:=239)
  | apply Dk.ixS (t:=239)
  | apply Dk.apS (t:=239) (bS.mk _ _ _)
  | apply Dk.Q9 (n:=3)
  | apply Dk.OZ (n:=3)
  | apply Dk.Uz (n:=3)
  | apply Dk.stS (n:=3) (S:=vw) _
  | apply Dk.AD.TQ
  | apply Dk.AD.Yo (n:=3)
  | apply Dk.AD.TR (n:=3)
  | (refine @id.{0} _ ?_; constructor)
  | apply Dk.DG 0 (V:=Value) (W:=List (List Value)) (fun (s:(List bS)×Int) v u=>[.own (aK 242 (jm 3)) v u,.rd false (vG vw) (.bool true) (u,s.1)]) (fun s v u=>[(7,v),(8,.int .i64 (s.2))]) _ _ [(0,_),(1,_),(2,_)]
  | apply Dk.DG 2 (V:=Value) (W:=List (List Value)) (fun (s:(List bS)×Int) v u=>[.own (aK 242 (jm 3)) v u,.rd false (vG vw) (.bool true) (u,s.1)]) (fun s v u=>[(7,v),(9,.int .i64 (s.2))]) _ _ [(0,_),(1,_),(2,_)]
  | apply Dk.DG 4 (V:=Value) (W:=List (List Value)) (fun (s:(List bS)×Int) v u=>[.own (aK 242 (jm 3)) v u,.rd false (vG vw) (.bool true) (u,s.1)]) (fun s v u=>[(7,v),(10,.int .i64 (s.2))]) _ _ [(0,_),(1,_),(2,_),(9,_)]
  | apply Dk.DG 6 (V:=Value) (W:=List (List Value)) (fun (s:(List bS)×Int) v u=>[.own (aK 242 (jm 3)) v u,.rd false (vG vw) (.bool true) (u,s.1)]) (fun s v u=>[(7,v),(11,.int .i64 (s.2))]) _ _ []
  | apply Dk.DG 8 (V:=Value) (W:=List (List Value)) (fun (s:(List bS)×Int) v u=>[.own (aK 242 (jm 3)) v u,.rd false (vG vw) (.bool true) (u,s.1)]) (fun s v u=>[(7,v),(12,.int .i64 (s.2))]) _ _ [(11,_)]
  | apply Dk.quiet (id:=12) (by kernel_rfl)
  | apply Dk.quiet (id:=18) (by kernel_rfl)
  | apply Dk.any (id:=13) 19 [0] [[],[],[],[],[],[],[],[],[],[],[],[],[],[],[],[],[],[],[15]] [[],[],[],[1,2],[3,1,2],[4,3,1,2],[],[],[6,7],[8,6,7],[],[],[10,11],[12,10,11],[13,12,10,11],[14,13,12,10,11],[],[16],[15,14,13,12,10,11,17,16,15,14,13,12,10,11]] (by kernel_rfl)
  | apply yC
  | apply acO
  | exact ()
theorem adm {x0:Int} {x1:(List Int)} {eC:Value} {x2:(List Int)} {eB:Value}:Ct Tryz.prog 207 true (fP x0 x1 x2) [.int .i64 (x0),eC,eB] [.rd false (aD (aA .i64)) eC x1,.rd false (aD (aA .i64)) eB x2] (fun y (v:Value×Value×Value×Value)=>[.agg #[.int .i64 y.aC,v.1,v.2.1,v.2.2.1,v.2.2.2]]) (fun y v=>[.own (aK 2 (aA .i64)) v.1 y.aG,.own (aK 2 (aA .i64)) v.2.1 y.To,.own (aK 2 (aA .i64)) v.2.2.1 y.aJ,.own (aK 24 (aK 2 (aA .i64))) v.2.2.2 y.aF]):=by
 refine ct (S:=Unit) (cf fun _ _=>rfl) Tryz.func207 rfl rfl ?_
 repeat' first
  | ((first | show Dk.ER _ _ _ | show Dk.bd _ _ | show Dk.EF _ _ _ | show Dk.EO _ _ _ | show Dk.EP _ _ | show Dk.bb _ _ _ _ | show Dk.av _ _ _ _ | show Dk.Kp _ _ _ _ | show Dk.bp _ _ | show Dk.bg _ _ _ _); repeat' first | exact rfl | (refine @id.{0} _ ?_; constructor))
  | intro _
  | exact rfl
  | (refine Dk.tA (t:=83) rfl ?_ ?_)
  | apply Dk.AD.Q0 (d:=108)
  | (refine Dk.tA (t:=112) rfl ?_ ?_)
  | (refine @id.{0} _ ?_; constructor)
  | apply Dk.jq 0 (V:=Value×Value) (A:=Nat×Value×Value) (_,_,_) (fun a (s:Int×(List Int)×(List Int)×(List Int)) v=>Dk.pc (fun a0=>Dk.pc (fun a1 a2=>[.row a0 [.int .i64 (x0),v.1,v.2,a1,a2] 27,.own (aK 2 (aA .i64)) a1 s.2.2.2,.own (aK 2 (aA .i64)) v.1 s.2.1,.own (aK 2 (aA .i64)) v.2 s.2.2.1])) a) (fun a s v=>Dk.pc (fun a0=>Dk.pc (fun a1 a2=>[(8,.pointer (some ⟨a0,0,none⟩)),(9,.int .i64 (s.1))])) a) (_,_) [(6,_),(7,_)]
  | apply Dk.jq 2 (V:=Value) (A:=Nat×Value×Value×Value) (_,_,_,_) (fun a (s:Int×(List (List Int))) v=>Dk.pc (fun a0=>Dk.pc (fun a1=>Dk.pc (fun a2 a3=>[.row a0 [.int .i64 (x0),a1,a2,a3,v] 27,.own (aK 24 (aK 2 (aA .i64))) v s.2]))) a) (fun a s v=>Dk.pc (fun a0=>Dk.pc (fun a1=>Dk.pc (fun a2 a3=>[(8,.pointer (some ⟨a0,0,none⟩)),(10,.int .i64 (s.1))]))) a) _ [(6,_),(7,_)]
  | apply Dk.loop 4 (V:=Value) (fun (s:(List Int)×Int) v=>[.own (aK 2 (aA .i64)) v s.1]) (fun s v=>[(11,v),(12,.int .i64 (s.2))]) _ [(6,_),(7,_),(8,_),(10,_)]
  | apply Dk.loop 6 (V:=Unit) (fun (s:Int×Int) v=>[]) (fun s v=>[(13,.int .i64 (s.1)),(15,.int .i64 (s.2))]) () [(6,_),(7,_),(8,_),(10,_),(11,_),(12,_),(14,_)]
  | apply Dk.quiet (id:=20) (by kernel_rfl)
  | apply Dk.quiet (id:=25) (by kernel_rfl)
  | apply Dk.any (id:=6) 8 [] [] [[],[0],[],[],[2,3],[4,2,3],[5,4,2,3],[6,5,4,2,3]] (by kernel_rfl)
  | apply Dk.any (id:=7) 8 [] [] [[],[0],[],[],[2,3],[4,2,3],[5,4,2,3],[6,5,4,2,3]] (by kernel_rfl)
  | apply Dk.any (id:=9) 8 [] [] [[],[0],[],[],[2,3],[4,2,3],[5,4,2,3],[]] (by kernel_rfl)
  | apply Dk.any (id:=21) 11 [] [] [[],[],[0,1],[2,0,1],[3,2,0,1],[4,3,2,0,1],[],[],[6,7],[8,6,7],[9,8,6,7]] (by kernel_rfl)
  | apply adl
  | apply WK
  | apply yC
  | apply Qp
  | exact ()
theorem Zp {x0:aI} {dK:Addr} {aU:Value} {bC:Value} {aO:Value} {aM:Value} {x1:aI} {jB:Addr} {bZ:Value} {cM:Value} {bF:Value} {aW:Value}:Ct Tryz.prog 89 true (fW x0 x1) [.pointer (some (dK)),.pointer (some (jB))] [.ak jB [.int .i64 (x1.aC),bZ,cM,bF,aW],.ak dK [.int .i64 (x0.aC),aU,bC,aO,aM],.rd false (aD (aA .i64)) aU x0.aG,.rd false (aD (aA .i64)) bC x0.To,.rd false (aD (aA .i64)) aO x0.aJ,.rd false (aD (aD (aA .i64))) aM x0.aF,.rd false (aD (aA .i64)) bZ x1.aG,.rd false (aD (aA .i64)) cM x1.To,.rd false (aD (aA .i64)) bF x1.aJ,.rd false (aD (aD (aA .i64))) aW x1.aF] (fun y (_:Unit)=>[.bool y]) (fun y _=>[]):=by
 refine ct (S:=Unit) (cf fun _ _=>rfl) Tryz.func89 rfl rfl ?_
 repeat' first
  | ((first | show Dk.ER _ _ _ | show Dk.bd _ _ | show Dk.EF _ _ _ | show Dk.EO _ _ _ | show Dk.EP _ _ | show Dk.bb _ _ _ _ | show Dk.av _ _ _ _ | show Dk.Kp _ _ _ _ | show Dk.bp _ _ | show Dk.bg _ _ _ _); repeat' first | exact rfl | (refine @id.{0} _ ?_; constructor))
  | intro _
  | exact rfl
  | (refine @id.{0} _ ?_; constructor)
  | apply Dk.loop 0 (V:=Unit) (fun (s:Int) v=>[]) (fun s v=>[(69,.int .i64 (s))]) () [(0,_),(1,_),(68,_)]
  | apply Dk.quiet (id:=1) (by kernel_rfl)
  | apply Dk.quiet (id:=6) (by kernel_rfl)
  | apply WT
  | exact ()
theorem Zq {x0:aL} {dK:Addr} {bA:Value} {bG:Value} {aS:Value} {aP:Value} {bB:Value} {bH:Value} {aT:Value} {aQ:Value} {bI:Value} {bR:Value} {x1:aL} {jB:Addr} {bJ:Value} {bX:Value} {bD:Value} {aY:Value} {bK:Value} {bY:Value} {bE:Value} {aZ:Value} {cF:Value} {cL:Value}:Ct Tryz.prog 94 true (gI x0 x1) [.pointer (some (dK)),.pointer (some (jB))] [.ak jB [.int .i64 (x1.aB.aC),bJ,bX,bD,aY,.int .i64 (x1.aE.aC),bK,bY,bE,aZ,cF,cL],.ak dK [.int .i64 (x0.aB.aC),bA,bG,aS,aP,.int .i64 (x0.aE.aC),bB,bH,aT,aQ,bI,bR],.rd false (aD (aA .i64)) bA x0.aB.aG,.rd false (aD (aA .i64)) bG x0.aB.To,.rd false (aD (aA .i64)) aS x0.aB.aJ,.rd false (aD (aD (aA .i64))) aP x0.aB.aF,.rd false (aD (aA .i64)) bB x0.aE.aG,.rd false (aD (aA .i64)) bH x0.aE.To,.rd false (aD (aA .i64)) aT x0.aE.aJ,.rd false (aD (aD (aA .i64))) aQ x0.aE.aF,.rd false (aD (aA .i64)) bI x0.aC,.rd false (aD (aA .i64)) bR x0.af,.rd false (aD (aA .i64)) bJ x1.aB.aG,.rd false (aD (aA .i64)) bX x1.aB.To,.rd false (aD (aA .i64)) bD x1.aB.aJ,.rd false (aD (aD (aA .i64))) aY x1.aB.aF,.rd false (aD (aA .i64)) bK x1.aE.aG,.rd false (aD (aA .i64)) bY x1.aE.To,.rd false (aD (aA .i64)) bE x1.aE.aJ,.rd false (aD (aD (aA .i64))) aZ x1.aE.aF,.rd false (aD (aA .i64)) cF x1.aC,.rd false (aD (aA .i64)) cL x1.af] (fun y (_:Unit)=>[.bool y]) (fun y _=>[]):=by
 refine ct (S:=Unit) (cf fun _ _=>rfl) Tryz.func94 rfl rfl ?_
 repeat' first
  | ((first | show Dk.ER _ _ _ | show Dk.bd _ _ | show Dk.EF _ _ _ | show Dk.EO _ _ _ | show Dk.EP _ _ | show Dk.bb _ _ _ _ | show Dk.av _ _ _ _ | show Dk.Kp _ _ _ _ | show Dk.bp _ _ | show Dk.bg _ _ _ _); repeat' first | exact rfl | (refine @id.{0} _ ?_; constructor))
  | intro _
  | exact rfl
  | (refine @id.{0} _ ?_; constructor)
  | apply Dk.quiet (id:=1) (by kernel_rfl)
  | apply Zp
  | exact ()
theorem adn {x0:aI} {aU:Value} {bC:Value} {aO:Value} {aM:Value} {x1:aI} {bZ:Value} {cM:Value} {bF:Value} {aW:Value}:Ct Tryz.prog 121 true (mL x0 x1) [.agg #[.int .i64 (x0.aC),aU,bC,aO,aM],.agg #[.int .i64 (x1.aC),bZ,cM,bF,aW]] [.rd false (aD (aA .i64)) aU x0.aG,.rd false (aD (aA .i64)) bC x0.To,.rd false (aD (aA .i64)) aO x0.aJ,.rd false (aD (aD (aA .i64))) aM x0.aF,.rd false (aD (aA .i64)) bZ x1.aG,.rd false (aD (aA .i64)) cM x1.To,.rd false (aD (aA .i64)) bF x1.aJ,.rd false (aD (aD (aA .i64))) aW x1.aF] (fun y (_:Unit)=>[.bool y]) (fun y _=>[]):=by
 refine ct (S:=Unit) (cf fun _ _=>rfl) Tryz.func121 rfl rfl ?_
 repeat' first
  | ((first | show Dk.ER _ _ _ | show Dk.bd _ _ | show Dk.EF _ _ _ | show Dk.EO _ _ _ | show Dk.EP _ _ | show Dk.bb _ _ _ _ | show Dk.av _ _ _ _ | show Dk.Kp _ _ _ _ | show Dk.bp _ _ | show Dk.bg _ _ _ _); repeat' first | exact rfl | (refine @id.{0} _ ?_; constructor))
  | intro _
  | exact rfl
  | (refine @id.{0} _ ?_; constructor)
  | apply Qp
  | apply ac1
  | exact ()
theorem c99 {x0:aL} {bA:Value} {bG:Value} {aS:Value} {aP:Value} {bB:Value} {bH:Value} {aT:Value} {aQ:Value} {bI:Value} {bR:Value} {x1:aL} {bJ:Value} {bX:Value} {bD:Value} {aY:Value} {bK:Value} {bY:Value} {bE:Value} {aZ:Value} {cF:Value} {cL:Value}:Ct Tryz.prog 99 true (lH x0 x1) [.agg #[.int .i64 (x0.aB.aC),bA,bG,aS,aP,.int .i64 (x0.aE.aC),bB,bH,aT,aQ,bI,bR],.agg #[.int .i64 (x1.aB.aC),bJ,bX,bD,aY,.int .i64 (x1.aE.aC),bK,bY,bE,aZ,cF,cL]] [.rd false (aD (aA .i64)) bA x0.aB.aG,.rd false (aD (aA .i64)) bG x0.aB.To,.rd false (aD (aA .i64)) aS x0.aB.aJ,.rd false (aD (aD (aA .i64))) aP x0.aB.aF,.rd false (aD (aA .i64)) bB x0.aE.aG,.rd false (aD (aA .i64)) bH x0.aE.To,.rd false (aD (aA .i64)) aT x0.aE.aJ,.rd false (aD (aD (aA .i64))) aQ x0.aE.aF,.rd false (aD (aA .i64)) bI x0.aC,.rd false (aD (aA .i64)) bR x0.af,.rd false (aD (aA .i64)) bJ x1.aB.aG,.rd false (aD (aA .i64)) bX x1.aB.To,.rd false (aD (aA .i64)) bD x1.aB.aJ,.rd false (aD (aD (aA .i64))) aY x1.aB.aF,.rd false (aD (aA .i64)) bK x1.aE.aG,.rd false (aD (aA .i64)) bY x1.aE.To,.rd false (aD (aA .i64)) bE x1.aE.aJ,.rd false (aD (aD (aA .i64))) aZ x1.aE.aF,.rd false (aD (aA .i64)) cF x1.aC,.rd false (aD (aA .i64)) cL x1.af] (fun y (_:Unit)=>[.bool y]) (fun y _=>[]):=by
 refine ct (S:=Unit) (cf fun _ _=>rfl) Tryz.func99 rfl rfl ?_
 repeat' first
  | ((first | show Dk.ER _ _ _ | show Dk.bd _ _ | show Dk.EF _ _ _ | show Dk.EO _ _ _ | show Dk.EP _ _ | show Dk.bb _ _ _ _ | show Dk.av _ _ _ _ | show Dk.Kp _ _ _ _ | show Dk.bp _ _ | show Dk.bg _ _ _ _); repeat' first | exact rfl | (refine @id.{0} _ ?_; constructor))
  | intro _
  | exact rfl
  | (refine @id.{0} _ ?_; constructor)
  | apply adn
  | exact ()
theorem ado {x0:Int} {x1:(List (List Int))} {eC:Value}:Ct Tryz.prog 100 true (oX x0 x1) [.int .i64 (x0),eC] [.rd false (aD (aD (aA .i64))) eC x1] (fun y (v:Value)=>[v]) (fun y v=>[.own (aK 2 (aA .i64)) v y]):=by
 refine ct (S:=Unit) (cf fun _ _=>rfl) Tryz.func100 rfl rfl ?_
 repeat' first
  | ((first | show Dk.ER _ _ _ | show Dk.bd _ _ | show Dk.EF _ _ _ | show Dk.EO _ _ _ | show Dk.EP _ _ | show Dk.bb _ _ _ _ | show Dk.av _ _ _ _ | show Dk.Kp _ _ _ _ | show Dk.bp _ _ | show Dk.bg _ _ _ _); repeat' first | exact rfl | (refine @id.{0} _ ?_; constructor))
  | intro _
  | exact rfl
  | (refine @id.{0} _ ?_; constructor)
  | apply Dk.loop 0 (V:=Value) (fun (s:(List Int)×Int) v=>[.own (aK 2 (aA .i64)) v s.1]) (fun s v=>[(5,v),(6,.int .i64 (s.2))]) _ [(0,_),(1,_)]
  | apply Dk.jq 2 (V:=Unit) (A:=Value) _ (fun a (s:Int×(List Int)) v=>[.own (aK 2 (aA .i64)) a s.2]) (fun a s v=>[(5,a),(7,.int .i64 (s.1))]) () [(1,_)]
  | apply Dk.jq 4 (V:=Unit) (A:=Value) _ (fun a (s:Int×(List Int)) v=>[.own (aK 2 (aA .i64)) a s.2]) (fun a s v=>[(5,a),(10,.int .i64 (s.1))]) () [(1,_),(7,_),(8,_),(9,_)]
  | apply Dk.quiet (id:=9) (by kernel_rfl)
  | apply acT
  | exact ()
theorem NU {x0:aV} {dK:Addr} {cB:Value} {cH:Value} {bT:Value} {bL:Value} {cC:Value} {cI:Value} {bU:Value} {bN:Value} {cR:Value} {cY:Value} {cD:Value} {cJ:Value} {bV:Value} {bP:Value} {cE:Value} {cK:Value} {bW:Value} {bQ:Value} {cS:Value} {cZ:Value} {dH:Value}:Ct Tryz.prog 105 true (kS x0 (fun a0 a1 a2 a3=>iB a0 a1 a2 a3)) [.pointer (some (dK)),.func (.func 106) #[] #[]] [.ak dK [.int .i64 (x0.aB.aB.aC),cB,cH,bT,bL,.int .i64 (x0.aB.aE.aC),cC,cI,bU,bN,cR,cY,.int .i64 (x0.aE.aB.aC),cD,cJ,bV,bP,.int .i64 (x0.aE.aE.aC),cE,cK,bW,bQ,cS,cZ,dH],.rd false (aD (aA .i64)) cB x0.aB.aB.aG,.rd false (aD (aA .i64)) cH x0.aB.aB.To,.rd false (aD (aA .i64)) bT x0.aB.aB.aJ,.rd false (aD (aD (aA .i64))) bL x0.aB.aB.aF,.rd false (aD (aA .i64)) cC x0.aB.aE.aG,.rd false (aD (aA .i64)) cI x0.aB.aE.To,.rd false (aD (aA .i64)) bU x0.aB.aE.aJ,.rd false (aD (aD (aA .i64))) bN x0.aB.aE.aF,.rd false (aD (aA .i64)) cR x0.aB.aC,.rd false (aD (aA .i64)) cY x0.aB.af,.rd false (aD (aA .i64)) cD x0.aE.aB.aG,.rd false (aD (aA .i64)) cJ x0.aE.aB.To,.rd false (aD (aA .i64)) bV x0.aE.aB.aJ,.rd false (aD (aD (aA .i64))) bP x0.aE.aB.aF,.rd false (aD (aA .i64)) cE x0.aE.aE.aG,.rd false (aD (aA .i64)) cK x0.aE.aE.To,.rd false (aD (aA .i64)) bW x0.aE.aE.aJ,.rd false (aD (aD (aA .i64))) bQ x0.aE.aE.aF,.rd false (aD (aA .i64)) cS x0.aE.aC,.rd false (aD (aA .i64)) cZ x0.aE.af,.rd false (aD (aA .i64)) dH x0.au] (fun y (_:Unit)=>[.int .i64 y]) (fun y _=>[]):=by
 refine ct (S:=Unit) (cf fun _ _=>rfl) Tryz.func105 rfl rfl ?_
 repeat' first
  | ((first | show Dk.ER _ _ _ | show Dk.bd _ _ | show Dk.EF _ _ _ | show Dk.EO _ _ _ | show Dk.EP _ _ | show Dk.bb _ _ _ _ | show Dk.av _ _ _ _ | show Dk.Kp _ _ _ _ | show Dk.bp _ _ | show Dk.bg _ _ _ _); repeat' first | exact rfl | (refine @id.{0} _ ?_; constructor))
  | intro _
  | exact rfl
  | (refine @id.{0} _ ?_; constructor)
  | apply Dk.loop 0 (V:=Unit) (fun (s:Int) v=>[]) (fun s v=>[(12,.int .i64 (s))]) () [(0,_),(1,_),(11,_)]
  | apply Dk.quiet (id:=4) (by kernel_rfl)
  | apply Qo
  | exact ()
theorem c50 {x0:aL} {dK:Addr} {bA:Value} {bG:Value} {aS:Value} {aP:Value} {bB:Value} {bH:Value} {aT:Value} {aQ:Value} {bI:Value} {bR:Value} {x1:aL} {jB:Addr} {bJ:Value} {bX:Value} {bD:Value} {aY:Value} {bK:Value} {bY:Value} {bE:Value} {aZ:Value} {cF:Value} {cL:Value}:Ct Tryz.prog 50 true (lL x0 x1) [.pointer (some (dK)),.pointer (some (jB))] [.ak jB [.int .i64 (x1.aB.aC),bJ,bX,bD,aY,.int .i64 (x1.aE.aC),bK,bY,bE,aZ,cF,cL],.ak dK [.int .i64 (x0.aB.aC),bA,bG,aS,aP,.int .i64 (x0.aE.aC),bB,bH,aT,aQ,bI,bR],.rd false (aD (aA .i64)) bA x0.aB.aG,.rd false (aD (aA .i64)) bG x0.aB.To,.rd false (aD (aA .i64)) aS x0.aB.aJ,.rd false (aD (aD (aA .i64))) aP x0.aB.aF,.rd false (aD (aA .i64)) bB x0.aE.aG,.rd false (aD (aA .i64)) bH x0.aE.To,.rd false (aD (aA .i64)) aT x0.aE.aJ,.rd false (aD (aD (aA .i64))) aQ x0.aE.aF,.rd false (aD (aA .i64)) bI x0.aC,.rd false (aD (aA .i64)) bR x0.af,.rd false (aD (aA .i64)) bJ x1.aB.aG,.rd false (aD (aA .i64)) bX x1.aB.To,.rd false (aD (aA .i64)) bD x1.aB.aJ,.rd false (aD (aD (aA .i64))) aY x1.aB.aF,.rd false (aD (aA .i64)) bK x1.aE.aG,.rd false (aD (aA .i64)) bY x1.aE.To,.rd false (aD (aA .i64)) bE x1.aE.aJ,.rd false (aD (aD (aA .i64))) aZ x1.aE.aF,.rd false (aD (aA .i64)) cF x1.aC,.rd false (aD (aA .i64)) cL x1.af] (fun y (_:Unit)=>[.bool y]) (fun y _=>[]):=by
 refine ct (S:=Unit) (cf fun _ _=>rfl) Tryz.func50 rfl rfl ?_
 repeat' first
  | ((first | show Dk.ER _ _ _ | show Dk.bd _ _ | show Dk.EF _ _ _ | show Dk.EO _ _ _ | show Dk.EP _ _ | show Dk.bb _ _ _ _ | show Dk.av _ _ _ _ | show Dk.Kp _ _ _ _ | show Dk.bp _ _ | show Dk.bg _ _ _ _); repeat' first | exact rfl | (refine @id.{0} _ ?_; constructor))
  | intro _
  | exact rfl
  | (refine @id.{0} _ ?_; constructor)
  | apply Dk.quiet (id:=1) (by kernel_rfl)
  | apply Zp
  | apply WT
  | exact ()
end Go.Proofs.YtkcpiblgpnjanaaGreat
