/- Walks by the calculus D. No condition beside those that each theorem names. -/
import Derived.Test.YtkcpiblgpnjanaaGreatDi
import Derived.Test.YtkcpiblgpnjanaaGreatMo
import Derived.Test.YtkcpiblgpnjanaaGreatDp
import Derived.Test.YtkcpiblgpnjanaaGreatDs
import Derived.Test.YtkcpiblgpnjanaaGreatWa
import Derived.Test.YtkcpiblgpnjanaaGreatWb
import Derived.Test.YtkcpiblgpnjanaaGreatWd
namespace Go.Proofs.YtkcpiblgpnjanaaGreat
open Go Go.Li Go.Dk
set_option linter.unusedVariables false
set_option maxHeartbeats 16000000
set_option maxRecDepth 100000
theorem ac9 {x0:Int} {x1:(List (List Int))} {eE:Value}:Ct Tryz.prog 100 true (oO x0 x1) [.int .i64 (x0),eE] [.rd false (aD (aD (aB .i64))) eE x1] (fun y (v:Value)=>[v]) (fun y v=>[.own (aK 2 (aB .i64)) v y]):=by
 refine ct (S:=Unit) (ca fun _ _=>rfl) Tryz.func100 rfl rfl ?_
 repeat' first
  | ((first | show Dk.ER _ _ _ | show Dk.bb _ _ | show Dk.EF _ _ _ | show Dk.EO _ _ _ | show Dk.EP _ _ | show Dk.ba _ _ _ _ | show Dk.aw _ _ _ _ | show Dk.Kp _ _ _ _ | show Dk.bp _ _ | show Dk.bc _ _ _ _); repeat' first | exact rfl | (refine @id.{0} _ ?_; constructor))
  | intro _
  | exact rfl
  | (refine @id.{0} _ ?_; constructor)
  | apply Dk.loop 0 (V:=Value) (fun (s:(List Int)×Int) v=>[.own (aK 2 (aB .i64)) v s.1]) (fun s v=>[(5,v),(6,.int .i64 (s.2))]) _ [(0,_),(1,_)]
  | apply Dk.j4 2 (V:=Unit) (A:=Value) _ (fun a (s:Int×(List Int)) v=>[.own (aK 2 (aB .i64)) a s.2]) (fun a s v=>[(5,a),(7,.int .i64 (s.1))]) () [(1,_)]
  | apply Dk.j4 4 (V:=Unit) (A:=Value) _ (fun a (s:Int×(List Int)) v=>[.own (aK 2 (aB .i64)) a s.2]) (fun a s v=>[(5,a),(10,.int .i64 (s.1))]) () [(1,_),(7,_),(8,_),(9,_)]
  | apply Dk.quiet (id:=9) (by kernel_rfl)
  | apply acL
  | exact ()
theorem ada {x0:dH} {dQ:Addr} {dD:Value} {dJ:Value} {cX:Value} {cS:Value} {dE:Value} {dK:Value} {cY:Value} {cT:Value} {dT:Value} {eA:Value} {dF:Value} {dL:Value} {cZ:Value} {cU:Value} {dG:Value} {dM:Value} {dA:Value} {cV:Value} {dU:Value} {eB:Value} {fK:Value} {x1:(List Int)} {eE:Value} {x2:Int}:Ct Tryz.prog 167 true (jY x0 x1 x2) [.pointer (some (dQ)),eE,.int .i64 (x2)] [.au dQ [.int .i64 (x0.F.aA.aE),dD,dJ,cX,cS,.int .i64 (x0.F.aC.aE),dE,dK,cY,cT,dT,eA,.int .i64 (x0.G.aA.aE),dF,dL,cZ,cU,.int .i64 (x0.G.aC.aE),dG,dM,dA,cV,dU,eB,.bool (x0.xU),.int .i64 (x0.u5),fK],.rd false (aD (aB .i64)) dD x0.F.aA.aG,.rd false (aD (aB .i64)) dJ x0.F.aA.To,.rd false (aD (aB .i64)) cX x0.F.aA.aJ,.rd false (aD (aD (aB .i64))) cS x0.F.aA.aF,.rd false (aD (aB .i64)) dE x0.F.aC.aG,.rd false (aD (aB .i64)) dK x0.F.aC.To,.rd false (aD (aB .i64)) cY x0.F.aC.aJ,.rd false (aD (aD (aB .i64))) cT x0.F.aC.aF,.rd false (aD (aB .i64)) dT x0.F.aE,.rd false (aD (aB .i64)) eA x0.F.ae,.rd false (aD (aB .i64)) dF x0.G.aA.aG,.rd false (aD (aB .i64)) dL x0.G.aA.To,.rd false (aD (aB .i64)) cZ x0.G.aA.aJ,.rd false (aD (aD (aB .i64))) cU x0.G.aA.aF,.rd false (aD (aB .i64)) dG x0.G.aC.aG,.rd false (aD (aB .i64)) dM x0.G.aC.To,.rd false (aD (aB .i64)) dA x0.G.aC.aJ,.rd false (aD (aD (aB .i64))) cV x0.G.aC.aF,.rd false (aD (aB .i64)) dU x0.G.aE,.rd false (aD (aB .i64)) eB x0.G.ae,.rd false (aD (aD (aB .i64))) fK x0.Found,.rd false (aD (aB .i64)) eE x1] (fun y (v:Value)=>[v]) (fun y v=>[.own (aK 2 (aB .i64)) v y]):=by
 refine ct (S:=Unit) (ca fun _ _=>rfl) Tryz.func167 rfl rfl ?_
 repeat' first
  | ((first | show Dk.ER _ _ _ | show Dk.bb _ _ | show Dk.EF _ _ _ | show Dk.EO _ _ _ | show Dk.EP _ _ | show Dk.ba _ _ _ _ | show Dk.aw _ _ _ _ | show Dk.Kp _ _ _ _ | show Dk.bp _ _ | show Dk.bc _ _ _ _); repeat' first | exact rfl | (refine @id.{0} _ ?_; constructor))
  | intro _
  | exact rfl
  | (refine @id.{0} _ ?_; constructor)
  | apply Dk.loop 0 (V:=Value) (fun (s:(List Int)×Int) v=>[.own (aK 2 (aB .i64)) v s.1]) (fun s v=>[(10,v),(11,.int .i64 (s.2))]) _ [(0,_),(1,_),(2,_),(7,_),(8,_),(9,_)]
  | apply Dk.loop 2 (V:=Unit) (fun (s:Bool×Int) v=>[]) (fun s v=>[(13,.bool (s.1)),(14,.int .i64 (s.2))]) () [(0,_),(1,_),(2,_),(7,_),(8,_),(9,_),(10,_),(11,_),(12,_)]
  | apply Dk.quiet (id:=7) (by kernel_rfl)
  | apply Dk.quiet (id:=14) (by kernel_rfl)
  | apply Dk.quiet (id:=15) (by kernel_rfl)
  | apply Dk.any (id:=1) 13 [] [[],[],[],[],[],[],[],[],[],[],[],[],[10]] [[],[0],[1,0],[2,1,0],[3,2,1,0],[],[5],[6,5],[7,6,5],[8,7,6,5],[],[],[10,4,3,2,1,0,0,1,0,2,1,0,3,2,1,0,4,3,2,1,0,10,11]] (by kernel_rfl)
  | apply Dk.any (id:=2) 17 [] [] [[],[],[1],[2,1],[3,2,1],[4,3,2,1],[],[5,4,3,2,1,6],[7,5,4,3,2,1,6],[],[9],[10,9],[11,10,9],[12,11,10,9],[],[13,12,11,10,9,14],[15,13,12,11,10,9,14]] (by kernel_rfl)
  | apply QH
  | apply ac6
  | apply v7
  | apply WR
  | exact ()
theorem WT {rc:dH→(List Int)→Option (dH)} (ih:∀ {x0:dH} {dV:Nat} {dD:Value} {dJ:Value} {cX:Value} {cS:Value} {dE:Value} {dK:Value} {cY:Value} {cT:Value} {dT:Value} {eA:Value} {dF:Value} {dL:Value} {cZ:Value} {cU:Value} {dG:Value} {dM:Value} {dA:Value} {cV:Value} {dU:Value} {eB:Value} {fK:Value} {x1:(List Int)} {eE:Value},Ct Tryz.prog 101 false (rc x0 x1) [.pointer (some (⟨dV,0,none⟩)),eE] [.row dV [.int .i64 (x0.F.aA.aE),dD,dJ,cX,cS,.int .i64 (x0.F.aC.aE),dE,dK,cY,cT,dT,eA,.int .i64 (x0.G.aA.aE),dF,dL,cZ,cU,.int .i64 (x0.G.aC.aE),dG,dM,dA,cV,dU,eB,.bool (x0.xU),.int .i64 (x0.u5),fK] 150,.rd false (aD (aB .i64)) dD x0.F.aA.aG,.rd false (aD (aB .i64)) dJ x0.F.aA.To,.rd false (aD (aB .i64)) cX x0.F.aA.aJ,.rd false (aD (aD (aB .i64))) cS x0.F.aA.aF,.rd false (aD (aB .i64)) dE x0.F.aC.aG,.rd false (aD (aB .i64)) dK x0.F.aC.To,.rd false (aD (aB .i64)) cY x0.F.aC.aJ,.rd false (aD (aD (aB .i64))) cT x0.F.aC.aF,.rd false (aD (aB .i64)) dT x0.F.aE,.rd false (aD (aB .i64)) eA x0.F.ae,.rd false (aD (aB .i64)) dF x0.G.aA.aG,.rd false (aD (aB .i64)) dL x0.G.aA.To,.rd false (aD (aB .i64)) cZ x0.G.aA.aJ,.rd false (aD (aD (aB .i64))) cU x0.G.aA.aF,.rd false (aD (aB .i64)) dG x0.G.aC.aG,.rd false (aD (aB .i64)) dM x0.G.aC.To,.rd false (aD (aB .i64)) dA x0.G.aC.aJ,.rd false (aD (aD (aB .i64))) cV x0.G.aC.aF,.rd false (aD (aB .i64)) dU x0.G.aE,.rd false (aD (aB .i64)) eB x0.G.ae,.om 24 (aD (aB .i64)) fK x0.Found,.rd false (aD (aB .i64)) eE x1] (fun y (v:Value)=>[]) (fun y v=>[.row dV [.int .i64 y.F.aA.aE,dD,dJ,cX,cS,.int .i64 y.F.aC.aE,dE,dK,cY,cT,dT,eA,.int .i64 y.G.aA.aE,dF,dL,cZ,cU,.int .i64 y.G.aC.aE,dG,dM,dA,cV,dU,eB,.bool y.xU,.int .i64 y.u5,v] 150,.om 24 (aD (aB .i64)) v y.Found])) {x0:dH} {dV:Nat} {dD:Value} {dJ:Value} {cX:Value} {cS:Value} {dE:Value} {dK:Value} {cY:Value} {cT:Value} {dT:Value} {eA:Value} {dF:Value} {dL:Value} {cZ:Value} {cU:Value} {dG:Value} {dM:Value} {dA:Value} {cV:Value} {dU:Value} {eB:Value} {fK:Value} {x1:(List Int)} {eE:Value}:Ct Tryz.prog 101 false (oP rc x0 x1) [.pointer (some (⟨dV,0,none⟩)),eE] [.row dV [.int .i64 (x0.F.aA.aE),dD,dJ,cX,cS,.int .i64 (x0.F.aC.aE),dE,dK,cY,cT,dT,eA,.int .i64 (x0.G.aA.aE),dF,dL,cZ,cU,.int .i64 (x0.G.aC.aE),dG,dM,dA,cV,dU,eB,.bool (x0.xU),.int .i64 (x0.u5),fK] 150,.rd false (aD (aB .i64)) dD x0.F.aA.aG,.rd false (aD (aB .i64)) dJ x0.F.aA.To,.rd false (aD (aB .i64)) cX x0.F.aA.aJ,.rd false (aD (aD (aB .i64))) cS x0.F.aA.aF,.rd false (aD (aB .i64)) dE x0.F.aC.aG,.rd false (aD (aB .i64)) dK x0.F.aC.To,.rd false (aD (aB .i64)) cY x0.F.aC.aJ,.rd false (aD (aD (aB .i64))) cT x0.F.aC.aF,.rd false (aD (aB .i64)) dT x0.F.aE,.rd false (aD (aB .i64)) eA x0.F.ae,.rd false (aD (aB .i64)) dF x0.G.aA.aG,.rd false (aD (aB .i64)) dL x0.G.aA.To,.rd false (aD (aB .i64)) cZ x0.G.aA.aJ,.rd false (aD (aD (aB .i64))) cU x0.G.aA.aF,.rd false (aD (aB .i64)) dG x0.G.aC.aG,.rd false (aD (aB .i64)) dM x0.G.aC.To,.rd false (aD (aB .i64)) dA x0.G.aC.aJ,.rd false (aD (aD (aB .i64))) cV x0.G.aC.aF,.rd false (aD (aB .i64)) dU x0.G.aE,.rd false (aD (aB .i64)) eB x0.G.ae,.om 24 (aD (aB .i64)) fK x0.Found,.rd false (aD (aB .i64)) eE x1] (fun y (v:Value)=>[]) (fun y v=>[.row dV [.int .i64 y.F.aA.aE,dD,dJ,cX,cS,.int .i64 y.F.aC.aE,dE,dK,cY,cT,dT,eA,.int .i64 y.G.aA.aE,dF,dL,cZ,cU,.int .i64 y.G.aC.aE,dG,dM,dA,cV,dU,eB,.bool y.xU,.int .i64 y.u5,v] 150,.om 24 (aD (aB .i64)) v y.Found]):=by
 refine ctv Cq Tryz.func101 rfl rfl ?_
 repeat' first
  | ((first | show Dk.ER _ _ _ | show Dk.bb _ _ | show Dk.EF _ _ _ | show Dk.EO _ _ _ | show Dk.EP _ _ | show Dk.ba _ _ _ _ | show Dk.aw _ _ _ _ | show Dk.Kp _ _ _ _ | show Dk.bp _ _ | show Dk.bc _ _ _ _); repeat' first | exact rfl | (refine @id.{0} _ ?_; constructor))
  | intro _
  | exact rfl
  | apply Dk.aar (d:=38)
  | apply ih
  | (refine @id.{0} _ ?_; constructor)
  | apply Dk.loop 0 (V:=Unit) (fun (s:Int×Int) v=>[.om 24 (aD (aB .i64)) fK x0.Found]) (fun s v=>[(4,.int .i64 (s.1)),(5,.int .i64 (s.2))]) () [(0,_),(1,_)]
  | apply Dk.loop 2 (V:=Value) (fun (s:Int×Int×Int×Int×Int×Bool×Int×(List (List Int))) v=>[.row dV [.int .i64 (s.2.1),dD,dJ,cX,cS,.int .i64 (s.2.2.1),dE,dK,cY,cT,dT,eA,.int .i64 (s.2.2.2.1),dF,dL,cZ,cU,.int .i64 (s.2.2.2.2.1),dG,dM,dA,cV,dU,eB,.bool (s.2.2.2.2.2.1),.int .i64 (s.2.2.2.2.2.2.1),v] 150,.om 24 (aD (aB .i64)) v s.2.2.2.2.2.2.2]) (fun s v=>[(7,.int .i64 (s.1))]) _ [(0,_),(1,_),(4,_),(6,_)]
  | apply Dk.quiet (id:=11) (by kernel_rfl)
  | apply Dk.any (id:=8) 8 [0] [] [[],[],[1],[2,1],[3,2,1],[],[5],[6,5]] (by kernel_rfl)
  | apply ada
  | apply v7
  | exact ()
theorem WU (n:Nat):∀ {x0:dH} {dV:Nat} {dD:Value} {dJ:Value} {cX:Value} {cS:Value} {dE:Value} {dK:Value} {cY:Value} {cT:Value} {dT:Value} {eA:Value} {dF:Value} {dL:Value} {cZ:Value} {cU:Value} {dG:Value} {dM:Value} {dA:Value} {cV:Value} {dU:Value} {eB:Value} {fK:Value} {x1:(List Int)} {eE:Value},Ct Tryz.prog 101 false (iW n x0 x1) [.pointer (some (⟨dV,0,none⟩)),eE] [.row dV [.int .i64 (x0.F.aA.aE),dD,dJ,cX,cS,.int .i64 (x0.F.aC.aE),dE,dK,cY,cT,dT,eA,.int .i64 (x0.G.aA.aE),dF,dL,cZ,cU,.int .i64 (x0.G.aC.aE),dG,dM,dA,cV,dU,eB,.bool (x0.xU),.int .i64 (x0.u5),fK] 150,.rd false (aD (aB .i64)) dD x0.F.aA.aG,.rd false (aD (aB .i64)) dJ x0.F.aA.To,.rd false (aD (aB .i64)) cX x0.F.aA.aJ,.rd false (aD (aD (aB .i64))) cS x0.F.aA.aF,.rd false (aD (aB .i64)) dE x0.F.aC.aG,.rd false (aD (aB .i64)) dK x0.F.aC.To,.rd false (aD (aB .i64)) cY x0.F.aC.aJ,.rd false (aD (aD (aB .i64))) cT x0.F.aC.aF,.rd false (aD (aB .i64)) dT x0.F.aE,.rd false (aD (aB .i64)) eA x0.F.ae,.rd false (aD (aB .i64)) dF x0.G.aA.aG,.rd false (aD (aB .i64)) dL x0.G.aA.To,.rd false (aD (aB .i64)) cZ x0.G.aA.aJ,.rd false (aD (aD (aB .i64))) cU x0.G.aA.aF,.rd false (aD (aB .i64)) dG x0.G.aC.aG,.rd false (aD (aB .i64)) dM x0.G.aC.To,.rd false (aD (aB .i64)) dA x0.G.aC.aJ,.rd false (aD (aD (aB .i64))) cV x0.G.aC.aF,.rd false (aD (aB .i64)) dU x0.G.aE,.rd false (aD (aB .i64)) eB x0.G.ae,.om 24 (aD (aB .i64)) fK x0.Found,.rd false (aD (aB .i64)) eE x1] (fun y (v:Value)=>[]) (fun y v=>[.row dV [.int .i64 y.F.aA.aE,dD,dJ,cX,cS,.int .i64 y.F.aC.aE,dE,dK,cY,cT,dT,eA,.int .i64 y.G.aA.aE,dF,dL,cZ,cU,.int .i64 y.G.aC.aE,dG,dM,dA,cV,dU,eB,.bool y.xU,.int .i64 y.u5,v] 150,.om 24 (aD (aB .i64)) v y.Found]):=by
 induction n with
 | zero=>intros; rw [qa]; exact ⟨Cq,fun _ _ _ _ _ _ _ y hy=>nomatch (show none=some y from hy)⟩
 | succ n ih=>exact WT ih
theorem adb {x0:dH} {dV:Nat} {dD:Value} {dJ:Value} {cX:Value} {cS:Value} {dE:Value} {dK:Value} {cY:Value} {cT:Value} {dT:Value} {eA:Value} {dF:Value} {dL:Value} {cZ:Value} {cU:Value} {dG:Value} {dM:Value} {dA:Value} {cV:Value} {dU:Value} {eB:Value} {fK:Value} {x1:(List Int)} {eE:Value}:Ct Tryz.prog 101 false (iW 64 x0 x1) [.pointer (some (⟨dV,0,none⟩)),eE] [.row dV [.int .i64 (x0.F.aA.aE),dD,dJ,cX,cS,.int .i64 (x0.F.aC.aE),dE,dK,cY,cT,dT,eA,.int .i64 (x0.G.aA.aE),dF,dL,cZ,cU,.int .i64 (x0.G.aC.aE),dG,dM,dA,cV,dU,eB,.bool (x0.xU),.int .i64 (x0.u5),fK] 150,.rd false (aD (aB .i64)) dD x0.F.aA.aG,.rd false (aD (aB .i64)) dJ x0.F.aA.To,.rd false (aD (aB .i64)) cX x0.F.aA.aJ,.rd false (aD (aD (aB .i64))) cS x0.F.aA.aF,.rd false (aD (aB .i64)) dE x0.F.aC.aG,.rd false (aD (aB .i64)) dK x0.F.aC.To,.rd false (aD (aB .i64)) cY x0.F.aC.aJ,.rd false (aD (aD (aB .i64))) cT x0.F.aC.aF,.rd false (aD (aB .i64)) dT x0.F.aE,.rd false (aD (aB .i64)) eA x0.F.ae,.rd false (aD (aB .i64)) dF x0.G.aA.aG,.rd false (aD (aB .i64)) dL x0.G.aA.To,.rd false (aD (aB .i64)) cZ x0.G.aA.aJ,.rd false (aD (aD (aB .i64))) cU x0.G.aA.aF,.rd false (aD (aB .i64)) dG x0.G.aC.aG,.rd false (aD (aB .i64)) dM x0.G.aC.To,.rd false (aD (aB .i64)) dA x0.G.aC.aJ,.rd false (aD (aD (aB .i64))) cV x0.G.aC.aF,.rd false (aD (aB .i64)) dU x0.G.aE,.rd false (aD (aB .i64)) eB x0.G.ae,.om 24 (aD (aB .i64)) fK x0.Found,.rd false (aD (aB .i64)) eE x1] (fun y (v:Value)=>[]) (fun y v=>[.row dV [.int .i64 y.F.aA.aE,dD,dJ,cX,cS,.int .i64 y.F.aC.aE,dE,dK,cY,cT,dT,eA,.int .i64 y.G.aA.aE,dF,dL,cZ,cU,.int .i64 y.G.aC.aE,dG,dM,dA,cV,dU,eB,.bool y.xU,.int .i64 y.u5,v] 150,.om 24 (aD (aB .i64)) v y.Found]):=by
 exact WU 64
theorem c75 {x0:aI} {dQ:Addr} {aV:Value} {bG:Value} {aO:Value} {aM:Value}:Ct Tryz.prog 75 true (iM x0) [.pointer (some (dQ))] [.au dQ [.int .i64 (x0.aE),aV,bG,aO,aM],.rd false (aD (aB .i64)) aV x0.aG,.rd false (aD (aB .i64)) bG x0.To,.rd false (aD (aB .i64)) aO x0.aJ,.rd false (aD (aD (aB .i64))) aM x0.aF] (fun y (v:Value×Value×Value×Value)=>[.agg #[.int .i64 y.aE,v.1,v.2.1,v.2.2.1,v.2.2.2]]) (fun y v=>[.own (aK 2 (aB .i64)) v.1 y.aG,.own (aK 2 (aB .i64)) v.2.1 y.To,.own (aK 2 (aB .i64)) v.2.2.1 y.aJ,.own (aK 24 (aK 2 (aB .i64))) v.2.2.2 y.aF]):=by
 refine ct (S:=Unit) (ca fun _ _=>rfl) Tryz.func75 rfl rfl ?_
 repeat' first
  | ((first | show Dk.ER _ _ _ | show Dk.bb _ _ | show Dk.EF _ _ _ | show Dk.EO _ _ _ | show Dk.EP _ _ | show Dk.ba _ _ _ _ | show Dk.aw _ _ _ _ | show Dk.Kp _ _ _ _ | show Dk.bp _ _ | show Dk.bc _ _ _ _); repeat' first | exact rfl | (refine @id.{0} _ ?_; constructor))
  | intro _
  | exact rfl
  | (refine @id.{0} _ ?_; constructor)
  | apply Dk.any (id:=1) 24 [] [] [[],[0],[1,0],[2,1,0],[],[4],[5,4],[6,5,4],[7,6,5,4],[],[9],[10,9],[11,10,9],[12,11,10,9,8,7,6,5,4],[],[14],[15,14],[16,15,14],[17,16,15,14,13,12,11,10,9,8,7,6,5,4],[],[19],[20,19],[21,20,19],[22,21,20,19,18,17,16,15,14,13,12,11,10,9,8,7,6,5,4]] (by kernel_rfl)
  | apply Of
  | apply acR
  | exact ()
theorem c68 {x0:aI} {dQ:Addr} {aV:Value} {bG:Value} {aO:Value} {aM:Value} {x1:aI} {jT:Addr} {cA:Value} {cR:Value} {bH:Value} {bB:Value} {x2:(List Int)} {dS:Value} {x3:(List Int)} {gU:Value}:Ct Tryz.prog 68 true (oX x0 x1 x2 x3) [.pointer (some (dQ)),.pointer (some (jT)),dS,gU] [.au jT [.int .i64 (x1.aE),cA,cR,bH,bB],.au dQ [.int .i64 (x0.aE),aV,bG,aO,aM],.rd false (aD (aB .i64)) aV x0.aG,.rd false (aD (aB .i64)) bG x0.To,.rd false (aD (aB .i64)) aO x0.aJ,.rd false (aD (aD (aB .i64))) aM x0.aF,.rd false (aD (aB .i64)) cA x1.aG,.rd false (aD (aB .i64)) cR x1.To,.rd false (aD (aB .i64)) bH x1.aJ,.rd false (aD (aD (aB .i64))) bB x1.aF,.rd false (aD (aB .i64)) dS x2,.rd false (aD (aB .i64)) gU x3] (fun y (v:Value×Value×Value×Value×Value×Value×Value×Value×Value×Value)=>[.agg #[.int .i64 y.aA.aE,v.1,v.2.1,v.2.2.1,v.2.2.2.1,.int .i64 y.aC.aE,v.2.2.2.2.1,v.2.2.2.2.2.1,v.2.2.2.2.2.2.1,v.2.2.2.2.2.2.2.1,v.2.2.2.2.2.2.2.2.1,v.2.2.2.2.2.2.2.2.2]]) (fun y v=>[.own (aK 2 (aB .i64)) v.1 y.aA.aG,.own (aK 2 (aB .i64)) v.2.1 y.aA.To,.own (aK 2 (aB .i64)) v.2.2.1 y.aA.aJ,.own (aK 24 (aK 2 (aB .i64))) v.2.2.2.1 y.aA.aF,.own (aK 2 (aB .i64)) v.2.2.2.2.1 y.aC.aG,.own (aK 2 (aB .i64)) v.2.2.2.2.2.1 y.aC.To,.own (aK 2 (aB .i64)) v.2.2.2.2.2.2.1 y.aC.aJ,.own (aK 24 (aK 2 (aB .i64))) v.2.2.2.2.2.2.2.1 y.aC.aF,.own (aK 2 (aB .i64)) v.2.2.2.2.2.2.2.2.1 y.aE,.own (aK 2 (aB .i64)) v.2.2.2.2.2.2.2.2.2 y.ae]):=by
 refine ct (S:=Unit) (ca fun _ _=>rfl) Tryz.func68 rfl rfl ?_
 repeat' first
  | ((first | show Dk.ER _ _ _ | show Dk.bb _ _ | show Dk.EF _ _ _ | show Dk.EO _ _ _ | show Dk.EP _ _ | show Dk.ba _ _ _ _ | show Dk.aw _ _ _ _ | show Dk.Kp _ _ _ _ | show Dk.bp _ _ | show Dk.bc _ _ _ _); repeat' first | exact rfl | (refine @id.{0} _ ?_; constructor))
  | intro _
  | exact rfl
  | (refine @id.{0} _ ?_; constructor)
  | apply c75
  | apply Of
  | exact ()
end Go.Proofs.YtkcpiblgpnjanaaGreat
