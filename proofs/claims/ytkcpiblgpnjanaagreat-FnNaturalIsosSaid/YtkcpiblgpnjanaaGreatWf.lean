/- Walks by the calculus D. No condition beside those that each theorem names. -/
import Derived.Test.YtkcpiblgpnjanaaGreatDi
import Derived.Test.YtkcpiblgpnjanaaGreatMo
import Derived.Test.YtkcpiblgpnjanaaGreatDp
import Derived.Test.YtkcpiblgpnjanaaGreatDs
import Derived.Test.YtkcpiblgpnjanaaGreatWa
import Derived.Test.YtkcpiblgpnjanaaGreatWb
import Derived.Test.YtkcpiblgpnjanaaGreatWd
namespace Go.Proofs.YtkcpiblgpnjanaaGreat
open Go Go.Li Go.Dk
set_option linter.unusedVariables false
set_option maxHeartbeats 16000000
set_option maxRecDepth 100000
theorem adb {x0:(List (List Int))} {dI:Value}:Ct Tryz.prog 208 true (jR x0) [dI] [.rd false (aD (aD (aA .i64))) dI x0] (fun y (v:Value×Value×Value×Value)=>[.agg #[.int .i64 y.aC,v.1,v.2.1,v.2.2.1,v.2.2.2]]) (fun y v=>[.own (aK 2 (aA .i64)) v.1 y.aG,.own (aK 2 (aA .i64)) v.2.1 y.To,.own (aK 2 (aA .i64)) v.2.2.1 y.aJ,.own (aK 24 (aK 2 (aA .i64))) v.2.2.2 y.aF]):=by
 refine ct (S:=Unit) (cf fun _ _=>rfl) Tryz.func208 rfl rfl ?_
 repeat' first
  | ((first | show Dk.ER _ _ _ | show Dk.bd _ _ | show Dk.EF _ _ _ | show Dk.EO _ _ _ | show Dk.EP _ _ | show Dk.bb _ _ _ _ | show Dk.av _ _ _ _ | show Dk.Kp _ _ _ _ | show Dk.bp _ _ | show Dk.bg _ _ _ _); repeat' first | exact rfl | (refine @id.{0} _ ?_; constructor))
  | intro _
  | exact rfl
  | (refine @id.{0} _ ?_; constructor)
  | apply Dk.any (id:=2) 7 [] [] [[],[0,0],[],[2,2],[],[],[5]] (by kernel_rfl)
  | apply WM
  | exact ()
theorem ade {x0:aL} {dK:Addr} {bA:Value} {bG:Value} {aS:Value} {aP:Value} {bB:Value} {bH:Value} {aT:Value} {aQ:Value} {bI:Value} {bR:Value}:Ct Tryz.prog 112 true (kR x0) [.pointer (some (dK))] [.ak dK [.int .i64 (x0.aB.aC),bA,bG,aS,aP,.int .i64 (x0.aE.aC),bB,bH,aT,aQ,bI,bR],.rd false (aD (aA .i64)) bA x0.aB.aG,.rd false (aD (aA .i64)) bG x0.aB.To,.rd false (aD (aA .i64)) aS x0.aB.aJ,.rd false (aD (aD (aA .i64))) aP x0.aB.aF,.rd false (aD (aA .i64)) bB x0.aE.aG,.rd false (aD (aA .i64)) bH x0.aE.To,.rd false (aD (aA .i64)) aT x0.aE.aJ,.rd false (aD (aD (aA .i64))) aQ x0.aE.aF,.rd false (aD (aA .i64)) bI x0.aC,.rd false (aD (aA .i64)) bR x0.af] (fun y (_:Unit)=>[.bool y]) (fun y _=>[]):=by
 refine ct (S:=Unit) (cf fun _ _=>rfl) Tryz.func112 rfl rfl ?_
 repeat' first
  | ((first | show Dk.ER _ _ _ | show Dk.bd _ _ | show Dk.EF _ _ _ | show Dk.EO _ _ _ | show Dk.EP _ _ | show Dk.bb _ _ _ _ | show Dk.av _ _ _ _ | show Dk.Kp _ _ _ _ | show Dk.bp _ _ | show Dk.bg _ _ _ _); repeat' first | exact rfl | (refine @id.{0} _ ?_; constructor))
  | intro _
  | exact rfl
  | (refine @id.{0} _ ?_; constructor)
  | apply Dk.loop 0 (V:=Unit) (fun (s:Int) v=>[]) (fun s v=>[(66,.int .i64 (s))]) () [(0,_),(3,_),(4,_),(64,_),(65,_)]
  | apply Dk.loop 2 (V:=Unit) (fun (s:Int) v=>[]) (fun s v=>[(121,.int .i64 (s))]) () [(0,_),(3,_),(4,_),(119,_),(120,_)]
  | apply Dk.loop 4 (V:=Unit) (fun (s:Int) v=>[]) (fun s v=>[(153,.int .i64 (s))]) () [(0,_),(4,_),(151,_),(152,_)]
  | apply Dk.loop 6 (V:=Unit) (fun (s:Int) v=>[]) (fun s v=>[(160,.int .i64 (s))]) () [(0,_),(4,_),(9,_),(151,_),(152,_),(153,_),(158,_),(159,_)]
  | apply Dk.quiet (id:=1) (by kernel_rfl)
  | apply Dk.quiet (id:=2) (by kernel_rfl)
  | apply Dk.quiet (id:=7) (by kernel_rfl)
  | apply Dk.quiet (id:=13) (by kernel_rfl)
  | apply Dk.quiet (id:=22) (by kernel_rfl)
  | apply Ll
  | apply WR
  | apply Ic
  | exact ()
theorem adg {x0:dB} {dK:Addr} {dD:Value} {dL:Value} {cU:Value} {cN:Value} {dE:Value} {dM:Value} {cV:Value} {cO:Value} {dR:Value} {dU:Value} {dF:Value} {dN:Value} {cW:Value} {cP:Value} {dG:Value} {dP:Value} {cX:Value} {cQ:Value} {dS:Value} {dV:Value} {fC:Value} {x1:(List Int)} {eC:Value} {x2:Int}:Ct Tryz.prog 167 true (jG x0 x1 x2) [.pointer (some (dK)),eC,.int .i64 (x2)] [.ak dK [.int .i64 (x0.F.aB.aC),dD,dL,cU,cN,.int .i64 (x0.F.aE.aC),dE,dM,cV,cO,dR,dU,.int .i64 (x0.G.aB.aC),dF,dN,cW,cP,.int .i64 (x0.G.aE.aC),dG,dP,cX,cQ,dS,dV,.bool (x0.yU),.int .i64 (x0.wc),fC],.rd false (aD (aA .i64)) dD x0.F.aB.aG,.rd false (aD (aA .i64)) dL x0.F.aB.To,.rd false (aD (aA .i64)) cU x0.F.aB.aJ,.rd false (aD (aD (aA .i64))) cN x0.F.aB.aF,.rd false (aD (aA .i64)) dE x0.F.aE.aG,.rd false (aD (aA .i64)) dM x0.F.aE.To,.rd false (aD (aA .i64)) cV x0.F.aE.aJ,.rd false (aD (aD (aA .i64))) cO x0.F.aE.aF,.rd false (aD (aA .i64)) dR x0.F.aC,.rd false (aD (aA .i64)) dU x0.F.af,.rd false (aD (aA .i64)) dF x0.G.aB.aG,.rd false (aD (aA .i64)) dN x0.G.aB.To,.rd false (aD (aA .i64)) cW x0.G.aB.aJ,.rd false (aD (aD (aA .i64))) cP x0.G.aB.aF,.rd false (aD (aA .i64)) dG x0.G.aE.aG,.rd false (aD (aA .i64)) dP x0.G.aE.To,.rd false (aD (aA .i64)) cX x0.G.aE.aJ,.rd false (aD (aD (aA .i64))) cQ x0.G.aE.aF,.rd false (aD (aA .i64)) dS x0.G.aC,.rd false (aD (aA .i64)) dV x0.G.af,.rd false (aD (aD (aA .i64))) fC x0.Found,.rd false (aD (aA .i64)) eC x1] (fun y (v:Value)=>[v]) (fun y v=>[.own (aK 2 (aA .i64)) v y]):=by
 refine ct (S:=Unit) (cf fun _ _=>rfl) Tryz.func167 rfl rfl ?_
 repeat' first
  | ((first | show Dk.ER _ _ _ | show Dk.bd _ _ | show Dk.EF _ _ _ | show Dk.EO _ _ _ | show Dk.EP _ _ | show Dk.bb _ _ _ _ | show Dk.av _ _ _ _ | show Dk.Kp _ _ _ _ | show Dk.bp _ _ | show Dk.bg _ _ _ _); repeat' first | exact rfl | (refine @id.{0} _ ?_; constructor))
  | intro _
  | exact rfl
  | (refine @id.{0} _ ?_; constructor)
  | apply Dk.loop 0 (V:=Value) (fun (s:(List Int)×Int) v=>[.own (aK 2 (aA .i64)) v s.1]) (fun s v=>[(10,v),(11,.int .i64 (s.2))]) _ [(0,_),(1,_),(2,_),(7,_),(8,_),(9,_)]
  | apply Dk.loop 2 (V:=Unit) (fun (s:Bool×Int) v=>[]) (fun s v=>[(13,.bool (s.1)),(14,.int .i64 (s.2))]) () [(0,_),(1,_),(2,_),(7,_),(8,_),(9,_),(10,_),(11,_),(12,_)]
  | apply Dk.quiet (id:=7) (by kernel_rfl)
  | apply Dk.quiet (id:=14) (by kernel_rfl)
  | apply Dk.quiet (id:=15) (by kernel_rfl)
  | apply Dk.any (id:=1) 13 [] [[],[],[],[],[],[],[],[],[],[],[],[],[10]] [[],[0],[1,0],[2,1,0],[3,2,1,0],[],[5],[6,5],[7,6,5],[8,7,6,5],[],[],[10,4,3,2,1,0,0,1,0,2,1,0,3,2,1,0,4,3,2,1,0,10,11]] (by kernel_rfl)
  | apply Dk.any (id:=2) 17 [] [] [[],[],[1],[2,1],[3,2,1],[4,3,2,1],[],[5,4,3,2,1,6],[7,5,4,3,2,1,6],[],[9],[10,9],[11,10,9],[12,11,10,9],[],[13,12,11,10,9,14],[15,13,12,11,10,9,14]] (by kernel_rfl)
  | apply Qm
  | apply ac7
  | apply yC
  | apply acM
  | exact ()
theorem WX {rc:dB→(List Int)→Option (dB)} (ih:∀ {x0:dB} {dX:Nat} {dD:Value} {dL:Value} {cU:Value} {cN:Value} {dE:Value} {dM:Value} {cV:Value} {cO:Value} {dR:Value} {dU:Value} {dF:Value} {dN:Value} {cW:Value} {cP:Value} {dG:Value} {dP:Value} {cX:Value} {cQ:Value} {dS:Value} {dV:Value} {fC:Value} {x1:(List Int)} {eC:Value},Ct Tryz.prog 101 false (rc x0 x1) [.pointer (some (⟨dX,0,none⟩)),eC] [.row dX [.int .i64 (x0.F.aB.aC),dD,dL,cU,cN,.int .i64 (x0.F.aE.aC),dE,dM,cV,cO,dR,dU,.int .i64 (x0.G.aB.aC),dF,dN,cW,cP,.int .i64 (x0.G.aE.aC),dG,dP,cX,cQ,dS,dV,.bool (x0.yU),.int .i64 (x0.wc),fC] 150,.rd false (aD (aA .i64)) dD x0.F.aB.aG,.rd false (aD (aA .i64)) dL x0.F.aB.To,.rd false (aD (aA .i64)) cU x0.F.aB.aJ,.rd false (aD (aD (aA .i64))) cN x0.F.aB.aF,.rd false (aD (aA .i64)) dE x0.F.aE.aG,.rd false (aD (aA .i64)) dM x0.F.aE.To,.rd false (aD (aA .i64)) cV x0.F.aE.aJ,.rd false (aD (aD (aA .i64))) cO x0.F.aE.aF,.rd false (aD (aA .i64)) dR x0.F.aC,.rd false (aD (aA .i64)) dU x0.F.af,.rd false (aD (aA .i64)) dF x0.G.aB.aG,.rd false (aD (aA .i64)) dN x0.G.aB.To,.rd false (aD (aA .i64)) cW x0.G.aB.aJ,.rd false (aD (aD (aA .i64))) cP x0.G.aB.aF,.rd false (aD (aA .i64)) dG x0.G.aE.aG,.rd false (aD (aA .i64)) dP x0.G.aE.To,.rd false (aD (aA .i64)) cX x0.G.aE.aJ,.rd false (aD (aD (aA .i64))) cQ x0.G.aE.aF,.rd false (aD (aA .i64)) dS x0.G.aC,.rd false (aD (aA .i64)) dV x0.G.af,.om 24 (aD (aA .i64)) fC x0.Found,.rd false (aD (aA .i64)) eC x1] (fun y (v:Value)=>[]) (fun y v=>[.row dX [.int .i64 y.F.aB.aC,dD,dL,cU,cN,.int .i64 y.F.aE.aC,dE,dM,cV,cO,dR,dU,.int .i64 y.G.aB.aC,dF,dN,cW,cP,.int .i64 y.G.aE.aC,dG,dP,cX,cQ,dS,dV,.bool y.yU,.int .i64 y.wc,v] 150,.om 24 (aD (aA .i64)) v y.Found])) {x0:dB} {dX:Nat} {dD:Value} {dL:Value} {cU:Value} {cN:Value} {dE:Value} {dM:Value} {cV:Value} {cO:Value} {dR:Value} {dU:Value} {dF:Value} {dN:Value} {cW:Value} {cP:Value} {dG:Value} {dP:Value} {cX:Value} {cQ:Value} {dS:Value} {dV:Value} {fC:Value} {x1:(List Int)} {eC:Value}:Ct Tryz.prog 101 false (oY rc x0 x1) [.pointer (some (⟨dX,0,none⟩)),eC] [.row dX [.int .i64 (x0.F.aB.aC),dD,dL,cU,cN,.int .i64 (x0.F.aE.aC),dE,dM,cV,cO,dR,dU,.int .i64 (x0.G.aB.aC),dF,dN,cW,cP,.int .i64 (x0.G.aE.aC),dG,dP,cX,cQ,dS,dV,.bool (x0.yU),.int .i64 (x0.wc),fC] 150,.rd false (aD (aA .i64)) dD x0.F.aB.aG,.rd false (aD (aA .i64)) dL x0.F.aB.To,.rd false (aD (aA .i64)) cU x0.F.aB.aJ,.rd false (aD (aD (aA .i64))) cN x0.F.aB.aF,.rd false (aD (aA .i64)) dE x0.F.aE.aG,.rd false (aD (aA .i64)) dM x0.F.aE.To,.rd false (aD (aA .i64)) cV x0.F.aE.aJ,.rd false (aD (aD (aA .i64))) cO x0.F.aE.aF,.rd false (aD (aA .i64)) dR x0.F.aC,.rd false (aD (aA .i64)) dU x0.F.af,.rd false (aD (aA .i64)) dF x0.G.aB.aG,.rd false (aD (aA .i64)) dN x0.G.aB.To,.rd false (aD (aA .i64)) cW x0.G.aB.aJ,.rd false (aD (aD (aA .i64))) cP x0.G.aB.aF,.rd false (aD (aA .i64)) dG x0.G.aE.aG,.rd false (aD (aA .i64)) dP x0.G.aE.To,.rd false (aD (aA .i64)) cX x0.G.aE.aJ,.rd false (aD (aD (aA .i64))) cQ x0.G.aE.aF,.rd false (aD (aA .i64)) dS x0.G.aC,.rd false (aD (aA .i64)) dV x0.G.af,.om 24 (aD (aA .i64)) fC x0.Found,.rd false (aD (aA .i64)) eC x1] (fun y (v:Value)=>[]) (fun y v=>[.row dX [.int .i64 y.F.aB.aC,dD,dL,cU,cN,.int .i64 y.F.aE.aC,dE,dM,cV,cO,dR,dU,.int .i64 y.G.aB.aC,dF,dN,cW,cP,.int .i64 y.G.aE.aC,dG,dP,cX,cQ,dS,dV,.bool y.yU,.int .i64 y.wc,v] 150,.om 24 (aD (aA .i64)) v y.Found]):=by
 refine ctv Dq Tryz.func101 rfl rfl ?_
 repeat' first
  | ((first | show Dk.ER _ _ _ | show Dk.bd _ _ | show Dk.EF _ _ _ | show Dk.EO _ _ _ | show Dk.EP _ _ | show Dk.bb _ _ _ _ | show Dk.av _ _ _ _ | show Dk.Kp _ _ _ _ | show Dk.bp _ _ | show Dk.bg _ _ _ _); repeat' first | exact rfl | (refine @id.{0} _ ?_; constructor))
  | intro _
  | exact rfl
  | apply Dk.aap (d:=38)
  | apply ih
  | (refine @id.{0} _ ?_; constructor)
  | apply Dk.loop 0 (V:=Unit) (fun (s:Int×Int) v=>[.om 24 (aD (aA .i64)) fC x0.Found]) (fun s v=>[(4,.int .i64 (s.1)),(5,.int .i64 (s.2))]) () [(0,_),(1,_)]
  | apply Dk.loop 2 (V:=Value) (fun (s:Int×Int×Int×Int×Int×Bool×Int×(List (List Int))) v=>[.row dX [.int .i64 (s.2.1),dD,dL,cU,cN,.int .i64 (s.2.2.1),dE,dM,cV,cO,dR,dU,.int .i64 (s.2.2.2.1),dF,dN,cW,cP,.int .i64 (s.2.2.2.2.1),dG,dP,cX,cQ,dS,dV,.bool (s.2.2.2.2.2.1),.int .i64 (s.2.2.2.2.2.2.1),v] 150,.om 24 (aD (aA .i64)) v s.2.2.2.2.2.2.2]) (fun s v=>[(7,.int .i64 (s.1))]) _ [(0,_),(1,_),(4,_),(6,_)]
  | apply Dk.quiet (id:=11) (by kernel_rfl)
  | apply Dk.any (id:=8) 8 [0] [] [[],[],[1],[2,1],[3,2,1],[],[5],[6,5]] (by kernel_rfl)
  | apply adg
  | apply yC
  | exact ()
theorem WY (n:Nat):∀ {x0:dB} {dX:Nat} {dD:Value} {dL:Value} {cU:Value} {cN:Value} {dE:Value} {dM:Value} {cV:Value} {cO:Value} {dR:Value} {dU:Value} {dF:Value} {dN:Value} {cW:Value} {cP:Value} {dG:Value} {dP:Value} {cX:Value} {cQ:Value} {dS:Value} {dV:Value} {fC:Value} {x1:(List Int)} {eC:Value},Ct Tryz.prog 101 false (gY n x0 x1) [.pointer (some (⟨dX,0,none⟩)),eC] [.row dX [.int .i64 (x0.F.aB.aC),dD,dL,cU,cN,.int .i64 (x0.F.aE.aC),dE,dM,cV,cO,dR,dU,.int .i64 (x0.G.aB.aC),dF,dN,cW,cP,.int .i64 (x0.G.aE.aC),dG,dP,cX,cQ,dS,dV,.bool (x0.yU),.int .i64 (x0.wc),fC] 150,.rd false (aD (aA .i64)) dD x0.F.aB.aG,.rd false (aD (aA .i64)) dL x0.F.aB.To,.rd false (aD (aA .i64)) cU x0.F.aB.aJ,.rd false (aD (aD (aA .i64))) cN x0.F.aB.aF,.rd false (aD (aA .i64)) dE x0.F.aE.aG,.rd false (aD (aA .i64)) dM x0.F.aE.To,.rd false (aD (aA .i64)) cV x0.F.aE.aJ,.rd false (aD (aD (aA .i64))) cO x0.F.aE.aF,.rd false (aD (aA .i64)) dR x0.F.aC,.rd false (aD (aA .i64)) dU x0.F.af,.rd false (aD (aA .i64)) dF x0.G.aB.aG,.rd false (aD (aA .i64)) dN x0.G.aB.To,.rd false (aD (aA .i64)) cW x0.G.aB.aJ,.rd false (aD (aD (aA .i64))) cP x0.G.aB.aF,.rd false (aD (aA .i64)) dG x0.G.aE.aG,.rd false (aD (aA .i64)) dP x0.G.aE.To,.rd false (aD (aA .i64)) cX x0.G.aE.aJ,.rd false (aD (aD (aA .i64))) cQ x0.G.aE.aF,.rd false (aD (aA .i64)) dS x0.G.aC,.rd false (aD (aA .i64)) dV x0.G.af,.om 24 (aD (aA .i64)) fC x0.Found,.rd false (aD (aA .i64)) eC x1] (fun y (v:Value)=>[]) (fun y v=>[.row dX [.int .i64 y.F.aB.aC,dD,dL,cU,cN,.int .i64 y.F.aE.aC,dE,dM,cV,cO,dR,dU,.int .i64 y.G.aB.aC,dF,dN,cW,cP,.int .i64 y.G.aE.aC,dG,dP,cX,cQ,dS,dV,.bool y.yU,.int .i64 y.wc,v] 150,.om 24 (aD (aA .i64)) v y.Found]):=by
 induction n with
 | zero=>intros; rw [qb]; exact ⟨Dq,fun _ _ _ _ _ _ _ y hy=>nomatch (show none=some y from hy)⟩
 | succ n ih=>exact WX ih
theorem adh {x0:dB} {dX:Nat} {dD:Value} {dL:Value} {cU:Value} {cN:Value} {dE:Value} {dM:Value} {cV:Value} {cO:Value} {dR:Value} {dU:Value} {dF:Value} {dN:Value} {cW:Value} {cP:Value} {dG:Value} {dP:Value} {cX:Value} {cQ:Value} {dS:Value} {dV:Value} {fC:Value} {x1:(List Int)} {eC:Value}:Ct Tryz.prog 101 false (gY 64 x0 x1) [.pointer (some (⟨dX,0,none⟩)),eC] [.row dX [.int .i64 (x0.F.aB.aC),dD,dL,cU,cN,.int .i64 (x0.F.aE.aC),dE,dM,cV,cO,dR,dU,.int .i64 (x0.G.aB.aC),dF,dN,cW,cP,.int .i64 (x0.G.aE.aC),dG,dP,cX,cQ,dS,dV,.bool (x0.yU),.int .i64 (x0.wc),fC] 150,.rd false (aD (aA .i64)) dD x0.F.aB.aG,.rd false (aD (aA .i64)) dL x0.F.aB.To,.rd false (aD (aA .i64)) cU x0.F.aB.aJ,.rd false (aD (aD (aA .i64))) cN x0.F.aB.aF,.rd false (aD (aA .i64)) dE x0.F.aE.aG,.rd false (aD (aA .i64)) dM x0.F.aE.To,.rd false (aD (aA .i64)) cV x0.F.aE.aJ,.rd false (aD (aD (aA .i64))) cO x0.F.aE.aF,.rd false (aD (aA .i64)) dR x0.F.aC,.rd false (aD (aA .i64)) dU x0.F.af,.rd false (aD (aA .i64)) dF x0.G.aB.aG,.rd false (aD (aA .i64)) dN x0.G.aB.To,.rd false (aD (aA .i64)) cW x0.G.aB.aJ,.rd false (aD (aD (aA .i64))) cP x0.G.aB.aF,.rd false (aD (aA .i64)) dG x0.G.aE.aG,.rd false (aD (aA .i64)) dP x0.G.aE.To,.rd false (aD (aA .i64)) cX x0.G.aE.aJ,.rd false (aD (aD (aA .i64))) cQ x0.G.aE.aF,.rd false (aD (aA .i64)) dS x0.G.aC,.rd false (aD (aA .i64)) dV x0.G.af,.om 24 (aD (aA .i64)) fC x0.Found,.rd false (aD (aA .i64)) eC x1] (fun y (v:Value)=>[]) (fun y v=>[.row dX [.int .i64 y.F.aB.aC,dD,dL,cU,cN,.int .i64 y.F.aE.aC,dE,dM,cV,cO,dR,dU,.int .i64 y.G.aB.aC,dF,dN,cW,cP,.int .i64 y.G.aE.aC,dG,dP,cX,cQ,dS,dV,.bool y.yU,.int .i64 y.wc,v] 150,.om 24 (aD (aA .i64)) v y.Found]):=by
 exact WY 64
theorem c75 {x0:aI} {dK:Addr} {aU:Value} {bC:Value} {aO:Value} {aM:Value}:Ct Tryz.prog 75 true (jA x0) [.pointer (some (dK))] [.ak dK [.int .i64 (x0.aC),aU,bC,aO,aM],.rd false (aD (aA .i64)) aU x0.aG,.rd false (aD (aA .i64)) bC x0.To,.rd false (aD (aA .i64)) aO x0.aJ,.rd false (aD (aD (aA .i64))) aM x0.aF] (fun y (v:Value×Value×Value×Value)=>[.agg #[.int .i64 y.aC,v.1,v.2.1,v.2.2.1,v.2.2.2]]) (fun y v=>[.own (aK 2 (aA .i64)) v.1 y.aG,.own (aK 2 (aA .i64)) v.2.1 y.To,.own (aK 2 (aA .i64)) v.2.2.1 y.aJ,.own (aK 24 (aK 2 (aA .i64))) v.2.2.2 y.aF]):=by
 refine ct (S:=Unit) (cf fun _ _=>rfl) Tryz.func75 rfl rfl ?_
 repeat' first
  | ((first | show Dk.ER _ _ _ | show Dk.bd _ _ | show Dk.EF _ _ _ | show Dk.EO _ _ _ | show Dk.EP _ _ | show Dk.bb _ _ _ _ | show Dk.av _ _ _ _ | show Dk.Kp _ _ _ _ | show Dk.bp _ _ | show Dk.bg _ _ _ _); repeat' first | exact rfl | (refine @id.{0} _ ?_; constructor))
  | intro _
  | exact rfl
  | (refine @id.{0} _ ?_; constructor)
  | apply Dk.any (id:=1) 24 [] [] [[],[0],[1,0],[2,1,0],[],[4],[5,4],[6,5,4],[7,6,5,4],[],[9],[10,9],[11,10,9],[12,11,10,9,8,7,6,5,4],[],[14],[15,14],[16,15,14],[17,16,15,14,13,12,11,10,9,8,7,6,5,4],[],[19],[20,19],[21,20,19],[22,21,20,19,18,17,16,15,14,13,12,11,10,9,8,7,6,5,4]] (by kernel_rfl)
  | apply JN
  | apply ac8
  | exact ()
theorem c68 {x0:aI} {dK:Addr} {aU:Value} {bC:Value} {aO:Value} {aM:Value} {x1:aI} {jB:Addr} {bZ:Value} {cM:Value} {bF:Value} {aW:Value} {x2:(List Int)} {eB:Value} {x3:(List Int)} {hY:Value}:Ct Tryz.prog 68 true (pC x0 x1 x2 x3) [.pointer (some (dK)),.pointer (some (jB)),eB,hY] [.ak jB [.int .i64 (x1.aC),bZ,cM,bF,aW],.ak dK [.int .i64 (x0.aC),aU,bC,aO,aM],.rd false (aD (aA .i64)) aU x0.aG,.rd false (aD (aA .i64)) bC x0.To,.rd false (aD (aA .i64)) aO x0.aJ,.rd false (aD (aD (aA .i64))) aM x0.aF,.rd false (aD (aA .i64)) bZ x1.aG,.rd false (aD (aA .i64)) cM x1.To,.rd false (aD (aA .i64)) bF x1.aJ,.rd false (aD (aD (aA .i64))) aW x1.aF,.rd false (aD (aA .i64)) eB x2,.rd false (aD (aA .i64)) hY x3] (fun y (v:Value×Value×Value×Value×Value×Value×Value×Value×Value×Value)=>[.agg #[.int .i64 y.aB.aC,v.1,v.2.1,v.2.2.1,v.2.2.2.1,.int .i64 y.aE.aC,v.2.2.2.2.1,v.2.2.2.2.2.1,v.2.2.2.2.2.2.1,v.2.2.2.2.2.2.2.1,v.2.2.2.2.2.2.2.2.1,v.2.2.2.2.2.2.2.2.2]]) (fun y v=>[.own (aK 2 (aA .i64)) v.1 y.aB.aG,.own (aK 2 (aA .i64)) v.2.1 y.aB.To,.own (aK 2 (aA .i64)) v.2.2.1 y.aB.aJ,.own (aK 24 (aK 2 (aA .i64))) v.2.2.2.1 y.aB.aF,.own (aK 2 (aA .i64)) v.2.2.2.2.1 y.aE.aG,.own (aK 2 (aA .i64)) v.2.2.2.2.2.1 y.aE.To,.own (aK 2 (aA .i64)) v.2.2.2.2.2.2.1 y.aE.aJ,.own (aK 24 (aK 2 (aA .i64))) v.2.2.2.2.2.2.2.1 y.aE.aF,.own (aK 2 (aA .i64)) v.2.2.2.2.2.2.2.2.1 y.aC,.own (aK 2 (aA .i64)) v.2.2.2.2.2.2.2.2.2 y.af]):=by
 refine ct (S:=Unit) (cf fun _ _=>rfl) Tryz.func68 rfl rfl ?_
 repeat' first
  | ((first | show Dk.ER _ _ _ | show Dk.bd _ _ | show Dk.EF _ _ _ | show Dk.EO _ _ _ | show Dk.EP _ _ | show Dk.bb _ _ _ _ | show Dk.av _ _ _ _ | show Dk.Kp _ _ _ _ | show Dk.bp _ _ | show Dk.bg _ _ _ _); repeat' first | exact rfl | (refine @id.{0} _ ?_; constructor))
  | intro _
  | exact rfl
  | (refine @id.{0} _ ?_; constructor)
  | apply c75
  | apply JN
  | exact ()
end Go.Proofs.YtkcpiblgpnjanaaGreat
