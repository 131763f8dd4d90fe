/- Walks by the calculus D. No condition beside those that each theorem names. -/
import Derived.Test.YtkcpiblgpnjanaaGreatDi
import Derived.Test.YtkcpiblgpnjanaaGreatMo
import Derived.Test.YtkcpiblgpnjanaaGreatDp
import Derived.Test.YtkcpiblgpnjanaaGreatDs
import Derived.Test.YtkcpiblgpnjanaaGreatWa
import Derived.Test.YtkcpiblgpnjanaaGreatWb
import Derived.Test.YtkcpiblgpnjanaaGreatWc
import Derived.Test.YtkcpiblgpnjanaaGreatWd
import Derived.Test.YtkcpiblgpnjanaaGreatWe
import Derived.Test.YtkcpiblgpnjanaaGreatWf
import Derived.Test.YtkcpiblgpnjanaaGreatWg
import Derived.Test.YtkcpiblgpnjanaaGreatWh
namespace Go.Proofs.YtkcpiblgpnjanaaGreat
open Go Go.Li Go.Dk
set_option linter.unusedVariables false
set_option maxHeartbeats 16000000
set_option maxRecDepth 100000
theorem ads {x0:aI} {aU:Value} {bC:Value} {aO:Value} {aM:Value} {x1:aI} {bZ:Value} {cM:Value} {bF:Value} {aW:Value}:Ct Tryz.prog 212 true (iX x0 x1) [.agg #[.int .i64 (x0.aC),aU,bC,aO,aM],.agg #[.int .i64 (x1.aC),bZ,cM,bF,aW]] [.rd false (aD (aA .i64)) aU x0.aG,.rd false (aD (aA .i64)) bC x0.To,.rd false (aD (aA .i64)) aO x0.aJ,.rd false (aD (aD (aA .i64))) aM x0.aF,.rd false (aD (aA .i64)) bZ x1.aG,.rd false (aD (aA .i64)) cM x1.To,.rd false (aD (aA .i64)) bF x1.aJ,.rd false (aD (aD (aA .i64))) aW x1.aF] (fun y (v:Value×Value×Value×Value)=>match v with | (q0,q1,q2,q3)=>[.agg #[.int .i64 y.aC,q0,q1,q2,q3]]) (fun y v=>match v with | (q0,q1,q2,q3)=>[.own (aK 2 (aA .i64)) q0 y.aG,.own (aK 2 (aA .i64)) q1 y.To,.own (aK 2 (aA .i64)) q2 y.aJ,.own (aK 24 (aK 2 (aA .i64))) q3 y.aF]):=by
 refine ct (S:=Unit) (cf fun _ _=>rfl) Tryz.func212 rfl rfl ?_
 repeat' first
  | ((first | show Dk.ER _ _ _ | show Dk.bd _ _ | show Dk.EF _ _ _ | show Dk.EO _ _ _ | show Dk.EP _ _ | show Dk.bb _ _ _ _ | show Dk.av _ _ _ _ | show Dk.Kp _ _ _ _ | show Dk.bp _ _ | show Dk.bg _ _ _ _); repeat' first | exact rfl | (refine @id.{0} _ ?_; constructor))
  | intro _
  | exact rfl
  | (refine Dk.tA (t:=60) rfl ?_ ?_)
  | (refine @id.{0} _ ?_; constructor)
  | apply Dk.jq 0 (V:=Value×Value) (A:=Nat×Value×Value×Value) (_,_,_,_) (fun a (s:Int×(List Int)×(List Int)) v=>Dk.pc (fun a0=>Dk.pc (fun a1=>Dk.pc (fun a2 a3=>[.row a0 [a1,v.1,v.2,a2,a3] 27,.own (aK 2 (aA .i64)) v.1 s.2.1,.own (aK 2 (aA .i64)) v.2 s.2.2]))) a) (fun a s v=>Dk.pc (fun a0=>Dk.pc (fun a1=>Dk.pc (fun a2 a3=>[(5,.pointer (some ⟨a0,0,none⟩)),(7,.int .i64 (s.1))]))) a) (_,_) [(2,_),(3,_),(4,_),(6,_)]
  | apply Dk.jq 2 (V:=Value×Value) (A:=Nat×Value×Value×Value) (_,_,_,_) (fun a (s:Int×(List Int)×(List Int)) v=>Dk.pc (fun a0=>Dk.pc (fun a1=>Dk.pc (fun a2 a3=>[.row a0 [a1,v.1,v.2,a2,a3] 27,.own (aK 2 (aA .i64)) v.1 s.2.1,.own (aK 2 (aA .i64)) v.2 s.2.2]))) a) (fun a s v=>Dk.pc (fun a0=>Dk.pc (fun a1=>Dk.pc (fun a2 a3=>[(5,.pointer (some ⟨a0,0,none⟩)),(8,.int .i64 (s.1))]))) a) (_,_) [(2,_),(3,_),(4,_),(6,_),(7,_)]
  | apply Dk.loop 4 (V:=Value) (fun (s:(List (List Int))×Int) v=>[.own (aK 24 (aK 2 (aA .i64))) v s.1]) (fun s v=>[(9,v),(10,.int .i64 (s.2))]) _ [(2,_),(3,_),(4,_),(5,_),(6,_)]
  | apply Dk.loop 6 (V:=Value) (fun (s:(List Int)×Int) v=>[.own (aK 2 (aA .i64)) v s.1]) (fun s v=>[(11,v),(12,.int .i64 (s.2))]) _ [(2,_),(3,_),(4,_),(5,_),(6,_),(9,_),(10,_)]
  | apply Dk.quiet (id:=20) (by kernel_rfl)
  | apply Dk.quiet (id:=21) (by kernel_rfl)
  | apply WZ
  | exact ()
theorem adu {x0:aN} {dX:Nat} {dC:Value}:Ct Tryz.prog 194 true (iO x0) [.pointer (some (⟨dX,0,none⟩))] [.row dX [dC,.int .i64 (x0.At),.int .u64 (x0.ay)] 142,.rd false (aD (aA .u8)) dC x0.Code] (fun y (v:Value×Value×Value×Value)=>[.agg #[.int .i64 y.1.aC,v.1,v.2.1,v.2.2.1,v.2.2.2]]) (fun y v=>[.own (aK 2 (aA .i64)) v.1 y.1.aG,.own (aK 2 (aA .i64)) v.2.1 y.1.To,.own (aK 2 (aA .i64)) v.2.2.1 y.1.aJ,.own (aK 24 (aK 2 (aA .i64))) v.2.2.2 y.1.aF,.row dX [dC,.int .i64 y.2.At,.int .u64 y.2.ay] 142]):=by
 refine ct (S:=Unit) (cf fun _ _=>rfl) Tryz.func194 rfl rfl ?_
 repeat' first
  | ((first | show Dk.ER _ _ _ | show Dk.bd _ _ | show Dk.EF _ _ _ | show Dk.EO _ _ _ | show Dk.EP _ _ | show Dk.bb _ _ _ _ | show Dk.av _ _ _ _ | show Dk.Kp _ _ _ _ | show Dk.bp _ _ | show Dk.bg _ _ _ _); repeat' first | exact rfl | (refine @id.{0} _ ?_; constructor))
  | intro _
  | exact rfl
  | (refine Dk.tA (t:=59) rfl ?_ ?_)
  | (refine @id.{0} _ ?_; constructor)
  | apply Dk.loop 1 (V:=Value) (fun (s:(List (List Int))×Int) v=>[.own (aK 24 (aK 2 (aA .i64))) v s.1]) (fun s v=>[(4,v),(5,.int .i64 (s.2))]) _ [(2,_),(3,_)]
  | apply Dk.loop 3 (V:=Value) (fun (s:(List Int)×Int) v=>[.own (aK 2 (aA .i64)) v s.1]) (fun s v=>[(6,v),(7,.int .i64 (s.2))]) _ [(2,_),(3,_),(4,_),(5,_)]
  | apply Dk.loop 5 (V:=Value×Value) (fun (s:(List Int)×(List Int)×Int×Int×Int) v=>[.row dX [dC,.int .i64 (s.2.2.2.1),.int .u64 (s.2.2.2.2)] 142,.own (aK 2 (aA .i64)) v.1 s.1,.own (aK 2 (aA .i64)) v.2 s.2.1]) (fun s v=>[(9,v.1),(10,v.2),(11,.int .i64 (s.2.2.1))]) (_,_) [(0,_),(2,_),(8,_)]
  | apply Ed
  | apply acU
  | apply WU
  | apply adm
  | apply acV
  | apply adb
  | apply acP
  | apply ads
  | apply acH
  | exact ()
theorem W3 {x0:aN} {dX:Nat} {dC:Value} {x1:Int} {x2:Int}:Ct Tryz.prog 162 true (mH x0 x1 x2) [.pointer (some (⟨dX,0,none⟩)),.int .i64 (x1),.int .i64 (x2)] [.row dX [dC,.int .i64 (x0.At),.int .u64 (x0.ay)] 142,.rd false (aD (aA .u8)) dC x0.Code] (fun y (v:Value×Value×Value×Value)=>[.agg #[.int .i64 y.1.aC,v.1,v.2.1,v.2.2.1,v.2.2.2]]) (fun y v=>[.own (aK 2 (aA .i64)) v.1 y.1.aG,.own (aK 2 (aA .i64)) v.2.1 y.1.To,.own (aK 2 (aA .i64)) v.2.2.1 y.1.aJ,.own (aK 24 (aK 2 (aA .i64))) v.2.2.2 y.1.aF,.row dX [dC,.int .i64 y.2.At,.int .u64 y.2.ay] 142]):=by
 refine ct (S:=Unit) (cf fun _ _=>rfl) Tryz.func162 rfl rfl ?_
 repeat' first
  | ((first | show Dk.ER _ _ _ | show Dk.bd _ _ | show Dk.EF _ _ _ | show Dk.EO _ _ _ | show Dk.EP _ _ | show Dk.bb _ _ _ _ | show Dk.av _ _ _ _ | show Dk.Kp _ _ _ _ | show Dk.bp _ _ | show Dk.bg _ _ _ _); repeat' first | exact rfl | (refine @id.{0} _ ?_; constructor))
  | intro _
  | exact rfl
  | (refine @id.{0} _ ?_; constructor)
  | apply Dk.loop 0 (V:=Unit) (fun (s:Int×Int×Int) v=>[.row dX [dC,.int .i64 (s.2.1),.int .u64 (s.2.2)] 142]) (fun s v=>[(7,.int .i64 (s.1))]) () [(0,_),(1,_),(2,_),(6,_)]
  | apply Dk.w9 (id:=6) [Dk.aw.row _ _ 142] 3 [] [[],[],[5]] [[],[],[1]] (by kernel_rfl)
  | apply Dk.w9 (id:=8) [Dk.aw.row _ _ 142] 3 [] [[],[],[5]] [[],[],[1]] (by kernel_rfl)
  | apply adu
  | apply Ed
  | apply WZ
  | apply acW
  | apply WK
  | apply WU
  | exact ()
theorem W4 {rc:aI→aI→(List Int)→(List aL)→Option ((List aL))} (ih:∀ {x0:aI} {aU:Value} {bC:Value} {aO:Value} {aM:Value} {x1:aI} {bZ:Value} {cM:Value} {bF:Value} {aW:Value} {x2:(List Int)} {eB:Value} {x3:(List aL)} {hY:Value},Ct Tryz.prog 118 true (rc x0 x1 x2 x3) [.agg #[.int .i64 (x0.aC),aU,bC,aO,aM],.agg #[.int .i64 (x1.aC),bZ,cM,bF,aW],eB,hY] [.rd false (aD (aA .i64)) aU x0.aG,.rd false (aD (aA .i64)) bC x0.To,.rd false (aD (aA .i64)) aO x0.aJ,.rd false (aD (aD (aA .i64))) aM x0.aF,.rd false (aD (aA .i64)) bZ x1.aG,.rd false (aD (aA .i64)) cM x1.To,.rd false (aD (aA .i64)) bF x1.aJ,.rd false (aD (aD (aA .i64))) aW x1.aF,.rd false (aD (aA .i64)) eB x2,.own (aK 29 tI) hY x3] (fun y (v:Value)=>[v]) (fun y v=>[.own (aK 29 tI) v y])) {x0:aI} {aU:Value} {bC:Value} {aO:Value} {aM:Value} {x1:aI} {bZ:Value} {cM:Value} {bF:Value} {aW:Value} {x2:(List Int)} {eB:Value} {x3:(List aL)} {hY:Value}:Ct Tryz.prog 118 true (lB rc x0 x1 x2 x3) [.agg #[.int .i64 (x0.aC),aU,bC,aO,aM],.agg #[.int .i64 (x1.aC),bZ,cM,bF,aW],eB,hY] [.rd false (aD (aA .i64)) aU x0.aG,.rd false (aD (aA .i64)) bC x0.To,.rd false (aD (aA .i64)) aO x0.aJ,.rd false (aD (aD (aA .i64))) aM x0.aF,.rd false (aD (aA .i64)) bZ x1.aG,.rd false (aD (aA .i64)) cM x1.To,.rd false (aD (aA .i64)) bF x1.aJ,.rd false (aD (aD (aA .i64))) aW x1.aF,.rd false (aD (aA .i64)) eB x2,.own (aK 29 tI) hY x3] (fun y (v:Value)=>[v]) (fun y v=>[.own (aK 29 tI) v y]):=by
 refine ct (S:=Unit) (cf fun _ _=>rfl) Tryz.func118 rfl rfl ?_
 repeat' first
  | ((first | show Dk.ER _ _ _ | show Dk.bd _ _ | show Dk.EF _ _ _ | show Dk.EO _ _ _ | show Dk.EP _ _ | show Dk.bb _ _ _ _ | show Dk.av _ _ _ _ | show Dk.Kp _ _ _ _ | show Dk.bp _ _ | show Dk.bg _ _ _ _); repeat' first | exact rfl | (refine @id.{0} _ ?_; constructor))
  | intro _
  | exact rfl
  | apply Dk.UF (t:=59)
  | apply ih
  | apply Dk.TS (t:=59) (S:=tI) (aL.mk (aI.mk _ _ _ _ _) (aI.mk _ _ _ _ _) _ _)
  | (refine @id.{0} _ ?_; constructor)
  | apply Dk.loop 0 (V:=Value) (fun (s:(List Int)×Int) v=>[.own (aK 2 (aA .i64)) v s.1]) (fun s v=>[(9,v),(10,.int .i64 (s.2))]) _ [(2,_),(3,_),(4,_),(5,_)]
  | apply Dk.jq 2 (V:=Unit) (A:=Value) _ (fun a (s:Int×(List Int)) v=>[.own (aK 2 (aA .i64)) a s.2]) (fun a s v=>[(9,a),(11,.int .i64 (s.1))]) () [(2,_),(3,_),(4,_),(5,_)]
  | apply Dk.loop 4 (V:=Value) (fun (s:(List aL)×Int) v=>[.own (aK 29 tI) v s.1]) (fun s v=>[(3,v),(13,.int .i64 (s.2))]) _ [(2,_),(4,_),(5,_),(12,_)]
  | apply Dk.loop 6 (V:=Value) (fun (s:(List aL)×Int) v=>[.own (aK 29 tI) v s.1]) (fun s v=>[(3,v),(14,.int .i64 (s.2))]) _ [(2,_),(4,_),(5,_)]
  | apply Dk.any (id:=12) 14 [] [] [[],[],[1],[],[2,1,3],[4,2,1,3],[],[6],[],[],[8,9],[10,8,9],[7,6,11,10,8,9],[12,7,6,11,10,8,9]] (by kernel_rfl)
  | apply Dk.any (id:=22) 8 [] [[],[],[],[],[],[],[3],[]] [[],[],[],[2],[],[4],[3,2,5,4,3,2],[]] (by kernel_rfl)
  | apply Dk.Re (id:=17) [(0,8)] 8 rfl (by kernel_rfl)
  | apply acI
  | apply acK
  | apply W0
  | apply yC
  | exact ()
theorem W5 (n:Nat):∀ {x0:aI} {aU:Value} {bC:Value} {aO:Value} {aM:Value} {x1:aI} {bZ:Value} {cM:Value} {bF:Value} {aW:Value} {x2:(List Int)} {eB:Value} {x3:(List aL)} {hY:Value},Ct Tryz.prog 118 true (iR n x0 x1 x2 x3) [.agg #[.int .i64 (x0.aC),aU,bC,aO,aM],.agg #[.int .i64 (x1.aC),bZ,cM,bF,aW],eB,hY] [.rd false (aD (aA .i64)) aU x0.aG,.rd false (aD (aA .i64)) bC x0.To,.rd false (aD (aA .i64)) aO x0.aJ,.rd false (aD (aD (aA .i64))) aM x0.aF,.rd false (aD (aA .i64)) bZ x1.aG,.rd false (aD (aA .i64)) cM x1.To,.rd false (aD (aA .i64)) bF x1.aJ,.rd false (aD (aD (aA .i64))) aW x1.aF,.rd false (aD (aA .i64)) eB x2,.own (aK 29 tI) hY x3] (fun y (v:Value)=>[v]) (fun y v=>[.own (aK 29 tI) v y]):=by
 induction n with
 | zero=>intros; rw [qb]; exact ⟨(cf fun _ _=>rfl),fun _ _ _ _ _ _ _ y hy=>nomatch (show none=some y from hy)⟩
 | succ n ih=>exact W4 ih
theorem adv {x0:aI} {aU:Value} {bC:Value} {aO:Value} {aM:Value} {x1:aI} {bZ:Value} {cM:Value} {bF:Value} {aW:Value} {x2:(List Int)} {eB:Value} {x3:(List aL)} {hY:Value}:Ct Tryz.prog 118 true (iR 64 x0 x1 x2 x3) [.agg #[.int .i64 (x0.aC),aU,bC,aO,aM],.agg #[.int .i64 (x1.aC),bZ,cM,bF,aW],eB,hY] [.rd false (aD (aA .i64)) aU x0.aG,.rd false (aD (aA .i64)) bC x0.To,.rd false (aD (aA .i64)) aO x0.aJ,.rd false (aD (aD (aA .i64))) aM x0.aF,.rd false (aD (aA .i64)) bZ x1.aG,.rd false (aD (aA .i64)) cM x1.To,.rd false (aD (aA .i64)) bF x1.aJ,.rd false (aD (aD (aA .i64))) aW x1.aF,.rd false (aD (aA .i64)) eB x2,.own (aK 29 tI) hY x3] (fun y (v:Value)=>[v]) (fun y v=>[.own (aK 29 tI) v y]):=by
 exact W5 64
theorem Zu {x0:aI} {aU:Value} {bC:Value} {aO:Value} {aM:Value} {x1:aI} {bZ:Value} {cM:Value} {bF:Value} {aW:Value}:Ct Tryz.prog 58 true (lQ x0 x1) [.agg #[.int .i64 (x0.aC),aU,bC,aO,aM],.agg #[.int .i64 (x1.aC),bZ,cM,bF,aW]] [.rd false (aD (aA .i64)) aU x0.aG,.rd false (aD (aA .i64)) bC x0.To,.rd false (aD (aA .i64)) aO x0.aJ,.rd false (aD (aD (aA .i64))) aM x0.aF,.rd false (aD (aA .i64)) bZ x1.aG,.rd false (aD (aA .i64)) cM x1.To,.rd false (aD (aA .i64)) bF x1.aJ,.rd false (aD (aD (aA .i64))) aW x1.aF] (fun y (v:Value)=>[v]) (fun y v=>[.own (aK 29 tI) v y]):=by
 refine ct (S:=Unit) (cf fun _ _=>rfl) Tryz.func58 rfl rfl ?_
 repeat' first
  | ((first | show Dk.ER _ _ _ | show Dk.bd _ _ | show Dk.EF _ _ _ | show Dk.EO _ _ _ | show Dk.EP _ _ | show Dk.bb _ _ _ _ | show Dk.av _ _ _ _ | show Dk.Kp _ _ _ _ | show Dk.bp _ _ | show Dk.bg _ _ _ _); repeat' first | exact rfl | (refine @id.{0} _ ?_; constructor))
  | intro _
  | exact rfl
  | apply Dk.lgO (t:=59) tI
  | (refine @id.{0} _ ?_; constructor)
  | apply adv
  | exact ()
theorem adw {x0:aI} {aU:Value} {bC:Value} {aO:Value} {aM:Value} {x1:aI} {bZ:Value} {cM:Value} {bF:Value} {aW:Value} {x2:Int}:Ct Tryz.prog 192 true (jX x0 x1 x2) [.agg #[.int .i64 (x0.aC),aU,bC,aO,aM],.agg #[.int .i64 (x1.aC),bZ,cM,bF,aW],.int .i64 (x2)] [.rd false (aD (aA .i64)) aU x0.aG,.rd false (aD (aA .i64)) bC x0.To,.rd false (aD (aA .i64)) aO x0.aJ,.rd false (aD (aD (aA .i64))) aM x0.aF,.rd false (aD (aA .i64)) bZ x1.aG,.rd false (aD (aA .i64)) cM x1.To,.rd false (aD (aA .i64)) bF x1.aJ,.rd false (aD (aD (aA .i64))) aW x1.aF] (fun y (v:Value×Value×Value×Value×Value×Value×Value×Value×Value×Value)=>[.agg #[.int .i64 y.aB.aC,v.1,v.2.1,v.2.2.1,v.2.2.2.1,.int .i64 y.aE.aC,v.2.2.2.2.1,v.2.2.2.2.2.1,v.2.2.2.2.2.2.1,v.2.2.2.2.2.2.2.1,v.2.2.2.2.2.2.2.2.1,v.2.2.2.2.2.2.2.2.2]]) (fun y v=>[.own (aK 2 (aA .i64)) v.1 y.aB.aG,.own (aK 2 (aA .i64)) v.2.1 y.aB.To,.own (aK 2 (aA .i64)) v.2.2.1 y.aB.aJ,.own (aK 24 (aK 2 (aA .i64))) v.2.2.2.1 y.aB.aF,.own (aK 2 (aA .i64)) v.2.2.2.2.1 y.aE.aG,.own (aK 2 (aA .i64)) v.2.2.2.2.2.1 y.aE.To,.own (aK 2 (aA .i64)) v.2.2.2.2.2.2.1 y.aE.aJ,.own (aK 24 (aK 2 (aA .i64))) v.2.2.2.2.2.2.2.1 y.aE.aF,.own (aK 2 (aA .i64)) v.2.2.2.2.2.2.2.2.1 y.aC,.own (aK 2 (aA .i64)) v.2.2.2.2.2.2.2.2.2 y.af]):=by
 refine ct (S:=Unit) (cf fun _ _=>rfl) Tryz.func192 rfl rfl ?_
 repeat' first
  | ((first | show Dk.ER _ _ _ | show Dk.bd _ _ | show Dk.EF _ _ _ | show Dk.EO _ _ _ | show Dk.EP _ _ | show Dk.bb _ _ _ _ | show Dk.av _ _ _ _ | show Dk.Kp _ _ _ _ | show Dk.bp _ _ | show Dk.bg _ _ _ _); repeat' first | exact rfl | (refine @id.{0} _ ?_; constructor))
  | intro _
  | exact rfl
  | (refine @id.{0} _ ?_; constructor)
  | apply Dk.loop 0 (V:=Value) (fun (s:(List Int)×Int) v=>[.own (aK 2 (aA .i64)) v s.1]) (fun s v=>[(7,v),(9,.int .i64 (s.2))]) _ [(2,_),(3,_),(4,_),(6,_),(8,_)]
  | apply Dk.loop 2 (V:=Value) (fun (s:(List Int)×Int) v=>[.own (aK 2 (aA .i64)) v s.1]) (fun s v=>[(8,v),(10,.int .i64 (s.2))]) _ [(2,_),(3,_),(4,_),(6,_),(7,_)]
  | apply W0
  | exact ()
theorem adx {x0:aI} {aU:Value} {bC:Value} {aO:Value} {aM:Value}:Ct Tryz.prog 193 true (jY x0) [.agg #[.int .i64 (x0.aC),aU,bC,aO,aM]] [.rd false (aD (aA .i64)) aU x0.aG,.rd false (aD (aA .i64)) bC x0.To,.rd false (aD (aA .i64)) aO x0.aJ,.rd false (aD (aD (aA .i64))) aM x0.aF] (fun y (v:Value×Value×Value×Value×Value×Value×Value×Value×Value×Value)=>[.agg #[.int .i64 y.aB.aC,v.1,v.2.1,v.2.2.1,v.2.2.2.1,.int .i64 y.aE.aC,v.2.2.2.2.1,v.2.2.2.2.2.1,v.2.2.2.2.2.2.1,v.2.2.2.2.2.2.2.1,v.2.2.2.2.2.2.2.2.1,v.2.2.2.2.2.2.2.2.2]]) (fun y v=>[.own (aK 2 (aA .i64)) v.1 y.aB.aG,.own (aK 2 (aA .i64)) v.2.1 y.aB.To,.own (aK 2 (aA .i64)) v.2.2.1 y.aB.aJ,.own (aK 24 (aK 2 (aA .i64))) v.2.2.2.1 y.aB.aF,.own (aK 2 (aA .i64)) v.2.2.2.2.1 y.aE.aG,.own (aK 2 (aA .i64)) v.2.2.2.2.2.1 y.aE.To,.own (aK 2 (aA .i64)) v.2.2.2.2.2.2.1 y.aE.aJ,.own (aK 24 (aK 2 (aA .i64))) v.2.2.2.2.2.2.2.1 y.aE.aF,.own (aK 2 (aA .i64)) v.2.2.2.2.2.2.2.2.1 y.aC,.own (aK 2 (aA .i64)) v.2.2.2.2.2.2.2.2.2 y.af]):=by
 refine ct (S:=Unit) (cf fun _ _=>rfl) Tryz.func193 rfl rfl ?_
 repeat' first
  | ((first | show Dk.ER _ _ _ | show Dk.bd _ _ | show Dk.EF _ _ _ | show Dk.EO _ _ _ | show Dk.EP _ _ | show Dk.bb _ _ _ _ | show Dk.av _ _ _ _ | show Dk.Kp _ _ _ _ | show Dk.bp _ _ | show Dk.bg _ _ _ _); repeat' first | exact rfl | (refine @id.{0} _ ?_; constructor))
  | intro _
  | exact rfl
  | (refine @id.{0} _ ?_; constructor)
  | apply Dk.loop 0 (V:=Value) (fun (s:(List Int)×Int) v=>[.own (aK 2 (aA .i64)) v s.1]) (fun s v=>[(3,v),(5,.int .i64 (s.2))]) _ [(1,_),(2,_),(4,_)]
  | apply Dk.loop 2 (V:=Value) (fun (s:(List Int)×Int) v=>[.own (aK 2 (aA .i64)) v s.1]) (fun s v=>[(4,v),(6,.int .i64 (s.2))]) _ [(1,_),(2,_),(3,_)]
  | apply W0
  | exact ()
theorem ady {x0:aN} {dX:Nat} {dC:Value} {x1:aI} {bZ:Value} {cM:Value} {bF:Value} {aW:Value} {x2:Int} {x3:Int}:Ct Tryz.prog 161 true (oM x0 x1 x2 x3) [.pointer (some (⟨dX,0,none⟩)),.agg #[.int .i64 (x1.aC),bZ,cM,bF,aW],.int .i64 (x2),.int .i64 (x3)] [.row dX [dC,.int .i64 (x0.At),.int .u64 (x0.ay)] 142,.rd false (aD (aA .u8)) dC x0.Code,.rd false (aD (aA .i64)) bZ x1.aG,.rd false (aD (aA .i64)) cM x1.To,.rd false (aD (aA .i64)) bF x1.aJ,.rd false (aD (aD (aA .i64))) aW x1.aF] (fun y (v:Value×Value×Value×Value×Value×Value×Value×Value×Value×Value)=>[.agg #[.int .i64 y.1.aB.aC,v.1,v.2.1,v.2.2.1,v.2.2.2.1,.int .i64 y.1.aE.aC,v.2.2.2.2.1,v.2.2.2.2.2.1,v.2.2.2.2.2.2.1,v.2.2.2.2.2.2.2.1,v.2.2.2.2.2.2.2.2.1,v.2.2.2.2.2.2.2.2.2]]) (fun y v=>[.own (aK 2 (aA .i64)) v.1 y.1.aB.aG,.own (aK 2 (aA .i64)) v.2.1 y.1.aB.To,.own (aK 2 (aA .i64)) v.2.2.1 y.1.aB.aJ,.own (aK 24 (aK 2 (aA .i64))) v.2.2.2.1 y.1.aB.aF,.own (aK 2 (aA .i64)) v.2.2.2.2.1 y.1.aE.aG,.own (aK 2 (aA .i64)) v.2.2.2.2.2.1 y.1.aE.To,.own (aK 2 (aA .i64)) v.2.2.2.2.2.2.1 y.1.aE.aJ,.own (aK 24 (aK 2 (aA .i64))) v.2.2.2.2.2.2.2.1 y.1.aE.aF,.own (aK 2 (aA .i64)) v.2.2.2.2.2.2.2.2.1 y.1.aC,.own (aK 2 (aA .i64)) v.2.2.2.2.2.2.2.2.2 y.1.af,.row dX [dC,.int .i64 y.2.At,.int .u64 y.2.ay] 142]):=by
 refine ct (S:=Unit) (cf fun _ _=>rfl) Tryz.func161 rfl rfl ?_
 repeat' first
  | ((first | show Dk.ER _ _ _ | show Dk.bd _ _ | show Dk.EF _ _ _ | show Dk.EO _ _ _ | show Dk.EP _ _ | show Dk.bb _ _ _ _ | show Dk.av _ _ _ _ | show Dk.Kp _ _ _ _ | show Dk.bp _ _ | show Dk.bg _ _ _ _); repeat' first | exact rfl | (refine @id.{0} _ ?_; constructor))
  | intro _
  | exact rfl
  | apply Dk.UF (t:=59)
  | apply Dk.YD (t:=59)
  | apply Dk.Uz (n:=12)
  | apply Dk.Q9 (n:=12)
  | apply Dk.OZ (n:=12)
  | (apply Dk.UE (t:=38); exact rfl)
  | (refine @id.{0} _ ?_; constructor)
  | apply Dk.w9 (id:=7) [Dk.aw.row _ _ 142] 6 [] [[],[],[],[],[],[8]] [[],[],[],[],[3],[2,4,3]] (by kernel_rfl)
  | apply W3
  | apply Zk
  | apply Zu
  | apply Ed
  | apply adw
  | apply adx
  | exact ()
theorem c92 {x0:aN} {dX:Nat} {dC:Value}:Ct Tryz.prog 92 false (mI x0) [.pointer (some (⟨dX,0,none⟩))] [.row dX [dC,.int .i64 (x0.At),.int .u64 (x0.ay)] 142,.rd false (aD (aA .u8)) dC x0.Code] (fun y (v:Value×Value×Value×Value×Value×Value×Value×Value×Value×Value)=>[.agg #[.int .i64 y.1.aB.aC,v.1,v.2.1,v.2.2.1,v.2.2.2.1,.int .i64 y.1.aE.aC,v.2.2.2.2.1,v.2.2.2.2.2.1,v.2.2.2.2.2.2.1,v.2.2.2.2.2.2.2.1,v.2.2.2.2.2.2.2.2.1,v.2.2.2.2.2.2.2.2.2]]) (fun y v=>[.rd false (aD (aA .i64)) v.1 y.1.aB.aG,.rd false (aD (aA .i64)) v.2.1 y.1.aB.To,.rd false (aD (aA .i64)) v.2.2.1 y.1.aB.aJ,.rd false (aD (aD (aA .i64))) v.2.2.2.1 y.1.aB.aF,.rd false (aD (aA .i64)) v.2.2.2.2.1 y.1.aE.aG,.rd false (aD (aA .i64)) v.2.2.2.2.2.1 y.1.aE.To,.rd false (aD (aA .i64)) v.2.2.2.2.2.2.1 y.1.aE.aJ,.rd false (aD (aD (aA .i64))) v.2.2.2.2.2.2.2.1 y.1.aE.aF,.rd false (aD (aA .i64)) v.2.2.2.2.2.2.2.2.1 y.1.aC,.rd false (aD (aA .i64)) v.2.2.2.2.2.2.2.2.2 y.1.af,.row dX [dC,.int .i64 y.2.At,.int .u64 y.2.ay] 142]):=by
 refine ct (S:=Unit) Dq Tryz.func92 rfl rfl ?_
 repeat' first
  | ((first | show Dk.ER _ _ _ | show Dk.bd _ _ | show Dk.EF _ _ _ | show Dk.EO _ _ _ | show Dk.EP _ _ | show Dk.bb _ _ _ _ | show Dk.av _ _ _ _ | show Dk.Kp _ _ _ _ | show Dk.bp _ _ | show Dk.bg _ _ _ _); repeat' first | exact rfl | (refine @id.{0} _ ?_; constructor))
  | (intro (v:Value×Value×Value×Value×Value×Value×Value×Value×Value×Value); obtain ⟨_,_,_,_,_,_,_,_,_,_⟩:=v; dsimp only)
  | intro _
  | exact rfl
  | (refine @id.{0} _ ?_; constructor)
  | apply Dk.w9 (id:=8) [Dk.aw.row _ _ 142] 12 [] [[],[],[],[],[14],[],[],[],[],[],[],[4]] [[],[0],[],[],[2,3],[],[],[6],[7,6],[8,7,6],[9,8,7,6],[5,10,9,8,7,6,4,2,3]] (by kernel_rfl)
  | apply W3
  | apply ady
  | apply Ed
  | apply adi
  | exact ()
end Go.Proofs.YtkcpiblgpnjanaaGreat
