/- Walks by the calculus D. No condition beside those that each theorem names. -/
import Derived.Test.YtilhlobfebngdaaGreatDp
import Derived.Test.YtilhlobfebngdaaGreatDi
import Derived.Test.YtilhlobfebngdaaGreatMo
import Derived.Test.YtilhlobfebngdaaGreatDs
import Derived.Test.YtilhlobfebngdaaGreatWa
import Derived.Test.YtilhlobfebngdaaGreatWc
import Derived.Test.YtilhlobfebngdaaGreatWd
import Derived.Test.YtilhlobfebngdaaGreatWe
import Derived.Test.YtilhlobfebngdaaGreatWf
import Derived.Test.YtilhlobfebngdaaGreatWg
import Derived.Test.YtilhlobfebngdaaGreatWh
namespace Go.Proofs.YtilhlobfebngdaaGreat
open Go Go.Li Go.Dk
set_option linter.unusedVariables false
set_option maxHeartbeats 16000000
set_option maxRecDepth 100000
theorem af9 {x0:aK} {dG:Nat} {cC:Value}:Ct Tryz.prog 109 true (iX x0) [.pointer (some (⟨dG,0,none⟩))] [.row dG [cC,.int .i64 (x0.At),.int .u64 (x0.av)] 91,.rd false (bH (aN .u8)) cC x0.Code] (fun y (v:Value×Value×Value×Value)=>[.agg #[.int .i64 y.1.aA,v.1,v.2.1,v.2.2.1,v.2.2.2]]) (fun y v=>[.own (aL 2 (aN .i64)) v.1 y.1.aG,.own (aL 2 (aN .i64)) v.2.1 y.1.To,.own (aL 2 (aN .i64)) v.2.2.1 y.1.aJ,.own (aL 24 (aL 2 (aN .i64))) v.2.2.2 y.1.aE,.row dG [cC,.int .i64 y.2.At,.int .u64 y.2.av] 91]):=by
 refine ct (S:=Unit) (b9 fun _ _=>rfl) Tryz.func109 rfl rfl ?_
 repeat' first
  | (apply Dk.fe; repeat' first | exact rfl | (refine @id.{0} _ ?_; constructor))
  | intro _
  | exact rfl
  | (refine Dk.uW (t:=59) rfl ?_ ?_)
  | (refine @id.{0} _ ?_; constructor)
  | apply Dk.loop 1 (V:=Value) (fun (s:(List (List Int))×Int) v=>[.own (aL 24 (aL 2 (aN .i64))) v s.1]) (fun s v=>[(4,v),(5,.int .i64 (s.2))]) _ [(2,_),(3,_)]
  | apply Dk.loop 3 (V:=Value) (fun (s:(List Int)×Int) v=>[.own (aL 2 (aN .i64)) v s.1]) (fun s v=>[(6,v),(7,.int .i64 (s.2))]) _ [(2,_),(3,_),(4,_),(5,_)]
  | apply Dk.loop 5 (V:=Value×Value) (fun (s:(List Int)×(List Int)×Int×Int×Int) v=>[.row dG [cC,.int .i64 (s.2.2.2.1),.int .u64 (s.2.2.2.2)] 91,.own (aL 2 (aN .i64)) v.1 s.1,.own (aL 2 (aN .i64)) v.2 s.2.1]) (fun s v=>[(9,v.1),(10,v.2),(11,.int .i64 (s.2.2.1))]) (_,_) [(0,_),(2,_),(8,_)]
  | apply zu
  | apply afs
  | apply YI
  | apply afZ
  | apply afw
  | apply afT
  | apply afC
  | apply afN
  | apply Yz
  | exact ()
theorem TQ {x0:aK} {dG:Nat} {cC:Value} {x1:Int} {x2:Int}:Ct Tryz.prog 79 true (iB x0 x1 x2) [.pointer (some (⟨dG,0,none⟩)),.int .i64 (x1),.int .i64 (x2)] [.row dG [cC,.int .i64 (x0.At),.int .u64 (x0.av)] 91,.rd false (bH (aN .u8)) cC x0.Code] (fun y (v:Value×Value×Value×Value)=>[.agg #[.int .i64 y.1.aA,v.1,v.2.1,v.2.2.1,v.2.2.2]]) (fun y v=>[.own (aL 2 (aN .i64)) v.1 y.1.aG,.own (aL 2 (aN .i64)) v.2.1 y.1.To,.own (aL 2 (aN .i64)) v.2.2.1 y.1.aJ,.own (aL 24 (aL 2 (aN .i64))) v.2.2.2 y.1.aE,.row dG [cC,.int .i64 y.2.At,.int .u64 y.2.av] 91]):=by
 refine ct (S:=Unit) (b9 fun _ _=>rfl) Tryz.func79 rfl rfl ?_
 repeat' first
  | (apply Dk.fe; repeat' first | exact rfl | (refine @id.{0} _ ?_; constructor))
  | intro _
  | exact rfl
  | (refine @id.{0} _ ?_; constructor)
  | apply Dk.loop 0 (V:=Unit) (fun (s:Int×Int×Int) v=>[.row dG [cC,.int .i64 (s.2.1),.int .u64 (s.2.2)] 91]) (fun s v=>[(7,.int .i64 (s.1))]) () [(0,_),(1,_),(2,_),(6,_)]
  | apply Dk.wK (id:=6) [Dk.aX.row _ _ 91] 3 [] [[],[],[5]] [[],[],[1]] (by kernel_rfl)
  | apply Dk.wK (id:=8) [Dk.aX.row _ _ 91] 3 [] [[],[],[5]] [[],[],[1]] (by kernel_rfl)
  | apply af9
  | apply zu
  | apply YK
  | apply afx
  | apply YJ
  | apply YI
  | exact ()
theorem aga {x0:aI} {aV bE aP aO:Value} {x1:aI} {bY cH bJ bD:Value}:Ct Tryz.prog 113 true (lM x0 x1) [.agg #[.int .i64 (x0.aA),aV,bE,aP,aO],.agg #[.int .i64 (x1.aA),bY,cH,bJ,bD]] [rI aV x0.aG,rI bE x0.To,rI aP x0.aJ,rJ aO x0.aE,rI bY x1.aG,rI cH x1.To,rI bJ x1.aJ,rJ bD x1.aE] (fun y (v:Value)=>[v]) (fun y v=>[.own (aL 29 uo) v y]):=by
 refine ct (S:=Unit) (b9 fun _ _=>rfl) Tryz.func113 rfl rfl ?_
 repeat' first
  | (apply Dk.fe; repeat' first | exact rfl | (refine @id.{0} _ ?_; constructor))
  | intro _
  | exact rfl
  | apply Dk.WA (t:=146) uo
  | (refine @id.{0} _ ?_; constructor)
  | apply YN
  | exact ()
theorem YT {x0:aI} {aV bE aP aO:Value} {x1:aI} {bY cH bJ bD:Value}:Ct Tryz.prog 113 false (lM x0 x1) [.agg #[.int .i64 (x0.aA),aV,bE,aP,aO],.agg #[.int .i64 (x1.aA),bY,cH,bJ,bD]] [rI aV x0.aG,rI bE x0.To,rI aP x0.aJ,rJ aO x0.aE,rI bY x1.aG,rI cH x1.To,rI bJ x1.aJ,rJ bD x1.aE] (fun y (v:Value)=>[v]) (fun y v=>[.rd false (bH (rj I8)) v y]):=by
 refine ct (S:=Unit) B6 Tryz.func113 rfl rfl ?_
 repeat' first
  | (apply Dk.fe; repeat' first | exact rfl | (refine @id.{0} _ ?_; constructor))
  | intro _
  | exact rfl
  | apply Dk.WA (t:=146) uo
  | (refine @id.{0} _ ?_; constructor)
  | apply YN
  | exact ()
theorem agb {x0:aQ} {bK bQ aZ aW bL bR bA aY bU bZ:Value} {x1:aQ} {cV dE cI cE cW dF cJ cF dP dT:Value}:Ct Tryz.prog 114 false (mU x0 x1) [.agg #[.int .i64 (x0.aB.aA),bK,bQ,aZ,aW,.int .i64 (x0.aH.aA),bL,bR,bA,aY,bU,bZ],.agg #[.int .i64 (x1.aB.aA),cV,dE,cI,cE,.int .i64 (x1.aH.aA),cW,dF,cJ,cF,dP,dT]] [rI bK x0.aB.aG,rI bQ x0.aB.To,rI aZ x0.aB.aJ,rJ aW x0.aB.aE,rI bL x0.aH.aG,rI bR x0.aH.To,rI bA x0.aH.aJ,rJ aY x0.aH.aE,rI bU x0.aA,rI bZ x0.ab,rI cV x1.aB.aG,rI dE x1.aB.To,rI cI x1.aB.aJ,rJ cE x1.aB.aE,rI cW x1.aH.aG,rI dF x1.aH.To,rI cJ x1.aH.aJ,rJ cF x1.aH.aE,rI dP x1.aA,rI dT x1.ab] (fun y (v:Value)=>[v]) (fun y v=>[rJ v y]):=by
 refine ct (S:=Unit) B6 Tryz.func114 rfl rfl ?_
 repeat' first
  | (apply Dk.fe; repeat' first | exact rfl | (refine @id.{0} _ ?_; constructor))
  | intro _
  | exact rfl
  | (refine @id.{0} _ ?_; constructor)
  | apply afS
  | exact ()
theorem c63 {x0:aQ} {bK bQ aZ aW bL bR bA aY bU bZ:Value}:Ct Tryz.prog 63 true (jO x0) [.agg #[.int .i64 (x0.aB.aA),bK,bQ,aZ,aW,.int .i64 (x0.aH.aA),bL,bR,bA,aY,bU,bZ]] [rI bK x0.aB.aG,rI bQ x0.aB.To,rI aZ x0.aB.aJ,rJ aW x0.aB.aE,rI bL x0.aH.aG,rI bR x0.aH.To,rI bA x0.aH.aJ,rJ aY x0.aH.aE,rI bU x0.aA,rI bZ x0.ab] (fun y (v:Value×Value×Value×Value×Value×Value×Value×Value×Value×Value)=>[.agg #[.int .i64 y.aB.aA,v.1,v.2.1,v.2.2.1,v.2.2.2.1,.int .i64 y.aH.aA,v.2.2.2.2.1,v.2.2.2.2.2.1,v.2.2.2.2.2.2.1,v.2.2.2.2.2.2.2.1,v.2.2.2.2.2.2.2.2.1,v.2.2.2.2.2.2.2.2.2]]) (fun y v=>[.own (aL 2 (aN .i64)) v.1 y.aB.aG,.own (aL 2 (aN .i64)) v.2.1 y.aB.To,.own (aL 2 (aN .i64)) v.2.2.1 y.aB.aJ,.own (aL 24 (aL 2 (aN .i64))) v.2.2.2.1 y.aB.aE,.own (aL 2 (aN .i64)) v.2.2.2.2.1 y.aH.aG,.own (aL 2 (aN .i64)) v.2.2.2.2.2.1 y.aH.To,.own (aL 2 (aN .i64)) v.2.2.2.2.2.2.1 y.aH.aJ,.own (aL 24 (aL 2 (aN .i64))) v.2.2.2.2.2.2.2.1 y.aH.aE,.own (aL 2 (aN .i64)) v.2.2.2.2.2.2.2.2.1 y.aA,.own (aL 2 (aN .i64)) v.2.2.2.2.2.2.2.2.2 y.ab]):=by
 refine ct (S:=Unit) (b9 fun _ _=>rfl) Tryz.func63 rfl rfl ?_
 repeat' first
  | (apply Dk.fe; repeat' first | exact rfl | (refine @id.{0} _ ?_; constructor))
  | intro _
  | exact rfl
  | (refine @id.{0} _ ?_; constructor)
  | apply c91
  | exact ()
theorem c80 {x0:aI} {aV bE aP aO:Value}:Ct Tryz.prog 80 true (sF x0) [.agg #[.int .i64 (x0.aA),aV,bE,aP,aO]] [rI aV x0.aG,rI bE x0.To,rI aP x0.aJ,rJ aO x0.aE] (fun y (v:Value)=>[v,.int .i64 y.2]) (fun y v=>[.own (aL 31 CF) v y.1]):=by
 refine ct (S:=Unit) (b9 fun _ _=>rfl) Tryz.func80 rfl rfl ?_
 repeat' first
  | (apply Dk.fe; repeat' first | exact rfl | (refine @id.{0} _ ?_; constructor))
  | intro _
  | exact rfl
  | apply Dk.WA (t:=116) CF
  | apply Dk.apO (t:=116) (S:=CF) (bV.mk (aQ.mk (aI.mk _ _ _ _ _) (aI.mk _ _ _ _ _) _ _) _ _)
  | apply Dk.S5 (t:=116)
  | (refine @id.{0} _ ?_; constructor)
  | apply Dk.loop 0 (V:=Value) (fun (s:(List bV)×Int) v=>[.own (aL 31 CF) v s.1]) (fun s v=>[(4,v),(6,.int .i64 (s.2))]) _ [(1,_),(5,_)]
  | apply Dk.loop 2 (V:=Value) (fun (s:(List bV)×Int) v=>[.own (aL 31 CF) v s.1]) (fun s v=>[(4,v),(10,.int .i64 (s.2))]) _ [(1,_),(5,_),(6,_),(7,_),(8,_),(9,_)]
  | apply Dk.loop 4 (V:=Value) (fun (s:(List bV)×Int) v=>[.own (aL 31 CF) v s.1]) (fun s v=>[(4,v),(11,.int .i64 (s.2))]) _ [(1,_),(5,_),(6,_),(7,_),(8,_),(9,_),(10,_)]
  | apply Dk.quiet (id:=19) (by kernel_rfl)
  | apply Dk.any (id:=9) 3 [] [] [[],[0],[]] (by kernel_rfl)
  | apply Dk.any (id:=10) 3 [] [] [[],[0],[]] (by kernel_rfl)
  | apply Dk.any (id:=20) 15 [] [] [[],[],[1],[],[],[3,4],[3,4,5],[1,2,3,4,5,6],[],[],[8,9],[8,9,10],[1,2,3,4,5,6,7,8,9,10,11],[1,2,3,4,5,6,7,8,9,10,11,12],[1,2,3,4,5,6,7,8,9,10,11,12,13]] (by kernel_rfl)
  | apply YT
  | apply Pt
  | apply agb
  | apply c63
  | apply c64
  | apply YO
  | apply wW
  | exact ()
theorem c84 {x0:aK} {dG:Nat} {cC:Value} {x1:aI} {bY cH bJ bD:Value} {x2:Int} {x3:Int}:Ct Tryz.prog 84 true (nP x0 x1 x2 x3) [.pointer (some (⟨dG,0,none⟩)),.agg #[.int .i64 (x1.aA),bY,cH,bJ,bD],.int .i64 (x2),.int .i64 (x3)] [.row dG [cC,.int .i64 (x0.At),.int .u64 (x0.av)] 91,.rd false (bH (aN .u8)) cC x0.Code,rI bY x1.aG,rI cH x1.To,rI bJ x1.aJ,rJ bD x1.aE] (fun y (v:Value×Value×Value×Value×Value×Value×Value×Value×Value×Value)=>[.agg #[.int .i64 y.1.aB.aA,v.1,v.2.1,v.2.2.1,v.2.2.2.1,.int .i64 y.1.aH.aA,v.2.2.2.2.1,v.2.2.2.2.2.1,v.2.2.2.2.2.2.1,v.2.2.2.2.2.2.2.1,v.2.2.2.2.2.2.2.2.1,v.2.2.2.2.2.2.2.2.2]]) (fun y v=>[.own (aL 2 (aN .i64)) v.1 y.1.aB.aG,.own (aL 2 (aN .i64)) v.2.1 y.1.aB.To,.own (aL 2 (aN .i64)) v.2.2.1 y.1.aB.aJ,.own (aL 24 (aL 2 (aN .i64))) v.2.2.2.1 y.1.aB.aE,.own (aL 2 (aN .i64)) v.2.2.2.2.1 y.1.aH.aG,.own (aL 2 (aN .i64)) v.2.2.2.2.2.1 y.1.aH.To,.own (aL 2 (aN .i64)) v.2.2.2.2.2.2.1 y.1.aH.aJ,.own (aL 24 (aL 2 (aN .i64))) v.2.2.2.2.2.2.2.1 y.1.aH.aE,.own (aL 2 (aN .i64)) v.2.2.2.2.2.2.2.2.1 y.1.aA,.own (aL 2 (aN .i64)) v.2.2.2.2.2.2.2.2.2 y.1.ab,.row dG [cC,.int .i64 y.2.At,.int .u64 y.2.av] 91]):=by
 refine ct (S:=Unit) (b9 fun _ _=>rfl) Tryz.func84 rfl rfl ?_
 repeat' first
  | (apply Dk.fe; repeat' first | exact rfl | (refine @id.{0} _ ?_; constructor))
  | intro _
  | exact rfl
  | apply Dk.S5 (t:=146)
  | apply Dk.ixO (t:=146)
  | apply Dk.Wv (n:=12)
  | apply Dk.SY (n:=12)
  | apply Dk.Qi (n:=12)
  | (apply Dk.Lp (t:=38); exact rfl)
  | (refine @id.{0} _ ?_; constructor)
  | apply Dk.wK (id:=7) [Dk.aX.row _ _ 91] 6 [] [[],[],[],[],[],[8]] [[],[],[],[],[3],[2,3,4]] (by kernel_rfl)
  | apply TQ
  | apply afU
  | apply aga
  | apply zu
  | apply afO
  | apply Pt
  | exact ()
end Go.Proofs.YtilhlobfebngdaaGreat
