/- Walks by the calculus D. No condition beside those that each theorem names. -/
import Derived.Test.YtilhlobfebngdaaGreatDp
import Derived.Test.YtilhlobfebngdaaGreatDi
import Derived.Test.YtilhlobfebngdaaGreatMo
import Derived.Test.YtilhlobfebngdaaGreatDs
import Derived.Test.YtilhlobfebngdaaGreatWa
import Derived.Test.YtilhlobfebngdaaGreatWc
import Derived.Test.YtilhlobfebngdaaGreatWd
import Derived.Test.YtilhlobfebngdaaGreatWe
import Derived.Test.YtilhlobfebngdaaGreatWf
import Derived.Test.YtilhlobfebngdaaGreatWg
import Derived.Test.YtilhlobfebngdaaGreatWh
namespace Go.Proofs.YtilhlobfebngdaaGreat
open Go Go.Li Go.Dk
set_option linter.unusedVariables false
set_option maxHeartbeats 16000000
set_option maxRecDepth 100000
theorem ajz {x0:aJ} {dG:Nat} {cB:Value}:Ct Tryz.prog 109 true (jK x0) [.pointer (some (⟨dG,0,none⟩))] [.row dG [cB,.int .i64 (x0.At),.int .u64 (x0.an)] 91,.rd false (bE (aL .u8)) cB x0.Code] (fun y (v:Value×Value×Value×Value)=>[.agg #[.int .i64 y.1.aA,v.1,v.2.1,v.2.2.1,v.2.2.2]]) (fun y v=>[.own (aI 2 (aL .i64)) v.1 y.1.aE,.own (aI 2 (aL .i64)) v.2.1 y.1.To,.own (aI 2 (aL .i64)) v.2.2.1 y.1.aH,.own (aI 24 (aI 2 (aL .i64))) v.2.2.2 y.1.aC,.row dG [cB,.int .i64 y.2.At,.int .u64 y.2.an] 91]):=by
 refine ct (S:=Unit) (bu fun _ _=>rfl) Tryz.func109 rfl rfl ?_
 repeat' first
  | (apply Dk.fe; repeat' first | exact rfl | (refine @id.{0} _ ?_; constructor))
  | intro _
  | exact rfl
  | (refine Dk.uo (t:=59) rfl ?_ ?_)
  | (refine @id.{0} _ ?_; constructor)
  | apply Dk.loop 1 (V:=Value) (fun (s:(List (List Int))×Int) v=>[.own (aI 24 (aI 2 (aL .i64))) v s.1]) (fun s v=>[(4,v),(5,.int .i64 (s.2))]) _ [(2,_),(3,_)]
  | apply Dk.loop 3 (V:=Value) (fun (s:(List Int)×Int) v=>[.own (aI 2 (aL .i64)) v s.1]) (fun s v=>[(6,v),(7,.int .i64 (s.2))]) _ [(2,_),(3,_),(4,_),(5,_)]
  | apply Dk.loop 5 (V:=Value×Value) (fun (s:(List Int)×(List Int)×Int×Int×Int) v=>[.row dG [cB,.int .i64 (s.2.2.2.1),.int .u64 (s.2.2.2.2)] 91,.own (aI 2 (aL .i64)) v.1 s.1,.own (aI 2 (aL .i64)) v.2 s.2.1]) (fun s v=>[(9,v.1),(10,v.2),(11,.int .i64 (s.2.2.1))]) (_,_) [(0,_),(2,_),(8,_)]
  | apply Bo
  | apply aiV
  | apply abb
  | apply ajp
  | apply aiW
  | apply ajj
  | apply ai3
  | apply ajc
  | apply aa4
  | exact ()
theorem V6 {x0:aJ} {dG:Nat} {cB:Value} {x1:Int} {x2:Int}:Ct Tryz.prog 79 true (iN x0 x1 x2) [.pointer (some (⟨dG,0,none⟩)),.int .i64 (x1),.int .i64 (x2)] [.row dG [cB,.int .i64 (x0.At),.int .u64 (x0.an)] 91,.rd false (bE (aL .u8)) cB x0.Code] (fun y (v:Value×Value×Value×Value)=>[.agg #[.int .i64 y.1.aA,v.1,v.2.1,v.2.2.1,v.2.2.2]]) (fun y v=>[.own (aI 2 (aL .i64)) v.1 y.1.aE,.own (aI 2 (aL .i64)) v.2.1 y.1.To,.own (aI 2 (aL .i64)) v.2.2.1 y.1.aH,.own (aI 24 (aI 2 (aL .i64))) v.2.2.2 y.1.aC,.row dG [cB,.int .i64 y.2.At,.int .u64 y.2.an] 91]):=by
 refine ct (S:=Unit) (bu fun _ _=>rfl) Tryz.func79 rfl rfl ?_
 repeat' first
  | (apply Dk.fe; repeat' first | exact rfl | (refine @id.{0} _ ?_; constructor))
  | intro _
  | exact rfl
  | (refine @id.{0} _ ?_; constructor)
  | apply Dk.loop 0 (V:=Unit) (fun (s:Int×Int×Int) v=>[.row dG [cB,.int .i64 (s.2.1),.int .u64 (s.2.2)] 91]) (fun s v=>[(7,.int .i64 (s.1))]) () [(0,_),(1,_),(2,_),(6,_)]
  | apply Dk.xJ (id:=6) [Dk.av.row _ _ 91] 3 [] [[],[],[5]] [[],[],[1]] (by kernel_rfl)
  | apply Dk.xJ (id:=8) [Dk.av.row _ _ 91] 3 [] [[],[],[5]] [[],[],[1]] (by kernel_rfl)
  | apply ajz
  | apply Bo
  | apply abe
  | apply aiX
  | apply Rp
  | apply abb
  | exact ()
theorem ajA {x0:aF} {aQ bC aO aN:Value} {x1:aF} {bW cF bF aZ:Value}:Ct Tryz.prog 113 true (mD x0 x1) [.agg #[.int .i64 (x0.aA),aQ,bC,aO,aN],.agg #[.int .i64 (x1.aA),bW,cF,bF,aZ]] [rI aQ x0.aE,rI bC x0.To,rI aO x0.aH,rJ aN x0.aC,rI bW x1.aE,rI cF x1.To,rI bF x1.aH,rJ aZ x1.aC] (fun y (v:Value)=>[v]) (fun y v=>[.own (aI 29 vr) v y]):=by
 refine ct (S:=Unit) (bu fun _ _=>rfl) Tryz.func113 rfl rfl ?_
 repeat' first
  | (apply Dk.fe; repeat' first | exact rfl | (refine @id.{0} _ ?_; constructor))
  | intro _
  | exact rfl
  | apply Dk.YP (t:=146) vr
  | (refine @id.{0} _ ?_; constructor)
  | apply abh
  | exact ()
theorem abB {x0:aF} {aQ bC aO aN:Value} {x1:aF} {bW cF bF aZ:Value}:Ct Tryz.prog 113 false (mD x0 x1) [.agg #[.int .i64 (x0.aA),aQ,bC,aO,aN],.agg #[.int .i64 (x1.aA),bW,cF,bF,aZ]] [rI aQ x0.aE,rI bC x0.To,rI aO x0.aH,rJ aN x0.aC,rI bW x1.aE,rI cF x1.To,rI bF x1.aH,rJ aZ x1.aC] (fun y (v:Value)=>[v]) (fun y v=>[.rd false (bE (sr Kz)) v y]):=by
 refine ct (S:=Unit) C4 Tryz.func113 rfl rfl ?_
 repeat' first
  | (apply Dk.fe; repeat' first | exact rfl | (refine @id.{0} _ ?_; constructor))
  | intro _
  | exact rfl
  | apply Dk.YP (t:=146) vr
  | (refine @id.{0} _ ?_; constructor)
  | apply abh
  | exact ()
theorem ajB {x0:aP} {bG bN aV aR bH bP aW aS bV cA:Value} {x1:aP} {cW dE cH cC cX dF cI cD dQ dU:Value}:Ct Tryz.prog 114 false (nK x0 x1) [.agg #[.int .i64 (x0.aB.aA),bG,bN,aV,aR,.int .i64 (x0.aG.aA),bH,bP,aW,aS,bV,cA],.agg #[.int .i64 (x1.aB.aA),cW,dE,cH,cC,.int .i64 (x1.aG.aA),cX,dF,cI,cD,dQ,dU]] [rI bG x0.aB.aE,rI bN x0.aB.To,rI aV x0.aB.aH,rJ aR x0.aB.aC,rI bH x0.aG.aE,rI bP x0.aG.To,rI aW x0.aG.aH,rJ aS x0.aG.aC,rI bV x0.aA,rI cA x0.ab,rI cW x1.aB.aE,rI dE x1.aB.To,rI cH x1.aB.aH,rJ cC x1.aB.aC,rI cX x1.aG.aE,rI dF x1.aG.To,rI cI x1.aG.aH,rJ cD x1.aG.aC,rI dQ x1.aA,rI dU x1.ab] (fun y (v:Value)=>[v]) (fun y v=>[rJ v y]):=by
 refine ct (S:=Unit) C4 Tryz.func114 rfl rfl ?_
 repeat' first
  | (apply Dk.fe; repeat' first | exact rfl | (refine @id.{0} _ ?_; constructor))
  | intro _
  | exact rfl
  | (refine @id.{0} _ ?_; constructor)
  | apply ajh
  | exact ()
theorem c63 {x0:aP} {bG bN aV aR bH bP aW aS bV cA:Value}:Ct Tryz.prog 63 true (kE x0) [.agg #[.int .i64 (x0.aB.aA),bG,bN,aV,aR,.int .i64 (x0.aG.aA),bH,bP,aW,aS,bV,cA]] [rI bG x0.aB.aE,rI bN x0.aB.To,rI aV x0.aB.aH,rJ aR x0.aB.aC,rI bH x0.aG.aE,rI bP x0.aG.To,rI aW x0.aG.aH,rJ aS x0.aG.aC,rI bV x0.aA,rI cA x0.ab] (fun y (v:Value×Value×Value×Value×Value×Value×Value×Value×Value×Value)=>[.agg #[.int .i64 y.aB.aA,v.1,v.2.1,v.2.2.1,v.2.2.2.1,.int .i64 y.aG.aA,v.2.2.2.2.1,v.2.2.2.2.2.1,v.2.2.2.2.2.2.1,v.2.2.2.2.2.2.2.1,v.2.2.2.2.2.2.2.2.1,v.2.2.2.2.2.2.2.2.2]]) (fun y v=>[.own (aI 2 (aL .i64)) v.1 y.aB.aE,.own (aI 2 (aL .i64)) v.2.1 y.aB.To,.own (aI 2 (aL .i64)) v.2.2.1 y.aB.aH,.own (aI 24 (aI 2 (aL .i64))) v.2.2.2.1 y.aB.aC,.own (aI 2 (aL .i64)) v.2.2.2.2.1 y.aG.aE,.own (aI 2 (aL .i64)) v.2.2.2.2.2.1 y.aG.To,.own (aI 2 (aL .i64)) v.2.2.2.2.2.2.1 y.aG.aH,.own (aI 24 (aI 2 (aL .i64))) v.2.2.2.2.2.2.2.1 y.aG.aC,.own (aI 2 (aL .i64)) v.2.2.2.2.2.2.2.2.1 y.aA,.own (aI 2 (aL .i64)) v.2.2.2.2.2.2.2.2.2 y.ab]):=by
 refine ct (S:=Unit) (bu fun _ _=>rfl) Tryz.func63 rfl rfl ?_
 repeat' first
  | (apply Dk.fe; repeat' first | exact rfl | (refine @id.{0} _ ?_; constructor))
  | intro _
  | exact rfl
  | (refine @id.{0} _ ?_; constructor)
  | apply c91
  | exact ()
theorem c80 {x0:aF} {aQ bC aO aN:Value}:Ct Tryz.prog 80 true (sY x0) [.agg #[.int .i64 (x0.aA),aQ,bC,aO,aN]] [rI aQ x0.aE,rI bC x0.To,rI aO x0.aH,rJ aN x0.aC] (fun y (v:Value)=>[v,.int .i64 y.2]) (fun y v=>[.own (aI 31 DL) v y.1]):=by
 refine ct (S:=Unit) (bu fun _ _=>rfl) Tryz.func80 rfl rfl ?_
 repeat' first
  | (apply Dk.fe; repeat' first | exact rfl | (refine @id.{0} _ ?_; constructor))
  | intro _
  | exact rfl
  | apply Dk.YP (t:=116) DL
  | apply Dk.apO (t:=116) (S:=DL) (bT.mk (aP.mk (aF.mk _ _ _ _ _) (aF.mk _ _ _ _ _) _ _) _ _)
  | apply Dk.Vd (t:=116)
  | (refine @id.{0} _ ?_; constructor)
  | apply Dk.loop 0 (V:=Value) (fun (s:(List bT)×Int) v=>[.own (aI 31 DL) v s.1]) (fun s v=>[(4,v),(6,.int .i64 (s.2))]) _ [(1,_),(5,_)]
  | apply Dk.loop 2 (V:=Value) (fun (s:(List bT)×Int) v=>[.own (aI 31 DL) v s.1]) (fun s v=>[(4,v),(10,.int .i64 (s.2))]) _ [(1,_),(5,_),(6,_),(7,_),(8,_),(9,_)]
  | apply Dk.loop 4 (V:=Value) (fun (s:(List bT)×Int) v=>[.own (aI 31 DL) v s.1]) (fun s v=>[(4,v),(11,.int .i64 (s.2))]) _ [(1,_),(5,_),(6,_),(7,_),(8,_),(9,_),(10,_)]
  | apply Dk.quiet (id:=19) (by kernel_rfl)
  | apply Dk.any (id:=9) 3 [] [] [[],[0],[]] (by kernel_rfl)
  | apply Dk.any (id:=10) 3 [] [] [[],[0],[]] (by kernel_rfl)
  | apply Dk.any (id:=20) 15 [] [] [[],[],[1],[],[],[3,4],[3,4,5],[1,2,3,4,5,6],[],[],[8,9],[8,9,10],[1,2,3,4,5,6,7,8,9,10,11],[1,2,3,4,5,6,7,8,9,10,11,12],[1,2,3,4,5,6,7,8,9,10,11,12,13]] (by kernel_rfl)
  | apply abB
  | apply Rq
  | apply ajB
  | apply c63
  | apply c64
  | apply abi
  | apply xV
  | exact ()
theorem c84 {x0:aJ} {dG:Nat} {cB:Value} {x1:aF} {bW cF bF aZ:Value} {x2:Int} {x3:Int}:Ct Tryz.prog 84 true (oH x0 x1 x2 x3) [.pointer (some (⟨dG,0,none⟩)),.agg #[.int .i64 (x1.aA),bW,cF,bF,aZ],.int .i64 (x2),.int .i64 (x3)] [.row dG [cB,.int .i64 (x0.At),.int .u64 (x0.an)] 91,.rd false (bE (aL .u8)) cB x0.Code,rI bW x1.aE,rI cF x1.To,rI bF x1.aH,rJ aZ x1.aC] (fun y (v:Value×Value×Value×Value×Value×Value×Value×Value×Value×Value)=>[.agg #[.int .i64 y.1.aB.aA,v.1,v.2.1,v.2.2.1,v.2.2.2.1,.int .i64 y.1.aG.aA,v.2.2.2.2.1,v.2.2.2.2.2.1,v.2.2.2.2.2.2.1,v.2.2.2.2.2.2.2.1,v.2.2.2.2.2.2.2.2.1,v.2.2.2.2.2.2.2.2.2]]) (fun y v=>[.own (aI 2 (aL .i64)) v.1 y.1.aB.aE,.own (aI 2 (aL .i64)) v.2.1 y.1.aB.To,.own (aI 2 (aL .i64)) v.2.2.1 y.1.aB.aH,.own (aI 24 (aI 2 (aL .i64))) v.2.2.2.1 y.1.aB.aC,.own (aI 2 (aL .i64)) v.2.2.2.2.1 y.1.aG.aE,.own (aI 2 (aL .i64)) v.2.2.2.2.2.1 y.1.aG.To,.own (aI 2 (aL .i64)) v.2.2.2.2.2.2.1 y.1.aG.aH,.own (aI 24 (aI 2 (aL .i64))) v.2.2.2.2.2.2.2.1 y.1.aG.aC,.own (aI 2 (aL .i64)) v.2.2.2.2.2.2.2.2.1 y.1.aA,.own (aI 2 (aL .i64)) v.2.2.2.2.2.2.2.2.2 y.1.ab,.row dG [cB,.int .i64 y.2.At,.int .u64 y.2.an] 91]):=by
 refine ct (S:=Unit) (bu fun _ _=>rfl) Tryz.func84 rfl rfl ?_
 repeat' first
  | (apply Dk.fe; repeat' first | exact rfl | (refine @id.{0} _ ?_; constructor))
  | intro _
  | exact rfl
  | apply Dk.Vd (t:=146)
  | apply Dk.ixO (t:=146)
  | apply Dk.YK (n:=12)
  | apply Dk.Va (n:=12)
  | apply Dk.Sy (n:=12)
  | (apply Dk.M5 (t:=38); exact rfl)
  | (refine @id.{0} _ ?_; constructor)
  | apply Dk.xJ (id:=7) [Dk.av.row _ _ 91] 6 [] [[],[],[],[],[],[8]] [[],[],[],[],[3],[2,3,4]] (by kernel_rfl)
  | apply V6
  | apply ajq
  | apply ajA
  | apply Bo
  | apply ajd
  | apply Rq
  | exact ()
end Go.Proofs.YtilhlobfebngdaaGreat
