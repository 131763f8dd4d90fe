/- Walks by the calculus D. No condition beside those that each theorem names. -/
import Derived.Test.YtgjbmjjihmfppaaGreatDi
import Derived.Test.YtgjbmjjihmfppaaGreatMo
import Derived.Test.YtgjbmjjihmfppaaGreatDp
import Derived.Test.YtgjbmjjihmfppaaGreatDs
import Derived.Test.YtgjbmjjihmfppaaGreatWa
import Derived.Test.YtgjbmjjihmfppaaGreatWd
namespace Go.Proofs.YtgjbmjjihmfppaaGreat
open Go Go.Li Go.Dk
set_option linter.unusedVariables false
set_option maxHeartbeats 16000000
set_option maxRecDepth 100000
theorem Wv {x0:(List (List Int))} {cY:Value}:Ct Tryz.prog 137 true (fJ x0) [cY] [.rd false (aE (aE (aC .i64))) cY x0] (fun y (v:Value×Value×Value×Value)=>[.agg #[.int .i64 y.aA,v.1,v.2.1,v.2.2.1,v.2.2.2]]) (fun y v=>[.own (aK 2 (aC .i64)) v.1 y.aD,.own (aK 2 (aC .i64)) v.2.1 y.To,.own (aK 2 (aC .i64)) v.2.2.1 y.aJ,.own (aK 24 (aK 2 (aC .i64))) v.2.2.2 y.aB]):=by
 refine ct (S:=Unit) (db fun _ _=>rfl) Tryz.func137 rfl rfl ?_
 repeat' first
  | ((first | show Dk.ER _ _ _ | show Dk.bd _ _ | show Dk.EF _ _ _ | show Dk.EO _ _ _ | show Dk.EP _ _ | show Dk.ba _ _ _ _ | show Dk.aw _ _ _ _ | show Dk.Kp _ _ _ _ | show Dk.bp _ _ | show Dk.bg _ _ _ _); repeat' first | exact rfl | (refine @id.{0} _ ?_; constructor))
  | intro _
  | exact rfl
  | (refine @id.{0} _ ?_; constructor)
  | apply Dk.any (id:=2) 7 [] [] [[],[0,0],[],[2,2],[],[],[5]] (by kernel_rfl)
  | apply Wh
  | exact ()
theorem acw {x0:bX} {dE:Addr} {bZ:Value} {cD:Value} {bT:Value} {bL:Value} {cA:Value} {cE:Value} {bU:Value} {bN:Value} {cM:Value} {cT:Value} {cB:Value} {cF:Value} {bV:Value} {bP:Value} {cC:Value} {cG:Value} {bW:Value} {bQ:Value} {cN:Value} {cU:Value} {dQ:Value} {x1:(List Int)} {dI:Value} {x2:Int}:Ct Tryz.prog 161 true (gG x0 x1 x2) [.pointer (some (dE)),dI,.int .i64 (x2)] [.aq dE [.int .i64 (x0.F.aH.aA),bZ,cD,bT,bL,.int .i64 (x0.F.aI.aA),cA,cE,bU,bN,cM,cT,.int .i64 (x0.G.aH.aA),cB,cF,bV,bP,.int .i64 (x0.G.aI.aA),cC,cG,bW,bQ,cN,cU,.bool (x0.yE),.int .i64 (x0.vA),dQ],.rd false (aE (aC .i64)) bZ x0.F.aH.aD,.rd false (aE (aC .i64)) cD x0.F.aH.To,.rd false (aE (aC .i64)) bT x0.F.aH.aJ,.rd false (aE (aE (aC .i64))) bL x0.F.aH.aB,.rd false (aE (aC .i64)) cA x0.F.aI.aD,.rd false (aE (aC .i64)) cE x0.F.aI.To,.rd false (aE (aC .i64)) bU x0.F.aI.aJ,.rd false (aE (aE (aC .i64))) bN x0.F.aI.aB,.rd false (aE (aC .i64)) cM x0.F.aA,.rd false (aE (aC .i64)) cT x0.F.aj,.rd false (aE (aC .i64)) cB x0.G.aH.aD,.rd false (aE (aC .i64)) cF x0.G.aH.To,.rd false (aE (aC .i64)) bV x0.G.aH.aJ,.rd false (aE (aE (aC .i64))) bP x0.G.aH.aB,.rd false (aE (aC .i64)) cC x0.G.aI.aD,.rd false (aE (aC .i64)) cG x0.G.aI.To,.rd false (aE (aC .i64)) bW x0.G.aI.aJ,.rd false (aE (aE (aC .i64))) bQ x0.G.aI.aB,.rd false (aE (aC .i64)) cN x0.G.aA,.rd false (aE (aC .i64)) cU x0.G.aj,.rd false (aE (aE (aC .i64))) dQ x0.Found,.rd false (aE (aC .i64)) dI x1] (fun y (v:Value)=>[v]) (fun y v=>[.own (aK 2 (aC .i64)) v y]):=by
 refine ct (S:=Unit) (db fun _ _=>rfl) Tryz.func161 rfl rfl ?_
 repeat' first
  | ((first | show Dk.ER _ _ _ | show Dk.bd _ _ | show Dk.EF _ _ _ | show Dk.EO _ _ _ | show Dk.EP _ _ | show Dk.ba _ _ _ _ | show Dk.aw _ _ _ _ | show Dk.Kp _ _ _ _ | show Dk.bp _ _ | show Dk.bg _ _ _ _); repeat' first | exact rfl | (refine @id.{0} _ ?_; constructor))
  | intro _
  | exact rfl
  | (refine @id.{0} _ ?_; constructor)
  | apply Dk.loop 0 (V:=Value) (fun (s:(List Int)×Int) v=>[.own (aK 2 (aC .i64)) v s.1]) (fun s v=>[(10,v),(11,.int .i64 (s.2))]) _ [(0,_),(1,_),(2,_),(7,_),(8,_),(9,_)]
  | apply Dk.loop 2 (V:=Unit) (fun (s:Bool×Int) v=>[]) (fun s v=>[(13,.bool (s.1)),(14,.int .i64 (s.2))]) () [(0,_),(1,_),(2,_),(7,_),(8,_),(9,_),(10,_),(11,_),(12,_)]
  | apply Dk.quiet (id:=7) (by kernel_rfl)
  | apply Dk.quiet (id:=14) (by kernel_rfl)
  | apply Dk.quiet (id:=15) (by kernel_rfl)
  | apply Dk.any (id:=1) 13 [] [[],[],[],[],[],[],[],[],[],[],[],[],[10]] [[],[0],[1,0],[2,1,0],[3,2,1,0],[],[5],[6,5],[7,6,5],[8,7,6,5],[],[],[10,4,3,2,1,0,0,1,0,2,1,0,3,2,1,0,4,3,2,1,0,10,11]] (by kernel_rfl)
  | apply Dk.any (id:=2) 17 [] [] [[],[],[1],[2,1],[3,2,1],[4,3,2,1],[],[5,4,3,2,1,6],[7,5,4,3,2,1,6],[],[9],[10,9],[11,10,9],[12,11,10,9],[],[13,12,11,10,9,14],[15,13,12,11,10,9,14]] (by kernel_rfl)
  | apply Kn
  | apply acu
  | apply yp
  | apply acv
  | exact ()
theorem Ww {rc:bX→(List Int)→Option (bX)} (ih:∀ {x0:bX} {cH:Nat} {bZ:Value} {cD:Value} {bT:Value} {bL:Value} {cA:Value} {cE:Value} {bU:Value} {bN:Value} {cM:Value} {cT:Value} {cB:Value} {cF:Value} {bV:Value} {bP:Value} {cC:Value} {cG:Value} {bW:Value} {bQ:Value} {cN:Value} {cU:Value} {dQ:Value} {x1:(List Int)} {dI:Value},Ct Tryz.prog 157 false (rc x0 x1) [.pointer (some (⟨cH,0,none⟩)),dI] [.row cH [.int .i64 (x0.F.aH.aA),bZ,cD,bT,bL,.int .i64 (x0.F.aI.aA),cA,cE,bU,bN,cM,cT,.int .i64 (x0.G.aH.aA),cB,cF,bV,bP,.int .i64 (x0.G.aI.aA),cC,cG,bW,bQ,cN,cU,.bool (x0.yE),.int .i64 (x0.vA),dQ] 180,.rd false (aE (aC .i64)) bZ x0.F.aH.aD,.rd false (aE (aC .i64)) cD x0.F.aH.To,.rd false (aE (aC .i64)) bT x0.F.aH.aJ,.rd false (aE (aE (aC .i64))) bL x0.F.aH.aB,.rd false (aE (aC .i64)) cA x0.F.aI.aD,.rd false (aE (aC .i64)) cE x0.F.aI.To,.rd false (aE (aC .i64)) bU x0.F.aI.aJ,.rd false (aE (aE (aC .i64))) bN x0.F.aI.aB,.rd false (aE (aC .i64)) cM x0.F.aA,.rd false (aE (aC .i64)) cT x0.F.aj,.rd false (aE (aC .i64)) cB x0.G.aH.aD,.rd false (aE (aC .i64)) cF x0.G.aH.To,.rd false (aE (aC .i64)) bV x0.G.aH.aJ,.rd false (aE (aE (aC .i64))) bP x0.G.aH.aB,.rd false (aE (aC .i64)) cC x0.G.aI.aD,.rd false (aE (aC .i64)) cG x0.G.aI.To,.rd false (aE (aC .i64)) bW x0.G.aI.aJ,.rd false (aE (aE (aC .i64))) bQ x0.G.aI.aB,.rd false (aE (aC .i64)) cN x0.G.aA,.rd false (aE (aC .i64)) cU x0.G.aj,.om 24 (aE (aC .i64)) dQ x0.Found,.rd false (aE (aC .i64)) dI x1] (fun y (v:Value)=>[]) (fun y v=>[.row cH [.int .i64 y.F.aH.aA,bZ,cD,bT,bL,.int .i64 y.F.aI.aA,cA,cE,bU,bN,cM,cT,.int .i64 y.G.aH.aA,cB,cF,bV,bP,.int .i64 y.G.aI.aA,cC,cG,bW,bQ,cN,cU,.bool y.yE,.int .i64 y.vA,v] 180,.om 24 (aE (aC .i64)) v y.Found])) {x0:bX} {cH:Nat} {bZ:Value} {cD:Value} {bT:Value} {bL:Value} {cA:Value} {cE:Value} {bU:Value} {bN:Value} {cM:Value} {cT:Value} {cB:Value} {cF:Value} {bV:Value} {bP:Value} {cC:Value} {cG:Value} {bW:Value} {bQ:Value} {cN:Value} {cU:Value} {dQ:Value} {x1:(List Int)} {dI:Value}:Ct Tryz.prog 157 false (nW rc x0 x1) [.pointer (some (⟨cH,0,none⟩)),dI] [.row cH [.int .i64 (x0.F.aH.aA),bZ,cD,bT,bL,.int .i64 (x0.F.aI.aA),cA,cE,bU,bN,cM,cT,.int .i64 (x0.G.aH.aA),cB,cF,bV,bP,.int .i64 (x0.G.aI.aA),cC,cG,bW,bQ,cN,cU,.bool (x0.yE),.int .i64 (x0.vA),dQ] 180,.rd false (aE (aC .i64)) bZ x0.F.aH.aD,.rd false (aE (aC .i64)) cD x0.F.aH.To,.rd false (aE (aC .i64)) bT x0.F.aH.aJ,.rd false (aE (aE (aC .i64))) bL x0.F.aH.aB,.rd false (aE (aC .i64)) cA x0.F.aI.aD,.rd false (aE (aC .i64)) cE x0.F.aI.To,.rd false (aE (aC .i64)) bU x0.F.aI.aJ,.rd false (aE (aE (aC .i64))) bN x0.F.aI.aB,.rd false (aE (aC .i64)) cM x0.F.aA,.rd false (aE (aC .i64)) cT x0.F.aj,.rd false (aE (aC .i64)) cB x0.G.aH.aD,.rd false (aE (aC .i64)) cF x0.G.aH.To,.rd false (aE (aC .i64)) bV x0.G.aH.aJ,.rd false (aE (aE (aC .i64))) bP x0.G.aH.aB,.rd false (aE (aC .i64)) cC x0.G.aI.aD,.rd false (aE (aC .i64)) cG x0.G.aI.To,.rd false (aE (aC .i64)) bW x0.G.aI.aJ,.rd false (aE (aE (aC .i64))) bQ x0.G.aI.aB,.rd false (aE (aC .i64)) cN x0.G.aA,.rd false (aE (aC .i64)) cU x0.G.aj,.om 24 (aE (aC .i64)) dQ x0.Found,.rd false (aE (aC .i64)) dI x1] (fun y (v:Value)=>[]) (fun y v=>[.row cH [.int .i64 y.F.aH.aA,bZ,cD,bT,bL,.int .i64 y.F.aI.aA,cA,cE,bU,bN,cM,cT,.int .i64 y.G.aH.aA,cB,cF,bV,bP,.int .i64 y.G.aI.aA,cC,cG,bW,bQ,cN,cU,.bool y.yE,.int .i64 y.vA,v] 180,.om 24 (aE (aC .i64)) v y.Found]):=by
 refine XL uz Tryz.func157 rfl rfl ?_
 repeat' first
  | ((first | show Dk.ER _ _ _ | show Dk.bd _ _ | show Dk.EF _ _ _ | show Dk.EO _ _ _ | show Dk.EP _ _ | show Dk.ba _ _ _ _ | show Dk.aw _ _ _ _ | show Dk.Kp _ _ _ _ | show Dk.bp _ _ | show Dk.bg _ _ _ _); repeat' first | exact rfl | (refine @id.{0} _ ?_; constructor))
  | intro _
  | exact rfl
  | apply Dk.ZI (d:=38)
  | apply ih
  | (refine @id.{0} _ ?_; constructor)
  | apply Dk.loop 0 (V:=Unit) (fun (s:Int×Int) v=>[.om 24 (aE (aC .i64)) dQ x0.Found]) (fun s v=>[(4,.int .i64 (s.1)),(5,.int .i64 (s.2))]) () [(0,_),(1,_)]
  | apply Dk.loop 2 (V:=Value) (fun (s:Int×Int×Int×Int×Int×Bool×Int×(List (List Int))) v=>[.row cH [.int .i64 (s.2.1),bZ,cD,bT,bL,.int .i64 (s.2.2.1),cA,cE,bU,bN,cM,cT,.int .i64 (s.2.2.2.1),cB,cF,bV,bP,.int .i64 (s.2.2.2.2.1),cC,cG,bW,bQ,cN,cU,.bool (s.2.2.2.2.2.1),.int .i64 (s.2.2.2.2.2.2.1),v] 180,.om 24 (aE (aC .i64)) v s.2.2.2.2.2.2.2]) (fun s v=>[(7,.int .i64 (s.1))]) _ [(0,_),(1,_),(4,_),(6,_)]
  | apply Dk.quiet (id:=11) (by kernel_rfl)
  | apply Dk.any (id:=8) 8 [0] [] [[],[],[1],[2,1],[3,2,1],[],[5],[6,5]] (by kernel_rfl)
  | apply acw
  | apply yp
  | exact ()
theorem Wx (n:Nat):∀ {x0:bX} {cH:Nat} {bZ:Value} {cD:Value} {bT:Value} {bL:Value} {cA:Value} {cE:Value} {bU:Value} {bN:Value} {cM:Value} {cT:Value} {cB:Value} {cF:Value} {bV:Value} {bP:Value} {cC:Value} {cG:Value} {bW:Value} {bQ:Value} {cN:Value} {cU:Value} {dQ:Value} {x1:(List Int)} {dI:Value},Ct Tryz.prog 157 false (eY n x0 x1) [.pointer (some (⟨cH,0,none⟩)),dI] [.row cH [.int .i64 (x0.F.aH.aA),bZ,cD,bT,bL,.int .i64 (x0.F.aI.aA),cA,cE,bU,bN,cM,cT,.int .i64 (x0.G.aH.aA),cB,cF,bV,bP,.int .i64 (x0.G.aI.aA),cC,cG,bW,bQ,cN,cU,.bool (x0.yE),.int .i64 (x0.vA),dQ] 180,.rd false (aE (aC .i64)) bZ x0.F.aH.aD,.rd false (aE (aC .i64)) cD x0.F.aH.To,.rd false (aE (aC .i64)) bT x0.F.aH.aJ,.rd false (aE (aE (aC .i64))) bL x0.F.aH.aB,.rd false (aE (aC .i64)) cA x0.F.aI.aD,.rd false (aE (aC .i64)) cE x0.F.aI.To,.rd false (aE (aC .i64)) bU x0.F.aI.aJ,.rd false (aE (aE (aC .i64))) bN x0.F.aI.aB,.rd false (aE (aC .i64)) cM x0.F.aA,.rd false (aE (aC .i64)) cT x0.F.aj,.rd false (aE (aC .i64)) cB x0.G.aH.aD,.rd false (aE (aC .i64)) cF x0.G.aH.To,.rd false (aE (aC .i64)) bV x0.G.aH.aJ,.rd false (aE (aE (aC .i64))) bP x0.G.aH.aB,.rd false (aE (aC .i64)) cC x0.G.aI.aD,.rd false (aE (aC .i64)) cG x0.G.aI.To,.rd false (aE (aC .i64)) bW x0.G.aI.aJ,.rd false (aE (aE (aC .i64))) bQ x0.G.aI.aB,.rd false (aE (aC .i64)) cN x0.G.aA,.rd false (aE (aC .i64)) cU x0.G.aj,.om 24 (aE (aC .i64)) dQ x0.Found,.rd false (aE (aC .i64)) dI x1] (fun y (v:Value)=>[]) (fun y v=>[.row cH [.int .i64 y.F.aH.aA,bZ,cD,bT,bL,.int .i64 y.F.aI.aA,cA,cE,bU,bN,cM,cT,.int .i64 y.G.aH.aA,cB,cF,bV,bP,.int .i64 y.G.aI.aA,cC,cG,bW,bQ,cN,cU,.bool y.yE,.int .i64 y.vA,v] 180,.om 24 (aE (aC .i64)) v y.Found]):=by
 induction n with
 | zero=>intros; rw [qm]; exact ⟨uz,fun _ _ _ _ _ _ _ y hy=>nomatch (show none=some y from hy)⟩
 | succ n ih=>exact Ww ih
theorem acx {x0:bX} {cH:Nat} {bZ:Value} {cD:Value} {bT:Value} {bL:Value} {cA:Value} {cE:Value} {bU:Value} {bN:Value} {cM:Value} {cT:Value} {cB:Value} {cF:Value} {bV:Value} {bP:Value} {cC:Value} {cG:Value} {bW:Value} {bQ:Value} {cN:Value} {cU:Value} {dQ:Value} {x1:(List Int)} {dI:Value}:Ct Tryz.prog 157 false (eY 64 x0 x1) [.pointer (some (⟨cH,0,none⟩)),dI] [.row cH [.int .i64 (x0.F.aH.aA),bZ,cD,bT,bL,.int .i64 (x0.F.aI.aA),cA,cE,bU,bN,cM,cT,.int .i64 (x0.G.aH.aA),cB,cF,bV,bP,.int .i64 (x0.G.aI.aA),cC,cG,bW,bQ,cN,cU,.bool (x0.yE),.int .i64 (x0.vA),dQ] 180,.rd false (aE (aC .i64)) bZ x0.F.aH.aD,.rd false (aE (aC .i64)) cD x0.F.aH.To,.rd false (aE (aC .i64)) bT x0.F.aH.aJ,.rd false (aE (aE (aC .i64))) bL x0.F.aH.aB,.rd false (aE (aC .i64)) cA x0.F.aI.aD,.rd false (aE (aC .i64)) cE x0.F.aI.To,.rd false (aE (aC .i64)) bU x0.F.aI.aJ,.rd false (aE (aE (aC .i64))) bN x0.F.aI.aB,.rd false (aE (aC .i64)) cM x0.F.aA,.rd false (aE (aC .i64)) cT x0.F.aj,.rd false (aE (aC .i64)) cB x0.G.aH.aD,.rd false (aE (aC .i64)) cF x0.G.aH.To,.rd false (aE (aC .i64)) bV x0.G.aH.aJ,.rd false (aE (aE (aC .i64))) bP x0.G.aH.aB,.rd false (aE (aC .i64)) cC x0.G.aI.aD,.rd false (aE (aC .i64)) cG x0.G.aI.To,.rd false (aE (aC .i64)) bW x0.G.aI.aJ,.rd false (aE (aE (aC .i64))) bQ x0.G.aI.aB,.rd false (aE (aC .i64)) cN x0.G.aA,.rd false (aE (aC .i64)) cU x0.G.aj,.om 24 (aE (aC .i64)) dQ x0.Found,.rd false (aE (aC .i64)) dI x1] (fun y (v:Value)=>[]) (fun y v=>[.row cH [.int .i64 y.F.aH.aA,bZ,cD,bT,bL,.int .i64 y.F.aI.aA,cA,cE,bU,bN,cM,cT,.int .i64 y.G.aH.aA,cB,cF,bV,bP,.int .i64 y.G.aI.aA,cC,cG,bW,bQ,cN,cU,.bool y.yE,.int .i64 y.vA,v] 180,.om 24 (aE (aC .i64)) v y.Found]):=by
 exact Wx 64
theorem c70 {x0:aN} {aV:Value} {bA:Value} {aS:Value} {aP:Value} {aW:Value} {bB:Value} {aT:Value} {aQ:Value} {bE:Value} {bF:Value} {x1:(List bD)} {dI:Value} {x2:bD} {gD:Value}:Ct Tryz.prog 70 true (iY x0 x1 x2) [.agg #[.int .i64 (x0.aH.aA),aV,bA,aS,aP,.int .i64 (x0.aI.aA),aW,bB,aT,aQ,bE,bF],dI,.agg #[.int .i64 (x2.ef),gD]] [.rd false (aE (aC .i64)) aV x0.aH.aD,.rd false (aE (aC .i64)) bA x0.aH.To,.rd false (aE (aC .i64)) aS x0.aH.aJ,.rd false (aE (aE (aC .i64))) aP x0.aH.aB,.rd false (aE (aC .i64)) aW x0.aI.aD,.rd false (aE (aC .i64)) bB x0.aI.To,.rd false (aE (aC .i64)) aT x0.aI.aJ,.rd false (aE (aE (aC .i64))) aQ x0.aI.aB,.rd false (aE (aC .i64)) bE x0.aA,.rd false (aE (aC .i64)) bF x0.aj,.rd false (aE (n7 sW)) dI x1,.rd false (aE (aC .i64)) gD x2.cf] (fun y (_:Unit)=>[.bool y]) (fun y _=>[]):=by
 refine ct (S:=Unit) (db fun _ _=>rfl) Tryz.func70 rfl rfl ?_
 repeat' first
  | ((first | show Dk.ER _ _ _ | show Dk.bd _ _ | show Dk.EF _ _ _ | show Dk.EO _ _ _ | show Dk.EP _ _ | show Dk.ba _ _ _ _ | show Dk.aw _ _ _ _ | show Dk.Kp _ _ _ _ | show Dk.bp _ _ | show Dk.bg _ _ _ _); repeat' first | exact rfl | (refine @id.{0} _ ?_; constructor))
  | intro _
  | exact rfl
  | (refine @id.{0} _ ?_; constructor)
  | apply Dk.loop 0 (V:=Unit) (fun (s:Int) v=>[]) (fun s v=>[(7,.int .i64 (s))]) () [(1,_),(3,_),(5,_)]
  | apply Dk.any (id:=4) 6 [] [] [[],[],[],[1,2],[3,1,2],[]] (by kernel_rfl)
  | apply ab9
  | exact ()
end Go.Proofs.YtgjbmjjihmfppaaGreat
