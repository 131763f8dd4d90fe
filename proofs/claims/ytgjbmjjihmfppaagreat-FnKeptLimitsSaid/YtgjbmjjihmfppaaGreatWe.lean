/- Walks by the calculus D. No condition beside those that each theorem names. -/
import Derived.Test.YtgjbmjjihmfppaaGreatDi
import Derived.Test.YtgjbmjjihmfppaaGreatMo
import Derived.Test.YtgjbmjjihmfppaaGreatDp
import Derived.Test.YtgjbmjjihmfppaaGreatDs
import Derived.Test.YtgjbmjjihmfppaaGreatWa
import Derived.Test.YtgjbmjjihmfppaaGreatWb
import Derived.Test.YtgjbmjjihmfppaaGreatWc
import Derived.Test.YtgjbmjjihmfppaaGreatWd
namespace Go.Proofs.YtgjbmjjihmfppaaGreat
open Go Go.Li Go.Dk
set_option linter.unusedVariables false
set_option maxHeartbeats 16000000
set_option maxRecDepth 100000
theorem adu {x0:aI} {dE:Addr} {aT:Value} {bB:Value} {aO:Value} {aN:Value}:Ct Tryz.prog 139 true (gX x0) [.pointer (some (dE))] [.au dE [.int .i64 (x0.aA),aT,bB,aO,aN],.rd false (aB (aC .i64)) aT x0.aF,.rd false (aB (aC .i64)) bB x0.To,.rd false (aB (aC .i64)) aO x0.aJ,.rd false (aB (aB (aC .i64))) aN x0.aD] (fun y (_:Unit)=>[.bool y]) (fun y _=>[]):=by
 refine ct (S:=Unit) (ca fun _ _=>rfl) Tryz.func139 rfl rfl ?_
 repeat' first
  | ((first | show Dk.ER _ _ _ | show Dk.ba _ _ | show Dk.EF _ _ _ | show Dk.EO _ _ _ | show Dk.EP _ _ | show Dk.aX _ _ _ _ | show Dk.aq _ _ _ _ | show Dk.Kp _ _ _ _ | show Dk.bn _ _ | show Dk.bb _ _ _ _); repeat' first | exact rfl | (refine @id.{0} _ ?_; constructor))
  | intro _
  | exact rfl
  | (refine @id.{0} _ ?_; constructor)
  | apply Dk.loop 0 (V:=Unit) (fun (s:Int) v=>[]) (fun s v=>[(88,.int .i64 (s))]) () [(0,_),(3,_),(86,_),(87,_)]
  | apply Dk.loop 2 (V:=Unit) (fun (s:Int) v=>[]) (fun s v=>[(106,.int .i64 (s))]) () [(0,_),(3,_),(104,_),(105,_)]
  | apply Dk.loop 4 (V:=Unit) (fun (s:Int) v=>[]) (fun s v=>[(117,.int .i64 (s))]) () [(0,_),(3,_),(6,_),(104,_),(105,_),(106,_),(115,_),(116,_)]
  | apply Dk.quiet (id:=2) (by kernel_rfl)
  | apply Dk.quiet (id:=4) (by kernel_rfl)
  | apply Dk.quiet (id:=20) (by kernel_rfl)
  | apply Dk.quiet (id:=23) (by kernel_rfl)
  | apply N1
  | apply WZ
  | apply W0
  | apply Zx
  | exact ()
theorem adv {x0:aI} {dE:Addr} {aT:Value} {bB:Value} {aO:Value} {aN:Value}:Ct Tryz.prog 105 true (fS x0) [.pointer (some (dE))] [.au dE [.int .i64 (x0.aA),aT,bB,aO,aN],.rd false (aB (aC .i64)) aT x0.aF,.rd false (aB (aC .i64)) bB x0.To,.rd false (aB (aC .i64)) aO x0.aJ,.rd false (aB (aB (aC .i64))) aN x0.aD] (fun y (_:Unit)=>[.bool y]) (fun y _=>[]):=by
 refine ct (S:=Unit) (ca fun _ _=>rfl) Tryz.func105 rfl rfl ?_
 repeat' first
  | ((first | show Dk.ER _ _ _ | show Dk.ba _ _ | show Dk.EF _ _ _ | show Dk.EO _ _ _ | show Dk.EP _ _ | show Dk.aX _ _ _ _ | show Dk.aq _ _ _ _ | show Dk.Kp _ _ _ _ | show Dk.bn _ _ | show Dk.bb _ _ _ _); repeat' first | exact rfl | (refine @id.{0} _ ?_; constructor))
  | intro _
  | exact rfl
  | (refine @id.{0} _ ?_; constructor)
  | apply adu
  | apply ac9
  | exact ()
theorem W2 {x0:aI} {dE:Addr} {aT:Value} {bB:Value} {aO:Value} {aN:Value} {x1:aI} {rA:Addr} {bS:Value} {cG:Value} {bD:Value} {aZ:Value}:Ct Tryz.prog 54 true (gA x0 x1) [.pointer (some (dE)),.pointer (some (rA))] [.au rA [.int .i64 (x1.aA),bS,cG,bD,aZ],.au dE [.int .i64 (x0.aA),aT,bB,aO,aN],.rd false (aB (aC .i64)) aT x0.aF,.rd false (aB (aC .i64)) bB x0.To,.rd false (aB (aC .i64)) aO x0.aJ,.rd false (aB (aB (aC .i64))) aN x0.aD,.rd false (aB (aC .i64)) bS x1.aF,.rd false (aB (aC .i64)) cG x1.To,.rd false (aB (aC .i64)) bD x1.aJ,.rd false (aB (aB (aC .i64))) aZ x1.aD] (fun y (_:Unit)=>[.bool y]) (fun y _=>[]):=by
 refine ct (S:=Unit) (ca fun _ _=>rfl) Tryz.func54 rfl rfl ?_
 repeat' first
  | ((first | show Dk.ER _ _ _ | show Dk.ba _ _ | show Dk.EF _ _ _ | show Dk.EO _ _ _ | show Dk.EP _ _ | show Dk.aX _ _ _ _ | show Dk.aq _ _ _ _ | show Dk.Kp _ _ _ _ | show Dk.bn _ _ | show Dk.bb _ _ _ _); repeat' first | exact rfl | (refine @id.{0} _ ?_; constructor))
  | intro _
  | exact rfl
  | (refine @id.{0} _ ?_; constructor)
  | apply Dk.loop 0 (V:=Unit) (fun (s:Int) v=>[]) (fun s v=>[(69,.int .i64 (s))]) () [(0,_),(1,_),(68,_)]
  | apply Dk.quiet (id:=1) (by kernel_rfl)
  | apply Dk.quiet (id:=6) (by kernel_rfl)
  | apply c97
  | exact ()
theorem adw {x0:cK} {dE:Addr} {bX:Value} {cE:Value} {bQ:Value} {bK:Value} {bY:Value} {cF:Value} {bR:Value} {bL:Value} {cL:Value} {cN:Value} {cP:Value} {cW:Value} {cH:Value} {cC:Value} {cQ:Value} {cX:Value} {cI:Value} {cD:Value} {dC:Value} {dJ:Value} {eI:Value} {x1:(List Int)} {dP:Value} {x2:Int}:Ct Tryz.prog 161 true (gZ x0 x1 x2) [.pointer (some (dE)),dP,.int .i64 (x2)] [.au dE [.int .i64 (x0.F.aE.aA),bX,cE,bQ,bK,.int .i64 (x0.F.aH.aA),bY,cF,bR,bL,cL,cN,.int .i64 (x0.G.aE.aA),cP,cW,cH,cC,.int .i64 (x0.G.aH.aA),cQ,cX,cI,cD,dC,dJ,.bool (x0.zi),.int .i64 (x0.wu),eI],.rd false (aB (aC .i64)) bX x0.F.aE.aF,.rd false (aB (aC .i64)) cE x0.F.aE.To,.rd false (aB (aC .i64)) bQ x0.F.aE.aJ,.rd false (aB (aB (aC .i64))) bK x0.F.aE.aD,.rd false (aB (aC .i64)) bY x0.F.aH.aF,.rd false (aB (aC .i64)) cF x0.F.aH.To,.rd false (aB (aC .i64)) bR x0.F.aH.aJ,.rd false (aB (aB (aC .i64))) bL x0.F.aH.aD,.rd false (aB (aC .i64)) cL x0.F.aA,.rd false (aB (aC .i64)) cN x0.F.ab,.rd false (aB (aC .i64)) cP x0.G.aE.aF,.rd false (aB (aC .i64)) cW x0.G.aE.To,.rd false (aB (aC .i64)) cH x0.G.aE.aJ,.rd false (aB (aB (aC .i64))) cC x0.G.aE.aD,.rd false (aB (aC .i64)) cQ x0.G.aH.aF,.rd false (aB (aC .i64)) cX x0.G.aH.To,.rd false (aB (aC .i64)) cI x0.G.aH.aJ,.rd false (aB (aB (aC .i64))) cD x0.G.aH.aD,.rd false (aB (aC .i64)) dC x0.G.aA,.rd false (aB (aC .i64)) dJ x0.G.ab,.rd false (aB (aB (aC .i64))) eI x0.Found,.rd false (aB (aC .i64)) dP x1] (fun y (v:Value)=>[v]) (fun y v=>[.own (aL 2 (aC .i64)) v y]):=by
 refine ct (S:=Unit) (ca fun _ _=>rfl) Tryz.func161 rfl rfl ?_
 repeat' first
  | ((first | show Dk.ER _ _ _ | show Dk.ba _ _ | show Dk.EF _ _ _ | show Dk.EO _ _ _ | show Dk.EP _ _ | show Dk.aX _ _ _ _ | show Dk.aq _ _ _ _ | show Dk.Kp _ _ _ _ | show Dk.bn _ _ | show Dk.bb _ _ _ _); repeat' first | exact rfl | (refine @id.{0} _ ?_; constructor))
  | intro _
  | exact rfl
  | (refine @id.{0} _ ?_; constructor)
  | apply Dk.loop 0 (V:=Value) (fun (s:(List Int)×Int) v=>[.own (aL 2 (aC .i64)) v s.1]) (fun s v=>[(10,v),(11,.int .i64 (s.2))]) _ [(0,_),(1,_),(2,_),(7,_),(8,_),(9,_)]
  | apply Dk.loop 2 (V:=Unit) (fun (s:Bool×Int) v=>[]) (fun s v=>[(13,.bool (s.1)),(14,.int .i64 (s.2))]) () [(0,_),(1,_),(2,_),(7,_),(8,_),(9,_),(10,_),(11,_),(12,_)]
  | apply Dk.quiet (id:=7) (by kernel_rfl)
  | apply Dk.quiet (id:=14) (by kernel_rfl)
  | apply Dk.quiet (id:=15) (by kernel_rfl)
  | apply Dk.any (id:=1) 13 [] [[],[],[],[],[],[],[],[],[],[],[],[],[10]] [[],[0],[1,0],[2,1,0],[3,2,1,0],[],[5],[6,5],[7,6,5],[8,7,6,5],[],[],[10,4,3,2,1,0,0,1,0,2,1,0,3,2,1,0,4,3,2,1,0,10,11]] (by kernel_rfl)
  | apply Dk.any (id:=2) 17 [] [] [[],[],[1],[2,1],[3,2,1],[4,3,2,1],[],[5,4,3,2,1,6],[7,5,4,3,2,1,6],[],[9],[10,9],[11,10,9],[12,11,10,9],[],[13,12,11,10,9,14],[15,13,12,11,10,9,14]] (by kernel_rfl)
  | apply LF
  | apply adr
  | apply yU
  | apply ads
  | exact ()
theorem W3 {rc:cK→(List Int)→Option (cK)} (ih:∀ {x0:cK} {cV:Nat} {bX:Value} {cE:Value} {bQ:Value} {bK:Value} {bY:Value} {cF:Value} {bR:Value} {bL:Value} {cL:Value} {cN:Value} {cP:Value} {cW:Value} {cH:Value} {cC:Value} {cQ:Value} {cX:Value} {cI:Value} {cD:Value} {dC:Value} {dJ:Value} {eI:Value} {x1:(List Int)} {dP:Value},Ct Tryz.prog 157 false (rc x0 x1) [.pointer (some (⟨cV,0,none⟩)),dP] [.row cV [.int .i64 (x0.F.aE.aA),bX,cE,bQ,bK,.int .i64 (x0.F.aH.aA),bY,cF,bR,bL,cL,cN,.int .i64 (x0.G.aE.aA),cP,cW,cH,cC,.int .i64 (x0.G.aH.aA),cQ,cX,cI,cD,dC,dJ,.bool (x0.zi),.int .i64 (x0.wu),eI] 180,.rd false (aB (aC .i64)) bX x0.F.aE.aF,.rd false (aB (aC .i64)) cE x0.F.aE.To,.rd false (aB (aC .i64)) bQ x0.F.aE.aJ,.rd false (aB (aB (aC .i64))) bK x0.F.aE.aD,.rd false (aB (aC .i64)) bY x0.F.aH.aF,.rd false (aB (aC .i64)) cF x0.F.aH.To,.rd false (aB (aC .i64)) bR x0.F.aH.aJ,.rd false (aB (aB (aC .i64))) bL x0.F.aH.aD,.rd false (aB (aC .i64)) cL x0.F.aA,.rd false (aB (aC .i64)) cN x0.F.ab,.rd false (aB (aC .i64)) cP x0.G.aE.aF,.rd false (aB (aC .i64)) cW x0.G.aE.To,.rd false (aB (aC .i64)) cH x0.G.aE.aJ,.rd false (aB (aB (aC .i64))) cC x0.G.aE.aD,.rd false (aB (aC .i64)) cQ x0.G.aH.aF,.rd false (aB (aC .i64)) cX x0.G.aH.To,.rd false (aB (aC .i64)) cI x0.G.aH.aJ,.rd false (aB (aB (aC .i64))) cD x0.G.aH.aD,.rd false (aB (aC .i64)) dC x0.G.aA,.rd false (aB (aC .i64)) dJ x0.G.ab,.om 24 (aB (aC .i64)) eI x0.Found,.rd false (aB (aC .i64)) dP x1] (fun y (v:Value)=>[]) (fun y v=>[.row cV [.int .i64 y.F.aE.aA,bX,cE,bQ,bK,.int .i64 y.F.aH.aA,bY,cF,bR,bL,cL,cN,.int .i64 y.G.aE.aA,cP,cW,cH,cC,.int .i64 y.G.aH.aA,cQ,cX,cI,cD,dC,dJ,.bool y.zi,.int .i64 y.wu,v] 180,.om 24 (aB (aC .i64)) v y.Found])) {x0:cK} {cV:Nat} {bX:Value} {cE:Value} {bQ:Value} {bK:Value} {bY:Value} {cF:Value} {bR:Value} {bL:Value} {cL:Value} {cN:Value} {cP:Value} {cW:Value} {cH:Value} {cC:Value} {cQ:Value} {cX:Value} {cI:Value} {cD:Value} {dC:Value} {dJ:Value} {eI:Value} {x1:(List Int)} {dP:Value}:Ct Tryz.prog 157 false (pH rc x0 x1) [.pointer (some (⟨cV,0,none⟩)),dP] [.row cV [.int .i64 (x0.F.aE.aA),bX,cE,bQ,bK,.int .i64 (x0.F.aH.aA),bY,cF,bR,bL,cL,cN,.int .i64 (x0.G.aE.aA),cP,cW,cH,cC,.int .i64 (x0.G.aH.aA),cQ,cX,cI,cD,dC,dJ,.bool (x0.zi),.int .i64 (x0.wu),eI] 180,.rd false (aB (aC .i64)) bX x0.F.aE.aF,.rd false (aB (aC .i64)) cE x0.F.aE.To,.rd false (aB (aC .i64)) bQ x0.F.aE.aJ,.rd false (aB (aB (aC .i64))) bK x0.F.aE.aD,.rd false (aB (aC .i64)) bY x0.F.aH.aF,.rd false (aB (aC .i64)) cF x0.F.aH.To,.rd false (aB (aC .i64)) bR x0.F.aH.aJ,.rd false (aB (aB (aC .i64))) bL x0.F.aH.aD,.rd false (aB (aC .i64)) cL x0.F.aA,.rd false (aB (aC .i64)) cN x0.F.ab,.rd false (aB (aC .i64)) cP x0.G.aE.aF,.rd false (aB (aC .i64)) cW x0.G.aE.To,.rd false (aB (aC .i64)) cH x0.G.aE.aJ,.rd false (aB (aB (aC .i64))) cC x0.G.aE.aD,.rd false (aB (aC .i64)) cQ x0.G.aH.aF,.rd false (aB (aC .i64)) cX x0.G.aH.To,.rd false (aB (aC .i64)) cI x0.G.aH.aJ,.rd false (aB (aB (aC .i64))) cD x0.G.aH.aD,.rd false (aB (aC .i64)) dC x0.G.aA,.rd false (aB (aC .i64)) dJ x0.G.ab,.om 24 (aB (aC .i64)) eI x0.Found,.rd false (aB (aC .i64)) dP x1] (fun y (v:Value)=>[]) (fun y v=>[.row cV [.int .i64 y.F.aE.aA,bX,cE,bQ,bK,.int .i64 y.F.aH.aA,bY,cF,bR,bL,cL,cN,.int .i64 y.G.aE.aA,cP,cW,cH,cC,.int .i64 y.G.aH.aA,cQ,cX,cI,cD,dC,dJ,.bool y.zi,.int .i64 y.wu,v] 180,.om 24 (aB (aC .i64)) v y.Found]):=by
 refine Yv tZ Tryz.func157 rfl rfl ?_
 repeat' first
  | ((first | show Dk.ER _ _ _ | show Dk.ba _ _ | show Dk.EF _ _ _ | show Dk.EO _ _ _ | show Dk.EP _ _ | show Dk.aX _ _ _ _ | show Dk.aq _ _ _ _ | show Dk.Kp _ _ _ _ | show Dk.bn _ _ | show Dk.bb _ _ _ _); repeat' first | exact rfl | (refine @id.{0} _ ?_; constructor))
  | intro _
  | exact rfl
  | apply Dk.aaG (d:=38)
  | apply ih
  | (refine @id.{0} _ ?_; constructor)
  | apply Dk.loop 0 (V:=Unit) (fun (s:Int×Int) v=>[.om 24 (aB (aC .i64)) eI x0.Found]) (fun s v=>[(4,.int .i64 (s.1)),(5,.int .i64 (s.2))]) () [(0,_),(1,_)]
  | apply Dk.loop 2 (V:=Value) (fun (s:Int×Int×Int×Int×Int×Bool×Int×(List (List Int))) v=>[.row cV [.int .i64 (s.2.1),bX,cE,bQ,bK,.int .i64 (s.2.2.1),bY,cF,bR,bL,cL,cN,.int .i64 (s.2.2.2.1),cP,cW,cH,cC,.int .i64 (s.2.2.2.2.1),cQ,cX,cI,cD,dC,dJ,.bool (s.2.2.2.2.2.1),.int .i64 (s.2.2.2.2.2.2.1),v] 180,.om 24 (aB (aC .i64)) v s.2.2.2.2.2.2.2]) (fun s v=>[(7,.int .i64 (s.1))]) _ [(0,_),(1,_),(4,_),(6,_)]
  | apply Dk.quiet (id:=11) (by kernel_rfl)
  | apply Dk.any (id:=8) 8 [0] [] [[],[],[1],[2,1],[3,2,1],[],[5],[6,5]] (by kernel_rfl)
  | apply adw
  | apply yU
  | exact ()
theorem W4 (n:Nat):∀ {x0:cK} {cV:Nat} {bX:Value} {cE:Value} {bQ:Value} {bK:Value} {bY:Value} {cF:Value} {bR:Value} {bL:Value} {cL:Value} {cN:Value} {cP:Value} {cW:Value} {cH:Value} {cC:Value} {cQ:Value} {cX:Value} {cI:Value} {cD:Value} {dC:Value} {dJ:Value} {eI:Value} {x1:(List Int)} {dP:Value},Ct Tryz.prog 157 false (fW n x0 x1) [.pointer (some (⟨cV,0,none⟩)),dP] [.row cV [.int .i64 (x0.F.aE.aA),bX,cE,bQ,bK,.int .i64 (x0.F.aH.aA),bY,cF,bR,bL,cL,cN,.int .i64 (x0.G.aE.aA),cP,cW,cH,cC,.int .i64 (x0.G.aH.aA),cQ,cX,cI,cD,dC,dJ,.bool (x0.zi),.int .i64 (x0.wu),eI] 180,.rd false (aB (aC .i64)) bX x0.F.aE.aF,.rd false (aB (aC .i64)) cE x0.F.aE.To,.rd false (aB (aC .i64)) bQ x0.F.aE.aJ,.rd false (aB (aB (aC .i64))) bK x0.F.aE.aD,.rd false (aB (aC .i64)) bY x0.F.aH.aF,.rd false (aB (aC .i64)) cF x0.F.aH.To,.rd false (aB (aC .i64)) bR x0.F.aH.aJ,.rd false (aB (aB (aC .i64))) bL x0.F.aH.aD,.rd false (aB (aC .i64)) cL x0.F.aA,.rd false (aB (aC .i64)) cN x0.F.ab,.rd false (aB (aC .i64)) cP x0.G.aE.aF,.rd false (aB (aC .i64)) cW x0.G.aE.To,.rd false (aB (aC .i64)) cH x0.G.aE.aJ,.rd false (aB (aB (aC .i64))) cC x0.G.aE.aD,.rd false (aB (aC .i64)) cQ x0.G.aH.aF,.rd false (aB (aC .i64)) cX x0.G.aH.To,.rd false (aB (aC .i64)) cI x0.G.aH.aJ,.rd false (aB (aB (aC .i64))) cD x0.G.aH.aD,.rd false (aB (aC .i64)) dC x0.G.aA,.rd false (aB (aC .i64)) dJ x0.G.ab,.om 24 (aB (aC .i64)) eI x0.Found,.rd false (aB (aC .i64)) dP x1] (fun y (v:Value)=>[]) (fun y v=>[.row cV [.int .i64 y.F.aE.aA,bX,cE,bQ,bK,.int .i64 y.F.aH.aA,bY,cF,bR,bL,cL,cN,.int .i64 y.G.aE.aA,cP,cW,cH,cC,.int .i64 y.G.aH.aA,cQ,cX,cI,cD,dC,dJ,.bool y.zi,.int .i64 y.wu,v] 180,.om 24 (aB (aC .i64)) v y.Found]):=by
 induction n with
 | zero=>intros; rw [ra]; exact ⟨tZ,fun _ _ _ _ _ _ _ y hy=>nomatch (show none=some y from hy)⟩
 | succ n ih=>exact W3 ih
theorem adx {x0:cK} {cV:Nat} {bX:Value} {cE:Value} {bQ:Value} {bK:Value} {bY:Value} {cF:Value} {bR:Value} {bL:Value} {cL:Value} {cN:Value} {cP:Value} {cW:Value} {cH:Value} {cC:Value} {cQ:Value} {cX:Value} {cI:Value} {cD:Value} {dC:Value} {dJ:Value} {eI:Value} {x1:(List Int)} {dP:Value}:Ct Tryz.prog 157 false (fW 64 x0 x1) [.pointer (some (⟨cV,0,none⟩)),dP] [.row cV [.int .i64 (x0.F.aE.aA),bX,cE,bQ,bK,.int .i64 (x0.F.aH.aA),bY,cF,bR,bL,cL,cN,.int .i64 (x0.G.aE.aA),cP,cW,cH,cC,.int .i64 (x0.G.aH.aA),cQ,cX,cI,cD,dC,dJ,.bool (x0.zi),.int .i64 (x0.wu),eI] 180,.rd false (aB (aC .i64)) bX x0.F.aE.aF,.rd false (aB (aC .i64)) cE x0.F.aE.To,.rd false (aB (aC .i64)) bQ x0.F.aE.aJ,.rd false (aB (aB (aC .i64))) bK x0.F.aE.aD,.rd false (aB (aC .i64)) bY x0.F.aH.aF,.rd false (aB (aC .i64)) cF x0.F.aH.To,.rd false (aB (aC .i64)) bR x0.F.aH.aJ,.rd false (aB (aB (aC .i64))) bL x0.F.aH.aD,.rd false (aB (aC .i64)) cL x0.F.aA,.rd false (aB (aC .i64)) cN x0.F.ab,.rd false (aB (aC .i64)) cP x0.G.aE.aF,.rd false (aB (aC .i64)) cW x0.G.aE.To,.rd false (aB (aC .i64)) cH x0.G.aE.aJ,.rd false (aB (aB (aC .i64))) cC x0.G.aE.aD,.rd false (aB (aC .i64)) cQ x0.G.aH.aF,.rd false (aB (aC .i64)) cX x0.G.aH.To,.rd false (aB (aC .i64)) cI x0.G.aH.aJ,.rd false (aB (aB (aC .i64))) cD x0.G.aH.aD,.rd false (aB (aC .i64)) dC x0.G.aA,.rd false (aB (aC .i64)) dJ x0.G.ab,.om 24 (aB (aC .i64)) eI x0.Found,.rd false (aB (aC .i64)) dP x1] (fun y (v:Value)=>[]) (fun y v=>[.row cV [.int .i64 y.F.aE.aA,bX,cE,bQ,bK,.int .i64 y.F.aH.aA,bY,cF,bR,bL,cL,cN,.int .i64 y.G.aE.aA,cP,cW,cH,cC,.int .i64 y.G.aH.aA,cQ,cX,cI,cD,dC,dJ,.bool y.zi,.int .i64 y.wu,v] 180,.om 24 (aB (aC .i64)) v y.Found]):=by
 exact W4 64
end Go.Proofs.YtgjbmjjihmfppaaGreat
