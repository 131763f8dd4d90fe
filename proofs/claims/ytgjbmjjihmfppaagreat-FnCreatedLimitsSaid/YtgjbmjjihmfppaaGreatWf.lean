/- Walks by the calculus D. No condition beside those that each theorem names. -/
import Derived.Test.YtgjbmjjihmfppaaGreatDp
import Derived.Test.YtgjbmjjihmfppaaGreatDi
import Derived.Test.YtgjbmjjihmfppaaGreatMo
import Derived.Test.YtgjbmjjihmfppaaGreatDs
import Derived.Test.YtgjbmjjihmfppaaGreatWa
import Derived.Test.YtgjbmjjihmfppaaGreatWb
import Derived.Test.YtgjbmjjihmfppaaGreatWc
import Derived.Test.YtgjbmjjihmfppaaGreatWd
namespace Go.Proofs.YtgjbmjjihmfppaaGreat
open Go Go.Li Go.Dk
set_option linter.unusedVariables false
set_option maxHeartbeats 16000000
set_option maxRecDepth 100000
theorem c54 {x0:aG} {dG:Addr} {aU bB aN aL:Value} {x1:aG} {rD:Addr} {bU cG bD bA:Value}:Ct Tryz.prog 54 true (iI x0 x1) [.pointer (some (dG)),.pointer (some (rD))] [.ay rD [.int .i64 (x1.aA),bU,cG,bD,bA],.ay dG [.int .i64 (x0.aA),aU,bB,aN,aL],rI aU x0.aE,rI bB x0.To,rI aN x0.aH,rJ aL x0.aB,rI bU x1.aE,rI cG x1.To,rI bD x1.aH,rJ bA x1.aB] (fun y (_:Unit)=>[.bool y]) (fun y _=>[]):=by
 refine ct (S:=Unit) (ca fun _ _=>rfl) Tryz.func54 rfl rfl ?_
 repeat' first
  | (apply Dk.fe; repeat' first | exact rfl | (refine @id.{0} _ ?_; constructor))
  | intro _
  | exact rfl
  | (refine @id.{0} _ ?_; constructor)
  | apply Dk.loop 0 (V:=Unit) (fun (s:Int) v=>[]) (fun s v=>[(69,.int .i64 (s))]) () [(0,_),(1,_),(68,_)]
  | apply Dk.quiet (id:=1) (by kernel_rfl)
  | apply Dk.quiet (id:=6) (by kernel_rfl)
  | apply c97
  | exact ()
theorem afD {x0:aG} {dG:Addr} {aU bB aN aL:Value}:Ct Tryz.prog 115 true (gZ x0) [.pointer (some (dG))] [.ay dG [.int .i64 (x0.aA),aU,bB,aN,aL],rI aU x0.aE,rI bB x0.To,rI aN x0.aH,rJ aL x0.aB] (fun y (v:Value×Value×Value×Value)=>[.agg #[.int .i64 y.aA,v.1,v.2.1,v.2.2.1,v.2.2.2]]) (fun y v=>[.own (aJ 2 (aM .i64)) v.1 y.aE,.own (aJ 2 (aM .i64)) v.2.1 y.To,.own (aJ 2 (aM .i64)) v.2.2.1 y.aH,.own (aJ 24 (aJ 2 (aM .i64))) v.2.2.2 y.aB]):=by
 refine ct (S:=Unit) (ca fun _ _=>rfl) Tryz.func115 rfl rfl ?_
 repeat' first
  | (apply Dk.fe; repeat' first | exact rfl | (refine @id.{0} _ ?_; constructor))
  | intro _
  | exact rfl
  | (refine @id.{0} _ ?_; constructor)
  | apply Dk.any (id:=1) 24 [] [] [[],[0],[1,0],[2,1,0],[],[4],[5,4],[6,5,4],[7,6,5,4],[],[9],[10,9],[11,10,9],[12,11,10,9,8,7,6,5,4],[],[14],[15,14],[16,15,14],[17,16,15,14,13,12,11,10,9,8,7,6,5,4],[],[19],[20,19],[21,20,19],[22,21,20,19,18,17,16,15,14,13,12,11,10,9,8,7,6,5,4]] (by kernel_rfl)
  | apply JU
  | apply afl
  | exact ()
theorem c74 {x0:aG} {dG:Addr} {aU bB aN aL:Value} {x1:aG} {rD:Addr} {bU cG bD bA:Value} {x2:(List Int)} {eC:Value} {x3:(List Int)} {fX:Value}:Ct Tryz.prog 74 true (mG x0 x1 x2 x3) [.pointer (some (dG)),.pointer (some (rD)),eC,fX] [.ay rD [.int .i64 (x1.aA),bU,cG,bD,bA],.ay dG [.int .i64 (x0.aA),aU,bB,aN,aL],rI aU x0.aE,rI bB x0.To,rI aN x0.aH,rJ aL x0.aB,rI bU x1.aE,rI cG x1.To,rI bD x1.aH,rJ bA x1.aB,rI eC x2,rI fX x3] (fun y (v:Value×Value×Value×Value×Value×Value×Value×Value×Value×Value)=>[.agg #[.int .i64 y.aC.aA,v.1,v.2.1,v.2.2.1,v.2.2.2.1,.int .i64 y.aD.aA,v.2.2.2.2.1,v.2.2.2.2.2.1,v.2.2.2.2.2.2.1,v.2.2.2.2.2.2.2.1,v.2.2.2.2.2.2.2.2.1,v.2.2.2.2.2.2.2.2.2]]) (fun y v=>[.own (aJ 2 (aM .i64)) v.1 y.aC.aE,.own (aJ 2 (aM .i64)) v.2.1 y.aC.To,.own (aJ 2 (aM .i64)) v.2.2.1 y.aC.aH,.own (aJ 24 (aJ 2 (aM .i64))) v.2.2.2.1 y.aC.aB,.own (aJ 2 (aM .i64)) v.2.2.2.2.1 y.aD.aE,.own (aJ 2 (aM .i64)) v.2.2.2.2.2.1 y.aD.To,.own (aJ 2 (aM .i64)) v.2.2.2.2.2.2.1 y.aD.aH,.own (aJ 24 (aJ 2 (aM .i64))) v.2.2.2.2.2.2.2.1 y.aD.aB,.own (aJ 2 (aM .i64)) v.2.2.2.2.2.2.2.2.1 y.aA,.own (aJ 2 (aM .i64)) v.2.2.2.2.2.2.2.2.2 y.ab]):=by
 refine ct (S:=Unit) (ca fun _ _=>rfl) Tryz.func74 rfl rfl ?_
 repeat' first
  | (apply Dk.fe; repeat' first | exact rfl | (refine @id.{0} _ ?_; constructor))
  | intro _
  | exact rfl
  | (refine @id.{0} _ ?_; constructor)
  | apply afD
  | apply JU
  | exact ()
theorem c86 {x0:aG} {aU bB aN aL:Value} {x1:aG} {bU cG bD bA:Value}:Ct Tryz.prog 86 true (pE x0 x1) [.agg #[.int .i64 (x0.aA),aU,bB,aN,aL],.agg #[.int .i64 (x1.aA),bU,cG,bD,bA]] [rI aU x0.aE,rI bB x0.To,rI aN x0.aH,rJ aL x0.aB,rI bU x1.aE,rI cG x1.To,rI bD x1.aH,rJ bA x1.aB] (fun y (_:Unit)=>[.bool y]) (fun y _=>[]):=by
 refine ct (S:=Unit) (ca fun _ _=>rfl) Tryz.func86 rfl rfl ?_
 repeat' first
  | (apply Dk.fe; repeat' first | exact rfl | (refine @id.{0} _ ?_; constructor))
  | intro _
  | exact rfl
  | (refine @id.{0} _ ?_; constructor)
  | apply TH
  | apply afi
  | exact ()
theorem afE {x0:cM} {dG:Addr} {bS bY bJ bE bT bZ bK bF cD cI cV dD cJ cE cW dE cK cF dN dT eL:Value} {x1:(List Int)} {dX:Value} {x2:Int}:Ct Tryz.prog 161 true (iE x0 x1 x2) [.pointer (some (dG)),dX,.int .i64 (x2)] [.ay dG [.int .i64 (x0.F.aC.aA),bS,bY,bJ,bE,.int .i64 (x0.F.aD.aA),bT,bZ,bK,bF,cD,cI,.int .i64 (x0.G.aC.aA),cV,dD,cJ,cE,.int .i64 (x0.G.aD.aA),cW,dE,cK,cF,dN,dT,.bool (x0.Ap),.int .i64 (x0.xF),eL],rI bS x0.F.aC.aE,rI bY x0.F.aC.To,rI bJ x0.F.aC.aH,rJ bE x0.F.aC.aB,rI bT x0.F.aD.aE,rI bZ x0.F.aD.To,rI bK x0.F.aD.aH,rJ bF x0.F.aD.aB,rI cD x0.F.aA,rI cI x0.F.ab,rI cV x0.G.aC.aE,rI dD x0.G.aC.To,rI cJ x0.G.aC.aH,rJ cE x0.G.aC.aB,rI cW x0.G.aD.aE,rI dE x0.G.aD.To,rI cK x0.G.aD.aH,rJ cF x0.G.aD.aB,rI dN x0.G.aA,rI dT x0.G.ab,rJ eL x0.Found,rI dX x1] (fun y (v:Value)=>[v]) (fun y v=>[.own (aJ 2 (aM .i64)) v y]):=by
 refine ct (S:=Unit) (ca fun _ _=>rfl) Tryz.func161 rfl rfl ?_
 repeat' first
  | (apply Dk.fe; repeat' first | exact rfl | (refine @id.{0} _ ?_; constructor))
  | intro _
  | exact rfl
  | (refine @id.{0} _ ?_; constructor)
  | apply Dk.loop 0 (V:=Value) (fun (s:(List Int)×Int) v=>[.own (aJ 2 (aM .i64)) v s.1]) (fun s v=>[(10,v),(11,.int .i64 (s.2))]) _ [(0,_),(1,_),(2,_),(7,_),(8,_),(9,_)]
  | apply Dk.loop 2 (V:=Unit) (fun (s:Bool×Int) v=>[]) (fun s v=>[(13,.bool (s.1)),(14,.int .i64 (s.2))]) () [(0,_),(1,_),(2,_),(7,_),(8,_),(9,_),(10,_),(11,_),(12,_)]
  | apply Dk.quiet (id:=7) (by kernel_rfl)
  | apply Dk.quiet (id:=14) (by kernel_rfl)
  | apply Dk.quiet (id:=15) (by kernel_rfl)
  | apply Dk.any (id:=1) 13 [] [[],[],[],[],[],[],[],[],[],[],[],[],[10]] [[],[0],[1,0],[2,1,0],[3,2,1,0],[],[5],[6,5],[7,6,5],[8,7,6,5],[],[],[10,4,3,2,1,0,0,1,0,2,1,0,3,2,1,0,4,3,2,1,0,10,11]] (by kernel_rfl)
  | apply Dk.any (id:=2) 17 [] [] [[],[],[1],[2,1],[3,2,1],[4,3,2,1],[],[5,4,3,2,1,6],[7,5,4,3,2,1,6],[],[9],[10,9],[11,10,9],[12,11,10,9],[],[13,12,11,10,9,14],[15,13,12,11,10,9,14]] (by kernel_rfl)
  | apply Na
  | apply afz
  | apply z8
  | apply afo
  | exact ()
theorem YZ {rc:cM→(List Int)→Option (cM)} (ih:∀ {x0:cM} {dC:Nat} {bS bY bJ bE bT bZ bK bF cD cI cV dD cJ cE cW dE cK cF dN dT eL:Value} {x1:(List Int)} {dX:Value},Ct Tryz.prog 157 false (rc x0 x1) [.pointer (some (⟨dC,0,none⟩)),dX] [.row dC [.int .i64 (x0.F.aC.aA),bS,bY,bJ,bE,.int .i64 (x0.F.aD.aA),bT,bZ,bK,bF,cD,cI,.int .i64 (x0.G.aC.aA),cV,dD,cJ,cE,.int .i64 (x0.G.aD.aA),cW,dE,cK,cF,dN,dT,.bool (x0.Ap),.int .i64 (x0.xF),eL] 180,rI bS x0.F.aC.aE,rI bY x0.F.aC.To,rI bJ x0.F.aC.aH,rJ bE x0.F.aC.aB,rI bT x0.F.aD.aE,rI bZ x0.F.aD.To,rI bK x0.F.aD.aH,rJ bF x0.F.aD.aB,rI cD x0.F.aA,rI cI x0.F.ab,rI cV x0.G.aC.aE,rI dD x0.G.aC.To,rI cJ x0.G.aC.aH,rJ cE x0.G.aC.aB,rI cW x0.G.aD.aE,rI dE x0.G.aD.To,rI cK x0.G.aD.aH,rJ cF x0.G.aD.aB,rI dN x0.G.aA,rI dT x0.G.ab,.om 24 (bL (aM .i64)) eL x0.Found,rI dX x1] (fun y (v:Value)=>[]) (fun y v=>[.row dC [.int .i64 y.F.aC.aA,bS,bY,bJ,bE,.int .i64 y.F.aD.aA,bT,bZ,bK,bF,cD,cI,.int .i64 y.G.aC.aA,cV,dD,cJ,cE,.int .i64 y.G.aD.aA,cW,dE,cK,cF,dN,dT,.bool y.Ap,.int .i64 y.xF,v] 180,.om 24 (bL (aM .i64)) v y.Found])) {x0:cM} {dC:Nat} {bS bY bJ bE bT bZ bK bF cD cI cV dD cJ cE cW dE cK cF dN dT eL:Value} {x1:(List Int)} {dX:Value}:Ct Tryz.prog 157 false (pK rc x0 x1) [.pointer (some (⟨dC,0,none⟩)),dX] [.row dC [.int .i64 (x0.F.aC.aA),bS,bY,bJ,bE,.int .i64 (x0.F.aD.aA),bT,bZ,bK,bF,cD,cI,.int .i64 (x0.G.aC.aA),cV,dD,cJ,cE,.int .i64 (x0.G.aD.aA),cW,dE,cK,cF,dN,dT,.bool (x0.Ap),.int .i64 (x0.xF),eL] 180,rI bS x0.F.aC.aE,rI bY x0.F.aC.To,rI bJ x0.F.aC.aH,rJ bE x0.F.aC.aB,rI bT x0.F.aD.aE,rI bZ x0.F.aD.To,rI bK x0.F.aD.aH,rJ bF x0.F.aD.aB,rI cD x0.F.aA,rI cI x0.F.ab,rI cV x0.G.aC.aE,rI dD x0.G.aC.To,rI cJ x0.G.aC.aH,rJ cE x0.G.aC.aB,rI cW x0.G.aD.aE,rI dE x0.G.aD.To,rI cK x0.G.aD.aH,rJ cF x0.G.aD.aB,rI dN x0.G.aA,rI dT x0.G.ab,.om 24 (bL (aM .i64)) eL x0.Found,rI dX x1] (fun y (v:Value)=>[]) (fun y v=>[.row dC [.int .i64 y.F.aC.aA,bS,bY,bJ,bE,.int .i64 y.F.aD.aA,bT,bZ,bK,bF,cD,cI,.int .i64 y.G.aC.aA,cV,dD,cJ,cE,.int .i64 y.G.aD.aA,cW,dE,cK,cF,dN,dT,.bool y.Ap,.int .i64 y.xF,v] 180,.om 24 (bL (aM .i64)) v y.Found]):=by
 refine ctv u9 Tryz.func157 rfl rfl ?_
 repeat' first
  | (apply Dk.fe; repeat' first | exact rfl | (refine @id.{0} _ ?_; constructor))
  | intro _
  | exact rfl
  | apply Dk.acF (d:=38)
  | apply ih
  | (refine @id.{0} _ ?_; constructor)
  | apply Dk.loop 0 (V:=Unit) (fun (s:Int×Int) v=>[.om 24 (bL (aM .i64)) eL x0.Found]) (fun s v=>[(4,.int .i64 (s.1)),(5,.int .i64 (s.2))]) () [(0,_),(1,_)]
  | apply Dk.loop 2 (V:=Value) (fun (s:Int×Int×Int×Int×Int×Bool×Int×(List (List Int))) v=>[.row dC [.int .i64 (s.2.1),bS,bY,bJ,bE,.int .i64 (s.2.2.1),bT,bZ,bK,bF,cD,cI,.int .i64 (s.2.2.2.1),cV,dD,cJ,cE,.int .i64 (s.2.2.2.2.1),cW,dE,cK,cF,dN,dT,.bool (s.2.2.2.2.2.1),.int .i64 (s.2.2.2.2.2.2.1),v] 180,.om 24 (bL (aM .i64)) v s.2.2.2.2.2.2.2]) (fun s v=>[(7,.int .i64 (s.1))]) _ [(0,_),(1,_),(4,_),(6,_)]
  | apply Dk.quiet (id:=11) (by kernel_rfl)
  | apply Dk.any (id:=8) 8 [0] [] [[],[],[1],[2,1],[3,2,1],[],[5],[6,5]] (by kernel_rfl)
  | apply afE
  | apply z8
  | exact ()
theorem Y0 (n:Nat):∀ {x0:cM} {dC:Nat} {bS bY bJ bE bT bZ bK bF cD cI cV dD cJ cE cW dE cK cF dN dT eL:Value} {x1:(List Int)} {dX:Value},Ct Tryz.prog 157 false (fV n x0 x1) [.pointer (some (⟨dC,0,none⟩)),dX] [.row dC [.int .i64 (x0.F.aC.aA),bS,bY,bJ,bE,.int .i64 (x0.F.aD.aA),bT,bZ,bK,bF,cD,cI,.int .i64 (x0.G.aC.aA),cV,dD,cJ,cE,.int .i64 (x0.G.aD.aA),cW,dE,cK,cF,dN,dT,.bool (x0.Ap),.int .i64 (x0.xF),eL] 180,rI bS x0.F.aC.aE,rI bY x0.F.aC.To,rI bJ x0.F.aC.aH,rJ bE x0.F.aC.aB,rI bT x0.F.aD.aE,rI bZ x0.F.aD.To,rI bK x0.F.aD.aH,rJ bF x0.F.aD.aB,rI cD x0.F.aA,rI cI x0.F.ab,rI cV x0.G.aC.aE,rI dD x0.G.aC.To,rI cJ x0.G.aC.aH,rJ cE x0.G.aC.aB,rI cW x0.G.aD.aE,rI dE x0.G.aD.To,rI cK x0.G.aD.aH,rJ cF x0.G.aD.aB,rI dN x0.G.aA,rI dT x0.G.ab,.om 24 (bL (aM .i64)) eL x0.Found,rI dX x1] (fun y (v:Value)=>[]) (fun y v=>[.row dC [.int .i64 y.F.aC.aA,bS,bY,bJ,bE,.int .i64 y.F.aD.aA,bT,bZ,bK,bF,cD,cI,.int .i64 y.G.aC.aA,cV,dD,cJ,cE,.int .i64 y.G.aD.aA,cW,dE,cK,cF,dN,dT,.bool y.Ap,.int .i64 y.xF,v] 180,.om 24 (bL (aM .i64)) v y.Found]):=by
 induction n with
 | zero=>intros; rw [r7]; exact ⟨u9,fun _ _ _ _ _ _ _ y hy=>nomatch (show none=some y from hy)⟩
 | succ n ih=>exact YZ ih
theorem afF {x0:cM} {dC:Nat} {bS bY bJ bE bT bZ bK bF cD cI cV dD cJ cE cW dE cK cF dN dT eL:Value} {x1:(List Int)} {dX:Value}:Ct Tryz.prog 157 false (fV 64 x0 x1) [.pointer (some (⟨dC,0,none⟩)),dX] [.row dC [.int .i64 (x0.F.aC.aA),bS,bY,bJ,bE,.int .i64 (x0.F.aD.aA),bT,bZ,bK,bF,cD,cI,.int .i64 (x0.G.aC.aA),cV,dD,cJ,cE,.int .i64 (x0.G.aD.aA),cW,dE,cK,cF,dN,dT,.bool (x0.Ap),.int .i64 (x0.xF),eL] 180,rI bS x0.F.aC.aE,rI bY x0.F.aC.To,rI bJ x0.F.aC.aH,rJ bE x0.F.aC.aB,rI bT x0.F.aD.aE,rI bZ x0.F.aD.To,rI bK x0.F.aD.aH,rJ bF x0.F.aD.aB,rI cD x0.F.aA,rI cI x0.F.ab,rI cV x0.G.aC.aE,rI dD x0.G.aC.To,rI cJ x0.G.aC.aH,rJ cE x0.G.aC.aB,rI cW x0.G.aD.aE,rI dE x0.G.aD.To,rI cK x0.G.aD.aH,rJ cF x0.G.aD.aB,rI dN x0.G.aA,rI dT x0.G.ab,.om 24 (bL (aM .i64)) eL x0.Found,rI dX x1] (fun y (v:Value)=>[]) (fun y v=>[.row dC [.int .i64 y.F.aC.aA,bS,bY,bJ,bE,.int .i64 y.F.aD.aA,bT,bZ,bK,bF,cD,cI,.int .i64 y.G.aC.aA,cV,dD,cJ,cE,.int .i64 y.G.aD.aA,cW,dE,cK,cF,dN,dT,.bool y.Ap,.int .i64 y.xF,v] 180,.om 24 (bL (aM .i64)) v y.Found]):=by
 exact Y0 64
end Go.Proofs.YtgjbmjjihmfppaaGreat
