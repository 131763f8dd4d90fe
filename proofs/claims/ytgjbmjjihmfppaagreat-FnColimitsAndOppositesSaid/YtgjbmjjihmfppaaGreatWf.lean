/- Walks by the calculus D. No condition beside those that each theorem names. -/
import Derived.Test.YtgjbmjjihmfppaaGreatDp
import Derived.Test.YtgjbmjjihmfppaaGreatDi
import Derived.Test.YtgjbmjjihmfppaaGreatMo
import Derived.Test.YtgjbmjjihmfppaaGreatDs
import Derived.Test.YtgjbmjjihmfppaaGreatWa
import Derived.Test.YtgjbmjjihmfppaaGreatWb
import Derived.Test.YtgjbmjjihmfppaaGreatWc
import Derived.Test.YtgjbmjjihmfppaaGreatWd
namespace Go.Proofs.YtgjbmjjihmfppaaGreat
open Go Go.Li Go.Dk
set_option linter.unusedVariables false
set_option maxHeartbeats 16000000
set_option maxRecDepth 100000
theorem Yn {x0:aG} {aS aY aN aL:Value} {x1:aG} {bU cI bB aW:Value}:Ct Tryz.prog 81 true (iL x0 x1) [.agg #[.int .i64 (x0.aA),aS,aY,aN,aL],.agg #[.int .i64 (x1.aA),bU,cI,bB,aW]] [rI aS x0.aD,rI aY x0.To,rI aN x0.aH,rJ aL x0.aB,rI bU x1.aD,rI cI x1.To,rI bB x1.aH,rJ aW x1.aB] (fun y (_:Unit)=>[.bool y]) (fun y _=>[]):=by
 refine ct (S:=Unit) (b9 fun _ _=>rfl) Tryz.func81 rfl rfl ?_
 repeat' first
  | (apply Dk.fe; repeat' first | exact rfl | (refine @id.{0} _ ?_; constructor))
  | intro _
  | exact rfl
  | (apply Dk.Sk (t:=4); exact rfl)
  | (refine @id.{0} _ ?_; constructor)
  | apply aeC
  | exact ()
theorem aeY {x0:aG} {dR:Addr} {aS aY aN aL:Value}:Ct Tryz.prog 115 true (iB x0) [.pointer (some (dR))] [.au dR [.int .i64 (x0.aA),aS,aY,aN,aL],rI aS x0.aD,rI aY x0.To,rI aN x0.aH,rJ aL x0.aB] (fun y (v:Value×Value×Value×Value)=>[.agg #[.int .i64 y.aA,v.1,v.2.1,v.2.2.1,v.2.2.2]]) (fun y v=>[.own (aJ 2 (aM .i64)) v.1 y.aD,.own (aJ 2 (aM .i64)) v.2.1 y.To,.own (aJ 2 (aM .i64)) v.2.2.1 y.aH,.own (aJ 24 (aJ 2 (aM .i64))) v.2.2.2 y.aB]):=by
 refine ct (S:=Unit) (b9 fun _ _=>rfl) Tryz.func115 rfl rfl ?_
 repeat' first
  | (apply Dk.fe; repeat' first | exact rfl | (refine @id.{0} _ ?_; constructor))
  | intro _
  | exact rfl
  | (refine @id.{0} _ ?_; constructor)
  | apply Dk.any (id:=1) 24 [] [] [[],[0],[1,0],[2,1,0],[],[4],[5,4],[6,5,4],[7,6,5,4],[],[9],[10,9],[11,10,9],[12,11,10,9,8,7,6,5,4],[],[14],[15,14],[16,15,14],[17,16,15,14,13,12,11,10,9,8,7,6,5,4],[],[19],[20,19],[21,20,19],[22,21,20,19,18,17,16,15,14,13,12,11,10,9,8,7,6,5,4]] (by kernel_rfl)
  | apply JF
  | apply aeK
  | exact ()
theorem c74 {x0:aG} {dR:Addr} {aS aY aN aL:Value} {x1:aG} {qY:Addr} {bU cI bB aW:Value} {x2:(List Int)} {eC:Value} {x3:(List Int)} {gD:Value}:Ct Tryz.prog 74 true (mN x0 x1 x2 x3) [.pointer (some (dR)),.pointer (some (qY)),eC,gD] [.au qY [.int .i64 (x1.aA),bU,cI,bB,aW],.au dR [.int .i64 (x0.aA),aS,aY,aN,aL],rI aS x0.aD,rI aY x0.To,rI aN x0.aH,rJ aL x0.aB,rI bU x1.aD,rI cI x1.To,rI bB x1.aH,rJ aW x1.aB,rI eC x2,rI gD x3] (fun y (v:Value×Value×Value×Value×Value×Value×Value×Value×Value×Value)=>[.agg #[.int .i64 y.aC.aA,v.1,v.2.1,v.2.2.1,v.2.2.2.1,.int .i64 y.aE.aA,v.2.2.2.2.1,v.2.2.2.2.2.1,v.2.2.2.2.2.2.1,v.2.2.2.2.2.2.2.1,v.2.2.2.2.2.2.2.2.1,v.2.2.2.2.2.2.2.2.2]]) (fun y v=>[.own (aJ 2 (aM .i64)) v.1 y.aC.aD,.own (aJ 2 (aM .i64)) v.2.1 y.aC.To,.own (aJ 2 (aM .i64)) v.2.2.1 y.aC.aH,.own (aJ 24 (aJ 2 (aM .i64))) v.2.2.2.1 y.aC.aB,.own (aJ 2 (aM .i64)) v.2.2.2.2.1 y.aE.aD,.own (aJ 2 (aM .i64)) v.2.2.2.2.2.1 y.aE.To,.own (aJ 2 (aM .i64)) v.2.2.2.2.2.2.1 y.aE.aH,.own (aJ 24 (aJ 2 (aM .i64))) v.2.2.2.2.2.2.2.1 y.aE.aB,.own (aJ 2 (aM .i64)) v.2.2.2.2.2.2.2.2.1 y.aA,.own (aJ 2 (aM .i64)) v.2.2.2.2.2.2.2.2.2 y.ab]):=by
 refine ct (S:=Unit) (b9 fun _ _=>rfl) Tryz.func74 rfl rfl ?_
 repeat' first
  | (apply Dk.fe; repeat' first | exact rfl | (refine @id.{0} _ ?_; constructor))
  | intro _
  | exact rfl
  | (refine @id.{0} _ ?_; constructor)
  | apply aeY
  | apply JF
  | exact ()
theorem aeZ {x0:cN} {dR:Addr} {bS bY bH bC bT bZ bI bD cE cJ cV dD cK cF cW dE cL cG dL dS eK:Value} {x1:(List Int)} {eA:Value} {x2:Int}:Ct Tryz.prog 161 true (iJ x0 x1 x2) [.pointer (some (dR)),eA,.int .i64 (x2)] [.au dR [.int .i64 (x0.F.aC.aA),bS,bY,bH,bC,.int .i64 (x0.F.aE.aA),bT,bZ,bI,bD,cE,cJ,.int .i64 (x0.G.aC.aA),cV,dD,cK,cF,.int .i64 (x0.G.aE.aA),cW,dE,cL,cG,dL,dS,.bool (x0.zV),.int .i64 (x0.xj),eK],rI bS x0.F.aC.aD,rI bY x0.F.aC.To,rI bH x0.F.aC.aH,rJ bC x0.F.aC.aB,rI bT x0.F.aE.aD,rI bZ x0.F.aE.To,rI bI x0.F.aE.aH,rJ bD x0.F.aE.aB,rI cE x0.F.aA,rI cJ x0.F.ab,rI cV x0.G.aC.aD,rI dD x0.G.aC.To,rI cK x0.G.aC.aH,rJ cF x0.G.aC.aB,rI cW x0.G.aE.aD,rI dE x0.G.aE.To,rI cL x0.G.aE.aH,rJ cG x0.G.aE.aB,rI dL x0.G.aA,rI dS x0.G.ab,rJ eK x0.Found,rI eA x1] (fun y (v:Value)=>[v]) (fun y v=>[.own (aJ 2 (aM .i64)) v y]):=by
 refine ct (S:=Unit) (b9 fun _ _=>rfl) Tryz.func161 rfl rfl ?_
 repeat' first
  | (apply Dk.fe; repeat' first | exact rfl | (refine @id.{0} _ ?_; constructor))
  | intro _
  | exact rfl
  | (refine @id.{0} _ ?_; constructor)
  | apply Dk.loop 0 (V:=Value) (fun (s:(List Int)×Int) v=>[.own (aJ 2 (aM .i64)) v s.1]) (fun s v=>[(10,v),(11,.int .i64 (s.2))]) _ [(0,_),(1,_),(2,_),(7,_),(8,_),(9,_)]
  | apply Dk.loop 2 (V:=Unit) (fun (s:Bool×Int) v=>[]) (fun s v=>[(13,.bool (s.1)),(14,.int .i64 (s.2))]) () [(0,_),(1,_),(2,_),(7,_),(8,_),(9,_),(10,_),(11,_),(12,_)]
  | apply Dk.quiet (id:=7) (by kernel_rfl)
  | apply Dk.quiet (id:=14) (by kernel_rfl)
  | apply Dk.quiet (id:=15) (by kernel_rfl)
  | apply Dk.any (id:=1) 13 [] [[],[],[],[],[],[],[],[],[],[],[],[],[10]] [[],[0],[1,0],[2,1,0],[3,2,1,0],[],[5],[6,5],[7,6,5],[8,7,6,5],[],[],[10,4,3,2,1,0,0,1,0,2,1,0,3,2,1,0,4,3,2,1,0,10,11]] (by kernel_rfl)
  | apply Dk.any (id:=2) 17 [] [] [[],[],[1],[2,1],[3,2,1],[4,3,2,1],[],[5,4,3,2,1,6],[7,5,4,3,2,1,6],[],[9],[10,9],[11,10,9],[12,11,10,9],[],[13,12,11,10,9,14],[15,13,12,11,10,9,14]] (by kernel_rfl)
  | apply ML
  | apply aeS
  | apply zH
  | apply aeT
  | exact ()
theorem Yo {rc:cN→(List Int)→Option (cN)} (ih:∀ {x0:cN} {dB:Nat} {bS bY bH bC bT bZ bI bD cE cJ cV dD cK cF cW dE cL cG dL dS eK:Value} {x1:(List Int)} {eA:Value},Ct Tryz.prog 157 false (rc x0 x1) [.pointer (some (⟨dB,0,none⟩)),eA] [.row dB [.int .i64 (x0.F.aC.aA),bS,bY,bH,bC,.int .i64 (x0.F.aE.aA),bT,bZ,bI,bD,cE,cJ,.int .i64 (x0.G.aC.aA),cV,dD,cK,cF,.int .i64 (x0.G.aE.aA),cW,dE,cL,cG,dL,dS,.bool (x0.zV),.int .i64 (x0.xj),eK] 180,rI bS x0.F.aC.aD,rI bY x0.F.aC.To,rI bH x0.F.aC.aH,rJ bC x0.F.aC.aB,rI bT x0.F.aE.aD,rI bZ x0.F.aE.To,rI bI x0.F.aE.aH,rJ bD x0.F.aE.aB,rI cE x0.F.aA,rI cJ x0.F.ab,rI cV x0.G.aC.aD,rI dD x0.G.aC.To,rI cK x0.G.aC.aH,rJ cF x0.G.aC.aB,rI cW x0.G.aE.aD,rI dE x0.G.aE.To,rI cL x0.G.aE.aH,rJ cG x0.G.aE.aB,rI dL x0.G.aA,rI dS x0.G.ab,.om 24 (bJ (aM .i64)) eK x0.Found,rI eA x1] (fun y (v:Value)=>[]) (fun y v=>[.row dB [.int .i64 y.F.aC.aA,bS,bY,bH,bC,.int .i64 y.F.aE.aA,bT,bZ,bI,bD,cE,cJ,.int .i64 y.G.aC.aA,cV,dD,cK,cF,.int .i64 y.G.aE.aA,cW,dE,cL,cG,dL,dS,.bool y.zV,.int .i64 y.xj,v] 180,.om 24 (bJ (aM .i64)) v y.Found])) {x0:cN} {dB:Nat} {bS bY bH bC bT bZ bI bD cE cJ cV dD cK cF cW dE cL cG dL dS eK:Value} {x1:(List Int)} {eA:Value}:Ct Tryz.prog 157 false (pP rc x0 x1) [.pointer (some (⟨dB,0,none⟩)),eA] [.row dB [.int .i64 (x0.F.aC.aA),bS,bY,bH,bC,.int .i64 (x0.F.aE.aA),bT,bZ,bI,bD,cE,cJ,.int .i64 (x0.G.aC.aA),cV,dD,cK,cF,.int .i64 (x0.G.aE.aA),cW,dE,cL,cG,dL,dS,.bool (x0.zV),.int .i64 (x0.xj),eK] 180,rI bS x0.F.aC.aD,rI bY x0.F.aC.To,rI bH x0.F.aC.aH,rJ bC x0.F.aC.aB,rI bT x0.F.aE.aD,rI bZ x0.F.aE.To,rI bI x0.F.aE.aH,rJ bD x0.F.aE.aB,rI cE x0.F.aA,rI cJ x0.F.ab,rI cV x0.G.aC.aD,rI dD x0.G.aC.To,rI cK x0.G.aC.aH,rJ cF x0.G.aC.aB,rI cW x0.G.aE.aD,rI dE x0.G.aE.To,rI cL x0.G.aE.aH,rJ cG x0.G.aE.aB,rI dL x0.G.aA,rI dS x0.G.ab,.om 24 (bJ (aM .i64)) eK x0.Found,rI eA x1] (fun y (v:Value)=>[]) (fun y v=>[.row dB [.int .i64 y.F.aC.aA,bS,bY,bH,bC,.int .i64 y.F.aE.aA,bT,bZ,bI,bD,cE,cJ,.int .i64 y.G.aC.aA,cV,dD,cK,cF,.int .i64 y.G.aE.aA,cW,dE,cL,cG,dL,dS,.bool y.zV,.int .i64 y.xj,v] 180,.om 24 (bJ (aM .i64)) v y.Found]):=by
 refine ZM vK Tryz.func157 rfl rfl ?_
 repeat' first
  | (apply Dk.fe; repeat' first | exact rfl | (refine @id.{0} _ ?_; constructor))
  | intro _
  | exact rfl
  | apply Dk.ab5 (d:=38)
  | apply ih
  | (refine @id.{0} _ ?_; constructor)
  | apply Dk.loop 0 (V:=Unit) (fun (s:Int×Int) v=>[.om 24 (bJ (aM .i64)) eK x0.Found]) (fun s v=>[(4,.int .i64 (s.1)),(5,.int .i64 (s.2))]) () [(0,_),(1,_)]
  | apply Dk.loop 2 (V:=Value) (fun (s:Int×Int×Int×Int×Int×Bool×Int×(List (List Int))) v=>[.row dB [.int .i64 (s.2.1),bS,bY,bH,bC,.int .i64 (s.2.2.1),bT,bZ,bI,bD,cE,cJ,.int .i64 (s.2.2.2.1),cV,dD,cK,cF,.int .i64 (s.2.2.2.2.1),cW,dE,cL,cG,dL,dS,.bool (s.2.2.2.2.2.1),.int .i64 (s.2.2.2.2.2.2.1),v] 180,.om 24 (bJ (aM .i64)) v s.2.2.2.2.2.2.2]) (fun s v=>[(7,.int .i64 (s.1))]) _ [(0,_),(1,_),(4,_),(6,_)]
  | apply Dk.quiet (id:=11) (by kernel_rfl)
  | apply Dk.any (id:=8) 8 [0] [] [[],[],[1],[2,1],[3,2,1],[],[5],[6,5]] (by kernel_rfl)
  | apply aeZ
  | apply zH
  | exact ()
theorem Yp (n:Nat):∀ {x0:cN} {dB:Nat} {bS bY bH bC bT bZ bI bD cE cJ cV dD cK cF cW dE cL cG dL dS eK:Value} {x1:(List Int)} {eA:Value},Ct Tryz.prog 157 false (gB n x0 x1) [.pointer (some (⟨dB,0,none⟩)),eA] [.row dB [.int .i64 (x0.F.aC.aA),bS,bY,bH,bC,.int .i64 (x0.F.aE.aA),bT,bZ,bI,bD,cE,cJ,.int .i64 (x0.G.aC.aA),cV,dD,cK,cF,.int .i64 (x0.G.aE.aA),cW,dE,cL,cG,dL,dS,.bool (x0.zV),.int .i64 (x0.xj),eK] 180,rI bS x0.F.aC.aD,rI bY x0.F.aC.To,rI bH x0.F.aC.aH,rJ bC x0.F.aC.aB,rI bT x0.F.aE.aD,rI bZ x0.F.aE.To,rI bI x0.F.aE.aH,rJ bD x0.F.aE.aB,rI cE x0.F.aA,rI cJ x0.F.ab,rI cV x0.G.aC.aD,rI dD x0.G.aC.To,rI cK x0.G.aC.aH,rJ cF x0.G.aC.aB,rI cW x0.G.aE.aD,rI dE x0.G.aE.To,rI cL x0.G.aE.aH,rJ cG x0.G.aE.aB,rI dL x0.G.aA,rI dS x0.G.ab,.om 24 (bJ (aM .i64)) eK x0.Found,rI eA x1] (fun y (v:Value)=>[]) (fun y v=>[.row dB [.int .i64 y.F.aC.aA,bS,bY,bH,bC,.int .i64 y.F.aE.aA,bT,bZ,bI,bD,cE,cJ,.int .i64 y.G.aC.aA,cV,dD,cK,cF,.int .i64 y.G.aE.aA,cW,dE,cL,cG,dL,dS,.bool y.zV,.int .i64 y.xj,v] 180,.om 24 (bJ (aM .i64)) v y.Found]):=by
 induction n with
 | zero=>intros; rw [r6]; exact ⟨vK,fun _ _ _ _ _ _ _ y hy=>nomatch (show none=some y from hy)⟩
 | succ n ih=>exact Yo ih
theorem ae0 {x0:cN} {dB:Nat} {bS bY bH bC bT bZ bI bD cE cJ cV dD cK cF cW dE cL cG dL dS eK:Value} {x1:(List Int)} {eA:Value}:Ct Tryz.prog 157 false (gB 64 x0 x1) [.pointer (some (⟨dB,0,none⟩)),eA] [.row dB [.int .i64 (x0.F.aC.aA),bS,bY,bH,bC,.int .i64 (x0.F.aE.aA),bT,bZ,bI,bD,cE,cJ,.int .i64 (x0.G.aC.aA),cV,dD,cK,cF,.int .i64 (x0.G.aE.aA),cW,dE,cL,cG,dL,dS,.bool (x0.zV),.int .i64 (x0.xj),eK] 180,rI bS x0.F.aC.aD,rI bY x0.F.aC.To,rI bH x0.F.aC.aH,rJ bC x0.F.aC.aB,rI bT x0.F.aE.aD,rI bZ x0.F.aE.To,rI bI x0.F.aE.aH,rJ bD x0.F.aE.aB,rI cE x0.F.aA,rI cJ x0.F.ab,rI cV x0.G.aC.aD,rI dD x0.G.aC.To,rI cK x0.G.aC.aH,rJ cF x0.G.aC.aB,rI cW x0.G.aE.aD,rI dE x0.G.aE.To,rI cL x0.G.aE.aH,rJ cG x0.G.aE.aB,rI dL x0.G.aA,rI dS x0.G.ab,.om 24 (bJ (aM .i64)) eK x0.Found,rI eA x1] (fun y (v:Value)=>[]) (fun y v=>[.row dB [.int .i64 y.F.aC.aA,bS,bY,bH,bC,.int .i64 y.F.aE.aA,bT,bZ,bI,bD,cE,cJ,.int .i64 y.G.aC.aA,cV,dD,cK,cF,.int .i64 y.G.aE.aA,cW,dE,cL,cG,dL,dS,.bool y.zV,.int .i64 y.xj,v] 180,.om 24 (bJ (aM .i64)) v y.Found]):=by
 exact Yp 64
end Go.Proofs.YtgjbmjjihmfppaaGreat
