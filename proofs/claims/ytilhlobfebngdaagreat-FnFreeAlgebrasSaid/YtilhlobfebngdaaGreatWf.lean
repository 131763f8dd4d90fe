/- Walks by the calculus D. No condition beside those that each theorem names. -/
import Derived.Test.YtilhlobfebngdaaGreatDp
import Derived.Test.YtilhlobfebngdaaGreatDi
import Derived.Test.YtilhlobfebngdaaGreatMo
import Derived.Test.YtilhlobfebngdaaGreatDs
import Derived.Test.YtilhlobfebngdaaGreatWa
import Derived.Test.YtilhlobfebngdaaGreatWb
import Derived.Test.YtilhlobfebngdaaGreatWc
import Derived.Test.YtilhlobfebngdaaGreatWd
namespace Go.Proofs.YtilhlobfebngdaaGreat
open Go Go.Li Go.Dk
set_option linter.unusedVariables false
set_option maxHeartbeats 16000000
set_option maxRecDepth 100000
theorem afP {x0:Int} {x1:(List (List Int))} {dS:Value}:Ct Tryz.prog 153 true (qJ x0 x1) [.int .i64 (x0),dS] [rJ dS x1] (fun y (v:Value)=>[v]) (fun y v=>[.own (aL 2 (aN .i64)) v y]):=by
 refine ct (S:=Unit) (b9 fun _ _=>rfl) Tryz.func153 rfl rfl ?_
 repeat' first
  | (apply Dk.fe; repeat' first | exact rfl | (refine @id.{0} _ ?_; constructor))
  | intro _
  | exact rfl
  | (refine @id.{0} _ ?_; constructor)
  | apply Dk.loop 0 (V:=Value) (fun (s:(List Int)×Int) v=>[.own (aL 2 (aN .i64)) v s.1]) (fun s v=>[(5,v),(6,.int .i64 (s.2))]) _ [(0,_),(1,_)]
  | apply Dk.jg 2 (V:=Unit) (A:=Value) _ (fun a (s:Int×(List Int)) v=>[.own (aL 2 (aN .i64)) a s.2]) (fun a s v=>[(5,a),(7,.int .i64 (s.1))]) () [(1,_)]
  | apply Dk.jg 4 (V:=Unit) (A:=Value) _ (fun a (s:Int×(List Int)) v=>[.own (aL 2 (aN .i64)) a s.2]) (fun a s v=>[(5,a),(10,.int .i64 (s.1))]) () [(1,_),(7,_),(8,_),(9,_)]
  | apply Dk.quiet (id:=9) (by kernel_rfl)
  | apply afE
  | exact ()
theorem afQ {x0:dC} {dD:Addr} {cY dI cO cK cZ dJ cP cL dQ dY dA dK cQ cM dB dL cR cN dR dZ fO:Value} {x1:(List Int)} {dS:Value} {x2:Int}:Ct Tryz.prog 159 true (lC x0 x1 x2) [.pointer (some (dD)),dS,.int .i64 (x2)] [.bn dD [.int .i64 (x0.F.aB.aA),cY,dI,cO,cK,.int .i64 (x0.F.aH.aA),cZ,dJ,cP,cL,dQ,dY,.int .i64 (x0.G.aB.aA),dA,dK,cQ,cM,.int .i64 (x0.G.aH.aA),dB,dL,cR,cN,dR,dZ,.bool (x0.zN),.int .i64 (x0.wM),fO],rI cY x0.F.aB.aG,rI dI x0.F.aB.To,rI cO x0.F.aB.aJ,rJ cK x0.F.aB.aE,rI cZ x0.F.aH.aG,rI dJ x0.F.aH.To,rI cP x0.F.aH.aJ,rJ cL x0.F.aH.aE,rI dQ x0.F.aA,rI dY x0.F.ab,rI dA x0.G.aB.aG,rI dK x0.G.aB.To,rI cQ x0.G.aB.aJ,rJ cM x0.G.aB.aE,rI dB x0.G.aH.aG,rI dL x0.G.aH.To,rI cR x0.G.aH.aJ,rJ cN x0.G.aH.aE,rI dR x0.G.aA,rI dZ x0.G.ab,rJ fO x0.Found,rI dS x1] (fun y (v:Value)=>[v]) (fun y v=>[.own (aL 2 (aN .i64)) v y]):=by
 refine ct (S:=Unit) (b9 fun _ _=>rfl) Tryz.func159 rfl rfl ?_
 repeat' first
  | (apply Dk.fe; repeat' first | exact rfl | (refine @id.{0} _ ?_; constructor))
  | intro _
  | exact rfl
  | (refine @id.{0} _ ?_; constructor)
  | apply Dk.loop 0 (V:=Value) (fun (s:(List Int)×Int) v=>[.own (aL 2 (aN .i64)) v s.1]) (fun s v=>[(10,v),(11,.int .i64 (s.2))]) _ [(0,_),(1,_),(2,_),(7,_),(8,_),(9,_)]
  | apply Dk.loop 2 (V:=Unit) (fun (s:Bool×Int) v=>[]) (fun s v=>[(13,.bool (s.1)),(14,.int .i64 (s.2))]) () [(0,_),(1,_),(2,_),(7,_),(8,_),(9,_),(10,_),(11,_),(12,_)]
  | apply Dk.quiet (id:=7) (by kernel_rfl)
  | apply Dk.quiet (id:=14) (by kernel_rfl)
  | apply Dk.quiet (id:=15) (by kernel_rfl)
  | apply Dk.any (id:=1) 13 [] [[],[],[],[],[],[],[],[],[],[],[],[],[10]] [[],[0],[0,1],[0,1,2],[0,1,2,3],[],[5],[5,6],[5,6,7],[5,6,7,8],[],[],[0,1,2,3,4,10,11]] (by kernel_rfl)
  | apply Dk.any (id:=2) 17 [] [] [[],[],[1],[1,2],[1,2,3],[1,2,3,4],[],[1,2,3,4,5,6],[1,2,3,4,5,6,7],[],[9],[9,10],[9,10,11],[9,10,11,12],[],[9,10,11,12,13,14],[9,10,11,12,13,14,15]] (by kernel_rfl)
  | apply D9
  | apply afI
  | apply wW
  | apply afJ
  | exact ()
theorem YQ {rc:dC→(List Int)→Option (dC)} (ih:∀ {x0:dC} {dG:Nat} {cY dI cO cK cZ dJ cP cL dQ dY dA dK cQ cM dB dL cR cN dR dZ fO:Value} {x1:(List Int)} {dS:Value},Ct Tryz.prog 154 false (rc x0 x1) [.pointer (some (⟨dG,0,none⟩)),dS] [.row dG [.int .i64 (x0.F.aB.aA),cY,dI,cO,cK,.int .i64 (x0.F.aH.aA),cZ,dJ,cP,cL,dQ,dY,.int .i64 (x0.G.aB.aA),dA,dK,cQ,cM,.int .i64 (x0.G.aH.aA),dB,dL,cR,cN,dR,dZ,.bool (x0.zN),.int .i64 (x0.wM),fO] 185,rI cY x0.F.aB.aG,rI dI x0.F.aB.To,rI cO x0.F.aB.aJ,rJ cK x0.F.aB.aE,rI cZ x0.F.aH.aG,rI dJ x0.F.aH.To,rI cP x0.F.aH.aJ,rJ cL x0.F.aH.aE,rI dQ x0.F.aA,rI dY x0.F.ab,rI dA x0.G.aB.aG,rI dK x0.G.aB.To,rI cQ x0.G.aB.aJ,rJ cM x0.G.aB.aE,rI dB x0.G.aH.aG,rI dL x0.G.aH.To,rI cR x0.G.aH.aJ,rJ cN x0.G.aH.aE,rI dR x0.G.aA,rI dZ x0.G.ab,.om 24 (bH (aN .i64)) fO x0.Found,rI dS x1] (fun y (v:Value)=>[]) (fun y v=>[.row dG [.int .i64 y.F.aB.aA,cY,dI,cO,cK,.int .i64 y.F.aH.aA,cZ,dJ,cP,cL,dQ,dY,.int .i64 y.G.aB.aA,dA,dK,cQ,cM,.int .i64 y.G.aH.aA,dB,dL,cR,cN,dR,dZ,.bool y.zN,.int .i64 y.wM,v] 185,.om 24 (bH (aN .i64)) v y.Found])) {x0:dC} {dG:Nat} {cY dI cO cK cZ dJ cP cL dQ dY dA dK cQ cM dB dL cR cN dR dZ fO:Value} {x1:(List Int)} {dS:Value}:Ct Tryz.prog 154 false (qK rc x0 x1) [.pointer (some (⟨dG,0,none⟩)),dS] [.row dG [.int .i64 (x0.F.aB.aA),cY,dI,cO,cK,.int .i64 (x0.F.aH.aA),cZ,dJ,cP,cL,dQ,dY,.int .i64 (x0.G.aB.aA),dA,dK,cQ,cM,.int .i64 (x0.G.aH.aA),dB,dL,cR,cN,dR,dZ,.bool (x0.zN),.int .i64 (x0.wM),fO] 185,rI cY x0.F.aB.aG,rI dI x0.F.aB.To,rI cO x0.F.aB.aJ,rJ cK x0.F.aB.aE,rI cZ x0.F.aH.aG,rI dJ x0.F.aH.To,rI cP x0.F.aH.aJ,rJ cL x0.F.aH.aE,rI dQ x0.F.aA,rI dY x0.F.ab,rI dA x0.G.aB.aG,rI dK x0.G.aB.To,rI cQ x0.G.aB.aJ,rJ cM x0.G.aB.aE,rI dB x0.G.aH.aG,rI dL x0.G.aH.To,rI cR x0.G.aH.aJ,rJ cN x0.G.aH.aE,rI dR x0.G.aA,rI dZ x0.G.ab,.om 24 (bH (aN .i64)) fO x0.Found,rI dS x1] (fun y (v:Value)=>[]) (fun y v=>[.row dG [.int .i64 y.F.aB.aA,cY,dI,cO,cK,.int .i64 y.F.aH.aA,cZ,dJ,cP,cL,dQ,dY,.int .i64 y.G.aB.aA,dA,dK,cQ,cM,.int .i64 y.G.aH.aA,dB,dL,cR,cN,dR,dZ,.bool y.zN,.int .i64 y.wM,v] 185,.om 24 (bH (aN .i64)) v y.Found]):=by
 refine ctv B6 Tryz.func154 rfl rfl ?_
 repeat' first
  | (apply Dk.fe; repeat' first | exact rfl | (refine @id.{0} _ ?_; constructor))
  | intro _
  | exact rfl
  | apply Dk.ace (d:=38)
  | apply ih
  | (refine @id.{0} _ ?_; constructor)
  | apply Dk.loop 0 (V:=Unit) (fun (s:Int×Int) v=>[.om 24 (bH (aN .i64)) fO x0.Found]) (fun s v=>[(4,.int .i64 (s.1)),(5,.int .i64 (s.2))]) () [(0,_),(1,_)]
  | apply Dk.loop 2 (V:=Value) (fun (s:Int×Int×Int×Int×Int×Bool×Int×(List (List Int))) v=>[.row dG [.int .i64 (s.2.1),cY,dI,cO,cK,.int .i64 (s.2.2.1),cZ,dJ,cP,cL,dQ,dY,.int .i64 (s.2.2.2.1),dA,dK,cQ,cM,.int .i64 (s.2.2.2.2.1),dB,dL,cR,cN,dR,dZ,.bool (s.2.2.2.2.2.1),.int .i64 (s.2.2.2.2.2.2.1),v] 185,.om 24 (bH (aN .i64)) v s.2.2.2.2.2.2.2]) (fun s v=>[(7,.int .i64 (s.1))]) _ [(0,_),(1,_),(4,_),(6,_)]
  | apply Dk.quiet (id:=11) (by kernel_rfl)
  | apply Dk.any (id:=8) 8 [0] [] [[],[],[1],[1,2],[1,2,3],[],[5],[5,6]] (by kernel_rfl)
  | apply afQ
  | apply wW
  | exact ()
theorem YR (n:Nat):∀ {x0:dC} {dG:Nat} {cY dI cO cK cZ dJ cP cL dQ dY dA dK cQ cM dB dL cR cN dR dZ fO:Value} {x1:(List Int)} {dS:Value},Ct Tryz.prog 154 false (jU n x0 x1) [.pointer (some (⟨dG,0,none⟩)),dS] [.row dG [.int .i64 (x0.F.aB.aA),cY,dI,cO,cK,.int .i64 (x0.F.aH.aA),cZ,dJ,cP,cL,dQ,dY,.int .i64 (x0.G.aB.aA),dA,dK,cQ,cM,.int .i64 (x0.G.aH.aA),dB,dL,cR,cN,dR,dZ,.bool (x0.zN),.int .i64 (x0.wM),fO] 185,rI cY x0.F.aB.aG,rI dI x0.F.aB.To,rI cO x0.F.aB.aJ,rJ cK x0.F.aB.aE,rI cZ x0.F.aH.aG,rI dJ x0.F.aH.To,rI cP x0.F.aH.aJ,rJ cL x0.F.aH.aE,rI dQ x0.F.aA,rI dY x0.F.ab,rI dA x0.G.aB.aG,rI dK x0.G.aB.To,rI cQ x0.G.aB.aJ,rJ cM x0.G.aB.aE,rI dB x0.G.aH.aG,rI dL x0.G.aH.To,rI cR x0.G.aH.aJ,rJ cN x0.G.aH.aE,rI dR x0.G.aA,rI dZ x0.G.ab,.om 24 (bH (aN .i64)) fO x0.Found,rI dS x1] (fun y (v:Value)=>[]) (fun y v=>[.row dG [.int .i64 y.F.aB.aA,cY,dI,cO,cK,.int .i64 y.F.aH.aA,cZ,dJ,cP,cL,dQ,dY,.int .i64 y.G.aB.aA,dA,dK,cQ,cM,.int .i64 y.G.aH.aA,dB,dL,cR,cN,dR,dZ,.bool y.zN,.int .i64 y.wM,v] 185,.om 24 (bH (aN .i64)) v y.Found]):=by
 induction n with
 | zero=>intros; rw [u2]; exact ⟨B6,fun _ _ _ _ _ _ _ y hy=>nomatch (show none=some y from hy)⟩
 | succ n ih=>exact YQ ih
theorem afR {x0:dC} {dG:Nat} {cY dI cO cK cZ dJ cP cL dQ dY dA dK cQ cM dB dL cR cN dR dZ fO:Value} {x1:(List Int)} {dS:Value}:Ct Tryz.prog 154 false (jU 64 x0 x1) [.pointer (some (⟨dG,0,none⟩)),dS] [.row dG [.int .i64 (x0.F.aB.aA),cY,dI,cO,cK,.int .i64 (x0.F.aH.aA),cZ,dJ,cP,cL,dQ,dY,.int .i64 (x0.G.aB.aA),dA,dK,cQ,cM,.int .i64 (x0.G.aH.aA),dB,dL,cR,cN,dR,dZ,.bool (x0.zN),.int .i64 (x0.wM),fO] 185,rI cY x0.F.aB.aG,rI dI x0.F.aB.To,rI cO x0.F.aB.aJ,rJ cK x0.F.aB.aE,rI cZ x0.F.aH.aG,rI dJ x0.F.aH.To,rI cP x0.F.aH.aJ,rJ cL x0.F.aH.aE,rI dQ x0.F.aA,rI dY x0.F.ab,rI dA x0.G.aB.aG,rI dK x0.G.aB.To,rI cQ x0.G.aB.aJ,rJ cM x0.G.aB.aE,rI dB x0.G.aH.aG,rI dL x0.G.aH.To,rI cR x0.G.aH.aJ,rJ cN x0.G.aH.aE,rI dR x0.G.aA,rI dZ x0.G.ab,.om 24 (bH (aN .i64)) fO x0.Found,rI dS x1] (fun y (v:Value)=>[]) (fun y v=>[.row dG [.int .i64 y.F.aB.aA,cY,dI,cO,cK,.int .i64 y.F.aH.aA,cZ,dJ,cP,cL,dQ,dY,.int .i64 y.G.aB.aA,dA,dK,cQ,cM,.int .i64 y.G.aH.aA,dB,dL,cR,cN,dR,dZ,.bool y.zN,.int .i64 y.wM,v] 185,.om 24 (bH (aN .i64)) v y.Found]):=by
 exact YR 64
theorem afS {x0:aQ} {bK bQ aZ aW bL bR bA aY bU bZ:Value} {x1:aQ} {cV dE cI cE cW dF cJ cF dP dT:Value} {x2:Bool} {x3:Int}:Ct Tryz.prog 140 false (qO x0 x1 x2 x3) [.agg #[.int .i64 (x0.aB.aA),bK,bQ,aZ,aW,.int .i64 (x0.aH.aA),bL,bR,bA,aY,bU,bZ],.agg #[.int .i64 (x1.aB.aA),cV,dE,cI,cE,.int .i64 (x1.aH.aA),cW,dF,cJ,cF,dP,dT],.bool (x2),.int .i64 (x3)] [rI bK x0.aB.aG,rI bQ x0.aB.To,rI aZ x0.aB.aJ,rJ aW x0.aB.aE,rI bL x0.aH.aG,rI bR x0.aH.To,rI bA x0.aH.aJ,rJ aY x0.aH.aE,rI bU x0.aA,rI bZ x0.ab,rI cV x1.aB.aG,rI dE x1.aB.To,rI cI x1.aB.aJ,rJ cE x1.aB.aE,rI cW x1.aH.aG,rI dF x1.aH.To,rI cJ x1.aH.aJ,rJ cF x1.aH.aE,rI dP x1.aA,rI dT x1.ab] (fun y (v:Value)=>[v]) (fun y v=>[rJ v y]):=by
 refine ct (S:=Unit) B6 Tryz.func140 rfl rfl ?_
 repeat' first
  | (apply Dk.fe; repeat' first | exact rfl | (refine @id.{0} _ ?_; constructor))
  | intro _
  | exact rfl
  | apply Dk.xL (d:=40)
  | (refine Dk.uW (t:=61) rfl ?_ ?_)
  | (refine @id.{0} _ ?_; constructor)
  | apply Dk.loop 0 (V:=Value) (fun (s:(List (List Int))×Int) v=>[.own (aL 24 (aL 2 (aN .i64))) v s.1]) (fun s v=>[(10,v),(11,.int .i64 (s.2))]) _ [(2,_),(3,_),(4,_),(5,_),(9,_)]
  | apply Dk.loop 2 (V:=Value) (fun (s:(List Int)×Int) v=>[.own (aL 2 (aN .i64)) v s.1]) (fun s v=>[(13,v),(14,.int .i64 (s.2))]) _ [(2,_),(3,_),(4,_),(5,_),(12,_)]
  | apply Dk.loop 4 (V:=Value) (fun (s:(List Int)×Int) v=>[.own (aL 2 (aN .i64)) v s.1]) (fun s v=>[(15,v),(16,.int .i64 (s.2))]) _ [(2,_),(3,_),(4,_),(5,_),(12,_),(13,_),(14,_)]
  | apply Dk.S8 (id:=6) [(0,11)] 11 rfl (by kernel_rfl)
  | apply afP
  | apply afR
  | exact ()
theorem YS {x0:aK} {dG:Nat} {cC:Value} {x1:Int}:Ct Tryz.prog 28 true (eL x0 x1) [.pointer (some (⟨dG,0,none⟩)),.int .i64 (x1)] [.row dG [cC,.int .i64 (x0.At),.int .u64 (x0.av)] 91,.rd false (bH (aN .u8)) cC x0.Code] (fun y (_:Unit)=>[.int .i64 y.1]) (fun y _=>[.row dG [cC,.int .i64 y.2.At,.int .u64 y.2.av] 91]):=by
 refine ct (S:=Unit) (b9 fun _ _=>rfl) Tryz.func28 rfl rfl ?_
 repeat' first
  | (apply Dk.fe; repeat' first | exact rfl | (refine @id.{0} _ ?_; constructor))
  | intro _
  | exact rfl
  | (refine @id.{0} _ ?_; constructor)
  | apply zu
  | apply c58
  | exact ()
theorem c60 {x0:aI} {aV bE aP aO:Value} {x1:aI} {bY cH bJ bD:Value}:Ct Tryz.prog 60 true (qZ x0 x1) [.agg #[.int .i64 (x0.aA),aV,bE,aP,aO],.agg #[.int .i64 (x1.aA),bY,cH,bJ,bD]] [rI aV x0.aG,rI bE x0.To,rI aP x0.aJ,rJ aO x0.aE,rI bY x1.aG,rI cH x1.To,rI bJ x1.aJ,rJ bD x1.aE] (fun y (_:Unit)=>[.bool y]) (fun y _=>[]):=by
 refine ct (S:=Unit) (b9 fun _ _=>rfl) Tryz.func60 rfl rfl ?_
 repeat' first
  | (apply Dk.fe; repeat' first | exact rfl | (refine @id.{0} _ ?_; constructor))
  | intro _
  | exact rfl
  | (refine @id.{0} _ ?_; constructor)
  | apply TN
  | apply c89
  | exact ()
theorem c93 {x0:aQ} {dD:Addr} {bK bQ aZ aW bL bR bA aY bU bZ:Value}:Ct Tryz.prog 93 true (lR x0) [.pointer (some (dD))] [.bn dD [.int .i64 (x0.aB.aA),bK,bQ,aZ,aW,.int .i64 (x0.aH.aA),bL,bR,bA,aY,bU,bZ],rI bK x0.aB.aG,rI bQ x0.aB.To,rI aZ x0.aB.aJ,rJ aW x0.aB.aE,rI bL x0.aH.aG,rI bR x0.aH.To,rI bA x0.aH.aJ,rJ aY x0.aH.aE,rI bU x0.aA,rI bZ x0.ab] (fun y (_:Unit)=>[.bool y]) (fun y _=>[]):=by
 refine ct (S:=Unit) (b9 fun _ _=>rfl) Tryz.func93 rfl rfl ?_
 repeat' first
  | (apply Dk.fe; repeat' first | exact rfl | (refine @id.{0} _ ?_; constructor))
  | intro _
  | exact rfl
  | (refine @id.{0} _ ?_; constructor)
  | apply Dk.loop 0 (V:=Unit) (fun (s:Int) v=>[]) (fun s v=>[(66,.int .i64 (s))]) () [(0,_),(3,_),(4,_),(64,_),(65,_)]
  | apply Dk.loop 2 (V:=Unit) (fun (s:Int) v=>[]) (fun s v=>[(121,.int .i64 (s))]) () [(0,_),(3,_),(4,_),(119,_),(120,_)]
  | apply Dk.loop 4 (V:=Unit) (fun (s:Int) v=>[]) (fun s v=>[(153,.int .i64 (s))]) () [(0,_),(4,_),(151,_),(152,_)]
  | apply Dk.loop 6 (V:=Unit) (fun (s:Int) v=>[]) (fun s v=>[(160,.int .i64 (s))]) () [(0,_),(4,_),(9,_),(151,_),(152,_),(153,_),(158,_),(159,_)]
  | apply Dk.quiet (id:=1) (by kernel_rfl)
  | apply Dk.quiet (id:=2) (by kernel_rfl)
  | apply Dk.quiet (id:=7) (by kernel_rfl)
  | apply Dk.quiet (id:=13) (by kernel_rfl)
  | apply Dk.quiet (id:=22) (by kernel_rfl)
  | apply LU
  | apply Ps
  | apply Kg
  | exact ()
end Go.Proofs.YtilhlobfebngdaaGreat
