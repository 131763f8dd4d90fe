/- Walks by the calculus D. No condition beside those that each theorem names. -/
import Derived.Test.YtilhlobfebngdaaGreatDp
import Derived.Test.YtilhlobfebngdaaGreatDi
import Derived.Test.YtilhlobfebngdaaGreatMo
import Derived.Test.YtilhlobfebngdaaGreatDs
import Derived.Test.YtilhlobfebngdaaGreatWa
import Derived.Test.YtilhlobfebngdaaGreatWb
import Derived.Test.YtilhlobfebngdaaGreatWc
import Derived.Test.YtilhlobfebngdaaGreatWd
namespace Go.Proofs.YtilhlobfebngdaaGreat
open Go Go.Li Go.Dk
set_option linter.unusedVariables false
set_option maxHeartbeats 16000000
set_option maxRecDepth 100000
theorem aje {x0:Int} {x1:(List (List Int))} {eB:Value}:Ct Tryz.prog 153 true (rD x0 x1) [.int .i64 (x0),eB] [rJ eB x1] (fun y (v:Value)=>[v]) (fun y v=>[.own (aI 2 (aL .i64)) v y]):=by
 refine ct (S:=Unit) (bu fun _ _=>rfl) Tryz.func153 rfl rfl ?_
 repeat' first
  | (apply Dk.fe; repeat' first | exact rfl | (refine @id.{0} _ ?_; constructor))
  | intro _
  | exact rfl
  | (refine @id.{0} _ ?_; constructor)
  | apply Dk.loop 0 (V:=Value) (fun (s:(List Int)×Int) v=>[.own (aI 2 (aL .i64)) v s.1]) (fun s v=>[(5,v),(6,.int .i64 (s.2))]) _ [(0,_),(1,_)]
  | apply Dk.iv 2 (V:=Unit) (A:=Value) _ (fun a (s:Int×(List Int)) v=>[.own (aI 2 (aL .i64)) a s.2]) (fun a s v=>[(5,a),(7,.int .i64 (s.1))]) () [(1,_)]
  | apply Dk.iv 4 (V:=Unit) (A:=Value) _ (fun a (s:Int×(List Int)) v=>[.own (aI 2 (aL .i64)) a s.2]) (fun a s v=>[(5,a),(10,.int .i64 (s.1))]) () [(1,_),(7,_),(8,_),(9,_)]
  | apply Dk.quiet (id:=9) (by kernel_rfl)
  | apply ai5
  | exact ()
theorem ajf {x0:dD} {dM:Addr} {cZ dH cO cJ dA dI cP cK dR dZ dB dJ cQ cL dC dK cR cM dS eA fP:Value} {x1:(List Int)} {eB:Value} {x2:Int}:Ct Tryz.prog 159 true (lT x0 x1 x2) [.pointer (some (dM)),eB,.int .i64 (x2)] [.bc dM [.int .i64 (x0.F.aB.aA),cZ,dH,cO,cJ,.int .i64 (x0.F.aG.aA),dA,dI,cP,cK,dR,dZ,.int .i64 (x0.G.aB.aA),dB,dJ,cQ,cL,.int .i64 (x0.G.aG.aA),dC,dK,cR,cM,dS,eA,.bool (x0.AS),.int .i64 (x0.xN),fP],rI cZ x0.F.aB.aE,rI dH x0.F.aB.To,rI cO x0.F.aB.aH,rJ cJ x0.F.aB.aC,rI dA x0.F.aG.aE,rI dI x0.F.aG.To,rI cP x0.F.aG.aH,rJ cK x0.F.aG.aC,rI dR x0.F.aA,rI dZ x0.F.ab,rI dB x0.G.aB.aE,rI dJ x0.G.aB.To,rI cQ x0.G.aB.aH,rJ cL x0.G.aB.aC,rI dC x0.G.aG.aE,rI dK x0.G.aG.To,rI cR x0.G.aG.aH,rJ cM x0.G.aG.aC,rI dS x0.G.aA,rI eA x0.G.ab,rJ fP x0.Found,rI eB x1] (fun y (v:Value)=>[v]) (fun y v=>[.own (aI 2 (aL .i64)) v y]):=by
 refine ct (S:=Unit) (bu fun _ _=>rfl) Tryz.func159 rfl rfl ?_
 repeat' first
  | (apply Dk.fe; repeat' first | exact rfl | (refine @id.{0} _ ?_; constructor))
  | intro _
  | exact rfl
  | (refine @id.{0} _ ?_; constructor)
  | apply Dk.loop 0 (V:=Value) (fun (s:(List Int)×Int) v=>[.own (aI 2 (aL .i64)) v s.1]) (fun s v=>[(10,v),(11,.int .i64 (s.2))]) _ [(0,_),(1,_),(2,_),(7,_),(8,_),(9,_)]
  | apply Dk.loop 2 (V:=Unit) (fun (s:Bool×Int) v=>[]) (fun s v=>[(13,.bool (s.1)),(14,.int .i64 (s.2))]) () [(0,_),(1,_),(2,_),(7,_),(8,_),(9,_),(10,_),(11,_),(12,_)]
  | apply Dk.quiet (id:=7) (by kernel_rfl)
  | apply Dk.quiet (id:=14) (by kernel_rfl)
  | apply Dk.quiet (id:=15) (by kernel_rfl)
  | apply Dk.any (id:=1) 13 [] [[],[],[],[],[],[],[],[],[],[],[],[],[10]] [[],[0],[0,1],[0,1,2],[0,1,2,3],[],[5],[5,6],[5,6,7],[5,6,7,8],[],[],[0,1,2,3,4,10,11]] (by kernel_rfl)
  | apply Dk.any (id:=2) 17 [] [] [[],[],[1],[1,2],[1,2,3],[1,2,3,4],[],[1,2,3,4,5,6],[1,2,3,4,5,6,7],[],[9],[9,10],[9,10,11],[9,10,11,12],[],[9,10,11,12,13,14],[9,10,11,12,13,14,15]] (by kernel_rfl)
  | apply Hj
  | apply ai9
  | apply xV
  | apply aiQ
  | exact ()
theorem abk {rc:dD→(List Int)→Option (dD)} (ih:∀ {x0:dD} {dG:Nat} {cZ dH cO cJ dA dI cP cK dR dZ dB dJ cQ cL dC dK cR cM dS eA fP:Value} {x1:(List Int)} {eB:Value},Ct Tryz.prog 154 false (rc x0 x1) [.pointer (some (⟨dG,0,none⟩)),eB] [.row dG [.int .i64 (x0.F.aB.aA),cZ,dH,cO,cJ,.int .i64 (x0.F.aG.aA),dA,dI,cP,cK,dR,dZ,.int .i64 (x0.G.aB.aA),dB,dJ,cQ,cL,.int .i64 (x0.G.aG.aA),dC,dK,cR,cM,dS,eA,.bool (x0.AS),.int .i64 (x0.xN),fP] 185,rI cZ x0.F.aB.aE,rI dH x0.F.aB.To,rI cO x0.F.aB.aH,rJ cJ x0.F.aB.aC,rI dA x0.F.aG.aE,rI dI x0.F.aG.To,rI cP x0.F.aG.aH,rJ cK x0.F.aG.aC,rI dR x0.F.aA,rI dZ x0.F.ab,rI dB x0.G.aB.aE,rI dJ x0.G.aB.To,rI cQ x0.G.aB.aH,rJ cL x0.G.aB.aC,rI dC x0.G.aG.aE,rI dK x0.G.aG.To,rI cR x0.G.aG.aH,rJ cM x0.G.aG.aC,rI dS x0.G.aA,rI eA x0.G.ab,.om 24 (bE (aL .i64)) fP x0.Found,rI eB x1] (fun y (v:Value)=>[]) (fun y v=>[.row dG [.int .i64 y.F.aB.aA,cZ,dH,cO,cJ,.int .i64 y.F.aG.aA,dA,dI,cP,cK,dR,dZ,.int .i64 y.G.aB.aA,dB,dJ,cQ,cL,.int .i64 y.G.aG.aA,dC,dK,cR,cM,dS,eA,.bool y.AS,.int .i64 y.xN,v] 185,.om 24 (bE (aL .i64)) v y.Found])) {x0:dD} {dG:Nat} {cZ dH cO cJ dA dI cP cK dR dZ dB dJ cQ cL dC dK cR cM dS eA fP:Value} {x1:(List Int)} {eB:Value}:Ct Tryz.prog 154 false (rE rc x0 x1) [.pointer (some (⟨dG,0,none⟩)),eB] [.row dG [.int .i64 (x0.F.aB.aA),cZ,dH,cO,cJ,.int .i64 (x0.F.aG.aA),dA,dI,cP,cK,dR,dZ,.int .i64 (x0.G.aB.aA),dB,dJ,cQ,cL,.int .i64 (x0.G.aG.aA),dC,dK,cR,cM,dS,eA,.bool (x0.AS),.int .i64 (x0.xN),fP] 185,rI cZ x0.F.aB.aE,rI dH x0.F.aB.To,rI cO x0.F.aB.aH,rJ cJ x0.F.aB.aC,rI dA x0.F.aG.aE,rI dI x0.F.aG.To,rI cP x0.F.aG.aH,rJ cK x0.F.aG.aC,rI dR x0.F.aA,rI dZ x0.F.ab,rI dB x0.G.aB.aE,rI dJ x0.G.aB.To,rI cQ x0.G.aB.aH,rJ cL x0.G.aB.aC,rI dC x0.G.aG.aE,rI dK x0.G.aG.To,rI cR x0.G.aG.aH,rJ cM x0.G.aG.aC,rI dS x0.G.aA,rI eA x0.G.ab,.om 24 (bE (aL .i64)) fP x0.Found,rI eB x1] (fun y (v:Value)=>[]) (fun y v=>[.row dG [.int .i64 y.F.aB.aA,cZ,dH,cO,cJ,.int .i64 y.F.aG.aA,dA,dI,cP,cK,dR,dZ,.int .i64 y.G.aB.aA,dB,dJ,cQ,cL,.int .i64 y.G.aG.aA,dC,dK,cR,cM,dS,eA,.bool y.AS,.int .i64 y.xN,v] 185,.om 24 (bE (aL .i64)) v y.Found]):=by
 refine ctv C4 Tryz.func154 rfl rfl ?_
 repeat' first
  | (apply Dk.fe; repeat' first | exact rfl | (refine @id.{0} _ ?_; constructor))
  | intro _
  | exact rfl
  | apply Dk.aff (d:=38)
  | apply ih
  | (refine @id.{0} _ ?_; constructor)
  | apply Dk.loop 0 (V:=Unit) (fun (s:Int×Int) v=>[.om 24 (bE (aL .i64)) fP x0.Found]) (fun s v=>[(4,.int .i64 (s.1)),(5,.int .i64 (s.2))]) () [(0,_),(1,_)]
  | apply Dk.loop 2 (V:=Value) (fun (s:Int×Int×Int×Int×Int×Bool×Int×(List (List Int))) v=>[.row dG [.int .i64 (s.2.1),cZ,dH,cO,cJ,.int .i64 (s.2.2.1),dA,dI,cP,cK,dR,dZ,.int .i64 (s.2.2.2.1),dB,dJ,cQ,cL,.int .i64 (s.2.2.2.2.1),dC,dK,cR,cM,dS,eA,.bool (s.2.2.2.2.2.1),.int .i64 (s.2.2.2.2.2.2.1),v] 185,.om 24 (bE (aL .i64)) v s.2.2.2.2.2.2.2]) (fun s v=>[(7,.int .i64 (s.1))]) _ [(0,_),(1,_),(4,_),(6,_)]
  | apply Dk.quiet (id:=11) (by kernel_rfl)
  | apply Dk.any (id:=8) 8 [0] [] [[],[],[1],[1,2],[1,2,3],[],[5],[5,6]] (by kernel_rfl)
  | apply ajf
  | apply xV
  | exact ()
theorem abl (n:Nat):∀ {x0:dD} {dG:Nat} {cZ dH cO cJ dA dI cP cK dR dZ dB dJ cQ cL dC dK cR cM dS eA fP:Value} {x1:(List Int)} {eB:Value},Ct Tryz.prog 154 false (kN n x0 x1) [.pointer (some (⟨dG,0,none⟩)),eB] [.row dG [.int .i64 (x0.F.aB.aA),cZ,dH,cO,cJ,.int .i64 (x0.F.aG.aA),dA,dI,cP,cK,dR,dZ,.int .i64 (x0.G.aB.aA),dB,dJ,cQ,cL,.int .i64 (x0.G.aG.aA),dC,dK,cR,cM,dS,eA,.bool (x0.AS),.int .i64 (x0.xN),fP] 185,rI cZ x0.F.aB.aE,rI dH x0.F.aB.To,rI cO x0.F.aB.aH,rJ cJ x0.F.aB.aC,rI dA x0.F.aG.aE,rI dI x0.F.aG.To,rI cP x0.F.aG.aH,rJ cK x0.F.aG.aC,rI dR x0.F.aA,rI dZ x0.F.ab,rI dB x0.G.aB.aE,rI dJ x0.G.aB.To,rI cQ x0.G.aB.aH,rJ cL x0.G.aB.aC,rI dC x0.G.aG.aE,rI dK x0.G.aG.To,rI cR x0.G.aG.aH,rJ cM x0.G.aG.aC,rI dS x0.G.aA,rI eA x0.G.ab,.om 24 (bE (aL .i64)) fP x0.Found,rI eB x1] (fun y (v:Value)=>[]) (fun y v=>[.row dG [.int .i64 y.F.aB.aA,cZ,dH,cO,cJ,.int .i64 y.F.aG.aA,dA,dI,cP,cK,dR,dZ,.int .i64 y.G.aB.aA,dB,dJ,cQ,cL,.int .i64 y.G.aG.aA,dC,dK,cR,cM,dS,eA,.bool y.AS,.int .i64 y.xN,v] 185,.om 24 (bE (aL .i64)) v y.Found]):=by
 induction n with
 | zero=>intros; rw [u5]; exact ⟨C4,fun _ _ _ _ _ _ _ y hy=>nomatch (show none=some y from hy)⟩
 | succ n ih=>exact abk ih
theorem ajg {x0:dD} {dG:Nat} {cZ dH cO cJ dA dI cP cK dR dZ dB dJ cQ cL dC dK cR cM dS eA fP:Value} {x1:(List Int)} {eB:Value}:Ct Tryz.prog 154 false (kN 64 x0 x1) [.pointer (some (⟨dG,0,none⟩)),eB] [.row dG [.int .i64 (x0.F.aB.aA),cZ,dH,cO,cJ,.int .i64 (x0.F.aG.aA),dA,dI,cP,cK,dR,dZ,.int .i64 (x0.G.aB.aA),dB,dJ,cQ,cL,.int .i64 (x0.G.aG.aA),dC,dK,cR,cM,dS,eA,.bool (x0.AS),.int .i64 (x0.xN),fP] 185,rI cZ x0.F.aB.aE,rI dH x0.F.aB.To,rI cO x0.F.aB.aH,rJ cJ x0.F.aB.aC,rI dA x0.F.aG.aE,rI dI x0.F.aG.To,rI cP x0.F.aG.aH,rJ cK x0.F.aG.aC,rI dR x0.F.aA,rI dZ x0.F.ab,rI dB x0.G.aB.aE,rI dJ x0.G.aB.To,rI cQ x0.G.aB.aH,rJ cL x0.G.aB.aC,rI dC x0.G.aG.aE,rI dK x0.G.aG.To,rI cR x0.G.aG.aH,rJ cM x0.G.aG.aC,rI dS x0.G.aA,rI eA x0.G.ab,.om 24 (bE (aL .i64)) fP x0.Found,rI eB x1] (fun y (v:Value)=>[]) (fun y v=>[.row dG [.int .i64 y.F.aB.aA,cZ,dH,cO,cJ,.int .i64 y.F.aG.aA,dA,dI,cP,cK,dR,dZ,.int .i64 y.G.aB.aA,dB,dJ,cQ,cL,.int .i64 y.G.aG.aA,dC,dK,cR,cM,dS,eA,.bool y.AS,.int .i64 y.xN,v] 185,.om 24 (bE (aL .i64)) v y.Found]):=by
 exact abl 64
theorem ajh {x0:aP} {bG bN aV aR bH bP aW aS bV cA:Value} {x1:aP} {cW dE cH cC cX dF cI cD dQ dU:Value} {x2:Bool} {x3:Int}:Ct Tryz.prog 140 false (rK x0 x1 x2 x3) [.agg #[.int .i64 (x0.aB.aA),bG,bN,aV,aR,.int .i64 (x0.aG.aA),bH,bP,aW,aS,bV,cA],.agg #[.int .i64 (x1.aB.aA),cW,dE,cH,cC,.int .i64 (x1.aG.aA),cX,dF,cI,cD,dQ,dU],.bool (x2),.int .i64 (x3)] [rI bG x0.aB.aE,rI bN x0.aB.To,rI aV x0.aB.aH,rJ aR x0.aB.aC,rI bH x0.aG.aE,rI bP x0.aG.To,rI aW x0.aG.aH,rJ aS x0.aG.aC,rI bV x0.aA,rI cA x0.ab,rI cW x1.aB.aE,rI dE x1.aB.To,rI cH x1.aB.aH,rJ cC x1.aB.aC,rI cX x1.aG.aE,rI dF x1.aG.To,rI cI x1.aG.aH,rJ cD x1.aG.aC,rI dQ x1.aA,rI dU x1.ab] (fun y (v:Value)=>[v]) (fun y v=>[rJ v y]):=by
 refine ct (S:=Unit) C4 Tryz.func140 rfl rfl ?_
 repeat' first
  | (apply Dk.fe; repeat' first | exact rfl | (refine @id.{0} _ ?_; constructor))
  | intro _
  | exact rfl
  | apply Dk.xM (d:=40)
  | (refine Dk.uo (t:=61) rfl ?_ ?_)
  | (refine @id.{0} _ ?_; constructor)
  | apply Dk.loop 0 (V:=Value) (fun (s:(List (List Int))×Int) v=>[.own (aI 24 (aI 2 (aL .i64))) v s.1]) (fun s v=>[(10,v),(11,.int .i64 (s.2))]) _ [(2,_),(3,_),(4,_),(5,_),(9,_)]
  | apply Dk.loop 2 (V:=Value) (fun (s:(List Int)×Int) v=>[.own (aI 2 (aL .i64)) v s.1]) (fun s v=>[(13,v),(14,.int .i64 (s.2))]) _ [(2,_),(3,_),(4,_),(5,_),(12,_)]
  | apply Dk.loop 4 (V:=Value) (fun (s:(List Int)×Int) v=>[.own (aI 2 (aL .i64)) v s.1]) (fun s v=>[(15,v),(16,.int .i64 (s.2))]) _ [(2,_),(3,_),(4,_),(5,_),(12,_),(13,_),(14,_)]
  | apply Dk.Vh (id:=6) [(0,11)] 11 rfl (by kernel_rfl)
  | apply aje
  | apply ajg
  | exact ()
theorem c28 {x0:aJ} {dG:Nat} {cB:Value} {x1:Int}:Ct Tryz.prog 28 true (iA x0 x1) [.pointer (some (⟨dG,0,none⟩)),.int .i64 (x1)] [.row dG [cB,.int .i64 (x0.At),.int .u64 (x0.an)] 91,.rd false (bE (aL .u8)) cB x0.Code] (fun y (_:Unit)=>[.int .i64 y.1]) (fun y _=>[.row dG [cB,.int .i64 y.2.At,.int .u64 y.2.an] 91]):=by
 refine ct (S:=Unit) (bu fun _ _=>rfl) Tryz.func28 rfl rfl ?_
 repeat' first
  | (apply Dk.fe; repeat' first | exact rfl | (refine @id.{0} _ ?_; constructor))
  | intro _
  | exact rfl
  | (refine @id.{0} _ ?_; constructor)
  | apply Bo
  | apply c58
  | exact ()
theorem c93 {x0:aP} {dM:Addr} {bG bN aV aR bH bP aW aS bV cA:Value}:Ct Tryz.prog 93 true (mK x0) [.pointer (some (dM))] [.bc dM [.int .i64 (x0.aB.aA),bG,bN,aV,aR,.int .i64 (x0.aG.aA),bH,bP,aW,aS,bV,cA],rI bG x0.aB.aE,rI bN x0.aB.To,rI aV x0.aB.aH,rJ aR x0.aB.aC,rI bH x0.aG.aE,rI bP x0.aG.To,rI aW x0.aG.aH,rJ aS x0.aG.aC,rI bV x0.aA,rI cA x0.ab] (fun y (_:Unit)=>[.bool y]) (fun y _=>[]):=by
 refine ct (S:=Unit) (bu fun _ _=>rfl) Tryz.func93 rfl rfl ?_
 repeat' first
  | (apply Dk.fe; repeat' first | exact rfl | (refine @id.{0} _ ?_; constructor))
  | intro _
  | exact rfl
  | (refine @id.{0} _ ?_; constructor)
  | apply Dk.loop 0 (V:=Unit) (fun (s:Int) v=>[]) (fun s v=>[(66,.int .i64 (s))]) () [(0,_),(3,_),(4,_),(64,_),(65,_)]
  | apply Dk.loop 2 (V:=Unit) (fun (s:Int) v=>[]) (fun s v=>[(121,.int .i64 (s))]) () [(0,_),(3,_),(4,_),(119,_),(120,_)]
  | apply Dk.loop 4 (V:=Unit) (fun (s:Int) v=>[]) (fun s v=>[(153,.int .i64 (s))]) () [(0,_),(4,_),(151,_),(152,_)]
  | apply Dk.loop 6 (V:=Unit) (fun (s:Int) v=>[]) (fun s v=>[(160,.int .i64 (s))]) () [(0,_),(4,_),(9,_),(151,_),(152,_),(153,_),(158,_),(159,_)]
  | apply Dk.quiet (id:=1) (by kernel_rfl)
  | apply Dk.quiet (id:=2) (by kernel_rfl)
  | apply Dk.quiet (id:=7) (by kernel_rfl)
  | apply Dk.quiet (id:=13) (by kernel_rfl)
  | apply Dk.quiet (id:=22) (by kernel_rfl)
  | apply LS
  | apply VW
  | apply Ro
  | exact ()
theorem c66 {x0:aF} {dM:Addr} {aQ bC aO aN:Value} {x1:aF} {rW:Addr} {bW cF bF aZ:Value}:Ct Tryz.prog 66 true (jA x0 x1) [.pointer (some (dM)),.pointer (some (rW))] [.bc rW [.int .i64 (x1.aA),bW,cF,bF,aZ],.bc dM [.int .i64 (x0.aA),aQ,bC,aO,aN],rI aQ x0.aE,rI bC x0.To,rI aO x0.aH,rJ aN x0.aC,rI bW x1.aE,rI cF x1.To,rI bF x1.aH,rJ aZ x1.aC] (fun y (_:Unit)=>[.bool y]) (fun y _=>[]):=by
 refine ct (S:=Unit) (bu fun _ _=>rfl) Tryz.func66 rfl rfl ?_
 repeat' first
  | (apply Dk.fe; repeat' first | exact rfl | (refine @id.{0} _ ?_; constructor))
  | intro _
  | exact rfl
  | (refine @id.{0} _ ?_; constructor)
  | apply Dk.loop 0 (V:=Unit) (fun (s:Int) v=>[]) (fun s v=>[(69,.int .i64 (s))]) () [(0,_),(1,_),(68,_)]
  | apply Dk.quiet (id:=1) (by kernel_rfl)
  | apply Dk.quiet (id:=6) (by kernel_rfl)
  | apply c94
  | exact ()
theorem aji {x0:aP} {dM:Addr} {bG bN aV aR bH bP aW aS bV cA:Value} {x1:aP} {rW:Addr} {cW dE cH cC cX dF cI cD dQ dU:Value}:Ct Tryz.prog 149 true (kB x0 x1) [.pointer (some (dM)),.pointer (some (rW))] [.bc rW [.int .i64 (x1.aB.aA),cW,dE,cH,cC,.int .i64 (x1.aG.aA),cX,dF,cI,cD,dQ,dU],.bc dM [.int .i64 (x0.aB.aA),bG,bN,aV,aR,.int .i64 (x0.aG.aA),bH,bP,aW,aS,bV,cA],rI bG x0.aB.aE,rI bN x0.aB.To,rI aV x0.aB.aH,rJ aR x0.aB.aC,rI bH x0.aG.aE,rI bP x0.aG.To,rI aW x0.aG.aH,rJ aS x0.aG.aC,rI bV x0.aA,rI cA x0.ab,rI cW x1.aB.aE,rI dE x1.aB.To,rI cH x1.aB.aH,rJ cC x1.aB.aC,rI cX x1.aG.aE,rI dF x1.aG.To,rI cI x1.aG.aH,rJ cD x1.aG.aC,rI dQ x1.aA,rI dU x1.ab] (fun y (_:Unit)=>[.bool y]) (fun y _=>[]):=by
 refine ct (S:=Unit) (bu fun _ _=>rfl) Tryz.func149 rfl rfl ?_
 repeat' first
  | (apply Dk.fe; repeat' first | exact rfl | (refine @id.{0} _ ?_; constructor))
  | intro _
  | exact rfl
  | (refine @id.{0} _ ?_; constructor)
  | apply Dk.quiet (id:=1) (by kernel_rfl)
  | apply c66
  | exact ()
end Go.Proofs.YtilhlobfebngdaaGreat
