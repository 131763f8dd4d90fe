/- Walks by the calculus D. No condition beside those that each theorem names. -/
import Derived.Test.YtcnehblmgfbfoaaGreatDp
import Derived.Test.YtcnehblmgfbfoaaGreatDi
import Derived.Test.YtcnehblmgfbfoaaGreatMo
import Derived.Test.YtcnehblmgfbfoaaGreatDs
import Derived.Test.YtcnehblmgfbfoaaGreatWa
import Derived.Test.YtcnehblmgfbfoaaGreatWc
import Derived.Test.YtcnehblmgfbfoaaGreatWd
import Derived.Test.YtcnehblmgfbfoaaGreatWe
import Derived.Test.YtcnehblmgfbfoaaGreatWg
namespace Go.Proofs.YtcnehblmgfbfoaaGreat
open Go Go.Li Go.Dk
set_option linter.unusedVariables false
set_option maxHeartbeats 16000000
set_option maxRecDepth 100000
theorem agx {x0:cI} {cU:Addr} {cP cV bZ bT dH dA cQ cW cA bU dI dB dW:Value} {x1:(List (List Int))} {dG:Value} {x2:Int} {x3:Int}:Ct Tryz.prog 285 true (jP x0 x1 x2 x3) [.pointer (some (cU)),dG,.int .i64 (x2),.int .i64 (x3)] [.au cU [.int .i64 (x0.F.aC.aD),cP,cV,bZ,bT,dH,dA,.int .i64 (x0.G.aC.aD),cQ,cW,cA,bU,dI,dB,.bool (x0.pg),.int .i64 (x0.nz),dW],rI cP x0.F.aC.aG,rI cV x0.F.aC.To,rI bZ x0.F.aC.aI,rJ bT x0.F.aC.aB,rI dH x0.F.aP,rJ dA x0.F.aO,rI cQ x0.G.aC.aG,rI cW x0.G.aC.To,rI cA x0.G.aC.aI,rJ bU x0.G.aC.aB,rI dI x0.G.aP,rJ dB x0.G.aO,.rd false (aV (aV (aV (aN .i64)))) dW x0.Found,rJ dG x1] (fun y (v:Value)=>[v]) (fun y v=>[.own (aJ 2 (aN .i64)) v y]):=by
 refine ct (S:=Unit) (bx fun _ _=>rfl) Tryz.func285 rfl rfl ?_
 repeat' first
  | (apply Dk.fe; repeat' first | exact rfl | (refine @id.{0} _ ?_; constructor))
  | intro _
  | exact rfl
  | (refine @id.{0} _ ?_; constructor)
  | apply Dk.loop 0 (V:=Value) (fun (s:(List Int)×Int) v=>[.own (aJ 2 (aN .i64)) v s.1]) (fun s v=>[(9,v),(10,.int .i64 (s.2))]) _ [(0,_),(1,_),(2,_),(3,_)]
  | apply Zd
  | exact ()
theorem Zu {rc:cI→(List (List Int))→Option (cI)} (ih:∀ {x0:cI} {cX:Nat} {cP cV bZ bT dH dA cQ cW cA bU dI dB dW:Value} {x1:(List (List Int))} {dG:Value},Ct Tryz.prog 269 false (rc x0 x1) [.pointer (some (⟨cX,0,none⟩)),dG] [.row cX [.int .i64 (x0.F.aC.aD),cP,cV,bZ,bT,dH,dA,.int .i64 (x0.G.aC.aD),cQ,cW,cA,bU,dI,dB,.bool (x0.pg),.int .i64 (x0.nz),dW] 276,rI cP x0.F.aC.aG,rI cV x0.F.aC.To,rI bZ x0.F.aC.aI,rJ bT x0.F.aC.aB,rI dH x0.F.aP,rJ dA x0.F.aO,rI cQ x0.G.aC.aG,rI cW x0.G.aC.To,rI cA x0.G.aC.aI,rJ bU x0.G.aC.aB,rI dI x0.G.aP,rJ dB x0.G.aO,.om 23 (aV (aV (aN .i64))) dW x0.Found,rJ dG x1] (fun y (v:Value)=>[]) (fun y v=>[.row cX [.int .i64 y.F.aC.aD,cP,cV,bZ,bT,dH,dA,.int .i64 y.G.aC.aD,cQ,cW,cA,bU,dI,dB,.bool y.pg,.int .i64 y.nz,v] 276,.om 23 (aV (aV (aN .i64))) v y.Found])) {x0:cI} {cX:Nat} {cP cV bZ bT dH dA cQ cW cA bU dI dB dW:Value} {x1:(List (List Int))} {dG:Value}:Ct Tryz.prog 269 false (pL rc x0 x1) [.pointer (some (⟨cX,0,none⟩)),dG] [.row cX [.int .i64 (x0.F.aC.aD),cP,cV,bZ,bT,dH,dA,.int .i64 (x0.G.aC.aD),cQ,cW,cA,bU,dI,dB,.bool (x0.pg),.int .i64 (x0.nz),dW] 276,rI cP x0.F.aC.aG,rI cV x0.F.aC.To,rI bZ x0.F.aC.aI,rJ bT x0.F.aC.aB,rI dH x0.F.aP,rJ dA x0.F.aO,rI cQ x0.G.aC.aG,rI cW x0.G.aC.To,rI cA x0.G.aC.aI,rJ bU x0.G.aC.aB,rI dI x0.G.aP,rJ dB x0.G.aO,.om 23 (aV (aV (aN .i64))) dW x0.Found,rJ dG x1] (fun y (v:Value)=>[]) (fun y v=>[.row cX [.int .i64 y.F.aC.aD,cP,cV,bZ,bT,dH,dA,.int .i64 y.G.aC.aD,cQ,cW,cA,bU,dI,dB,.bool y.pg,.int .i64 y.nz,v] 276,.om 23 (aV (aV (aN .i64))) v y.Found]):=by
 refine ctv zR Tryz.func269 rfl rfl ?_
 repeat' first
  | (apply Dk.fe; repeat' first | exact rfl | (refine @id.{0} _ ?_; constructor))
  | intro _
  | exact rfl
  | (refine @id.{0} _ ?_; constructor)
  | apply ih
  | apply Dk.loop 0 (V:=Unit) (fun (s:Int×Int×Int) v=>[.om 23 (aV (aV (aN .i64))) dW x0.Found]) (fun s v=>[(4,.int .i64 (s.1)),(5,.int .i64 (s.2.1)),(6,.int .i64 (s.2.2))]) () [(0,_),(1,_)]
  | apply Dk.loop 2 (V:=Unit) (fun (s:Int×Int×Int) v=>[.om 23 (aV (aV (aN .i64))) dW x0.Found]) (fun s v=>[(4,.int .i64 (s.1)),(5,.int .i64 (s.2.1)),(7,.int .i64 (s.2.2))]) () [(0,_),(1,_),(6,_)]
  | apply Dk.loop 4 (V:=Value) (fun (s:Int×Int×Int×Bool×Int×(List (List (List Int)))) v=>[.row cX [.int .i64 (s.2.1),cP,cV,bZ,bT,dH,dA,.int .i64 (s.2.2.1),cQ,cW,cA,bU,dI,dB,.bool (s.2.2.2.1),.int .i64 (s.2.2.2.2.1),v] 276,.om 23 (aV (aV (aN .i64))) v s.2.2.2.2.2]) (fun s v=>[(9,.int .i64 (s.1))]) _ [(0,_),(1,_),(4,_),(5,_),(8,_)]
  | apply Dk.quiet (id:=14) (by kernel_rfl)
  | apply agx
  | apply Zd
  | exact ()
theorem Zv (n:Nat):∀ {x0:cI} {cX:Nat} {cP cV bZ bT dH dA cQ cW cA bU dI dB dW:Value} {x1:(List (List Int))} {dG:Value},Ct Tryz.prog 269 false (kT n x0 x1) [.pointer (some (⟨cX,0,none⟩)),dG] [.row cX [.int .i64 (x0.F.aC.aD),cP,cV,bZ,bT,dH,dA,.int .i64 (x0.G.aC.aD),cQ,cW,cA,bU,dI,dB,.bool (x0.pg),.int .i64 (x0.nz),dW] 276,rI cP x0.F.aC.aG,rI cV x0.F.aC.To,rI bZ x0.F.aC.aI,rJ bT x0.F.aC.aB,rI dH x0.F.aP,rJ dA x0.F.aO,rI cQ x0.G.aC.aG,rI cW x0.G.aC.To,rI cA x0.G.aC.aI,rJ bU x0.G.aC.aB,rI dI x0.G.aP,rJ dB x0.G.aO,.om 23 (aV (aV (aN .i64))) dW x0.Found,rJ dG x1] (fun y (v:Value)=>[]) (fun y v=>[.row cX [.int .i64 y.F.aC.aD,cP,cV,bZ,bT,dH,dA,.int .i64 y.G.aC.aD,cQ,cW,cA,bU,dI,dB,.bool y.pg,.int .i64 y.nz,v] 276,.om 23 (aV (aV (aN .i64))) v y.Found]):=by
 induction n with
 | zero=>intros; rw [p9]; exact ⟨zR,fun _ _ _ _ _ _ _ y hy=>nomatch (show none=some y from hy)⟩
 | succ n ih=>exact Zu ih
theorem agy {x0:cI} {cX:Nat} {cP cV bZ bT dH dA cQ cW cA bU dI dB dW:Value} {x1:(List (List Int))} {dG:Value}:Ct Tryz.prog 269 false (kT 64 x0 x1) [.pointer (some (⟨cX,0,none⟩)),dG] [.row cX [.int .i64 (x0.F.aC.aD),cP,cV,bZ,bT,dH,dA,.int .i64 (x0.G.aC.aD),cQ,cW,cA,bU,dI,dB,.bool (x0.pg),.int .i64 (x0.nz),dW] 276,rI cP x0.F.aC.aG,rI cV x0.F.aC.To,rI bZ x0.F.aC.aI,rJ bT x0.F.aC.aB,rI dH x0.F.aP,rJ dA x0.F.aO,rI cQ x0.G.aC.aG,rI cW x0.G.aC.To,rI cA x0.G.aC.aI,rJ bU x0.G.aC.aB,rI dI x0.G.aP,rJ dB x0.G.aO,.om 23 (aV (aV (aN .i64))) dW x0.Found,rJ dG x1] (fun y (v:Value)=>[]) (fun y v=>[.row cX [.int .i64 y.F.aC.aD,cP,cV,bZ,bT,dH,dA,.int .i64 y.G.aC.aD,cQ,cW,cA,bU,dI,dB,.bool y.pg,.int .i64 y.nz,v] 276,.om 23 (aV (aV (aN .i64))) v y.Found]):=by
 exact Zv 64
theorem Zw {x0:aH} {cU:Addr} {bA bJ aT aR:Value} {x1:aH} {rC:Addr} {dC dQ cL bY:Value} {x2:(List Int)} {kJ:Value} {x3:(List Int)} {rN:Value}:Ct Tryz.prog 89 true (kH x0 x1 x2 x3) [.pointer (some (cU)),.pointer (some (rC)),kJ,rN] [.au rC [.int .i64 (x1.aD),dC,dQ,cL,bY],.au cU [.int .i64 (x0.aD),bA,bJ,aT,aR],rI bA x0.aG,rI bJ x0.To,rI aT x0.aI,rJ aR x0.aB,rI dC x1.aG,rI dQ x1.To,rI cL x1.aI,rJ bY x1.aB,rI kJ x2,rI rN x3] (fun y (v:Value×Value×Value×Value×Value×Value×Value×Value×Value×Value)=>[.agg #[.int .i64 y.aF.aD,v.1,v.2.1,v.2.2.1,v.2.2.2.1,.int .i64 y.aM.aD,v.2.2.2.2.1,v.2.2.2.2.2.1,v.2.2.2.2.2.2.1,v.2.2.2.2.2.2.2.1,v.2.2.2.2.2.2.2.2.1,v.2.2.2.2.2.2.2.2.2]]) (fun y v=>[.own (aJ 2 (aN .i64)) v.1 y.aF.aG,.own (aJ 2 (aN .i64)) v.2.1 y.aF.To,.own (aJ 2 (aN .i64)) v.2.2.1 y.aF.aI,.own (aJ 22 (aJ 2 (aN .i64))) v.2.2.2.1 y.aF.aB,.own (aJ 2 (aN .i64)) v.2.2.2.2.1 y.aM.aG,.own (aJ 2 (aN .i64)) v.2.2.2.2.2.1 y.aM.To,.own (aJ 2 (aN .i64)) v.2.2.2.2.2.2.1 y.aM.aI,.own (aJ 22 (aJ 2 (aN .i64))) v.2.2.2.2.2.2.2.1 y.aM.aB,.own (aJ 2 (aN .i64)) v.2.2.2.2.2.2.2.2.1 y.aD,.own (aJ 2 (aN .i64)) v.2.2.2.2.2.2.2.2.2 y.bc]):=by
 refine ct (S:=Unit) (bx fun _ _=>rfl) Tryz.func89 rfl rfl ?_
 repeat' first
  | (apply Dk.fe; repeat' first | exact rfl | (refine @id.{0} _ ?_; constructor))
  | intro _
  | exact rfl
  | (refine @id.{0} _ ?_; constructor)
  | apply af0
  | apply Y6
  | exact ()
theorem c59 {x0:aH} {bA bJ aT aR:Value} {x1:aH} {dC dQ cL bY:Value} {x2:(List Int)} {kJ:Value} {x3:(List Int)} {rN:Value}:Ct Tryz.prog 59 true (pN x0 x1 x2 x3) [.agg #[.int .i64 (x0.aD),bA,bJ,aT,aR],.agg #[.int .i64 (x1.aD),dC,dQ,cL,bY],kJ,rN] [rI bA x0.aG,rI bJ x0.To,rI aT x0.aI,rJ aR x0.aB,rI dC x1.aG,rI dQ x1.To,rI cL x1.aI,rJ bY x1.aB,rI kJ x2,rI rN x3] (fun y (v:Value×Value×Value×Value×Value×Value×Value×Value×Value×Value)=>[.agg #[.int .i64 y.aF.aD,v.1,v.2.1,v.2.2.1,v.2.2.2.1,.int .i64 y.aM.aD,v.2.2.2.2.1,v.2.2.2.2.2.1,v.2.2.2.2.2.2.1,v.2.2.2.2.2.2.2.1,v.2.2.2.2.2.2.2.2.1,v.2.2.2.2.2.2.2.2.2]]) (fun y v=>[.own (aJ 2 (aN .i64)) v.1 y.aF.aG,.own (aJ 2 (aN .i64)) v.2.1 y.aF.To,.own (aJ 2 (aN .i64)) v.2.2.1 y.aF.aI,.own (aJ 22 (aJ 2 (aN .i64))) v.2.2.2.1 y.aF.aB,.own (aJ 2 (aN .i64)) v.2.2.2.2.1 y.aM.aG,.own (aJ 2 (aN .i64)) v.2.2.2.2.2.1 y.aM.To,.own (aJ 2 (aN .i64)) v.2.2.2.2.2.2.1 y.aM.aI,.own (aJ 22 (aJ 2 (aN .i64))) v.2.2.2.2.2.2.2.1 y.aM.aB,.own (aJ 2 (aN .i64)) v.2.2.2.2.2.2.2.2.1 y.aD,.own (aJ 2 (aN .i64)) v.2.2.2.2.2.2.2.2.2 y.bc]):=by
 refine ct (S:=Unit) (bx fun _ _=>rfl) Tryz.func59 rfl rfl ?_
 repeat' first
  | (apply Dk.fe; repeat' first | exact rfl | (refine @id.{0} _ ?_; constructor))
  | intro _
  | exact rfl
  | (refine @id.{0} _ ?_; constructor)
  | apply Dk.any (id:=1) 7 [] [] [[],[0],[],[0,1,2],[],[0,1,2,3,4],[]] (by kernel_rfl)
  | apply Ep
  | apply Eo
  | exact ()
theorem c99 {x0:aY} {cU:Addr} {cJ cS bR bK cK cT bS bL cZ dD:Value} {x1:aY} {rC:Addr} {eV fV eD dX eW fW eF dY hY iN:Value}:Ct Tryz.prog 99 true (jZ x0 x1) [.pointer (some (cU)),.pointer (some (rC))] [.au rC [.int .i64 (x1.aF.aD),eV,fV,eD,dX,.int .i64 (x1.aM.aD),eW,fW,eF,dY,hY,iN],.au cU [.int .i64 (x0.aF.aD),cJ,cS,bR,bK,.int .i64 (x0.aM.aD),cK,cT,bS,bL,cZ,dD],rI cJ x0.aF.aG,rI cS x0.aF.To,rI bR x0.aF.aI,rJ bK x0.aF.aB,rI cK x0.aM.aG,rI cT x0.aM.To,rI bS x0.aM.aI,rJ bL x0.aM.aB,rI cZ x0.aD,rI dD x0.bc,rI eV x1.aF.aG,rI fV x1.aF.To,rI eD x1.aF.aI,rJ dX x1.aF.aB,rI eW x1.aM.aG,rI fW x1.aM.To,rI eF x1.aM.aI,rJ dY x1.aM.aB,rI hY x1.aD,rI iN x1.bc] (fun y (v:Value×Value×Value×Value×Value×Value×Value×Value×Value×Value)=>[.agg #[.int .i64 y.aF.aD,v.1,v.2.1,v.2.2.1,v.2.2.2.1,.int .i64 y.aM.aD,v.2.2.2.2.1,v.2.2.2.2.2.1,v.2.2.2.2.2.2.1,v.2.2.2.2.2.2.2.1,v.2.2.2.2.2.2.2.2.1,v.2.2.2.2.2.2.2.2.2]]) (fun y v=>[.own (aJ 2 (aN .i64)) v.1 y.aF.aG,.own (aJ 2 (aN .i64)) v.2.1 y.aF.To,.own (aJ 2 (aN .i64)) v.2.2.1 y.aF.aI,.own (aJ 22 (aJ 2 (aN .i64))) v.2.2.2.1 y.aF.aB,.own (aJ 2 (aN .i64)) v.2.2.2.2.1 y.aM.aG,.own (aJ 2 (aN .i64)) v.2.2.2.2.2.1 y.aM.To,.own (aJ 2 (aN .i64)) v.2.2.2.2.2.2.1 y.aM.aI,.own (aJ 22 (aJ 2 (aN .i64))) v.2.2.2.2.2.2.2.1 y.aM.aB,.own (aJ 2 (aN .i64)) v.2.2.2.2.2.2.2.2.1 y.aD,.own (aJ 2 (aN .i64)) v.2.2.2.2.2.2.2.2.2 y.bc]):=by
 refine ct (S:=Unit) (bx fun _ _=>rfl) Tryz.func99 rfl rfl ?_
 repeat' first
  | (apply Dk.fe; repeat' first | exact rfl | (refine @id.{0} _ ?_; constructor))
  | intro _
  | exact rfl
  | (refine @id.{0} _ ?_; constructor)
  | apply Dk.any (id:=1) 24 [] [] [[],[0],[0,1],[],[3],[3,4],[],[6],[6,7],[6,7,8],[],[10],[10,11],[10,11,12],[6,7,8,9,10,11,12,13],[],[15],[15,16],[15,16,17],[],[19],[19,20],[19,20,21],[6,7,8,9,10,11,12,13,14,15,16,17,18,19,20,21,22]] (by kernel_rfl)
  | apply afF
  | apply Zw
  | exact ()
end Go.Proofs.YtcnehblmgfbfoaaGreat
