/- Walks by the calculus D. No condition beside those that each theorem names. -/
import Derived.Test.YtkhdhnpokfibjaaGreatDi
import Derived.Test.YtkhdhnpokfibjaaGreatMo
import Derived.Test.YtkhdhnpokfibjaaGreatDp
import Derived.Test.YtkhdhnpokfibjaaGreatDs
import Derived.Test.YtkhdhnpokfibjaaGreatWa
import Derived.Test.YtkhdhnpokfibjaaGreatWb
import Derived.Test.YtkhdhnpokfibjaaGreatWc
import Derived.Test.YtkhdhnpokfibjaaGreatWd
namespace Go.Proofs.YtkhdhnpokfibjaaGreat
open Go Go.Li Go.Dk
set_option linter.unusedVariables false
set_option maxHeartbeats 16000000
set_option maxRecDepth 100000
theorem c30 {x0:aI} {aV:Value} {bK:Value} {aP:Value} {aO:Value} {x1:aI} {cK:Value} {dA:Value} {bL:Value} {bB:Value}:Ct Tryz.prog 30 true (iN x0 x1) [.agg #[.int .i64 (x0.aD),aV,bK,aP,aO],.agg #[.int .i64 (x1.aD),cK,dA,bL,bB]] [.rd false (aE (aC .i64)) aV x0.aG,.rd false (aE (aC .i64)) bK x0.To,.rd false (aE (aC .i64)) aP x0.aJ,.rd false (aE (aE (aC .i64))) aO x0.aF,.rd false (aE (aC .i64)) cK x1.aG,.rd false (aE (aC .i64)) dA x1.To,.rd false (aE (aC .i64)) bL x1.aJ,.rd false (aE (aE (aC .i64))) bB x1.aF] (fun y (_:Unit)=>[.bool y]) (fun y _=>[]):=by
 refine ct (S:=Unit) (owt fun _ _=>rfl) Tryz.func30 rfl rfl ?_
 repeat' first
  | intro _
  | exact rfl
  | (refine Dk.rwU (t:=4) rfl ?_)
  | (refine @id.{0} _ ?_; constructor)
  | apply c67
  | exact ()
theorem c41 {x0:aI} {aV:Value} {bK:Value} {aP:Value} {aO:Value} {x1:aI} {cK:Value} {dA:Value} {bL:Value} {bB:Value}:Ct Tryz.prog 41 true (kH x0 x1) [.agg #[.int .i64 (x0.aD),aV,bK,aP,aO],.agg #[.int .i64 (x1.aD),cK,dA,bL,bB]] [.rd false (aE (aC .i64)) aV x0.aG,.rd false (aE (aC .i64)) bK x0.To,.rd false (aE (aC .i64)) aP x0.aJ,.rd false (aE (aE (aC .i64))) aO x0.aF,.rd false (aE (aC .i64)) cK x1.aG,.rd false (aE (aC .i64)) dA x1.To,.rd false (aE (aC .i64)) bL x1.aJ,.rd false (aE (aE (aC .i64))) bB x1.aF] (fun y (_:Unit)=>[.bool y]) (fun y _=>[]):=by
 refine ct (S:=Unit) (owt fun _ _=>rfl) Tryz.func41 rfl rfl ?_
 repeat' first
  | intro _
  | exact rfl
  | (refine @id.{0} _ ?_; constructor)
  | apply c76
  | apply c77
  | exact ()
theorem c59 {x0:aN} {aW:Value} {bC:Value} {aS:Value} {aQ:Value} {aY:Value} {bD:Value} {aT:Value} {aR:Value} {bS:Value} {bV:Value} {x1:aN} {bT:Value} {cE:Value} {bE:Value} {aZ:Value} {bU:Value} {cF:Value} {bF:Value} {bA:Value} {cN:Value} {cO:Value}:Ct Tryz.prog 59 true (jI x0 x1) [.agg #[.int .i64 (x0.aA.aD),aW,bC,aS,aQ,.int .i64 (x0.aB.aD),aY,bD,aT,aR,bS,bV],.agg #[.int .i64 (x1.aA.aD),bT,cE,bE,aZ,.int .i64 (x1.aB.aD),bU,cF,bF,bA,cN,cO]] [.rd false (aE (aC .i64)) aW x0.aA.aG,.rd false (aE (aC .i64)) bC x0.aA.To,.rd false (aE (aC .i64)) aS x0.aA.aJ,.rd false (aE (aE (aC .i64))) aQ x0.aA.aF,.rd false (aE (aC .i64)) aY x0.aB.aG,.rd false (aE (aC .i64)) bD x0.aB.To,.rd false (aE (aC .i64)) aT x0.aB.aJ,.rd false (aE (aE (aC .i64))) aR x0.aB.aF,.rd false (aE (aC .i64)) bS x0.aD,.rd false (aE (aC .i64)) bV x0.Arrows,.rd false (aE (aC .i64)) bT x1.aA.aG,.rd false (aE (aC .i64)) cE x1.aA.To,.rd false (aE (aC .i64)) bE x1.aA.aJ,.rd false (aE (aE (aC .i64))) aZ x1.aA.aF,.rd false (aE (aC .i64)) bU x1.aB.aG,.rd false (aE (aC .i64)) cF x1.aB.To,.rd false (aE (aC .i64)) bF x1.aB.aJ,.rd false (aE (aE (aC .i64))) bA x1.aB.aF,.rd false (aE (aC .i64)) cN x1.aD,.rd false (aE (aC .i64)) cO x1.Arrows] (fun y (_:Unit)=>[.bool y]) (fun y _=>[]):=by
 refine ct (S:=Unit) (owt fun _ _=>rfl) Tryz.func59 rfl rfl ?_
 repeat' first
  | intro _
  | exact rfl
  | (refine @id.{0} _ ?_; constructor)
  | apply c41
  | exact ()
theorem c91 {x0:Int} {x1:(List (List Int))} {eV:Value}:Ct Tryz.prog 91 true (oI x0 x1) [.int .i64 (x0),eV] [.rd false (aE (aE (aC .i64))) eV x1] (fun y (v:Value)=>[v]) (fun y v=>[.own (aK 2 (aC .i64)) v y]):=by
 refine ct (S:=Unit) (owt fun _ _=>rfl) Tryz.func91 rfl rfl ?_
 repeat' first
  | intro _
  | exact rfl
  | (refine @id.{0} _ ?_; constructor)
  | apply Dk.loop 0 (V:=Value) (fun (s:(List Int)×Int) v=>[.own (aK 2 (aC .i64)) v s.1]) (fun s v=>[(5,v),(6,.int .i64 (s.2))]) _ [(0,_),(1,_)]
  | apply Dk.loopA 2 (V:=Unit) (A:=Value) _ (fun a (s:Int×(List Int)) v=>[.own (aK 2 (aC .i64)) a s.2]) (fun a s v=>[(5,a),(7,.int .i64 (s.1))]) () [(1,_)]
  | apply Dk.loopA 4 (V:=Unit) (A:=Value) _ (fun a (s:Int×(List Int)) v=>[.own (aK 2 (aC .i64)) a s.2]) (fun a s v=>[(5,a),(10,.int .i64 (s.1))]) () [(1,_),(7,_),(8,_),(9,_)]
  | apply Dk.quiet (id:=9) (by kernel_rfl)
  | apply c119
  | exact ()
theorem c120 {x0:dY} {eR:Addr} {dU:Value} {eE:Value} {dG:Value} {dB:Value} {dV:Value} {eG:Value} {dH:Value} {dC:Value} {eM:Value} {eS:Value} {dW:Value} {eH:Value} {dI:Value} {dD:Value} {dX:Value} {eI:Value} {dJ:Value} {dE:Value} {eN:Value} {eU:Value} {fJ:Value} {x1:(List Int)} {eV:Value} {x2:Int}:Ct Tryz.prog 120 true (jQ x0 x1 x2) [.pointer (some (eR)),eV,.int .i64 (x2)] [.ats eR [.int .i64 (x0.F.aA.aD),dU,eE,dG,dB,.int .i64 (x0.F.aB.aD),dV,eG,dH,dC,eM,eS,.int .i64 (x0.G.aA.aD),dW,eH,dI,dD,.int .i64 (x0.G.aB.aD),dX,eI,dJ,dE,eN,eU,.bool (x0.Iso),.int .i64 (x0.Most),fJ],.rd false (aE (aC .i64)) dU x0.F.aA.aG,.rd false (aE (aC .i64)) eE x0.F.aA.To,.rd false (aE (aC .i64)) dG x0.F.aA.aJ,.rd false (aE (aE (aC .i64))) dB x0.F.aA.aF,.rd false (aE (aC .i64)) dV x0.F.aB.aG,.rd false (aE (aC .i64)) eG x0.F.aB.To,.rd false (aE (aC .i64)) dH x0.F.aB.aJ,.rd false (aE (aE (aC .i64))) dC x0.F.aB.aF,.rd false (aE (aC .i64)) eM x0.F.aD,.rd false (aE (aC .i64)) eS x0.F.Arrows,.rd false (aE (aC .i64)) dW x0.G.aA.aG,.rd false (aE (aC .i64)) eH x0.G.aA.To,.rd false (aE (aC .i64)) dI x0.G.aA.aJ,.rd false (aE (aE (aC .i64))) dD x0.G.aA.aF,.rd false (aE (aC .i64)) dX x0.G.aB.aG,.rd false (aE (aC .i64)) eI x0.G.aB.To,.rd false (aE (aC .i64)) dJ x0.G.aB.aJ,.rd false (aE (aE (aC .i64))) dE x0.G.aB.aF,.rd false (aE (aC .i64)) eN x0.G.aD,.rd false (aE (aC .i64)) eU x0.G.Arrows,.rd false (aE (aE (aC .i64))) fJ x0.Found,.rd false (aE (aC .i64)) eV x1] (fun y (v:Value)=>[v]) (fun y v=>[.own (aK 2 (aC .i64)) v y]):=by
 refine ct (S:=Unit) (owt fun _ _=>rfl) Tryz.func120 rfl rfl ?_
 repeat' first
  | intro _
  | exact rfl
  | (refine @id.{0} _ ?_; constructor)
  | apply Dk.loop 0 (V:=Value) (fun (s:(List Int)×Int) v=>[.own (aK 2 (aC .i64)) v s.1]) (fun s v=>[(10,v),(11,.int .i64 (s.2))]) _ [(0,_),(1,_),(2,_),(7,_),(8,_),(9,_)]
  | apply Dk.loop 2 (V:=Unit) (fun (s:Bool×Int) v=>[]) (fun s v=>[(13,.bool (s.1)),(14,.int .i64 (s.2))]) () [(0,_),(1,_),(2,_),(7,_),(8,_),(9,_),(10,_),(11,_),(12,_)]
  | apply Dk.quiet (id:=7) (by kernel_rfl)
  | apply Dk.quiet (id:=14) (by kernel_rfl)
  | apply Dk.quiet (id:=15) (by kernel_rfl)
  | apply Dk.any (id:=1) 13 [] [[],[],[],[],[],[],[],[],[],[],[],[],[10]] [[],[0],[1,0],[2,1,0],[3,2,1,0],[],[5],[6,5],[7,6,5],[8,7,6,5],[],[],[10,4,3,2,1,0,0,1,0,2,1,0,3,2,1,0,4,3,2,1,0,10,11]] (by kernel_rfl)
  | apply Dk.any (id:=2) 17 [] [] [[],[],[1],[2,1],[3,2,1],[4,3,2,1],[],[5,4,3,2,1,6],[7,5,4,3,2,1,6],[],[9],[10,9],[11,10,9],[12,11,10,9],[],[13,12,11,10,9,14],[15,13,12,11,10,9,14]] (by kernel_rfl)
  | apply c131
  | apply c138
  | apply c60
  | apply c100
  | exact ()
theorem c92_s {rc:dY→(List Int)→Option (dY)} (ih:∀ {x0:dY} {eP:Nat} {dU:Value} {eE:Value} {dG:Value} {dB:Value} {dV:Value} {eG:Value} {dH:Value} {dC:Value} {eM:Value} {eS:Value} {dW:Value} {eH:Value} {dI:Value} {dD:Value} {dX:Value} {eI:Value} {dJ:Value} {dE:Value} {eN:Value} {eU:Value} {fJ:Value} {x1:(List Int)} {eV:Value},Ct Tryz.prog 92 false (rc x0 x1) [.pointer (some (⟨eP,0,none⟩)),eV] [.row eP [.int .i64 (x0.F.aA.aD),dU,eE,dG,dB,.int .i64 (x0.F.aB.aD),dV,eG,dH,dC,eM,eS,.int .i64 (x0.G.aA.aD),dW,eH,dI,dD,.int .i64 (x0.G.aB.aD),dX,eI,dJ,dE,eN,eU,.bool (x0.Iso),.int .i64 (x0.Most),fJ] 115,.rd false (aE (aC .i64)) dU x0.F.aA.aG,.rd false (aE (aC .i64)) eE x0.F.aA.To,.rd false (aE (aC .i64)) dG x0.F.aA.aJ,.rd false (aE (aE (aC .i64))) dB x0.F.aA.aF,.rd false (aE (aC .i64)) dV x0.F.aB.aG,.rd false (aE (aC .i64)) eG x0.F.aB.To,.rd false (aE (aC .i64)) dH x0.F.aB.aJ,.rd false (aE (aE (aC .i64))) dC x0.F.aB.aF,.rd false (aE (aC .i64)) eM x0.F.aD,.rd false (aE (aC .i64)) eS x0.F.Arrows,.rd false (aE (aC .i64)) dW x0.G.aA.aG,.rd false (aE (aC .i64)) eH x0.G.aA.To,.rd false (aE (aC .i64)) dI x0.G.aA.aJ,.rd false (aE (aE (aC .i64))) dD x0.G.aA.aF,.rd false (aE (aC .i64)) dX x0.G.aB.aG,.rd false (aE (aC .i64)) eI x0.G.aB.To,.rd false (aE (aC .i64)) dJ x0.G.aB.aJ,.rd false (aE (aE (aC .i64))) dE x0.G.aB.aF,.rd false (aE (aC .i64)) eN x0.G.aD,.rd false (aE (aC .i64)) eU x0.G.Arrows,.om 24 (aE (aC .i64)) fJ x0.Found,.rd false (aE (aC .i64)) eV x1] (fun y (v:Value)=>[]) (fun y v=>[.row eP [.int .i64 y.F.aA.aD,dU,eE,dG,dB,.int .i64 y.F.aB.aD,dV,eG,dH,dC,eM,eS,.int .i64 y.G.aA.aD,dW,eH,dI,dD,.int .i64 y.G.aB.aD,dX,eI,dJ,dE,eN,eU,.bool y.Iso,.int .i64 y.Most,v] 115,.om 24 (aE (aC .i64)) v y.Found])) {x0:dY} {eP:Nat} {dU:Value} {eE:Value} {dG:Value} {dB:Value} {dV:Value} {eG:Value} {dH:Value} {dC:Value} {eM:Value} {eS:Value} {dW:Value} {eH:Value} {dI:Value} {dD:Value} {dX:Value} {eI:Value} {dJ:Value} {dE:Value} {eN:Value} {eU:Value} {fJ:Value} {x1:(List Int)} {eV:Value}:Ct Tryz.prog 92 false (oJ rc x0 x1) [.pointer (some (⟨eP,0,none⟩)),eV] [.row eP [.int .i64 (x0.F.aA.aD),dU,eE,dG,dB,.int .i64 (x0.F.aB.aD),dV,eG,dH,dC,eM,eS,.int .i64 (x0.G.aA.aD),dW,eH,dI,dD,.int .i64 (x0.G.aB.aD),dX,eI,dJ,dE,eN,eU,.bool (x0.Iso),.int .i64 (x0.Most),fJ] 115,.rd false (aE (aC .i64)) dU x0.F.aA.aG,.rd false (aE (aC .i64)) eE x0.F.aA.To,.rd false (aE (aC .i64)) dG x0.F.aA.aJ,.rd false (aE (aE (aC .i64))) dB x0.F.aA.aF,.rd false (aE (aC .i64)) dV x0.F.aB.aG,.rd false (aE (aC .i64)) eG x0.F.aB.To,.rd false (aE (aC .i64)) dH x0.F.aB.aJ,.rd false (aE (aE (aC .i64))) dC x0.F.aB.aF,.rd false (aE (aC .i64)) eM x0.F.aD,.rd false (aE (aC .i64)) eS x0.F.Arrows,.rd false (aE (aC .i64)) dW x0.G.aA.aG,.rd false (aE (aC .i64)) eH x0.G.aA.To,.rd false (aE (aC .i64)) dI x0.G.aA.aJ,.rd false (aE (aE (aC .i64))) dD x0.G.aA.aF,.rd false (aE (aC .i64)) dX x0.G.aB.aG,.rd false (aE (aC .i64)) eI x0.G.aB.To,.rd false (aE (aC .i64)) dJ x0.G.aB.aJ,.rd false (aE (aE (aC .i64))) dE x0.G.aB.aF,.rd false (aE (aC .i64)) eN x0.G.aD,.rd false (aE (aC .i64)) eU x0.G.Arrows,.om 24 (aE (aC .i64)) fJ x0.Found,.rd false (aE (aC .i64)) eV x1] (fun y (v:Value)=>[]) (fun y v=>[.row eP [.int .i64 y.F.aA.aD,dU,eE,dG,dB,.int .i64 y.F.aB.aD,dV,eG,dH,dC,eM,eS,.int .i64 y.G.aA.aD,dW,eH,dI,dD,.int .i64 y.G.aB.aD,dX,eI,dJ,dE,eN,eU,.bool y.Iso,.int .i64 y.Most,v] 115,.om 24 (aE (aC .i64)) v y.Found]):=by
 refine ctv owf Tryz.func92 rfl rfl ?_
 repeat' first
  | intro _
  | exact rfl
  | apply Dk.apsF (d:=38)
  | apply ih
  | (refine @id.{0} _ ?_; constructor)
  | apply Dk.loop 0 (V:=Unit) (fun (s:Int×Int) v=>[.om 24 (aE (aC .i64)) fJ x0.Found]) (fun s v=>[(4,.int .i64 (s.1)),(5,.int .i64 (s.2))]) () [(0,_),(1,_)]
  | apply Dk.loop 2 (V:=Value) (fun (s:Int×Int×Int×Int×Int×Bool×Int×(List (List Int))) v=>[.row eP [.int .i64 (s.2.1),dU,eE,dG,dB,.int .i64 (s.2.2.1),dV,eG,dH,dC,eM,eS,.int .i64 (s.2.2.2.1),dW,eH,dI,dD,.int .i64 (s.2.2.2.2.1),dX,eI,dJ,dE,eN,eU,.bool (s.2.2.2.2.2.1),.int .i64 (s.2.2.2.2.2.2.1),v] 115,.om 24 (aE (aC .i64)) v s.2.2.2.2.2.2.2]) (fun s v=>[(7,.int .i64 (s.1))]) _ [(0,_),(1,_),(4,_),(6,_)]
  | apply Dk.quiet (id:=11) (by kernel_rfl)
  | apply Dk.any (id:=8) 8 [0] [] [[],[],[1],[2,1],[3,2,1],[],[5],[6,5]] (by kernel_rfl)
  | apply c120
  | apply c60
  | exact ()
theorem c92_n (n:Nat):∀ {x0:dY} {eP:Nat} {dU:Value} {eE:Value} {dG:Value} {dB:Value} {dV:Value} {eG:Value} {dH:Value} {dC:Value} {eM:Value} {eS:Value} {dW:Value} {eH:Value} {dI:Value} {dD:Value} {dX:Value} {eI:Value} {dJ:Value} {dE:Value} {eN:Value} {eU:Value} {fJ:Value} {x1:(List Int)} {eV:Value},Ct Tryz.prog 92 false (iQ n x0 x1) [.pointer (some (⟨eP,0,none⟩)),eV] [.row eP [.int .i64 (x0.F.aA.aD),dU,eE,dG,dB,.int .i64 (x0.F.aB.aD),dV,eG,dH,dC,eM,eS,.int .i64 (x0.G.aA.aD),dW,eH,dI,dD,.int .i64 (x0.G.aB.aD),dX,eI,dJ,dE,eN,eU,.bool (x0.Iso),.int .i64 (x0.Most),fJ] 115,.rd false (aE (aC .i64)) dU x0.F.aA.aG,.rd false (aE (aC .i64)) eE x0.F.aA.To,.rd false (aE (aC .i64)) dG x0.F.aA.aJ,.rd false (aE (aE (aC .i64))) dB x0.F.aA.aF,.rd false (aE (aC .i64)) dV x0.F.aB.aG,.rd false (aE (aC .i64)) eG x0.F.aB.To,.rd false (aE (aC .i64)) dH x0.F.aB.aJ,.rd false (aE (aE (aC .i64))) dC x0.F.aB.aF,.rd false (aE (aC .i64)) eM x0.F.aD,.rd false (aE (aC .i64)) eS x0.F.Arrows,.rd false (aE (aC .i64)) dW x0.G.aA.aG,.rd false (aE (aC .i64)) eH x0.G.aA.To,.rd false (aE (aC .i64)) dI x0.G.aA.aJ,.rd false (aE (aE (aC .i64))) dD x0.G.aA.aF,.rd false (aE (aC .i64)) dX x0.G.aB.aG,.rd false (aE (aC .i64)) eI x0.G.aB.To,.rd false (aE (aC .i64)) dJ x0.G.aB.aJ,.rd false (aE (aE (aC .i64))) dE x0.G.aB.aF,.rd false (aE (aC .i64)) eN x0.G.aD,.rd false (aE (aC .i64)) eU x0.G.Arrows,.om 24 (aE (aC .i64)) fJ x0.Found,.rd false (aE (aC .i64)) eV x1] (fun y (v:Value)=>[]) (fun y v=>[.row eP [.int .i64 y.F.aA.aD,dU,eE,dG,dB,.int .i64 y.F.aB.aD,dV,eG,dH,dC,eM,eS,.int .i64 y.G.aA.aD,dW,eH,dI,dD,.int .i64 y.G.aB.aD,dX,eI,dJ,dE,eN,eU,.bool y.Iso,.int .i64 y.Most,v] 115,.om 24 (aE (aC .i64)) v y.Found]):=by
 induction n with
 | zero=>intros; rw [ct_eq]; exact ⟨owf,fun _ _ _ _ _ _ _ y hy=>nomatch (show none=some y from hy)⟩
 | succ n ih=>exact c92_s ih
theorem c92 {x0:dY} {eP:Nat} {dU:Value} {eE:Value} {dG:Value} {dB:Value} {dV:Value} {eG:Value} {dH:Value} {dC:Value} {eM:Value} {eS:Value} {dW:Value} {eH:Value} {dI:Value} {dD:Value} {dX:Value} {eI:Value} {dJ:Value} {dE:Value} {eN:Value} {eU:Value} {fJ:Value} {x1:(List Int)} {eV:Value}:Ct Tryz.prog 92 false (iQ 64 x0 x1) [.pointer (some (⟨eP,0,none⟩)),eV] [.row eP [.int .i64 (x0.F.aA.aD),dU,eE,dG,dB,.int .i64 (x0.F.aB.aD),dV,eG,dH,dC,eM,eS,.int .i64 (x0.G.aA.aD),dW,eH,dI,dD,.int .i64 (x0.G.aB.aD),dX,eI,dJ,dE,eN,eU,.bool (x0.Iso),.int .i64 (x0.Most),fJ] 115,.rd false (aE (aC .i64)) dU x0.F.aA.aG,.rd false (aE (aC .i64)) eE x0.F.aA.To,.rd false (aE (aC .i64)) dG x0.F.aA.aJ,.rd false (aE (aE (aC .i64))) dB x0.F.aA.aF,.rd false (aE (aC .i64)) dV x0.F.aB.aG,.rd false (aE (aC .i64)) eG x0.F.aB.To,.rd false (aE (aC .i64)) dH x0.F.aB.aJ,.rd false (aE (aE (aC .i64))) dC x0.F.aB.aF,.rd false (aE (aC .i64)) eM x0.F.aD,.rd false (aE (aC .i64)) eS x0.F.Arrows,.rd false (aE (aC .i64)) dW x0.G.aA.aG,.rd false (aE (aC .i64)) eH x0.G.aA.To,.rd false (aE (aC .i64)) dI x0.G.aA.aJ,.rd false (aE (aE (aC .i64))) dD x0.G.aA.aF,.rd false (aE (aC .i64)) dX x0.G.aB.aG,.rd false (aE (aC .i64)) eI x0.G.aB.To,.rd false (aE (aC .i64)) dJ x0.G.aB.aJ,.rd false (aE (aE (aC .i64))) dE x0.G.aB.aF,.rd false (aE (aC .i64)) eN x0.G.aD,.rd false (aE (aC .i64)) eU x0.G.Arrows,.om 24 (aE (aC .i64)) fJ x0.Found,.rd false (aE (aC .i64)) eV x1] (fun y (v:Value)=>[]) (fun y v=>[.row eP [.int .i64 y.F.aA.aD,dU,eE,dG,dB,.int .i64 y.F.aB.aD,dV,eG,dH,dC,eM,eS,.int .i64 y.G.aA.aD,dW,eH,dI,dD,.int .i64 y.G.aB.aD,dX,eI,dJ,dE,eN,eU,.bool y.Iso,.int .i64 y.Most,v] 115,.om 24 (aE (aC .i64)) v y.Found]):=by
 exact c92_n 64
theorem c53 {x0:aN} {aW:Value} {bC:Value} {aS:Value} {aQ:Value} {aY:Value} {bD:Value} {aT:Value} {aR:Value} {bS:Value} {bV:Value} {x1:aN} {bT:Value} {cE:Value} {bE:Value} {aZ:Value} {bU:Value} {cF:Value} {bF:Value} {bA:Value} {cN:Value} {cO:Value} {x2:Bool} {x3:Int}:Ct Tryz.prog 53 false (oO x0 x1 x2 x3) [.agg #[.int .i64 (x0.aA.aD),aW,bC,aS,aQ,.int .i64 (x0.aB.aD),aY,bD,aT,aR,bS,bV],.agg #[.int .i64 (x1.aA.aD),bT,cE,bE,aZ,.int .i64 (x1.aB.aD),bU,cF,bF,bA,cN,cO],.bool (x2),.int .i64 (x3)] [.rd false (aE (aC .i64)) aW x0.aA.aG,.rd false (aE (aC .i64)) bC x0.aA.To,.rd false (aE (aC .i64)) aS x0.aA.aJ,.rd false (aE (aE (aC .i64))) aQ x0.aA.aF,.rd false (aE (aC .i64)) aY x0.aB.aG,.rd false (aE (aC .i64)) bD x0.aB.To,.rd false (aE (aC .i64)) aT x0.aB.aJ,.rd false (aE (aE (aC .i64))) aR x0.aB.aF,.rd false (aE (aC .i64)) bS x0.aD,.rd false (aE (aC .i64)) bV x0.Arrows,.rd false (aE (aC .i64)) bT x1.aA.aG,.rd false (aE (aC .i64)) cE x1.aA.To,.rd false (aE (aC .i64)) bE x1.aA.aJ,.rd false (aE (aE (aC .i64))) aZ x1.aA.aF,.rd false (aE (aC .i64)) bU x1.aB.aG,.rd false (aE (aC .i64)) cF x1.aB.To,.rd false (aE (aC .i64)) bF x1.aB.aJ,.rd false (aE (aE (aC .i64))) bA x1.aB.aF,.rd false (aE (aC .i64)) cN x1.aD,.rd false (aE (aC .i64)) cO x1.Arrows] (fun y (v:Value)=>[v]) (fun y v=>[.rd false (aE (aE (aC .i64))) v y]):=by
 refine ct (S:=Unit) owf Tryz.func53 rfl rfl ?_
 repeat' first
  | intro _
  | exact rfl
  | apply Dk.litO (d:=40)
  | (refine Dk.cdR (t:=61) rfl ?_ ?_)
  | (refine @id.{0} _ ?_; constructor)
  | apply Dk.loop 0 (V:=Value) (fun (s:(List (List Int))×Int) v=>[.own (aK 24 (aK 2 (aC .i64))) v s.1]) (fun s v=>[(10,v),(11,.int .i64 (s.2))]) _ [(2,_),(3,_),(4,_),(5,_),(9,_)]
  | apply Dk.loop 2 (V:=Value) (fun (s:(List Int)×Int) v=>[.own (aK 2 (aC .i64)) v s.1]) (fun s v=>[(13,v),(14,.int .i64 (s.2))]) _ [(2,_),(3,_),(4,_),(5,_),(12,_)]
  | apply Dk.loop 4 (V:=Value) (fun (s:(List Int)×Int) v=>[.own (aK 2 (aC .i64)) v s.1]) (fun s v=>[(15,v),(16,.int .i64 (s.2))]) _ [(2,_),(3,_),(4,_),(5,_),(12,_),(13,_),(14,_)]
  | apply Dk.tailZ (id:=6) [(0,11)] 11 rfl (by kernel_rfl)
  | apply c91
  | apply c92
  | exact ()
end Go.Proofs.YtkhdhnpokfibjaaGreat
