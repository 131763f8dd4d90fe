/- Walks by the calculus D. No condition beside those that each theorem names. -/
import Derived.Test.YtgjbmjjihmfppaaGreatDi
import Derived.Test.YtgjbmjjihmfppaaGreatMo
import Derived.Test.YtgjbmjjihmfppaaGreatDp
import Derived.Test.YtgjbmjjihmfppaaGreatDs
import Derived.Test.YtgjbmjjihmfppaaGreatWa
import Derived.Test.YtgjbmjjihmfppaaGreatWb
import Derived.Test.YtgjbmjjihmfppaaGreatWc
import Derived.Test.YtgjbmjjihmfppaaGreatWd
import Derived.Test.YtgjbmjjihmfppaaGreatWe
import Derived.Test.YtgjbmjjihmfppaaGreatWf
import Derived.Test.YtgjbmjjihmfppaaGreatWg
import Derived.Test.YtgjbmjjihmfppaaGreatWh
namespace Go.Proofs.YtgjbmjjihmfppaaGreat
open Go Go.Li Go.Dk
set_option linter.unusedVariables false
set_option maxHeartbeats 16000000
set_option maxRecDepth 100000
theorem adG {x0:aI} {aT:Value} {bB:Value} {aO:Value} {aN:Value} {x1:aI} {bS:Value} {cG:Value} {bD:Value} {aZ:Value}:Ct Tryz.prog 154 true (gT x0 x1) [.agg #[.int .i64 (x0.aA),aT,bB,aO,aN],.agg #[.int .i64 (x1.aA),bS,cG,bD,aZ]] [.rd false (aB (aC .i64)) aT x0.aF,.rd false (aB (aC .i64)) bB x0.To,.rd false (aB (aC .i64)) aO x0.aJ,.rd false (aB (aB (aC .i64))) aN x0.aD,.rd false (aB (aC .i64)) bS x1.aF,.rd false (aB (aC .i64)) cG x1.To,.rd false (aB (aC .i64)) bD x1.aJ,.rd false (aB (aB (aC .i64))) aZ x1.aD] (fun y (v:Value×Value×Value×Value)=>match v with | (q0,q1,q2,q3)=>[.agg #[.int .i64 y.aA,q0,q1,q2,q3]]) (fun y v=>match v with | (q0,q1,q2,q3)=>[.own (aL 2 (aC .i64)) q0 y.aF,.own (aL 2 (aC .i64)) q1 y.To,.own (aL 2 (aC .i64)) q2 y.aJ,.own (aL 24 (aL 2 (aC .i64))) q3 y.aD]):=by
 refine ct (S:=Unit) (ca fun _ _=>rfl) Tryz.func154 rfl rfl ?_
 repeat' first
  | ((first | show Dk.ER _ _ _ | show Dk.ba _ _ | show Dk.EF _ _ _ | show Dk.EO _ _ _ | show Dk.EP _ _ | show Dk.aX _ _ _ _ | show Dk.aq _ _ _ _ | show Dk.Kp _ _ _ _ | show Dk.bn _ _ | show Dk.bb _ _ _ _); repeat' first | exact rfl | (refine @id.{0} _ ?_; constructor))
  | intro _
  | exact rfl
  | (refine Dk.ue (t:=60) rfl ?_ ?_)
  | (refine @id.{0} _ ?_; constructor)
  | apply Dk.jr 0 (V:=Value×Value) (A:=Nat×Value×Value×Value) (_,_,_,_) (fun a (s:Int×(List Int)×(List Int)) v=>Dk.pc (fun a0=>Dk.pc (fun a1=>Dk.pc (fun a2 a3=>[.row a0 [a1,v.1,v.2,a2,a3] 27,.own (aL 2 (aC .i64)) v.1 s.2.1,.own (aL 2 (aC .i64)) v.2 s.2.2]))) a) (fun a s v=>Dk.pc (fun a0=>Dk.pc (fun a1=>Dk.pc (fun a2 a3=>[(5,.pointer (some ⟨a0,0,none⟩)),(7,.int .i64 (s.1))]))) a) (_,_) [(2,_),(3,_),(4,_),(6,_)]
  | apply Dk.jr 2 (V:=Value×Value) (A:=Nat×Value×Value×Value) (_,_,_,_) (fun a (s:Int×(List Int)×(List Int)) v=>Dk.pc (fun a0=>Dk.pc (fun a1=>Dk.pc (fun a2 a3=>[.row a0 [a1,v.1,v.2,a2,a3] 27,.own (aL 2 (aC .i64)) v.1 s.2.1,.own (aL 2 (aC .i64)) v.2 s.2.2]))) a) (fun a s v=>Dk.pc (fun a0=>Dk.pc (fun a1=>Dk.pc (fun a2 a3=>[(5,.pointer (some ⟨a0,0,none⟩)),(8,.int .i64 (s.1))]))) a) (_,_) [(2,_),(3,_),(4,_),(6,_),(7,_)]
  | apply Dk.loop 4 (V:=Value) (fun (s:(List (List Int))×Int) v=>[.own (aL 24 (aL 2 (aC .i64))) v s.1]) (fun s v=>[(9,v),(10,.int .i64 (s.2))]) _ [(2,_),(3,_),(4,_),(5,_),(6,_)]
  | apply Dk.loop 6 (V:=Value) (fun (s:(List Int)×Int) v=>[.own (aL 2 (aC .i64)) v s.1]) (fun s v=>[(11,v),(12,.int .i64 (s.2))]) _ [(2,_),(3,_),(4,_),(5,_),(6,_),(9,_),(10,_)]
  | apply Dk.quiet (id:=20) (by kernel_rfl)
  | apply Dk.quiet (id:=21) (by kernel_rfl)
  | apply W5
  | exact ()
theorem adH {x0:aK} {cV:Nat} {bW:Value}:Ct Tryz.prog 131 true (gN x0) [.pointer (some (⟨cV,0,none⟩))] [.row cV [bW,.int .i64 (x0.At),.int .u64 (x0.ao)] 81,.rd false (aB (aC .u8)) bW x0.Code] (fun y (v:Value×Value×Value×Value)=>[.agg #[.int .i64 y.1.aA,v.1,v.2.1,v.2.2.1,v.2.2.2]]) (fun y v=>[.own (aL 2 (aC .i64)) v.1 y.1.aF,.own (aL 2 (aC .i64)) v.2.1 y.1.To,.own (aL 2 (aC .i64)) v.2.2.1 y.1.aJ,.own (aL 24 (aL 2 (aC .i64))) v.2.2.2 y.1.aD,.row cV [bW,.int .i64 y.2.At,.int .u64 y.2.ao] 81]):=by
 refine ct (S:=Unit) (ca fun _ _=>rfl) Tryz.func131 rfl rfl ?_
 repeat' first
  | ((first | show Dk.ER _ _ _ | show Dk.ba _ _ | show Dk.EF _ _ _ | show Dk.EO _ _ _ | show Dk.EP _ _ | show Dk.aX _ _ _ _ | show Dk.aq _ _ _ _ | show Dk.Kp _ _ _ _ | show Dk.bn _ _ | show Dk.bb _ _ _ _); repeat' first | exact rfl | (refine @id.{0} _ ?_; constructor))
  | intro _
  | exact rfl
  | (refine Dk.ue (t:=59) rfl ?_ ?_)
  | (refine @id.{0} _ ?_; constructor)
  | apply Dk.loop 1 (V:=Value) (fun (s:(List (List Int))×Int) v=>[.own (aL 24 (aL 2 (aC .i64))) v s.1]) (fun s v=>[(4,v),(5,.int .i64 (s.2))]) _ [(2,_),(3,_)]
  | apply Dk.loop 3 (V:=Value) (fun (s:(List Int)×Int) v=>[.own (aL 2 (aC .i64)) v s.1]) (fun s v=>[(6,v),(7,.int .i64 (s.2))]) _ [(2,_),(3,_),(4,_),(5,_)]
  | apply Dk.loop 5 (V:=Value×Value) (fun (s:(List Int)×(List Int)×Int×Int×Int) v=>[.row cV [bW,.int .i64 (s.2.2.2.1),.int .u64 (s.2.2.2.2)] 81,.own (aL 2 (aC .i64)) v.1 s.1,.own (aL 2 (aC .i64)) v.2 s.2.1]) (fun s v=>[(9,v.1),(10,v.2),(11,.int .i64 (s.2.2.1))]) (_,_) [(0,_),(2,_),(8,_)]
  | apply zB
  | apply ade
  | apply IN
  | apply W6
  | apply WW
  | apply W7
  | apply WR
  | apply adG
  | apply Zw
  | exact ()
theorem LG {x0:aK} {cV:Nat} {bW:Value} {x1:Int} {x2:Int}:Ct Tryz.prog 101 true (iQ x0 x1 x2) [.pointer (some (⟨cV,0,none⟩)),.int .i64 (x1),.int .i64 (x2)] [.row cV [bW,.int .i64 (x0.At),.int .u64 (x0.ao)] 81,.rd false (aB (aC .u8)) bW x0.Code] (fun y (v:Value×Value×Value×Value)=>[.agg #[.int .i64 y.1.aA,v.1,v.2.1,v.2.2.1,v.2.2.2]]) (fun y v=>[.own (aL 2 (aC .i64)) v.1 y.1.aF,.own (aL 2 (aC .i64)) v.2.1 y.1.To,.own (aL 2 (aC .i64)) v.2.2.1 y.1.aJ,.own (aL 24 (aL 2 (aC .i64))) v.2.2.2 y.1.aD,.row cV [bW,.int .i64 y.2.At,.int .u64 y.2.ao] 81]):=by
 refine ct (S:=Unit) (ca fun _ _=>rfl) Tryz.func101 rfl rfl ?_
 repeat' first
  | ((first | show Dk.ER _ _ _ | show Dk.ba _ _ | show Dk.EF _ _ _ | show Dk.EO _ _ _ | show Dk.EP _ _ | show Dk.aX _ _ _ _ | show Dk.aq _ _ _ _ | show Dk.Kp _ _ _ _ | show Dk.bn _ _ | show Dk.bb _ _ _ _); repeat' first | exact rfl | (refine @id.{0} _ ?_; constructor))
  | intro _
  | exact rfl
  | (refine @id.{0} _ ?_; constructor)
  | apply Dk.loop 0 (V:=Unit) (fun (s:Int×Int×Int) v=>[.row cV [bW,.int .i64 (s.2.1),.int .u64 (s.2.2)] 81]) (fun s v=>[(7,.int .i64 (s.1))]) () [(0,_),(1,_),(2,_),(6,_)]
  | apply Dk.wq (id:=6) [Dk.aw.row _ _ 81] 3 [] [[],[],[5]] [[],[],[1]] (by kernel_rfl)
  | apply Dk.wq (id:=8) [Dk.aw.row _ _ 81] 3 [] [[],[],[5]] [[],[],[1]] (by kernel_rfl)
  | apply adH
  | apply zB
  | apply W5
  | apply ac5
  | apply WU
  | apply IN
  | exact ()
theorem Xf {rc:aI→aI→(List Int)→(List aM)→Option ((List aM))} (ih:∀ {x0:aI} {aT:Value} {bB:Value} {aO:Value} {aN:Value} {x1:aI} {bS:Value} {cG:Value} {bD:Value} {aZ:Value} {x2:(List Int)} {dX:Value} {x3:(List aM)} {fX:Value},Ct Tryz.prog 122 true (rc x0 x1 x2 x3) [.agg #[.int .i64 (x0.aA),aT,bB,aO,aN],.agg #[.int .i64 (x1.aA),bS,cG,bD,aZ],dX,fX] [.rd false (aB (aC .i64)) aT x0.aF,.rd false (aB (aC .i64)) bB x0.To,.rd false (aB (aC .i64)) aO x0.aJ,.rd false (aB (aB (aC .i64))) aN x0.aD,.rd false (aB (aC .i64)) bS x1.aF,.rd false (aB (aC .i64)) cG x1.To,.rd false (aB (aC .i64)) bD x1.aJ,.rd false (aB (aB (aC .i64))) aZ x1.aD,.rd false (aB (aC .i64)) dX x2,.own (aL 29 tM) fX x3] (fun y (v:Value)=>[v]) (fun y v=>[.own (aL 29 tM) v y])) {x0:aI} {aT:Value} {bB:Value} {aO:Value} {aN:Value} {x1:aI} {bS:Value} {cG:Value} {bD:Value} {aZ:Value} {x2:(List Int)} {dX:Value} {x3:(List aM)} {fX:Value}:Ct Tryz.prog 122 true (kQ rc x0 x1 x2 x3) [.agg #[.int .i64 (x0.aA),aT,bB,aO,aN],.agg #[.int .i64 (x1.aA),bS,cG,bD,aZ],dX,fX] [.rd false (aB (aC .i64)) aT x0.aF,.rd false (aB (aC .i64)) bB x0.To,.rd false (aB (aC .i64)) aO x0.aJ,.rd false (aB (aB (aC .i64))) aN x0.aD,.rd false (aB (aC .i64)) bS x1.aF,.rd false (aB (aC .i64)) cG x1.To,.rd false (aB (aC .i64)) bD x1.aJ,.rd false (aB (aB (aC .i64))) aZ x1.aD,.rd false (aB (aC .i64)) dX x2,.own (aL 29 tM) fX x3] (fun y (v:Value)=>[v]) (fun y v=>[.own (aL 29 tM) v y]):=by
 refine ct (S:=Unit) (ca fun _ _=>rfl) Tryz.func122 rfl rfl ?_
 repeat' first
  | ((first | show Dk.ER _ _ _ | show Dk.ba _ _ | show Dk.EF _ _ _ | show Dk.EO _ _ _ | show Dk.EP _ _ | show Dk.aX _ _ _ _ | show Dk.aq _ _ _ _ | show Dk.Kp _ _ _ _ | show Dk.bn _ _ | show Dk.bb _ _ _ _); repeat' first | exact rfl | (refine @id.{0} _ ?_; constructor))
  | intro _
  | exact rfl
  | apply Dk.MH (t:=104)
  | apply ih
  | apply Dk.YU (t:=104) (S:=tM) (aM.mk (aI.mk _ _ _ _ _) (aI.mk _ _ _ _ _) _ _)
  | (refine @id.{0} _ ?_; constructor)
  | apply Dk.loop 0 (V:=Value) (fun (s:(List Int)×Int) v=>[.own (aL 2 (aC .i64)) v s.1]) (fun s v=>[(9,v),(10,.int .i64 (s.2))]) _ [(2,_),(3,_),(4,_),(5,_)]
  | apply Dk.jr 2 (V:=Unit) (A:=Value) _ (fun a (s:Int×(List Int)) v=>[.own (aL 2 (aC .i64)) a s.2]) (fun a s v=>[(9,a),(11,.int .i64 (s.1))]) () [(2,_),(3,_),(4,_),(5,_)]
  | apply Dk.loop 4 (V:=Value) (fun (s:(List aM)×Int) v=>[.own (aL 29 tM) v s.1]) (fun s v=>[(3,v),(13,.int .i64 (s.2))]) _ [(2,_),(4,_),(5,_),(12,_)]
  | apply Dk.loop 6 (V:=Value) (fun (s:(List aM)×Int) v=>[.own (aL 29 tM) v s.1]) (fun s v=>[(3,v),(14,.int .i64 (s.2))]) _ [(2,_),(4,_),(5,_)]
  | apply Dk.any (id:=12) 14 [] [] [[],[],[1],[],[2,1,3],[4,2,1,3],[],[6],[],[],[8,9],[10,8,9],[7,6,11,10,8,9],[12,7,6,11,10,8,9]] (by kernel_rfl)
  | apply Dk.any (id:=22) 8 [] [[],[],[],[],[],[],[3],[]] [[],[],[],[2],[],[4],[3,2,5,4,3,2],[]] (by kernel_rfl)
  | apply Dk.Rh (id:=17) [(0,8)] 8 rfl (by kernel_rfl)
  | apply acZ
  | apply ac1
  | apply RP
  | apply yU
  | exact ()
theorem Xg (n:Nat):∀ {x0:aI} {aT:Value} {bB:Value} {aO:Value} {aN:Value} {x1:aI} {bS:Value} {cG:Value} {bD:Value} {aZ:Value} {x2:(List Int)} {dX:Value} {x3:(List aM)} {fX:Value},Ct Tryz.prog 122 true (gQ n x0 x1 x2 x3) [.agg #[.int .i64 (x0.aA),aT,bB,aO,aN],.agg #[.int .i64 (x1.aA),bS,cG,bD,aZ],dX,fX] [.rd false (aB (aC .i64)) aT x0.aF,.rd false (aB (aC .i64)) bB x0.To,.rd false (aB (aC .i64)) aO x0.aJ,.rd false (aB (aB (aC .i64))) aN x0.aD,.rd false (aB (aC .i64)) bS x1.aF,.rd false (aB (aC .i64)) cG x1.To,.rd false (aB (aC .i64)) bD x1.aJ,.rd false (aB (aB (aC .i64))) aZ x1.aD,.rd false (aB (aC .i64)) dX x2,.own (aL 29 tM) fX x3] (fun y (v:Value)=>[v]) (fun y v=>[.own (aL 29 tM) v y]):=by
 induction n with
 | zero=>intros; rw [ra]; exact ⟨(ca fun _ _=>rfl),fun _ _ _ _ _ _ _ y hy=>nomatch (show none=some y from hy)⟩
 | succ n ih=>exact Xf ih
theorem adI {x0:aI} {aT:Value} {bB:Value} {aO:Value} {aN:Value} {x1:aI} {bS:Value} {cG:Value} {bD:Value} {aZ:Value} {x2:(List Int)} {dX:Value} {x3:(List aM)} {fX:Value}:Ct Tryz.prog 122 true (gQ 64 x0 x1 x2 x3) [.agg #[.int .i64 (x0.aA),aT,bB,aO,aN],.agg #[.int .i64 (x1.aA),bS,cG,bD,aZ],dX,fX] [.rd false (aB (aC .i64)) aT x0.aF,.rd false (aB (aC .i64)) bB x0.To,.rd false (aB (aC .i64)) aO x0.aJ,.rd false (aB (aB (aC .i64))) aN x0.aD,.rd false (aB (aC .i64)) bS x1.aF,.rd false (aB (aC .i64)) cG x1.To,.rd false (aB (aC .i64)) bD x1.aJ,.rd false (aB (aB (aC .i64))) aZ x1.aD,.rd false (aB (aC .i64)) dX x2,.own (aL 29 tM) fX x3] (fun y (v:Value)=>[v]) (fun y v=>[.own (aL 29 tM) v y]):=by
 exact Xg 64
theorem Xh {x0:aI} {aT:Value} {bB:Value} {aO:Value} {aN:Value} {x1:aI} {bS:Value} {cG:Value} {bD:Value} {aZ:Value}:Ct Tryz.prog 82 true (jP x0 x1) [.agg #[.int .i64 (x0.aA),aT,bB,aO,aN],.agg #[.int .i64 (x1.aA),bS,cG,bD,aZ]] [.rd false (aB (aC .i64)) aT x0.aF,.rd false (aB (aC .i64)) bB x0.To,.rd false (aB (aC .i64)) aO x0.aJ,.rd false (aB (aB (aC .i64))) aN x0.aD,.rd false (aB (aC .i64)) bS x1.aF,.rd false (aB (aC .i64)) cG x1.To,.rd false (aB (aC .i64)) bD x1.aJ,.rd false (aB (aB (aC .i64))) aZ x1.aD] (fun y (v:Value)=>[v]) (fun y v=>[.own (aL 29 tM) v y]):=by
 refine ct (S:=Unit) (ca fun _ _=>rfl) Tryz.func82 rfl rfl ?_
 repeat' first
  | ((first | show Dk.ER _ _ _ | show Dk.ba _ _ | show Dk.EF _ _ _ | show Dk.EO _ _ _ | show Dk.EP _ _ | show Dk.aX _ _ _ _ | show Dk.aq _ _ _ _ | show Dk.Kp _ _ _ _ | show Dk.bn _ _ | show Dk.bb _ _ _ _); repeat' first | exact rfl | (refine @id.{0} _ ?_; constructor))
  | intro _
  | exact rfl
  | apply Dk.UK (t:=104) tM
  | (refine @id.{0} _ ?_; constructor)
  | apply adI
  | exact ()
theorem Xi {x0:aI} {aT:Value} {bB:Value} {aO:Value} {aN:Value} {x1:aI} {bS:Value} {cG:Value} {bD:Value} {aZ:Value} {x2:Int}:Ct Tryz.prog 123 true (eH x0 x1 x2) [.agg #[.int .i64 (x0.aA),aT,bB,aO,aN],.agg #[.int .i64 (x1.aA),bS,cG,bD,aZ],.int .i64 (x2)] [.rd false (aB (aC .i64)) aT x0.aF,.rd false (aB (aC .i64)) bB x0.To,.rd false (aB (aC .i64)) aO x0.aJ,.rd false (aB (aB (aC .i64))) aN x0.aD,.rd false (aB (aC .i64)) bS x1.aF,.rd false (aB (aC .i64)) cG x1.To,.rd false (aB (aC .i64)) bD x1.aJ,.rd false (aB (aB (aC .i64))) aZ x1.aD] (fun y (v:Value×Value×Value×Value×Value×Value×Value×Value×Value×Value)=>[.agg #[.int .i64 y.aE.aA,v.1,v.2.1,v.2.2.1,v.2.2.2.1,.int .i64 y.aH.aA,v.2.2.2.2.1,v.2.2.2.2.2.1,v.2.2.2.2.2.2.1,v.2.2.2.2.2.2.2.1,v.2.2.2.2.2.2.2.2.1,v.2.2.2.2.2.2.2.2.2]]) (fun y v=>[.own (aL 2 (aC .i64)) v.1 y.aE.aF,.own (aL 2 (aC .i64)) v.2.1 y.aE.To,.own (aL 2 (aC .i64)) v.2.2.1 y.aE.aJ,.own (aL 24 (aL 2 (aC .i64))) v.2.2.2.1 y.aE.aD,.own (aL 2 (aC .i64)) v.2.2.2.2.1 y.aH.aF,.own (aL 2 (aC .i64)) v.2.2.2.2.2.1 y.aH.To,.own (aL 2 (aC .i64)) v.2.2.2.2.2.2.1 y.aH.aJ,.own (aL 24 (aL 2 (aC .i64))) v.2.2.2.2.2.2.2.1 y.aH.aD,.own (aL 2 (aC .i64)) v.2.2.2.2.2.2.2.2.1 y.aA,.own (aL 2 (aC .i64)) v.2.2.2.2.2.2.2.2.2 y.ab]):=by
 refine ct (S:=Unit) (ca fun _ _=>rfl) Tryz.func123 rfl rfl ?_
 repeat' first
  | ((first | show Dk.ER _ _ _ | show Dk.ba _ _ | show Dk.EF _ _ _ | show Dk.EO _ _ _ | show Dk.EP _ _ | show Dk.aX _ _ _ _ | show Dk.aq _ _ _ _ | show Dk.Kp _ _ _ _ | show Dk.bn _ _ | show Dk.bb _ _ _ _); repeat' first | exact rfl | (refine @id.{0} _ ?_; constructor))
  | intro _
  | exact rfl
  | (refine @id.{0} _ ?_; constructor)
  | apply Dk.loop 0 (V:=Value) (fun (s:(List Int)×Int) v=>[.own (aL 2 (aC .i64)) v s.1]) (fun s v=>[(7,v),(9,.int .i64 (s.2))]) _ [(2,_),(3,_),(4,_),(6,_),(8,_)]
  | apply Dk.loop 2 (V:=Value) (fun (s:(List Int)×Int) v=>[.own (aL 2 (aC .i64)) v s.1]) (fun s v=>[(8,v),(10,.int .i64 (s.2))]) _ [(2,_),(3,_),(4,_),(6,_),(7,_)]
  | apply RP
  | exact ()
theorem Xj {x0:aI} {aT:Value} {bB:Value} {aO:Value} {aN:Value}:Ct Tryz.prog 79 true (fP x0) [.agg #[.int .i64 (x0.aA),aT,bB,aO,aN]] [.rd false (aB (aC .i64)) aT x0.aF,.rd false (aB (aC .i64)) bB x0.To,.rd false (aB (aC .i64)) aO x0.aJ,.rd false (aB (aB (aC .i64))) aN x0.aD] (fun y (v:Value×Value×Value×Value×Value×Value×Value×Value×Value×Value)=>[.agg #[.int .i64 y.aE.aA,v.1,v.2.1,v.2.2.1,v.2.2.2.1,.int .i64 y.aH.aA,v.2.2.2.2.1,v.2.2.2.2.2.1,v.2.2.2.2.2.2.1,v.2.2.2.2.2.2.2.1,v.2.2.2.2.2.2.2.2.1,v.2.2.2.2.2.2.2.2.2]]) (fun y v=>[.own (aL 2 (aC .i64)) v.1 y.aE.aF,.own (aL 2 (aC .i64)) v.2.1 y.aE.To,.own (aL 2 (aC .i64)) v.2.2.1 y.aE.aJ,.own (aL 24 (aL 2 (aC .i64))) v.2.2.2.1 y.aE.aD,.own (aL 2 (aC .i64)) v.2.2.2.2.1 y.aH.aF,.own (aL 2 (aC .i64)) v.2.2.2.2.2.1 y.aH.To,.own (aL 2 (aC .i64)) v.2.2.2.2.2.2.1 y.aH.aJ,.own (aL 24 (aL 2 (aC .i64))) v.2.2.2.2.2.2.2.1 y.aH.aD,.own (aL 2 (aC .i64)) v.2.2.2.2.2.2.2.2.1 y.aA,.own (aL 2 (aC .i64)) v.2.2.2.2.2.2.2.2.2 y.ab]):=by
 refine ct (S:=Unit) (ca fun _ _=>rfl) Tryz.func79 rfl rfl ?_
 repeat' first
  | ((first | show Dk.ER _ _ _ | show Dk.ba _ _ | show Dk.EF _ _ _ | show Dk.EO _ _ _ | show Dk.EP _ _ | show Dk.aX _ _ _ _ | show Dk.aq _ _ _ _ | show Dk.Kp _ _ _ _ | show Dk.bn _ _ | show Dk.bb _ _ _ _); repeat' first | exact rfl | (refine @id.{0} _ ?_; constructor))
  | intro _
  | exact rfl
  | (refine @id.{0} _ ?_; constructor)
  | apply Dk.loop 0 (V:=Value) (fun (s:(List Int)×Int) v=>[.own (aL 2 (aC .i64)) v s.1]) (fun s v=>[(3,v),(5,.int .i64 (s.2))]) _ [(1,_),(2,_),(4,_)]
  | apply Dk.loop 2 (V:=Value) (fun (s:(List Int)×Int) v=>[.own (aL 2 (aC .i64)) v s.1]) (fun s v=>[(4,v),(6,.int .i64 (s.2))]) _ [(1,_),(2,_),(3,_)]
  | apply RP
  | exact ()
theorem ZD {x0:aK} {cV:Nat} {bW:Value} {x1:aI} {bS:Value} {cG:Value} {bD:Value} {aZ:Value} {x2:Int} {x3:Int}:Ct Tryz.prog 83 true (iS x0 x1 x2 x3) [.pointer (some (⟨cV,0,none⟩)),.agg #[.int .i64 (x1.aA),bS,cG,bD,aZ],.int .i64 (x2),.int .i64 (x3)] [.row cV [bW,.int .i64 (x0.At),.int .u64 (x0.ao)] 81,.rd false (aB (aC .u8)) bW x0.Code,.rd false (aB (aC .i64)) bS x1.aF,.rd false (aB (aC .i64)) cG x1.To,.rd false (aB (aC .i64)) bD x1.aJ,.rd false (aB (aB (aC .i64))) aZ x1.aD] (fun y (v:Value×Value×Value×Value×Value×Value×Value×Value×Value×Value)=>[.agg #[.int .i64 y.1.aE.aA,v.1,v.2.1,v.2.2.1,v.2.2.2.1,.int .i64 y.1.aH.aA,v.2.2.2.2.1,v.2.2.2.2.2.1,v.2.2.2.2.2.2.1,v.2.2.2.2.2.2.2.1,v.2.2.2.2.2.2.2.2.1,v.2.2.2.2.2.2.2.2.2]]) (fun y v=>[.own (aL 2 (aC .i64)) v.1 y.1.aE.aF,.own (aL 2 (aC .i64)) v.2.1 y.1.aE.To,.own (aL 2 (aC .i64)) v.2.2.1 y.1.aE.aJ,.own (aL 24 (aL 2 (aC .i64))) v.2.2.2.1 y.1.aE.aD,.own (aL 2 (aC .i64)) v.2.2.2.2.1 y.1.aH.aF,.own (aL 2 (aC .i64)) v.2.2.2.2.2.1 y.1.aH.To,.own (aL 2 (aC .i64)) v.2.2.2.2.2.2.1 y.1.aH.aJ,.own (aL 24 (aL 2 (aC .i64))) v.2.2.2.2.2.2.2.1 y.1.aH.aD,.own (aL 2 (aC .i64)) v.2.2.2.2.2.2.2.2.1 y.1.aA,.own (aL 2 (aC .i64)) v.2.2.2.2.2.2.2.2.2 y.1.ab,.row cV [bW,.int .i64 y.2.At,.int .u64 y.2.ao] 81]):=by
 refine ct (S:=Unit) (ca fun _ _=>rfl) Tryz.func83 rfl rfl ?_
 repeat' first
  | ((first | show Dk.ER _ _ _ | show Dk.ba _ _ | show Dk.EF _ _ _ | show Dk.EO _ _ _ | show Dk.EP _ _ | show Dk.aX _ _ _ _ | show Dk.aq _ _ _ _ | show Dk.Kp _ _ _ _ | show Dk.bn _ _ | show Dk.bb _ _ _ _); repeat' first | exact rfl | (refine @id.{0} _ ?_; constructor))
  | intro _
  | exact rfl
  | apply Dk.MH (t:=104)
  | apply Dk.UL (t:=104)
  | apply Dk.Q8 (n:=12)
  | apply Dk.ME (n:=12)
  | apply Dk.KP (n:=12)
  | (apply Dk.Rb (t:=38); exact rfl)
  | (refine @id.{0} _ ?_; constructor)
  | apply Dk.wq (id:=7) [Dk.aw.row _ _ 81] 6 [] [[],[],[],[],[],[8]] [[],[],[],[],[3],[2,4,3]] (by kernel_rfl)
  | apply LG
  | apply W8
  | apply Xh
  | apply zB
  | apply Xi
  | apply Xj
  | exact ()
theorem adJ {x0:aK} {cV:Nat} {bW:Value}:Ct Tryz.prog 103 true (nG x0) [.pointer (some (⟨cV,0,none⟩))] [.row cV [bW,.int .i64 (x0.At),.int .u64 (x0.ao)] 81,.rd false (aB (aC .u8)) bW x0.Code] (fun y (v:Value×Value×Value×Value)=>[.agg #[.int .i64 y.1.aA,v.1,v.2.1,v.2.2.1,v.2.2.2]]) (fun y v=>[.own (aL 2 (aC .i64)) v.1 y.1.aF,.own (aL 2 (aC .i64)) v.2.1 y.1.To,.own (aL 2 (aC .i64)) v.2.2.1 y.1.aJ,.own (aL 24 (aL 2 (aC .i64))) v.2.2.2 y.1.aD,.row cV [bW,.int .i64 y.2.At,.int .u64 y.2.ao] 81]):=by
 refine ct (S:=Unit) (ca fun _ _=>rfl) Tryz.func103 rfl rfl ?_
 repeat' first
  | ((first | show Dk.ER _ _ _ | show Dk.ba _ _ | show Dk.EF _ _ _ | show Dk.EO _ _ _ | show Dk.EP _ _ | show Dk.aX _ _ _ _ | show Dk.aq _ _ _ _ | show Dk.Kp _ _ _ _ | show Dk.bn _ _ | show Dk.bb _ _ _ _); repeat' first | exact rfl | (refine @id.{0} _ ?_; constructor))
  | intro _
  | exact rfl
  | (refine @id.{0} _ ?_; constructor)
  | apply zB
  | apply IN
  | apply WY
  | apply W6
  | apply Zw
  | apply WW
  | apply W7
  | apply LG
  | exact ()
theorem ZE {x0:aK} {cV:Nat} {bW:Value}:Ct Tryz.prog 80 true (kB x0) [.pointer (some (⟨cV,0,none⟩))] [.row cV [bW,.int .i64 (x0.At),.int .u64 (x0.ao)] 81,.rd false (aB (aC .u8)) bW x0.Code] (fun y (v:Value×Value×Value×Value)=>[.agg #[.int .i64 y.1.aA,v.1,v.2.1,v.2.2.1,v.2.2.2]]) (fun y v=>[.own (aL 2 (aC .i64)) v.1 y.1.aF,.own (aL 2 (aC .i64)) v.2.1 y.1.To,.own (aL 2 (aC .i64)) v.2.2.1 y.1.aJ,.own (aL 24 (aL 2 (aC .i64))) v.2.2.2 y.1.aD,.row cV [bW,.int .i64 y.2.At,.int .u64 y.2.ao] 81]):=by
 refine ct (S:=Unit) (ca fun _ _=>rfl) Tryz.func80 rfl rfl ?_
 repeat' first
  | ((first | show Dk.ER _ _ _ | show Dk.ba _ _ | show Dk.EF _ _ _ | show Dk.EO _ _ _ | show Dk.EP _ _ | show Dk.aX _ _ _ _ | show Dk.aq _ _ _ _ | show Dk.Kp _ _ _ _ | show Dk.bn _ _ | show Dk.bb _ _ _ _); repeat' first | exact rfl | (refine @id.{0} _ ?_; constructor))
  | intro _
  | exact rfl
  | (refine @id.{0} _ ?_; constructor)
  | apply zB
  | apply IN
  | apply WR
  | apply LG
  | exact ()
theorem adK {x0:aM} {aU:Value} {aW:Value} {aR:Value} {aP:Value} {aV:Value} {aY:Value} {aS:Value} {aQ:Value} {bC:Value} {bF:Value} {x1:aM} {bT:Value} {bZ:Value} {bI:Value} {bG:Value} {bU:Value} {cA:Value} {bJ:Value} {bH:Value} {cJ:Value} {cM:Value} {x2:Bool} {x3:Int}:Ct Tryz.prog 143 false (lY x0 x1 x2 x3) [.agg #[.int .i64 (x0.aE.aA),aU,aW,aR,aP,.int .i64 (x0.aH.aA),aV,aY,aS,aQ,bC,bF],.agg #[.int .i64 (x1.aE.aA),bT,bZ,bI,bG,.int .i64 (x1.aH.aA),bU,cA,bJ,bH,cJ,cM],.bool (x2),.int .i64 (x3)] [.rd false (aB (aC .i64)) aU x0.aE.aF,.rd false (aB (aC .i64)) aW x0.aE.To,.rd false (aB (aC .i64)) aR x0.aE.aJ,.rd false (aB (aB (aC .i64))) aP x0.aE.aD,.rd false (aB (aC .i64)) aV x0.aH.aF,.rd false (aB (aC .i64)) aY x0.aH.To,.rd false (aB (aC .i64)) aS x0.aH.aJ,.rd false (aB (aB (aC .i64))) aQ x0.aH.aD,.rd false (aB (aC .i64)) bC x0.aA,.rd false (aB (aC .i64)) bF x0.ab,.rd false (aB (aC .i64)) bT x1.aE.aF,.rd false (aB (aC .i64)) bZ x1.aE.To,.rd false (aB (aC .i64)) bI x1.aE.aJ,.rd false (aB (aB (aC .i64))) bG x1.aE.aD,.rd false (aB (aC .i64)) bU x1.aH.aF,.rd false (aB (aC .i64)) cA x1.aH.To,.rd false (aB (aC .i64)) bJ x1.aH.aJ,.rd false (aB (aB (aC .i64))) bH x1.aH.aD,.rd false (aB (aC .i64)) cJ x1.aA,.rd false (aB (aC .i64)) cM x1.ab] (fun y (v:Value)=>[v]) (fun y v=>[.rd false (aB (aB (aC .i64))) v y]):=by
 refine ct (S:=Unit) tZ Tryz.func143 rfl rfl ?_
 repeat' first
  | ((first | show Dk.ER _ _ _ | show Dk.ba _ _ | show Dk.EF _ _ _ | show Dk.EO _ _ _ | show Dk.EP _ _ | show Dk.aX _ _ _ _ | show Dk.aq _ _ _ _ | show Dk.Kp _ _ _ _ | show Dk.bn _ _ | show Dk.bb _ _ _ _); repeat' first | exact rfl | (refine @id.{0} _ ?_; constructor))
  | intro _
  | exact rfl
  | apply Dk.yO (d:=40)
  | (refine Dk.ue (t:=61) rfl ?_ ?_)
  | (refine @id.{0} _ ?_; constructor)
  | apply Dk.loop 0 (V:=Value) (fun (s:(List (List Int))×Int) v=>[.own (aL 24 (aL 2 (aC .i64))) v s.1]) (fun s v=>[(10,v),(11,.int .i64 (s.2))]) _ [(2,_),(3,_),(4,_),(5,_),(9,_)]
  | apply Dk.loop 2 (V:=Value) (fun (s:(List Int)×Int) v=>[.own (aL 2 (aC .i64)) v s.1]) (fun s v=>[(13,v),(14,.int .i64 (s.2))]) _ [(2,_),(3,_),(4,_),(5,_),(12,_)]
  | apply Dk.loop 4 (V:=Value) (fun (s:(List Int)×Int) v=>[.own (aL 2 (aC .i64)) v s.1]) (fun s v=>[(15,v),(16,.int .i64 (s.2))]) _ [(2,_),(3,_),(4,_),(5,_),(12,_),(13,_),(14,_)]
  | apply Dk.Rh (id:=6) [(0,11)] 11 rfl (by kernel_rfl)
  | apply adz
  | apply adx
  | exact ()
theorem adL {x0:aM} {aU:Value} {aW:Value} {aR:Value} {aP:Value} {aV:Value} {aY:Value} {aS:Value} {aQ:Value} {bC:Value} {bF:Value}:Ct Tryz.prog 108 false (lB x0) [.agg #[.int .i64 (x0.aE.aA),aU,aW,aR,aP,.int .i64 (x0.aH.aA),aV,aY,aS,aQ,bC,bF]] [.rd false (aB (aC .i64)) aU x0.aE.aF,.rd false (aB (aC .i64)) aW x0.aE.To,.rd false (aB (aC .i64)) aR x0.aE.aJ,.rd false (aB (aB (aC .i64))) aP x0.aE.aD,.rd false (aB (aC .i64)) aV x0.aH.aF,.rd false (aB (aC .i64)) aY x0.aH.To,.rd false (aB (aC .i64)) aS x0.aH.aJ,.rd false (aB (aB (aC .i64))) aQ x0.aH.aD,.rd false (aB (aC .i64)) bC x0.aA,.rd false (aB (aC .i64)) bF x0.ab] (fun y (v:Value)=>[v]) (fun y v=>[.rd false (aB (iy kz)) v y]):=by
 refine ct (S:=Unit) tZ Tryz.func108 rfl rfl ?_
 repeat' first
  | ((first | show Dk.ER _ _ _ | show Dk.ba _ _ | show Dk.EF _ _ _ | show Dk.EO _ _ _ | show Dk.EP _ _ | show Dk.aX _ _ _ _ | show Dk.aq _ _ _ _ | show Dk.Kp _ _ _ _ | show Dk.bn _ _ | show Dk.bb _ _ _ _); repeat' first | exact rfl | (refine @id.{0} _ ?_; constructor))
  | intro _
  | exact rfl
  | apply Dk.Q7 (t:=83) (S:=kz)
  | apply Dk.UE (t:=83) (x:=.tmp 14)
  | apply Dk.VQ.TQ (t:=83) (x:=.tmp 27)
  | apply Dk.Q9 (t:=83) (bE.mk _ _)
  | (refine @id.{0} _ ?_; constructor)
  | apply Dk.vB 0 (V:=Value) (W:=List (List Value)) (fun (s:List bE×Int) v u=>[.own (aL 32 (ij 2)) v u,.rd false (tn kz) (.bool true) (u,s.1)]) (fun s v u=>[(3,v),(4,.int .i64 s.2)]) _ _ [(1,_)]
  | apply Dk.vB 2 (V:=Value) (W:=List (List Value)) (fun (s:List bE×Int) v u=>[.own (aL 32 (ij 2)) v u,.rd false (tn kz) (.bool true) (u,s.1)]) (fun s v u=>[(3,v),(6,.int .i64 s.2)]) _ _ [(1,_),(4,_),(5,_)]
  | apply Dk.any (id:=5) 10 [] [] [[],[0],[],[2],[],[1,0,3,2,4],[],[],[7],[8,7]] (by kernel_rfl)
  | apply Xi
  | apply adK
  | exact ()
theorem c69 {x0:aM} {aU:Value} {aW:Value} {aR:Value} {aP:Value} {aV:Value} {aY:Value} {aS:Value} {aQ:Value} {bC:Value} {bF:Value}:Ct Tryz.prog 69 false (lZ x0) [.agg #[.int .i64 (x0.aE.aA),aU,aW,aR,aP,.int .i64 (x0.aH.aA),aV,aY,aS,aQ,bC,bF]] [.rd false (aB (aC .i64)) aU x0.aE.aF,.rd false (aB (aC .i64)) aW x0.aE.To,.rd false (aB (aC .i64)) aR x0.aE.aJ,.rd false (aB (aB (aC .i64))) aP x0.aE.aD,.rd false (aB (aC .i64)) aV x0.aH.aF,.rd false (aB (aC .i64)) aY x0.aH.To,.rd false (aB (aC .i64)) aS x0.aH.aJ,.rd false (aB (aB (aC .i64))) aQ x0.aH.aD,.rd false (aB (aC .i64)) bC x0.aA,.rd false (aB (aC .i64)) bF x0.ab] (fun y (v:Value)=>[v,.int .i64 y.2]) (fun y v=>[.rd false (aB (iy kz)) v y.1]):=by
 refine ct (S:=Unit) tZ Tryz.func69 rfl rfl ?_
 repeat' first
  | ((first | show Dk.ER _ _ _ | show Dk.ba _ _ | show Dk.EF _ _ _ | show Dk.EO _ _ _ | show Dk.EP _ _ | show Dk.aX _ _ _ _ | show Dk.aq _ _ _ _ | show Dk.Kp _ _ _ _ | show Dk.bn _ _ | show Dk.bb _ _ _ _); repeat' first | exact rfl | (refine @id.{0} _ ?_; constructor))
  | intro _
  | exact rfl
  | (refine @id.{0} _ ?_; constructor)
  | apply adL
  | exact ()
theorem c88 {x0:aM} {aU:Value} {aW:Value} {aR:Value} {aP:Value} {aV:Value} {aY:Value} {aS:Value} {aQ:Value} {bC:Value} {bF:Value} {x1:aM} {bT:Value} {bZ:Value} {bI:Value} {bG:Value} {bU:Value} {cA:Value} {bJ:Value} {bH:Value} {cJ:Value} {cM:Value}:Ct Tryz.prog 88 false (qX x0 x1) [.agg #[.int .i64 (x0.aE.aA),aU,aW,aR,aP,.int .i64 (x0.aH.aA),aV,aY,aS,aQ,bC,bF],.agg #[.int .i64 (x1.aE.aA),bT,bZ,bI,bG,.int .i64 (x1.aH.aA),bU,cA,bJ,bH,cJ,cM]] [.rd false (aB (aC .i64)) aU x0.aE.aF,.rd false (aB (aC .i64)) aW x0.aE.To,.rd false (aB (aC .i64)) aR x0.aE.aJ,.rd false (aB (aB (aC .i64))) aP x0.aE.aD,.rd false (aB (aC .i64)) aV x0.aH.aF,.rd false (aB (aC .i64)) aY x0.aH.To,.rd false (aB (aC .i64)) aS x0.aH.aJ,.rd false (aB (aB (aC .i64))) aQ x0.aH.aD,.rd false (aB (aC .i64)) bC x0.aA,.rd false (aB (aC .i64)) bF x0.ab,.rd false (aB (aC .i64)) bT x1.aE.aF,.rd false (aB (aC .i64)) bZ x1.aE.To,.rd false (aB (aC .i64)) bI x1.aE.aJ,.rd false (aB (aB (aC .i64))) bG x1.aE.aD,.rd false (aB (aC .i64)) bU x1.aH.aF,.rd false (aB (aC .i64)) cA x1.aH.To,.rd false (aB (aC .i64)) bJ x1.aH.aJ,.rd false (aB (aB (aC .i64))) bH x1.aH.aD,.rd false (aB (aC .i64)) cJ x1.aA,.rd false (aB (aC .i64)) cM x1.ab] (fun y (v:Value×Value)=>[v.1,v.2,.int .i64 y.2.2]) (fun y v=>[.rd false (aB (iy kz)) v.1 y.1,.rd false (aB (iy kz)) v.2 y.2.1]):=by
 refine ct (S:=Unit) tZ Tryz.func88 rfl rfl ?_
 repeat' first
  | ((first | show Dk.ER _ _ _ | show Dk.ba _ _ | show Dk.EF _ _ _ | show Dk.EO _ _ _ | show Dk.EP _ _ | show Dk.aX _ _ _ _ | show Dk.aq _ _ _ _ | show Dk.Kp _ _ _ _ | show Dk.bn _ _ | show Dk.bb _ _ _ _); repeat' first | exact rfl | (refine @id.{0} _ ?_; constructor))
  | intro _
  | exact rfl
  | (refine @id.{0} _ ?_; constructor)
  | apply c69
  | exact ()
end Go.Proofs.YtgjbmjjihmfppaaGreat
