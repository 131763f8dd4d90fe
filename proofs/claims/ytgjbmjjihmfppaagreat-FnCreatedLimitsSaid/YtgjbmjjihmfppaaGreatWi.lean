/- Walks by the calculus D. No condition beside those that each theorem names. -/
import Derived.Test.YtgjbmjjihmfppaaGreatDp
import Derived.Test.YtgjbmjjihmfppaaGreatDi
import Derived.Test.YtgjbmjjihmfppaaGreatMo
import Derived.Test.YtgjbmjjihmfppaaGreatDs
import Derived.Test.YtgjbmjjihmfppaaGreatWa
import Derived.Test.YtgjbmjjihmfppaaGreatWb
import Derived.Test.YtgjbmjjihmfppaaGreatWc
import Derived.Test.YtgjbmjjihmfppaaGreatWd
import Derived.Test.YtgjbmjjihmfppaaGreatWe
import Derived.Test.YtgjbmjjihmfppaaGreatWf
import Derived.Test.YtgjbmjjihmfppaaGreatWg
import Derived.Test.YtgjbmjjihmfppaaGreatWh
namespace Go.Proofs.YtgjbmjjihmfppaaGreat
open Go Go.Li Go.Dk
set_option linter.unusedVariables false
set_option maxHeartbeats 16000000
set_option maxRecDepth 100000
theorem afM {x0:aG} {aU bB aN aL:Value} {x1:aG} {bU cG bD bA:Value}:Ct Tryz.prog 154 true (gX x0 x1) [.agg #[.int .i64 (x0.aA),aU,bB,aN,aL],.agg #[.int .i64 (x1.aA),bU,cG,bD,bA]] [rI aU x0.aE,rI bB x0.To,rI aN x0.aH,rJ aL x0.aB,rI bU x1.aE,rI cG x1.To,rI bD x1.aH,rJ bA x1.aB] (fun y (v:Value×Value×Value×Value)=>match v with | (q0,q1,q2,q3)=>[.agg #[.int .i64 y.aA,q0,q1,q2,q3]]) (fun y v=>match v with | (q0,q1,q2,q3)=>[.own (aJ 2 (aM .i64)) q0 y.aE,.own (aJ 2 (aM .i64)) q1 y.To,.own (aJ 2 (aM .i64)) q2 y.aH,.own (aJ 24 (aJ 2 (aM .i64))) q3 y.aB]):=by
 refine ct (S:=Unit) (ca fun _ _=>rfl) Tryz.func154 rfl rfl ?_
 repeat' first
  | (apply Dk.fe; repeat' first | exact rfl | (refine @id.{0} _ ?_; constructor))
  | intro _
  | exact rfl
  | (refine Dk.ve (t:=60) rfl ?_ ?_)
  | (refine @id.{0} _ ?_; constructor)
  | apply Dk.jr 0 (V:=Value×Value) (A:=Nat×Value×Value×Value) (_,_,_,_) (fun a (s:Int×(List Int)×(List Int)) v=>Dk.pc (fun a0=>Dk.pc (fun a1=>Dk.pc (fun a2 a3=>[.row a0 [a1,v.1,v.2,a2,a3] 27,.own (aJ 2 (aM .i64)) v.1 s.2.1,.own (aJ 2 (aM .i64)) v.2 s.2.2]))) a) (fun a s v=>Dk.pc (fun a0=>Dk.pc (fun a1=>Dk.pc (fun a2 a3=>[(5,.pointer (some ⟨a0,0,none⟩)),(7,.int .i64 (s.1))]))) a) (_,_) [(2,_),(3,_),(4,_),(6,_)]
  | apply Dk.jr 2 (V:=Value×Value) (A:=Nat×Value×Value×Value) (_,_,_,_) (fun a (s:Int×(List Int)×(List Int)) v=>Dk.pc (fun a0=>Dk.pc (fun a1=>Dk.pc (fun a2 a3=>[.row a0 [a1,v.1,v.2,a2,a3] 27,.own (aJ 2 (aM .i64)) v.1 s.2.1,.own (aJ 2 (aM .i64)) v.2 s.2.2]))) a) (fun a s v=>Dk.pc (fun a0=>Dk.pc (fun a1=>Dk.pc (fun a2 a3=>[(5,.pointer (some ⟨a0,0,none⟩)),(8,.int .i64 (s.1))]))) a) (_,_) [(2,_),(3,_),(4,_),(6,_),(7,_)]
  | apply Dk.loop 4 (V:=Value) (fun (s:(List (List Int))×Int) v=>[.own (aJ 24 (aJ 2 (aM .i64))) v s.1]) (fun s v=>[(9,v),(10,.int .i64 (s.2))]) _ [(2,_),(3,_),(4,_),(5,_),(6,_)]
  | apply Dk.loop 6 (V:=Value) (fun (s:(List Int)×Int) v=>[.own (aJ 2 (aM .i64)) v s.1]) (fun s v=>[(11,v),(12,.int .i64 (s.2))]) _ [(2,_),(3,_),(4,_),(5,_),(6,_),(9,_),(10,_)]
  | apply Dk.quiet (id:=20) (by kernel_rfl)
  | apply Dk.quiet (id:=21) (by kernel_rfl)
  | apply Y1
  | exact ()
theorem afN {x0:aK} {dC:Nat} {cA:Value}:Ct Tryz.prog 131 true (gN x0) [.pointer (some (⟨dC,0,none⟩))] [.row dC [cA,.int .i64 (x0.At),.int .u64 (x0.au)] 81,.rd false (bL (aM .u8)) cA x0.Code] (fun y (v:Value×Value×Value×Value)=>[.agg #[.int .i64 y.1.aA,v.1,v.2.1,v.2.2.1,v.2.2.2]]) (fun y v=>[.own (aJ 2 (aM .i64)) v.1 y.1.aE,.own (aJ 2 (aM .i64)) v.2.1 y.1.To,.own (aJ 2 (aM .i64)) v.2.2.1 y.1.aH,.own (aJ 24 (aJ 2 (aM .i64))) v.2.2.2 y.1.aB,.row dC [cA,.int .i64 y.2.At,.int .u64 y.2.au] 81]):=by
 refine ct (S:=Unit) (ca fun _ _=>rfl) Tryz.func131 rfl rfl ?_
 repeat' first
  | (apply Dk.fe; repeat' first | exact rfl | (refine @id.{0} _ ?_; constructor))
  | intro _
  | exact rfl
  | (refine Dk.ve (t:=59) rfl ?_ ?_)
  | (refine @id.{0} _ ?_; constructor)
  | apply Dk.loop 1 (V:=Value) (fun (s:(List (List Int))×Int) v=>[.own (aJ 24 (aJ 2 (aM .i64))) v s.1]) (fun s v=>[(4,v),(5,.int .i64 (s.2))]) _ [(2,_),(3,_)]
  | apply Dk.loop 3 (V:=Value) (fun (s:(List Int)×Int) v=>[.own (aJ 2 (aM .i64)) v s.1]) (fun s v=>[(6,v),(7,.int .i64 (s.2))]) _ [(2,_),(3,_),(4,_),(5,_)]
  | apply Dk.loop 5 (V:=Value×Value) (fun (s:(List Int)×(List Int)×Int×Int×Int) v=>[.row dC [cA,.int .i64 (s.2.2.2.1),.int .u64 (s.2.2.2.2)] 81,.own (aJ 2 (aM .i64)) v.1 s.1,.own (aJ 2 (aM .i64)) v.2 s.2.1]) (fun s v=>[(9,v.1),(10,v.2),(11,.int .i64 (s.2.2.1))]) (_,_) [(0,_),(2,_),(8,_)]
  | apply AL
  | apply afj
  | apply JV
  | apply Y2
  | apply YU
  | apply Y3
  | apply YN
  | apply afM
  | apply c72
  | exact ()
theorem Nb {x0:aK} {dC:Nat} {cA:Value} {x1:Int} {x2:Int}:Ct Tryz.prog 101 true (iZ x0 x1 x2) [.pointer (some (⟨dC,0,none⟩)),.int .i64 (x1),.int .i64 (x2)] [.row dC [cA,.int .i64 (x0.At),.int .u64 (x0.au)] 81,.rd false (bL (aM .u8)) cA x0.Code] (fun y (v:Value×Value×Value×Value)=>[.agg #[.int .i64 y.1.aA,v.1,v.2.1,v.2.2.1,v.2.2.2]]) (fun y v=>[.own (aJ 2 (aM .i64)) v.1 y.1.aE,.own (aJ 2 (aM .i64)) v.2.1 y.1.To,.own (aJ 2 (aM .i64)) v.2.2.1 y.1.aH,.own (aJ 24 (aJ 2 (aM .i64))) v.2.2.2 y.1.aB,.row dC [cA,.int .i64 y.2.At,.int .u64 y.2.au] 81]):=by
 refine ct (S:=Unit) (ca fun _ _=>rfl) Tryz.func101 rfl rfl ?_
 repeat' first
  | (apply Dk.fe; repeat' first | exact rfl | (refine @id.{0} _ ?_; constructor))
  | intro _
  | exact rfl
  | (refine @id.{0} _ ?_; constructor)
  | apply Dk.loop 0 (V:=Unit) (fun (s:Int×Int×Int) v=>[.row dC [cA,.int .i64 (s.2.1),.int .u64 (s.2.2)] 81]) (fun s v=>[(7,.int .i64 (s.1))]) () [(0,_),(1,_),(2,_),(6,_)]
  | apply Dk.xD (id:=6) [Dk.aX.row _ _ 81] 3 [] [[],[],[5]] [[],[],[1]] (by kernel_rfl)
  | apply Dk.xD (id:=8) [Dk.aX.row _ _ 81] 3 [] [[],[],[5]] [[],[],[1]] (by kernel_rfl)
  | apply afN
  | apply AL
  | apply Y1
  | apply afc
  | apply YT
  | apply JV
  | exact ()
theorem Y7 {rc:aG→aG→(List Int)→(List aI)→Option ((List aI))} (ih:∀ {x0:aG} {aU bB aN aL:Value} {x1:aG} {bU cG bD bA:Value} {x2:(List Int)} {eC:Value} {x3:(List aI)} {fX:Value},Ct Tryz.prog 122 true (rc x0 x1 x2 x3) [.agg #[.int .i64 (x0.aA),aU,bB,aN,aL],.agg #[.int .i64 (x1.aA),bU,cG,bD,bA],eC,fX] [rI aU x0.aE,rI bB x0.To,rI aN x0.aH,rJ aL x0.aB,rI bU x1.aE,rI cG x1.To,rI bD x1.aH,rJ bA x1.aB,rI eC x2,.own (aJ 29 uP) fX x3] (fun y (v:Value)=>[v]) (fun y v=>[.own (aJ 29 uP) v y])) {x0:aG} {aU bB aN aL:Value} {x1:aG} {bU cG bD bA:Value} {x2:(List Int)} {eC:Value} {x3:(List aI)} {fX:Value}:Ct Tryz.prog 122 true (lA rc x0 x1 x2 x3) [.agg #[.int .i64 (x0.aA),aU,bB,aN,aL],.agg #[.int .i64 (x1.aA),bU,cG,bD,bA],eC,fX] [rI aU x0.aE,rI bB x0.To,rI aN x0.aH,rJ aL x0.aB,rI bU x1.aE,rI cG x1.To,rI bD x1.aH,rJ bA x1.aB,rI eC x2,.own (aJ 29 uP) fX x3] (fun y (v:Value)=>[v]) (fun y v=>[.own (aJ 29 uP) v y]):=by
 refine ct (S:=Unit) (ca fun _ _=>rfl) Tryz.func122 rfl rfl ?_
 repeat' first
  | (apply Dk.fe; repeat' first | exact rfl | (refine @id.{0} _ ?_; constructor))
  | intro _
  | exact rfl
  | apply Dk.N9 (t:=104)
  | apply ih
  | apply Dk.apO (t:=104) (S:=uP) (aI.mk (aG.mk _ _ _ _ _) (aG.mk _ _ _ _ _) _ _)
  | (refine @id.{0} _ ?_; constructor)
  | apply Dk.loop 0 (V:=Value) (fun (s:(List Int)×Int) v=>[.own (aJ 2 (aM .i64)) v s.1]) (fun s v=>[(9,v),(10,.int .i64 (s.2))]) _ [(2,_),(3,_),(4,_),(5,_)]
  | apply Dk.jr 2 (V:=Unit) (A:=Value) _ (fun a (s:Int×(List Int)) v=>[.own (aJ 2 (aM .i64)) a s.2]) (fun a s v=>[(9,a),(11,.int .i64 (s.1))]) () [(2,_),(3,_),(4,_),(5,_)]
  | apply Dk.loop 4 (V:=Value) (fun (s:(List aI)×Int) v=>[.own (aJ 29 uP) v s.1]) (fun s v=>[(3,v),(13,.int .i64 (s.2))]) _ [(2,_),(4,_),(5,_),(12,_)]
  | apply Dk.loop 6 (V:=Value) (fun (s:(List aI)×Int) v=>[.own (aJ 29 uP) v s.1]) (fun s v=>[(3,v),(14,.int .i64 (s.2))]) _ [(2,_),(4,_),(5,_)]
  | apply Dk.any (id:=12) 14 [] [] [[],[],[1],[],[2,1,3],[4,2,1,3],[],[6],[],[],[8,9],[10,8,9],[7,6,11,10,8,9],[12,7,6,11,10,8,9]] (by kernel_rfl)
  | apply Dk.any (id:=22) 8 [] [[],[],[],[],[],[],[3],[]] [[],[],[],[2],[],[4],[3,2,5,4,3,2],[]] (by kernel_rfl)
  | apply Dk.S7 (id:=17) [(0,8)] 8 rfl (by kernel_rfl)
  | apply ae5
  | apply ae7
  | apply TJ
  | apply z8
  | exact ()
theorem Y8 (n:Nat):∀ {x0:aG} {aU bB aN aL:Value} {x1:aG} {bU cG bD bA:Value} {x2:(List Int)} {eC:Value} {x3:(List aI)} {fX:Value},Ct Tryz.prog 122 true (gQ n x0 x1 x2 x3) [.agg #[.int .i64 (x0.aA),aU,bB,aN,aL],.agg #[.int .i64 (x1.aA),bU,cG,bD,bA],eC,fX] [rI aU x0.aE,rI bB x0.To,rI aN x0.aH,rJ aL x0.aB,rI bU x1.aE,rI cG x1.To,rI bD x1.aH,rJ bA x1.aB,rI eC x2,.own (aJ 29 uP) fX x3] (fun y (v:Value)=>[v]) (fun y v=>[.own (aJ 29 uP) v y]):=by
 induction n with
 | zero=>intros; rw [r7]; exact ⟨(ca fun _ _=>rfl),fun _ _ _ _ _ _ _ y hy=>nomatch (show none=some y from hy)⟩
 | succ n ih=>exact Y7 ih
theorem afO {x0:aG} {aU bB aN aL:Value} {x1:aG} {bU cG bD bA:Value} {x2:(List Int)} {eC:Value} {x3:(List aI)} {fX:Value}:Ct Tryz.prog 122 true (gQ 64 x0 x1 x2 x3) [.agg #[.int .i64 (x0.aA),aU,bB,aN,aL],.agg #[.int .i64 (x1.aA),bU,cG,bD,bA],eC,fX] [rI aU x0.aE,rI bB x0.To,rI aN x0.aH,rJ aL x0.aB,rI bU x1.aE,rI cG x1.To,rI bD x1.aH,rJ bA x1.aB,rI eC x2,.own (aJ 29 uP) fX x3] (fun y (v:Value)=>[v]) (fun y v=>[.own (aJ 29 uP) v y]):=by
 exact Y8 64
theorem Y9 {x0:aG} {aU bB aN aL:Value} {x1:aG} {bU cG bD bA:Value}:Ct Tryz.prog 82 true (jX x0 x1) [.agg #[.int .i64 (x0.aA),aU,bB,aN,aL],.agg #[.int .i64 (x1.aA),bU,cG,bD,bA]] [rI aU x0.aE,rI bB x0.To,rI aN x0.aH,rJ aL x0.aB,rI bU x1.aE,rI cG x1.To,rI bD x1.aH,rJ bA x1.aB] (fun y (v:Value)=>[v]) (fun y v=>[.own (aJ 29 uP) v y]):=by
 refine ct (S:=Unit) (ca fun _ _=>rfl) Tryz.func82 rfl rfl ?_
 repeat' first
  | (apply Dk.fe; repeat' first | exact rfl | (refine @id.{0} _ ?_; constructor))
  | intro _
  | exact rfl
  | apply Dk.WQ (t:=104) uP
  | (refine @id.{0} _ ?_; constructor)
  | apply afO
  | exact ()
theorem Za {x0:aG} {aU bB aN aL:Value} {x1:aG} {bU cG bD bA:Value} {x2:Int}:Ct Tryz.prog 123 true (eJ x0 x1 x2) [.agg #[.int .i64 (x0.aA),aU,bB,aN,aL],.agg #[.int .i64 (x1.aA),bU,cG,bD,bA],.int .i64 (x2)] [rI aU x0.aE,rI bB x0.To,rI aN x0.aH,rJ aL x0.aB,rI bU x1.aE,rI cG x1.To,rI bD x1.aH,rJ bA x1.aB] (fun y (v:Value×Value×Value×Value×Value×Value×Value×Value×Value×Value)=>[.agg #[.int .i64 y.aC.aA,v.1,v.2.1,v.2.2.1,v.2.2.2.1,.int .i64 y.aD.aA,v.2.2.2.2.1,v.2.2.2.2.2.1,v.2.2.2.2.2.2.1,v.2.2.2.2.2.2.2.1,v.2.2.2.2.2.2.2.2.1,v.2.2.2.2.2.2.2.2.2]]) (fun y v=>[.own (aJ 2 (aM .i64)) v.1 y.aC.aE,.own (aJ 2 (aM .i64)) v.2.1 y.aC.To,.own (aJ 2 (aM .i64)) v.2.2.1 y.aC.aH,.own (aJ 24 (aJ 2 (aM .i64))) v.2.2.2.1 y.aC.aB,.own (aJ 2 (aM .i64)) v.2.2.2.2.1 y.aD.aE,.own (aJ 2 (aM .i64)) v.2.2.2.2.2.1 y.aD.To,.own (aJ 2 (aM .i64)) v.2.2.2.2.2.2.1 y.aD.aH,.own (aJ 24 (aJ 2 (aM .i64))) v.2.2.2.2.2.2.2.1 y.aD.aB,.own (aJ 2 (aM .i64)) v.2.2.2.2.2.2.2.2.1 y.aA,.own (aJ 2 (aM .i64)) v.2.2.2.2.2.2.2.2.2 y.ab]):=by
 refine ct (S:=Unit) (ca fun _ _=>rfl) Tryz.func123 rfl rfl ?_
 repeat' first
  | (apply Dk.fe; repeat' first | exact rfl | (refine @id.{0} _ ?_; constructor))
  | intro _
  | exact rfl
  | (refine @id.{0} _ ?_; constructor)
  | apply Dk.loop 0 (V:=Value) (fun (s:(List Int)×Int) v=>[.own (aJ 2 (aM .i64)) v s.1]) (fun s v=>[(7,v),(9,.int .i64 (s.2))]) _ [(2,_),(3,_),(4,_),(6,_),(8,_)]
  | apply Dk.loop 2 (V:=Value) (fun (s:(List Int)×Int) v=>[.own (aJ 2 (aM .i64)) v s.1]) (fun s v=>[(8,v),(10,.int .i64 (s.2))]) _ [(2,_),(3,_),(4,_),(6,_),(7,_)]
  | apply TJ
  | exact ()
theorem Zb {x0:aG} {aU bB aN aL:Value}:Ct Tryz.prog 79 true (fP x0) [.agg #[.int .i64 (x0.aA),aU,bB,aN,aL]] [rI aU x0.aE,rI bB x0.To,rI aN x0.aH,rJ aL x0.aB] (fun y (v:Value×Value×Value×Value×Value×Value×Value×Value×Value×Value)=>[.agg #[.int .i64 y.aC.aA,v.1,v.2.1,v.2.2.1,v.2.2.2.1,.int .i64 y.aD.aA,v.2.2.2.2.1,v.2.2.2.2.2.1,v.2.2.2.2.2.2.1,v.2.2.2.2.2.2.2.1,v.2.2.2.2.2.2.2.2.1,v.2.2.2.2.2.2.2.2.2]]) (fun y v=>[.own (aJ 2 (aM .i64)) v.1 y.aC.aE,.own (aJ 2 (aM .i64)) v.2.1 y.aC.To,.own (aJ 2 (aM .i64)) v.2.2.1 y.aC.aH,.own (aJ 24 (aJ 2 (aM .i64))) v.2.2.2.1 y.aC.aB,.own (aJ 2 (aM .i64)) v.2.2.2.2.1 y.aD.aE,.own (aJ 2 (aM .i64)) v.2.2.2.2.2.1 y.aD.To,.own (aJ 2 (aM .i64)) v.2.2.2.2.2.2.1 y.aD.aH,.own (aJ 24 (aJ 2 (aM .i64))) v.2.2.2.2.2.2.2.1 y.aD.aB,.own (aJ 2 (aM .i64)) v.2.2.2.2.2.2.2.2.1 y.aA,.own (aJ 2 (aM .i64)) v.2.2.2.2.2.2.2.2.2 y.ab]):=by
 refine ct (S:=Unit) (ca fun _ _=>rfl) Tryz.func79 rfl rfl ?_
 repeat' first
  | (apply Dk.fe; repeat' first | exact rfl | (refine @id.{0} _ ?_; constructor))
  | intro _
  | exact rfl
  | (refine @id.{0} _ ?_; constructor)
  | apply Dk.loop 0 (V:=Value) (fun (s:(List Int)×Int) v=>[.own (aJ 2 (aM .i64)) v s.1]) (fun s v=>[(3,v),(5,.int .i64 (s.2))]) _ [(1,_),(2,_),(4,_)]
  | apply Dk.loop 2 (V:=Value) (fun (s:(List Int)×Int) v=>[.own (aJ 2 (aM .i64)) v s.1]) (fun s v=>[(4,v),(6,.int .i64 (s.2))]) _ [(1,_),(2,_),(3,_)]
  | apply TJ
  | exact ()
theorem c83 {x0:aK} {dC:Nat} {cA:Value} {x1:aG} {bU cG bD bA:Value} {x2:Int} {x3:Int}:Ct Tryz.prog 83 true (jB x0 x1 x2 x3) [.pointer (some (⟨dC,0,none⟩)),.agg #[.int .i64 (x1.aA),bU,cG,bD,bA],.int .i64 (x2),.int .i64 (x3)] [.row dC [cA,.int .i64 (x0.At),.int .u64 (x0.au)] 81,.rd false (bL (aM .u8)) cA x0.Code,rI bU x1.aE,rI cG x1.To,rI bD x1.aH,rJ bA x1.aB] (fun y (v:Value×Value×Value×Value×Value×Value×Value×Value×Value×Value)=>[.agg #[.int .i64 y.1.aC.aA,v.1,v.2.1,v.2.2.1,v.2.2.2.1,.int .i64 y.1.aD.aA,v.2.2.2.2.1,v.2.2.2.2.2.1,v.2.2.2.2.2.2.1,v.2.2.2.2.2.2.2.1,v.2.2.2.2.2.2.2.2.1,v.2.2.2.2.2.2.2.2.2]]) (fun y v=>[.own (aJ 2 (aM .i64)) v.1 y.1.aC.aE,.own (aJ 2 (aM .i64)) v.2.1 y.1.aC.To,.own (aJ 2 (aM .i64)) v.2.2.1 y.1.aC.aH,.own (aJ 24 (aJ 2 (aM .i64))) v.2.2.2.1 y.1.aC.aB,.own (aJ 2 (aM .i64)) v.2.2.2.2.1 y.1.aD.aE,.own (aJ 2 (aM .i64)) v.2.2.2.2.2.1 y.1.aD.To,.own (aJ 2 (aM .i64)) v.2.2.2.2.2.2.1 y.1.aD.aH,.own (aJ 24 (aJ 2 (aM .i64))) v.2.2.2.2.2.2.2.1 y.1.aD.aB,.own (aJ 2 (aM .i64)) v.2.2.2.2.2.2.2.2.1 y.1.aA,.own (aJ 2 (aM .i64)) v.2.2.2.2.2.2.2.2.2 y.1.ab,.row dC [cA,.int .i64 y.2.At,.int .u64 y.2.au] 81]):=by
 refine ct (S:=Unit) (ca fun _ _=>rfl) Tryz.func83 rfl rfl ?_
 repeat' first
  | (apply Dk.fe; repeat' first | exact rfl | (refine @id.{0} _ ?_; constructor))
  | intro _
  | exact rfl
  | apply Dk.N9 (t:=104)
  | apply Dk.WR (t:=104)
  | apply Dk.N4 (n:=12)
  | apply Dk.N3 (n:=12)
  | apply Dk.Mi (n:=12)
  | (apply Dk.N8 (t:=38); exact rfl)
  | (refine @id.{0} _ ?_; constructor)
  | apply Dk.xD (id:=7) [Dk.aX.row _ _ 81] 6 [] [[],[],[],[],[],[8]] [[],[],[],[],[3],[2,4,3]] (by kernel_rfl)
  | apply Nb
  | apply YY
  | apply Y9
  | apply AL
  | apply Za
  | apply Zb
  | exact ()
theorem afP {x0:aK} {dC:Nat} {cA:Value}:Ct Tryz.prog 103 true (nN x0) [.pointer (some (⟨dC,0,none⟩))] [.row dC [cA,.int .i64 (x0.At),.int .u64 (x0.au)] 81,.rd false (bL (aM .u8)) cA x0.Code] (fun y (v:Value×Value×Value×Value)=>[.agg #[.int .i64 y.1.aA,v.1,v.2.1,v.2.2.1,v.2.2.2]]) (fun y v=>[.own (aJ 2 (aM .i64)) v.1 y.1.aE,.own (aJ 2 (aM .i64)) v.2.1 y.1.To,.own (aJ 2 (aM .i64)) v.2.2.1 y.1.aH,.own (aJ 24 (aJ 2 (aM .i64))) v.2.2.2 y.1.aB,.row dC [cA,.int .i64 y.2.At,.int .u64 y.2.au] 81]):=by
 refine ct (S:=Unit) (ca fun _ _=>rfl) Tryz.func103 rfl rfl ?_
 repeat' first
  | (apply Dk.fe; repeat' first | exact rfl | (refine @id.{0} _ ?_; constructor))
  | intro _
  | exact rfl
  | (refine @id.{0} _ ?_; constructor)
  | apply AL
  | apply JV
  | apply YW
  | apply Y2
  | apply c72
  | apply YU
  | apply Y3
  | apply Nb
  | exact ()
theorem c80 {x0:aK} {dC:Nat} {cA:Value}:Ct Tryz.prog 80 true (kK x0) [.pointer (some (⟨dC,0,none⟩))] [.row dC [cA,.int .i64 (x0.At),.int .u64 (x0.au)] 81,.rd false (bL (aM .u8)) cA x0.Code] (fun y (v:Value×Value×Value×Value)=>[.agg #[.int .i64 y.1.aA,v.1,v.2.1,v.2.2.1,v.2.2.2]]) (fun y v=>[.own (aJ 2 (aM .i64)) v.1 y.1.aE,.own (aJ 2 (aM .i64)) v.2.1 y.1.To,.own (aJ 2 (aM .i64)) v.2.2.1 y.1.aH,.own (aJ 24 (aJ 2 (aM .i64))) v.2.2.2 y.1.aB,.row dC [cA,.int .i64 y.2.At,.int .u64 y.2.au] 81]):=by
 refine ct (S:=Unit) (ca fun _ _=>rfl) Tryz.func80 rfl rfl ?_
 repeat' first
  | (apply Dk.fe; repeat' first | exact rfl | (refine @id.{0} _ ?_; constructor))
  | intro _
  | exact rfl
  | (refine @id.{0} _ ?_; constructor)
  | apply AL
  | apply JV
  | apply YN
  | apply Nb
  | exact ()
theorem afQ {x0:aI} {aS aV aQ aO aT aW aR aP bC bG:Value} {x1:aI} {bV cB bN bH bW cC bP bI cL cQ:Value} {x2:Bool} {x3:Int}:Ct Tryz.prog 143 false (mK x0 x1 x2 x3) [.agg #[.int .i64 (x0.aC.aA),aS,aV,aQ,aO,.int .i64 (x0.aD.aA),aT,aW,aR,aP,bC,bG],.agg #[.int .i64 (x1.aC.aA),bV,cB,bN,bH,.int .i64 (x1.aD.aA),bW,cC,bP,bI,cL,cQ],.bool (x2),.int .i64 (x3)] [rI aS x0.aC.aE,rI aV x0.aC.To,rI aQ x0.aC.aH,rJ aO x0.aC.aB,rI aT x0.aD.aE,rI aW x0.aD.To,rI aR x0.aD.aH,rJ aP x0.aD.aB,rI bC x0.aA,rI bG x0.ab,rI bV x1.aC.aE,rI cB x1.aC.To,rI bN x1.aC.aH,rJ bH x1.aC.aB,rI bW x1.aD.aE,rI cC x1.aD.To,rI bP x1.aD.aH,rJ bI x1.aD.aB,rI cL x1.aA,rI cQ x1.ab] (fun y (v:Value)=>[v]) (fun y v=>[rJ v y]):=by
 refine ct (S:=Unit) u9 Tryz.func143 rfl rfl ?_
 repeat' first
  | (apply Dk.fe; repeat' first | exact rfl | (refine @id.{0} _ ?_; constructor))
  | intro _
  | exact rfl
  | apply Dk.zV (d:=40)
  | (refine Dk.ve (t:=61) rfl ?_ ?_)
  | (refine @id.{0} _ ?_; constructor)
  | apply Dk.loop 0 (V:=Value) (fun (s:(List (List Int))×Int) v=>[.own (aJ 24 (aJ 2 (aM .i64))) v s.1]) (fun s v=>[(10,v),(11,.int .i64 (s.2))]) _ [(2,_),(3,_),(4,_),(5,_),(9,_)]
  | apply Dk.loop 2 (V:=Value) (fun (s:(List Int)×Int) v=>[.own (aJ 2 (aM .i64)) v s.1]) (fun s v=>[(13,v),(14,.int .i64 (s.2))]) _ [(2,_),(3,_),(4,_),(5,_),(12,_)]
  | apply Dk.loop 4 (V:=Value) (fun (s:(List Int)×Int) v=>[.own (aJ 2 (aM .i64)) v s.1]) (fun s v=>[(15,v),(16,.int .i64 (s.2))]) _ [(2,_),(3,_),(4,_),(5,_),(12,_),(13,_),(14,_)]
  | apply Dk.S7 (id:=6) [(0,11)] 11 rfl (by kernel_rfl)
  | apply afH
  | apply afF
  | exact ()
theorem afR {x0:aI} {aS aV aQ aO aT aW aR aP bC bG:Value}:Ct Tryz.prog 108 false (lL x0) [.agg #[.int .i64 (x0.aC.aA),aS,aV,aQ,aO,.int .i64 (x0.aD.aA),aT,aW,aR,aP,bC,bG]] [rI aS x0.aC.aE,rI aV x0.aC.To,rI aQ x0.aC.aH,rJ aO x0.aC.aB,rI aT x0.aD.aE,rI aW x0.aD.To,rI aR x0.aD.aH,rJ aP x0.aD.aB,rI bC x0.aA,rI bG x0.ab] (fun y (v:Value)=>[v]) (fun y v=>[.rd false (bL (iu kj)) v y]):=by
 refine ct (S:=Unit) u9 Tryz.func108 rfl rfl ?_
 repeat' first
  | (apply Dk.fe; repeat' first | exact rfl | (refine @id.{0} _ ?_; constructor))
  | intro _
  | exact rfl
  | apply Dk.SY (t:=83) (S:=kj)
  | apply Dk.SZ (t:=83) (x:=.tmp 14)
  | apply Dk.VQ.VO (t:=83) (x:=.tmp 27)
  | apply Dk.N5 (t:=83) (aZ.mk _ _)
  | (refine @id.{0} _ ?_; constructor)
  | apply Dk.vL 0 (V:=Value) (W:=List (List Value)) (fun (s:List aZ×Int) v u=>[.own (aJ 32 (ef 2)) v u,.rd false (qf kj) (.bool true) (u,s.1)]) (fun s v u=>[(3,v),(4,.int .i64 s.2)]) _ _ [(1,_)]
  | apply Dk.vL 2 (V:=Value) (W:=List (List Value)) (fun (s:List aZ×Int) v u=>[.own (aJ 32 (ef 2)) v u,.rd false (qf kj) (.bool true) (u,s.1)]) (fun s v u=>[(3,v),(6,.int .i64 s.2)]) _ _ [(1,_),(4,_),(5,_)]
  | apply Dk.any (id:=5) 10 [] [] [[],[0],[],[2],[],[1,0,3,2,4],[],[],[7],[8,7]] (by kernel_rfl)
  | apply Za
  | apply afQ
  | exact ()
theorem c69 {x0:aI} {aS aV aQ aO aT aW aR aP bC bG:Value}:Ct Tryz.prog 69 false (mL x0) [.agg #[.int .i64 (x0.aC.aA),aS,aV,aQ,aO,.int .i64 (x0.aD.aA),aT,aW,aR,aP,bC,bG]] [rI aS x0.aC.aE,rI aV x0.aC.To,rI aQ x0.aC.aH,rJ aO x0.aC.aB,rI aT x0.aD.aE,rI aW x0.aD.To,rI aR x0.aD.aH,rJ aP x0.aD.aB,rI bC x0.aA,rI bG x0.ab] (fun y (v:Value)=>[v,.int .i64 y.2]) (fun y v=>[.rd false (bL (iu kj)) v y.1]):=by
 refine ct (S:=Unit) u9 Tryz.func69 rfl rfl ?_
 repeat' first
  | (apply Dk.fe; repeat' first | exact rfl | (refine @id.{0} _ ?_; constructor))
  | intro _
  | exact rfl
  | (refine @id.{0} _ ?_; constructor)
  | apply afR
  | exact ()
theorem c88 {x0:aI} {aS aV aQ aO aT aW aR aP bC bG:Value} {x1:aI} {bV cB bN bH bW cC bP bI cL cQ:Value}:Ct Tryz.prog 88 false (mM x0 x1) [.agg #[.int .i64 (x0.aC.aA),aS,aV,aQ,aO,.int .i64 (x0.aD.aA),aT,aW,aR,aP,bC,bG],.agg #[.int .i64 (x1.aC.aA),bV,cB,bN,bH,.int .i64 (x1.aD.aA),bW,cC,bP,bI,cL,cQ]] [rI aS x0.aC.aE,rI aV x0.aC.To,rI aQ x0.aC.aH,rJ aO x0.aC.aB,rI aT x0.aD.aE,rI aW x0.aD.To,rI aR x0.aD.aH,rJ aP x0.aD.aB,rI bC x0.aA,rI bG x0.ab,rI bV x1.aC.aE,rI cB x1.aC.To,rI bN x1.aC.aH,rJ bH x1.aC.aB,rI bW x1.aD.aE,rI cC x1.aD.To,rI bP x1.aD.aH,rJ bI x1.aD.aB,rI cL x1.aA,rI cQ x1.ab] (fun y (v:Value×Value)=>[v.1,v.2,.int .i64 y.2.2]) (fun y v=>[.rd false (bL (iu kj)) v.1 y.1,.rd false (bL (iu kj)) v.2 y.2.1]):=by
 refine ct (S:=Unit) u9 Tryz.func88 rfl rfl ?_
 repeat' first
  | (apply Dk.fe; repeat' first | exact rfl | (refine @id.{0} _ ?_; constructor))
  | intro _
  | exact rfl
  | (refine @id.{0} _ ?_; constructor)
  | apply c69
  | exact ()
end Go.Proofs.YtgjbmjjihmfppaaGreat
