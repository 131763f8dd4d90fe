/- Walks by the calculus D. No condition beside those that each theorem names. -/
import Derived.Test.YtgjbmjjihmfppaaGreatDi
import Derived.Test.YtgjbmjjihmfppaaGreatMo
import Derived.Test.YtgjbmjjihmfppaaGreatDp
import Derived.Test.YtgjbmjjihmfppaaGreatDs
import Derived.Test.YtgjbmjjihmfppaaGreatWa
import Derived.Test.YtgjbmjjihmfppaaGreatWb
import Derived.Test.YtgjbmjjihmfppaaGreatWc
import Derived.Test.YtgjbmjjihmfppaaGreatWd
import Derived.Test.YtgjbmjjihmfppaaGreatWe
import Derived.Test.YtgjbmjjihmfppaaGreatWf
import Derived.Test.YtgjbmjjihmfppaaGreatWg
import Derived.Test.YtgjbmjjihmfppaaGreatWh
namespace Go.Proofs.YtgjbmjjihmfppaaGreat
open Go Go.Li Go.Dk
set_option linter.unusedVariables false
set_option maxHeartbeats 16000000
set_option maxRecDepth 100000
theorem acH {x0:aG} {aU:Value} {aZ:Value} {aO:Value} {aM:Value} {x1:aG} {bI:Value} {bY:Value} {bC:Value} {aY:Value}:Ct Tryz.prog 154 true (fY x0 x1) [.agg #[.int .i64 (x0.aA),aU,aZ,aO,aM],.agg #[.int .i64 (x1.aA),bI,bY,bC,aY]] [.rd false (aE (aC .i64)) aU x0.aD,.rd false (aE (aC .i64)) aZ x0.To,.rd false (aE (aC .i64)) aO x0.aJ,.rd false (aE (aE (aC .i64))) aM x0.aB,.rd false (aE (aC .i64)) bI x1.aD,.rd false (aE (aC .i64)) bY x1.To,.rd false (aE (aC .i64)) bC x1.aJ,.rd false (aE (aE (aC .i64))) aY x1.aB] (fun y (v:Value×Value×Value×Value)=>match v with | (q0,q1,q2,q3)=>[.agg #[.int .i64 y.aA,q0,q1,q2,q3]]) (fun y v=>match v with | (q0,q1,q2,q3)=>[.own (aK 2 (aC .i64)) q0 y.aD,.own (aK 2 (aC .i64)) q1 y.To,.own (aK 2 (aC .i64)) q2 y.aJ,.own (aK 24 (aK 2 (aC .i64))) q3 y.aB]):=by
 refine ct (S:=Unit) (db fun _ _=>rfl) Tryz.func154 rfl rfl ?_
 repeat' first
  | ((first | show Dk.ER _ _ _ | show Dk.bd _ _ | show Dk.EF _ _ _ | show Dk.EO _ _ _ | show Dk.EP _ _ | show Dk.ba _ _ _ _ | show Dk.aw _ _ _ _ | show Dk.Kp _ _ _ _ | show Dk.bp _ _ | show Dk.bg _ _ _ _); repeat' first | exact rfl | (refine @id.{0} _ ?_; constructor))
  | intro _
  | exact rfl
  | (refine Dk.tu (t:=60) rfl ?_ ?_)
  | (refine @id.{0} _ ?_; constructor)
  | apply Dk.kj 0 (V:=Value×Value) (A:=Nat×Value×Value×Value) (_,_,_,_) (fun a (s:Int×(List Int)×(List Int)) v=>Dk.pc (fun a0=>Dk.pc (fun a1=>Dk.pc (fun a2 a3=>[.row a0 [a1,v.1,v.2,a2,a3] 27,.own (aK 2 (aC .i64)) v.1 s.2.1,.own (aK 2 (aC .i64)) v.2 s.2.2]))) a) (fun a s v=>Dk.pc (fun a0=>Dk.pc (fun a1=>Dk.pc (fun a2 a3=>[(5,.pointer (some ⟨a0,0,none⟩)),(7,.int .i64 (s.1))]))) a) (_,_) [(2,_),(3,_),(4,_),(6,_)]
  | apply Dk.kj 2 (V:=Value×Value) (A:=Nat×Value×Value×Value) (_,_,_,_) (fun a (s:Int×(List Int)×(List Int)) v=>Dk.pc (fun a0=>Dk.pc (fun a1=>Dk.pc (fun a2 a3=>[.row a0 [a1,v.1,v.2,a2,a3] 27,.own (aK 2 (aC .i64)) v.1 s.2.1,.own (aK 2 (aC .i64)) v.2 s.2.2]))) a) (fun a s v=>Dk.pc (fun a0=>Dk.pc (fun a1=>Dk.pc (fun a2 a3=>[(5,.pointer (some ⟨a0,0,none⟩)),(8,.int .i64 (s.1))]))) a) (_,_) [(2,_),(3,_),(4,_),(6,_),(7,_)]
  | apply Dk.loop 4 (V:=Value) (fun (s:(List (List Int))×Int) v=>[.own (aK 24 (aK 2 (aC .i64))) v s.1]) (fun s v=>[(9,v),(10,.int .i64 (s.2))]) _ [(2,_),(3,_),(4,_),(5,_),(6,_)]
  | apply Dk.loop 6 (V:=Value) (fun (s:(List Int)×Int) v=>[.own (aK 2 (aC .i64)) v s.1]) (fun s v=>[(11,v),(12,.int .i64 (s.2))]) _ [(2,_),(3,_),(4,_),(5,_),(6,_),(9,_),(10,_)]
  | apply Dk.quiet (id:=20) (by kernel_rfl)
  | apply Dk.quiet (id:=21) (by kernel_rfl)
  | apply Wy
  | exact ()
theorem acI {x0:aL} {cH:Nat} {bK:Value}:Ct Tryz.prog 131 true (fQ x0) [.pointer (some (⟨cH,0,none⟩))] [.row cH [bK,.int .i64 (x0.At),.int .u64 (x0.au)] 81,.rd false (aE (aC .u8)) bK x0.Code] (fun y (v:Value×Value×Value×Value)=>[.agg #[.int .i64 y.1.aA,v.1,v.2.1,v.2.2.1,v.2.2.2]]) (fun y v=>[.own (aK 2 (aC .i64)) v.1 y.1.aD,.own (aK 2 (aC .i64)) v.2.1 y.1.To,.own (aK 2 (aC .i64)) v.2.2.1 y.1.aJ,.own (aK 24 (aK 2 (aC .i64))) v.2.2.2 y.1.aB,.row cH [bK,.int .i64 y.2.At,.int .u64 y.2.au] 81]):=by
 refine ct (S:=Unit) (db fun _ _=>rfl) Tryz.func131 rfl rfl ?_
 repeat' first
  | ((first | show Dk.ER _ _ _ | show Dk.bd _ _ | show Dk.EF _ _ _ | show Dk.EO _ _ _ | show Dk.EP _ _ | show Dk.ba _ _ _ _ | show Dk.aw _ _ _ _ | show Dk.Kp _ _ _ _ | show Dk.bp _ _ | show Dk.bg _ _ _ _); repeat' first | exact rfl | (refine @id.{0} _ ?_; constructor))
  | intro _
  | exact rfl
  | (refine Dk.tu (t:=59) rfl ?_ ?_)
  | (refine @id.{0} _ ?_; constructor)
  | apply Dk.loop 1 (V:=Value) (fun (s:(List (List Int))×Int) v=>[.own (aK 24 (aK 2 (aC .i64))) v s.1]) (fun s v=>[(4,v),(5,.int .i64 (s.2))]) _ [(2,_),(3,_)]
  | apply Dk.loop 3 (V:=Value) (fun (s:(List Int)×Int) v=>[.own (aK 2 (aC .i64)) v s.1]) (fun s v=>[(6,v),(7,.int .i64 (s.2))]) _ [(2,_),(3,_),(4,_),(5,_)]
  | apply Dk.loop 5 (V:=Value×Value) (fun (s:(List Int)×(List Int)×Int×Int×Int) v=>[.row cH [bK,.int .i64 (s.2.2.2.1),.int .u64 (s.2.2.2.2)] 81,.own (aK 2 (aC .i64)) v.1 s.1,.own (aK 2 (aC .i64)) v.2 s.2.1]) (fun s v=>[(9,v.1),(10,v.2),(11,.int .i64 (s.2.2.1))]) (_,_) [(0,_),(2,_),(8,_)]
  | apply Aj
  | apply ace
  | apply Hs
  | apply WB
  | apply Wq
  | apply Wv
  | apply Wi
  | apply acH
  | apply Wj
  | exact ()
theorem Kr {x0:aL} {cH:Nat} {bK:Value} {x1:Int} {x2:Int}:Ct Tryz.prog 101 true (gW x0 x1 x2) [.pointer (some (⟨cH,0,none⟩)),.int .i64 (x1),.int .i64 (x2)] [.row cH [bK,.int .i64 (x0.At),.int .u64 (x0.au)] 81,.rd false (aE (aC .u8)) bK x0.Code] (fun y (v:Value×Value×Value×Value)=>[.agg #[.int .i64 y.1.aA,v.1,v.2.1,v.2.2.1,v.2.2.2]]) (fun y v=>[.own (aK 2 (aC .i64)) v.1 y.1.aD,.own (aK 2 (aC .i64)) v.2.1 y.1.To,.own (aK 2 (aC .i64)) v.2.2.1 y.1.aJ,.own (aK 24 (aK 2 (aC .i64))) v.2.2.2 y.1.aB,.row cH [bK,.int .i64 y.2.At,.int .u64 y.2.au] 81]):=by
 refine ct (S:=Unit) (db fun _ _=>rfl) Tryz.func101 rfl rfl ?_
 repeat' first
  | ((first | show Dk.ER _ _ _ | show Dk.bd _ _ | show Dk.EF _ _ _ | show Dk.EO _ _ _ | show Dk.EP _ _ | show Dk.ba _ _ _ _ | show Dk.aw _ _ _ _ | show Dk.Kp _ _ _ _ | show Dk.bp _ _ | show Dk.bg _ _ _ _); repeat' first | exact rfl | (refine @id.{0} _ ?_; constructor))
  | intro _
  | exact rfl
  | (refine @id.{0} _ ?_; constructor)
  | apply Dk.loop 0 (V:=Unit) (fun (s:Int×Int×Int) v=>[.row cH [bK,.int .i64 (s.2.1),.int .u64 (s.2.2)] 81]) (fun s v=>[(7,.int .i64 (s.1))]) () [(0,_),(1,_),(2,_),(6,_)]
  | apply Dk.yg (id:=6) [Dk.av.row _ _ 81] 3 [] [[],[],[5]] [[],[],[1]] (by kernel_rfl)
  | apply Dk.yg (id:=8) [Dk.av.row _ _ 81] 3 [] [[],[],[5]] [[],[],[1]] (by kernel_rfl)
  | apply acI
  | apply Aj
  | apply Wy
  | apply aca
  | apply Wp
  | apply Hs
  | exact ()
theorem WC {rc:aG→aG→(List Int)→(List aN)→Option ((List aN))} (ih:∀ {x0:aG} {aU:Value} {aZ:Value} {aO:Value} {aM:Value} {x1:aG} {bI:Value} {bY:Value} {bC:Value} {aY:Value} {x2:(List Int)} {dH:Value} {x3:(List aN)} {eZ:Value},Ct Tryz.prog 122 true (rc x0 x1 x2 x3) [.agg #[.int .i64 (x0.aA),aU,aZ,aO,aM],.agg #[.int .i64 (x1.aA),bI,bY,bC,aY],dH,eZ] [.rd false (aE (aC .i64)) aU x0.aD,.rd false (aE (aC .i64)) aZ x0.To,.rd false (aE (aC .i64)) aO x0.aJ,.rd false (aE (aE (aC .i64))) aM x0.aB,.rd false (aE (aC .i64)) bI x1.aD,.rd false (aE (aC .i64)) bY x1.To,.rd false (aE (aC .i64)) bC x1.aJ,.rd false (aE (aE (aC .i64))) aY x1.aB,.rd false (aE (aC .i64)) dH x2,.own (aK 29 sU) eZ x3] (fun y (v:Value)=>[v]) (fun y v=>[.own (aK 29 sU) v y])) {x0:aG} {aU:Value} {aZ:Value} {aO:Value} {aM:Value} {x1:aG} {bI:Value} {bY:Value} {bC:Value} {aY:Value} {x2:(List Int)} {dH:Value} {x3:(List aN)} {eZ:Value}:Ct Tryz.prog 122 true (jM rc x0 x1 x2 x3) [.agg #[.int .i64 (x0.aA),aU,aZ,aO,aM],.agg #[.int .i64 (x1.aA),bI,bY,bC,aY],dH,eZ] [.rd false (aE (aC .i64)) aU x0.aD,.rd false (aE (aC .i64)) aZ x0.To,.rd false (aE (aC .i64)) aO x0.aJ,.rd false (aE (aE (aC .i64))) aM x0.aB,.rd false (aE (aC .i64)) bI x1.aD,.rd false (aE (aC .i64)) bY x1.To,.rd false (aE (aC .i64)) bC x1.aJ,.rd false (aE (aE (aC .i64))) aY x1.aB,.rd false (aE (aC .i64)) dH x2,.own (aK 29 sU) eZ x3] (fun y (v:Value)=>[v]) (fun y v=>[.own (aK 29 sU) v y]):=by
 refine ct (S:=Unit) (db fun _ _=>rfl) Tryz.func122 rfl rfl ?_
 repeat' first
  | ((first | show Dk.ER _ _ _ | show Dk.bd _ _ | show Dk.EF _ _ _ | show Dk.EO _ _ _ | show Dk.EP _ _ | show Dk.ba _ _ _ _ | show Dk.aw _ _ _ _ | show Dk.Kp _ _ _ _ | show Dk.bp _ _ | show Dk.bg _ _ _ _); repeat' first | exact rfl | (refine @id.{0} _ ?_; constructor))
  | intro _
  | exact rfl
  | apply Dk.Qe (t:=104)
  | apply ih
  | apply Dk.P3 (t:=104) (S:=sU) (aN.mk (aG.mk _ _ _ _ _) (aG.mk _ _ _ _ _) _ _)
  | (refine @id.{0} _ ?_; constructor)
  | apply Dk.loop 0 (V:=Value) (fun (s:(List Int)×Int) v=>[.own (aK 2 (aC .i64)) v s.1]) (fun s v=>[(9,v),(10,.int .i64 (s.2))]) _ [(2,_),(3,_),(4,_),(5,_)]
  | apply Dk.kj 2 (V:=Unit) (A:=Value) _ (fun a (s:Int×(List Int)) v=>[.own (aK 2 (aC .i64)) a s.2]) (fun a s v=>[(9,a),(11,.int .i64 (s.1))]) () [(2,_),(3,_),(4,_),(5,_)]
  | apply Dk.loop 4 (V:=Value) (fun (s:(List aN)×Int) v=>[.own (aK 29 sU) v s.1]) (fun s v=>[(3,v),(13,.int .i64 (s.2))]) _ [(2,_),(4,_),(5,_),(12,_)]
  | apply Dk.loop 6 (V:=Value) (fun (s:(List aN)×Int) v=>[.own (aK 29 sU) v s.1]) (fun s v=>[(3,v),(14,.int .i64 (s.2))]) _ [(2,_),(4,_),(5,_)]
  | apply Dk.any (id:=12) 14 [] [] [[],[],[1],[],[2,1,3],[4,2,1,3],[],[6],[],[],[8,9],[10,8,9],[7,6,11,10,8,9],[12,7,6,11,10,8,9]] (by kernel_rfl)
  | apply Dk.any (id:=22) 8 [] [[],[],[],[],[],[],[3],[]] [[],[],[],[2],[],[4],[3,2,5,4,3,2],[]] (by kernel_rfl)
  | apply Dk.Qk (id:=17) [(0,8)] 8 rfl (by kernel_rfl)
  | apply ab4
  | apply ab6
  | apply QV
  | apply yp
  | exact ()
theorem WD (n:Nat):∀ {x0:aG} {aU:Value} {aZ:Value} {aO:Value} {aM:Value} {x1:aG} {bI:Value} {bY:Value} {bC:Value} {aY:Value} {x2:(List Int)} {dH:Value} {x3:(List aN)} {eZ:Value},Ct Tryz.prog 122 true (fT n x0 x1 x2 x3) [.agg #[.int .i64 (x0.aA),aU,aZ,aO,aM],.agg #[.int .i64 (x1.aA),bI,bY,bC,aY],dH,eZ] [.rd false (aE (aC .i64)) aU x0.aD,.rd false (aE (aC .i64)) aZ x0.To,.rd false (aE (aC .i64)) aO x0.aJ,.rd false (aE (aE (aC .i64))) aM x0.aB,.rd false (aE (aC .i64)) bI x1.aD,.rd false (aE (aC .i64)) bY x1.To,.rd false (aE (aC .i64)) bC x1.aJ,.rd false (aE (aE (aC .i64))) aY x1.aB,.rd false (aE (aC .i64)) dH x2,.own (aK 29 sU) eZ x3] (fun y (v:Value)=>[v]) (fun y v=>[.own (aK 29 sU) v y]):=by
 induction n with
 | zero=>intros; rw [qm]; exact ⟨(db fun _ _=>rfl),fun _ _ _ _ _ _ _ y hy=>nomatch (show none=some y from hy)⟩
 | succ n ih=>exact WC ih
theorem acJ {x0:aG} {aU:Value} {aZ:Value} {aO:Value} {aM:Value} {x1:aG} {bI:Value} {bY:Value} {bC:Value} {aY:Value} {x2:(List Int)} {dH:Value} {x3:(List aN)} {eZ:Value}:Ct Tryz.prog 122 true (fT 64 x0 x1 x2 x3) [.agg #[.int .i64 (x0.aA),aU,aZ,aO,aM],.agg #[.int .i64 (x1.aA),bI,bY,bC,aY],dH,eZ] [.rd false (aE (aC .i64)) aU x0.aD,.rd false (aE (aC .i64)) aZ x0.To,.rd false (aE (aC .i64)) aO x0.aJ,.rd false (aE (aE (aC .i64))) aM x0.aB,.rd false (aE (aC .i64)) bI x1.aD,.rd false (aE (aC .i64)) bY x1.To,.rd false (aE (aC .i64)) bC x1.aJ,.rd false (aE (aE (aC .i64))) aY x1.aB,.rd false (aE (aC .i64)) dH x2,.own (aK 29 sU) eZ x3] (fun y (v:Value)=>[v]) (fun y v=>[.own (aK 29 sU) v y]):=by
 exact WD 64
theorem YH {x0:aG} {aU:Value} {aZ:Value} {aO:Value} {aM:Value} {x1:aG} {bI:Value} {bY:Value} {bC:Value} {aY:Value}:Ct Tryz.prog 82 true (kD x0 x1) [.agg #[.int .i64 (x0.aA),aU,aZ,aO,aM],.agg #[.int .i64 (x1.aA),bI,bY,bC,aY]] [.rd false (aE (aC .i64)) aU x0.aD,.rd false (aE (aC .i64)) aZ x0.To,.rd false (aE (aC .i64)) aO x0.aJ,.rd false (aE (aE (aC .i64))) aM x0.aB,.rd false (aE (aC .i64)) bI x1.aD,.rd false (aE (aC .i64)) bY x1.To,.rd false (aE (aC .i64)) bC x1.aJ,.rd false (aE (aE (aC .i64))) aY x1.aB] (fun y (v:Value)=>[v]) (fun y v=>[.own (aK 29 sU) v y]):=by
 refine ct (S:=Unit) (db fun _ _=>rfl) Tryz.func82 rfl rfl ?_
 repeat' first
  | ((first | show Dk.ER _ _ _ | show Dk.bd _ _ | show Dk.EF _ _ _ | show Dk.EO _ _ _ | show Dk.EP _ _ | show Dk.ba _ _ _ _ | show Dk.aw _ _ _ _ | show Dk.Kp _ _ _ _ | show Dk.bp _ _ | show Dk.bg _ _ _ _); repeat' first | exact rfl | (refine @id.{0} _ ?_; constructor))
  | intro _
  | exact rfl
  | apply Dk.X5 (t:=104) sU
  | (refine @id.{0} _ ?_; constructor)
  | apply acJ
  | exact ()
theorem WE {x0:aG} {aU:Value} {aZ:Value} {aO:Value} {aM:Value} {x1:aG} {bI:Value} {bY:Value} {bC:Value} {aY:Value} {x2:Int}:Ct Tryz.prog 123 true (dP x0 x1 x2) [.agg #[.int .i64 (x0.aA),aU,aZ,aO,aM],.agg #[.int .i64 (x1.aA),bI,bY,bC,aY],.int .i64 (x2)] [.rd false (aE (aC .i64)) aU x0.aD,.rd false (aE (aC .i64)) aZ x0.To,.rd false (aE (aC .i64)) aO x0.aJ,.rd false (aE (aE (aC .i64))) aM x0.aB,.rd false (aE (aC .i64)) bI x1.aD,.rd false (aE (aC .i64)) bY x1.To,.rd false (aE (aC .i64)) bC x1.aJ,.rd false (aE (aE (aC .i64))) aY x1.aB] (fun y (v:Value×Value×Value×Value×Value×Value×Value×Value×Value×Value)=>[.agg #[.int .i64 y.aH.aA,v.1,v.2.1,v.2.2.1,v.2.2.2.1,.int .i64 y.aI.aA,v.2.2.2.2.1,v.2.2.2.2.2.1,v.2.2.2.2.2.2.1,v.2.2.2.2.2.2.2.1,v.2.2.2.2.2.2.2.2.1,v.2.2.2.2.2.2.2.2.2]]) (fun y v=>[.own (aK 2 (aC .i64)) v.1 y.aH.aD,.own (aK 2 (aC .i64)) v.2.1 y.aH.To,.own (aK 2 (aC .i64)) v.2.2.1 y.aH.aJ,.own (aK 24 (aK 2 (aC .i64))) v.2.2.2.1 y.aH.aB,.own (aK 2 (aC .i64)) v.2.2.2.2.1 y.aI.aD,.own (aK 2 (aC .i64)) v.2.2.2.2.2.1 y.aI.To,.own (aK 2 (aC .i64)) v.2.2.2.2.2.2.1 y.aI.aJ,.own (aK 24 (aK 2 (aC .i64))) v.2.2.2.2.2.2.2.1 y.aI.aB,.own (aK 2 (aC .i64)) v.2.2.2.2.2.2.2.2.1 y.aA,.own (aK 2 (aC .i64)) v.2.2.2.2.2.2.2.2.2 y.aj]):=by
 refine ct (S:=Unit) (db fun _ _=>rfl) Tryz.func123 rfl rfl ?_
 repeat' first
  | ((first | show Dk.ER _ _ _ | show Dk.bd _ _ | show Dk.EF _ _ _ | show Dk.EO _ _ _ | show Dk.EP _ _ | show Dk.ba _ _ _ _ | show Dk.aw _ _ _ _ | show Dk.Kp _ _ _ _ | show Dk.bp _ _ | show Dk.bg _ _ _ _); repeat' first | exact rfl | (refine @id.{0} _ ?_; constructor))
  | intro _
  | exact rfl
  | (refine @id.{0} _ ?_; constructor)
  | apply Dk.loop 0 (V:=Value) (fun (s:(List Int)×Int) v=>[.own (aK 2 (aC .i64)) v s.1]) (fun s v=>[(7,v),(9,.int .i64 (s.2))]) _ [(2,_),(3,_),(4,_),(6,_),(8,_)]
  | apply Dk.loop 2 (V:=Value) (fun (s:(List Int)×Int) v=>[.own (aK 2 (aC .i64)) v s.1]) (fun s v=>[(8,v),(10,.int .i64 (s.2))]) _ [(2,_),(3,_),(4,_),(6,_),(7,_)]
  | apply QV
  | exact ()
theorem YI {x0:aG} {aU:Value} {aZ:Value} {aO:Value} {aM:Value}:Ct Tryz.prog 79 true (fZ x0) [.agg #[.int .i64 (x0.aA),aU,aZ,aO,aM]] [.rd false (aE (aC .i64)) aU x0.aD,.rd false (aE (aC .i64)) aZ x0.To,.rd false (aE (aC .i64)) aO x0.aJ,.rd false (aE (aE (aC .i64))) aM x0.aB] (fun y (v:Value×Value×Value×Value×Value×Value×Value×Value×Value×Value)=>[.agg #[.int .i64 y.aH.aA,v.1,v.2.1,v.2.2.1,v.2.2.2.1,.int .i64 y.aI.aA,v.2.2.2.2.1,v.2.2.2.2.2.1,v.2.2.2.2.2.2.1,v.2.2.2.2.2.2.2.1,v.2.2.2.2.2.2.2.2.1,v.2.2.2.2.2.2.2.2.2]]) (fun y v=>[.own (aK 2 (aC .i64)) v.1 y.aH.aD,.own (aK 2 (aC .i64)) v.2.1 y.aH.To,.own (aK 2 (aC .i64)) v.2.2.1 y.aH.aJ,.own (aK 24 (aK 2 (aC .i64))) v.2.2.2.1 y.aH.aB,.own (aK 2 (aC .i64)) v.2.2.2.2.1 y.aI.aD,.own (aK 2 (aC .i64)) v.2.2.2.2.2.1 y.aI.To,.own (aK 2 (aC .i64)) v.2.2.2.2.2.2.1 y.aI.aJ,.own (aK 24 (aK 2 (aC .i64))) v.2.2.2.2.2.2.2.1 y.aI.aB,.own (aK 2 (aC .i64)) v.2.2.2.2.2.2.2.2.1 y.aA,.own (aK 2 (aC .i64)) v.2.2.2.2.2.2.2.2.2 y.aj]):=by
 refine ct (S:=Unit) (db fun _ _=>rfl) Tryz.func79 rfl rfl ?_
 repeat' first
  | ((first | show Dk.ER _ _ _ | show Dk.bd _ _ | show Dk.EF _ _ _ | show Dk.EO _ _ _ | show Dk.EP _ _ | show Dk.ba _ _ _ _ | show Dk.aw _ _ _ _ | show Dk.Kp _ _ _ _ | show Dk.bp _ _ | show Dk.bg _ _ _ _); repeat' first | exact rfl | (refine @id.{0} _ ?_; constructor))
  | intro _
  | exact rfl
  | (refine @id.{0} _ ?_; constructor)
  | apply Dk.loop 0 (V:=Value) (fun (s:(List Int)×Int) v=>[.own (aK 2 (aC .i64)) v s.1]) (fun s v=>[(3,v),(5,.int .i64 (s.2))]) _ [(1,_),(2,_),(4,_)]
  | apply Dk.loop 2 (V:=Value) (fun (s:(List Int)×Int) v=>[.own (aK 2 (aC .i64)) v s.1]) (fun s v=>[(4,v),(6,.int .i64 (s.2))]) _ [(1,_),(2,_),(3,_)]
  | apply QV
  | exact ()
theorem c83 {x0:aL} {cH:Nat} {bK:Value} {x1:aG} {bI:Value} {bY:Value} {bC:Value} {aY:Value} {x2:Int} {x3:Int}:Ct Tryz.prog 83 true (nJ x0 x1 x2 x3) [.pointer (some (⟨cH,0,none⟩)),.agg #[.int .i64 (x1.aA),bI,bY,bC,aY],.int .i64 (x2),.int .i64 (x3)] [.row cH [bK,.int .i64 (x0.At),.int .u64 (x0.au)] 81,.rd false (aE (aC .u8)) bK x0.Code,.rd false (aE (aC .i64)) bI x1.aD,.rd false (aE (aC .i64)) bY x1.To,.rd false (aE (aC .i64)) bC x1.aJ,.rd false (aE (aE (aC .i64))) aY x1.aB] (fun y (v:Value×Value×Value×Value×Value×Value×Value×Value×Value×Value)=>[.agg #[.int .i64 y.1.aH.aA,v.1,v.2.1,v.2.2.1,v.2.2.2.1,.int .i64 y.1.aI.aA,v.2.2.2.2.1,v.2.2.2.2.2.1,v.2.2.2.2.2.2.1,v.2.2.2.2.2.2.2.1,v.2.2.2.2.2.2.2.2.1,v.2.2.2.2.2.2.2.2.2]]) (fun y v=>[.own (aK 2 (aC .i64)) v.1 y.1.aH.aD,.own (aK 2 (aC .i64)) v.2.1 y.1.aH.To,.own (aK 2 (aC .i64)) v.2.2.1 y.1.aH.aJ,.own (aK 24 (aK 2 (aC .i64))) v.2.2.2.1 y.1.aH.aB,.own (aK 2 (aC .i64)) v.2.2.2.2.1 y.1.aI.aD,.own (aK 2 (aC .i64)) v.2.2.2.2.2.1 y.1.aI.To,.own (aK 2 (aC .i64)) v.2.2.2.2.2.2.1 y.1.aI.aJ,.own (aK 24 (aK 2 (aC .i64))) v.2.2.2.2.2.2.2.1 y.1.aI.aB,.own (aK 2 (aC .i64)) v.2.2.2.2.2.2.2.2.1 y.1.aA,.own (aK 2 (aC .i64)) v.2.2.2.2.2.2.2.2.2 y.1.aj,.row cH [bK,.int .i64 y.2.At,.int .u64 y.2.au] 81]):=by
 refine ct (S:=Unit) (db fun _ _=>rfl) Tryz.func83 rfl rfl ?_
 repeat' first
  | ((first | show Dk.ER _ _ _ | show Dk.bd _ _ | show Dk.EF _ _ _ | show Dk.EO _ _ _ | show Dk.EP _ _ | show Dk.ba _ _ _ _ | show Dk.aw _ _ _ _ | show Dk.Kp _ _ _ _ | show Dk.bp _ _ | show Dk.bg _ _ _ _); repeat' first | exact rfl | (refine @id.{0} _ ?_; constructor))
  | intro _
  | exact rfl
  | apply Dk.Qe (t:=104)
  | apply Dk.X6 (t:=104)
  | apply Dk.T4 (n:=12)
  | apply Dk.Qc (n:=12)
  | apply Dk.N0 (n:=12)
  | (apply Dk.Ub (t:=38); exact rfl)
  | (refine @id.{0} _ ?_; constructor)
  | apply Dk.yg (id:=7) [Dk.av.row _ _ 81] 6 [] [[],[],[],[],[],[8]] [[],[],[],[],[3],[2,4,3]] (by kernel_rfl)
  | apply Kr
  | apply YF
  | apply YH
  | apply Aj
  | apply WE
  | apply YI
  | exact ()
theorem acK {x0:aL} {cH:Nat} {bK:Value}:Ct Tryz.prog 103 true (mB x0) [.pointer (some (⟨cH,0,none⟩))] [.row cH [bK,.int .i64 (x0.At),.int .u64 (x0.au)] 81,.rd false (aE (aC .u8)) bK x0.Code] (fun y (v:Value×Value×Value×Value)=>[.agg #[.int .i64 y.1.aA,v.1,v.2.1,v.2.2.1,v.2.2.2]]) (fun y v=>[.own (aK 2 (aC .i64)) v.1 y.1.aD,.own (aK 2 (aC .i64)) v.2.1 y.1.To,.own (aK 2 (aC .i64)) v.2.2.1 y.1.aJ,.own (aK 24 (aK 2 (aC .i64))) v.2.2.2 y.1.aB,.row cH [bK,.int .i64 y.2.At,.int .u64 y.2.au] 81]):=by
 refine ct (S:=Unit) (db fun _ _=>rfl) Tryz.func103 rfl rfl ?_
 repeat' first
  | ((first | show Dk.ER _ _ _ | show Dk.bd _ _ | show Dk.EF _ _ _ | show Dk.EO _ _ _ | show Dk.EP _ _ | show Dk.ba _ _ _ _ | show Dk.aw _ _ _ _ | show Dk.Kp _ _ _ _ | show Dk.bp _ _ | show Dk.bg _ _ _ _); repeat' first | exact rfl | (refine @id.{0} _ ?_; constructor))
  | intro _
  | exact rfl
  | (refine @id.{0} _ ?_; constructor)
  | apply Aj
  | apply Hs
  | apply Wt
  | apply WB
  | apply Wj
  | apply Wq
  | apply Wv
  | apply Kr
  | exact ()
theorem c80 {x0:aL} {cH:Nat} {bK:Value}:Ct Tryz.prog 80 true (lB x0) [.pointer (some (⟨cH,0,none⟩))] [.row cH [bK,.int .i64 (x0.At),.int .u64 (x0.au)] 81,.rd false (aE (aC .u8)) bK x0.Code] (fun y (v:Value×Value×Value×Value)=>[.agg #[.int .i64 y.1.aA,v.1,v.2.1,v.2.2.1,v.2.2.2]]) (fun y v=>[.own (aK 2 (aC .i64)) v.1 y.1.aD,.own (aK 2 (aC .i64)) v.2.1 y.1.To,.own (aK 2 (aC .i64)) v.2.2.1 y.1.aJ,.own (aK 24 (aK 2 (aC .i64))) v.2.2.2 y.1.aB,.row cH [bK,.int .i64 y.2.At,.int .u64 y.2.au] 81]):=by
 refine ct (S:=Unit) (db fun _ _=>rfl) Tryz.func80 rfl rfl ?_
 repeat' first
  | ((first | show Dk.ER _ _ _ | show Dk.bd _ _ | show Dk.EF _ _ _ | show Dk.EO _ _ _ | show Dk.EP _ _ | show Dk.ba _ _ _ _ | show Dk.aw _ _ _ _ | show Dk.Kp _ _ _ _ | show Dk.bp _ _ | show Dk.bg _ _ _ _); repeat' first | exact rfl | (refine @id.{0} _ ?_; constructor))
  | intro _
  | exact rfl
  | (refine @id.{0} _ ?_; constructor)
  | apply Aj
  | apply Hs
  | apply Wi
  | apply Kr
  | exact ()
theorem acL {x0:aN} {aV:Value} {bA:Value} {aS:Value} {aP:Value} {aW:Value} {bB:Value} {aT:Value} {aQ:Value} {bE:Value} {bF:Value} {x1:aN} {iB:Value} {jJ:Value} {fA:Value} {eL:Value} {iC:Value} {jK:Value} {fB:Value} {eM:Value} {kZ:Value} {lY:Value} {x2:Bool} {x3:Int}:Ct Tryz.prog 143 false (kU x0 x1 x2 x3) [.agg #[.int .i64 (x0.aH.aA),aV,bA,aS,aP,.int .i64 (x0.aI.aA),aW,bB,aT,aQ,bE,bF],.agg #[.int .i64 (x1.aH.aA),iB,jJ,fA,eL,.int .i64 (x1.aI.aA),iC,jK,fB,eM,kZ,lY],.bool (x2),.int .i64 (x3)] [.rd false (aE (aC .i64)) aV x0.aH.aD,.rd false (aE (aC .i64)) bA x0.aH.To,.rd false (aE (aC .i64)) aS x0.aH.aJ,.rd false (aE (aE (aC .i64))) aP x0.aH.aB,.rd false (aE (aC .i64)) aW x0.aI.aD,.rd false (aE (aC .i64)) bB x0.aI.To,.rd false (aE (aC .i64)) aT x0.aI.aJ,.rd false (aE (aE (aC .i64))) aQ x0.aI.aB,.rd false (aE (aC .i64)) bE x0.aA,.rd false (aE (aC .i64)) bF x0.aj,.rd false (aE (aC .i64)) iB x1.aH.aD,.rd false (aE (aC .i64)) jJ x1.aH.To,.rd false (aE (aC .i64)) fA x1.aH.aJ,.rd false (aE (aE (aC .i64))) eL x1.aH.aB,.rd false (aE (aC .i64)) iC x1.aI.aD,.rd false (aE (aC .i64)) jK x1.aI.To,.rd false (aE (aC .i64)) fB x1.aI.aJ,.rd false (aE (aE (aC .i64))) eM x1.aI.aB,.rd false (aE (aC .i64)) kZ x1.aA,.rd false (aE (aC .i64)) lY x1.aj] (fun y (v:Value)=>[v]) (fun y v=>[.rd false (aE (aE (aC .i64))) v y]):=by
 refine ct (S:=Unit) uz Tryz.func143 rfl rfl ?_
 repeat' first
  | ((first | show Dk.ER _ _ _ | show Dk.bd _ _ | show Dk.EF _ _ _ | show Dk.EO _ _ _ | show Dk.EP _ _ | show Dk.ba _ _ _ _ | show Dk.aw _ _ _ _ | show Dk.Kp _ _ _ _ | show Dk.bp _ _ | show Dk.bg _ _ _ _); repeat' first | exact rfl | (refine @id.{0} _ ?_; constructor))
  | intro _
  | exact rfl
  | apply Dk.yi (d:=40)
  | (refine Dk.tu (t:=61) rfl ?_ ?_)
  | (refine @id.{0} _ ?_; constructor)
  | apply Dk.loop 0 (V:=Value) (fun (s:(List (List Int))×Int) v=>[.own (aK 24 (aK 2 (aC .i64))) v s.1]) (fun s v=>[(10,v),(11,.int .i64 (s.2))]) _ [(2,_),(3,_),(4,_),(5,_),(9,_)]
  | apply Dk.loop 2 (V:=Value) (fun (s:(List Int)×Int) v=>[.own (aK 2 (aC .i64)) v s.1]) (fun s v=>[(13,v),(14,.int .i64 (s.2))]) _ [(2,_),(3,_),(4,_),(5,_),(12,_)]
  | apply Dk.loop 4 (V:=Value) (fun (s:(List Int)×Int) v=>[.own (aK 2 (aC .i64)) v s.1]) (fun s v=>[(15,v),(16,.int .i64 (s.2))]) _ [(2,_),(3,_),(4,_),(5,_),(12,_),(13,_),(14,_)]
  | apply Dk.Qk (id:=6) [(0,11)] 11 rfl (by kernel_rfl)
  | apply acG
  | apply acx
  | exact ()
theorem acM {x0:aN} {aV:Value} {bA:Value} {aS:Value} {aP:Value} {aW:Value} {bB:Value} {aT:Value} {aQ:Value} {bE:Value} {bF:Value}:Ct Tryz.prog 108 false (jZ x0) [.agg #[.int .i64 (x0.aH.aA),aV,bA,aS,aP,.int .i64 (x0.aI.aA),aW,bB,aT,aQ,bE,bF]] [.rd false (aE (aC .i64)) aV x0.aH.aD,.rd false (aE (aC .i64)) bA x0.aH.To,.rd false (aE (aC .i64)) aS x0.aH.aJ,.rd false (aE (aE (aC .i64))) aP x0.aH.aB,.rd false (aE (aC .i64)) aW x0.aI.aD,.rd false (aE (aC .i64)) bB x0.aI.To,.rd false (aE (aC .i64)) aT x0.aI.aJ,.rd false (aE (aE (aC .i64))) aQ x0.aI.aB,.rd false (aE (aC .i64)) bE x0.aA,.rd false (aE (aC .i64)) bF x0.aj] (fun y (v:Value)=>[v]) (fun y v=>[.rd false (aE (n7 sW)) v y]):=by
 refine ct (S:=Unit) uz Tryz.func108 rfl rfl ?_
 repeat' first
  | ((first | show Dk.ER _ _ _ | show Dk.bd _ _ | show Dk.EF _ _ _ | show Dk.EO _ _ _ | show Dk.EP _ _ | show Dk.ba _ _ _ _ | show Dk.aw _ _ _ _ | show Dk.Kp _ _ _ _ | show Dk.bp _ _ | show Dk.bg _ _ _ _); repeat' first | exact rfl | (refine @id.{0} _ ?_; constructor))
  | intro _
  | exact rfl
  | apply Dk.T2 (t:=83) (S:=sW)
  | apply Dk.T3 (t:=83) (x:=.tmp 14)
  | apply Dk.VQ.S4 (t:=83) (x:=.tmp 27)
  | apply Dk.T5 (t:=83) (bD.mk _ _)
  | (refine @id.{0} _ ?_; constructor)
  | apply Dk.vX 0 (V:=Value) (W:=List (List Value)) (fun (s:List bD×Int) v u=>[.own (aK 32 (iz 2)) v u,.rd false (sL sW) (.bool true) (u,s.1)]) (fun s v u=>[(3,v),(4,.int .i64 s.2)]) _ _ [(1,_)]
  | apply Dk.vX 2 (V:=Value) (W:=List (List Value)) (fun (s:List bD×Int) v u=>[.own (aK 32 (iz 2)) v u,.rd false (sL sW) (.bool true) (u,s.1)]) (fun s v u=>[(3,v),(6,.int .i64 s.2)]) _ _ [(1,_),(4,_),(5,_)]
  | apply Dk.any (id:=5) 10 [] [] [[],[0],[],[2],[],[1,0,3,2,4],[],[],[7],[8,7]] (by kernel_rfl)
  | apply WE
  | apply acL
  | exact ()
theorem c69 {x0:aN} {aV:Value} {bA:Value} {aS:Value} {aP:Value} {aW:Value} {bB:Value} {aT:Value} {aQ:Value} {bE:Value} {bF:Value}:Ct Tryz.prog 69 false (oA x0) [.agg #[.int .i64 (x0.aH.aA),aV,bA,aS,aP,.int .i64 (x0.aI.aA),aW,bB,aT,aQ,bE,bF]] [.rd false (aE (aC .i64)) aV x0.aH.aD,.rd false (aE (aC .i64)) bA x0.aH.To,.rd false (aE (aC .i64)) aS x0.aH.aJ,.rd false (aE (aE (aC .i64))) aP x0.aH.aB,.rd false (aE (aC .i64)) aW x0.aI.aD,.rd false (aE (aC .i64)) bB x0.aI.To,.rd false (aE (aC .i64)) aT x0.aI.aJ,.rd false (aE (aE (aC .i64))) aQ x0.aI.aB,.rd false (aE (aC .i64)) bE x0.aA,.rd false (aE (aC .i64)) bF x0.aj] (fun y (v:Value)=>[v,.int .i64 y.2]) (fun y v=>[.rd false (aE (n7 sW)) v y.1]):=by
 refine ct (S:=Unit) uz Tryz.func69 rfl rfl ?_
 repeat' first
  | ((first | show Dk.ER _ _ _ | show Dk.bd _ _ | show Dk.EF _ _ _ | show Dk.EO _ _ _ | show Dk.EP _ _ | show Dk.ba _ _ _ _ | show Dk.aw _ _ _ _ | show Dk.Kp _ _ _ _ | show Dk.bp _ _ | show Dk.bg _ _ _ _); repeat' first | exact rfl | (refine @id.{0} _ ?_; constructor))
  | intro _
  | exact rfl
  | (refine @id.{0} _ ?_; constructor)
  | apply acM
  | exact ()
theorem c39 {x0:aN} {aV:Value} {bA:Value} {aS:Value} {aP:Value} {aW:Value} {bB:Value} {aT:Value} {aQ:Value} {bE:Value} {bF:Value}:Ct Tryz.prog 39 false (kA x0) [.agg #[.int .i64 (x0.aH.aA),aV,bA,aS,aP,.int .i64 (x0.aI.aA),aW,bB,aT,aQ,bE,bF]] [.rd false (aE (aC .i64)) aV x0.aH.aD,.rd false (aE (aC .i64)) bA x0.aH.To,.rd false (aE (aC .i64)) aS x0.aH.aJ,.rd false (aE (aE (aC .i64))) aP x0.aH.aB,.rd false (aE (aC .i64)) aW x0.aI.aD,.rd false (aE (aC .i64)) bB x0.aI.To,.rd false (aE (aC .i64)) aT x0.aI.aJ,.rd false (aE (aE (aC .i64))) aQ x0.aI.aB,.rd false (aE (aC .i64)) bE x0.aA,.rd false (aE (aC .i64)) bF x0.aj] (fun y (v:Value)=>[.agg #[.int .i64 y.1.ef,v],.int .i64 y.2]) (fun y v=>[.rd false (aE (aC .i64)) v y.1.cf]):=by
 refine ct (S:=Unit) uz Tryz.func39 rfl rfl ?_
 repeat' first
  | ((first | show Dk.ER _ _ _ | show Dk.bd _ _ | show Dk.EF _ _ _ | show Dk.EO _ _ _ | show Dk.EP _ _ | show Dk.ba _ _ _ _ | show Dk.aw _ _ _ _ | show Dk.Kp _ _ _ _ | show Dk.bp _ _ | show Dk.bg _ _ _ _); repeat' first | exact rfl | (refine @id.{0} _ ?_; constructor))
  | intro _
  | exact rfl
  | (refine @id.{0} _ ?_; constructor)
  | apply Dk.loop 0 (V:=Unit) (fun (s:Int) v=>[]) (fun s v=>[(6,.int .i64 (s))]) () [(1,_),(2,_),(4,_)]
  | apply Dk.quiet (id:=7) (by kernel_rfl)
  | apply c69
  | apply c70
  | exact ()
end Go.Proofs.YtgjbmjjihmfppaaGreat
