/- Walks by the calculus D. No condition beside those that each theorem names. -/
import Derived.Test.YtgjbmjjihmfppaaGreatDi
import Derived.Test.YtgjbmjjihmfppaaGreatMo
import Derived.Test.YtgjbmjjihmfppaaGreatDp
import Derived.Test.YtgjbmjjihmfppaaGreatDs
namespace Go.Proofs.YtgjbmjjihmfppaaGreat
open Go Go.Li Go.Dk
set_option linter.unusedVariables false
set_option maxHeartbeats 16000000
set_option maxRecDepth 100000
theorem WR  : Ct Tryz.prog 120 true (kZ) [] [] (fun y (v:Value×Value×Value×Value)=>[.agg #[.int .i64 y.aA,v.1,v.2.1,v.2.2.1,v.2.2.2]]) (fun y v=>[.own (aL 2 (aC .i64)) v.1 y.aF,.own (aL 2 (aC .i64)) v.2.1 y.To,.own (aL 2 (aC .i64)) v.2.2.1 y.aJ,.own (aL 24 (aL 2 (aC .i64))) v.2.2.2 y.aD]):=by
 refine ct (S:=Unit) (ca fun _ _=>rfl) Tryz.func120 rfl rfl ?_
 repeat' first
  | ((first | show Dk.ER _ _ _ | show Dk.ba _ _ | show Dk.EF _ _ _ | show Dk.EO _ _ _ | show Dk.EP _ _ | show Dk.aX _ _ _ _ | show Dk.aq _ _ _ _ | show Dk.Kp _ _ _ _ | show Dk.bn _ _ | show Dk.bb _ _ _ _); repeat' first | exact rfl | (refine @id.{0} _ ?_; constructor))
  | intro _
  | exact rfl
  | apply Dk.yO (d:=1)
  | apply Dk.yO (d:=2)
  | apply Dk.yO (d:=3)
  | apply Dk.yO (d:=4)
  | apply Dk.yO (d:=5)
  | apply Dk.yO (d:=6)
  | apply Dk.yO (d:=7)
  | apply Dk.yO (d:=8)
  | apply Dk.yO (d:=9)
  | (refine @id.{0} _ ?_; constructor)
  | exact ()
theorem ac5 {x0:aI} {aT:Value} {bB:Value} {aO:Value} {aN:Value} {x1:aI} {bS:Value} {cG:Value} {bD:Value} {aZ:Value}:Ct Tryz.prog 133 true (eY x0 x1) [.agg #[.int .i64 (x0.aA),aT,bB,aO,aN],.agg #[.int .i64 (x1.aA),bS,cG,bD,aZ]] [.rd false (aB (aC .i64)) aT x0.aF,.rd false (aB (aC .i64)) bB x0.To,.rd false (aB (aC .i64)) aO x0.aJ,.rd false (aB (aB (aC .i64))) aN x0.aD,.rd false (aB (aC .i64)) bS x1.aF,.rd false (aB (aC .i64)) cG x1.To,.rd false (aB (aC .i64)) bD x1.aJ,.rd false (aB (aB (aC .i64))) aZ x1.aD] (fun y (v:Value×Value×Value×Value)=>[.agg #[.int .i64 y.aA,v.1,v.2.1,v.2.2.1,v.2.2.2]]) (fun y v=>[.own (aL 2 (aC .i64)) v.1 y.aF,.own (aL 2 (aC .i64)) v.2.1 y.To,.own (aL 2 (aC .i64)) v.2.2.1 y.aJ,.own (aL 24 (aL 2 (aC .i64))) v.2.2.2 y.aD]):=by
 refine ct (S:=Unit) (ca fun _ _=>rfl) Tryz.func133 rfl rfl ?_
 repeat' first
  | ((first | show Dk.ER _ _ _ | show Dk.ba _ _ | show Dk.EF _ _ _ | show Dk.EO _ _ _ | show Dk.EP _ _ | show Dk.aX _ _ _ _ | show Dk.aq _ _ _ _ | show Dk.Kp _ _ _ _ | show Dk.bn _ _ | show Dk.bb _ _ _ _); repeat' first | exact rfl | (refine @id.{0} _ ?_; constructor))
  | intro _
  | exact rfl
  | (refine Dk.ue (t:=114) rfl ?_ ?_)
  | (refine Dk.ue (t:=121) rfl ?_ ?_)
  | (refine @id.{0} _ ?_; constructor)
  | apply Dk.jr 0 (V:=Value) (A:=Nat×Value×Value×Value) (_,_,_,_) (fun a (s:Int×(List Int)) v=>Dk.pc (fun a0=>Dk.pc (fun a1=>Dk.pc (fun a2 a3=>[.row a0 [.int .i64 (aj (x0.aA * x1.aA)),a1,a2,v,a3] 27,.own (aL 2 (aC .i64)) v s.2]))) a) (fun a s v=>Dk.pc (fun a0=>Dk.pc (fun a1=>Dk.pc (fun a2 a3=>[(7,.pointer (some ⟨a0,0,none⟩)),(8,.int .i64 (s.1))]))) a) _ [(2,_),(3,_),(4,_),(5,_),(6,_)]
  | apply Dk.jr 2 (V:=Value) (A:=Nat×Value×Value×Value) (_,_,_,_) (fun a (s:Int×(List Int)) v=>Dk.pc (fun a0=>Dk.pc (fun a1=>Dk.pc (fun a2 a3=>[.row a0 [.int .i64 (aj (x0.aA * x1.aA)),a1,a2,v,a3] 27,.own (aL 2 (aC .i64)) v s.2]))) a) (fun a s v=>Dk.pc (fun a0=>Dk.pc (fun a1=>Dk.pc (fun a2 a3=>[(7,.pointer (some ⟨a0,0,none⟩)),(9,.int .i64 (s.1))]))) a) _ [(2,_),(3,_),(4,_),(5,_),(6,_),(8,_)]
  | apply Dk.jr 4 (V:=Value×Value×Value) (A:=Nat×Value) (_,_) (fun a (s:Int×(List Int)×(List Int)×(List (List Int))) v=>Dk.pc (fun a0 a1=>[.row a0 [.int .i64 (aj (x0.aA * x1.aA)),v.1,v.2.1,a1,v.2.2] 27,.own (aL 2 (aC .i64)) v.1 s.2.1,.own (aL 2 (aC .i64)) v.2.1 s.2.2.1,.own (aL 24 (aL 2 (aC .i64))) v.2.2 s.2.2.2]) a) (fun a s v=>Dk.pc (fun a0 a1=>[(7,.pointer (some ⟨a0,0,none⟩)),(10,.int .i64 (s.1))]) a) (_,_,_) [(2,_),(3,_),(4,_),(5,_),(6,_)]
  | apply Dk.jr 6 (V:=Value×Value×Value) (A:=Nat×Value) (_,_) (fun a (s:Int×(List Int)×(List Int)×(List (List Int))) v=>Dk.pc (fun a0 a1=>[.row a0 [.int .i64 (aj (x0.aA * x1.aA)),v.1,v.2.1,a1,v.2.2] 27,.own (aL 2 (aC .i64)) v.1 s.2.1,.own (aL 2 (aC .i64)) v.2.1 s.2.2.1,.own (aL 24 (aL 2 (aC .i64))) v.2.2 s.2.2.2]) a) (fun a s v=>Dk.pc (fun a0 a1=>[(7,.pointer (some ⟨a0,0,none⟩)),(11,.int .i64 (s.1))]) a) (_,_,_) [(2,_),(3,_),(4,_),(5,_),(6,_),(10,_)]
  | apply Dk.loop 8 (V:=Value) (fun (s:(List Int)×Int) v=>[.own (aL 2 (aC .i64)) v s.1]) (fun s v=>[(12,v),(13,.int .i64 (s.2))]) _ [(2,_),(3,_),(4,_),(5,_),(6,_),(7,_),(10,_),(11,_)]
  | apply Dk.loop 10 (V:=Value) (fun (s:(List Int)×Int) v=>[.own (aL 2 (aC .i64)) v s.1]) (fun s v=>[(12,v),(14,.int .i64 (s.2))]) _ [(2,_),(3,_),(4,_),(5,_),(6,_),(7,_),(10,_),(11,_),(13,_)]
  | apply Dk.quiet (id:=1) (by kernel_rfl)
  | apply Dk.quiet (id:=27) (by kernel_rfl)
  | apply Dk.any (id:=9) 16 [] [] [[],[0],[],[2],[],[3,2,4],[5,3,2,4],[],[6,5,3,2,4,7],[],[9],[],[10,9,11],[12,10,9,11],[8,6,5,3,2,4,7,13,12,10,9,11],[14,8,6,5,3,2,4,7,13,12,10,9,11]] (by kernel_rfl)
  | apply Dk.any (id:=16) 16 [] [] [[],[0],[],[2],[],[3,2,4],[5,3,2,4],[],[6,5,3,2,4,7],[],[9],[],[10,9,11],[12,10,9,11],[8,6,5,3,2,4,7,13,12,10,9,11],[14,8,6,5,3,2,4,7,13,12,10,9,11]] (by kernel_rfl)
  | apply Dk.any (id:=17) 16 [] [] [[],[0],[],[2],[],[3,2,4],[5,3,2,4],[],[6,5,3,2,4,7],[],[9],[],[10,9,11],[12,10,9,11],[8,6,5,3,2,4,7,13,12,10,9,11],[14,8,6,5,3,2,4,7,13,12,10,9,11]] (by kernel_rfl)
  | exact ()
theorem ac6 {x0:aI} {aT:Value} {bB:Value} {aO:Value} {aN:Value} {x1:Int}:Ct Tryz.prog 149 true (oQ x0 x1) [.agg #[.int .i64 (x0.aA),aT,bB,aO,aN],.int .i64 (x1)] [.rd false (aB (aC .i64)) aT x0.aF,.rd false (aB (aC .i64)) bB x0.To,.rd false (aB (aC .i64)) aO x0.aJ,.rd false (aB (aB (aC .i64))) aN x0.aD] (fun y (_:Unit)=>[.bool y]) (fun y _=>[]):=by
 refine ct (S:=Unit) (ca fun _ _=>rfl) Tryz.func149 rfl rfl ?_
 repeat' first
  | ((first | show Dk.ER _ _ _ | show Dk.ba _ _ | show Dk.EF _ _ _ | show Dk.EO _ _ _ | show Dk.EP _ _ | show Dk.aX _ _ _ _ | show Dk.aq _ _ _ _ | show Dk.Kp _ _ _ _ | show Dk.bn _ _ | show Dk.bb _ _ _ _); repeat' first | exact rfl | (refine @id.{0} _ ?_; constructor))
  | intro _
  | exact rfl
  | (refine @id.{0} _ ?_; constructor)
  | apply Dk.quiet (id:=1) (by kernel_rfl)
  | exact ()
theorem ac7 {x0:aI} {aT:Value} {bB:Value} {aO:Value} {aN:Value}:Ct Tryz.prog 121 true (mI x0) [.agg #[.int .i64 (x0.aA),aT,bB,aO,aN]] [.rd false (aB (aC .i64)) aT x0.aF,.rd false (aB (aC .i64)) bB x0.To,.rd false (aB (aC .i64)) aO x0.aJ,.rd false (aB (aB (aC .i64))) aN x0.aD] (fun y (v:Value)=>[v]) (fun y v=>[.own (aL 2 (aC .i64)) v y]):=by
 refine ct (S:=Unit) (ca fun _ _=>rfl) Tryz.func121 rfl rfl ?_
 repeat' first
  | ((first | show Dk.ER _ _ _ | show Dk.ba _ _ | show Dk.EF _ _ _ | show Dk.EO _ _ _ | show Dk.EP _ _ | show Dk.aX _ _ _ _ | show Dk.aq _ _ _ _ | show Dk.Kp _ _ _ _ | show Dk.bn _ _ | show Dk.bb _ _ _ _); repeat' first | exact rfl | (refine @id.{0} _ ?_; constructor))
  | intro _
  | exact rfl
  | (refine @id.{0} _ ?_; constructor)
  | apply Dk.loop 0 (V:=Value) (fun (s:(List Int)×Int) v=>[.own (aL 2 (aC .i64)) v s.1]) (fun s v=>[(3,v),(4,.int .i64 (s.2))]) _ [(1,_)]
  | apply ac6
  | exact ()
theorem ac8 {x0:aI} {aT:Value} {bB:Value} {aO:Value} {aN:Value}:Ct Tryz.prog 107 true (nH x0) [.agg #[.int .i64 (x0.aA),aT,bB,aO,aN]] [.rd false (aB (aC .i64)) aT x0.aF,.rd false (aB (aC .i64)) bB x0.To,.rd false (aB (aC .i64)) aO x0.aJ,.rd false (aB (aB (aC .i64))) aN x0.aD] (fun y (_:Unit)=>[.int .i64 y.1,.int .i64 y.2.1,.int .i64 y.2.2.1,.int .i64 y.2.2.2]) (fun y _=>[]):=by
 refine ct (S:=Unit) (ca fun _ _=>rfl) Tryz.func107 rfl rfl ?_
 repeat' first
  | ((first | show Dk.ER _ _ _ | show Dk.ba _ _ | show Dk.EF _ _ _ | show Dk.EO _ _ _ | show Dk.EP _ _ | show Dk.aX _ _ _ _ | show Dk.aq _ _ _ _ | show Dk.Kp _ _ _ _ | show Dk.bn _ _ | show Dk.bb _ _ _ _); repeat' first | exact rfl | (refine @id.{0} _ ?_; constructor))
  | intro _
  | exact rfl
  | (refine Dk.ue (t:=65) rfl ?_ ?_)
  | (refine Dk.ue (t:=81) rfl ?_ ?_)
  | (refine @id.{0} _ ?_; constructor)
  | apply Dk.loop 0 (V:=Unit) (fun (s:Int) v=>[]) (fun s v=>[(7,.int .i64 (s))]) () [(1,_),(6,_)]
  | apply Dk.loop 2 (V:=Unit) (fun (s:Int) v=>[]) (fun s v=>[(8,.int .i64 (s))]) () [(1,_),(6,_)]
  | apply Dk.loop 4 (V:=Unit) (fun (s:Int) v=>[]) (fun s v=>[(9,.int .i64 (s))]) () [(1,_),(6,_),(8,_)]
  | apply Dk.loop 6 (V:=Unit) (fun (s:Int) v=>[]) (fun s v=>[(10,.int .i64 (s))]) () [(1,_),(6,_),(8,_),(9,_)]
  | apply Dk.quiet (id:=5) (by kernel_rfl)
  | apply Dk.quiet (id:=13) (by kernel_rfl)
  | apply Dk.quiet (id:=17) (by kernel_rfl)
  | exact ()
theorem N1 {x0:aI} {dE:Addr} {aT:Value} {bB:Value} {aO:Value} {aN:Value}:Ct Tryz.prog 94 true (dI x0) [.pointer (some (dE))] [.au dE [.int .i64 (x0.aA),aT,bB,aO,aN],.rd false (aB (aC .i64)) aT x0.aF,.rd false (aB (aC .i64)) bB x0.To,.rd false (aB (aC .i64)) aO x0.aJ,.rd false (aB (aB (aC .i64))) aN x0.aD] (fun y (_:Unit)=>[.int .i64 y]) (fun y _=>[]):=by
 refine ct (S:=Unit) (ca fun _ _=>rfl) Tryz.func94 rfl rfl ?_
 repeat' first
  | ((first | show Dk.ER _ _ _ | show Dk.ba _ _ | show Dk.EF _ _ _ | show Dk.EO _ _ _ | show Dk.EP _ _ | show Dk.aX _ _ _ _ | show Dk.aq _ _ _ _ | show Dk.Kp _ _ _ _ | show Dk.bn _ _ | show Dk.bb _ _ _ _); repeat' first | exact rfl | (refine @id.{0} _ ?_; constructor))
  | intro _
  | exact rfl
  | (refine @id.{0} _ ?_; constructor)
  | exact ()
theorem Ki {x0:aI} {dE:Addr} {aT:Value} {bB:Value} {aO:Value} {aN:Value} {x1:Int} {x2:Int}:Ct Tryz.prog 96 true (cZ x0 x1 x2) [.pointer (some (dE)),.int .i64 (x1),.int .i64 (x2)] [.au dE [.int .i64 (x0.aA),aT,bB,aO,aN],.rd false (aB (aC .i64)) aT x0.aF,.rd false (aB (aC .i64)) bB x0.To,.rd false (aB (aC .i64)) aO x0.aJ,.rd false (aB (aB (aC .i64))) aN x0.aD] (fun y (_:Unit)=>[.int .i64 y]) (fun y _=>[]):=by
 refine ct (S:=Unit) (ca fun _ _=>rfl) Tryz.func96 rfl rfl ?_
 repeat' first
  | ((first | show Dk.ER _ _ _ | show Dk.ba _ _ | show Dk.EF _ _ _ | show Dk.EO _ _ _ | show Dk.EP _ _ | show Dk.aX _ _ _ _ | show Dk.aq _ _ _ _ | show Dk.Kp _ _ _ _ | show Dk.bn _ _ | show Dk.bb _ _ _ _); repeat' first | exact rfl | (refine @id.{0} _ ?_; constructor))
  | intro _
  | exact rfl
  | (refine @id.{0} _ ?_; constructor)
  | exact ()
theorem ac9 {x0:aI} {dE:Addr} {aT:Value} {bB:Value} {aO:Value} {aN:Value}:Ct Tryz.prog 140 true (jC x0) [.pointer (some (dE))] [.au dE [.int .i64 (x0.aA),aT,bB,aO,aN],.rd false (aB (aC .i64)) aT x0.aF,.rd false (aB (aC .i64)) bB x0.To,.rd false (aB (aC .i64)) aO x0.aJ,.rd false (aB (aB (aC .i64))) aN x0.aD] (fun y (_:Unit)=>[.int .i64 y.1,.int .i64 y.2.1,.int .i64 y.2.2.1,.int .i64 y.2.2.2]) (fun y _=>[]):=by
 refine ct (S:=Unit) (ca fun _ _=>rfl) Tryz.func140 rfl rfl ?_
 repeat' first
  | ((first | show Dk.ER _ _ _ | show Dk.ba _ _ | show Dk.EF _ _ _ | show Dk.EO _ _ _ | show Dk.EP _ _ | show Dk.aX _ _ _ _ | show Dk.aq _ _ _ _ | show Dk.Kp _ _ _ _ | show Dk.bn _ _ | show Dk.bb _ _ _ _); repeat' first | exact rfl | (refine @id.{0} _ ?_; constructor))
  | intro _
  | exact rfl
  | (refine Dk.ue (t:=64) rfl ?_ ?_)
  | (refine Dk.ue (t:=74) rfl ?_ ?_)
  | (refine @id.{0} _ ?_; constructor)
  | apply Dk.loop 0 (V:=Unit) (fun (s:Int) v=>[]) (fun s v=>[(7,.int .i64 (s))]) () [(0,_),(6,_)]
  | apply Dk.loop 2 (V:=Unit) (fun (s:Int) v=>[]) (fun s v=>[(8,.int .i64 (s))]) () [(0,_),(6,_)]
  | apply Dk.loop 4 (V:=Unit) (fun (s:Int) v=>[]) (fun s v=>[(9,.int .i64 (s))]) () [(0,_),(6,_),(8,_)]
  | apply Dk.loop 6 (V:=Unit) (fun (s:Int) v=>[]) (fun s v=>[(10,.int .i64 (s))]) () [(0,_),(6,_),(8,_),(9,_)]
  | apply Dk.quiet (id:=5) (by kernel_rfl)
  | apply N1
  | apply Ki
  | exact ()
theorem WS {x0:Int} {x1:Int} {x2:aI} {sJ:Addr} {sK:Addr} {sG:Value} {sI:Value} {rJ:Value} {rD:Value}:Ct Tryz.prog 114 true (oZ x0 x1 x2) [.int .i64 (x0),.int .i64 (x1),.pointer (some (sJ))] [.au sJ [.pointer (some (sK))],.au sK [.int .i64 (x2.aA),sG,sI,rJ,rD],.rd false (aB (aC .i64)) sG x2.aF,.rd false (aB (aC .i64)) sI x2.To,.rd false (aB (aC .i64)) rJ x2.aJ,.rd false (aB (aB (aC .i64))) rD x2.aD] (fun y (_:Unit)=>[.int .i64 y]) (fun y _=>[]):=by
 refine ct (S:=Unit) (ca fun _ _=>rfl) Tryz.func114 rfl rfl ?_
 repeat' first
  | ((first | show Dk.ER _ _ _ | show Dk.ba _ _ | show Dk.EF _ _ _ | show Dk.EO _ _ _ | show Dk.EP _ _ | show Dk.aX _ _ _ _ | show Dk.aq _ _ _ _ | show Dk.Kp _ _ _ _ | show Dk.bn _ _ | show Dk.bb _ _ _ _); repeat' first | exact rfl | (refine @id.{0} _ ?_; constructor))
  | intro _
  | exact rfl
  | (refine @id.{0} _ ?_; constructor)
  | apply Ki
  | exact ()
theorem WT {x0:aI} {dE:Addr} {aT:Value} {bB:Value} {aO:Value} {aN:Value} {x1:Int} {x2:Int}:Ct Tryz.prog 118 true (iB x0 x1 x2) [.pointer (some (dE)),.int .i64 (x1),.int .i64 (x2)] [.au dE [.int .i64 (x0.aA),aT,bB,aO,aN],.rd false (aB (aC .i64)) aT x0.aF,.rd false (aB (aC .i64)) bB x0.To,.rd false (aB (aC .i64)) aO x0.aJ,.rd false (aB (aB (aC .i64))) aN x0.aD] (fun y (v:Value)=>[v]) (fun y v=>[.own (aL 2 (aC .i64)) v y]):=by
 refine ct (S:=Unit) (ca fun _ _=>rfl) Tryz.func118 rfl rfl ?_
 repeat' first
  | ((first | show Dk.ER _ _ _ | show Dk.ba _ _ | show Dk.EF _ _ _ | show Dk.EO _ _ _ | show Dk.EP _ _ | show Dk.aX _ _ _ _ | show Dk.aq _ _ _ _ | show Dk.Kp _ _ _ _ | show Dk.bn _ _ | show Dk.bb _ _ _ _); repeat' first | exact rfl | (refine @id.{0} _ ?_; constructor))
  | intro _
  | exact rfl
  | (refine @id.{0} _ ?_; constructor)
  | apply Dk.loop 0 (V:=Value) (fun (s:(List Int)×Int) v=>[.own (aL 2 (aC .i64)) v s.1]) (fun s v=>[(7,v),(15,.int .i64 (s.2))]) _ [(0,_),(1,_),(2,_),(14,_)]
  | exact ()
theorem c78 {x0:aM} {x1 x2:bE} {p:Addr} {lz l3 l4 l5 l6 l7 l8 l9 uo ua v1 v2:Value}:Ct Tryz.prog 78 true (nJ x0 x1 x2) [.pointer (some p),.agg #[.int .i64 x1.fv,v1],.agg #[.int .i64 x2.fv,v2]] [.au p [.int .i64 x0.aE.aA,lz,l3,l4,l5,.int .i64 x0.aH.aA,l6,l7,l8,l9,uo,ua],.rd false (aB (aC .i64)) lz x0.aE.aF,.rd false (aB (aC .i64)) l3 x0.aE.To,.rd false (aB (aC .i64)) l4 x0.aE.aJ,.rd false (aB (aB (aC .i64))) l5 x0.aE.aD,.rd false (aB (aC .i64)) l6 x0.aH.aF,.rd false (aB (aC .i64)) l7 x0.aH.To,.rd false (aB (aC .i64)) l8 x0.aH.aJ,.rd false (aB (aB (aC .i64))) l9 x0.aH.aD,.rd false (aB (aC .i64)) uo x0.aA,.rd false (aB (aC .i64)) ua x0.ab,.rd false (aB (aC .i64)) v1 x1.bw,.rd false (aB (aC .i64)) v2 x2.bw] (fun y (v:Value)=>[v]) (fun y v=>[.own (aL 2 (aC .i64)) v y]):=by
 refine ct (S:=Unit) (ca fun _ _=>rfl) Tryz.func78 rfl rfl ?_
 repeat' first
  | ((first | show Dk.ER _ _ _ | show Dk.ba _ _ | show Dk.EF _ _ _ | show Dk.EO _ _ _ | show Dk.EP _ _ | show Dk.aX _ _ _ _ | show Dk.aq _ _ _ _ | show Dk.Kp _ _ _ _ | show Dk.bn _ _ | show Dk.bb _ _ _ _); repeat' first | exact rfl | (refine @id.{0} _ ?_; constructor))
  | intro _
  | exact rfl
  | (refine @id.{0} _ ?_; constructor)
  | apply Dk.Y2
  | apply Dk.Y3
  | apply Dk.loop 0 (V:=Value) (fun (s:List Int×Int) v=>[.own (aL 2 (aC .i64)) v s.1]) (fun s v=>[(8,v),(24,.int .i64 s.2)]) _ [(4,_),(5,_),(7,_),(22,_),(23,_)]
  | apply Dk.Ri 2 1 (V:=Unit) (fun (s:Int) _=>[]) (fun s _=>[(31,.int .i64 s)]) () [(4,_),(5,_),(7,_),(22,_),(23,_),(8,_),(10,_),(24,_),(29,_),(30,_)] rfl
  | apply Dk.Y4
  | apply Dk.Y5
  | (apply Dk.Y6 <;> first | exact rfl | skip)
  | apply Dk.quiet (id:=9) (by kernel_rfl)
  | apply WT
  | apply Ki
  | exact ()
theorem ada {x0:(List Int)} {cY:Value} {x1:Int}:Ct Tryz.prog 163 true (nK x0 x1) [cY,.int .i64 (x1)] [.rd false (aB (aC .i64)) cY x0] (fun y (_:Unit)=>[.int .i64 y]) (fun y _=>[]):=by
 refine ct (S:=Unit) (ca fun _ _=>rfl) Tryz.func163 rfl rfl ?_
 repeat' first
  | ((first | show Dk.ER _ _ _ | show Dk.ba _ _ | show Dk.EF _ _ _ | show Dk.EO _ _ _ | show Dk.EP _ _ | show Dk.aX _ _ _ _ | show Dk.aq _ _ _ _ | show Dk.Kp _ _ _ _ | show Dk.bn _ _ | show Dk.bb _ _ _ _); repeat' first | exact rfl | (refine @id.{0} _ ?_; constructor))
  | intro _
  | exact rfl
  | (refine @id.{0} _ ?_; constructor)
  | apply Dk.loop 0 (V:=Unit) (fun (s:Int) v=>[]) (fun s v=>[(5,.int .i64 (s))]) () [(0,_),(1,_)]
  | exact ()
theorem adb {x0:(List Int)} {cY:Value}:Ct Tryz.prog 160 true (lL x0) [cY] [.rd false (aB (aC .i64)) cY x0] (fun y (v:Value)=>[v]) (fun y v=>[.own (aL 2 (aC .i64)) v y]):=by
 refine ct (S:=Unit) (ca fun _ _=>rfl) Tryz.func160 rfl rfl ?_
 repeat' first
  | ((first | show Dk.ER _ _ _ | show Dk.ba _ _ | show Dk.EF _ _ _ | show Dk.EO _ _ _ | show Dk.EP _ _ | show Dk.aX _ _ _ _ | show Dk.aq _ _ _ _ | show Dk.Kp _ _ _ _ | show Dk.bn _ _ | show Dk.bb _ _ _ _); repeat' first | exact rfl | (refine @id.{0} _ ?_; constructor))
  | intro _
  | exact rfl
  | (refine @id.{0} _ ?_; constructor)
  | apply Dk.loop 0 (V:=Value×Value) (fun (s:(List Int)×(List Int)×Int) v=>[.own (aL 2 (aC .i64)) v.1 s.1,.own (aL 2 (aC .i64)) v.2 s.2.1]) (fun s v=>[(3,v.1),(4,v.2),(5,.int .i64 (s.2.2))]) (_,_) [(0,_)]
  | apply ada
  | exact ()
theorem c57 {p:Addr}:Ct Tryz.prog 57 true qY [.pointer (some p)] [] (fun _ (_:Unit)=>[.iface 130 (.agg #[.pointer (some p)])]) (fun _ _=>[]):=by
 refine ct (S:=Unit) (ca fun _ _=>rfl) Tryz.func57 rfl rfl ?_
 repeat' first
  | ((first | show Dk.ER _ _ _ | show Dk.ba _ _ | show Dk.EF _ _ _ | show Dk.EO _ _ _ | show Dk.EP _ _ | show Dk.aX _ _ _ _ | show Dk.aq _ _ _ _ | show Dk.Kp _ _ _ _ | show Dk.bn _ _ | show Dk.bb _ _ _ _); repeat' first | exact rfl | (refine @id.{0} _ ?_; constructor))
  | intro _
  | exact rfl
  | (refine @id.{0} _ ?_; constructor)
  | exact ()
end Go.Proofs.YtgjbmjjihmfppaaGreat
