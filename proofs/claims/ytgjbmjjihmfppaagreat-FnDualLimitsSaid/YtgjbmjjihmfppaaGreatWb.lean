/- Walks by the calculus D. No condition beside those that each theorem names. -/
import Derived.Test.YtgjbmjjihmfppaaGreatDi
import Derived.Test.YtgjbmjjihmfppaaGreatMo
import Derived.Test.YtgjbmjjihmfppaaGreatDp
import Derived.Test.YtgjbmjjihmfppaaGreatDs
namespace Go.Proofs.YtgjbmjjihmfppaaGreat
open Go Go.Li Go.Dk
set_option linter.unusedVariables false
set_option maxHeartbeats 16000000
set_option maxRecDepth 100000
theorem c34 {x0:(List Int)} {cY:Value}:Ct Tryz.prog 34 true (nD x0) [cY] [.rd false (aE (aC .u8)) cY x0] (fun y (v:Nat)=>[(match y with | none=>Value.pointer none | some _=>.pointer (some (⟨v,0,none⟩)))]) (fun y v=>match y with | none=>[] | some m0=>[.row v [cY,.int .i64 (m0.At),.int .u64 (m0.au)] 81]):=by
 refine ct (S:=Unit) (by intro _ y v; obtain _ | _:=y <;> rfl) Tryz.func34 rfl rfl ?_
 repeat' first
  | ((first | show Dk.ER _ _ _ | show Dk.bd _ _ | show Dk.EF _ _ _ | show Dk.EO _ _ _ | show Dk.EP _ _ | show Dk.ba _ _ _ _ | show Dk.aw _ _ _ _ | show Dk.Kp _ _ _ _ | show Dk.bp _ _ | show Dk.bg _ _ _ _); repeat' first | exact rfl | (refine @id.{0} _ ?_; constructor))
  | intro _
  | exact rfl
  | apply Dk.D.sN (d:=9)
  | apply Dk.AD.sN (d:=9)
  | apply Dk.D.sN (d:=27)
  | apply Dk.AD.sN (d:=27)
  | apply Dk.D.sN (d:=33)
  | apply Dk.AD.sN (d:=33)
  | apply Dk.D.sN (d:=34)
  | apply Dk.AD.sN (d:=34)
  | (refine @id.{0} _ ?_; constructor)
  | apply Dk.kj 0 (V:=Unit) (A:=Nat) _ (fun a (s:Int×Int) v=>[.row a [cY,.int .i64 ((0:Int)),.int .u64 (s.2)] 81]) (fun a s v=>[(3,.pointer (some ⟨a,0,none⟩)),(4,.int .i64 (s.1))]) () [(0,_)]
  | apply Dk.any (id:=5) 11 [0] [] [[],[],[1],[2,1],[3,2,1],[4,3,2,1],[],[],[6,7],[8,6,7],[9,8,6,7]] (by kernel_rfl)
  | exact ()
 all_goals try first | exact Value.nilFunc | exact (0:Nat)
theorem c99 {x0:(List Int)} {cY:Value} {x1:(List Int)} {dI:Value}:Ct Tryz.prog 99 true (jE x0 x1) [cY,dI] [.rd false (aE (aC .i64)) cY x0,.rd false (aE (aC .i64)) dI x1] (fun y (_:Unit)=>[.bool y]) (fun y _=>[]):=by
 refine ct (S:=Unit) (db fun _ _=>rfl) Tryz.func99 rfl rfl ?_
 repeat' first
  | ((first | show Dk.ER _ _ _ | show Dk.bd _ _ | show Dk.EF _ _ _ | show Dk.EO _ _ _ | show Dk.EP _ _ | show Dk.ba _ _ _ _ | show Dk.aw _ _ _ _ | show Dk.Kp _ _ _ _ | show Dk.bp _ _ | show Dk.bg _ _ _ _); repeat' first | exact rfl | (refine @id.{0} _ ?_; constructor))
  | intro _
  | exact rfl
  | (refine @id.{0} _ ?_; constructor)
  | apply Dk.loop 0 (V:=Unit) (fun (s:Int) v=>[]) (fun s v=>[(5,.int .i64 (s))]) () [(0,_),(1,_)]
  | apply Dk.quiet (id:=6) (by kernel_rfl)
  | exact ()
theorem aca {x0:aG} {aU:Value} {aZ:Value} {aO:Value} {aM:Value} {x1:aG} {bI:Value} {bY:Value} {bC:Value} {aY:Value}:Ct Tryz.prog 133 true (eC x0 x1) [.agg #[.int .i64 (x0.aA),aU,aZ,aO,aM],.agg #[.int .i64 (x1.aA),bI,bY,bC,aY]] [.rd false (aE (aC .i64)) aU x0.aD,.rd false (aE (aC .i64)) aZ x0.To,.rd false (aE (aC .i64)) aO x0.aJ,.rd false (aE (aE (aC .i64))) aM x0.aB,.rd false (aE (aC .i64)) bI x1.aD,.rd false (aE (aC .i64)) bY x1.To,.rd false (aE (aC .i64)) bC x1.aJ,.rd false (aE (aE (aC .i64))) aY x1.aB] (fun y (v:Value×Value×Value×Value)=>[.agg #[.int .i64 y.aA,v.1,v.2.1,v.2.2.1,v.2.2.2]]) (fun y v=>[.own (aK 2 (aC .i64)) v.1 y.aD,.own (aK 2 (aC .i64)) v.2.1 y.To,.own (aK 2 (aC .i64)) v.2.2.1 y.aJ,.own (aK 24 (aK 2 (aC .i64))) v.2.2.2 y.aB]):=by
 refine ct (S:=Unit) (db fun _ _=>rfl) Tryz.func133 rfl rfl ?_
 repeat' first
  | ((first | show Dk.ER _ _ _ | show Dk.bd _ _ | show Dk.EF _ _ _ | show Dk.EO _ _ _ | show Dk.EP _ _ | show Dk.ba _ _ _ _ | show Dk.aw _ _ _ _ | show Dk.Kp _ _ _ _ | show Dk.bp _ _ | show Dk.bg _ _ _ _); repeat' first | exact rfl | (refine @id.{0} _ ?_; constructor))
  | intro _
  | exact rfl
  | (refine Dk.tu (t:=114) rfl ?_ ?_)
  | (refine Dk.tu (t:=121) rfl ?_ ?_)
  | (refine @id.{0} _ ?_; constructor)
  | apply Dk.kj 0 (V:=Value) (A:=Nat×Value×Value×Value) (_,_,_,_) (fun a (s:Int×(List Int)) v=>Dk.pc (fun a0=>Dk.pc (fun a1=>Dk.pc (fun a2 a3=>[.row a0 [.int .i64 (ai (x0.aA * x1.aA)),a1,a2,v,a3] 27,.own (aK 2 (aC .i64)) v s.2]))) a) (fun a s v=>Dk.pc (fun a0=>Dk.pc (fun a1=>Dk.pc (fun a2 a3=>[(7,.pointer (some ⟨a0,0,none⟩)),(8,.int .i64 (s.1))]))) a) _ [(2,_),(3,_),(4,_),(5,_),(6,_)]
  | apply Dk.kj 2 (V:=Value) (A:=Nat×Value×Value×Value) (_,_,_,_) (fun a (s:Int×(List Int)) v=>Dk.pc (fun a0=>Dk.pc (fun a1=>Dk.pc (fun a2 a3=>[.row a0 [.int .i64 (ai (x0.aA * x1.aA)),a1,a2,v,a3] 27,.own (aK 2 (aC .i64)) v s.2]))) a) (fun a s v=>Dk.pc (fun a0=>Dk.pc (fun a1=>Dk.pc (fun a2 a3=>[(7,.pointer (some ⟨a0,0,none⟩)),(9,.int .i64 (s.1))]))) a) _ [(2,_),(3,_),(4,_),(5,_),(6,_),(8,_)]
  | apply Dk.kj 4 (V:=Value×Value×Value) (A:=Nat×Value) (_,_) (fun a (s:Int×(List Int)×(List Int)×(List (List Int))) v=>Dk.pc (fun a0 a1=>[.row a0 [.int .i64 (ai (x0.aA * x1.aA)),v.1,v.2.1,a1,v.2.2] 27,.own (aK 2 (aC .i64)) v.1 s.2.1,.own (aK 2 (aC .i64)) v.2.1 s.2.2.1,.own (aK 24 (aK 2 (aC .i64))) v.2.2 s.2.2.2]) a) (fun a s v=>Dk.pc (fun a0 a1=>[(7,.pointer (some ⟨a0,0,none⟩)),(10,.int .i64 (s.1))]) a) (_,_,_) [(2,_),(3,_),(4,_),(5,_),(6,_)]
  | apply Dk.kj 6 (V:=Value×Value×Value) (A:=Nat×Value) (_,_) (fun a (s:Int×(List Int)×(List Int)×(List (List Int))) v=>Dk.pc (fun a0 a1=>[.row a0 [.int .i64 (ai (x0.aA * x1.aA)),v.1,v.2.1,a1,v.2.2] 27,.own (aK 2 (aC .i64)) v.1 s.2.1,.own (aK 2 (aC .i64)) v.2.1 s.2.2.1,.own (aK 24 (aK 2 (aC .i64))) v.2.2 s.2.2.2]) a) (fun a s v=>Dk.pc (fun a0 a1=>[(7,.pointer (some ⟨a0,0,none⟩)),(11,.int .i64 (s.1))]) a) (_,_,_) [(2,_),(3,_),(4,_),(5,_),(6,_),(10,_)]
  | apply Dk.loop 8 (V:=Value) (fun (s:(List Int)×Int) v=>[.own (aK 2 (aC .i64)) v s.1]) (fun s v=>[(12,v),(13,.int .i64 (s.2))]) _ [(2,_),(3,_),(4,_),(5,_),(6,_),(7,_),(10,_),(11,_)]
  | apply Dk.loop 10 (V:=Value) (fun (s:(List Int)×Int) v=>[.own (aK 2 (aC .i64)) v s.1]) (fun s v=>[(12,v),(14,.int .i64 (s.2))]) _ [(2,_),(3,_),(4,_),(5,_),(6,_),(7,_),(10,_),(11,_),(13,_)]
  | apply Dk.quiet (id:=1) (by kernel_rfl)
  | apply Dk.quiet (id:=27) (by kernel_rfl)
  | apply Dk.any (id:=9) 16 [] [] [[],[0],[],[2],[],[3,2,4],[5,3,2,4],[],[6,5,3,2,4,7],[],[9],[],[10,9,11],[12,10,9,11],[8,6,5,3,2,4,7,13,12,10,9,11],[14,8,6,5,3,2,4,7,13,12,10,9,11]] (by kernel_rfl)
  | apply Dk.any (id:=16) 16 [] [] [[],[0],[],[2],[],[3,2,4],[5,3,2,4],[],[6,5,3,2,4,7],[],[9],[],[10,9,11],[12,10,9,11],[8,6,5,3,2,4,7,13,12,10,9,11],[14,8,6,5,3,2,4,7,13,12,10,9,11]] (by kernel_rfl)
  | apply Dk.any (id:=17) 16 [] [] [[],[0],[],[2],[],[3,2,4],[5,3,2,4],[],[6,5,3,2,4,7],[],[9],[],[10,9,11],[12,10,9,11],[8,6,5,3,2,4,7,13,12,10,9,11],[14,8,6,5,3,2,4,7,13,12,10,9,11]] (by kernel_rfl)
  | exact ()
theorem MY {x0:aG} {dE:Addr} {aU:Value} {aZ:Value} {aO:Value} {aM:Value}:Ct Tryz.prog 94 true (cL x0) [.pointer (some (dE))] [.aq dE [.int .i64 (x0.aA),aU,aZ,aO,aM],.rd false (aE (aC .i64)) aU x0.aD,.rd false (aE (aC .i64)) aZ x0.To,.rd false (aE (aC .i64)) aO x0.aJ,.rd false (aE (aE (aC .i64))) aM x0.aB] (fun y (_:Unit)=>[.int .i64 y]) (fun y _=>[]):=by
 refine ct (S:=Unit) (db fun _ _=>rfl) Tryz.func94 rfl rfl ?_
 repeat' first
  | ((first | show Dk.ER _ _ _ | show Dk.bd _ _ | show Dk.EF _ _ _ | show Dk.EO _ _ _ | show Dk.EP _ _ | show Dk.ba _ _ _ _ | show Dk.aw _ _ _ _ | show Dk.Kp _ _ _ _ | show Dk.bp _ _ | show Dk.bg _ _ _ _); repeat' first | exact rfl | (refine @id.{0} _ ?_; constructor))
  | intro _
  | exact rfl
  | (refine @id.{0} _ ?_; constructor)
  | exact ()
theorem I0 {x0:aG} {dE:Addr} {aU:Value} {aZ:Value} {aO:Value} {aM:Value} {x1:Int} {x2:Int}:Ct Tryz.prog 96 true (cI x0 x1 x2) [.pointer (some (dE)),.int .i64 (x1),.int .i64 (x2)] [.aq dE [.int .i64 (x0.aA),aU,aZ,aO,aM],.rd false (aE (aC .i64)) aU x0.aD,.rd false (aE (aC .i64)) aZ x0.To,.rd false (aE (aC .i64)) aO x0.aJ,.rd false (aE (aE (aC .i64))) aM x0.aB] (fun y (_:Unit)=>[.int .i64 y]) (fun y _=>[]):=by
 refine ct (S:=Unit) (db fun _ _=>rfl) Tryz.func96 rfl rfl ?_
 repeat' first
  | ((first | show Dk.ER _ _ _ | show Dk.bd _ _ | show Dk.EF _ _ _ | show Dk.EO _ _ _ | show Dk.EP _ _ | show Dk.ba _ _ _ _ | show Dk.aw _ _ _ _ | show Dk.Kp _ _ _ _ | show Dk.bp _ _ | show Dk.bg _ _ _ _); repeat' first | exact rfl | (refine @id.{0} _ ?_; constructor))
  | intro _
  | exact rfl
  | (refine @id.{0} _ ?_; constructor)
  | exact ()
theorem acb {x0:aG} {dE:Addr} {aU:Value} {aZ:Value} {aO:Value} {aM:Value}:Ct Tryz.prog 140 true (iD x0) [.pointer (some (dE))] [.aq dE [.int .i64 (x0.aA),aU,aZ,aO,aM],.rd false (aE (aC .i64)) aU x0.aD,.rd false (aE (aC .i64)) aZ x0.To,.rd false (aE (aC .i64)) aO x0.aJ,.rd false (aE (aE (aC .i64))) aM x0.aB] (fun y (_:Unit)=>[.int .i64 y.1,.int .i64 y.2.1,.int .i64 y.2.2.1,.int .i64 y.2.2.2]) (fun y _=>[]):=by
 refine ct (S:=Unit) (db fun _ _=>rfl) Tryz.func140 rfl rfl ?_
 repeat' first
  | ((first | show Dk.ER _ _ _ | show Dk.bd _ _ | show Dk.EF _ _ _ | show Dk.EO _ _ _ | show Dk.EP _ _ | show Dk.ba _ _ _ _ | show Dk.aw _ _ _ _ | show Dk.Kp _ _ _ _ | show Dk.bp _ _ | show Dk.bg _ _ _ _); repeat' first | exact rfl | (refine @id.{0} _ ?_; constructor))
  | intro _
  | exact rfl
  | (refine Dk.tu (t:=64) rfl ?_ ?_)
  | (refine Dk.tu (t:=74) rfl ?_ ?_)
  | (refine @id.{0} _ ?_; constructor)
  | apply Dk.loop 0 (V:=Unit) (fun (s:Int) v=>[]) (fun s v=>[(7,.int .i64 (s))]) () [(0,_),(6,_)]
  | apply Dk.loop 2 (V:=Unit) (fun (s:Int) v=>[]) (fun s v=>[(8,.int .i64 (s))]) () [(0,_),(6,_)]
  | apply Dk.loop 4 (V:=Unit) (fun (s:Int) v=>[]) (fun s v=>[(9,.int .i64 (s))]) () [(0,_),(6,_),(8,_)]
  | apply Dk.loop 6 (V:=Unit) (fun (s:Int) v=>[]) (fun s v=>[(10,.int .i64 (s))]) () [(0,_),(6,_),(8,_),(9,_)]
  | apply Dk.quiet (id:=5) (by kernel_rfl)
  | apply MY
  | apply I0
  | exact ()
theorem Wn {x0:Int} {x1:Int} {x2:aG} {qO:Addr} {qP:Addr} {qK:Value} {qN:Value} {pN:Value} {pK:Value}:Ct Tryz.prog 114 true (dU x0 x1 x2) [.int .i64 (x0),.int .i64 (x1),.pointer (some (qO))] [.aq qO [.pointer (some (qP))],.aq qP [.int .i64 (x2.aA),qK,qN,pN,pK],.rd false (aE (aC .i64)) qK x2.aD,.rd false (aE (aC .i64)) qN x2.To,.rd false (aE (aC .i64)) pN x2.aJ,.rd false (aE (aE (aC .i64))) pK x2.aB] (fun y (_:Unit)=>[.int .i64 y]) (fun y _=>[]):=by
 refine ct (S:=Unit) (db fun _ _=>rfl) Tryz.func114 rfl rfl ?_
 repeat' first
  | ((first | show Dk.ER _ _ _ | show Dk.bd _ _ | show Dk.EF _ _ _ | show Dk.EO _ _ _ | show Dk.EP _ _ | show Dk.ba _ _ _ _ | show Dk.aw _ _ _ _ | show Dk.Kp _ _ _ _ | show Dk.bp _ _ | show Dk.bg _ _ _ _); repeat' first | exact rfl | (refine @id.{0} _ ?_; constructor))
  | intro _
  | exact rfl
  | (refine @id.{0} _ ?_; constructor)
  | apply I0
  | exact ()
theorem Wo {x0:aG} {dE:Addr} {aU:Value} {aZ:Value} {aO:Value} {aM:Value} {x1:Int} {x2:Int}:Ct Tryz.prog 118 true (gK x0 x1 x2) [.pointer (some (dE)),.int .i64 (x1),.int .i64 (x2)] [.aq dE [.int .i64 (x0.aA),aU,aZ,aO,aM],.rd false (aE (aC .i64)) aU x0.aD,.rd false (aE (aC .i64)) aZ x0.To,.rd false (aE (aC .i64)) aO x0.aJ,.rd false (aE (aE (aC .i64))) aM x0.aB] (fun y (v:Value)=>[v]) (fun y v=>[.own (aK 2 (aC .i64)) v y]):=by
 refine ct (S:=Unit) (db fun _ _=>rfl) Tryz.func118 rfl rfl ?_
 repeat' first
  | ((first | show Dk.ER _ _ _ | show Dk.bd _ _ | show Dk.EF _ _ _ | show Dk.EO _ _ _ | show Dk.EP _ _ | show Dk.ba _ _ _ _ | show Dk.aw _ _ _ _ | show Dk.Kp _ _ _ _ | show Dk.bp _ _ | show Dk.bg _ _ _ _); repeat' first | exact rfl | (refine @id.{0} _ ?_; constructor))
  | intro _
  | exact rfl
  | (refine @id.{0} _ ?_; constructor)
  | apply Dk.loop 0 (V:=Value) (fun (s:(List Int)×Int) v=>[.own (aK 2 (aC .i64)) v s.1]) (fun s v=>[(7,v),(15,.int .i64 (s.2))]) _ [(0,_),(1,_),(2,_),(14,_)]
  | exact ()
theorem YC {x0:aN} {x1 x2:bD} {p:Addr} {py p4 p5 p6 p7 p8 p9 qa uo ua v1 v2:Value}:Ct Tryz.prog 78 true (jX x0 x1 x2) [.pointer (some p),.agg #[.int .i64 x1.ef,v1],.agg #[.int .i64 x2.ef,v2]] [.aq p [.int .i64 x0.aH.aA,py,p4,p5,p6,.int .i64 x0.aI.aA,p7,p8,p9,qa,uo,ua],.rd false (aE (aC .i64)) py x0.aH.aD,.rd false (aE (aC .i64)) p4 x0.aH.To,.rd false (aE (aC .i64)) p5 x0.aH.aJ,.rd false (aE (aE (aC .i64))) p6 x0.aH.aB,.rd false (aE (aC .i64)) p7 x0.aI.aD,.rd false (aE (aC .i64)) p8 x0.aI.To,.rd false (aE (aC .i64)) p9 x0.aI.aJ,.rd false (aE (aE (aC .i64))) qa x0.aI.aB,.rd false (aE (aC .i64)) uo x0.aA,.rd false (aE (aC .i64)) ua x0.aj,.rd false (aE (aC .i64)) v1 x1.cf,.rd false (aE (aC .i64)) v2 x2.cf] (fun y (v:Value)=>[v]) (fun y v=>[.own (aK 2 (aC .i64)) v y]):=by
 refine ct (S:=Unit) (db fun _ _=>rfl) Tryz.func78 rfl rfl ?_
 repeat' first
  | ((first | show Dk.ER _ _ _ | show Dk.bd _ _ | show Dk.EF _ _ _ | show Dk.EO _ _ _ | show Dk.EP _ _ | show Dk.ba _ _ _ _ | show Dk.aw _ _ _ _ | show Dk.Kp _ _ _ _ | show Dk.bp _ _ | show Dk.bg _ _ _ _); repeat' first | exact rfl | (refine @id.{0} _ ?_; constructor))
  | intro _
  | exact rfl
  | (refine @id.{0} _ ?_; constructor)
  | apply Dk.Yb
  | apply Dk.Yc
  | apply Dk.loop 0 (V:=Value) (fun (s:List Int×Int) v=>[.own (aK 2 (aC .i64)) v s.1]) (fun s v=>[(8,v),(24,.int .i64 s.2)]) _ [(4,_),(5,_),(7,_),(22,_),(23,_)]
  | apply Dk.Qm 2 1 (V:=Unit) (fun (s:Int) _=>[]) (fun s _=>[(31,.int .i64 s)]) () [(4,_),(5,_),(7,_),(22,_),(23,_),(8,_),(10,_),(24,_),(29,_),(30,_)] rfl
  | apply Dk.Yd
  | apply Dk.Ye
  | (apply Dk.Yf <;> first | exact rfl | skip)
  | apply Dk.quiet (id:=9) (by kernel_rfl)
  | apply Wo
  | apply I0
  | exact ()
theorem acd {x0:aG} {aU:Value} {aZ:Value} {aO:Value} {aM:Value}:Ct Tryz.prog 107 true (mD x0) [.agg #[.int .i64 (x0.aA),aU,aZ,aO,aM]] [.rd false (aE (aC .i64)) aU x0.aD,.rd false (aE (aC .i64)) aZ x0.To,.rd false (aE (aC .i64)) aO x0.aJ,.rd false (aE (aE (aC .i64))) aM x0.aB] (fun y (_:Unit)=>[.int .i64 y.1,.int .i64 y.2.1,.int .i64 y.2.2.1,.int .i64 y.2.2.2]) (fun y _=>[]):=by
 refine ct (S:=Unit) (db fun _ _=>rfl) Tryz.func107 rfl rfl ?_
 repeat' first
  | ((first | show Dk.ER _ _ _ | show Dk.bd _ _ | show Dk.EF _ _ _ | show Dk.EO _ _ _ | show Dk.EP _ _ | show Dk.ba _ _ _ _ | show Dk.aw _ _ _ _ | show Dk.Kp _ _ _ _ | show Dk.bp _ _ | show Dk.bg _ _ _ _); repeat' first | exact rfl | (refine @id.{0} _ ?_; constructor))
  | intro _
  | exact rfl
  | (refine Dk.tu (t:=65) rfl ?_ ?_)
  | (refine Dk.tu (t:=81) rfl ?_ ?_)
  | (refine @id.{0} _ ?_; constructor)
  | apply Dk.loop 0 (V:=Unit) (fun (s:Int) v=>[]) (fun s v=>[(7,.int .i64 (s))]) () [(1,_),(6,_)]
  | apply Dk.loop 2 (V:=Unit) (fun (s:Int) v=>[]) (fun s v=>[(8,.int .i64 (s))]) () [(1,_),(6,_)]
  | apply Dk.loop 4 (V:=Unit) (fun (s:Int) v=>[]) (fun s v=>[(9,.int .i64 (s))]) () [(1,_),(6,_),(8,_)]
  | apply Dk.loop 6 (V:=Unit) (fun (s:Int) v=>[]) (fun s v=>[(10,.int .i64 (s))]) () [(1,_),(6,_),(8,_),(9,_)]
  | apply Dk.quiet (id:=5) (by kernel_rfl)
  | apply Dk.quiet (id:=13) (by kernel_rfl)
  | apply Dk.quiet (id:=17) (by kernel_rfl)
  | exact ()
theorem c41 {x0:(List Int)} {cY:Value} {x1:(List Int)} {dI:Value}:Ct Tryz.prog 41 true (oZ x0 x1) [cY,dI] [.rd false (aE (aC .i64)) cY x0,.rd false (aE (aC .i64)) dI x1] (fun y (_:Unit)=>[.bool y]) (fun y _=>[]):=by
 refine ct (S:=Unit) (db fun _ _=>rfl) Tryz.func41 rfl rfl ?_
 repeat' first
  | ((first | show Dk.ER _ _ _ | show Dk.bd _ _ | show Dk.EF _ _ _ | show Dk.EO _ _ _ | show Dk.EP _ _ | show Dk.ba _ _ _ _ | show Dk.aw _ _ _ _ | show Dk.Kp _ _ _ _ | show Dk.bp _ _ | show Dk.bg _ _ _ _); repeat' first | exact rfl | (refine @id.{0} _ ?_; constructor))
  | intro _
  | exact rfl
  | (refine @id.{0} _ ?_; constructor)
  | apply Dk.loop 0 (V:=Unit) (fun (s:Int) v=>[]) (fun s v=>[(5,.int .i64 (s))]) () [(0,_),(1,_)]
  | apply Dk.quiet (id:=6) (by kernel_rfl)
  | exact ()
theorem Uf {x0:bD} {qL:Value} {x1:bD} {eD:Value}:Ct Tryz.prog 11 true (iR x0 x1) [.agg #[.int .i64 (x0.ef),qL],.agg #[.int .i64 (x1.ef),eD]] [.rd false (aE (aC .i64)) qL x0.cf,.rd false (aE (aC .i64)) eD x1.cf] (fun y (_:Unit)=>[.bool y]) (fun y _=>[]):=by
 refine ct (S:=Unit) (db fun _ _=>rfl) Tryz.func11 rfl rfl ?_
 repeat' first
  | ((first | show Dk.ER _ _ _ | show Dk.bd _ _ | show Dk.EF _ _ _ | show Dk.EO _ _ _ | show Dk.EP _ _ | show Dk.ba _ _ _ _ | show Dk.aw _ _ _ _ | show Dk.Kp _ _ _ _ | show Dk.bp _ _ | show Dk.bg _ _ _ _); repeat' first | exact rfl | (refine @id.{0} _ ?_; constructor))
  | intro _
  | exact rfl
  | (refine @id.{0} _ ?_; constructor)
  | apply c41
  | exact ()
end Go.Proofs.YtgjbmjjihmfppaaGreat
