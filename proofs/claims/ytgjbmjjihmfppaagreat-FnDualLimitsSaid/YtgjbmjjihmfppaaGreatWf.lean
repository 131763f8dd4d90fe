/- Walks by the calculus D. No condition beside those that each theorem names. -/
import Derived.Test.YtgjbmjjihmfppaaGreatDi
import Derived.Test.YtgjbmjjihmfppaaGreatMo
import Derived.Test.YtgjbmjjihmfppaaGreatDp
import Derived.Test.YtgjbmjjihmfppaaGreatDs
import Derived.Test.YtgjbmjjihmfppaaGreatWa
import Derived.Test.YtgjbmjjihmfppaaGreatWb
import Derived.Test.YtgjbmjjihmfppaaGreatWc
namespace Go.Proofs.YtgjbmjjihmfppaaGreat
open Go Go.Li Go.Dk
set_option linter.unusedVariables false
set_option maxHeartbeats 16000000
set_option maxRecDepth 100000
theorem Pv {x0:aG} {aU:Value} {aZ:Value} {aO:Value} {aM:Value}:Ct Tryz.prog 110 true (iS x0) [.agg #[.int .i64 (x0.aA),aU,aZ,aO,aM]] [.rd false (aE (aC .i64)) aU x0.aD,.rd false (aE (aC .i64)) aZ x0.To,.rd false (aE (aC .i64)) aO x0.aJ,.rd false (aE (aE (aC .i64))) aM x0.aB] (fun y (v:Value×Value×Value×Value)=>[.agg #[.int .i64 y.aA,v.1,v.2.1,v.2.2.1,v.2.2.2]]) (fun y v=>[.own (aK 2 (aC .i64)) v.1 y.aD,.own (aK 2 (aC .i64)) v.2.1 y.To,.own (aK 2 (aC .i64)) v.2.2.1 y.aJ,.own (aK 24 (aK 2 (aC .i64))) v.2.2.2 y.aB]):=by
 refine ct (S:=Unit) (db fun _ _=>rfl) Tryz.func110 rfl rfl ?_
 repeat' first
  | ((first | show Dk.ER _ _ _ | show Dk.bd _ _ | show Dk.EF _ _ _ | show Dk.EO _ _ _ | show Dk.EP _ _ | show Dk.ba _ _ _ _ | show Dk.aw _ _ _ _ | show Dk.Kp _ _ _ _ | show Dk.bp _ _ | show Dk.bg _ _ _ _); repeat' first | exact rfl | (refine @id.{0} _ ?_; constructor))
  | intro _
  | exact rfl
  | (refine @id.{0} _ ?_; constructor)
  | apply Dk.any (id:=1) 14 [] [] [[],[0],[],[2],[3,2],[],[5],[6,5,4,3,2],[],[8],[9,8,7,6,5,4,3,2],[],[11],[12,11,10,9,8,7,6,5,4,3,2]] (by kernel_rfl)
  | apply yp
  | apply Wh
  | exact ()
theorem Wy {x0:aG} {aU:Value} {aZ:Value} {aO:Value} {aM:Value} {x1:aG} {bI:Value} {bY:Value} {bC:Value} {aY:Value}:Ct Tryz.prog 132 true (gN x0 x1) [.agg #[.int .i64 (x0.aA),aU,aZ,aO,aM],.agg #[.int .i64 (x1.aA),bI,bY,bC,aY]] [.rd false (aE (aC .i64)) aU x0.aD,.rd false (aE (aC .i64)) aZ x0.To,.rd false (aE (aC .i64)) aO x0.aJ,.rd false (aE (aE (aC .i64))) aM x0.aB,.rd false (aE (aC .i64)) bI x1.aD,.rd false (aE (aC .i64)) bY x1.To,.rd false (aE (aC .i64)) bC x1.aJ,.rd false (aE (aE (aC .i64))) aY x1.aB] (fun y (v:Value×Value×Value×Value)=>[.agg #[.int .i64 y.aA,v.1,v.2.1,v.2.2.1,v.2.2.2]]) (fun y v=>[.own (aK 2 (aC .i64)) v.1 y.aD,.own (aK 2 (aC .i64)) v.2.1 y.To,.own (aK 2 (aC .i64)) v.2.2.1 y.aJ,.own (aK 24 (aK 2 (aC .i64))) v.2.2.2 y.aB]):=by
 refine ct (S:=Unit) (db fun _ _=>rfl) Tryz.func132 rfl rfl ?_
 repeat' first
  | ((first | show Dk.ER _ _ _ | show Dk.bd _ _ | show Dk.EF _ _ _ | show Dk.EO _ _ _ | show Dk.EP _ _ | show Dk.ba _ _ _ _ | show Dk.aw _ _ _ _ | show Dk.Kp _ _ _ _ | show Dk.bp _ _ | show Dk.bg _ _ _ _); repeat' first | exact rfl | (refine @id.{0} _ ?_; constructor))
  | intro _
  | exact rfl
  | apply Dk.P1 (d:=69)
  | apply Dk.ixH (d:=70)
  | apply Dk.stR (e:=24) (t:=24)
  | (refine @id.{0} _ ?_; constructor)
  | apply Dk.kj 0 (V:=Value) (A:=Nat×Value×Value×Value) (_,_,_,_) (fun a (s:Int×(List Int)) v=>Dk.pc (fun a0=>Dk.pc (fun a1=>Dk.pc (fun a2 a3=>[.row a0 [.int .i64 (ai (x0.aA+x1.aA)),a1,a2,v,a3] 27,.own (aK 2 (aC .i64)) v s.2]))) a) (fun a s v=>Dk.pc (fun a0=>Dk.pc (fun a1=>Dk.pc (fun a2 a3=>[(7,.pointer (some ⟨a0,0,none⟩)),(8,.int .i64 (s.1))]))) a) _ [(3,_),(4,_),(5,_),(6,_)]
  | apply Dk.kj 2 (V:=Unit) (A:=Value) _ (fun a (s:Int×(List (List Int))) v=>[.own (aK 24 (aK 2 (aC .i64))) a s.2]) (fun a s v=>[(9,.int .i64 (s.1))]) () [(3,_),(4,_),(5,_),(6,_),(7,_)]
  | apply Dk.kj 4 (V:=Unit) (A:=Value) _ (fun a (s:Int×(List (List Int))) v=>[.own (aK 24 (aK 2 (aC .i64))) a s.2]) (fun a s v=>[(10,.int .i64 (s.1))]) () [(3,_),(4,_),(5,_),(6,_),(7,_),(9,_)]
  | apply Dk.kj 6 (V:=Value×Value×Value) (A:=Nat×Value) (_,_) (fun a (s:Int×(List Int)×(List Int)×(List (List Int))) v=>Dk.pc (fun a0 a1=>[.row a0 [.int .i64 (ai (x0.aA+x1.aA)),v.1,v.2.1,a1,v.2.2] 27,.own (aK 2 (aC .i64)) v.1 s.2.1,.own (aK 2 (aC .i64)) v.2.1 s.2.2.1,.own (aK 24 (aK 2 (aC .i64))) v.2.2 s.2.2.2]) a) (fun a s v=>Dk.pc (fun a0 a1=>[(7,.pointer (some ⟨a0,0,none⟩)),(11,.int .i64 (s.1))]) a) (_,_,_) [(3,_),(4,_),(5,_),(6,_)]
  | apply Dk.loop 8 (V:=Value) (fun (s:(List Int)×Int) v=>[.own (aK 2 (aC .i64)) v s.1]) (fun s v=>[(12,v),(13,.int .i64 (s.2))]) _ [(3,_),(4,_),(5,_),(6,_),(7,_),(11,_)]
  | apply Dk.loop 10 (V:=Value) (fun (s:(List Int)×Int) v=>[.own (aK 2 (aC .i64)) v s.1]) (fun s v=>[(12,v),(14,.int .i64 (s.2))]) _ [(3,_),(4,_),(5,_),(6,_),(7,_),(11,_)]
  | apply Dk.quiet (id:=1) (by kernel_rfl)
  | apply Dk.any (id:=7) 10 [] [] [[],[0],[],[2],[],[3,2,4],[5,3,2,4],[],[6,5,3,2,4,7],[8,6,5,3,2,4,7]] (by kernel_rfl)
  | apply Dk.yg (id:=14) [Dk.av.own (aK 24 (aK 2 (aC .i64))) _ _] 10 [] [[],[],[],[],[],[],[],[],[],[12]] [[],[0],[],[],[3],[],[4,3,5],[6,4,3,5],[],[7,6,4,3,5,8]] (by kernel_rfl)
  | apply Dk.any (id:=18) 10 [] [] [[],[0],[],[2],[],[3,2,4],[5,3,2,4],[],[6,5,3,2,4,7],[8,6,5,3,2,4,7]] (by kernel_rfl)
  | apply Dk.any (id:=19) 10 [] [] [[],[0],[],[2],[],[3,2,4],[5,3,2,4],[],[6,5,3,2,4,7],[8,6,5,3,2,4,7]] (by kernel_rfl)
  | apply Pv
  | exact ()
theorem QV {x0:aG} {aU:Value} {aZ:Value} {aO:Value} {aM:Value} {x1:aG} {bI:Value} {bY:Value} {bC:Value} {aY:Value} {x2:(List Int)} {dH:Value} {x3:(List Int)} {eZ:Value}:Ct Tryz.prog 71 true (gX x0 x1 x2 x3) [.agg #[.int .i64 (x0.aA),aU,aZ,aO,aM],.agg #[.int .i64 (x1.aA),bI,bY,bC,aY],dH,eZ] [.rd false (aE (aC .i64)) aU x0.aD,.rd false (aE (aC .i64)) aZ x0.To,.rd false (aE (aC .i64)) aO x0.aJ,.rd false (aE (aE (aC .i64))) aM x0.aB,.rd false (aE (aC .i64)) bI x1.aD,.rd false (aE (aC .i64)) bY x1.To,.rd false (aE (aC .i64)) bC x1.aJ,.rd false (aE (aE (aC .i64))) aY x1.aB,.rd false (aE (aC .i64)) dH x2,.rd false (aE (aC .i64)) eZ x3] (fun y (v:Value×Value×Value×Value×Value×Value×Value×Value×Value×Value)=>[.agg #[.int .i64 y.aH.aA,v.1,v.2.1,v.2.2.1,v.2.2.2.1,.int .i64 y.aI.aA,v.2.2.2.2.1,v.2.2.2.2.2.1,v.2.2.2.2.2.2.1,v.2.2.2.2.2.2.2.1,v.2.2.2.2.2.2.2.2.1,v.2.2.2.2.2.2.2.2.2]]) (fun y v=>[.own (aK 2 (aC .i64)) v.1 y.aH.aD,.own (aK 2 (aC .i64)) v.2.1 y.aH.To,.own (aK 2 (aC .i64)) v.2.2.1 y.aH.aJ,.own (aK 24 (aK 2 (aC .i64))) v.2.2.2.1 y.aH.aB,.own (aK 2 (aC .i64)) v.2.2.2.2.1 y.aI.aD,.own (aK 2 (aC .i64)) v.2.2.2.2.2.1 y.aI.To,.own (aK 2 (aC .i64)) v.2.2.2.2.2.2.1 y.aI.aJ,.own (aK 24 (aK 2 (aC .i64))) v.2.2.2.2.2.2.2.1 y.aI.aB,.own (aK 2 (aC .i64)) v.2.2.2.2.2.2.2.2.1 y.aA,.own (aK 2 (aC .i64)) v.2.2.2.2.2.2.2.2.2 y.aj]):=by
 refine ct (S:=Unit) (db fun _ _=>rfl) Tryz.func71 rfl rfl ?_
 repeat' first
  | ((first | show Dk.ER _ _ _ | show Dk.bd _ _ | show Dk.EF _ _ _ | show Dk.EO _ _ _ | show Dk.EP _ _ | show Dk.ba _ _ _ _ | show Dk.aw _ _ _ _ | show Dk.Kp _ _ _ _ | show Dk.bp _ _ | show Dk.bg _ _ _ _); repeat' first | exact rfl | (refine @id.{0} _ ?_; constructor))
  | intro _
  | exact rfl
  | (refine @id.{0} _ ?_; constructor)
  | apply Dk.any (id:=1) 7 [] [] [[],[0],[],[2,1,0],[],[4,3,2,1,0],[]] (by kernel_rfl)
  | apply Pv
  | apply yp
  | exact ()
theorem acy {x0:aL} {cH:Nat} {bK:Value} {x1:aG} {bI:Value} {bY:Value} {bC:Value} {aY:Value}:Ct Tryz.prog 102 false (nL x0 x1) [.pointer (some (⟨cH,0,none⟩)),.agg #[.int .i64 (x1.aA),bI,bY,bC,aY]] [.row cH [bK,.int .i64 (x0.At),.int .u64 (x0.au)] 81,.rd false (aE (aC .u8)) bK x0.Code,.rd false (aE (aC .i64)) bI x1.aD,.rd false (aE (aC .i64)) bY x1.To,.rd false (aE (aC .i64)) bC x1.aJ,.rd false (aE (aE (aC .i64))) aY x1.aB] (fun y (v:Value×Value×Value×Value)=>[.agg #[.int .i64 y.1.aA,v.1,v.2.1,v.2.2.1,v.2.2.2]]) (fun y v=>[.rd false (aE (aC .i64)) v.1 y.1.aD,.rd false (aE (aC .i64)) v.2.1 y.1.To,.rd false (aE (aC .i64)) v.2.2.1 y.1.aJ,.rd false (aE (aE (aC .i64))) v.2.2.2 y.1.aB,.row cH [bK,.int .i64 y.2.At,.int .u64 y.2.au] 81]):=by
 refine ct (S:=Unit) uz Tryz.func102 rfl rfl ?_
 repeat' first
  | ((first | show Dk.ER _ _ _ | show Dk.bd _ _ | show Dk.EF _ _ _ | show Dk.EO _ _ _ | show Dk.EP _ _ | show Dk.ba _ _ _ _ | show Dk.aw _ _ _ _ | show Dk.Kp _ _ _ _ | show Dk.bp _ _ | show Dk.bg _ _ _ _); repeat' first | exact rfl | (refine @id.{0} _ ?_; constructor))
  | intro _
  | exact rfl
  | (refine Dk.tu (t:=58) rfl ?_ ?_)
  | apply Dk.slT (t:=24)
  | apply Dk.stN
  | (refine @id.{0} _ ?_; constructor)
  | apply Dk.yg (id:=13) [Dk.av.row _ _ 81] 6 [] [[],[],[],[],[],[8]] [[],[0],[],[],[3],[2,4,3]] (by kernel_rfl)
  | apply Dk.yg (id:=18) [Dk.av.row _ _ 81] 13 [] [[],[],[],[],[],[],[],[15],[],[],[],[7],[]] [[],[0],[],[1,0,2],[3,1,0,2],[],[],[5,6],[],[],[9],[8,10,9,7,5,6],[11,8,10,9,5,6]] (by kernel_rfl)
  | apply Dk.yg (id:=21) [Dk.av.row _ _ 81] 8 [] [[],[],[],[],[],[],[],[10]] [[],[0],[],[],[],[4],[5,4],[3,6,5,4]] (by kernel_rfl)
  | apply Dk.Xi (id:=6) 9 (e:=24) (e2:=2) (T:=(aC .i64)) (by kernel_rfl)
  | apply Pv
  | apply Aj
  | apply ach
  | exact ()
theorem acz {x0:aG} {dE:Addr} {aU:Value} {aZ:Value} {aO:Value} {aM:Value}:Ct Tryz.prog 115 true (gA x0) [.pointer (some (dE))] [.aq dE [.int .i64 (x0.aA),aU,aZ,aO,aM],.rd false (aE (aC .i64)) aU x0.aD,.rd false (aE (aC .i64)) aZ x0.To,.rd false (aE (aC .i64)) aO x0.aJ,.rd false (aE (aE (aC .i64))) aM x0.aB] (fun y (v:Value×Value×Value×Value)=>[.agg #[.int .i64 y.aA,v.1,v.2.1,v.2.2.1,v.2.2.2]]) (fun y v=>[.own (aK 2 (aC .i64)) v.1 y.aD,.own (aK 2 (aC .i64)) v.2.1 y.To,.own (aK 2 (aC .i64)) v.2.2.1 y.aJ,.own (aK 24 (aK 2 (aC .i64))) v.2.2.2 y.aB]):=by
 refine ct (S:=Unit) (db fun _ _=>rfl) Tryz.func115 rfl rfl ?_
 repeat' first
  | ((first | show Dk.ER _ _ _ | show Dk.bd _ _ | show Dk.EF _ _ _ | show Dk.EO _ _ _ | show Dk.EP _ _ | show Dk.ba _ _ _ _ | show Dk.aw _ _ _ _ | show Dk.Kp _ _ _ _ | show Dk.bp _ _ | show Dk.bg _ _ _ _); repeat' first | exact rfl | (refine @id.{0} _ ?_; constructor))
  | intro _
  | exact rfl
  | (refine @id.{0} _ ?_; constructor)
  | apply Dk.any (id:=1) 24 [] [] [[],[0],[1,0],[2,1,0],[],[4],[5,4],[6,5,4],[7,6,5,4],[],[9],[10,9],[11,10,9],[12,11,10,9,8,7,6,5,4],[],[14],[15,14],[16,15,14],[17,16,15,14,13,12,11,10,9,8,7,6,5,4],[],[19],[20,19],[21,20,19],[22,21,20,19,18,17,16,15,14,13,12,11,10,9,8,7,6,5,4]] (by kernel_rfl)
  | apply Hr
  | apply aci
  | exact ()
theorem c74 {x0:aG} {dE:Addr} {aU:Value} {aZ:Value} {aO:Value} {aM:Value} {x1:aG} {qQ:Addr} {bI:Value} {bY:Value} {bC:Value} {aY:Value} {x2:(List Int)} {dH:Value} {x3:(List Int)} {eZ:Value}:Ct Tryz.prog 74 true (nN x0 x1 x2 x3) [.pointer (some (dE)),.pointer (some (qQ)),dH,eZ] [.aq qQ [.int .i64 (x1.aA),bI,bY,bC,aY],.aq dE [.int .i64 (x0.aA),aU,aZ,aO,aM],.rd false (aE (aC .i64)) aU x0.aD,.rd false (aE (aC .i64)) aZ x0.To,.rd false (aE (aC .i64)) aO x0.aJ,.rd false (aE (aE (aC .i64))) aM x0.aB,.rd false (aE (aC .i64)) bI x1.aD,.rd false (aE (aC .i64)) bY x1.To,.rd false (aE (aC .i64)) bC x1.aJ,.rd false (aE (aE (aC .i64))) aY x1.aB,.rd false (aE (aC .i64)) dH x2,.rd false (aE (aC .i64)) eZ x3] (fun y (v:Value×Value×Value×Value×Value×Value×Value×Value×Value×Value)=>[.agg #[.int .i64 y.aH.aA,v.1,v.2.1,v.2.2.1,v.2.2.2.1,.int .i64 y.aI.aA,v.2.2.2.2.1,v.2.2.2.2.2.1,v.2.2.2.2.2.2.1,v.2.2.2.2.2.2.2.1,v.2.2.2.2.2.2.2.2.1,v.2.2.2.2.2.2.2.2.2]]) (fun y v=>[.own (aK 2 (aC .i64)) v.1 y.aH.aD,.own (aK 2 (aC .i64)) v.2.1 y.aH.To,.own (aK 2 (aC .i64)) v.2.2.1 y.aH.aJ,.own (aK 24 (aK 2 (aC .i64))) v.2.2.2.1 y.aH.aB,.own (aK 2 (aC .i64)) v.2.2.2.2.1 y.aI.aD,.own (aK 2 (aC .i64)) v.2.2.2.2.2.1 y.aI.To,.own (aK 2 (aC .i64)) v.2.2.2.2.2.2.1 y.aI.aJ,.own (aK 24 (aK 2 (aC .i64))) v.2.2.2.2.2.2.2.1 y.aI.aB,.own (aK 2 (aC .i64)) v.2.2.2.2.2.2.2.2.1 y.aA,.own (aK 2 (aC .i64)) v.2.2.2.2.2.2.2.2.2 y.aj]):=by
 refine ct (S:=Unit) (db fun _ _=>rfl) Tryz.func74 rfl rfl ?_
 repeat' first
  | ((first | show Dk.ER _ _ _ | show Dk.bd _ _ | show Dk.EF _ _ _ | show Dk.EO _ _ _ | show Dk.EP _ _ | show Dk.ba _ _ _ _ | show Dk.aw _ _ _ _ | show Dk.Kp _ _ _ _ | show Dk.bp _ _ | show Dk.bg _ _ _ _); repeat' first | exact rfl | (refine @id.{0} _ ?_; constructor))
  | intro _
  | exact rfl
  | (refine @id.{0} _ ?_; constructor)
  | apply acz
  | apply Hr
  | exact ()
theorem YE {x0:aN} {dE:Addr} {aV:Value} {bA:Value} {aS:Value} {aP:Value} {aW:Value} {bB:Value} {aT:Value} {aQ:Value} {bE:Value} {bF:Value} {x1:(List bD)} {dI:Value} {x2:bD} {gD:Value}:Ct Tryz.prog 77 true (hJ x0 x1 x2) [.pointer (some (dE)),dI,.agg #[.int .i64 (x2.ef),gD]] [.aq dE [.int .i64 (x0.aH.aA),aV,bA,aS,aP,.int .i64 (x0.aI.aA),aW,bB,aT,aQ,bE,bF],.rd false (aE (aC .i64)) aV x0.aH.aD,.rd false (aE (aC .i64)) bA x0.aH.To,.rd false (aE (aC .i64)) aS x0.aH.aJ,.rd false (aE (aE (aC .i64))) aP x0.aH.aB,.rd false (aE (aC .i64)) aW x0.aI.aD,.rd false (aE (aC .i64)) bB x0.aI.To,.rd false (aE (aC .i64)) aT x0.aI.aJ,.rd false (aE (aE (aC .i64))) aQ x0.aI.aB,.rd false (aE (aC .i64)) bE x0.aA,.rd false (aE (aC .i64)) bF x0.aj,.rd false (aE (n7 sW)) dI x1,.rd false (aE (aC .i64)) gD x2.cf] (fun y (_:Unit)=>[.bool y]) (fun y _=>[]):=by
 refine ct (S:=Unit) (db fun _ _=>rfl) Tryz.func77 rfl rfl ?_
 repeat' first
  | ((first | show Dk.ER _ _ _ | show Dk.bd _ _ | show Dk.EF _ _ _ | show Dk.EO _ _ _ | show Dk.EP _ _ | show Dk.ba _ _ _ _ | show Dk.aw _ _ _ _ | show Dk.Kp _ _ _ _ | show Dk.bp _ _ | show Dk.bg _ _ _ _); repeat' first | exact rfl | (refine @id.{0} _ ?_; constructor))
  | intro _
  | exact rfl
  | (refine @id.{0} _ ?_; constructor)
  | apply Dk.loop 0 (V:=Unit) (fun (s:Int) v=>[]) (fun s v=>[(11,.int .i64 (s))]) () [(0,_),(5,_),(9,_),(10,_)]
  | apply YC
  | exact ()
end Go.Proofs.YtgjbmjjihmfppaaGreat
