/- Walks by the calculus D. No condition beside those that each theorem names. -/
import Derived.Test.YtkcpiblgpnjanaaGreatDi
import Derived.Test.YtkcpiblgpnjanaaGreatMo
import Derived.Test.YtkcpiblgpnjanaaGreatDp
import Derived.Test.YtkcpiblgpnjanaaGreatDs
namespace Go.Proofs.YtkcpiblgpnjanaaGreat
open Go Go.Li Go.Dk
set_option linter.unusedVariables false
set_option maxHeartbeats 16000000
set_option maxRecDepth 100000
theorem yC {x0:(List Int)} {dI:Value}:Ct Tryz.prog 113 true (dW x0) [dI] [.rd false (aD (aA .i64)) dI x0] (fun y (v:Value)=>[v]) (fun y v=>[.own (aK 2 (aA .i64)) v y]):=by
 refine ct (S:=Unit) (cf fun _ _=>rfl) Tryz.func113 rfl rfl ?_
 repeat' first
  | ((first | show Dk.ER _ _ _ | show Dk.bd _ _ | show Dk.EF _ _ _ | show Dk.EO _ _ _ | show Dk.EP _ _ | show Dk.bb _ _ _ _ | show Dk.av _ _ _ _ | show Dk.Kp _ _ _ _ | show Dk.bp _ _ | show Dk.bg _ _ _ _); repeat' first | exact rfl | (refine @id.{0} _ ?_; constructor))
  | intro _
  | exact rfl
  | (refine @id.{0} _ ?_; constructor)
  | exact ()
theorem WK {x0:aI} {aU:Value} {bC:Value} {aO:Value} {aM:Value}:Ct Tryz.prog 197 true (eW x0) [.agg #[.int .i64 (x0.aC),aU,bC,aO,aM]] [.rd false (aD (aA .i64)) aU x0.aG,.rd false (aD (aA .i64)) bC x0.To,.rd false (aD (aA .i64)) aO x0.aJ,.rd false (aD (aD (aA .i64))) aM x0.aF] (fun y (_:Unit)=>[.bool y]) (fun y _=>[]):=by
 refine ct (S:=Unit) (cf fun _ _=>rfl) Tryz.func197 rfl rfl ?_
 repeat' first
  | ((first | show Dk.ER _ _ _ | show Dk.bd _ _ | show Dk.EF _ _ _ | show Dk.EO _ _ _ | show Dk.EP _ _ | show Dk.bb _ _ _ _ | show Dk.av _ _ _ _ | show Dk.Kp _ _ _ _ | show Dk.bp _ _ | show Dk.bg _ _ _ _); repeat' first | exact rfl | (refine @id.{0} _ ?_; constructor))
  | intro _
  | exact rfl
  | (refine @id.{0} _ ?_; constructor)
  | exact ()
theorem WM {x0:(List (List Int))} {dI:Value}:Ct Tryz.prog 155 true (mG x0) [dI] [.rd false (aD (aD (aA .i64))) dI x0] (fun y (v:Value)=>[v]) (fun y v=>[.own (aK 24 (aK 2 (aA .i64))) v y]):=by
 refine ct (S:=Unit) (cf fun _ _=>rfl) Tryz.func155 rfl rfl ?_
 repeat' first
  | ((first | show Dk.ER _ _ _ | show Dk.bd _ _ | show Dk.EF _ _ _ | show Dk.EO _ _ _ | show Dk.EP _ _ | show Dk.bb _ _ _ _ | show Dk.av _ _ _ _ | show Dk.Kp _ _ _ _ | show Dk.bp _ _ | show Dk.bg _ _ _ _); repeat' first | exact rfl | (refine @id.{0} _ ?_; constructor))
  | intro _
  | exact rfl
  | (refine @id.{0} _ ?_; constructor)
  | apply Dk.loop 0 (V:=Value) (fun (s:(List (List Int))×Int) v=>[.own (aK 24 (aK 2 (aA .i64))) v s.1]) (fun s v=>[(3,v),(4,.int .i64 (s.2))]) _ [(0,_)]
  | apply yC
  | exact ()
theorem acH {x0:aI} {aU:Value} {bC:Value} {aO:Value} {aM:Value}:Ct Tryz.prog 211 true (pZ x0) [.agg #[.int .i64 (x0.aC),aU,bC,aO,aM]] [.rd false (aD (aA .i64)) aU x0.aG,.rd false (aD (aA .i64)) bC x0.To,.rd false (aD (aA .i64)) aO x0.aJ,.rd false (aD (aD (aA .i64))) aM x0.aF] (fun y (v:Value×Value×Value×Value)=>[.agg #[.int .i64 y.aC,v.1,v.2.1,v.2.2.1,v.2.2.2]]) (fun y v=>[.own (aK 2 (aA .i64)) v.1 y.aG,.own (aK 2 (aA .i64)) v.2.1 y.To,.own (aK 2 (aA .i64)) v.2.2.1 y.aJ,.own (aK 24 (aK 2 (aA .i64))) v.2.2.2 y.aF]):=by
 refine ct (S:=Unit) (cf fun _ _=>rfl) Tryz.func211 rfl rfl ?_
 repeat' first
  | ((first | show Dk.ER _ _ _ | show Dk.bd _ _ | show Dk.EF _ _ _ | show Dk.EO _ _ _ | show Dk.EP _ _ | show Dk.bb _ _ _ _ | show Dk.av _ _ _ _ | show Dk.Kp _ _ _ _ | show Dk.bp _ _ | show Dk.bg _ _ _ _); repeat' first | exact rfl | (refine @id.{0} _ ?_; constructor))
  | intro _
  | exact rfl
  | (refine Dk.tA (t:=32) rfl ?_ ?_)
  | (refine @id.{0} _ ?_; constructor)
  | apply Dk.jq 0 (V:=Value) (A:=Nat×Value×Value×Value) (_,_,_,_) (fun a (s:Int×(List (List Int))) v=>Dk.pc (fun a0=>Dk.pc (fun a1=>Dk.pc (fun a2 a3=>[.row a0 [.int .i64 (x0.aC),a1,a2,a3,v] 27,.own (aK 24 (aK 2 (aA .i64))) v s.2]))) a) (fun a s v=>Dk.pc (fun a0=>Dk.pc (fun a1=>Dk.pc (fun a2 a3=>[(3,.pointer (some ⟨a0,0,none⟩)),(4,.int .i64 (s.1))]))) a) _ [(1,_),(2,_)]
  | apply Dk.loop 2 (V:=Value) (fun (s:(List Int)×Int) v=>[.own (aK 2 (aA .i64)) v s.1]) (fun s v=>[(5,v),(6,.int .i64 (s.2))]) _ [(1,_),(2,_),(3,_),(4,_)]
  | apply Dk.Z4 (id:=1) [13,0,1,2,3,4,5,6,7,8,9,10,11,12,14] [1,2,3,4,5,6,7,8,9,10,11,12,13,0,14] [] 14 [] [] [[],[],[1],[],[3],[4,3],[],[6],[7,6,5,4,3],[],[9],[10,9,8,7,6,5,4,3],[],[2,1,5,4,3,8,7,6,5,4,3,11,10,9,8,7,6,5,4,3,12]] (by kernel_rfl)
  | apply yC
  | exact ()
theorem Qm {x0:aI} {aU:Value} {bC:Value} {aO:Value} {aM:Value} {x1:Int} {x2:Int}:Ct Tryz.prog 136 true (jN x0 x1 x2) [.agg #[.int .i64 (x0.aC),aU,bC,aO,aM],.int .i64 (x1),.int .i64 (x2)] [.rd false (aD (aA .i64)) aU x0.aG,.rd false (aD (aA .i64)) bC x0.To,.rd false (aD (aA .i64)) aO x0.aJ,.rd false (aD (aD (aA .i64))) aM x0.aF] (fun y (v:Value)=>[v]) (fun y v=>[.own (aK 2 (aA .i64)) v y]):=by
 refine ct (S:=Unit) (cf fun _ _=>rfl) Tryz.func136 rfl rfl ?_
 repeat' first
  | ((first | show Dk.ER _ _ _ | show Dk.bd _ _ | show Dk.EF _ _ _ | show Dk.EO _ _ _ | show Dk.EP _ _ | show Dk.bb _ _ _ _ | show Dk.av _ _ _ _ | show Dk.Kp _ _ _ _ | show Dk.bp _ _ | show Dk.bg _ _ _ _); repeat' first | exact rfl | (refine @id.{0} _ ?_; constructor))
  | intro _
  | exact rfl
  | (refine @id.{0} _ ?_; constructor)
  | apply Dk.loop 0 (V:=Value) (fun (s:(List Int)×Int) v=>[.own (aK 2 (aA .i64)) v s.1]) (fun s v=>[(7,v),(8,.int .i64 (s.2))]) _ [(1,_),(2,_),(3,_)]
  | exact ()
theorem acI {x0:aI} {aU:Value} {bC:Value} {aO:Value} {aM:Value} {x1:aI} {bZ:Value} {cM:Value} {bF:Value} {aW:Value} {x2:(List Int)} {eB:Value}:Ct Tryz.prog 174 true (nK x0 x1 x2) [.agg #[.int .i64 (x0.aC),aU,bC,aO,aM],.agg #[.int .i64 (x1.aC),bZ,cM,bF,aW],eB] [.rd false (aD (aA .i64)) aU x0.aG,.rd false (aD (aA .i64)) bC x0.To,.rd false (aD (aA .i64)) aO x0.aJ,.rd false (aD (aD (aA .i64))) aM x0.aF,.rd false (aD (aA .i64)) bZ x1.aG,.rd false (aD (aA .i64)) cM x1.To,.rd false (aD (aA .i64)) bF x1.aJ,.rd false (aD (aD (aA .i64))) aW x1.aF,.rd false (aD (aA .i64)) eB x2] (fun y (_:Unit)=>[.bool y]) (fun y _=>[]):=by
 refine ct (S:=Unit) (cf fun _ _=>rfl) Tryz.func174 rfl rfl ?_
 repeat' first
  | ((first | show Dk.ER _ _ _ | show Dk.bd _ _ | show Dk.EF _ _ _ | show Dk.EO _ _ _ | show Dk.EP _ _ | show Dk.bb _ _ _ _ | show Dk.av _ _ _ _ | show Dk.Kp _ _ _ _ | show Dk.bp _ _ | show Dk.bg _ _ _ _); repeat' first | exact rfl | (refine @id.{0} _ ?_; constructor))
  | intro _
  | exact rfl
  | (refine @id.{0} _ ?_; constructor)
  | apply Dk.loop 0 (V:=Unit) (fun (s:Int) v=>[]) (fun s v=>[(7,.int .i64 (s))]) () [(2,_),(3,_),(4,_)]
  | apply Dk.quiet (id:=4) (by kernel_rfl)
  | apply Dk.tail (id:=5) 20 (by kernel_rfl)
  | apply Qm
  | exact ()
theorem acJ {x0:aI} {aU:Value} {bC:Value} {aO:Value} {aM:Value} {x1:aI} {bZ:Value} {cM:Value} {bF:Value} {aW:Value} {x2:(List Int)} {eB:Value}:Ct Tryz.prog 201 true (nL x0 x1 x2) [.agg #[.int .i64 (x0.aC),aU,bC,aO,aM],.agg #[.int .i64 (x1.aC),bZ,cM,bF,aW],eB] [.rd false (aD (aA .i64)) aU x0.aG,.rd false (aD (aA .i64)) bC x0.To,.rd false (aD (aA .i64)) aO x0.aJ,.rd false (aD (aD (aA .i64))) aM x0.aF,.rd false (aD (aA .i64)) bZ x1.aG,.rd false (aD (aA .i64)) cM x1.To,.rd false (aD (aA .i64)) bF x1.aJ,.rd false (aD (aD (aA .i64))) aW x1.aF,.own (aK 2 (aA .i64)) eB x2] (fun y (_:Unit)=>[.bool y.1]) (fun y _=>[.own (aK 2 (aA .i64)) eB y.2]):=by
 refine ct (S:=Unit) (cf fun _ _=>rfl) Tryz.func201 rfl rfl ?_
 repeat' first
  | ((first | show Dk.ER _ _ _ | show Dk.bd _ _ | show Dk.EF _ _ _ | show Dk.EO _ _ _ | show Dk.EP _ _ | show Dk.bb _ _ _ _ | show Dk.av _ _ _ _ | show Dk.Kp _ _ _ _ | show Dk.bp _ _ | show Dk.bg _ _ _ _); repeat' first | exact rfl | (refine @id.{0} _ ?_; constructor))
  | intro _
  | exact rfl
  | (refine Dk.tA (t:=22) rfl ?_ ?_)
  | (refine @id.{0} _ ?_; constructor)
  | apply Dk.loop 0 (V:=Unit) (fun (s:Bool×(List Int)) v=>[.own (aK 2 (aA .i64)) eB s.2]) (fun s v=>[(7,.bool (s.1))]) () [(2,_),(3,_),(4,_)]
  | apply Dk.loop 2 (V:=Unit) (fun (s:Bool×Int×(List Int)) v=>[.own (aK 2 (aA .i64)) eB s.2.2]) (fun s v=>[(7,.bool (s.1)),(8,.int .i64 (s.2.1))]) () [(2,_),(3,_),(4,_)]
  | apply Dk.loop 4 (V:=Unit) (fun (s:Bool×Int×(List Int)) v=>[.own (aK 2 (aA .i64)) eB s.2.2]) (fun s v=>[(7,.bool (s.1)),(9,.int .i64 (s.2.1))]) () [(2,_),(3,_),(4,_),(8,_)]
  | apply Dk.quiet (id:=12) (by kernel_rfl)
  | exact ()
theorem WN {rc:aI→aI→(List Int)→(List Int)→Int→(List (List Int))→Option ((List (List Int)))} (ih:∀ {x0:aI} {aU:Value} {bC:Value} {aO:Value} {aM:Value} {x1:aI} {bZ:Value} {cM:Value} {bF:Value} {aW:Value} {x2:(List Int)} {eB:Value} {x3:(List Int)} {hY:Value} {x4:Int} {x5:(List (List Int))} {qF:Value},Ct Tryz.prog 175 true (rc x0 x1 x2 x3 x4 x5) [.agg #[.int .i64 (x0.aC),aU,bC,aO,aM],.agg #[.int .i64 (x1.aC),bZ,cM,bF,aW],eB,hY,.int .i64 (x4),qF] [.rd false (aD (aA .i64)) aU x0.aG,.rd false (aD (aA .i64)) bC x0.To,.rd false (aD (aA .i64)) aO x0.aJ,.rd false (aD (aD (aA .i64))) aM x0.aF,.rd false (aD (aA .i64)) bZ x1.aG,.rd false (aD (aA .i64)) cM x1.To,.rd false (aD (aA .i64)) bF x1.aJ,.rd false (aD (aD (aA .i64))) aW x1.aF,.rd false (aD (aA .i64)) eB x2,.rd false (aD (aA .i64)) hY x3,.own (aK 24 (aK 2 (aA .i64))) qF x5] (fun y (v:Value)=>[v]) (fun y v=>[.own (aK 24 (aK 2 (aA .i64))) v y])) {x0:aI} {aU:Value} {bC:Value} {aO:Value} {aM:Value} {x1:aI} {bZ:Value} {cM:Value} {bF:Value} {aW:Value} {x2:(List Int)} {eB:Value} {x3:(List Int)} {hY:Value} {x4:Int} {x5:(List (List Int))} {qF:Value}:Ct Tryz.prog 175 true (lA rc x0 x1 x2 x3 x4 x5) [.agg #[.int .i64 (x0.aC),aU,bC,aO,aM],.agg #[.int .i64 (x1.aC),bZ,cM,bF,aW],eB,hY,.int .i64 (x4),qF] [.rd false (aD (aA .i64)) aU x0.aG,.rd false (aD (aA .i64)) bC x0.To,.rd false (aD (aA .i64)) aO x0.aJ,.rd false (aD (aD (aA .i64))) aM x0.aF,.rd false (aD (aA .i64)) bZ x1.aG,.rd false (aD (aA .i64)) cM x1.To,.rd false (aD (aA .i64)) bF x1.aJ,.rd false (aD (aD (aA .i64))) aW x1.aF,.rd false (aD (aA .i64)) eB x2,.rd false (aD (aA .i64)) hY x3,.own (aK 24 (aK 2 (aA .i64))) qF x5] (fun y (v:Value)=>[v]) (fun y v=>[.own (aK 24 (aK 2 (aA .i64))) v y]):=by
 refine ct (S:=Unit) (cf fun _ _=>rfl) Tryz.func175 rfl rfl ?_
 repeat' first
  | ((first | show Dk.ER _ _ _ | show Dk.bd _ _ | show Dk.EF _ _ _ | show Dk.EO _ _ _ | show Dk.EP _ _ | show Dk.bb _ _ _ _ | show Dk.av _ _ _ _ | show Dk.Kp _ _ _ _ | show Dk.bp _ _ | show Dk.bg _ _ _ _); repeat' first | exact rfl | (refine @id.{0} _ ?_; constructor))
  | intro _
  | exact rfl
  | (refine @id.{0} _ ?_; constructor)
  | apply ih
  | apply Dk.loop 0 (V:=Unit) (fun (s:Int) v=>[]) (fun s v=>[(4,.int .i64 (s))]) () [(2,_),(3,_),(5,_),(6,_),(7,_)]
  | apply Dk.loop 2 (V:=Value) (fun (s:(List (List Int))×Int) v=>[.own (aK 24 (aK 2 (aA .i64))) v s.1]) (fun s v=>[(5,v),(14,.int .i64 (s.2))]) _ [(2,_),(3,_),(4,_),(6,_),(7,_),(13,_)]
  | apply Dk.any (id:=5) 17 [] [] [[],[],[],[2],[],[3,2,4],[5,3,2,4],[1,6,5,3,2,4],[7,1,6,5,3,2,4],[],[],[10],[],[11,10,12],[13,11,10,12],[9,14,13,11,10,12],[15,9,14,13,11,10,12]] (by kernel_rfl)
  | apply yC
  | apply Qm
  | apply acJ
  | exact ()
theorem WO (n:Nat):∀ {x0:aI} {aU:Value} {bC:Value} {aO:Value} {aM:Value} {x1:aI} {bZ:Value} {cM:Value} {bF:Value} {aW:Value} {x2:(List Int)} {eB:Value} {x3:(List Int)} {hY:Value} {x4:Int} {x5:(List (List Int))} {qF:Value},Ct Tryz.prog 175 true (iQ n x0 x1 x2 x3 x4 x5) [.agg #[.int .i64 (x0.aC),aU,bC,aO,aM],.agg #[.int .i64 (x1.aC),bZ,cM,bF,aW],eB,hY,.int .i64 (x4),qF] [.rd false (aD (aA .i64)) aU x0.aG,.rd false (aD (aA .i64)) bC x0.To,.rd false (aD (aA .i64)) aO x0.aJ,.rd false (aD (aD (aA .i64))) aM x0.aF,.rd false (aD (aA .i64)) bZ x1.aG,.rd false (aD (aA .i64)) cM x1.To,.rd false (aD (aA .i64)) bF x1.aJ,.rd false (aD (aD (aA .i64))) aW x1.aF,.rd false (aD (aA .i64)) eB x2,.rd false (aD (aA .i64)) hY x3,.own (aK 24 (aK 2 (aA .i64))) qF x5] (fun y (v:Value)=>[v]) (fun y v=>[.own (aK 24 (aK 2 (aA .i64))) v y]):=by
 induction n with
 | zero=>intros; rw [qb]; exact ⟨(cf fun _ _=>rfl),fun _ _ _ _ _ _ _ y hy=>nomatch (show none=some y from hy)⟩
 | succ n ih=>exact WN ih
theorem acK {x0:aI} {aU:Value} {bC:Value} {aO:Value} {aM:Value} {x1:aI} {bZ:Value} {cM:Value} {bF:Value} {aW:Value} {x2:(List Int)} {eB:Value} {x3:(List Int)} {hY:Value} {x4:Int} {x5:(List (List Int))} {qF:Value}:Ct Tryz.prog 175 true (iQ 64 x0 x1 x2 x3 x4 x5) [.agg #[.int .i64 (x0.aC),aU,bC,aO,aM],.agg #[.int .i64 (x1.aC),bZ,cM,bF,aW],eB,hY,.int .i64 (x4),qF] [.rd false (aD (aA .i64)) aU x0.aG,.rd false (aD (aA .i64)) bC x0.To,.rd false (aD (aA .i64)) aO x0.aJ,.rd false (aD (aD (aA .i64))) aM x0.aF,.rd false (aD (aA .i64)) bZ x1.aG,.rd false (aD (aA .i64)) cM x1.To,.rd false (aD (aA .i64)) bF x1.aJ,.rd false (aD (aD (aA .i64))) aW x1.aF,.rd false (aD (aA .i64)) eB x2,.rd false (aD (aA .i64)) hY x3,.own (aK 24 (aK 2 (aA .i64))) qF x5] (fun y (v:Value)=>[v]) (fun y v=>[.own (aK 24 (aK 2 (aA .i64))) v y]):=by
 exact WO 64
theorem WQ {x0:Int} {x1:Int} {x2:Int}:Ct Tryz.prog 142 true (kY x0 x1 x2) [.int .i64 (x0),.int .i64 (x1),.int .i64 (x2)] [] (fun y (_:Unit)=>[.bool y]) (fun y _=>[]):=by
 refine ct (S:=Unit) (cf fun _ _=>rfl) Tryz.func142 rfl rfl ?_
 repeat' first
  | ((first | show Dk.ER _ _ _ | show Dk.bd _ _ | show Dk.EF _ _ _ | show Dk.EO _ _ _ | show Dk.EP _ _ | show Dk.bb _ _ _ _ | show Dk.av _ _ _ _ | show Dk.Kp _ _ _ _ | show Dk.bp _ _ | show Dk.bg _ _ _ _); repeat' first | exact rfl | (refine @id.{0} _ ?_; constructor))
  | intro _
  | exact rfl
  | (refine @id.{0} _ ?_; constructor)
  | exact ()
theorem WR {x0:(List Int)} {dI:Value} {x1:Int}:Ct Tryz.prog 79 true (iS x0 x1) [dI,.int .i64 (x1)] [.rd false (aD (aA .i64)) dI x0] (fun y (_:Unit)=>[.bool y]) (fun y _=>[]):=by
 refine ct (S:=Unit) (cf fun _ _=>rfl) Tryz.func79 rfl rfl ?_
 repeat' first
  | ((first | show Dk.ER _ _ _ | show Dk.bd _ _ | show Dk.EF _ _ _ | show Dk.EO _ _ _ | show Dk.EP _ _ | show Dk.bb _ _ _ _ | show Dk.av _ _ _ _ | show Dk.Kp _ _ _ _ | show Dk.bp _ _ | show Dk.bg _ _ _ _); repeat' first | exact rfl | (refine @id.{0} _ ?_; constructor))
  | intro _
  | exact rfl
  | (refine @id.{0} _ ?_; constructor)
  | apply Dk.loop 0 (V:=Unit) (fun (s:Int) v=>[]) (fun s v=>[(9,.int .i64 (s))]) () [(1,_),(7,_),(8,_)]
  | apply WQ
  | exact ()
theorem acL {x0:Int}:Ct Tryz.prog 102 true (jH x0) [.int .i64 (x0)] [] (fun y (_:Unit)=>[.bool y]) (fun y _=>[]):=by
 refine ct (S:=Unit) (cf fun _ _=>rfl) Tryz.func102 rfl rfl ?_
 repeat' first
  | ((first | show Dk.ER _ _ _ | show Dk.bd _ _ | show Dk.EF _ _ _ | show Dk.EO _ _ _ | show Dk.EP _ _ | show Dk.bb _ _ _ _ | show Dk.av _ _ _ _ | show Dk.Kp _ _ _ _ | show Dk.bp _ _ | show Dk.bg _ _ _ _); repeat' first | exact rfl | (refine @id.{0} _ ?_; constructor))
  | intro _
  | exact rfl
  | (refine @id.{0} _ ?_; constructor)
  | exact ()
theorem acM {x0:aL} {bA:Value} {bG:Value} {aS:Value} {aP:Value} {bB:Value} {bH:Value} {aT:Value} {aQ:Value} {bI:Value} {bR:Value} {x1:aL} {bJ:Value} {bX:Value} {bD:Value} {aY:Value} {bK:Value} {bY:Value} {bE:Value} {aZ:Value} {cF:Value} {cL:Value} {x2:(List Int)} {eB:Value} {x3:Int}:Ct Tryz.prog 172 true (jS x0 x1 x2 x3) [.agg #[.int .i64 (x0.aB.aC),bA,bG,aS,aP,.int .i64 (x0.aE.aC),bB,bH,aT,aQ,bI,bR],.agg #[.int .i64 (x1.aB.aC),bJ,bX,bD,aY,.int .i64 (x1.aE.aC),bK,bY,bE,aZ,cF,cL],eB,.int .i64 (x3)] [.rd false (aD (aA .i64)) bA x0.aB.aG,.rd false (aD (aA .i64)) bG x0.aB.To,.rd false (aD (aA .i64)) aS x0.aB.aJ,.rd false (aD (aD (aA .i64))) aP x0.aB.aF,.rd false (aD (aA .i64)) bB x0.aE.aG,.rd false (aD (aA .i64)) bH x0.aE.To,.rd false (aD (aA .i64)) aT x0.aE.aJ,.rd false (aD (aD (aA .i64))) aQ x0.aE.aF,.rd false (aD (aA .i64)) bI x0.aC,.rd false (aD (aA .i64)) bR x0.af,.rd false (aD (aA .i64)) bJ x1.aB.aG,.rd false (aD (aA .i64)) bX x1.aB.To,.rd false (aD (aA .i64)) bD x1.aB.aJ,.rd false (aD (aD (aA .i64))) aY x1.aB.aF,.rd false (aD (aA .i64)) bK x1.aE.aG,.rd false (aD (aA .i64)) bY x1.aE.To,.rd false (aD (aA .i64)) bE x1.aE.aJ,.rd false (aD (aD (aA .i64))) aZ x1.aE.aF,.rd false (aD (aA .i64)) cF x1.aC,.rd false (aD (aA .i64)) cL x1.af,.rd false (aD (aA .i64)) eB x2] (fun y (_:Unit)=>[.bool y]) (fun y _=>[]):=by
 refine ct (S:=Unit) (cf fun _ _=>rfl) Tryz.func172 rfl rfl ?_
 repeat' first
  | ((first | show Dk.ER _ _ _ | show Dk.bd _ _ | show Dk.EF _ _ _ | show Dk.EO _ _ _ | show Dk.EP _ _ | show Dk.bb _ _ _ _ | show Dk.av _ _ _ _ | show Dk.Kp _ _ _ _ | show Dk.bp _ _ | show Dk.bg _ _ _ _); repeat' first | exact rfl | (refine @id.{0} _ ?_; constructor))
  | intro _
  | exact rfl
  | (refine @id.{0} _ ?_; constructor)
  | apply Dk.quiet (id:=2) (by kernel_rfl)
  | apply Dk.any (id:=1) 7 [] [[],[],[],[],[],[],[4]] [[],[0],[],[2],[],[],[4,1,0,0,1,0,4,5]] (by kernel_rfl)
  | exact ()
end Go.Proofs.YtkcpiblgpnjanaaGreat
