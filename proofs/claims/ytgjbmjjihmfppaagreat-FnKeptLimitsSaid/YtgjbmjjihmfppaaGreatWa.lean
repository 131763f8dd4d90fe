/- Walks by the calculus D. No condition beside those that each theorem names. -/
import Derived.Test.YtgjbmjjihmfppaaGreatDi
import Derived.Test.YtgjbmjjihmfppaaGreatMo
import Derived.Test.YtgjbmjjihmfppaaGreatDp
import Derived.Test.YtgjbmjjihmfppaaGreatDs
namespace Go.Proofs.YtgjbmjjihmfppaaGreat
open Go Go.Li Go.Dk
set_option linter.unusedVariables false
set_option maxHeartbeats 16000000
set_option maxRecDepth 100000
theorem c7 {x0:(List Int)} {cY:Value}:Ct Tryz.prog 7 true (rX x0) [cY] [.rd false (aB (aC .u8)) cY x0] (fun y (_:Unit)=>[.bool y]) (fun y _=>[]):=by
 refine ct (S:=Unit) (ca fun _ _=>rfl) Tryz.func7 rfl rfl ?_
 repeat' first
  | ((first | show Dk.ER _ _ _ | show Dk.ba _ _ | show Dk.EF _ _ _ | show Dk.EO _ _ _ | show Dk.EP _ _ | show Dk.aX _ _ _ _ | show Dk.aq _ _ _ _ | show Dk.Kp _ _ _ _ | show Dk.bn _ _ | show Dk.bb _ _ _ _); repeat' first | exact rfl | (refine @id.{0} _ ?_; constructor))
  | intro _
  | exact rfl
  | (refine @id.{0} _ ?_; constructor)
  | exact ()
theorem yU {x0:(List Int)} {cY:Value}:Ct Tryz.prog 111 true (dL x0) [cY] [.rd false (aB (aC .i64)) cY x0] (fun y (v:Value)=>[v]) (fun y v=>[.own (aL 2 (aC .i64)) v y]):=by
 refine ct (S:=Unit) (ca fun _ _=>rfl) Tryz.func111 rfl rfl ?_
 repeat' first
  | ((first | show Dk.ER _ _ _ | show Dk.ba _ _ | show Dk.EF _ _ _ | show Dk.EO _ _ _ | show Dk.EP _ _ | show Dk.aX _ _ _ _ | show Dk.aq _ _ _ _ | show Dk.Kp _ _ _ _ | show Dk.bn _ _ | show Dk.bb _ _ _ _); repeat' first | exact rfl | (refine @id.{0} _ ?_; constructor))
  | intro _
  | exact rfl
  | (refine @id.{0} _ ?_; constructor)
  | exact ()
theorem WM {x0:(List (List Int))} {cY:Value}:Ct Tryz.prog 146 true (lP x0) [cY] [.rd false (aB (aB (aC .i64))) cY x0] (fun y (v:Value)=>[v]) (fun y v=>[.own (aL 24 (aL 2 (aC .i64))) v y]):=by
 refine ct (S:=Unit) (ca fun _ _=>rfl) Tryz.func146 rfl rfl ?_
 repeat' first
  | ((first | show Dk.ER _ _ _ | show Dk.ba _ _ | show Dk.EF _ _ _ | show Dk.EO _ _ _ | show Dk.EP _ _ | show Dk.aX _ _ _ _ | show Dk.aq _ _ _ _ | show Dk.Kp _ _ _ _ | show Dk.bn _ _ | show Dk.bb _ _ _ _); repeat' first | exact rfl | (refine @id.{0} _ ?_; constructor))
  | intro _
  | exact rfl
  | (refine @id.{0} _ ?_; constructor)
  | apply Dk.loop 0 (V:=Value) (fun (s:(List (List Int))×Int) v=>[.own (aL 24 (aL 2 (aC .i64))) v s.1]) (fun s v=>[(3,v),(4,.int .i64 (s.2))]) _ [(0,_)]
  | apply yU
  | exact ()
theorem Zw {x0:aI} {aT:Value} {bB:Value} {aO:Value} {aN:Value}:Ct Tryz.prog 72 true (oO x0) [.agg #[.int .i64 (x0.aA),aT,bB,aO,aN]] [.rd false (aB (aC .i64)) aT x0.aF,.rd false (aB (aC .i64)) bB x0.To,.rd false (aB (aC .i64)) aO x0.aJ,.rd false (aB (aB (aC .i64))) aN x0.aD] (fun y (v:Value×Value×Value×Value)=>[.agg #[.int .i64 y.aA,v.1,v.2.1,v.2.2.1,v.2.2.2]]) (fun y v=>[.own (aL 2 (aC .i64)) v.1 y.aF,.own (aL 2 (aC .i64)) v.2.1 y.To,.own (aL 2 (aC .i64)) v.2.2.1 y.aJ,.own (aL 24 (aL 2 (aC .i64))) v.2.2.2 y.aD]):=by
 refine ct (S:=Unit) (ca fun _ _=>rfl) Tryz.func72 rfl rfl ?_
 repeat' first
  | ((first | show Dk.ER _ _ _ | show Dk.ba _ _ | show Dk.EF _ _ _ | show Dk.EO _ _ _ | show Dk.EP _ _ | show Dk.aX _ _ _ _ | show Dk.aq _ _ _ _ | show Dk.Kp _ _ _ _ | show Dk.bn _ _ | show Dk.bb _ _ _ _); repeat' first | exact rfl | (refine @id.{0} _ ?_; constructor))
  | intro _
  | exact rfl
  | (refine Dk.ue (t:=32) rfl ?_ ?_)
  | (refine @id.{0} _ ?_; constructor)
  | apply Dk.jr 0 (V:=Value) (A:=Nat×Value×Value×Value) (_,_,_,_) (fun a (s:Int×(List (List Int))) v=>Dk.pc (fun a0=>Dk.pc (fun a1=>Dk.pc (fun a2 a3=>[.row a0 [.int .i64 (x0.aA),a1,a2,a3,v] 27,.own (aL 24 (aL 2 (aC .i64))) v s.2]))) a) (fun a s v=>Dk.pc (fun a0=>Dk.pc (fun a1=>Dk.pc (fun a2 a3=>[(3,.pointer (some ⟨a0,0,none⟩)),(4,.int .i64 (s.1))]))) a) _ [(1,_),(2,_)]
  | apply Dk.loop 2 (V:=Value) (fun (s:(List Int)×Int) v=>[.own (aL 2 (aC .i64)) v s.1]) (fun s v=>[(5,v),(6,.int .i64 (s.2))]) _ [(1,_),(2,_),(3,_),(4,_)]
  | apply Dk.Uj (id:=1) [13,0,1,2,3,4,5,6,7,8,9,10,11,12,14] [1,2,3,4,5,6,7,8,9,10,11,12,13,0,14] [] 14 [] [] [[],[],[1],[],[3],[4,3],[],[6],[7,6,5,4,3],[],[9],[10,9,8,7,6,5,4,3],[],[2,1,5,4,3,8,7,6,5,4,3,11,10,9,8,7,6,5,4,3,12]] (by kernel_rfl)
  | apply yU
  | exact ()
theorem LF {x0:aI} {aT:Value} {bB:Value} {aO:Value} {aN:Value} {x1:Int} {x2:Int}:Ct Tryz.prog 144 true (gR x0 x1 x2) [.agg #[.int .i64 (x0.aA),aT,bB,aO,aN],.int .i64 (x1),.int .i64 (x2)] [.rd false (aB (aC .i64)) aT x0.aF,.rd false (aB (aC .i64)) bB x0.To,.rd false (aB (aC .i64)) aO x0.aJ,.rd false (aB (aB (aC .i64))) aN x0.aD] (fun y (v:Value)=>[v]) (fun y v=>[.own (aL 2 (aC .i64)) v y]):=by
 refine ct (S:=Unit) (ca fun _ _=>rfl) Tryz.func144 rfl rfl ?_
 repeat' first
  | ((first | show Dk.ER _ _ _ | show Dk.ba _ _ | show Dk.EF _ _ _ | show Dk.EO _ _ _ | show Dk.EP _ _ | show Dk.aX _ _ _ _ | show Dk.aq _ _ _ _ | show Dk.Kp _ _ _ _ | show Dk.bn _ _ | show Dk.bb _ _ _ _); repeat' first | exact rfl | (refine @id.{0} _ ?_; constructor))
  | intro _
  | exact rfl
  | (refine @id.{0} _ ?_; constructor)
  | apply Dk.loop 0 (V:=Value) (fun (s:(List Int)×Int) v=>[.own (aL 2 (aC .i64)) v s.1]) (fun s v=>[(7,v),(8,.int .i64 (s.2))]) _ [(1,_),(2,_),(3,_)]
  | exact ()
theorem acZ {x0:aI} {aT:Value} {bB:Value} {aO:Value} {aN:Value} {x1:aI} {bS:Value} {cG:Value} {bD:Value} {aZ:Value} {x2:(List Int)} {dX:Value}:Ct Tryz.prog 150 true (nE x0 x1 x2) [.agg #[.int .i64 (x0.aA),aT,bB,aO,aN],.agg #[.int .i64 (x1.aA),bS,cG,bD,aZ],dX] [.rd false (aB (aC .i64)) aT x0.aF,.rd false (aB (aC .i64)) bB x0.To,.rd false (aB (aC .i64)) aO x0.aJ,.rd false (aB (aB (aC .i64))) aN x0.aD,.rd false (aB (aC .i64)) bS x1.aF,.rd false (aB (aC .i64)) cG x1.To,.rd false (aB (aC .i64)) bD x1.aJ,.rd false (aB (aB (aC .i64))) aZ x1.aD,.rd false (aB (aC .i64)) dX x2] (fun y (_:Unit)=>[.bool y]) (fun y _=>[]):=by
 refine ct (S:=Unit) (ca fun _ _=>rfl) Tryz.func150 rfl rfl ?_
 repeat' first
  | ((first | show Dk.ER _ _ _ | show Dk.ba _ _ | show Dk.EF _ _ _ | show Dk.EO _ _ _ | show Dk.EP _ _ | show Dk.aX _ _ _ _ | show Dk.aq _ _ _ _ | show Dk.Kp _ _ _ _ | show Dk.bn _ _ | show Dk.bb _ _ _ _); repeat' first | exact rfl | (refine @id.{0} _ ?_; constructor))
  | intro _
  | exact rfl
  | (refine @id.{0} _ ?_; constructor)
  | apply Dk.loop 0 (V:=Unit) (fun (s:Int) v=>[]) (fun s v=>[(7,.int .i64 (s))]) () [(2,_),(3,_),(4,_)]
  | apply Dk.quiet (id:=4) (by kernel_rfl)
  | apply Dk.tail (id:=5) 20 (by kernel_rfl)
  | apply LF
  | exact ()
theorem ac0 {x0:aI} {aT:Value} {bB:Value} {aO:Value} {aN:Value} {x1:aI} {bS:Value} {cG:Value} {bD:Value} {aZ:Value} {x2:(List Int)} {dX:Value}:Ct Tryz.prog 158 true (nF x0 x1 x2) [.agg #[.int .i64 (x0.aA),aT,bB,aO,aN],.agg #[.int .i64 (x1.aA),bS,cG,bD,aZ],dX] [.rd false (aB (aC .i64)) aT x0.aF,.rd false (aB (aC .i64)) bB x0.To,.rd false (aB (aC .i64)) aO x0.aJ,.rd false (aB (aB (aC .i64))) aN x0.aD,.rd false (aB (aC .i64)) bS x1.aF,.rd false (aB (aC .i64)) cG x1.To,.rd false (aB (aC .i64)) bD x1.aJ,.rd false (aB (aB (aC .i64))) aZ x1.aD,.own (aL 2 (aC .i64)) dX x2] (fun y (_:Unit)=>[.bool y.1]) (fun y _=>[.own (aL 2 (aC .i64)) dX y.2]):=by
 refine ct (S:=Unit) (ca fun _ _=>rfl) Tryz.func158 rfl rfl ?_
 repeat' first
  | ((first | show Dk.ER _ _ _ | show Dk.ba _ _ | show Dk.EF _ _ _ | show Dk.EO _ _ _ | show Dk.EP _ _ | show Dk.aX _ _ _ _ | show Dk.aq _ _ _ _ | show Dk.Kp _ _ _ _ | show Dk.bn _ _ | show Dk.bb _ _ _ _); repeat' first | exact rfl | (refine @id.{0} _ ?_; constructor))
  | intro _
  | exact rfl
  | (refine Dk.ue (t:=22) rfl ?_ ?_)
  | (refine @id.{0} _ ?_; constructor)
  | apply Dk.loop 0 (V:=Unit) (fun (s:Bool×(List Int)) v=>[.own (aL 2 (aC .i64)) dX s.2]) (fun s v=>[(7,.bool (s.1))]) () [(2,_),(3,_),(4,_)]
  | apply Dk.loop 2 (V:=Unit) (fun (s:Bool×Int×(List Int)) v=>[.own (aL 2 (aC .i64)) dX s.2.2]) (fun s v=>[(7,.bool (s.1)),(8,.int .i64 (s.2.1))]) () [(2,_),(3,_),(4,_)]
  | apply Dk.loop 4 (V:=Unit) (fun (s:Bool×Int×(List Int)) v=>[.own (aL 2 (aC .i64)) dX s.2.2]) (fun s v=>[(7,.bool (s.1)),(9,.int .i64 (s.2.1))]) () [(2,_),(3,_),(4,_),(8,_)]
  | apply Dk.quiet (id:=12) (by kernel_rfl)
  | exact ()
theorem WN {rc:aI→aI→(List Int)→(List Int)→Int→(List (List Int))→Option ((List (List Int)))} (ih:∀ {x0:aI} {aT:Value} {bB:Value} {aO:Value} {aN:Value} {x1:aI} {bS:Value} {cG:Value} {bD:Value} {aZ:Value} {x2:(List Int)} {dX:Value} {x3:(List Int)} {fX:Value} {x4:Int} {x5:(List (List Int))} {qZ:Value},Ct Tryz.prog 151 true (rc x0 x1 x2 x3 x4 x5) [.agg #[.int .i64 (x0.aA),aT,bB,aO,aN],.agg #[.int .i64 (x1.aA),bS,cG,bD,aZ],dX,fX,.int .i64 (x4),qZ] [.rd false (aB (aC .i64)) aT x0.aF,.rd false (aB (aC .i64)) bB x0.To,.rd false (aB (aC .i64)) aO x0.aJ,.rd false (aB (aB (aC .i64))) aN x0.aD,.rd false (aB (aC .i64)) bS x1.aF,.rd false (aB (aC .i64)) cG x1.To,.rd false (aB (aC .i64)) bD x1.aJ,.rd false (aB (aB (aC .i64))) aZ x1.aD,.rd false (aB (aC .i64)) dX x2,.rd false (aB (aC .i64)) fX x3,.own (aL 24 (aL 2 (aC .i64))) qZ x5] (fun y (v:Value)=>[v]) (fun y v=>[.own (aL 24 (aL 2 (aC .i64))) v y])) {x0:aI} {aT:Value} {bB:Value} {aO:Value} {aN:Value} {x1:aI} {bS:Value} {cG:Value} {bD:Value} {aZ:Value} {x2:(List Int)} {dX:Value} {x3:(List Int)} {fX:Value} {x4:Int} {x5:(List (List Int))} {qZ:Value}:Ct Tryz.prog 151 true (kP rc x0 x1 x2 x3 x4 x5) [.agg #[.int .i64 (x0.aA),aT,bB,aO,aN],.agg #[.int .i64 (x1.aA),bS,cG,bD,aZ],dX,fX,.int .i64 (x4),qZ] [.rd false (aB (aC .i64)) aT x0.aF,.rd false (aB (aC .i64)) bB x0.To,.rd false (aB (aC .i64)) aO x0.aJ,.rd false (aB (aB (aC .i64))) aN x0.aD,.rd false (aB (aC .i64)) bS x1.aF,.rd false (aB (aC .i64)) cG x1.To,.rd false (aB (aC .i64)) bD x1.aJ,.rd false (aB (aB (aC .i64))) aZ x1.aD,.rd false (aB (aC .i64)) dX x2,.rd false (aB (aC .i64)) fX x3,.own (aL 24 (aL 2 (aC .i64))) qZ x5] (fun y (v:Value)=>[v]) (fun y v=>[.own (aL 24 (aL 2 (aC .i64))) v y]):=by
 refine ct (S:=Unit) (ca fun _ _=>rfl) Tryz.func151 rfl rfl ?_
 repeat' first
  | ((first | show Dk.ER _ _ _ | show Dk.ba _ _ | show Dk.EF _ _ _ | show Dk.EO _ _ _ | show Dk.EP _ _ | show Dk.aX _ _ _ _ | show Dk.aq _ _ _ _ | show Dk.Kp _ _ _ _ | show Dk.bn _ _ | show Dk.bb _ _ _ _); repeat' first | exact rfl | (refine @id.{0} _ ?_; constructor))
  | intro _
  | exact rfl
  | (refine @id.{0} _ ?_; constructor)
  | apply ih
  | apply Dk.loop 0 (V:=Unit) (fun (s:Int) v=>[]) (fun s v=>[(4,.int .i64 (s))]) () [(2,_),(3,_),(5,_),(6,_),(7,_)]
  | apply Dk.loop 2 (V:=Value) (fun (s:(List (List Int))×Int) v=>[.own (aL 24 (aL 2 (aC .i64))) v s.1]) (fun s v=>[(5,v),(14,.int .i64 (s.2))]) _ [(2,_),(3,_),(4,_),(6,_),(7,_),(13,_)]
  | apply Dk.any (id:=5) 17 [] [] [[],[],[],[2],[],[3,2,4],[5,3,2,4],[1,6,5,3,2,4],[7,1,6,5,3,2,4],[],[],[10],[],[11,10,12],[13,11,10,12],[9,14,13,11,10,12],[15,9,14,13,11,10,12]] (by kernel_rfl)
  | apply yU
  | apply LF
  | apply ac0
  | exact ()
theorem WO (n:Nat):∀ {x0:aI} {aT:Value} {bB:Value} {aO:Value} {aN:Value} {x1:aI} {bS:Value} {cG:Value} {bD:Value} {aZ:Value} {x2:(List Int)} {dX:Value} {x3:(List Int)} {fX:Value} {x4:Int} {x5:(List (List Int))} {qZ:Value},Ct Tryz.prog 151 true (gP n x0 x1 x2 x3 x4 x5) [.agg #[.int .i64 (x0.aA),aT,bB,aO,aN],.agg #[.int .i64 (x1.aA),bS,cG,bD,aZ],dX,fX,.int .i64 (x4),qZ] [.rd false (aB (aC .i64)) aT x0.aF,.rd false (aB (aC .i64)) bB x0.To,.rd false (aB (aC .i64)) aO x0.aJ,.rd false (aB (aB (aC .i64))) aN x0.aD,.rd false (aB (aC .i64)) bS x1.aF,.rd false (aB (aC .i64)) cG x1.To,.rd false (aB (aC .i64)) bD x1.aJ,.rd false (aB (aB (aC .i64))) aZ x1.aD,.rd false (aB (aC .i64)) dX x2,.rd false (aB (aC .i64)) fX x3,.own (aL 24 (aL 2 (aC .i64))) qZ x5] (fun y (v:Value)=>[v]) (fun y v=>[.own (aL 24 (aL 2 (aC .i64))) v y]):=by
 induction n with
 | zero=>intros; rw [ra]; exact ⟨(ca fun _ _=>rfl),fun _ _ _ _ _ _ _ y hy=>nomatch (show none=some y from hy)⟩
 | succ n ih=>exact WN ih
theorem ac1 {x0:aI} {aT:Value} {bB:Value} {aO:Value} {aN:Value} {x1:aI} {bS:Value} {cG:Value} {bD:Value} {aZ:Value} {x2:(List Int)} {dX:Value} {x3:(List Int)} {fX:Value} {x4:Int} {x5:(List (List Int))} {qZ:Value}:Ct Tryz.prog 151 true (gP 64 x0 x1 x2 x3 x4 x5) [.agg #[.int .i64 (x0.aA),aT,bB,aO,aN],.agg #[.int .i64 (x1.aA),bS,cG,bD,aZ],dX,fX,.int .i64 (x4),qZ] [.rd false (aB (aC .i64)) aT x0.aF,.rd false (aB (aC .i64)) bB x0.To,.rd false (aB (aC .i64)) aO x0.aJ,.rd false (aB (aB (aC .i64))) aN x0.aD,.rd false (aB (aC .i64)) bS x1.aF,.rd false (aB (aC .i64)) cG x1.To,.rd false (aB (aC .i64)) bD x1.aJ,.rd false (aB (aB (aC .i64))) aZ x1.aD,.rd false (aB (aC .i64)) dX x2,.rd false (aB (aC .i64)) fX x3,.own (aL 24 (aL 2 (aC .i64))) qZ x5] (fun y (v:Value)=>[v]) (fun y v=>[.own (aL 24 (aL 2 (aC .i64))) v y]):=by
 exact WO 64
theorem WQ {x0:Int} {x1:(List Int)} {dP:Value}:Ct Tryz.prog 68 true (jQ x0 x1) [.int .i64 (x0),dP] [.rd false (aB (aC .i64)) dP x1] (fun y (_:Unit)=>[.bool y]) (fun y _=>[]):=by
 refine ct (S:=Unit) (ca fun _ _=>rfl) Tryz.func68 rfl rfl ?_
 repeat' first
  | ((first | show Dk.ER _ _ _ | show Dk.ba _ _ | show Dk.EF _ _ _ | show Dk.EO _ _ _ | show Dk.EP _ _ | show Dk.aX _ _ _ _ | show Dk.aq _ _ _ _ | show Dk.Kp _ _ _ _ | show Dk.bn _ _ | show Dk.bb _ _ _ _); repeat' first | exact rfl | (refine @id.{0} _ ?_; constructor))
  | intro _
  | exact rfl
  | (refine @id.{0} _ ?_; constructor)
  | apply Dk.loop 0 (V:=Unit) (fun (s:Int) v=>[]) (fun s v=>[(5,.int .i64 (s))]) () [(0,_),(1,_)]
  | exact ()
theorem ac2 {x0:(List Int)} {cY:Value} {x1:Int} {x2:Int}:Ct Tryz.prog 142 true (lR x0 x1 x2) [cY,.int .i64 (x1),.int .i64 (x2)] [.rd false (aB (aC .i64)) cY x0] (fun y (_:Unit)=>[.bool y]) (fun y _=>[]):=by
 refine ct (S:=Unit) (ca fun _ _=>rfl) Tryz.func142 rfl rfl ?_
 repeat' first
  | ((first | show Dk.ER _ _ _ | show Dk.ba _ _ | show Dk.EF _ _ _ | show Dk.EO _ _ _ | show Dk.EP _ _ | show Dk.aX _ _ _ _ | show Dk.aq _ _ _ _ | show Dk.Kp _ _ _ _ | show Dk.bn _ _ | show Dk.bb _ _ _ _); repeat' first | exact rfl | (refine @id.{0} _ ?_; constructor))
  | intro _
  | exact rfl
  | (refine @id.{0} _ ?_; constructor)
  | apply WQ
  | exact ()
theorem Zx {x0:aI} {dE:Addr} {aT:Value} {bB:Value} {aO:Value} {aN:Value} {x1:Int}:Ct Tryz.prog 95 true (eE x0 x1) [.pointer (some (dE)),.int .i64 (x1)] [.au dE [.int .i64 (x0.aA),aT,bB,aO,aN],.rd false (aB (aC .i64)) aT x0.aF,.rd false (aB (aC .i64)) bB x0.To,.rd false (aB (aC .i64)) aO x0.aJ,.rd false (aB (aB (aC .i64))) aN x0.aD] (fun y (_:Unit)=>[.agg #[.int .i64 y.aF,.int .i64 y.To]]) (fun y _=>[]):=by
 refine ct (S:=Unit) (ca fun _ _=>rfl) Tryz.func95 rfl rfl ?_
 repeat' first
  | ((first | show Dk.ER _ _ _ | show Dk.ba _ _ | show Dk.EF _ _ _ | show Dk.EO _ _ _ | show Dk.EP _ _ | show Dk.aX _ _ _ _ | show Dk.aq _ _ _ _ | show Dk.Kp _ _ _ _ | show Dk.bn _ _ | show Dk.bb _ _ _ _); repeat' first | exact rfl | (refine @id.{0} _ ?_; constructor))
  | intro _
  | exact rfl
  | (refine @id.{0} _ ?_; constructor)
  | apply Dk.any (id:=1) 14 [] [] [[],[0],[1,0],[2,1,0],[],[3,2,1,0,4],[5,3,2,1,0,4],[],[7],[8,7],[9,8,7],[],[10,9,8,7,11],[12,10,9,8,7,11]] (by kernel_rfl)
  | exact ()
theorem ac3 {x0:aI} {aT:Value} {bB:Value} {aO:Value} {aN:Value} {x1:Int} {x2:Int}:Ct Tryz.prog 145 true (kI x0 x1 x2) [.agg #[.int .i64 (x0.aA),aT,bB,aO,aN],.int .i64 (x1),.int .i64 (x2)] [.rd false (aB (aC .i64)) aT x0.aF,.rd false (aB (aC .i64)) bB x0.To,.rd false (aB (aC .i64)) aO x0.aJ,.rd false (aB (aB (aC .i64))) aN x0.aD] (fun y (_:Unit)=>[.int .i64 y]) (fun y _=>[]):=by
 refine ct (S:=Unit) (ca fun _ _=>rfl) Tryz.func145 rfl rfl ?_
 repeat' first
  | ((first | show Dk.ER _ _ _ | show Dk.ba _ _ | show Dk.EF _ _ _ | show Dk.EO _ _ _ | show Dk.EP _ _ | show Dk.aX _ _ _ _ | show Dk.aq _ _ _ _ | show Dk.Kp _ _ _ _ | show Dk.bn _ _ | show Dk.bb _ _ _ _); repeat' first | exact rfl | (refine @id.{0} _ ?_; constructor))
  | intro _
  | exact rfl
  | (refine @id.{0} _ ?_; constructor)
  | exact ()
theorem ac4 {x0:aM} {aU:Value} {aW:Value} {aR:Value} {aP:Value} {aV:Value} {aY:Value} {aS:Value} {aQ:Value} {bC:Value} {bF:Value} {x1:bE} {eZ:Value} {x2:bE} {kN:Value}:Ct Tryz.prog 109 true (pL x0 x1 x2) [.agg #[.int .i64 (x0.aE.aA),aU,aW,aR,aP,.int .i64 (x0.aH.aA),aV,aY,aS,aQ,bC,bF],.agg #[.int .i64 (x1.fv),eZ],.agg #[.int .i64 (x2.fv),kN]] [.rd false (aB (aC .i64)) aU x0.aE.aF,.rd false (aB (aC .i64)) aW x0.aE.To,.rd false (aB (aC .i64)) aR x0.aE.aJ,.rd false (aB (aB (aC .i64))) aP x0.aE.aD,.rd false (aB (aC .i64)) aV x0.aH.aF,.rd false (aB (aC .i64)) aY x0.aH.To,.rd false (aB (aC .i64)) aS x0.aH.aJ,.rd false (aB (aB (aC .i64))) aQ x0.aH.aD,.rd false (aB (aC .i64)) bC x0.aA,.rd false (aB (aC .i64)) bF x0.ab,.rd false (aB (aC .i64)) eZ x1.bw,.rd false (aB (aC .i64)) kN x2.bw] (fun y (v:Value)=>[v]) (fun y v=>[.own (aL 2 (aC .i64)) v y]):=by
 refine ct (S:=Unit) (ca fun _ _=>rfl) Tryz.func109 rfl rfl ?_
 repeat' first
  | ((first | show Dk.ER _ _ _ | show Dk.ba _ _ | show Dk.EF _ _ _ | show Dk.EO _ _ _ | show Dk.EP _ _ | show Dk.aX _ _ _ _ | show Dk.aq _ _ _ _ | show Dk.Kp _ _ _ _ | show Dk.bn _ _ | show Dk.bb _ _ _ _); repeat' first | exact rfl | (refine @id.{0} _ ?_; constructor))
  | intro _
  | exact rfl
  | (refine @id.{0} _ ?_; constructor)
  | apply Dk.loop 0 (V:=Value) (fun (s:(List Int)×Int) v=>[.own (aL 2 (aC .i64)) v s.1]) (fun s v=>[(8,v),(9,.int .i64 (s.2))]) _ [(3,_),(4,_),(5,_),(7,_)]
  | apply Dk.loop 2 (V:=Unit) (fun (s:Bool×Int) v=>[]) (fun s v=>[(10,.bool (s.1)),(11,.int .i64 (s.2))]) () [(3,_),(4,_),(5,_),(7,_),(8,_),(9,_)]
  | apply Dk.quiet (id:=10) (by kernel_rfl)
  | apply LF
  | apply ac3
  | exact ()
end Go.Proofs.YtgjbmjjihmfppaaGreat
