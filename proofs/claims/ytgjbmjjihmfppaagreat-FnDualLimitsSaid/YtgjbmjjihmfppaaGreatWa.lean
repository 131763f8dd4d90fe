/- Walks by the calculus D. No condition beside those that each theorem names. -/
import Derived.Test.YtgjbmjjihmfppaaGreatDi
import Derived.Test.YtgjbmjjihmfppaaGreatMo
import Derived.Test.YtgjbmjjihmfppaaGreatDp
import Derived.Test.YtgjbmjjihmfppaaGreatDs
namespace Go.Proofs.YtgjbmjjihmfppaaGreat
open Go Go.Li Go.Dk
set_option linter.unusedVariables false
set_option maxHeartbeats 16000000
set_option maxRecDepth 100000
theorem yp {x0:(List Int)} {cY:Value}:Ct Tryz.prog 111 true (cX x0) [cY] [.rd false (aE (aC .i64)) cY x0] (fun y (v:Value)=>[v]) (fun y v=>[.own (aK 2 (aC .i64)) v y]):=by
 refine ct (S:=Unit) (db fun _ _=>rfl) Tryz.func111 rfl rfl ?_
 repeat' first
  | ((first | show Dk.ER _ _ _ | show Dk.bd _ _ | show Dk.EF _ _ _ | show Dk.EO _ _ _ | show Dk.EP _ _ | show Dk.ba _ _ _ _ | show Dk.aw _ _ _ _ | show Dk.Kp _ _ _ _ | show Dk.bp _ _ | show Dk.bg _ _ _ _); repeat' first | exact rfl | (refine @id.{0} _ ?_; constructor))
  | intro _
  | exact rfl
  | (refine @id.{0} _ ?_; constructor)
  | exact ()
theorem Wh {x0:(List (List Int))} {cY:Value}:Ct Tryz.prog 146 true (kO x0) [cY] [.rd false (aE (aE (aC .i64))) cY x0] (fun y (v:Value)=>[v]) (fun y v=>[.own (aK 24 (aK 2 (aC .i64))) v y]):=by
 refine ct (S:=Unit) (db fun _ _=>rfl) Tryz.func146 rfl rfl ?_
 repeat' first
  | ((first | show Dk.ER _ _ _ | show Dk.bd _ _ | show Dk.EF _ _ _ | show Dk.EO _ _ _ | show Dk.EP _ _ | show Dk.ba _ _ _ _ | show Dk.aw _ _ _ _ | show Dk.Kp _ _ _ _ | show Dk.bp _ _ | show Dk.bg _ _ _ _); repeat' first | exact rfl | (refine @id.{0} _ ?_; constructor))
  | intro _
  | exact rfl
  | (refine @id.{0} _ ?_; constructor)
  | apply Dk.loop 0 (V:=Value) (fun (s:(List (List Int))×Int) v=>[.own (aK 24 (aK 2 (aC .i64))) v s.1]) (fun s v=>[(3,v),(4,.int .i64 (s.2))]) _ [(0,_)]
  | apply yp
  | exact ()
theorem Wi  : Ct Tryz.prog 120 true (jT) [] [] (fun y (v:Value×Value×Value×Value)=>[.agg #[.int .i64 y.aA,v.1,v.2.1,v.2.2.1,v.2.2.2]]) (fun y v=>[.own (aK 2 (aC .i64)) v.1 y.aD,.own (aK 2 (aC .i64)) v.2.1 y.To,.own (aK 2 (aC .i64)) v.2.2.1 y.aJ,.own (aK 24 (aK 2 (aC .i64))) v.2.2.2 y.aB]):=by
 refine ct (S:=Unit) (db fun _ _=>rfl) Tryz.func120 rfl rfl ?_
 repeat' first
  | ((first | show Dk.ER _ _ _ | show Dk.bd _ _ | show Dk.EF _ _ _ | show Dk.EO _ _ _ | show Dk.EP _ _ | show Dk.ba _ _ _ _ | show Dk.aw _ _ _ _ | show Dk.Kp _ _ _ _ | show Dk.bp _ _ | show Dk.bg _ _ _ _); repeat' first | exact rfl | (refine @id.{0} _ ?_; constructor))
  | intro _
  | exact rfl
  | apply Dk.yi (d:=1)
  | apply Dk.yi (d:=2)
  | apply Dk.yi (d:=3)
  | apply Dk.yi (d:=4)
  | apply Dk.yi (d:=5)
  | apply Dk.yi (d:=6)
  | apply Dk.yi (d:=7)
  | apply Dk.yi (d:=8)
  | apply Dk.yi (d:=9)
  | (refine @id.{0} _ ?_; constructor)
  | exact ()
theorem Wj {x0:aG} {aU:Value} {aZ:Value} {aO:Value} {aM:Value}:Ct Tryz.prog 72 true (fV x0) [.agg #[.int .i64 (x0.aA),aU,aZ,aO,aM]] [.rd false (aE (aC .i64)) aU x0.aD,.rd false (aE (aC .i64)) aZ x0.To,.rd false (aE (aC .i64)) aO x0.aJ,.rd false (aE (aE (aC .i64))) aM x0.aB] (fun y (v:Value×Value×Value×Value)=>[.agg #[.int .i64 y.aA,v.1,v.2.1,v.2.2.1,v.2.2.2]]) (fun y v=>[.own (aK 2 (aC .i64)) v.1 y.aD,.own (aK 2 (aC .i64)) v.2.1 y.To,.own (aK 2 (aC .i64)) v.2.2.1 y.aJ,.own (aK 24 (aK 2 (aC .i64))) v.2.2.2 y.aB]):=by
 refine ct (S:=Unit) (db fun _ _=>rfl) Tryz.func72 rfl rfl ?_
 repeat' first
  | ((first | show Dk.ER _ _ _ | show Dk.bd _ _ | show Dk.EF _ _ _ | show Dk.EO _ _ _ | show Dk.EP _ _ | show Dk.ba _ _ _ _ | show Dk.aw _ _ _ _ | show Dk.Kp _ _ _ _ | show Dk.bp _ _ | show Dk.bg _ _ _ _); repeat' first | exact rfl | (refine @id.{0} _ ?_; constructor))
  | intro _
  | exact rfl
  | (refine Dk.tu (t:=32) rfl ?_ ?_)
  | (refine @id.{0} _ ?_; constructor)
  | apply Dk.kj 0 (V:=Value) (A:=Nat×Value×Value×Value) (_,_,_,_) (fun a (s:Int×(List (List Int))) v=>Dk.pc (fun a0=>Dk.pc (fun a1=>Dk.pc (fun a2 a3=>[.row a0 [.int .i64 (x0.aA),a1,a2,a3,v] 27,.own (aK 24 (aK 2 (aC .i64))) v s.2]))) a) (fun a s v=>Dk.pc (fun a0=>Dk.pc (fun a1=>Dk.pc (fun a2 a3=>[(3,.pointer (some ⟨a0,0,none⟩)),(4,.int .i64 (s.1))]))) a) _ [(1,_),(2,_)]
  | apply Dk.loop 2 (V:=Value) (fun (s:(List Int)×Int) v=>[.own (aK 2 (aC .i64)) v s.1]) (fun s v=>[(5,v),(6,.int .i64 (s.2))]) _ [(1,_),(2,_),(3,_),(4,_)]
  | apply Dk.TF (id:=1) [13,0,1,2,3,4,5,6,7,8,9,10,11,12,14] [1,2,3,4,5,6,7,8,9,10,11,12,13,0,14] [] 14 [] [] [[],[],[1],[],[3],[4,3],[],[6],[7,6,5,4,3],[],[9],[10,9,8,7,6,5,4,3],[],[2,1,5,4,3,8,7,6,5,4,3,11,10,9,8,7,6,5,4,3,12]] (by kernel_rfl)
  | apply yp
  | exact ()
theorem Kn {x0:aG} {aU:Value} {aZ:Value} {aO:Value} {aM:Value} {x1:Int} {x2:Int}:Ct Tryz.prog 144 true (fW x0 x1 x2) [.agg #[.int .i64 (x0.aA),aU,aZ,aO,aM],.int .i64 (x1),.int .i64 (x2)] [.rd false (aE (aC .i64)) aU x0.aD,.rd false (aE (aC .i64)) aZ x0.To,.rd false (aE (aC .i64)) aO x0.aJ,.rd false (aE (aE (aC .i64))) aM x0.aB] (fun y (v:Value)=>[v]) (fun y v=>[.own (aK 2 (aC .i64)) v y]):=by
 refine ct (S:=Unit) (db fun _ _=>rfl) Tryz.func144 rfl rfl ?_
 repeat' first
  | ((first | show Dk.ER _ _ _ | show Dk.bd _ _ | show Dk.EF _ _ _ | show Dk.EO _ _ _ | show Dk.EP _ _ | show Dk.ba _ _ _ _ | show Dk.aw _ _ _ _ | show Dk.Kp _ _ _ _ | show Dk.bp _ _ | show Dk.bg _ _ _ _); repeat' first | exact rfl | (refine @id.{0} _ ?_; constructor))
  | intro _
  | exact rfl
  | (refine @id.{0} _ ?_; constructor)
  | apply Dk.loop 0 (V:=Value) (fun (s:(List Int)×Int) v=>[.own (aK 2 (aC .i64)) v s.1]) (fun s v=>[(7,v),(8,.int .i64 (s.2))]) _ [(1,_),(2,_),(3,_)]
  | exact ()
theorem ab4 {x0:aG} {aU:Value} {aZ:Value} {aO:Value} {aM:Value} {x1:aG} {bI:Value} {bY:Value} {bC:Value} {aY:Value} {x2:(List Int)} {dH:Value}:Ct Tryz.prog 150 true (lZ x0 x1 x2) [.agg #[.int .i64 (x0.aA),aU,aZ,aO,aM],.agg #[.int .i64 (x1.aA),bI,bY,bC,aY],dH] [.rd false (aE (aC .i64)) aU x0.aD,.rd false (aE (aC .i64)) aZ x0.To,.rd false (aE (aC .i64)) aO x0.aJ,.rd false (aE (aE (aC .i64))) aM x0.aB,.rd false (aE (aC .i64)) bI x1.aD,.rd false (aE (aC .i64)) bY x1.To,.rd false (aE (aC .i64)) bC x1.aJ,.rd false (aE (aE (aC .i64))) aY x1.aB,.rd false (aE (aC .i64)) dH x2] (fun y (_:Unit)=>[.bool y]) (fun y _=>[]):=by
 refine ct (S:=Unit) (db fun _ _=>rfl) Tryz.func150 rfl rfl ?_
 repeat' first
  | ((first | show Dk.ER _ _ _ | show Dk.bd _ _ | show Dk.EF _ _ _ | show Dk.EO _ _ _ | show Dk.EP _ _ | show Dk.ba _ _ _ _ | show Dk.aw _ _ _ _ | show Dk.Kp _ _ _ _ | show Dk.bp _ _ | show Dk.bg _ _ _ _); repeat' first | exact rfl | (refine @id.{0} _ ?_; constructor))
  | intro _
  | exact rfl
  | (refine @id.{0} _ ?_; constructor)
  | apply Dk.loop 0 (V:=Unit) (fun (s:Int) v=>[]) (fun s v=>[(7,.int .i64 (s))]) () [(2,_),(3,_),(4,_)]
  | apply Dk.quiet (id:=4) (by kernel_rfl)
  | apply Dk.tail (id:=5) 20 (by kernel_rfl)
  | apply Kn
  | exact ()
theorem ab5 {x0:aG} {aU:Value} {aZ:Value} {aO:Value} {aM:Value} {x1:aG} {bI:Value} {bY:Value} {bC:Value} {aY:Value} {x2:(List Int)} {dH:Value}:Ct Tryz.prog 158 true (mA x0 x1 x2) [.agg #[.int .i64 (x0.aA),aU,aZ,aO,aM],.agg #[.int .i64 (x1.aA),bI,bY,bC,aY],dH] [.rd false (aE (aC .i64)) aU x0.aD,.rd false (aE (aC .i64)) aZ x0.To,.rd false (aE (aC .i64)) aO x0.aJ,.rd false (aE (aE (aC .i64))) aM x0.aB,.rd false (aE (aC .i64)) bI x1.aD,.rd false (aE (aC .i64)) bY x1.To,.rd false (aE (aC .i64)) bC x1.aJ,.rd false (aE (aE (aC .i64))) aY x1.aB,.own (aK 2 (aC .i64)) dH x2] (fun y (_:Unit)=>[.bool y.1]) (fun y _=>[.own (aK 2 (aC .i64)) dH y.2]):=by
 refine ct (S:=Unit) (db fun _ _=>rfl) Tryz.func158 rfl rfl ?_
 repeat' first
  | ((first | show Dk.ER _ _ _ | show Dk.bd _ _ | show Dk.EF _ _ _ | show Dk.EO _ _ _ | show Dk.EP _ _ | show Dk.ba _ _ _ _ | show Dk.aw _ _ _ _ | show Dk.Kp _ _ _ _ | show Dk.bp _ _ | show Dk.bg _ _ _ _); repeat' first | exact rfl | (refine @id.{0} _ ?_; constructor))
  | intro _
  | exact rfl
  | (refine Dk.tu (t:=22) rfl ?_ ?_)
  | (refine @id.{0} _ ?_; constructor)
  | apply Dk.loop 0 (V:=Unit) (fun (s:Bool×(List Int)) v=>[.own (aK 2 (aC .i64)) dH s.2]) (fun s v=>[(7,.bool (s.1))]) () [(2,_),(3,_),(4,_)]
  | apply Dk.loop 2 (V:=Unit) (fun (s:Bool×Int×(List Int)) v=>[.own (aK 2 (aC .i64)) dH s.2.2]) (fun s v=>[(7,.bool (s.1)),(8,.int .i64 (s.2.1))]) () [(2,_),(3,_),(4,_)]
  | apply Dk.loop 4 (V:=Unit) (fun (s:Bool×Int×(List Int)) v=>[.own (aK 2 (aC .i64)) dH s.2.2]) (fun s v=>[(7,.bool (s.1)),(9,.int .i64 (s.2.1))]) () [(2,_),(3,_),(4,_),(8,_)]
  | apply Dk.quiet (id:=12) (by kernel_rfl)
  | exact ()
theorem Wl {rc:aG→aG→(List Int)→(List Int)→Int→(List (List Int))→Option ((List (List Int)))} (ih:∀ {x0:aG} {aU:Value} {aZ:Value} {aO:Value} {aM:Value} {x1:aG} {bI:Value} {bY:Value} {bC:Value} {aY:Value} {x2:(List Int)} {dH:Value} {x3:(List Int)} {eZ:Value} {x4:Int} {x5:(List (List Int))} {pH:Value},Ct Tryz.prog 151 true (rc x0 x1 x2 x3 x4 x5) [.agg #[.int .i64 (x0.aA),aU,aZ,aO,aM],.agg #[.int .i64 (x1.aA),bI,bY,bC,aY],dH,eZ,.int .i64 (x4),pH] [.rd false (aE (aC .i64)) aU x0.aD,.rd false (aE (aC .i64)) aZ x0.To,.rd false (aE (aC .i64)) aO x0.aJ,.rd false (aE (aE (aC .i64))) aM x0.aB,.rd false (aE (aC .i64)) bI x1.aD,.rd false (aE (aC .i64)) bY x1.To,.rd false (aE (aC .i64)) bC x1.aJ,.rd false (aE (aE (aC .i64))) aY x1.aB,.rd false (aE (aC .i64)) dH x2,.rd false (aE (aC .i64)) eZ x3,.own (aK 24 (aK 2 (aC .i64))) pH x5] (fun y (v:Value)=>[v]) (fun y v=>[.own (aK 24 (aK 2 (aC .i64))) v y])) {x0:aG} {aU:Value} {aZ:Value} {aO:Value} {aM:Value} {x1:aG} {bI:Value} {bY:Value} {bC:Value} {aY:Value} {x2:(List Int)} {dH:Value} {x3:(List Int)} {eZ:Value} {x4:Int} {x5:(List (List Int))} {pH:Value}:Ct Tryz.prog 151 true (jL rc x0 x1 x2 x3 x4 x5) [.agg #[.int .i64 (x0.aA),aU,aZ,aO,aM],.agg #[.int .i64 (x1.aA),bI,bY,bC,aY],dH,eZ,.int .i64 (x4),pH] [.rd false (aE (aC .i64)) aU x0.aD,.rd false (aE (aC .i64)) aZ x0.To,.rd false (aE (aC .i64)) aO x0.aJ,.rd false (aE (aE (aC .i64))) aM x0.aB,.rd false (aE (aC .i64)) bI x1.aD,.rd false (aE (aC .i64)) bY x1.To,.rd false (aE (aC .i64)) bC x1.aJ,.rd false (aE (aE (aC .i64))) aY x1.aB,.rd false (aE (aC .i64)) dH x2,.rd false (aE (aC .i64)) eZ x3,.own (aK 24 (aK 2 (aC .i64))) pH x5] (fun y (v:Value)=>[v]) (fun y v=>[.own (aK 24 (aK 2 (aC .i64))) v y]):=by
 refine ct (S:=Unit) (db fun _ _=>rfl) Tryz.func151 rfl rfl ?_
 repeat' first
  | ((first | show Dk.ER _ _ _ | show Dk.bd _ _ | show Dk.EF _ _ _ | show Dk.EO _ _ _ | show Dk.EP _ _ | show Dk.ba _ _ _ _ | show Dk.aw _ _ _ _ | show Dk.Kp _ _ _ _ | show Dk.bp _ _ | show Dk.bg _ _ _ _); repeat' first | exact rfl | (refine @id.{0} _ ?_; constructor))
  | intro _
  | exact rfl
  | (refine @id.{0} _ ?_; constructor)
  | apply ih
  | apply Dk.loop 0 (V:=Unit) (fun (s:Int) v=>[]) (fun s v=>[(4,.int .i64 (s))]) () [(2,_),(3,_),(5,_),(6,_),(7,_)]
  | apply Dk.loop 2 (V:=Value) (fun (s:(List (List Int))×Int) v=>[.own (aK 24 (aK 2 (aC .i64))) v s.1]) (fun s v=>[(5,v),(14,.int .i64 (s.2))]) _ [(2,_),(3,_),(4,_),(6,_),(7,_),(13,_)]
  | apply Dk.any (id:=5) 17 [] [] [[],[],[],[2],[],[3,2,4],[5,3,2,4],[1,6,5,3,2,4],[7,1,6,5,3,2,4],[],[],[10],[],[11,10,12],[13,11,10,12],[9,14,13,11,10,12],[15,9,14,13,11,10,12]] (by kernel_rfl)
  | apply yp
  | apply Kn
  | apply ab5
  | exact ()
theorem Wm (n:Nat):∀ {x0:aG} {aU:Value} {aZ:Value} {aO:Value} {aM:Value} {x1:aG} {bI:Value} {bY:Value} {bC:Value} {aY:Value} {x2:(List Int)} {dH:Value} {x3:(List Int)} {eZ:Value} {x4:Int} {x5:(List (List Int))} {pH:Value},Ct Tryz.prog 151 true (fS n x0 x1 x2 x3 x4 x5) [.agg #[.int .i64 (x0.aA),aU,aZ,aO,aM],.agg #[.int .i64 (x1.aA),bI,bY,bC,aY],dH,eZ,.int .i64 (x4),pH] [.rd false (aE (aC .i64)) aU x0.aD,.rd false (aE (aC .i64)) aZ x0.To,.rd false (aE (aC .i64)) aO x0.aJ,.rd false (aE (aE (aC .i64))) aM x0.aB,.rd false (aE (aC .i64)) bI x1.aD,.rd false (aE (aC .i64)) bY x1.To,.rd false (aE (aC .i64)) bC x1.aJ,.rd false (aE (aE (aC .i64))) aY x1.aB,.rd false (aE (aC .i64)) dH x2,.rd false (aE (aC .i64)) eZ x3,.own (aK 24 (aK 2 (aC .i64))) pH x5] (fun y (v:Value)=>[v]) (fun y v=>[.own (aK 24 (aK 2 (aC .i64))) v y]):=by
 induction n with
 | zero=>intros; rw [qm]; exact ⟨(db fun _ _=>rfl),fun _ _ _ _ _ _ _ y hy=>nomatch (show none=some y from hy)⟩
 | succ n ih=>exact Wl ih
theorem ab6 {x0:aG} {aU:Value} {aZ:Value} {aO:Value} {aM:Value} {x1:aG} {bI:Value} {bY:Value} {bC:Value} {aY:Value} {x2:(List Int)} {dH:Value} {x3:(List Int)} {eZ:Value} {x4:Int} {x5:(List (List Int))} {pH:Value}:Ct Tryz.prog 151 true (fS 64 x0 x1 x2 x3 x4 x5) [.agg #[.int .i64 (x0.aA),aU,aZ,aO,aM],.agg #[.int .i64 (x1.aA),bI,bY,bC,aY],dH,eZ,.int .i64 (x4),pH] [.rd false (aE (aC .i64)) aU x0.aD,.rd false (aE (aC .i64)) aZ x0.To,.rd false (aE (aC .i64)) aO x0.aJ,.rd false (aE (aE (aC .i64))) aM x0.aB,.rd false (aE (aC .i64)) bI x1.aD,.rd false (aE (aC .i64)) bY x1.To,.rd false (aE (aC .i64)) bC x1.aJ,.rd false (aE (aE (aC .i64))) aY x1.aB,.rd false (aE (aC .i64)) dH x2,.rd false (aE (aC .i64)) eZ x3,.own (aK 24 (aK 2 (aC .i64))) pH x5] (fun y (v:Value)=>[v]) (fun y v=>[.own (aK 24 (aK 2 (aC .i64))) v y]):=by
 exact Wm 64
theorem al9 {p:Addr}:Ct Tryz.prog 186 true pS [.agg #[.pointer (some p)]] [] (fun _ (_:Unit)=>[.pointer (some p)]) (fun _ _=>[]):=by
 refine ct (S:=Unit) (db fun _ _=>rfl) Tryz.func186 rfl rfl ?_
 repeat' first
  | ((first | show Dk.ER _ _ _ | show Dk.bd _ _ | show Dk.EF _ _ _ | show Dk.EO _ _ _ | show Dk.EP _ _ | show Dk.ba _ _ _ _ | show Dk.aw _ _ _ _ | show Dk.Kp _ _ _ _ | show Dk.bp _ _ | show Dk.bg _ _ _ _); repeat' first | exact rfl | (refine @id.{0} _ ?_; constructor))
  | intro _
  | exact rfl
  | (refine @id.{0} _ ?_; constructor)
  | exact ()
theorem ab7 {x0:Int} {x1:Int} {x2:Int}:Ct Tryz.prog 141 true (pC x0 x1 x2) [.int .i64 (x0),.int .i64 (x1),.int .i64 (x2)] [] (fun y (_:Unit)=>[.bool y]) (fun y _=>[]):=by
 refine ct (S:=Unit) (db fun _ _=>rfl) Tryz.func141 rfl rfl ?_
 repeat' first
  | ((first | show Dk.ER _ _ _ | show Dk.bd _ _ | show Dk.EF _ _ _ | show Dk.EO _ _ _ | show Dk.EP _ _ | show Dk.ba _ _ _ _ | show Dk.aw _ _ _ _ | show Dk.Kp _ _ _ _ | show Dk.bp _ _ | show Dk.bg _ _ _ _); repeat' first | exact rfl | (refine @id.{0} _ ?_; constructor))
  | intro _
  | exact rfl
  | (refine @id.{0} _ ?_; constructor)
  | exact ()
theorem ab8 {x0:aG} {aU:Value} {aZ:Value} {aO:Value} {aM:Value} {x1:Int} {x2:Int}:Ct Tryz.prog 145 true (oB x0 x1 x2) [.agg #[.int .i64 (x0.aA),aU,aZ,aO,aM],.int .i64 (x1),.int .i64 (x2)] [.rd false (aE (aC .i64)) aU x0.aD,.rd false (aE (aC .i64)) aZ x0.To,.rd false (aE (aC .i64)) aO x0.aJ,.rd false (aE (aE (aC .i64))) aM x0.aB] (fun y (_:Unit)=>[.int .i64 y]) (fun y _=>[]):=by
 refine ct (S:=Unit) (db fun _ _=>rfl) Tryz.func145 rfl rfl ?_
 repeat' first
  | ((first | show Dk.ER _ _ _ | show Dk.bd _ _ | show Dk.EF _ _ _ | show Dk.EO _ _ _ | show Dk.EP _ _ | show Dk.ba _ _ _ _ | show Dk.aw _ _ _ _ | show Dk.Kp _ _ _ _ | show Dk.bp _ _ | show Dk.bg _ _ _ _); repeat' first | exact rfl | (refine @id.{0} _ ?_; constructor))
  | intro _
  | exact rfl
  | (refine @id.{0} _ ?_; constructor)
  | exact ()
theorem ab9 {x0:aN} {aV:Value} {bA:Value} {aS:Value} {aP:Value} {aW:Value} {bB:Value} {aT:Value} {aQ:Value} {bE:Value} {bF:Value} {x1:bD} {eD:Value} {x2:bD} {gD:Value}:Ct Tryz.prog 109 true (oC x0 x1 x2) [.agg #[.int .i64 (x0.aH.aA),aV,bA,aS,aP,.int .i64 (x0.aI.aA),aW,bB,aT,aQ,bE,bF],.agg #[.int .i64 (x1.ef),eD],.agg #[.int .i64 (x2.ef),gD]] [.rd false (aE (aC .i64)) aV x0.aH.aD,.rd false (aE (aC .i64)) bA x0.aH.To,.rd false (aE (aC .i64)) aS x0.aH.aJ,.rd false (aE (aE (aC .i64))) aP x0.aH.aB,.rd false (aE (aC .i64)) aW x0.aI.aD,.rd false (aE (aC .i64)) bB x0.aI.To,.rd false (aE (aC .i64)) aT x0.aI.aJ,.rd false (aE (aE (aC .i64))) aQ x0.aI.aB,.rd false (aE (aC .i64)) bE x0.aA,.rd false (aE (aC .i64)) bF x0.aj,.rd false (aE (aC .i64)) eD x1.cf,.rd false (aE (aC .i64)) gD x2.cf] (fun y (v:Value)=>[v]) (fun y v=>[.own (aK 2 (aC .i64)) v y]):=by
 refine ct (S:=Unit) (db fun _ _=>rfl) Tryz.func109 rfl rfl ?_
 repeat' first
  | ((first | show Dk.ER _ _ _ | show Dk.bd _ _ | show Dk.EF _ _ _ | show Dk.EO _ _ _ | show Dk.EP _ _ | show Dk.ba _ _ _ _ | show Dk.aw _ _ _ _ | show Dk.Kp _ _ _ _ | show Dk.bp _ _ | show Dk.bg _ _ _ _); repeat' first | exact rfl | (refine @id.{0} _ ?_; constructor))
  | intro _
  | exact rfl
  | (refine @id.{0} _ ?_; constructor)
  | apply Dk.loop 0 (V:=Value) (fun (s:(List Int)×Int) v=>[.own (aK 2 (aC .i64)) v s.1]) (fun s v=>[(8,v),(9,.int .i64 (s.2))]) _ [(3,_),(4,_),(5,_),(7,_)]
  | apply Dk.loop 2 (V:=Unit) (fun (s:Bool×Int) v=>[]) (fun s v=>[(10,.bool (s.1)),(11,.int .i64 (s.2))]) () [(3,_),(4,_),(5,_),(7,_),(8,_),(9,_)]
  | apply Dk.quiet (id:=10) (by kernel_rfl)
  | apply Kn
  | apply ab8
  | exact ()
end Go.Proofs.YtgjbmjjihmfppaaGreat
