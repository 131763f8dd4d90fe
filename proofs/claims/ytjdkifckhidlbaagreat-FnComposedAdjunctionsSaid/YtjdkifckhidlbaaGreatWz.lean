/- Walks by the calculus D. No condition beside those that each theorem names. -/
import Derived.Test.YtjdkifckhidlbaaGreatDp
import Derived.Test.YtjdkifckhidlbaaGreatDi
import Derived.Test.YtjdkifckhidlbaaGreatMo
import Derived.Test.YtjdkifckhidlbaaGreatDs
import Derived.Test.YtjdkifckhidlbaaGreatWa
import Derived.Test.YtjdkifckhidlbaaGreatWc
import Derived.Test.YtjdkifckhidlbaaGreatWd
import Derived.Test.YtjdkifckhidlbaaGreatWe
import Derived.Test.YtjdkifckhidlbaaGreatWg
import Derived.Test.YtjdkifckhidlbaaGreatWh
namespace Go.Proofs.YtjdkifckhidlbaaGreat
open Go Go.Li Go.Dk
set_option linter.unusedVariables false
set_option maxHeartbeats 16000000
set_option maxRecDepth 100000
theorem af5 {x0:aL} {dM:Nat} {cQ:Value}:Ct Tryz.prog 173 true (iU x0) [.pointer (some (⟨dM,0,none⟩))] [.row dM [cQ,.int .i64 (x0.At),.int .u64 (x0.av)] 193,.rd false (bY (aM .u8)) cQ x0.Code] (fun y (v:Value×Value×Value×Value)=>[.agg #[.int .i64 y.1.aA,v.1,v.2.1,v.2.2.1,v.2.2.2]]) (fun y v=>[.own (aK 2 (aM .i64)) v.1 y.1.aH,.own (aK 2 (aM .i64)) v.2.1 y.1.To,.own (aK 2 (aM .i64)) v.2.2.1 y.1.aJ,.own (aK 24 (aK 2 (aM .i64))) v.2.2.2 y.1.aE,.row dM [cQ,.int .i64 y.2.At,.int .u64 y.2.av] 193]):=by
 refine ct (S:=Unit) (cf fun _ _=>rfl) Tryz.func173 rfl rfl ?_
 repeat' first
  | (apply Dk.fe; repeat' first | exact rfl | (refine @id.{0} _ ?_; constructor))
  | intro _
  | exact rfl
  | (refine Dk.va (t:=59) rfl ?_ ?_)
  | (refine @id.{0} _ ?_; constructor)
  | apply Dk.loop 1 (V:=Value) (fun (s:(List (List Int))×Int) v=>[.own (aK 24 (aK 2 (aM .i64))) v s.1]) (fun s v=>[(4,v),(5,.int .i64 (s.2))]) _ [(2,_),(3,_)]
  | apply Dk.loop 3 (V:=Value) (fun (s:(List Int)×Int) v=>[.own (aK 2 (aM .i64)) v s.1]) (fun s v=>[(6,v),(7,.int .i64 (s.2))]) _ [(2,_),(3,_),(4,_),(5,_)]
  | apply Dk.loop 5 (V:=Value×Value) (fun (s:(List Int)×(List Int)×Int×Int×Int) v=>[.row dM [cQ,.int .i64 (s.2.2.2.1),.int .u64 (s.2.2.2.2)] 193,.own (aK 2 (aM .i64)) v.1 s.1,.own (aK 2 (aM .i64)) v.2 s.2.1]) (fun s v=>[(9,v.1),(10,v.2),(11,.int .i64 (s.2.2.1))]) (_,_) [(0,_),(2,_),(8,_)]
  | apply Am
  | apply afg
  | apply Yk
  | apply afO
  | apply afh
  | apply afH
  | apply afn
  | apply afw
  | apply Yd
  | exact ()
theorem Yw {x0:aL} {dM:Nat} {cQ:Value} {x1:Int} {x2:Int}:Ct Tryz.prog 74 true (jC x0 x1 x2) [.pointer (some (⟨dM,0,none⟩)),.int .i64 (x1),.int .i64 (x2)] [.row dM [cQ,.int .i64 (x0.At),.int .u64 (x0.av)] 193,.rd false (bY (aM .u8)) cQ x0.Code] (fun y (v:Value×Value×Value×Value)=>[.agg #[.int .i64 y.1.aA,v.1,v.2.1,v.2.2.1,v.2.2.2]]) (fun y v=>[.own (aK 2 (aM .i64)) v.1 y.1.aH,.own (aK 2 (aM .i64)) v.2.1 y.1.To,.own (aK 2 (aM .i64)) v.2.2.1 y.1.aJ,.own (aK 24 (aK 2 (aM .i64))) v.2.2.2 y.1.aE,.row dM [cQ,.int .i64 y.2.At,.int .u64 y.2.av] 193]):=by
 refine ct (S:=Unit) (cf fun _ _=>rfl) Tryz.func74 rfl rfl ?_
 repeat' first
  | (apply Dk.fe; repeat' first | exact rfl | (refine @id.{0} _ ?_; constructor))
  | intro _
  | exact rfl
  | (refine @id.{0} _ ?_; constructor)
  | apply Dk.loop 0 (V:=Unit) (fun (s:Int×Int×Int) v=>[.row dM [cQ,.int .i64 (s.2.1),.int .u64 (s.2.2)] 193]) (fun s v=>[(7,.int .i64 (s.1))]) () [(0,_),(1,_),(2,_),(6,_)]
  | apply Dk.xf (id:=6) [Dk.aX.row _ _ 193] 3 [] [[],[],[5]] [[],[],[1]] (by kernel_rfl)
  | apply Dk.xf (id:=8) [Dk.aX.row _ _ 193] 3 [] [[],[],[5]] [[],[],[1]] (by kernel_rfl)
  | apply af5
  | apply Am
  | apply c99
  | apply c85
  | apply Yl
  | apply Yk
  | exact ()
theorem c96 {x0:aI} {bF bV aP aN:Value} {x1:aI} {cF cR bR bI:Value}:Ct Tryz.prog 96 true (nT x0 x1) [.agg #[.int .i64 (x0.aA),bF,bV,aP,aN],.agg #[.int .i64 (x1.aA),cF,cR,bR,bI]] [rI bF x0.aH,rI bV x0.To,rI aP x0.aJ,rJ aN x0.aE,rI cF x1.aH,rI cR x1.To,rI bR x1.aJ,rJ bI x1.aE] (fun y (v:Value)=>[v]) (fun y v=>[.own (aK 29 uP) v y]):=by
 refine ct (S:=Unit) (cf fun _ _=>rfl) Tryz.func96 rfl rfl ?_
 repeat' first
  | (apply Dk.fe; repeat' first | exact rfl | (refine @id.{0} _ ?_; constructor))
  | intro _
  | exact rfl
  | apply Dk.lgO (t:=81) uP
  | (refine @id.{0} _ ?_; constructor)
  | apply afx
  | exact ()
theorem Yt {x0:aL} {dM:Nat} {cQ:Value} {x1:aI} {cF cR bR bI:Value} {x2:Int} {x3:Int}:Ct Tryz.prog 73 true (lK x0 x1 x2 x3) [.pointer (some (⟨dM,0,none⟩)),.agg #[.int .i64 (x1.aA),cF,cR,bR,bI],.int .i64 (x2),.int .i64 (x3)] [.row dM [cQ,.int .i64 (x0.At),.int .u64 (x0.av)] 193,.rd false (bY (aM .u8)) cQ x0.Code,rI cF x1.aH,rI cR x1.To,rI bR x1.aJ,rJ bI x1.aE] (fun y (v:Value×Value×Value×Value×Value×Value×Value×Value×Value×Value)=>[.agg #[.int .i64 y.1.aB.aA,v.1,v.2.1,v.2.2.1,v.2.2.2.1,.int .i64 y.1.aF.aA,v.2.2.2.2.1,v.2.2.2.2.2.1,v.2.2.2.2.2.2.1,v.2.2.2.2.2.2.2.1,v.2.2.2.2.2.2.2.2.1,v.2.2.2.2.2.2.2.2.2]]) (fun y v=>[.own (aK 2 (aM .i64)) v.1 y.1.aB.aH,.own (aK 2 (aM .i64)) v.2.1 y.1.aB.To,.own (aK 2 (aM .i64)) v.2.2.1 y.1.aB.aJ,.own (aK 24 (aK 2 (aM .i64))) v.2.2.2.1 y.1.aB.aE,.own (aK 2 (aM .i64)) v.2.2.2.2.1 y.1.aF.aH,.own (aK 2 (aM .i64)) v.2.2.2.2.2.1 y.1.aF.To,.own (aK 2 (aM .i64)) v.2.2.2.2.2.2.1 y.1.aF.aJ,.own (aK 24 (aK 2 (aM .i64))) v.2.2.2.2.2.2.2.1 y.1.aF.aE,.own (aK 2 (aM .i64)) v.2.2.2.2.2.2.2.2.1 y.1.aA,.own (aK 2 (aM .i64)) v.2.2.2.2.2.2.2.2.2 y.1.ae,.row dM [cQ,.int .i64 y.2.At,.int .u64 y.2.av] 193]):=by
 refine ct (S:=Unit) (cf fun _ _=>rfl) Tryz.func73 rfl rfl ?_
 repeat' first
  | (apply Dk.fe; repeat' first | exact rfl | (refine @id.{0} _ ?_; constructor))
  | intro _
  | exact rfl
  | apply Dk.lnO (t:=81)
  | apply Dk.ixO (t:=81)
  | apply Dk.lsS (n:=12)
  | apply Dk.V2 (n:=12)
  | apply Dk.V3 (n:=12)
  | (apply Dk.Sl (t:=38); exact rfl)
  | (refine @id.{0} _ ?_; constructor)
  | apply Dk.xf (id:=7) [Dk.aX.row _ _ 193] 6 [] [[],[],[],[],[],[8]] [[],[],[],[],[3],[2,3,4]] (by kernel_rfl)
  | apply Yw
  | apply c95
  | apply c96
  | apply Am
  | apply afy
  | apply Ti
  | exact ()
end Go.Proofs.YtjdkifckhidlbaaGreat
