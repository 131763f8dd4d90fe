/- Walks by the calculus D. No condition beside those that each theorem names. -/
import Derived.Test.YtcnehblmgfbfoaaGreatDp
import Derived.Test.YtcnehblmgfbfoaaGreatDi
import Derived.Test.YtcnehblmgfbfoaaGreatMo
import Derived.Test.YtcnehblmgfbfoaaGreatDs
import Derived.Test.YtcnehblmgfbfoaaGreatWa
import Derived.Test.YtcnehblmgfbfoaaGreatWb
import Derived.Test.YtcnehblmgfbfoaaGreatWc
import Derived.Test.YtcnehblmgfbfoaaGreatWe
import Derived.Test.YtcnehblmgfbfoaaGreatWf
import Derived.Test.YtcnehblmgfbfoaaGreatWg
import Derived.Test.YtcnehblmgfbfoaaGreatWi
import Derived.Test.YtcnehblmgfbfoaaGreatWj
import Derived.Test.YtcnehblmgfbfoaaGreatWk
import Derived.Test.YtcnehblmgfbfoaaGreatWl
namespace Go.Proofs.YtcnehblmgfbfoaaGreat
open Go Go.Li Go.Dk
set_option linter.unusedVariables false
set_option maxHeartbeats 16000000
set_option maxRecDepth 100000
theorem agK {x0:aL} {cX:Nat} {bN:Value}:Ct Tryz.prog 162 true (gR x0) [.pointer (some (⟨cX,0,none⟩))] [.row cX [bN,.int .i64 (x0.At),.int .u64 (x0.aj)] 194,.rd false (aV (aN .u8)) bN x0.Code] (fun y (v:Value×Value×Value×Value)=>[.agg #[.int .i64 y.1.aD,v.1,v.2.1,v.2.2.1,v.2.2.2]]) (fun y v=>[.own (aJ 2 (aN .i64)) v.1 y.1.aG,.own (aJ 2 (aN .i64)) v.2.1 y.1.To,.own (aJ 2 (aN .i64)) v.2.2.1 y.1.aI,.own (aJ 22 (aJ 2 (aN .i64))) v.2.2.2 y.1.aB,.row cX [bN,.int .i64 y.2.At,.int .u64 y.2.aj] 194]):=by
 refine ct (S:=Unit) (bx fun _ _=>rfl) Tryz.func162 rfl rfl ?_
 repeat' first
  | (apply Dk.fe; repeat' first | exact rfl | (refine @id.{0} _ ?_; constructor))
  | intro _
  | exact rfl
  | (refine Dk.tV (t:=59) rfl ?_ ?_)
  | (refine @id.{0} _ ?_; constructor)
  | apply Dk.loop 1 (V:=Value) (fun (s:(List (List Int))×Int) v=>[.own (aJ 22 (aJ 2 (aN .i64))) v s.1]) (fun s v=>[(4,v),(5,.int .i64 (s.2))]) _ [(2,_),(3,_)]
  | apply Dk.loop 3 (V:=Value) (fun (s:(List Int)×Int) v=>[.own (aJ 2 (aN .i64)) v s.1]) (fun s v=>[(6,v),(7,.int .i64 (s.2))]) _ [(2,_),(3,_),(4,_),(5,_)]
  | apply Dk.loop 5 (V:=Value×Value) (fun (s:(List Int)×(List Int)×Int×Int×Int) v=>[.row cX [bN,.int .i64 (s.2.2.2.1),.int .u64 (s.2.2.2.2)] 194,.own (aJ 2 (aN .i64)) v.1 s.1,.own (aJ 2 (aN .i64)) v.2 s.2.1]) (fun s v=>[(9,v.1),(10,v.2),(11,.int .i64 (s.2.2.1))]) (_,_) [(0,_),(2,_),(8,_)]
  | apply Al
  | apply afW
  | apply Y3
  | apply agn
  | apply af2
  | apply af9
  | apply afG
  | apply agz
  | apply af3
  | exact ()
theorem c81 {x0:aL} {cX:Nat} {bN:Value} {x1:Int} {x2:Int}:Ct Tryz.prog 81 true (oB x0 x1 x2) [.pointer (some (⟨cX,0,none⟩)),.int .i64 (x1),.int .i64 (x2)] [.row cX [bN,.int .i64 (x0.At),.int .u64 (x0.aj)] 194,.rd false (aV (aN .u8)) bN x0.Code] (fun y (v:Value×Value×Value×Value)=>[.agg #[.int .i64 y.1.aD,v.1,v.2.1,v.2.2.1,v.2.2.2]]) (fun y v=>[.own (aJ 2 (aN .i64)) v.1 y.1.aG,.own (aJ 2 (aN .i64)) v.2.1 y.1.To,.own (aJ 2 (aN .i64)) v.2.2.1 y.1.aI,.own (aJ 22 (aJ 2 (aN .i64))) v.2.2.2 y.1.aB,.row cX [bN,.int .i64 y.2.At,.int .u64 y.2.aj] 194]):=by
 refine ct (S:=Unit) (bx fun _ _=>rfl) Tryz.func81 rfl rfl ?_
 repeat' first
  | (apply Dk.fe; repeat' first | exact rfl | (refine @id.{0} _ ?_; constructor))
  | intro _
  | exact rfl
  | (refine @id.{0} _ ?_; constructor)
  | apply Dk.loop 0 (V:=Unit) (fun (s:Int×Int×Int) v=>[.row cX [bN,.int .i64 (s.2.1),.int .u64 (s.2.2)] 194]) (fun s v=>[(7,.int .i64 (s.1))]) () [(0,_),(1,_),(2,_),(6,_)]
  | apply Dk.ru (id:=6) [Dk.aq.row _ _ 194] 3 [] [[],[],[5]] [[],[],[1]] (by kernel_rfl)
  | apply Dk.ru (id:=8) [Dk.aq.row _ _ 194] 3 [] [[],[],[5]] [[],[],[1]] (by kernel_rfl)
  | apply agK
  | apply Al
  | apply Zx
  | apply c92
  | apply c93
  | apply Y3
  | exact ()
theorem agL {x0:aL} {cX:Nat} {bN:Value} {x1:Int} {x2:Int}:Ct Tryz.prog 186 false (mE x0 x1 x2) [.pointer (some (⟨cX,0,none⟩)),.int .i64 (x1),.int .i64 (x2)] [.row cX [bN,.int .i64 (x0.At),.int .u64 (x0.aj)] 194,.rd false (aV (aN .u8)) bN x0.Code] (fun y (v:Value×Value×Value×Value)=>[.agg #[.int .i64 y.1.aD,v.1,v.2.1,v.2.2.1,v.2.2.2]]) (fun y v=>[rI v.1 y.1.aG,rI v.2.1 y.1.To,rI v.2.2.1 y.1.aI,rJ v.2.2.2 y.1.aB,.row cX [bN,.int .i64 y.2.At,.int .u64 y.2.aj] 194]):=by
 refine ct (S:=Unit) zR Tryz.func186 rfl rfl ?_
 repeat' first
  | (apply Dk.fe; repeat' first | exact rfl | (refine @id.{0} _ ?_; constructor))
  | intro _
  | exact rfl
  | (refine @id.{0} _ ?_; constructor)
  | apply c81
  | apply Al
  | apply Zr
  | exact ()
theorem agM {x0:aL} {cX:Nat} {bN:Value}:Ct Tryz.prog 111 false (mG x0) [.pointer (some (⟨cX,0,none⟩))] [.row cX [bN,.int .i64 (x0.At),.int .u64 (x0.aj)] 194,.rd false (aV (aN .u8)) bN x0.Code] (fun y (v:Value×Value×Value×Value)=>[.agg #[.int .i64 y.1.aD,v.1,v.2.1,v.2.2.1,v.2.2.2]]) (fun y v=>[rI v.1 y.1.aG,rI v.2.1 y.1.To,rI v.2.2.1 y.1.aI,rJ v.2.2.2 y.1.aB,.row cX [bN,.int .i64 y.2.At,.int .u64 y.2.aj] 194]):=by
 refine ct (S:=Unit) zR Tryz.func111 rfl rfl ?_
 repeat' first
  | (apply Dk.fe; repeat' first | exact rfl | (refine @id.{0} _ ?_; constructor))
  | intro _
  | exact rfl
  | (refine @id.{0} _ ?_; constructor)
  | apply Al
  | apply agL
  | exact ()
theorem agN {x0:aL} {cX:Nat} {bN:Value} {x1:aH} {dC dQ cL bY:Value} {x2:Int}:Ct Tryz.prog 110 false (kE x0 x1 x2) [.pointer (some (⟨cX,0,none⟩)),.agg #[.int .i64 (x1.aD),dC,dQ,cL,bY],.int .i64 (x2)] [.row cX [bN,.int .i64 (x0.At),.int .u64 (x0.aj)] 194,.rd false (aV (aN .u8)) bN x0.Code,rI dC x1.aG,rI dQ x1.To,rI cL x1.aI,rJ bY x1.aB] (fun y (v:Value×Value×Value×Value×Value×Value)=>[.agg #[.int .i64 y.1.aC.aD,v.1,v.2.1,v.2.2.1,v.2.2.2.1,v.2.2.2.2.1,v.2.2.2.2.2]]) (fun y v=>[rI v.1 y.1.aC.aG,rI v.2.1 y.1.aC.To,rI v.2.2.1 y.1.aC.aI,rJ v.2.2.2.1 y.1.aC.aB,rI v.2.2.2.2.1 y.1.aP,rJ v.2.2.2.2.2 y.1.aO,.row cX [bN,.int .i64 y.2.At,.int .u64 y.2.aj] 194]):=by
 refine ct (S:=Unit) zR Tryz.func110 rfl rfl ?_
 repeat' first
  | (apply Dk.fe; repeat' first | exact rfl | (refine @id.{0} _ ?_; constructor))
  | intro _
  | exact rfl
  | (refine @id.{0} _ ?_; constructor)
  | apply Zy
  | apply ags
  | apply Al
  | apply agt
  | exact ()
theorem agI {x0:aL} {cX:Nat} {bN:Value} {x1:Int}:Ct Tryz.prog 205 false (pF x0 x1) [.pointer (some (⟨cX,0,none⟩)),.int .i64 (x1)] [.row cX [bN,.int .i64 (x0.At),.int .u64 (x0.aj)] 194,.rd false (aV (aN .u8)) bN x0.Code] (fun y (v:Value×Value×Value×Value×Value×Value×Value×Value×Value×Value×Value×Value)=>[.agg #[.int .i64 y.1.aC.aD,v.1,v.2.1,v.2.2.1,v.2.2.2.1,v.2.2.2.2.1,v.2.2.2.2.2.1],.agg #[.int .i64 y.2.1.aC.aD,v.2.2.2.2.2.2.1,v.2.2.2.2.2.2.2.1,v.2.2.2.2.2.2.2.2.1,v.2.2.2.2.2.2.2.2.2.1,v.2.2.2.2.2.2.2.2.2.2.1,v.2.2.2.2.2.2.2.2.2.2.2]]) (fun y v=>[rI v.1 y.1.aC.aG,rI v.2.1 y.1.aC.To,rI v.2.2.1 y.1.aC.aI,rJ v.2.2.2.1 y.1.aC.aB,rI v.2.2.2.2.1 y.1.aP,rJ v.2.2.2.2.2.1 y.1.aO,rI v.2.2.2.2.2.2.1 y.2.1.aC.aG,rI v.2.2.2.2.2.2.2.1 y.2.1.aC.To,rI v.2.2.2.2.2.2.2.2.1 y.2.1.aC.aI,rJ v.2.2.2.2.2.2.2.2.2.1 y.2.1.aC.aB,rI v.2.2.2.2.2.2.2.2.2.2.1 y.2.1.aP,rJ v.2.2.2.2.2.2.2.2.2.2.2 y.2.1.aO,.row cX [bN,.int .i64 y.2.2.At,.int .u64 y.2.2.aj] 194]):=by
 refine ct (S:=Unit) zR Tryz.func205 rfl rfl ?_
 repeat' first
  | (apply Dk.fe; repeat' first | exact rfl | (refine @id.{0} _ ?_; constructor))
  | intro _
  | exact rfl
  | apply Dk.AD.LX (f:=111)
  | apply Dk.AD.Ij (f:=111)
  | apply Dk.AD.Ik (f:=111)
  | apply Dk.AD.LX (f:=110)
  | apply Dk.AD.Ij (f:=110)
  | apply Dk.AD.Ik (f:=110)
  | (refine @id.{0} _ ?_; constructor)
  | apply Dk.ru (id:=4) [Dk.aq.row _ _ 194] 6 [] [[],[],[],[8],[],[3]] [[],[],[],[2],[],[1,2,3,4]] (by kernel_rfl)
  | apply Dk.ru (id:=5) [Dk.aq.row _ _ 194] 5 [] [[],[],[],[],[7]] [[],[],[],[],[1,2,3]] (by kernel_rfl)
  | apply agM
  | apply agN
  | apply Al
  | exact ()
theorem agO {x0:aK} {aW bC aU aS bP bD:Value}:Ct Tryz.prog 115 true (pG x0) [.agg #[.int .i64 (x0.aC.aD),aW,bC,aU,aS,bP,bD]] [rI aW x0.aC.aG,rI bC x0.aC.To,rI aU x0.aC.aI,rJ aS x0.aC.aB,rI bP x0.aP,rJ bD x0.aO] (fun y (_:Unit)=>[.bool y]) (fun y _=>[]):=by
 refine ct (S:=Unit) (bx fun _ _=>rfl) Tryz.func115 rfl rfl ?_
 repeat' first
  | (apply Dk.fe; repeat' first | exact rfl | (refine @id.{0} _ ?_; constructor))
  | intro _
  | exact rfl
  | (refine @id.{0} _ ?_; constructor)
  | apply agA
  | apply afM
  | exact ()
theorem ZC {x0:aK} {aW bC aU aS bP bD:Value} {x1:aK} {dK dP cY cR eC dS:Value}:Ct Tryz.prog 206 true (iB x0 x1) [.agg #[.int .i64 (x0.aC.aD),aW,bC,aU,aS,bP,bD],.agg #[.int .i64 (x1.aC.aD),dK,dP,cY,cR,eC,dS]] [rI aW x0.aC.aG,rI bC x0.aC.To,rI aU x0.aC.aI,rJ aS x0.aC.aB,rI bP x0.aP,rJ bD x0.aO,rI dK x1.aC.aG,rI dP x1.aC.To,rI cY x1.aC.aI,rJ cR x1.aC.aB,rI eC x1.aP,rJ dS x1.aO] (fun y (_:Unit)=>[.bool y]) (fun y _=>[]):=by
 refine ct (S:=Unit) (bx fun _ _=>rfl) Tryz.func206 rfl rfl ?_
 repeat' first
  | (apply Dk.fe; repeat' first | exact rfl | (refine @id.{0} _ ?_; constructor))
  | intro _
  | exact rfl
  | (refine @id.{0} _ ?_; constructor)
  | apply agO
  | apply c91
  | exact ()
theorem agJ {x0:aK} {aW bC aU aS bP bD:Value} {x1:aK} {dK dP cY cR eC dS:Value} {x2:Bool} {x3:Int}:Ct Tryz.prog 208 false (pM x0 x1 x2 x3) [.agg #[.int .i64 (x0.aC.aD),aW,bC,aU,aS,bP,bD],.agg #[.int .i64 (x1.aC.aD),dK,dP,cY,cR,eC,dS],.bool (x2),.int .i64 (x3)] [rI aW x0.aC.aG,rI bC x0.aC.To,rI aU x0.aC.aI,rJ aS x0.aC.aB,rI bP x0.aP,rJ bD x0.aO,rI dK x1.aC.aG,rI dP x1.aC.To,rI cY x1.aC.aI,rJ cR x1.aC.aB,rI eC x1.aP,rJ dS x1.aO] (fun y (v:Value)=>[v]) (fun y v=>[.rd false (aV (aV (aV (aN .i64)))) v y]):=by
 refine ct (S:=Unit) zR Tryz.func208 rfl rfl ?_
 repeat' first
  | (apply Dk.fe; repeat' first | exact rfl | (refine @id.{0} _ ?_; constructor))
  | intro _
  | exact rfl
  | (refine @id.{0} _ ?_; constructor)
  | apply afO
  | apply agy
  | exact ()
end Go.Proofs.YtcnehblmgfbfoaaGreat
