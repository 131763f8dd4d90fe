/- Walks by the calculus D. No condition beside those that each theorem names. -/
import Derived.Test.YtcnehblmgfbfoaaGreatDp
import Derived.Test.YtcnehblmgfbfoaaGreatDi
import Derived.Test.YtcnehblmgfbfoaaGreatMo
import Derived.Test.YtcnehblmgfbfoaaGreatDs
import Derived.Test.YtcnehblmgfbfoaaGreatWa
import Derived.Test.YtcnehblmgfbfoaaGreatWb
import Derived.Test.YtcnehblmgfbfoaaGreatWc
import Derived.Test.YtcnehblmgfbfoaaGreatWd
import Derived.Test.YtcnehblmgfbfoaaGreatWe
import Derived.Test.YtcnehblmgfbfoaaGreatWf
import Derived.Test.YtcnehblmgfbfoaaGreatWg
import Derived.Test.YtcnehblmgfbfoaaGreatWh
import Derived.Test.YtcnehblmgfbfoaaGreatWi
import Derived.Test.YtcnehblmgfbfoaaGreatWj
import Derived.Test.YtcnehblmgfbfoaaGreatWk
import Derived.Test.YtcnehblmgfbfoaaGreatWl
namespace Go.Proofs.YtcnehblmgfbfoaaGreat
open Go Go.Li Go.Dk
set_option linter.unusedVariables false
set_option maxHeartbeats 16000000
set_option maxRecDepth 100000
theorem WI {x0:aM} {cJ:Nat} {bW:Value} {x1:aD} {aT bC aQ aP:Value} {x2:Int} {x3:Int}:Ct Tryz.prog 80 true (iK x0 x1 x2 x3) [.pointer (some (⟨cJ,0,none⟩)),.agg #[.int .i64 (x1.aA),aT,bC,aQ,aP],.int .i64 (x2),.int .i64 (x3)] [.row cJ [bW,.int .i64 (x0.At),.int .u64 (x0.av)] 194,.rd false (bE (aL .u8)) bW x0.Code,rI aT x1.aB,rI bC x1.To,rI aQ x1.aF,rJ aP x1.aC] (fun y (v:Value×Value×Value×Value×Value×Value×Value×Value×Value×Value)=>[.agg #[.int .i64 y.1.aG.aA,v.1,v.2.1,v.2.2.1,v.2.2.2.1,.int .i64 y.1.aH.aA,v.2.2.2.2.1,v.2.2.2.2.2.1,v.2.2.2.2.2.2.1,v.2.2.2.2.2.2.2.1,v.2.2.2.2.2.2.2.2.1,v.2.2.2.2.2.2.2.2.2]]) (fun y v=>[.own (aI 2 (aL .i64)) v.1 y.1.aG.aB,.own (aI 2 (aL .i64)) v.2.1 y.1.aG.To,.own (aI 2 (aL .i64)) v.2.2.1 y.1.aG.aF,.own (aI 22 (aI 2 (aL .i64))) v.2.2.2.1 y.1.aG.aC,.own (aI 2 (aL .i64)) v.2.2.2.2.1 y.1.aH.aB,.own (aI 2 (aL .i64)) v.2.2.2.2.2.1 y.1.aH.To,.own (aI 2 (aL .i64)) v.2.2.2.2.2.2.1 y.1.aH.aF,.own (aI 22 (aI 2 (aL .i64))) v.2.2.2.2.2.2.2.1 y.1.aH.aC,.own (aI 2 (aL .i64)) v.2.2.2.2.2.2.2.2.1 y.1.aA,.own (aI 2 (aL .i64)) v.2.2.2.2.2.2.2.2.2 y.1.ae,.row cJ [bW,.int .i64 y.2.At,.int .u64 y.2.av] 194]):=by
 refine ct (S:=Unit) (cf fun _ _=>rfl) Tryz.func80 rfl rfl ?_
 repeat' first
  | (apply Dk.fe; repeat' first | exact rfl | (refine @id.{0} _ ?_; constructor))
  | intro _
  | exact rfl
  | apply Dk.RZ (t:=72)
  | apply Dk.Wh (t:=72)
  | apply Dk.RP (n:=12)
  | apply Dk.Oz (n:=12)
  | apply Dk.Mq (n:=12)
  | (apply Dk.OB (t:=38); exact rfl)
  | (refine @id.{0} _ ?_; constructor)
  | apply Dk.tf (id:=7) [Dk.ao.row _ _ 194] 6 [] [[],[],[],[],[],[8]] [[],[],[],[],[3],[2,3,4]] (by kernel_rfl)
  | apply Pg
  | apply Ud
  | apply Up
  | apply AX
  | apply aaD
  | apply Ul
  | exact ()
theorem WJ {x0:aM} {cJ:Nat} {bW:Value}:Ct Tryz.prog 83 false (gF x0) [.pointer (some (⟨cJ,0,none⟩))] [.row cJ [bW,.int .i64 (x0.At),.int .u64 (x0.av)] 194,.rd false (bE (aL .u8)) bW x0.Code] (fun y (v:Value×Value×Value×Value×Value×Value×Value×Value×Value×Value)=>[.agg #[.int .i64 y.1.aG.aA,v.1,v.2.1,v.2.2.1,v.2.2.2.1,.int .i64 y.1.aH.aA,v.2.2.2.2.1,v.2.2.2.2.2.1,v.2.2.2.2.2.2.1,v.2.2.2.2.2.2.2.1,v.2.2.2.2.2.2.2.2.1,v.2.2.2.2.2.2.2.2.2]]) (fun y v=>[rI v.1 y.1.aG.aB,rI v.2.1 y.1.aG.To,rI v.2.2.1 y.1.aG.aF,rJ v.2.2.2.1 y.1.aG.aC,rI v.2.2.2.2.1 y.1.aH.aB,rI v.2.2.2.2.2.1 y.1.aH.To,rI v.2.2.2.2.2.2.1 y.1.aH.aF,rJ v.2.2.2.2.2.2.2.1 y.1.aH.aC,rI v.2.2.2.2.2.2.2.2.1 y.1.aA,rI v.2.2.2.2.2.2.2.2.2 y.1.ae,.row cJ [bW,.int .i64 y.2.At,.int .u64 y.2.av] 194]):=by
 refine ct (S:=Unit) Hk Tryz.func83 rfl rfl ?_
 repeat' first
  | (apply Dk.fe; repeat' first | exact rfl | (refine @id.{0} _ ?_; constructor))
  | (intro (v:Value×Value×Value×Value×Value×Value×Value×Value×Value×Value); obtain ⟨_,_,_,_,_,_,_,_,_,_⟩:=v; dsimp only)
  | intro _
  | exact rfl
  | (refine @id.{0} _ ?_; constructor)
  | apply Dk.tf (id:=8) [Dk.ao.row _ _ 194] 12 [] [[],[],[],[],[14],[],[],[],[],[],[],[4]] [[],[0],[],[],[2,3],[],[],[6],[6,7],[6,7,8],[6,7,8,9],[2,3,4,5,6,7,8,9,10]] (by kernel_rfl)
  | apply Pg
  | apply WI
  | apply AX
  | apply aar
  | exact ()
theorem c23 {x0:(List Int)} {cC:Value}:Ct Tryz.prog 23 false (fO x0) [cC] [.rd false (bE (aL .u8)) cC x0] (fun y (v:Value×Value×Value×Value×Value×Value×Value×Value×Value×Value×Value×Value×Value×Value×Value×Value×Value×Value×Value×Value)=>[.agg #[.int .i64 y.1.aG.aA,v.1,v.2.1,v.2.2.1,v.2.2.2.1,.int .i64 y.1.aH.aA,v.2.2.2.2.1,v.2.2.2.2.2.1,v.2.2.2.2.2.2.1,v.2.2.2.2.2.2.2.1,v.2.2.2.2.2.2.2.2.1,v.2.2.2.2.2.2.2.2.2.1],.agg #[.int .i64 y.2.aG.aA,v.2.2.2.2.2.2.2.2.2.2.1,v.2.2.2.2.2.2.2.2.2.2.2.1,v.2.2.2.2.2.2.2.2.2.2.2.2.1,v.2.2.2.2.2.2.2.2.2.2.2.2.2.1,.int .i64 y.2.aH.aA,v.2.2.2.2.2.2.2.2.2.2.2.2.2.2.1,v.2.2.2.2.2.2.2.2.2.2.2.2.2.2.2.1,v.2.2.2.2.2.2.2.2.2.2.2.2.2.2.2.2.1,v.2.2.2.2.2.2.2.2.2.2.2.2.2.2.2.2.2.1,v.2.2.2.2.2.2.2.2.2.2.2.2.2.2.2.2.2.2.1,v.2.2.2.2.2.2.2.2.2.2.2.2.2.2.2.2.2.2.2]]) (fun y v=>[rI v.1 y.1.aG.aB,rI v.2.1 y.1.aG.To,rI v.2.2.1 y.1.aG.aF,rJ v.2.2.2.1 y.1.aG.aC,rI v.2.2.2.2.1 y.1.aH.aB,rI v.2.2.2.2.2.1 y.1.aH.To,rI v.2.2.2.2.2.2.1 y.1.aH.aF,rJ v.2.2.2.2.2.2.2.1 y.1.aH.aC,rI v.2.2.2.2.2.2.2.2.1 y.1.aA,rI v.2.2.2.2.2.2.2.2.2.1 y.1.ae,rI v.2.2.2.2.2.2.2.2.2.2.1 y.2.aG.aB,rI v.2.2.2.2.2.2.2.2.2.2.2.1 y.2.aG.To,rI v.2.2.2.2.2.2.2.2.2.2.2.2.1 y.2.aG.aF,rJ v.2.2.2.2.2.2.2.2.2.2.2.2.2.1 y.2.aG.aC,rI v.2.2.2.2.2.2.2.2.2.2.2.2.2.2.1 y.2.aH.aB,rI v.2.2.2.2.2.2.2.2.2.2.2.2.2.2.2.1 y.2.aH.To,rI v.2.2.2.2.2.2.2.2.2.2.2.2.2.2.2.2.1 y.2.aH.aF,rJ v.2.2.2.2.2.2.2.2.2.2.2.2.2.2.2.2.2.1 y.2.aH.aC,rI v.2.2.2.2.2.2.2.2.2.2.2.2.2.2.2.2.2.2.1 y.2.aA,rI v.2.2.2.2.2.2.2.2.2.2.2.2.2.2.2.2.2.2.2 y.2.ae]):=by
 refine ct (S:=Unit) Hk Tryz.func23 rfl rfl ?_
 repeat' first
  | (apply Dk.fe; repeat' first | exact rfl | (refine @id.{0} _ ?_; constructor))
  | intro _
  | exact rfl
  | apply Dk.AD.Vs (f:=83)
  | apply Dk.AD.EM (f:=83)
  | apply Dk.AD.Uq (f:=83)
  | (refine @id.{0} _ ?_; constructor)
  | apply Dk.tf (id:=4) [Dk.ao.row _ _ 194] 3 [] [[],[],[5]] [[],[],[1]] (by kernel_rfl)
  | apply Dk.tf (id:=5) [Dk.ao.row _ _ 194] 5 [] [[],[],[],[],[7]] [[],[],[],[2],[1,2,3]] (by kernel_rfl)
  | apply WD
  | apply Pg
  | apply WI
  | apply AX
  | apply WJ
  | exact ()
theorem c24 {x0:aN} {bF bK aY aU bG bL aZ aV bQ bS:Value} {x1:aN} {bT bY bN bH bU bZ bP bI cD cE:Value}:Ct Tryz.prog 24 true (hY x0 x1) [.agg #[.int .i64 (x0.aG.aA),bF,bK,aY,aU,.int .i64 (x0.aH.aA),bG,bL,aZ,aV,bQ,bS],.agg #[.int .i64 (x1.aG.aA),bT,bY,bN,bH,.int .i64 (x1.aH.aA),bU,bZ,bP,bI,cD,cE]] [rI bF x0.aG.aB,rI bK x0.aG.To,rI aY x0.aG.aF,rJ aU x0.aG.aC,rI bG x0.aH.aB,rI bL x0.aH.To,rI aZ x0.aH.aF,rJ aV x0.aH.aC,rI bQ x0.aA,rI bS x0.ae,rI bT x1.aG.aB,rI bY x1.aG.To,rI bN x1.aG.aF,rJ bH x1.aG.aC,rI bU x1.aH.aB,rI bZ x1.aH.To,rI bP x1.aH.aF,rJ bI x1.aH.aC,rI cD x1.aA,rI cE x1.ae] (fun y (v:Value×Value×Value×Value×Value×Value×Value×Value×Value×Value)=>[.agg #[.int .i64 y.1.aG.aA,v.1,v.2.1,v.2.2.1,v.2.2.2.1,.int .i64 y.1.aH.aA,v.2.2.2.2.1,v.2.2.2.2.2.1,v.2.2.2.2.2.2.1,v.2.2.2.2.2.2.2.1,v.2.2.2.2.2.2.2.2.1,v.2.2.2.2.2.2.2.2.2],.int .i64 y.2]) (fun y v=>[.own (aI 2 (aL .i64)) v.1 y.1.aG.aB,.own (aI 2 (aL .i64)) v.2.1 y.1.aG.To,.own (aI 2 (aL .i64)) v.2.2.1 y.1.aG.aF,.own (aI 22 (aI 2 (aL .i64))) v.2.2.2.1 y.1.aG.aC,.own (aI 2 (aL .i64)) v.2.2.2.2.1 y.1.aH.aB,.own (aI 2 (aL .i64)) v.2.2.2.2.2.1 y.1.aH.To,.own (aI 2 (aL .i64)) v.2.2.2.2.2.2.1 y.1.aH.aF,.own (aI 22 (aI 2 (aL .i64))) v.2.2.2.2.2.2.2.1 y.1.aH.aC,.own (aI 2 (aL .i64)) v.2.2.2.2.2.2.2.2.1 y.1.aA,.own (aI 2 (aL .i64)) v.2.2.2.2.2.2.2.2.2 y.1.ae]):=by
 refine ct (S:=Unit) (cf fun _ _=>rfl) Tryz.func24 rfl rfl ?_
 repeat' first
  | (apply Dk.fe; repeat' first | exact rfl | (refine @id.{0} _ ?_; constructor))
  | intro _
  | exact rfl
  | (refine @id.{0} _ ?_; constructor)
  | apply Dk.dg 0 (V:=Unit) (A:=Value) _ (fun a (s:Int×(List Int)) v=>[.own (aI 2 (aL .i64)) a s.2]) (fun a s v=>[(8,a),(38,.int .i64 (s.1))]) () [(2,_),(3,_),(4,_),(6,_),(9,_),(37,_)]
  | apply Dk.dg 2 (V:=Unit) (A:=Value) _ (fun a (s:Int×(List Int)) v=>[.own (aI 2 (aL .i64)) a s.2]) (fun a s v=>[(9,a),(61,.int .i64 (s.1))]) () [(2,_),(3,_),(4,_),(6,_),(8,_),(60,_)]
  | apply Dk.any (id:=8) 5 [] [] [[],[0],[0,1],[],[3]] (by kernel_rfl)
  | apply Dk.any (id:=12) 15 [0,1] [] [[],[],[],[],[2,3],[2,3,4],[],[6],[6,7],[2,3,4,5,6,7,8],[],[10],[],[10,11,12],[10,11,12,13]] (by kernel_rfl)
  | apply Dk.any (id:=17) 14 [0,1] [] [[],[],[],[],[2,3],[2,3,4],[],[6],[2,3,4,5,6,7],[],[9],[],[9,10,11],[9,10,11,12]] (by kernel_rfl)
  | apply Uk
  | apply Ug
  | apply Uh
  | apply H5
  | apply xE
  | apply Ia
  | exact ()
theorem c29 {x0:aN} {bF bK aY aU bG bL aZ aV bQ bS:Value} {x1:aN} {bT bY bN bH bU bZ bP bI cD cE:Value}:Ct Tryz.prog 29 true (eH x0 x1) [.agg #[.int .i64 (x0.aG.aA),bF,bK,aY,aU,.int .i64 (x0.aH.aA),bG,bL,aZ,aV,bQ,bS],.agg #[.int .i64 (x1.aG.aA),bT,bY,bN,bH,.int .i64 (x1.aH.aA),bU,bZ,bP,bI,cD,cE]] [rI bF x0.aG.aB,rI bK x0.aG.To,rI aY x0.aG.aF,rJ aU x0.aG.aC,rI bG x0.aH.aB,rI bL x0.aH.To,rI aZ x0.aH.aF,rJ aV x0.aH.aC,rI bQ x0.aA,rI bS x0.ae,rI bT x1.aG.aB,rI bY x1.aG.To,rI bN x1.aG.aF,rJ bH x1.aG.aC,rI bU x1.aH.aB,rI bZ x1.aH.To,rI bP x1.aH.aF,rJ bI x1.aH.aC,rI cD x1.aA,rI cE x1.ae] (fun y (v:Value×Value×Value×Value×Value×Value×Value×Value×Value×Value)=>[.agg #[.int .i64 y.1.aG.aA,v.1,v.2.1,v.2.2.1,v.2.2.2.1,.int .i64 y.1.aH.aA,v.2.2.2.2.1,v.2.2.2.2.2.1,v.2.2.2.2.2.2.1,v.2.2.2.2.2.2.2.1,v.2.2.2.2.2.2.2.2.1,v.2.2.2.2.2.2.2.2.2],.int .i64 y.2]) (fun y v=>[.own (aI 2 (aL .i64)) v.1 y.1.aG.aB,.own (aI 2 (aL .i64)) v.2.1 y.1.aG.To,.own (aI 2 (aL .i64)) v.2.2.1 y.1.aG.aF,.own (aI 22 (aI 2 (aL .i64))) v.2.2.2.1 y.1.aG.aC,.own (aI 2 (aL .i64)) v.2.2.2.2.1 y.1.aH.aB,.own (aI 2 (aL .i64)) v.2.2.2.2.2.1 y.1.aH.To,.own (aI 2 (aL .i64)) v.2.2.2.2.2.2.1 y.1.aH.aF,.own (aI 22 (aI 2 (aL .i64))) v.2.2.2.2.2.2.2.1 y.1.aH.aC,.own (aI 2 (aL .i64)) v.2.2.2.2.2.2.2.2.1 y.1.aA,.own (aI 2 (aL .i64)) v.2.2.2.2.2.2.2.2.2 y.1.ae]):=by
 refine ct (S:=Unit) (cf fun _ _=>rfl) Tryz.func29 rfl rfl ?_
 repeat' first
  | (apply Dk.fe; repeat' first | exact rfl | (refine @id.{0} _ ?_; constructor))
  | intro _
  | exact rfl
  | (refine @id.{0} _ ?_; constructor)
  | apply Uk
  | apply Ug
  | apply c99
  | exact ()
theorem c30 {x0:(List Int)} {cC:Value}:Ct Tryz.prog 30 false (eL x0) [cC] [.rd false (bE (aL .u8)) cC x0] (fun y (v:Value×Value×Value×Value×Value×Value×Value×Value×Value×Value×Value×Value×Value×Value×Value×Value×Value×Value×Value×Value)=>[.agg #[.int .i64 y.1.aG.aA,v.1,v.2.1,v.2.2.1,v.2.2.2.1,.int .i64 y.1.aH.aA,v.2.2.2.2.1,v.2.2.2.2.2.1,v.2.2.2.2.2.2.1,v.2.2.2.2.2.2.2.1,v.2.2.2.2.2.2.2.2.1,v.2.2.2.2.2.2.2.2.2.1],.agg #[.int .i64 y.2.aG.aA,v.2.2.2.2.2.2.2.2.2.2.1,v.2.2.2.2.2.2.2.2.2.2.2.1,v.2.2.2.2.2.2.2.2.2.2.2.2.1,v.2.2.2.2.2.2.2.2.2.2.2.2.2.1,.int .i64 y.2.aH.aA,v.2.2.2.2.2.2.2.2.2.2.2.2.2.2.1,v.2.2.2.2.2.2.2.2.2.2.2.2.2.2.2.1,v.2.2.2.2.2.2.2.2.2.2.2.2.2.2.2.2.1,v.2.2.2.2.2.2.2.2.2.2.2.2.2.2.2.2.2.1,v.2.2.2.2.2.2.2.2.2.2.2.2.2.2.2.2.2.2.1,v.2.2.2.2.2.2.2.2.2.2.2.2.2.2.2.2.2.2.2]]) (fun y v=>[rI v.1 y.1.aG.aB,rI v.2.1 y.1.aG.To,rI v.2.2.1 y.1.aG.aF,rJ v.2.2.2.1 y.1.aG.aC,rI v.2.2.2.2.1 y.1.aH.aB,rI v.2.2.2.2.2.1 y.1.aH.To,rI v.2.2.2.2.2.2.1 y.1.aH.aF,rJ v.2.2.2.2.2.2.2.1 y.1.aH.aC,rI v.2.2.2.2.2.2.2.2.1 y.1.aA,rI v.2.2.2.2.2.2.2.2.2.1 y.1.ae,rI v.2.2.2.2.2.2.2.2.2.2.1 y.2.aG.aB,rI v.2.2.2.2.2.2.2.2.2.2.2.1 y.2.aG.To,rI v.2.2.2.2.2.2.2.2.2.2.2.2.1 y.2.aG.aF,rJ v.2.2.2.2.2.2.2.2.2.2.2.2.2.1 y.2.aG.aC,rI v.2.2.2.2.2.2.2.2.2.2.2.2.2.2.1 y.2.aH.aB,rI v.2.2.2.2.2.2.2.2.2.2.2.2.2.2.2.1 y.2.aH.To,rI v.2.2.2.2.2.2.2.2.2.2.2.2.2.2.2.2.1 y.2.aH.aF,rJ v.2.2.2.2.2.2.2.2.2.2.2.2.2.2.2.2.2.1 y.2.aH.aC,rI v.2.2.2.2.2.2.2.2.2.2.2.2.2.2.2.2.2.2.1 y.2.aA,rI v.2.2.2.2.2.2.2.2.2.2.2.2.2.2.2.2.2.2.2 y.2.ae]):=by
 refine ct (S:=Unit) Hk Tryz.func30 rfl rfl ?_
 repeat' first
  | (apply Dk.fe; repeat' first | exact rfl | (refine @id.{0} _ ?_; constructor))
  | intro _
  | exact rfl
  | (apply Dk.OB (t:=20); exact rfl)
  | apply Dk.AD.Vs (f:=83)
  | apply Dk.AD.EM (f:=83)
  | apply Dk.AD.Uq (f:=83)
  | apply Dk.RZ (t:=72)
  | apply Dk.Wh (t:=72)
  | apply Dk.RP (n:=12)
  | apply Dk.Oz (n:=12)
  | apply Dk.Mq (n:=12)
  | (refine @id.{0} _ ?_; constructor)
  | apply Dk.tf (id:=4) [Dk.ao.row _ _ 194] 3 [] [[],[],[5]] [[],[],[1]] (by kernel_rfl)
  | apply Dk.any (id:=10) 4 [] [] [[],[],[1],[1,2]] (by kernel_rfl)
  | apply Dk.U5 (id:=9) [0,1,2,3,4] 5 [6,7] [8,9] 7 (pU C3) 194 (by kernel_rfl)
  | apply WD
  | apply WJ
  | apply Ui
  | apply AX
  | apply Pg
  | apply Ud
  | apply Up
  | apply Ul
  | exact ()
theorem c31 {x0:aN} {bF bK aY aU bG bL aZ aV bQ bS:Value} {x1:aN} {bT bY bN bH bU bZ bP bI cD cE:Value}:Ct Tryz.prog 31 true (gK x0 x1) [.agg #[.int .i64 (x0.aG.aA),bF,bK,aY,aU,.int .i64 (x0.aH.aA),bG,bL,aZ,aV,bQ,bS],.agg #[.int .i64 (x1.aG.aA),bT,bY,bN,bH,.int .i64 (x1.aH.aA),bU,bZ,bP,bI,cD,cE]] [rI bF x0.aG.aB,rI bK x0.aG.To,rI aY x0.aG.aF,rJ aU x0.aG.aC,rI bG x0.aH.aB,rI bL x0.aH.To,rI aZ x0.aH.aF,rJ aV x0.aH.aC,rI bQ x0.aA,rI bS x0.ae,rI bT x1.aG.aB,rI bY x1.aG.To,rI bN x1.aG.aF,rJ bH x1.aG.aC,rI bU x1.aH.aB,rI bZ x1.aH.To,rI bP x1.aH.aF,rJ bI x1.aH.aC,rI cD x1.aA,rI cE x1.ae] (fun y (v:Value×Value×Value×Value×Value×Value×Value×Value×Value×Value)=>[.agg #[.int .i64 y.1.aG.aA,v.1,v.2.1,v.2.2.1,v.2.2.2.1,.int .i64 y.1.aH.aA,v.2.2.2.2.1,v.2.2.2.2.2.1,v.2.2.2.2.2.2.1,v.2.2.2.2.2.2.2.1,v.2.2.2.2.2.2.2.2.1,v.2.2.2.2.2.2.2.2.2],.int .i64 y.2]) (fun y v=>[.own (aI 2 (aL .i64)) v.1 y.1.aG.aB,.own (aI 2 (aL .i64)) v.2.1 y.1.aG.To,.own (aI 2 (aL .i64)) v.2.2.1 y.1.aG.aF,.own (aI 22 (aI 2 (aL .i64))) v.2.2.2.1 y.1.aG.aC,.own (aI 2 (aL .i64)) v.2.2.2.2.1 y.1.aH.aB,.own (aI 2 (aL .i64)) v.2.2.2.2.2.1 y.1.aH.To,.own (aI 2 (aL .i64)) v.2.2.2.2.2.2.1 y.1.aH.aF,.own (aI 22 (aI 2 (aL .i64))) v.2.2.2.2.2.2.2.1 y.1.aH.aC,.own (aI 2 (aL .i64)) v.2.2.2.2.2.2.2.2.1 y.1.aA,.own (aI 2 (aL .i64)) v.2.2.2.2.2.2.2.2.2 y.1.ae]):=by
 refine ct (S:=Unit) (cf fun _ _=>rfl) Tryz.func31 rfl rfl ?_
 repeat' first
  | (apply Dk.fe; repeat' first | exact rfl | (refine @id.{0} _ ?_; constructor))
  | intro _
  | exact rfl
  | apply Dk.AD.Ds (d:=32)
  | apply Dk.AD.Ds (d:=38)
  | (refine @id.{0} _ ?_; constructor)
  | apply Dk.any (id:=8) 13 [] [[],[],[],[],[],[],[3],[],[],[],[],[],[9]] [[],[],[1],[1,2],[],[4],[1,2,3,4,5],[],[7],[1,2,4,5,6,7,8],[],[10],[1,2,4,5,6,7,8,9,10,11]] (by kernel_rfl)
  | apply Uk
  | apply Ug
  | apply aav
  | apply H5
  | apply Ia
  | exact ()
theorem c5 {x0:(List Int)} {cC:Value}:Ct Tryz.prog 5 true (jJ x0) [cC] [.rd false (bE (aL .u8)) cC x0] (fun y (_:Unit)=>[.bool y]) (fun y _=>[]):=by
 refine ct (S:=Unit) (cf fun _ _=>rfl) Tryz.func5 rfl rfl ?_
 repeat' first
  | (apply Dk.fe; repeat' first | exact rfl | (refine @id.{0} _ ?_; constructor))
  | intro _
  | exact rfl
  | (refine Dk.gjn 57 ?_; apply Dk.join (t:=57) (k:=1057) (V:=Unit) (fun (s:Unit) v=>[]) (fun s v=>[]) () [(0,_)])
  | (refine Dk.gje 1057 ?_; apply Dk.Xt)
  | apply Dk.V9 (t:=22)
  | (refine @id.{0} _ ?_; constructor)
  | (apply Dk.XD (id:=25) (k:=29); exact rfl; kernel_rfl)
  | with_reducible refine Dk.FS.bt rfl ?_
  | with_reducible refine Dk.FS.bf rfl ?_
  | with_reducible apply Dk.FS.cd
  | ((with_reducible apply Dk.FS.done (k:=0)); kernel_rfl)
  | ((with_reducible apply Dk.FS.at 28 0); exact rfl)
  | ((with_reducible apply Dk.FS.at 27 1); exact rfl)
  | ((with_reducible apply Dk.FS.at 26 2); exact rfl)
  | ((with_reducible apply Dk.FS.at 25 3); exact rfl)
  | ((with_reducible apply Dk.FS.at 24 4); exact rfl)
  | ((with_reducible apply Dk.FS.at 23 5); exact rfl)
  | ((with_reducible apply Dk.FS.at 22 6); exact rfl)
  | ((with_reducible apply Dk.FS.at 21 7); exact rfl)
  | ((with_reducible apply Dk.FS.at 20 8); exact rfl)
  | ((with_reducible apply Dk.FS.at 19 9); exact rfl)
  | ((with_reducible apply Dk.FS.at 18 10); exact rfl)
  | ((with_reducible apply Dk.FS.at 17 11); exact rfl)
  | ((with_reducible apply Dk.FS.at 16 12); exact rfl)
  | ((with_reducible apply Dk.FS.at 15 13); exact rfl)
  | ((with_reducible apply Dk.FS.at 14 14); exact rfl)
  | ((with_reducible apply Dk.FS.at 13 15); exact rfl)
  | ((with_reducible apply Dk.FS.at 12 16); exact rfl)
  | ((with_reducible apply Dk.FS.at 11 17); exact rfl)
  | ((with_reducible apply Dk.FS.at 10 18); exact rfl)
  | ((with_reducible apply Dk.FS.at 9 19); exact rfl)
  | ((with_reducible apply Dk.FS.at 8 20); exact rfl)
  | ((with_reducible apply Dk.FS.at 7 21); exact rfl)
  | ((with_reducible apply Dk.FS.at 6 22); exact rfl)
  | ((with_reducible apply Dk.FS.at 5 23); exact rfl)
  | ((with_reducible apply Dk.FS.at 4 24); exact rfl)
  | ((with_reducible apply Dk.FS.at 3 25); exact rfl)
  | ((with_reducible apply Dk.FS.at 2 26); exact rfl)
  | ((with_reducible apply Dk.FS.at 1 27); exact rfl)
  | ((with_reducible apply Dk.FS.at 0 28); exact rfl)
  | ((with_reducible apply Dk.FQ.sk); exact rfl; kernel_rfl)
  | ((with_reducible apply Dk.FQ.lc); exact rfl; kernel_rfl; exact rfl)
  | ((with_reducible apply Dk.FQ.ls); exact rfl; kernel_rfl; exact rfl)
  | ((with_reducible apply Dk.FQ.cb); exact rfl; kernel_rfl; exact rfl)
  | ((with_reducible apply Dk.FQ.cl); exact rfl; kernel_rfl; exact rfl)
  | ((with_reducible apply Dk.FQ.sl); exact rfl; kernel_rfl; exact rfl; exact rfl)
  | ((with_reducible apply Dk.FQ.q); exact rfl; kernel_rfl)
  | apply c22
  | apply c23
  | apply c24
  | apply c25
  | apply c26
  | apply c27
  | apply c28
  | apply c29
  | apply c30
  | apply c31
  | apply c32
  | apply c33
  | apply c34
  | apply c35
  | apply Pf
  | exact ()
theorem nT {w:World} {x0:(List Int)} {cC:Value} {aaI:List Nat} (aaJ:(bE (aL .u8)).rep w.heap [cC] x0 aaI) {y:(Bool)} (hm:jJ x0=some y):Calls Tryz.prog 5 #[cC] w (fun e w'=>e = .returned (.bool y)∧ak [] w w'):=
 PJ c5 (.fact (PK aaJ) (.nil)) hm
end Go.Proofs.YtcnehblmgfbfoaaGreat
