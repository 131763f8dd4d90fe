/- Walks by the calculus D. No condition beside those that each theorem names. -/
import Derived.Test.YtcnehblmgfbfoaaGreatDp
import Derived.Test.YtcnehblmgfbfoaaGreatDi
import Derived.Test.YtcnehblmgfbfoaaGreatMo
import Derived.Test.YtcnehblmgfbfoaaGreatDs
import Derived.Test.YtcnehblmgfbfoaaGreatWa
import Derived.Test.YtcnehblmgfbfoaaGreatWb
import Derived.Test.YtcnehblmgfbfoaaGreatWc
import Derived.Test.YtcnehblmgfbfoaaGreatWg
import Derived.Test.YtcnehblmgfbfoaaGreatWj
import Derived.Test.YtcnehblmgfbfoaaGreatWz
namespace Go.Proofs.YtcnehblmgfbfoaaGreat
open Go Go.Li Go.Dk
set_option linter.unusedVariables false
set_option maxHeartbeats 16000000
set_option maxRecDepth 100000
theorem agC {x0:aL} {cX:Nat} {bN:Value} {x1:Int}:Ct Tryz.prog 127 false (mY x0 x1) [.pointer (some (⟨cX,0,none⟩)),.int .i64 (x1)] [.row cX [bN,.int .i64 (x0.At),.int .u64 (x0.aj)] 194,.rd false (aV (aN .u8)) bN x0.Code] (fun y (v:Value×Value×Value×Value×Value×Value×Value×Value×Value×Value×Value×Value×Value)=>[.agg #[.int .i64 y.1.aF.aC.aD,v.1,v.2.1,v.2.2.1,v.2.2.2.1,v.2.2.2.2.1,v.2.2.2.2.2.1,.int .i64 y.1.aM.aC.aD,v.2.2.2.2.2.2.1,v.2.2.2.2.2.2.2.1,v.2.2.2.2.2.2.2.2.1,v.2.2.2.2.2.2.2.2.2.1,v.2.2.2.2.2.2.2.2.2.2.1,v.2.2.2.2.2.2.2.2.2.2.2.1,v.2.2.2.2.2.2.2.2.2.2.2.2]]) (fun y v=>[rI v.1 y.1.aF.aC.aG,rI v.2.1 y.1.aF.aC.To,rI v.2.2.1 y.1.aF.aC.aI,rJ v.2.2.2.1 y.1.aF.aC.aB,rI v.2.2.2.2.1 y.1.aF.aP,rJ v.2.2.2.2.2.1 y.1.aF.aO,rI v.2.2.2.2.2.2.1 y.1.aM.aC.aG,rI v.2.2.2.2.2.2.2.1 y.1.aM.aC.To,rI v.2.2.2.2.2.2.2.2.1 y.1.aM.aC.aI,rJ v.2.2.2.2.2.2.2.2.2.1 y.1.aM.aC.aB,rI v.2.2.2.2.2.2.2.2.2.2.1 y.1.aM.aP,rJ v.2.2.2.2.2.2.2.2.2.2.2.1 y.1.aM.aO,rJ v.2.2.2.2.2.2.2.2.2.2.2.2 y.1.cD,.row cX [bN,.int .i64 y.2.At,.int .u64 y.2.aj] 194]):=by
 refine ct (S:=Unit) zR Tryz.func127 rfl rfl ?_
 repeat' first
  | (apply Dk.fe; repeat' first | exact rfl | (refine @id.{0} _ ?_; constructor))
  | (intro (v:Value×Value×Value×Value×Value×Value×Value×Value×Value×Value×Value×Value×Value); obtain ⟨_,_,_,_,_,_,_,_,_,_,_,_,_⟩:=v; dsimp only)
  | intro _
  | exact rfl
  | (refine Dk.gjn 18 ?_; apply Dk.Tf (t:=18) (k:=1018) (V:=Value×Value×Value×Value×Value×Value) (A:=Nat) _ (fun a (s:Int×(List Int)×(List Int)×(List Int)×(List (List Int))×(List Int)×(List (List Int))) v=>[.row a [.int .i64 (s.1),v.1,v.2.1,v.2.2.1,v.2.2.2.1,v.2.2.2.2.1,v.2.2.2.2.2] 65,rI v.1 s.2.1,rI v.2.1 s.2.2.1,rI v.2.2.1 s.2.2.2.1,rJ v.2.2.2.1 s.2.2.2.2.1,rI v.2.2.2.2.1 s.2.2.2.2.2.1,rJ v.2.2.2.2.2 s.2.2.2.2.2.2]) (fun a s v=>[(6,.pointer (some ⟨a,0,none⟩))]) (_,_,_,_,_,_) [(0,_),(4,_),(5,_)])
  | (refine Dk.gje 1018 ?_; apply Dk.Wx)
  | (refine Dk.gjn 25 ?_; apply Dk.Tf (t:=25) (k:=1025) (V:=Value×Value×Value×Value×Value×Value×Value×Value×Value×Value×Value×Value×Value) (A:=Nat) _ (fun a (s:Int×Int×Int×(List Int)×(List Int)×(List Int)×(List (List Int))×(List Int)×(List (List Int))×Int×(List Int)×(List Int)×(List Int)×(List (List Int))×(List Int)×(List (List Int))×(List (List Int))) v=>[.row cX [bN,.int .i64 (s.1),.int .u64 (s.2.1)] 194,.row a [.int .i64 (s.2.2.1),v.1,v.2.1,v.2.2.1,v.2.2.2.1,v.2.2.2.2.1,v.2.2.2.2.2.1,.int .i64 (s.2.2.2.2.2.2.2.2.2.1),v.2.2.2.2.2.2.1,v.2.2.2.2.2.2.2.1,v.2.2.2.2.2.2.2.2.1,v.2.2.2.2.2.2.2.2.2.1,v.2.2.2.2.2.2.2.2.2.2.1,v.2.2.2.2.2.2.2.2.2.2.2.1,v.2.2.2.2.2.2.2.2.2.2.2.2] 84,rI v.1 s.2.2.2.1,rI v.2.1 s.2.2.2.2.1,rI v.2.2.1 s.2.2.2.2.2.1,rJ v.2.2.2.1 s.2.2.2.2.2.2.1,rI v.2.2.2.2.1 s.2.2.2.2.2.2.2.1,rJ v.2.2.2.2.2.1 s.2.2.2.2.2.2.2.2.1,rI v.2.2.2.2.2.2.1 s.2.2.2.2.2.2.2.2.2.2.1,rI v.2.2.2.2.2.2.2.1 s.2.2.2.2.2.2.2.2.2.2.2.1,rI v.2.2.2.2.2.2.2.2.1 s.2.2.2.2.2.2.2.2.2.2.2.2.1,rJ v.2.2.2.2.2.2.2.2.2.1 s.2.2.2.2.2.2.2.2.2.2.2.2.2.1,rI v.2.2.2.2.2.2.2.2.2.2.1 s.2.2.2.2.2.2.2.2.2.2.2.2.2.2.1,rJ v.2.2.2.2.2.2.2.2.2.2.2.1 s.2.2.2.2.2.2.2.2.2.2.2.2.2.2.2.1,rJ v.2.2.2.2.2.2.2.2.2.2.2.2 s.2.2.2.2.2.2.2.2.2.2.2.2.2.2.2.2]) (fun a s v=>[(7,.pointer (some ⟨a,0,none⟩))]) (_,_,_,_,_,_,_,_,_,_,_,_,_) [(0,_),(4,_)])
  | (refine Dk.gje 1025 ?_; apply Dk.Wx)
  | (apply Dk.rwU (t:=60); exact rfl)
  | apply Dk.D.rV (d:=94)
  | apply Dk.AD.rV (d:=94)
  | apply Dk.ui (d:=100)
  | apply Dk.stO (y0:=.tmp 100)
  | (refine @id.{0} _ ?_; constructor)
  | apply Dk.any (id:=11) 4 [] [] [[],[],[],[2]] (by kernel_rfl)
  | apply Dk.ru (id:=16) [Dk.aq.row _ _ 194] 19 [] [[],[],[],[],[],[],[],[],[],[],[],[],[21],[],[12],[],[14],[],[]] [[],[0],[],[0,1,2],[0,1,2,3],[],[],[6],[],[6,7,8],[6,7,8,9],[6,7,8,9,10],[5,6,7,8,9,10,11],[],[5,6,7,8,9,10,11,12,13],[],[5,6,7,8,9,10,11,13,14,15],[5,6,7,8,9,10,11,13,15,16],[5,6,7,8,9,10,11,13,15,16,17]] (by kernel_rfl)
  | apply agI
  | apply Al
  | apply ZC
  | apply afN
  | apply agJ
  | apply afI
  | apply agu
  | apply GJ
  | exact ()
end Go.Proofs.YtcnehblmgfbfoaaGreat
