/- Walks by the calculus D. No condition beside those that each theorem names. -/
import Derived.Test.YtbmchcnkbonmkaaGreatDi
import Derived.Test.YtbmchcnkbonmkaaGreatMo
import Derived.Test.YtbmchcnkbonmkaaGreatDp
import Derived.Test.YtbmchcnkbonmkaaGreatDs
import Derived.Test.YtbmchcnkbonmkaaGreatWa
import Derived.Test.YtbmchcnkbonmkaaGreatWb
import Derived.Test.YtbmchcnkbonmkaaGreatWc
import Derived.Test.YtbmchcnkbonmkaaGreatWd
import Derived.Test.YtbmchcnkbonmkaaGreatWf
import Derived.Test.YtbmchcnkbonmkaaGreatWi
import Derived.Test.YtbmchcnkbonmkaaGreatWj
import Derived.Test.YtbmchcnkbonmkaaGreatWk
import Derived.Test.YtbmchcnkbonmkaaGreatWl
namespace Go.Proofs.YtbmchcnkbonmkaaGreat
open Go Go.Li Go.Dk
set_option linter.unusedVariables false
set_option maxHeartbeats 16000000
set_option maxRecDepth 100000
theorem c17 {x0:aM} {cX:Nat} {cB:Value}:Ct Tryz.prog 17 false (mB x0) [.pointer (some (⟨cX,0,none⟩))] [.row cX [cB,.int .i64 (x0.At),.int .u64 (x0.bb)] 68,.rd false (bG (aL .u8)) cB x0.Code] (fun y (v:Value×Value×Value×Value×Value×Value×Value×Value×Value×Value)=>[.agg #[.int .i64 y.1.aE.aA,v.1,v.2.1,v.2.2.1,v.2.2.2.1,.int .i64 y.1.aF.aA,v.2.2.2.2.1,v.2.2.2.2.2.1,v.2.2.2.2.2.2.1,v.2.2.2.2.2.2.2.1,v.2.2.2.2.2.2.2.2.1,v.2.2.2.2.2.2.2.2.2]]) (fun y v=>[rI v.1 y.1.aE.aC,rI v.2.1 y.1.aE.To,rI v.2.2.1 y.1.aE.aH,rJ v.2.2.2.1 y.1.aE.aB,rI v.2.2.2.2.1 y.1.aF.aC,rI v.2.2.2.2.2.1 y.1.aF.To,rI v.2.2.2.2.2.2.1 y.1.aF.aH,rJ v.2.2.2.2.2.2.2.1 y.1.aF.aB,rI v.2.2.2.2.2.2.2.2.1 y.1.aA,rI v.2.2.2.2.2.2.2.2.2 y.1.ah,.row cX [cB,.int .i64 y.2.At,.int .u64 y.2.bb] 68]):=by
 refine ct (S:=Unit) yi Tryz.func17 rfl rfl ?_
 repeat' first
  | (apply Dk.fe; repeat' first | exact rfl | (refine @id.{0} _ ?_; constructor))
  | (intro (v:Value×Value×Value×Value×Value×Value×Value×Value×Value×Value); obtain ⟨_,_,_,_,_,_,_,_,_,_⟩:=v; dsimp only)
  | intro _
  | exact rfl
  | (refine @id.{0} _ ?_; constructor)
  | apply Dk.zW (id:=8) [Dk.av.row _ _ 68] 12 [] [[],[],[],[],[14],[],[],[],[],[],[],[4]] [[],[0],[],[],[2,3],[],[],[6],[7,6],[8,7,6],[9,8,7,6],[5,10,9,8,7,6,4,2,3]] (by kernel_rfl)
  | apply c34
  | apply c33
  | apply Hb
  | apply c36
  | exact ()
theorem c5 {x0:(List Int)} {cA:Value}:Ct Tryz.prog 5 false (kW x0) [cA] [.rd false (bG (aL .u8)) cA x0] (fun y (v:Value×Value×Value×Value×Value×Value×Value×Value×Value×Value)=>[.agg #[.int .i64 y.aE.aA,v.1,v.2.1,v.2.2.1,v.2.2.2.1,.int .i64 y.aF.aA,v.2.2.2.2.1,v.2.2.2.2.2.1,v.2.2.2.2.2.2.1,v.2.2.2.2.2.2.2.1,v.2.2.2.2.2.2.2.2.1,v.2.2.2.2.2.2.2.2.2]]) (fun y v=>[rI v.1 y.aE.aC,rI v.2.1 y.aE.To,rI v.2.2.1 y.aE.aH,rJ v.2.2.2.1 y.aE.aB,rI v.2.2.2.2.1 y.aF.aC,rI v.2.2.2.2.2.1 y.aF.To,rI v.2.2.2.2.2.2.1 y.aF.aH,rJ v.2.2.2.2.2.2.2.1 y.aF.aB,rI v.2.2.2.2.2.2.2.2.1 y.aA,rI v.2.2.2.2.2.2.2.2.2 y.ah]):=by
 refine ct (S:=Unit) yi Tryz.func5 rfl rfl ?_
 repeat' first
  | (apply Dk.fe; repeat' first | exact rfl | (refine @id.{0} _ ?_; constructor))
  | intro _
  | exact rfl
  | (refine @id.{0} _ ?_; constructor)
  | apply c18
  | apply c17
  | exact ()
theorem c13 {x0:aJ} {aS aV aQ aO aT aW aR aP bA bC:Value}:Ct Tryz.prog 13 false (mY x0) [.agg #[.int .i64 (x0.aE.aA),aS,aV,aQ,aO,.int .i64 (x0.aF.aA),aT,aW,aR,aP,bA,bC]] [rI aS x0.aE.aC,rI aV x0.aE.To,rI aQ x0.aE.aH,rJ aO x0.aE.aB,rI aT x0.aF.aC,rI aW x0.aF.To,rI aR x0.aF.aH,rJ aP x0.aF.aB,rI bA x0.aA,rI bC x0.ah] (fun y (v:Value)=>[.agg #[.int .i64 y.1.da,v],.int .i64 y.2]) (fun y v=>[rI v y.1.ay]):=by
 refine ct (S:=Unit) yi Tryz.func13 rfl rfl ?_
 repeat' first
  | (apply Dk.fe; repeat' first | exact rfl | (refine @id.{0} _ ?_; constructor))
  | intro _
  | exact rfl
  | (refine @id.{0} _ ?_; constructor)
  | apply c21
  | apply c30
  | apply c29
  | exact ()
theorem c3 {x0:(List Int)} {cA:Value}:Ct Tryz.prog 3 true (iG x0) [cA] [.rd false (bG (aL .u8)) cA x0] (fun y (_:Unit)=>[.bool y]) (fun y _=>[]):=by
 refine ct (S:=Unit) (bw fun _ _=>rfl) Tryz.func3 rfl rfl ?_
 repeat' first
  | (apply Dk.fe; repeat' first | exact rfl | (refine @id.{0} _ ?_; constructor))
  | intro _
  | exact rfl
  | (refine @id.{0} _ ?_; constructor)
  | apply c4
  | apply c5
  | apply c6
  | apply c7
  | apply c8
  | apply c9
  | apply W2
  | apply W3
  | apply N2
  | apply c13
  | apply c14
  | apply c15
  | apply c16
  | exact ()
theorem qO {w:World} {x0:(List Int)} {cA:Value} {afz:List Nat} (afA:(bG (aL .u8)).rep w.heap [cA] x0 afz) {y:(Bool)} (hm:iG x0=some y):Calls Tryz.prog 3 #[cA] w (fun e w'=>e = .returned (.bool y)∧an [] w w'):=
 Uk c3 (.fact (Ul afA) (.nil)) hm
end Go.Proofs.YtbmchcnkbonmkaaGreat
