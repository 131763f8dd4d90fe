/- Walks by the calculus D. No condition beside those that each theorem names. -/
import Derived.Test.YtjdkifckhidlbaaGreatDp
import Derived.Test.YtjdkifckhidlbaaGreatDi
import Derived.Test.YtjdkifckhidlbaaGreatMo
import Derived.Test.YtjdkifckhidlbaaGreatDs
import Derived.Test.YtjdkifckhidlbaaGreatWc
import Derived.Test.YtjdkifckhidlbaaGreatWe
import Derived.Test.YtjdkifckhidlbaaGreatWx
import Derived.Test.YtjdkifckhidlbaaGreatWy
import Derived.Test.YtjdkifckhidlbaaGreatWz
namespace Go.Proofs.YtjdkifckhidlbaaGreat
open Go Go.Li Go.Dk
set_option linter.unusedVariables false
set_option maxHeartbeats 16000000
set_option maxRecDepth 100000
theorem af3 {x0:aL} {dM:Nat} {cQ:Value}:Ct Tryz.prog 196 false (pH x0) [.pointer (some (⟨dM,0,none⟩))] [.row dM [cQ,.int .i64 (x0.At),.int .u64 (x0.av)] 193,.rd false (bY (aM .u8)) cQ x0.Code] (fun y (v:Value×Value×Value×Value×Value×Value×Value×Value×Value×Value×Value×Value×Value×Value×Value×Value×Value×Value×Value×Value×Value×Value)=>[.agg #[.int .i64 y.1.Left.aB.aA,v.1,v.2.1,v.2.2.1,v.2.2.2.1,.int .i64 y.1.Left.aF.aA,v.2.2.2.2.1,v.2.2.2.2.2.1,v.2.2.2.2.2.2.1,v.2.2.2.2.2.2.2.1,v.2.2.2.2.2.2.2.2.1,v.2.2.2.2.2.2.2.2.2.1,.int .i64 y.1.ab.aB.aA,v.2.2.2.2.2.2.2.2.2.2.1,v.2.2.2.2.2.2.2.2.2.2.2.1,v.2.2.2.2.2.2.2.2.2.2.2.2.1,v.2.2.2.2.2.2.2.2.2.2.2.2.2.1,.int .i64 y.1.ab.aF.aA,v.2.2.2.2.2.2.2.2.2.2.2.2.2.2.1,v.2.2.2.2.2.2.2.2.2.2.2.2.2.2.2.1,v.2.2.2.2.2.2.2.2.2.2.2.2.2.2.2.2.1,v.2.2.2.2.2.2.2.2.2.2.2.2.2.2.2.2.2.1,v.2.2.2.2.2.2.2.2.2.2.2.2.2.2.2.2.2.2.1,v.2.2.2.2.2.2.2.2.2.2.2.2.2.2.2.2.2.2.2.1,v.2.2.2.2.2.2.2.2.2.2.2.2.2.2.2.2.2.2.2.2.1,v.2.2.2.2.2.2.2.2.2.2.2.2.2.2.2.2.2.2.2.2.2]]) (fun y v=>[rI v.1 y.1.Left.aB.aH,rI v.2.1 y.1.Left.aB.To,rI v.2.2.1 y.1.Left.aB.aJ,rJ v.2.2.2.1 y.1.Left.aB.aE,rI v.2.2.2.2.1 y.1.Left.aF.aH,rI v.2.2.2.2.2.1 y.1.Left.aF.To,rI v.2.2.2.2.2.2.1 y.1.Left.aF.aJ,rJ v.2.2.2.2.2.2.2.1 y.1.Left.aF.aE,rI v.2.2.2.2.2.2.2.2.1 y.1.Left.aA,rI v.2.2.2.2.2.2.2.2.2.1 y.1.Left.ae,rI v.2.2.2.2.2.2.2.2.2.2.1 y.1.ab.aB.aH,rI v.2.2.2.2.2.2.2.2.2.2.2.1 y.1.ab.aB.To,rI v.2.2.2.2.2.2.2.2.2.2.2.2.1 y.1.ab.aB.aJ,rJ v.2.2.2.2.2.2.2.2.2.2.2.2.2.1 y.1.ab.aB.aE,rI v.2.2.2.2.2.2.2.2.2.2.2.2.2.2.1 y.1.ab.aF.aH,rI v.2.2.2.2.2.2.2.2.2.2.2.2.2.2.2.1 y.1.ab.aF.To,rI v.2.2.2.2.2.2.2.2.2.2.2.2.2.2.2.2.1 y.1.ab.aF.aJ,rJ v.2.2.2.2.2.2.2.2.2.2.2.2.2.2.2.2.2.1 y.1.ab.aF.aE,rI v.2.2.2.2.2.2.2.2.2.2.2.2.2.2.2.2.2.2.1 y.1.ab.aA,rI v.2.2.2.2.2.2.2.2.2.2.2.2.2.2.2.2.2.2.2.1 y.1.ab.ae,rI v.2.2.2.2.2.2.2.2.2.2.2.2.2.2.2.2.2.2.2.2.1 y.1.Unit,rI v.2.2.2.2.2.2.2.2.2.2.2.2.2.2.2.2.2.2.2.2.2 y.1.ba,.row dM [cQ,.int .i64 y.2.At,.int .u64 y.2.av] 193]):=by
 refine ct (S:=Unit) HC Tryz.func196 rfl rfl ?_
 repeat' first
  | (apply Dk.fe; repeat' first | exact rfl | (refine @id.{0} _ ?_; constructor))
  | (intro (v:Value×Value×Value×Value); obtain ⟨_,_,_,_⟩:=v; dsimp only)
  | (intro (v:(Value×Value×Value×Value×Value×Value×Value×Value×Value×Value)×(Value×Value×Value×Value×Value×Value×Value×Value×Value×Value)×Unit); obtain ⟨⟨_,_,_,_,_,_,_,_,_,_⟩,⟨_,_,_,_,_,_,_,_,_,_⟩,_⟩:=v; dsimp only)
  | intro _
  | exact rfl
  | (refine @id.{0} _ ?_; constructor)
  | apply Dk.loop 0 (V:=Unit) (fun (s:Int×Int×Int) v=>[.row dM [cQ,.int .i64 (s.2.1),.int .u64 (s.2.2)] 193]) (fun s v=>[(3,.int .i64 (s.1))]) () [(0,_),(2,_)]
  | apply Dk.any (id:=15) 8 [] [] [[],[0],[],[0,1,2],[],[4],[],[6]] (by kernel_rfl)
  | apply Yw
  | apply Yt
  | apply Am
  | apply af4
  | apply Yu
  | apply Yo
  | apply Yv
  | apply Ti
  | exact ()
end Go.Proofs.YtjdkifckhidlbaaGreat
