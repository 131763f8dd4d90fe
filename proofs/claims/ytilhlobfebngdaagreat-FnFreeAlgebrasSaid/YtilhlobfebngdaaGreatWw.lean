/- Walks by the calculus D. No condition beside those that each theorem names. -/
import Derived.Test.YtilhlobfebngdaaGreatDp
import Derived.Test.YtilhlobfebngdaaGreatDi
import Derived.Test.YtilhlobfebngdaaGreatMo
import Derived.Test.YtilhlobfebngdaaGreatDs
import Derived.Test.YtilhlobfebngdaaGreatWc
import Derived.Test.YtilhlobfebngdaaGreatWe
import Derived.Test.YtilhlobfebngdaaGreatWx
import Derived.Test.YtilhlobfebngdaaGreatWy
import Derived.Test.YtilhlobfebngdaaGreatWz
namespace Go.Proofs.YtilhlobfebngdaaGreat
open Go Go.Li Go.Dk
set_option linter.unusedVariables false
set_option maxHeartbeats 16000000
set_option maxRecDepth 100000
theorem c81 {x0:aK} {dG:Nat} {cC:Value}:Ct Tryz.prog 81 false (lY x0) [.pointer (some (⟨dG,0,none⟩))] [.row dG [cC,.int .i64 (x0.At),.int .u64 (x0.av)] 91,.rd false (bH (aN .u8)) cC x0.Code] (fun y (v:Value×Value×Value×Value×Value×Value×Value×Value×Value×Value×Value×Value×Value×Value×Value×Value×Value×Value×Value×Value×Value×Value)=>[.agg #[.int .i64 y.1.Left.aB.aA,v.1,v.2.1,v.2.2.1,v.2.2.2.1,.int .i64 y.1.Left.aH.aA,v.2.2.2.2.1,v.2.2.2.2.2.1,v.2.2.2.2.2.2.1,v.2.2.2.2.2.2.2.1,v.2.2.2.2.2.2.2.2.1,v.2.2.2.2.2.2.2.2.2.1,.int .i64 y.1.bu.aB.aA,v.2.2.2.2.2.2.2.2.2.2.1,v.2.2.2.2.2.2.2.2.2.2.2.1,v.2.2.2.2.2.2.2.2.2.2.2.2.1,v.2.2.2.2.2.2.2.2.2.2.2.2.2.1,.int .i64 y.1.bu.aH.aA,v.2.2.2.2.2.2.2.2.2.2.2.2.2.2.1,v.2.2.2.2.2.2.2.2.2.2.2.2.2.2.2.1,v.2.2.2.2.2.2.2.2.2.2.2.2.2.2.2.2.1,v.2.2.2.2.2.2.2.2.2.2.2.2.2.2.2.2.2.1,v.2.2.2.2.2.2.2.2.2.2.2.2.2.2.2.2.2.2.1,v.2.2.2.2.2.2.2.2.2.2.2.2.2.2.2.2.2.2.2.1,v.2.2.2.2.2.2.2.2.2.2.2.2.2.2.2.2.2.2.2.2.1,v.2.2.2.2.2.2.2.2.2.2.2.2.2.2.2.2.2.2.2.2.2]]) (fun y v=>[rI v.1 y.1.Left.aB.aG,rI v.2.1 y.1.Left.aB.To,rI v.2.2.1 y.1.Left.aB.aJ,rJ v.2.2.2.1 y.1.Left.aB.aE,rI v.2.2.2.2.1 y.1.Left.aH.aG,rI v.2.2.2.2.2.1 y.1.Left.aH.To,rI v.2.2.2.2.2.2.1 y.1.Left.aH.aJ,rJ v.2.2.2.2.2.2.2.1 y.1.Left.aH.aE,rI v.2.2.2.2.2.2.2.2.1 y.1.Left.aA,rI v.2.2.2.2.2.2.2.2.2.1 y.1.Left.ab,rI v.2.2.2.2.2.2.2.2.2.2.1 y.1.bu.aB.aG,rI v.2.2.2.2.2.2.2.2.2.2.2.1 y.1.bu.aB.To,rI v.2.2.2.2.2.2.2.2.2.2.2.2.1 y.1.bu.aB.aJ,rJ v.2.2.2.2.2.2.2.2.2.2.2.2.2.1 y.1.bu.aB.aE,rI v.2.2.2.2.2.2.2.2.2.2.2.2.2.2.1 y.1.bu.aH.aG,rI v.2.2.2.2.2.2.2.2.2.2.2.2.2.2.2.1 y.1.bu.aH.To,rI v.2.2.2.2.2.2.2.2.2.2.2.2.2.2.2.2.1 y.1.bu.aH.aJ,rJ v.2.2.2.2.2.2.2.2.2.2.2.2.2.2.2.2.2.1 y.1.bu.aH.aE,rI v.2.2.2.2.2.2.2.2.2.2.2.2.2.2.2.2.2.2.1 y.1.bu.aA,rI v.2.2.2.2.2.2.2.2.2.2.2.2.2.2.2.2.2.2.2.1 y.1.bu.ab,rI v.2.2.2.2.2.2.2.2.2.2.2.2.2.2.2.2.2.2.2.2.1 y.1.Unit,rI v.2.2.2.2.2.2.2.2.2.2.2.2.2.2.2.2.2.2.2.2.2 y.1.l9,.row dG [cC,.int .i64 y.2.At,.int .u64 y.2.av] 91]):=by
 refine ct (S:=Unit) B6 Tryz.func81 rfl rfl ?_
 repeat' first
  | (apply Dk.fe; repeat' first | exact rfl | (refine @id.{0} _ ?_; constructor))
  | (intro (v:Value×Value×Value×Value); obtain ⟨_,_,_,_⟩:=v; dsimp only)
  | (intro (v:(Value×Value×Value×Value×Value×Value×Value×Value×Value×Value)×(Value×Value×Value×Value×Value×Value×Value×Value×Value×Value)×Unit); obtain ⟨⟨_,_,_,_,_,_,_,_,_,_⟩,⟨_,_,_,_,_,_,_,_,_,_⟩,_⟩:=v; dsimp only)
  | intro _
  | exact rfl
  | (refine @id.{0} _ ?_; constructor)
  | apply Dk.loop 0 (V:=Unit) (fun (s:Int×Int×Int) v=>[.row dG [cC,.int .i64 (s.2.1),.int .u64 (s.2.2)] 91]) (fun s v=>[(3,.int .i64 (s.1))]) () [(0,_),(2,_)]
  | apply Dk.any (id:=15) 8 [] [] [[],[0],[],[0,1,2],[],[4],[],[6]] (by kernel_rfl)
  | apply TQ
  | apply c84
  | apply zu
  | apply af7
  | apply af8
  | apply YP
  | apply c83
  | apply Pt
  | exact ()
end Go.Proofs.YtilhlobfebngdaaGreat
