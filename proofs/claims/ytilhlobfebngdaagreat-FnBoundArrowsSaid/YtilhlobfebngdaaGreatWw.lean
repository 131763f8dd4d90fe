/- Walks by the calculus D. No condition beside those that each theorem names. -/
import Derived.Test.YtilhlobfebngdaaGreatDp
import Derived.Test.YtilhlobfebngdaaGreatDi
import Derived.Test.YtilhlobfebngdaaGreatMo
import Derived.Test.YtilhlobfebngdaaGreatDs
import Derived.Test.YtilhlobfebngdaaGreatWc
import Derived.Test.YtilhlobfebngdaaGreatWe
import Derived.Test.YtilhlobfebngdaaGreatWx
import Derived.Test.YtilhlobfebngdaaGreatWy
import Derived.Test.YtilhlobfebngdaaGreatWz
namespace Go.Proofs.YtilhlobfebngdaaGreat
open Go Go.Li Go.Dk
set_option linter.unusedVariables false
set_option maxHeartbeats 16000000
set_option maxRecDepth 100000
theorem c81 {x0:aJ} {dG:Nat} {cB:Value}:Ct Tryz.prog 81 false (mR x0) [.pointer (some (⟨dG,0,none⟩))] [.row dG [cB,.int .i64 (x0.At),.int .u64 (x0.an)] 91,.rd false (bE (aL .u8)) cB x0.Code] (fun y (v:Value×Value×Value×Value×Value×Value×Value×Value×Value×Value×Value×Value×Value×Value×Value×Value×Value×Value×Value×Value×Value×Value)=>[.agg #[.int .i64 y.1.Left.aB.aA,v.1,v.2.1,v.2.2.1,v.2.2.2.1,.int .i64 y.1.Left.aG.aA,v.2.2.2.2.1,v.2.2.2.2.2.1,v.2.2.2.2.2.2.1,v.2.2.2.2.2.2.2.1,v.2.2.2.2.2.2.2.2.1,v.2.2.2.2.2.2.2.2.2.1,.int .i64 y.1.bw.aB.aA,v.2.2.2.2.2.2.2.2.2.2.1,v.2.2.2.2.2.2.2.2.2.2.2.1,v.2.2.2.2.2.2.2.2.2.2.2.2.1,v.2.2.2.2.2.2.2.2.2.2.2.2.2.1,.int .i64 y.1.bw.aG.aA,v.2.2.2.2.2.2.2.2.2.2.2.2.2.2.1,v.2.2.2.2.2.2.2.2.2.2.2.2.2.2.2.1,v.2.2.2.2.2.2.2.2.2.2.2.2.2.2.2.2.1,v.2.2.2.2.2.2.2.2.2.2.2.2.2.2.2.2.2.1,v.2.2.2.2.2.2.2.2.2.2.2.2.2.2.2.2.2.2.1,v.2.2.2.2.2.2.2.2.2.2.2.2.2.2.2.2.2.2.2.1,v.2.2.2.2.2.2.2.2.2.2.2.2.2.2.2.2.2.2.2.2.1,v.2.2.2.2.2.2.2.2.2.2.2.2.2.2.2.2.2.2.2.2.2]]) (fun y v=>[rI v.1 y.1.Left.aB.aE,rI v.2.1 y.1.Left.aB.To,rI v.2.2.1 y.1.Left.aB.aH,rJ v.2.2.2.1 y.1.Left.aB.aC,rI v.2.2.2.2.1 y.1.Left.aG.aE,rI v.2.2.2.2.2.1 y.1.Left.aG.To,rI v.2.2.2.2.2.2.1 y.1.Left.aG.aH,rJ v.2.2.2.2.2.2.2.1 y.1.Left.aG.aC,rI v.2.2.2.2.2.2.2.2.1 y.1.Left.aA,rI v.2.2.2.2.2.2.2.2.2.1 y.1.Left.ab,rI v.2.2.2.2.2.2.2.2.2.2.1 y.1.bw.aB.aE,rI v.2.2.2.2.2.2.2.2.2.2.2.1 y.1.bw.aB.To,rI v.2.2.2.2.2.2.2.2.2.2.2.2.1 y.1.bw.aB.aH,rJ v.2.2.2.2.2.2.2.2.2.2.2.2.2.1 y.1.bw.aB.aC,rI v.2.2.2.2.2.2.2.2.2.2.2.2.2.2.1 y.1.bw.aG.aE,rI v.2.2.2.2.2.2.2.2.2.2.2.2.2.2.2.1 y.1.bw.aG.To,rI v.2.2.2.2.2.2.2.2.2.2.2.2.2.2.2.2.1 y.1.bw.aG.aH,rJ v.2.2.2.2.2.2.2.2.2.2.2.2.2.2.2.2.2.1 y.1.bw.aG.aC,rI v.2.2.2.2.2.2.2.2.2.2.2.2.2.2.2.2.2.2.1 y.1.bw.aA,rI v.2.2.2.2.2.2.2.2.2.2.2.2.2.2.2.2.2.2.2.1 y.1.bw.ab,rI v.2.2.2.2.2.2.2.2.2.2.2.2.2.2.2.2.2.2.2.2.1 y.1.Unit,rI v.2.2.2.2.2.2.2.2.2.2.2.2.2.2.2.2.2.2.2.2.2 y.1.pr,.row dG [cB,.int .i64 y.2.At,.int .u64 y.2.an] 91]):=by
 refine ct (S:=Unit) C4 Tryz.func81 rfl rfl ?_
 repeat' first
  | (apply Dk.fe; repeat' first | exact rfl | (refine @id.{0} _ ?_; constructor))
  | (intro (v:Value×Value×Value×Value); obtain ⟨_,_,_,_⟩:=v; dsimp only)
  | (intro (v:(Value×Value×Value×Value×Value×Value×Value×Value×Value×Value)×(Value×Value×Value×Value×Value×Value×Value×Value×Value×Value)×Unit); obtain ⟨⟨_,_,_,_,_,_,_,_,_,_⟩,⟨_,_,_,_,_,_,_,_,_,_⟩,_⟩:=v; dsimp only)
  | intro _
  | exact rfl
  | (refine @id.{0} _ ?_; constructor)
  | apply Dk.loop 0 (V:=Unit) (fun (s:Int×Int×Int) v=>[.row dG [cB,.int .i64 (s.2.1),.int .u64 (s.2.2)] 91]) (fun s v=>[(3,.int .i64 (s.1))]) () [(0,_),(2,_)]
  | apply Dk.any (id:=15) 8 [] [] [[],[0],[],[0,1,2],[],[4],[],[6]] (by kernel_rfl)
  | apply V6
  | apply c84
  | apply Bo
  | apply ajx
  | apply ajy
  | apply abj
  | apply c83
  | apply Rq
  | exact ()
end Go.Proofs.YtilhlobfebngdaaGreat
