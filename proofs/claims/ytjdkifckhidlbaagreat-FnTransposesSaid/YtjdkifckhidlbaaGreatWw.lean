/- Walks by the calculus D. No condition beside those that each theorem names. -/
import Derived.Test.YtjdkifckhidlbaaGreatDp
import Derived.Test.YtjdkifckhidlbaaGreatDi
import Derived.Test.YtjdkifckhidlbaaGreatMo
import Derived.Test.YtjdkifckhidlbaaGreatDs
import Derived.Test.YtjdkifckhidlbaaGreatWc
import Derived.Test.YtjdkifckhidlbaaGreatWe
import Derived.Test.YtjdkifckhidlbaaGreatWx
import Derived.Test.YtjdkifckhidlbaaGreatWy
import Derived.Test.YtjdkifckhidlbaaGreatWz
namespace Go.Proofs.YtjdkifckhidlbaaGreat
open Go Go.Li Go.Dk
set_option linter.unusedVariables false
set_option maxHeartbeats 16000000
set_option maxRecDepth 100000
theorem abR {x0:aK} {dN:Nat} {cK:Value}:Ct Tryz.prog 196 false (nW x0) [.pointer (some (⟨dN,0,none⟩))] [.row dN [cK,.int .i64 (x0.At),.int .u64 (x0.aq)] 193,.rd false (bT (aN .u8)) cK x0.Code] (fun y (v:Value×Value×Value×Value×Value×Value×Value×Value×Value×Value×Value×Value×Value×Value×Value×Value×Value×Value×Value×Value×Value×Value)=>[.agg #[.int .i64 y.1.Left.aE.aA,v.1,v.2.1,v.2.2.1,v.2.2.2.1,.int .i64 y.1.Left.aH.aA,v.2.2.2.2.1,v.2.2.2.2.2.1,v.2.2.2.2.2.2.1,v.2.2.2.2.2.2.2.1,v.2.2.2.2.2.2.2.2.1,v.2.2.2.2.2.2.2.2.2.1,.int .i64 y.1.ab.aE.aA,v.2.2.2.2.2.2.2.2.2.2.1,v.2.2.2.2.2.2.2.2.2.2.2.1,v.2.2.2.2.2.2.2.2.2.2.2.2.1,v.2.2.2.2.2.2.2.2.2.2.2.2.2.1,.int .i64 y.1.ab.aH.aA,v.2.2.2.2.2.2.2.2.2.2.2.2.2.2.1,v.2.2.2.2.2.2.2.2.2.2.2.2.2.2.2.1,v.2.2.2.2.2.2.2.2.2.2.2.2.2.2.2.2.1,v.2.2.2.2.2.2.2.2.2.2.2.2.2.2.2.2.2.1,v.2.2.2.2.2.2.2.2.2.2.2.2.2.2.2.2.2.2.1,v.2.2.2.2.2.2.2.2.2.2.2.2.2.2.2.2.2.2.2.1,v.2.2.2.2.2.2.2.2.2.2.2.2.2.2.2.2.2.2.2.2.1,v.2.2.2.2.2.2.2.2.2.2.2.2.2.2.2.2.2.2.2.2.2]]) (fun y v=>[rI v.1 y.1.Left.aE.aG,rI v.2.1 y.1.Left.aE.To,rI v.2.2.1 y.1.Left.aE.aJ,rJ v.2.2.2.1 y.1.Left.aE.aB,rI v.2.2.2.2.1 y.1.Left.aH.aG,rI v.2.2.2.2.2.1 y.1.Left.aH.To,rI v.2.2.2.2.2.2.1 y.1.Left.aH.aJ,rJ v.2.2.2.2.2.2.2.1 y.1.Left.aH.aB,rI v.2.2.2.2.2.2.2.2.1 y.1.Left.aA,rI v.2.2.2.2.2.2.2.2.2.1 y.1.Left.ae,rI v.2.2.2.2.2.2.2.2.2.2.1 y.1.ab.aE.aG,rI v.2.2.2.2.2.2.2.2.2.2.2.1 y.1.ab.aE.To,rI v.2.2.2.2.2.2.2.2.2.2.2.2.1 y.1.ab.aE.aJ,rJ v.2.2.2.2.2.2.2.2.2.2.2.2.2.1 y.1.ab.aE.aB,rI v.2.2.2.2.2.2.2.2.2.2.2.2.2.2.1 y.1.ab.aH.aG,rI v.2.2.2.2.2.2.2.2.2.2.2.2.2.2.2.1 y.1.ab.aH.To,rI v.2.2.2.2.2.2.2.2.2.2.2.2.2.2.2.2.1 y.1.ab.aH.aJ,rJ v.2.2.2.2.2.2.2.2.2.2.2.2.2.2.2.2.2.1 y.1.ab.aH.aB,rI v.2.2.2.2.2.2.2.2.2.2.2.2.2.2.2.2.2.2.1 y.1.ab.aA,rI v.2.2.2.2.2.2.2.2.2.2.2.2.2.2.2.2.2.2.2.1 y.1.ab.ae,rI v.2.2.2.2.2.2.2.2.2.2.2.2.2.2.2.2.2.2.2.2.1 y.1.Unit,rI v.2.2.2.2.2.2.2.2.2.2.2.2.2.2.2.2.2.2.2.2.2 y.1.br,.row dN [cK,.int .i64 y.2.At,.int .u64 y.2.aq] 193]):=by
 refine ct (S:=Unit) EE Tryz.func196 rfl rfl ?_
 repeat' first
  | (apply Dk.fe; repeat' first | exact rfl | (refine @id.{0} _ ?_; constructor))
  | (intro (v:Value×Value×Value×Value); obtain ⟨_,_,_,_⟩:=v; dsimp only)
  | (intro (v:(Value×Value×Value×Value×Value×Value×Value×Value×Value×Value)×(Value×Value×Value×Value×Value×Value×Value×Value×Value×Value)×Unit); obtain ⟨⟨_,_,_,_,_,_,_,_,_,_⟩,⟨_,_,_,_,_,_,_,_,_,_⟩,_⟩:=v; dsimp only)
  | intro _
  | exact rfl
  | (refine @id.{0} _ ?_; constructor)
  | apply Dk.loop 0 (V:=Unit) (fun (s:Int×Int×Int) v=>[.row dN [cK,.int .i64 (s.2.1),.int .u64 (s.2.2)] 193]) (fun s v=>[(3,.int .i64 (s.1))]) () [(0,_),(2,_)]
  | apply Dk.any (id:=15) 8 [] [] [[],[0],[],[0,1,2],[],[4],[],[6]] (by kernel_rfl)
  | apply Up
  | apply W3
  | apply xZ
  | apply abS
  | apply abT
  | apply Uk
  | apply abU
  | apply O6
  | exact ()
end Go.Proofs.YtjdkifckhidlbaaGreat
