/- Walks by the calculus D. No condition beside those that each theorem names. -/
import Derived.Test.YtjdkifckhidlbaaGreatDp
import Derived.Test.YtjdkifckhidlbaaGreatDi
import Derived.Test.YtjdkifckhidlbaaGreatMo
import Derived.Test.YtjdkifckhidlbaaGreatDs
import Derived.Test.YtjdkifckhidlbaaGreatWc
import Derived.Test.YtjdkifckhidlbaaGreatWd
import Derived.Test.YtjdkifckhidlbaaGreatWg
import Derived.Test.YtjdkifckhidlbaaGreatWt
import Derived.Test.YtjdkifckhidlbaaGreatWu
namespace Go.Proofs.YtjdkifckhidlbaaGreat
open Go Go.Li Go.Dk
set_option linter.unusedVariables false
set_option maxHeartbeats 16000000
set_option maxRecDepth 100000
theorem c25 {x0:(List Int)} {cY:Value}:Ct Tryz.prog 25 false (gH x0) [cY] [.rd false (bT (aN .u8)) cY x0] (fun y (v:Value×Value×Value×Value×Value×Value×Value×Value×Value×Value×Value×Value×Value×Value×Value×Value×Value×Value×Value×Value×Value×Value)=>[.agg #[.int .i64 y.1.Left.aE.aA,v.1,v.2.1,v.2.2.1,v.2.2.2.1,.int .i64 y.1.Left.aH.aA,v.2.2.2.2.1,v.2.2.2.2.2.1,v.2.2.2.2.2.2.1,v.2.2.2.2.2.2.2.1,v.2.2.2.2.2.2.2.2.1,v.2.2.2.2.2.2.2.2.2.1,.int .i64 y.1.ab.aE.aA,v.2.2.2.2.2.2.2.2.2.2.1,v.2.2.2.2.2.2.2.2.2.2.2.1,v.2.2.2.2.2.2.2.2.2.2.2.2.1,v.2.2.2.2.2.2.2.2.2.2.2.2.2.1,.int .i64 y.1.ab.aH.aA,v.2.2.2.2.2.2.2.2.2.2.2.2.2.2.1,v.2.2.2.2.2.2.2.2.2.2.2.2.2.2.2.1,v.2.2.2.2.2.2.2.2.2.2.2.2.2.2.2.2.1,v.2.2.2.2.2.2.2.2.2.2.2.2.2.2.2.2.2.1,v.2.2.2.2.2.2.2.2.2.2.2.2.2.2.2.2.2.2.1,v.2.2.2.2.2.2.2.2.2.2.2.2.2.2.2.2.2.2.2.1,v.2.2.2.2.2.2.2.2.2.2.2.2.2.2.2.2.2.2.2.2.1,v.2.2.2.2.2.2.2.2.2.2.2.2.2.2.2.2.2.2.2.2.2],.int .i64 y.2.1,.int .i64 y.2.2.1,.int .i64 y.2.2.2]) (fun y v=>[rI v.1 y.1.Left.aE.aG,rI v.2.1 y.1.Left.aE.To,rI v.2.2.1 y.1.Left.aE.aJ,rJ v.2.2.2.1 y.1.Left.aE.aB,rI v.2.2.2.2.1 y.1.Left.aH.aG,rI v.2.2.2.2.2.1 y.1.Left.aH.To,rI v.2.2.2.2.2.2.1 y.1.Left.aH.aJ,rJ v.2.2.2.2.2.2.2.1 y.1.Left.aH.aB,rI v.2.2.2.2.2.2.2.2.1 y.1.Left.aA,rI v.2.2.2.2.2.2.2.2.2.1 y.1.Left.ae,rI v.2.2.2.2.2.2.2.2.2.2.1 y.1.ab.aE.aG,rI v.2.2.2.2.2.2.2.2.2.2.2.1 y.1.ab.aE.To,rI v.2.2.2.2.2.2.2.2.2.2.2.2.1 y.1.ab.aE.aJ,rJ v.2.2.2.2.2.2.2.2.2.2.2.2.2.1 y.1.ab.aE.aB,rI v.2.2.2.2.2.2.2.2.2.2.2.2.2.2.1 y.1.ab.aH.aG,rI v.2.2.2.2.2.2.2.2.2.2.2.2.2.2.2.1 y.1.ab.aH.To,rI v.2.2.2.2.2.2.2.2.2.2.2.2.2.2.2.2.1 y.1.ab.aH.aJ,rJ v.2.2.2.2.2.2.2.2.2.2.2.2.2.2.2.2.2.1 y.1.ab.aH.aB,rI v.2.2.2.2.2.2.2.2.2.2.2.2.2.2.2.2.2.2.1 y.1.ab.aA,rI v.2.2.2.2.2.2.2.2.2.2.2.2.2.2.2.2.2.2.2.1 y.1.ab.ae,rI v.2.2.2.2.2.2.2.2.2.2.2.2.2.2.2.2.2.2.2.2.1 y.1.Unit,rI v.2.2.2.2.2.2.2.2.2.2.2.2.2.2.2.2.2.2.2.2.2 y.1.br]):=by
 refine ct (S:=Unit) EE Tryz.func25 rfl rfl ?_
 repeat' first
  | (apply Dk.fe; repeat' first | exact rfl | (refine @id.{0} _ ?_; constructor))
  | intro _
  | exact rfl
  | apply Dk.D.rY (d:=77)
  | apply Dk.AD.rY (d:=77)
  | (apply Dk.Ou (t:=94); exact rfl)
  | (refine @id.{0} _ ?_; constructor)
  | apply Dk.loop 0 (V:=Unit) (fun (s:Int×Int) v=>[]) (fun s v=>[(11,.int .i64 (s.1)),(12,.int .i64 (s.2))]) () [(2,_),(6,_),(7,_),(8,_),(9,_),(10,_)]
  | apply Dk.quiet (id:=7) (by kernel_rfl)
  | apply Dk.vj (id:=4) [Dk.aw.row _ _ 193] 9 [] [[],[],[],[],[],[12],[],[],[]] [[],[],[1],[1,2],[1,2,3],[0,1,2,3,4],[],[],[7]] (by kernel_rfl)
  | apply c72
  | apply abQ
  | apply Ul
  | apply Un
  | apply Ug
  | apply Uh
  | apply xZ
  | exact ()
end Go.Proofs.YtjdkifckhidlbaaGreat
