/- Walks by the calculus D. No condition beside those that each theorem names. -/
import Derived.Test.YtjdkifckhidlbaaGreatDp
import Derived.Test.YtjdkifckhidlbaaGreatDi
import Derived.Test.YtjdkifckhidlbaaGreatMo
import Derived.Test.YtjdkifckhidlbaaGreatDs
import Derived.Test.YtjdkifckhidlbaaGreatWc
import Derived.Test.YtjdkifckhidlbaaGreatWg
import Derived.Test.YtjdkifckhidlbaaGreatWi
import Derived.Test.YtjdkifckhidlbaaGreatWj
import Derived.Test.YtjdkifckhidlbaaGreatWq
import Derived.Test.YtjdkifckhidlbaaGreatWr
import Derived.Test.YtjdkifckhidlbaaGreatWs
namespace Go.Proofs.YtjdkifckhidlbaaGreat
open Go Go.Li Go.Dk
set_option linter.unusedVariables false
set_option maxHeartbeats 16000000
set_option maxRecDepth 100000
theorem c6 {x0:(List Int)} {cX:Value}:Ct Tryz.prog 6 true (gV x0) [cX] [.rd false (bY (aM .u8)) cX x0] (fun y (_:Unit)=>[.bool y]) (fun y _=>[]):=by
 refine ct (S:=Unit) (cf fun _ _=>rfl) Tryz.func6 rfl rfl ?_
 repeat' first
  | (apply Dk.fe; repeat' first | exact rfl | (refine @id.{0} _ ?_; constructor))
  | intro _
  | exact rfl
  | (refine @id.{0} _ ?_; constructor)
  | apply Dk.loop 0 (V:=Unit) (fun (s:Int) v=>[]) (fun s v=>[(12,.int .i64 (s))]) () [(3,_),(4,_),(7,_),(10,_),(11,_)]
  | apply Dk.quiet (id:=18) (by kernel_rfl)
  | apply Dk.quiet (id:=19) (by kernel_rfl)
  | apply Dk.quiet (id:=20) (by kernel_rfl)
  | apply Dk.quiet (id:=21) (by kernel_rfl)
  | apply Dk.quiet (id:=24) (by kernel_rfl)
  | apply c10
  | apply c41
  | apply c42
  | apply c43
  | apply c44
  | apply c45
  | apply c46
  | apply c47
  | apply c26
  | apply c27
  | exact ()
theorem oS {w:World} {x0:(List Int)} {cX:Value} {af0:List Nat} (af1:(bY (aM .u8)).rep w.heap [cX] x0 af0) {y:(Bool)} (hm:gV x0=some y):Calls Tryz.prog 6 #[cX] w (fun e w'=>e = .returned (.bool y)∧aw [] w w'):=
 TX c6 (.fact (TY af1) (.nil)) hm
end Go.Proofs.YtjdkifckhidlbaaGreat
