/- Walks by the calculus D. No condition beside those that each theorem names. -/
import Derived.Test.YtilhlobfebngdaaGreatDp
import Derived.Test.YtilhlobfebngdaaGreatDi
import Derived.Test.YtilhlobfebngdaaGreatMo
import Derived.Test.YtilhlobfebngdaaGreatDs
import Derived.Test.YtilhlobfebngdaaGreatWb
import Derived.Test.YtilhlobfebngdaaGreatWc
import Derived.Test.YtilhlobfebngdaaGreatWg
import Derived.Test.YtilhlobfebngdaaGreatWi
import Derived.Test.YtilhlobfebngdaaGreatWj
namespace Go.Proofs.YtilhlobfebngdaaGreat
open Go Go.Li Go.Dk
set_option linter.unusedVariables false
set_option maxHeartbeats 16000000
set_option maxRecDepth 100000
theorem c3 {x0:(List Int)} {cU:Value}:Ct Tryz.prog 3 true (mB x0) [cU] [.rd false (bE (aL .u8)) cU x0] (fun y (_:Unit)=>[.bool y]) (fun y _=>[]):=by
 refine ct (S:=Unit) (bu fun _ _=>rfl) Tryz.func3 rfl rfl ?_
 repeat' first
  | (apply Dk.fe; repeat' first | exact rfl | (refine @id.{0} _ ?_; constructor))
  | intro _
  | exact rfl
  | (refine @id.{0} _ ?_; constructor)
  | apply Dk.loop 0 (V:=Unit) (fun (s:Int×Int×Int×Int) v=>[]) (fun s v=>[(25,.int .i64 (s.1)),(26,.int .i64 (s.2.1)),(27,.int .i64 (s.2.2.1)),(28,.int .i64 (s.2.2.2))]) () [(4,_),(5,_),(6,_),(7,_),(10,_),(12,_),(21,_),(23,_)]
  | apply Dk.quiet (id:=11) (by kernel_rfl)
  | apply Dk.quiet (id:=12) (by kernel_rfl)
  | apply Dk.any (id:=27) 12 [] [] [[],[],[0,1],[0,1,2],[],[4],[],[4,5,6],[4,5,6,7],[],[],[4,5,6,7,8,9,10]] (by kernel_rfl)
  | apply Dk.any (id:=31) 12 [] [] [[],[],[0,1],[0,1,2],[],[4],[],[4,5,6],[4,5,6,7],[],[],[4,5,6,7,8,9,10]] (by kernel_rfl)
  | apply c5
  | apply c6
  | apply c7
  | apply c8
  | apply c9
  | apply c10
  | apply c11
  | apply c12
  | apply c13
  | apply c14
  | apply c15
  | exact ()
theorem tV {w:World} {x0:(List Int)} {cU:Value} {ajv:List Nat} (ajw:(bE (aL .u8)).rep w.heap [cU] x0 ajv) {y:(Bool)} (hm:mB x0=some y):Calls Tryz.prog 3 #[cU] w (fun e w'=>e = .returned (.bool y)∧aq [] w w'):=
 WH c3 (.fact (WI ajw) (.nil)) hm
end Go.Proofs.YtilhlobfebngdaaGreat
