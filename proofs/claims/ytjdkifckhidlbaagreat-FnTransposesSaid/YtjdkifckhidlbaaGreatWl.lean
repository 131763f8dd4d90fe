/- Walks by the calculus D. No condition beside those that each theorem names. -/
import Derived.Test.YtjdkifckhidlbaaGreatDp
import Derived.Test.YtjdkifckhidlbaaGreatDi
import Derived.Test.YtjdkifckhidlbaaGreatMo
import Derived.Test.YtjdkifckhidlbaaGreatDs
import Derived.Test.YtjdkifckhidlbaaGreatWd
import Derived.Test.YtjdkifckhidlbaaGreatWi
import Derived.Test.YtjdkifckhidlbaaGreatWj
import Derived.Test.YtjdkifckhidlbaaGreatWk
import Derived.Test.YtjdkifckhidlbaaGreatWs
namespace Go.Proofs.YtjdkifckhidlbaaGreat
open Go Go.Li Go.Dk
set_option linter.unusedVariables false
set_option maxHeartbeats 16000000
set_option maxRecDepth 100000
theorem c4 {x0:(List Int)} {cY:Value}:Ct Tryz.prog 4 true (jU x0) [cY] [.rd false (bT (aN .u8)) cY x0] (fun y (_:Unit)=>[.bool y]) (fun y _=>[]):=by
 refine ct (S:=Unit) (bw fun _ _=>rfl) Tryz.func4 rfl rfl ?_
 repeat' first
  | (apply Dk.fe; repeat' first | exact rfl | (refine @id.{0} _ ?_; constructor))
  | intro _
  | exact rfl
  | (refine @id.{0} _ ?_; constructor)
  | apply Dk.loop 0 (V:=Unit) (fun (s:Int) v=>[]) (fun s v=>[(19,.int .i64 (s))]) () [(3,_),(4,_),(5,_),(6,_),(9,_),(13,_),(14,_)]
  | apply Dk.quiet (id:=22) (by kernel_rfl)
  | apply Dk.quiet (id:=23) (by kernel_rfl)
  | apply Dk.any (id:=13) 9 [] [[],[],[],[],[],[],[],[],[6]] [[],[0],[0,1],[],[3],[3,4],[],[],[0,1,2,6,7]] (by kernel_rfl)
  | apply Dk.any (id:=14) 12 [11] [] [[],[],[1],[1,2],[],[1,2,3,4],[1,2,3,4,5],[],[0,1,2,3,4,5,6,7],[0,1,2,3,4,5,6,7,8],[0,1,2,3,4,5,6,7,8,9],[0,1,2,3,4,5,6,7,8,9]] (by kernel_rfl)
  | apply Dk.any (id:=15) 12 [11] [] [[],[],[],[2],[2,3],[],[2,3,4,5],[2,3,4,5,6],[0,1,2,3,4,5,6,7],[0,1,2,3,4,5,6,7,8],[0,1,2,3,4,5,6,7,8,9],[0,1,2,3,4,5,6,7,8,9]] (by kernel_rfl)
  | apply c10
  | apply c25
  | apply c26
  | apply c27
  | apply c28
  | apply c29
  | exact ()
theorem pT {w:World} {x0:(List Int)} {cY:Value} {abO:List Nat} (abP:(bT (aN .u8)).rep w.heap [cY] x0 abO) {y:(Bool)} (hm:jU x0=some y):Calls Tryz.prog 4 #[cY] w (fun e w'=>e = .returned (.bool y)∧av [] w w'):=
 Pz c4 (.fact (PB abP) (.nil)) hm
end Go.Proofs.YtjdkifckhidlbaaGreat
