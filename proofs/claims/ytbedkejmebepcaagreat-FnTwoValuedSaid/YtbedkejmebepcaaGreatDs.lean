/- Structs that are pointed to out of slices. No condition. -/
import Derived.Test.YtbedkejmebepcaaGreatDi
import Derived.Test.YtbedkejmebepcaaGreatMo
namespace Go.Proofs.YtbedkejmebepcaaGreat
open Go Go.Li Go.Dk
set_option linter.unusedVariables false
def sS38 : STy MPart := sMap (fun x => (x.Members)) (sImm (sImm (sInt .i64)))
instance soS38 : SO sS38 (Value) (fun x v => [v]) (fun x v => [.rd false (sImm (sImm (sInt .i64))) v x.Members]) := SO.mp SO.s
instance dtS38 : Dt sS38 := by
  refine Dt.mp fun x y h => ?_
  obtain ⟨_⟩ := x
  obtain ⟨_⟩ := y
  dsimp only at h
  cases h
  rfl
def sS126 : STy ML03Path := sMap (fun x => (x.From, x.To, x.Edges)) (sPair (sInt .i64) (sPair (sInt .i64) (sImm (sInt .i64))))
instance soS126 : SO sS126 (Value) (fun x v => [.int .i64 x.From, .int .i64 x.To, v]) (fun x v => [.rd false (sImm (sInt .i64)) v x.Edges]) := SO.mp (SO.ip (SO.ip SO.s))
instance dtS126 : Dt sS126 := by
  refine Dt.mp fun x y h => ?_
  obtain ⟨_, _, _⟩ := x
  obtain ⟨_, _, _⟩ := y
  dsimp only at h
  cases h
  rfl
end Go.Proofs.YtbedkejmebepcaaGreat
