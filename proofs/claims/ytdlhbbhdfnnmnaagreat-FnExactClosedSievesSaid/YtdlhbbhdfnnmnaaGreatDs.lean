/- Structs that are pointed to out of slices. No condition. -/
import Derived.Test.YtdlhbbhdfnnmnaaGreatDi
import Derived.Test.YtdlhbbhdfnnmnaaGreatMo
namespace Go.Proofs.YtdlhbbhdfnnmnaaGreat
open Go Go.Li Go.Dk
set_option linter.unusedVariables false
def sS33 : STy MSetFunctor := sMap (fun x => (x.Shape.Objects, x.Shape.From, x.Shape.To, x.Shape.Identity, x.Shape.Composites, x.Sizes, x.Actions)) (sPair (sInt .i64) (sPair (sImm (sInt .i64)) (sPair (sImm (sInt .i64)) (sPair (sImm (sInt .i64)) (sPair (sImm (sImm (sInt .i64))) (sPair (sImm (sInt .i64)) (sImm (sImm (sInt .i64)))))))))
instance soS33 : SO sS33 (Value × Value × Value × Value × Value × Value) (fun x v => [.int .i64 x.Shape.Objects, v.1, v.2.1, v.2.2.1, v.2.2.2.1, v.2.2.2.2.1, v.2.2.2.2.2]) (fun x v => [.rd false (sImm (sInt .i64)) v.1 x.Shape.From, .rd false (sImm (sInt .i64)) v.2.1 x.Shape.To, .rd false (sImm (sInt .i64)) v.2.2.1 x.Shape.Identity, .rd false (sImm (sImm (sInt .i64))) v.2.2.2.1 x.Shape.Composites, .rd false (sImm (sInt .i64)) v.2.2.2.2.1 x.Sizes, .rd false (sImm (sImm (sInt .i64))) v.2.2.2.2.2 x.Actions]) := SO.mp (SO.ip (SO.sp (SO.sp (SO.sp (SO.sp (SO.sp SO.s))))))
instance dtS33 : Dt sS33 := by
  refine Dt.mp fun x y h => ?_
  obtain ⟨⟨_, _, _, _, _⟩, _, _⟩ := x
  obtain ⟨⟨_, _, _, _, _⟩, _, _⟩ := y
  dsimp only at h
  cases h
  rfl
def sS64 : STy MPart := sMap (fun x => (x.Members)) (sImm (sImm (sInt .i64)))
instance soS64 : SO sS64 (Value) (fun x v => [v]) (fun x v => [.rd false (sImm (sImm (sInt .i64))) v x.Members]) := SO.mp SO.s
instance dtS64 : Dt sS64 := by
  refine Dt.mp fun x y h => ?_
  obtain ⟨_⟩ := x
  obtain ⟨_⟩ := y
  dsimp only at h
  cases h
  rfl
end Go.Proofs.YtdlhbbhdfnnmnaaGreat
