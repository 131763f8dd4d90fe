/- How the arguments of the law that are handed in read. No condition. -/
import Derived.Test.YtcnehblmgfbfoaaGreatQg
import Derived.Test.YtcnehblmgfbfoaaGreatKs
namespace Go.Proofs.YtcnehblmgfbfoaaGreat
open Go Go.Li Go.ChangeShapes Go.WideShapes Go.Deep
section
variable {H : Type} {enc : TypeId × Value → H} {W : World} {base : Nat}
theorem ag9 : Tryz.prog.cellsOf 54 = 1 := by kernel_rfl
theorem Yt : Tryz.prog.cellsOf 5 = 1 := by kernel_rfl
theorem afw {n : Nat} {v : Value} {x : DataW H × List MemPlace} (h : DataW.trod enc Tryz.prog W 0 (fun _ => true) true n 54 [v] = some x) : ∃ (xs : List Int) (f : List Nat), (aV (aN .u8)).rep W.heap [v] xs f ∧ xs.length ≤ maxLen ∧ ∀ y ∈ xs, 0 ≤ y ∧ y < 256 := M6 Tryz.underlying54 Tryz.underlying5 Yt h
end
end Go.Proofs.YtcnehblmgfbfoaaGreat
