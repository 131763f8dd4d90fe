/- How the arguments of the law that are handed in read. No condition. -/
import Derived.Test.YtcnehblmgfbfoaaGreatQg
import Derived.Test.YtcnehblmgfbfoaaGreatKf
namespace Go.Proofs.YtcnehblmgfbfoaaGreat
open Go Go.Li Go.ChangeShapes Go.WideShapes Go.Deep
section
variable {H : Type} {enc : TypeId × Value → H} {W : World} {base : Nat}
theorem aaT : Tryz.prog.cellsOf 54 = 1 := by kernel_rfl
theorem TJ : Tryz.prog.cellsOf 5 = 1 := by kernel_rfl
theorem ZX {n : Nat} {v : Value} {x : DataW H × List MemPlace} (h : DataW.trod enc Tryz.prog W 0 (fun _ => true) true n 54 [v] = some x) : ∃ (xs : List Int) (f : List Nat), (bE (aL .u8)).rep W.heap [v] xs f ∧ xs.length ≤ maxLen ∧ ∀ y ∈ xs, 0 ≤ y ∧ y < 256 := Jv Tryz.underlying54 Tryz.underlying5 TJ h
end
end Go.Proofs.YtcnehblmgfbfoaaGreat
