/- How the arguments of the law that are handed in read. No condition. -/
import Derived.Test.YtbmchcnkbonmkaaGreatQg
import Derived.Test.YtbmchcnkbonmkaaGreatUi
namespace Go.Proofs.YtbmchcnkbonmkaaGreat
open Go Go.Li Go.ChangeShapes Go.WideShapes Go.Deep
section
variable {H : Type} {enc : TypeId × Value → H} {W : World} {base : Nat}
theorem afP : Tryz.prog.cellsOf 22 = 1 := by kernel_rfl
theorem Ya : Tryz.prog.cellsOf 5 = 1 := by kernel_rfl
theorem aeY {n : Nat} {v : Value} {x : DataW H × List MemPlace} (h : DataW.trod enc Tryz.prog W 0 (fun _ => true) true n 22 [v] = some x) : ∃ (xs : List Int) (f : List Nat), (bG (aL .u8)).rep W.heap [v] xs f ∧ xs.length ≤ maxLen ∧ ∀ y ∈ xs, 0 ≤ y ∧ y < 256 := MU Tryz.underlying22 Tryz.underlying5 Ya h
end
end Go.Proofs.YtbmchcnkbonmkaaGreat
