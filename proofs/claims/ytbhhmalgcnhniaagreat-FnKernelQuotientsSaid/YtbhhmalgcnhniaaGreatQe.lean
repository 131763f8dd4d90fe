/- How the arguments of the law that are handed in read. No condition. -/
import Derived.Test.YtbhhmalgcnhniaaGreatQg
import Derived.Test.YtbhhmalgcnhniaaGreatUu
namespace Go.Proofs.YtbhhmalgcnhniaaGreat
open Go Go.Li Go.ChangeShapes Go.WideShapes Go.Deep
section
variable {H : Type} {enc : TypeId × Value → H} {W : World} {base : Nat}
theorem adq : Tryz.prog.cellsOf 41 = 1 := by kernel_rfl
theorem VL : Tryz.prog.cellsOf 5 = 1 := by kernel_rfl
theorem aca {n : Nat} {v : Value} {x : DataW H × List MemPlace} (h : DataW.trod enc Tryz.prog W 0 (fun _ => true) true n 41 [v] = some x) : ∃ (xs : List Int) (f : List Nat), (bF (aM .u8)).rep W.heap [v] xs f ∧ xs.length ≤ maxLen ∧ ∀ y ∈ xs, 0 ≤ y ∧ y < 256 := Kw Tryz.underlying41 Tryz.underlying5 VL h
end
end Go.Proofs.YtbhhmalgcnhniaaGreat
