/- How the arguments of the law that are handed in read. No condition. -/
import Derived.Test.YtilhlobfebngdaaGreatQg
import Derived.Test.YtilhlobfebngdaaGreatRp
namespace Go.Proofs.YtilhlobfebngdaaGreat
open Go Go.Li Go.ChangeShapes Go.WideShapes Go.Deep
section
variable {H : Type} {enc : TypeId × Value → H} {W : World} {base : Nat}
theorem ajW : Tryz.prog.cellsOf 22 = 1 := by kernel_rfl
theorem aan : Tryz.prog.cellsOf 5 = 1 := by kernel_rfl
theorem aiC {n : Nat} {v : Value} {x : DataW H × List MemPlace} (h : DataW.trod enc Tryz.prog W 0 (fun _ => true) true n 22 [v] = some x) : ∃ (xs : List Int) (f : List Nat), (bE (aL .u8)).rep W.heap [v] xs f ∧ xs.length ≤ maxLen ∧ ∀ y ∈ xs, 0 ≤ y ∧ y < 256 := O4 Tryz.underlying22 Tryz.underlying5 aan h
end
end Go.Proofs.YtilhlobfebngdaaGreat
