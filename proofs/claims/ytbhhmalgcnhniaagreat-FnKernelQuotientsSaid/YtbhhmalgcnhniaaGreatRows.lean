/-
  No cell of these rows narrows 'for every input' (looked for: loops, veiled, ifaces, maps, wideKeys, modest, calm, conditions, laid).
  DERIVED. THE GIVEN ROWS OF THIS SEAT. 4 by the template 'for every input the law returns true; each argument reads behind the call as it read before'; 0 by the template 'total and deterministic' (their statements: YtbhhmalgcnhniaaGreatTotals.lean).
  GIVEN WITH THE SEED: the statements are not yours to turn. If you find one false, say at which input.
  Laid BY PROGRAM, IN A SANDBOX (cutbox-rows.mjs): the forced cells as the released guide's own fill.sh prints them over the translation c803429757fb54ae… (all of the seat's roots in one cut). By AI agents, Wed Nov 11 2026. No macro, syntax, notation, axiom, sorry.
-/
import Derived.Test.YtbhhmalgcnhniaaGreatChecked
import GoSem.Claim
import GoSem.ClaimJoined
import GoSem.ClaimMapViews
import Derived.JoinedTies
import Derived.KernelRfl
namespace Go.Proofs.YtbhhmalgcnhniaaGreat
/- THE CELL 'sum', in the pinned program and in every row, IS THE sha256 OF THE DUMP (.gsa) THAT YtbhhmalgcnhniaaGreatProg.lean LOADS. Nothing in Lean hashes anything: it is a label: what it is worth is what the hold of that sum in a sandbox is worth. -/
noncomputable def Tryz.pinned : Pinned := { name := "ytbhhmalgcnhniaagreat", sum := "c803429757fb54aef22d067c6ee2d69979881a05c96284e887f4f140a77a2eee", checked := Tryz.checked }
namespace Rows
def none {H : Type} : Left H := { results := [], args := [] }

/-- 'laws.FnExactAdjunctionsBetween': WHATEVER THE INPUT: true; the input reads as it did. -/
def fnExactAdjunctionsBetweenSpec : ChangeSpec := { name := "fnExactAdjunctionsBetween", fn := fun _ => fun
  | [d1, d2] => { results := [.lit (.bool true)], args := [d1, d2] }
  | _ => none }
def fnExactAdjunctionsBetweenRow : OpenClaim := { program := "ytbhhmalgcnhniaagreat", sum := "c803429757fb54aef22d067c6ee2d69979881a05c96284e887f4f140a77a2eee", func := "loop.example/g01083/laws.FnExactAdjunctionsBetween", spec := "fnExactAdjunctionsBetween", unfollowed := true, recurses := true, apart := false }
def FnExactAdjunctionsBetweenSaid : Prop := fnExactAdjunctionsBetweenRow.holds Tryz.pinned (OpenSpec.ofChange fnExactAdjunctionsBetweenSpec)

/-- ITS FALSE NEIGHBOUR: 'it returns false'. Refute it at one input. -/
def fnExactAdjunctionsBetweenWrong : ChangeSpec := { name := "fnExactAdjunctionsBetween", fn := fun _ => fun
  | [d1, d2] => { results := [.lit (.bool false)], args := [d1, d2] }
  | _ => none }
def FnExactAdjunctionsBetweenWrongFalsely : Prop := fnExactAdjunctionsBetweenRow.holds Tryz.pinned (OpenSpec.ofChange fnExactAdjunctionsBetweenWrong)

/-- 'laws.FnPairs': WHATEVER THE INPUT: true; the input reads as it did. -/
def fnPairsSpec : ChangeSpec := { name := "fnPairs", fn := fun _ => fun
  | [d] => { results := [.lit (.bool true)], args := [d] }
  | _ => none }
def fnPairsRow : OpenClaim := { program := "ytbhhmalgcnhniaagreat", sum := "c803429757fb54aef22d067c6ee2d69979881a05c96284e887f4f140a77a2eee", func := "loop.example/g01083/laws.FnPairs", spec := "fnPairs", unfollowed := true, recurses := true, apart := false }
def FnPairsSaid : Prop := fnPairsRow.holds Tryz.pinned (OpenSpec.ofChange fnPairsSpec)

/-- ITS FALSE NEIGHBOUR: 'it returns false'. Refute it at one input. -/
def fnPairsWrong : ChangeSpec := { name := "fnPairs", fn := fun _ => fun
  | [d] => { results := [.lit (.bool false)], args := [d] }
  | _ => none }
def FnPairsWrongFalsely : Prop := fnPairsRow.holds Tryz.pinned (OpenSpec.ofChange fnPairsWrong)

/-- 'laws.FnKernelQuotients': WHATEVER THE INPUT: true; the input reads as it did. -/
def fnKernelQuotientsSpec : ChangeSpec := { name := "fnKernelQuotients", fn := fun _ => fun
  | [d] => { results := [.lit (.bool true)], args := [d] }
  | _ => none }
def fnKernelQuotientsRow : OpenClaim := { program := "ytbhhmalgcnhniaagreat", sum := "c803429757fb54aef22d067c6ee2d69979881a05c96284e887f4f140a77a2eee", func := "loop.example/g01083/laws.FnKernelQuotients", spec := "fnKernelQuotients", unfollowed := true, recurses := true, apart := false }
def FnKernelQuotientsSaid : Prop := fnKernelQuotientsRow.holds Tryz.pinned (OpenSpec.ofChange fnKernelQuotientsSpec)

/-- ITS FALSE NEIGHBOUR: 'it returns false'. Refute it at one input. -/
def fnKernelQuotientsWrong : ChangeSpec := { name := "fnKernelQuotients", fn := fun _ => fun
  | [d] => { results := [.lit (.bool false)], args := [d] }
  | _ => none }
def FnKernelQuotientsWrongFalsely : Prop := fnKernelQuotientsRow.holds Tryz.pinned (OpenSpec.ofChange fnKernelQuotientsWrong)

/-- 'laws.FnQuasiInverses': WHATEVER THE INPUT: true; the input reads as it did. -/
def fnQuasiInversesSpec : ChangeSpec := { name := "fnQuasiInverses", fn := fun _ => fun
  | [d] => { results := [.lit (.bool true)], args := [d] }
  | _ => none }
def fnQuasiInversesRow : OpenClaim := { program := "ytbhhmalgcnhniaagreat", sum := "c803429757fb54aef22d067c6ee2d69979881a05c96284e887f4f140a77a2eee", func := "loop.example/g01083/laws.FnQuasiInverses", spec := "fnQuasiInverses", unfollowed := true, recurses := true, apart := false }
def FnQuasiInversesSaid : Prop := fnQuasiInversesRow.holds Tryz.pinned (OpenSpec.ofChange fnQuasiInversesSpec)

/-- ITS FALSE NEIGHBOUR: 'it returns false'. Refute it at one input. -/
def fnQuasiInversesWrong : ChangeSpec := { name := "fnQuasiInverses", fn := fun _ => fun
  | [d] => { results := [.lit (.bool false)], args := [d] }
  | _ => none }
def FnQuasiInversesWrongFalsely : Prop := fnQuasiInversesRow.holds Tryz.pinned (OpenSpec.ofChange fnQuasiInversesWrong)

/- THE SECOND FORM. 'bulk': how many values and letters a reading holds, each counted each time it is reached (what is shared counts as often as it is met; a slice's spare places count too). A statement '..UptoSaid' is the law's where the arguments, and the package variables that the reading takes, are together of bulk at most 1048576: NARROWER than '..Said'. Prove '..Said' where nothing that the law and all that it calls make is longer than what came in: it says more and counts as full. Else prove '..UptoSaid'. A law counts once. -/
mutual
def uptoBulk {H : Type} : DataW H → Nat
  | .lit (.string bytes) => bytes.length + 1
  | .lit _ => 1
  | .nil => 1
  | .ptr d => uptoBulk d + 1
  | .slice elems spare => uptoBulkAll elems + uptoBulkAll spare + 1
  | .agg parts => uptoBulkAll parts + 1
  | .iface _ d => uptoBulk d + 1
  | .map entries => uptoBulkEntries entries + 1
  | .held _ => 1
def uptoBulkAll {H : Type} : List (DataW H) → Nat
  | [] => 0
  | d :: r => uptoBulk d + uptoBulkAll r
def uptoBulkEntries {H : Type} : List (Lit × DataW H) → Nat
  | [] => 0
  | x :: r => uptoBulkEntry x + uptoBulkEntries r
def uptoBulkEntry {H : Type} : Lit × DataW H → Nat
  | (.string bytes, d) => bytes.length + uptoBulk d + 1
  | (_, d) => uptoBulk d + 1
 end
def uptoSmall : (H : Type) → List (DataW H) → Bool := fun _ ds => decide (uptoBulkAll ds ≤ 1048576)
def OpenSpec.upto (s : _root_.Go.ChangeSpec) : _root_.Go.OpenSpec := { _root_.Go.OpenSpec.ofChange s with cond := some uptoSmall }

/-- 'laws.FnExactAdjunctionsBetween', WHERE WHAT IT READS IS OF BULK AT MOST 1048576: true; the input reads as it did. -/
def fnExactAdjunctionsBetweenUptoRow : OpenClaim := { program := "ytbhhmalgcnhniaagreat", sum := "c803429757fb54aef22d067c6ee2d69979881a05c96284e887f4f140a77a2eee", func := "loop.example/g01083/laws.FnExactAdjunctionsBetween", spec := "fnExactAdjunctionsBetween", unfollowed := true, recurses := true, apart := false, narrowed := true }
def FnExactAdjunctionsBetweenUptoSaid : Prop := fnExactAdjunctionsBetweenUptoRow.holds Tryz.pinned (OpenSpec.upto fnExactAdjunctionsBetweenSpec)

/-- 'laws.FnPairs', WHERE WHAT IT READS IS OF BULK AT MOST 1048576: true; the input reads as it did. -/
def fnPairsUptoRow : OpenClaim := { program := "ytbhhmalgcnhniaagreat", sum := "c803429757fb54aef22d067c6ee2d69979881a05c96284e887f4f140a77a2eee", func := "loop.example/g01083/laws.FnPairs", spec := "fnPairs", unfollowed := true, recurses := true, apart := false, narrowed := true }
def FnPairsUptoSaid : Prop := fnPairsUptoRow.holds Tryz.pinned (OpenSpec.upto fnPairsSpec)

/-- 'laws.FnKernelQuotients', WHERE WHAT IT READS IS OF BULK AT MOST 1048576: true; the input reads as it did. -/
def fnKernelQuotientsUptoRow : OpenClaim := { program := "ytbhhmalgcnhniaagreat", sum := "c803429757fb54aef22d067c6ee2d69979881a05c96284e887f4f140a77a2eee", func := "loop.example/g01083/laws.FnKernelQuotients", spec := "fnKernelQuotients", unfollowed := true, recurses := true, apart := false, narrowed := true }
def FnKernelQuotientsUptoSaid : Prop := fnKernelQuotientsUptoRow.holds Tryz.pinned (OpenSpec.upto fnKernelQuotientsSpec)

/-- 'laws.FnQuasiInverses', WHERE WHAT IT READS IS OF BULK AT MOST 1048576: true; the input reads as it did. -/
def fnQuasiInversesUptoRow : OpenClaim := { program := "ytbhhmalgcnhniaagreat", sum := "c803429757fb54aef22d067c6ee2d69979881a05c96284e887f4f140a77a2eee", func := "loop.example/g01083/laws.FnQuasiInverses", spec := "fnQuasiInverses", unfollowed := true, recurses := true, apart := false, narrowed := true }
def FnQuasiInversesUptoSaid : Prop := fnQuasiInversesUptoRow.holds Tryz.pinned (OpenSpec.upto fnQuasiInversesSpec)

end Rows
end Go.Proofs.YtbhhmalgcnhniaaGreat
