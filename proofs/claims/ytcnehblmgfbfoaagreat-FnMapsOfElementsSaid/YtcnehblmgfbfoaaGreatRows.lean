/-
  No cell of these rows narrows 'for every input' (looked for: loops, veiled, ifaces, maps, wideKeys, modest, calm, conditions, laid).
  DERIVED. THE GIVEN ROWS OF THIS SEAT. 5 by the template 'for every input the law returns true; each argument reads behind the call as it read before'; 0 by the template 'total and deterministic' (their statements: YtcnehblmgfbfoaaGreatTotals.lean).
  GIVEN WITH THE SEED: the statements are not yours to turn. If you find one false, say at which input.
  Laid BY PROGRAM, IN A SANDBOX (cutbox-rows.mjs): the forced cells as the released guide's own fill.sh prints them over the translation d076f98a7f5680a8… (all of the seat's roots in one cut). By AI agents, Wed Nov 11 2026. No macro, syntax, notation, axiom, sorry.
-/
import Derived.Test.YtcnehblmgfbfoaaGreatChecked
import GoSem.Claim
import GoSem.ClaimJoined
import GoSem.ClaimMapViews
import Derived.JoinedTies
import Derived.KernelRfl
namespace Go.Proofs.YtcnehblmgfbfoaaGreat
/- THE CELL 'sum', in the pinned program and in every row, IS THE sha256 OF THE DUMP (.gsa) THAT YtcnehblmgfbfoaaGreatProg.lean LOADS. Nothing in Lean hashes anything: it is a label: what it is worth is what the hold of that sum in a sandbox is worth. -/
noncomputable def Tryz.pinned : Pinned := { name := "ytcnehblmgfbfoaagreat", sum := "d076f98a7f5680a8248e6b978fabcc443b183e29ef511cae0d90acaf31cd63f1", checked := Tryz.checked }
namespace Rows
def none {H : Type} : Left H := { results := [], args := [] }

/-- 'laws.FnExactKleisliComparison': WHATEVER THE INPUT: true; the input reads as it did. -/
def fnExactKleisliComparisonSpec : ChangeSpec := { name := "fnExactKleisliComparison", fn := fun _ => fun
  | [d] => { results := [.lit (.bool true)], args := [d] }
  | _ => none }
def fnExactKleisliComparisonRow : OpenClaim := { program := "ytcnehblmgfbfoaagreat", sum := "d076f98a7f5680a8248e6b978fabcc443b183e29ef511cae0d90acaf31cd63f1", func := "loop.example/g01083/laws.FnExactKleisliComparison", spec := "fnExactKleisliComparison", unfollowed := true, recurses := true, apart := false }
def FnExactKleisliComparisonSaid : Prop := fnExactKleisliComparisonRow.holds Tryz.pinned (OpenSpec.ofChange fnExactKleisliComparisonSpec)

/-- ITS FALSE NEIGHBOUR: 'it returns false'. Refute it at one input. -/
def fnExactKleisliComparisonWrong : ChangeSpec := { name := "fnExactKleisliComparison", fn := fun _ => fun
  | [d] => { results := [.lit (.bool false)], args := [d] }
  | _ => none }
def FnExactKleisliComparisonWrongFalsely : Prop := fnExactKleisliComparisonRow.holds Tryz.pinned (OpenSpec.ofChange fnExactKleisliComparisonWrong)

/-- 'laws.FnExactIsMonadic': WHATEVER THE INPUT: true; the input reads as it did. -/
def fnExactIsMonadicSpec : ChangeSpec := { name := "fnExactIsMonadic", fn := fun _ => fun
  | [d] => { results := [.lit (.bool true)], args := [d] }
  | _ => none }
def fnExactIsMonadicRow : OpenClaim := { program := "ytcnehblmgfbfoaagreat", sum := "d076f98a7f5680a8248e6b978fabcc443b183e29ef511cae0d90acaf31cd63f1", func := "loop.example/g01083/laws.FnExactIsMonadic", spec := "fnExactIsMonadic", unfollowed := true, recurses := true, apart := false }
def FnExactIsMonadicSaid : Prop := fnExactIsMonadicRow.holds Tryz.pinned (OpenSpec.ofChange fnExactIsMonadicSpec)

/-- ITS FALSE NEIGHBOUR: 'it returns false'. Refute it at one input. -/
def fnExactIsMonadicWrong : ChangeSpec := { name := "fnExactIsMonadic", fn := fun _ => fun
  | [d] => { results := [.lit (.bool false)], args := [d] }
  | _ => none }
def FnExactIsMonadicWrongFalsely : Prop := fnExactIsMonadicRow.holds Tryz.pinned (OpenSpec.ofChange fnExactIsMonadicWrong)

/-- 'laws.FnPairs': WHATEVER THE INPUT: true; the input reads as it did. -/
def fnPairsSpec : ChangeSpec := { name := "fnPairs", fn := fun _ => fun
  | [d] => { results := [.lit (.bool true)], args := [d] }
  | _ => none }
def fnPairsRow : OpenClaim := { program := "ytcnehblmgfbfoaagreat", sum := "d076f98a7f5680a8248e6b978fabcc443b183e29ef511cae0d90acaf31cd63f1", func := "loop.example/g01083/laws.FnPairs", spec := "fnPairs", unfollowed := true, recurses := true, apart := false }
def FnPairsSaid : Prop := fnPairsRow.holds Tryz.pinned (OpenSpec.ofChange fnPairsSpec)

/-- ITS FALSE NEIGHBOUR: 'it returns false'. Refute it at one input. -/
def fnPairsWrong : ChangeSpec := { name := "fnPairs", fn := fun _ => fun
  | [d] => { results := [.lit (.bool false)], args := [d] }
  | _ => none }
def FnPairsWrongFalsely : Prop := fnPairsRow.holds Tryz.pinned (OpenSpec.ofChange fnPairsWrong)

/-- 'laws.FnElements': WHATEVER THE INPUT: true; the input reads as it did. -/
def fnElementsSpec : ChangeSpec := { name := "fnElements", fn := fun _ => fun
  | [d] => { results := [.lit (.bool true)], args := [d] }
  | _ => none }
def fnElementsRow : OpenClaim := { program := "ytcnehblmgfbfoaagreat", sum := "d076f98a7f5680a8248e6b978fabcc443b183e29ef511cae0d90acaf31cd63f1", func := "loop.example/g01083/laws.FnElements", spec := "fnElements", unfollowed := true, recurses := true, apart := false }
def FnElementsSaid : Prop := fnElementsRow.holds Tryz.pinned (OpenSpec.ofChange fnElementsSpec)

/-- ITS FALSE NEIGHBOUR: 'it returns false'. Refute it at one input. -/
def fnElementsWrong : ChangeSpec := { name := "fnElements", fn := fun _ => fun
  | [d] => { results := [.lit (.bool false)], args := [d] }
  | _ => none }
def FnElementsWrongFalsely : Prop := fnElementsRow.holds Tryz.pinned (OpenSpec.ofChange fnElementsWrong)

/-- 'laws.FnMapsOfElements': WHATEVER THE INPUT: true; the input reads as it did. -/
def fnMapsOfElementsSpec : ChangeSpec := { name := "fnMapsOfElements", fn := fun _ => fun
  | [d] => { results := [.lit (.bool true)], args := [d] }
  | _ => none }
def fnMapsOfElementsRow : OpenClaim := { program := "ytcnehblmgfbfoaagreat", sum := "d076f98a7f5680a8248e6b978fabcc443b183e29ef511cae0d90acaf31cd63f1", func := "loop.example/g01083/laws.FnMapsOfElements", spec := "fnMapsOfElements", unfollowed := true, recurses := true, apart := false }
def FnMapsOfElementsSaid : Prop := fnMapsOfElementsRow.holds Tryz.pinned (OpenSpec.ofChange fnMapsOfElementsSpec)

/-- ITS FALSE NEIGHBOUR: 'it returns false'. Refute it at one input. -/
def fnMapsOfElementsWrong : ChangeSpec := { name := "fnMapsOfElements", fn := fun _ => fun
  | [d] => { results := [.lit (.bool false)], args := [d] }
  | _ => none }
def FnMapsOfElementsWrongFalsely : Prop := fnMapsOfElementsRow.holds Tryz.pinned (OpenSpec.ofChange fnMapsOfElementsWrong)

/- THE SECOND FORM. 'bulk': how many values and letters a reading holds, each counted each time it is reached (what is shared counts as often as it is met; a slice's spare places count too). A statement '..UptoSaid' is the law's where the arguments, and the package variables that the reading takes, are together of bulk at most 1048576: NARROWER than '..Said'. Prove '..Said' where nothing that the law and all that it calls make is longer than what came in: it says more and counts as full. Else prove '..UptoSaid'. A law counts once. -/
mutual
def uptoBulk {H : Type} : DataW H → Nat
  | .lit (.string bytes) => bytes.length + 1
  | .lit _ => 1
  | .nil => 1
  | .ptr d => uptoBulk d + 1
  | .slice elems spare => uptoBulkAll elems + uptoBulkAll spare + 1
  | .agg parts => uptoBulkAll parts + 1
  | .iface _ d => uptoBulk d + 1
  | .map entries => uptoBulkEntries entries + 1
  | .held _ => 1
def uptoBulkAll {H : Type} : List (DataW H) → Nat
  | [] => 0
  | d :: r => uptoBulk d + uptoBulkAll r
def uptoBulkEntries {H : Type} : List (Lit × DataW H) → Nat
  | [] => 0
  | x :: r => uptoBulkEntry x + uptoBulkEntries r
def uptoBulkEntry {H : Type} : Lit × DataW H → Nat
  | (.string bytes, d) => bytes.length + uptoBulk d + 1
  | (_, d) => uptoBulk d + 1
 end
def uptoSmall : (H : Type) → List (DataW H) → Bool := fun _ ds => decide (uptoBulkAll ds ≤ 1048576)
def OpenSpec.upto (s : _root_.Go.ChangeSpec) : _root_.Go.OpenSpec := { _root_.Go.OpenSpec.ofChange s with cond := some uptoSmall }

/-- 'laws.FnExactKleisliComparison', WHERE WHAT IT READS IS OF BULK AT MOST 1048576: true; the input reads as it did. -/
def fnExactKleisliComparisonUptoRow : OpenClaim := { program := "ytcnehblmgfbfoaagreat", sum := "d076f98a7f5680a8248e6b978fabcc443b183e29ef511cae0d90acaf31cd63f1", func := "loop.example/g01083/laws.FnExactKleisliComparison", spec := "fnExactKleisliComparison", unfollowed := true, recurses := true, apart := false, narrowed := true }
def FnExactKleisliComparisonUptoSaid : Prop := fnExactKleisliComparisonUptoRow.holds Tryz.pinned (OpenSpec.upto fnExactKleisliComparisonSpec)

/-- 'laws.FnExactIsMonadic', WHERE WHAT IT READS IS OF BULK AT MOST 1048576: true; the input reads as it did. -/
def fnExactIsMonadicUptoRow : OpenClaim := { program := "ytcnehblmgfbfoaagreat", sum := "d076f98a7f5680a8248e6b978fabcc443b183e29ef511cae0d90acaf31cd63f1", func := "loop.example/g01083/laws.FnExactIsMonadic", spec := "fnExactIsMonadic", unfollowed := true, recurses := true, apart := false, narrowed := true }
def FnExactIsMonadicUptoSaid : Prop := fnExactIsMonadicUptoRow.holds Tryz.pinned (OpenSpec.upto fnExactIsMonadicSpec)

/-- 'laws.FnPairs', WHERE WHAT IT READS IS OF BULK AT MOST 1048576: true; the input reads as it did. -/
def fnPairsUptoRow : OpenClaim := { program := "ytcnehblmgfbfoaagreat", sum := "d076f98a7f5680a8248e6b978fabcc443b183e29ef511cae0d90acaf31cd63f1", func := "loop.example/g01083/laws.FnPairs", spec := "fnPairs", unfollowed := true, recurses := true, apart := false, narrowed := true }
def FnPairsUptoSaid : Prop := fnPairsUptoRow.holds Tryz.pinned (OpenSpec.upto fnPairsSpec)

/-- 'laws.FnElements', WHERE WHAT IT READS IS OF BULK AT MOST 1048576: true; the input reads as it did. -/
def fnElementsUptoRow : OpenClaim := { program := "ytcnehblmgfbfoaagreat", sum := "d076f98a7f5680a8248e6b978fabcc443b183e29ef511cae0d90acaf31cd63f1", func := "loop.example/g01083/laws.FnElements", spec := "fnElements", unfollowed := true, recurses := true, apart := false, narrowed := true }
def FnElementsUptoSaid : Prop := fnElementsUptoRow.holds Tryz.pinned (OpenSpec.upto fnElementsSpec)

/-- 'laws.FnMapsOfElements', WHERE WHAT IT READS IS OF BULK AT MOST 1048576: true; the input reads as it did. -/
def fnMapsOfElementsUptoRow : OpenClaim := { program := "ytcnehblmgfbfoaagreat", sum := "d076f98a7f5680a8248e6b978fabcc443b183e29ef511cae0d90acaf31cd63f1", func := "loop.example/g01083/laws.FnMapsOfElements", spec := "fnMapsOfElements", unfollowed := true, recurses := true, apart := false, narrowed := true }
def FnMapsOfElementsUptoSaid : Prop := fnMapsOfElementsUptoRow.holds Tryz.pinned (OpenSpec.upto fnMapsOfElementsSpec)

end Rows
end Go.Proofs.YtcnehblmgfbfoaaGreat
