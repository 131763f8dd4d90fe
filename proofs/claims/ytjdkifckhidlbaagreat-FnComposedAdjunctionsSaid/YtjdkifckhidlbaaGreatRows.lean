/-
  No cell of these rows narrows 'for every input' (looked for: loops, veiled, ifaces, maps, wideKeys, modest, calm, conditions, laid).
  DERIVED. THE GIVEN ROWS OF THIS SEAT. 7 by the template 'for every input the law returns true; each argument reads behind the call as it read before'; 0 by the template 'total and deterministic' (their statements: YtjdkifckhidlbaaGreatTotals.lean).
  GIVEN WITH THE SEED: the statements are not yours to turn. If you find one false, say at which input.
  Laid BY PROGRAM, IN A SANDBOX (cutbox-rows.mjs): the forced cells as the released guide's own fill.sh prints them over the translation c2388239a2d50b38… (all of the seat's roots in one cut). By AI agents, Wed Nov 11 2026. No macro, syntax, notation, axiom, sorry.
-/
import Derived.Test.YtjdkifckhidlbaaGreatChecked
import GoSem.Claim
import GoSem.ClaimJoined
import GoSem.ClaimMapViews
import Derived.JoinedTies
import Derived.KernelRfl
namespace Go.Proofs.YtjdkifckhidlbaaGreat
/- THE CELL 'sum', in the pinned program and in every row, IS THE sha256 OF THE DUMP (.gsa) THAT YtjdkifckhidlbaaGreatProg.lean LOADS. Nothing in Lean hashes anything: it is a label: what it is worth is what the hold of that sum in a sandbox is worth. -/
noncomputable def Tryz.pinned : Pinned := { name := "ytjdkifckhidlbaagreat", sum := "c2388239a2d50b38fcf1aeed5affcbacfb9bf498825dfb2a56a52ab63ef12d03", checked := Tryz.checked }
namespace Rows
def none {H : Type} : Left H := { results := [], args := [] }

/-- 'laws.FnPairs': WHATEVER THE INPUT: true; the input reads as it did. -/
def fnPairsSpec : ChangeSpec := { name := "fnPairs", fn := fun _ => fun
  | [d] => { results := [.lit (.bool true)], args := [d] }
  | _ => none }
def fnPairsRow : OpenClaim := { program := "ytjdkifckhidlbaagreat", sum := "c2388239a2d50b38fcf1aeed5affcbacfb9bf498825dfb2a56a52ab63ef12d03", func := "loop.example/g01083/laws.FnPairs", spec := "fnPairs", unfollowed := true, recurses := true, apart := false }
def FnPairsSaid : Prop := fnPairsRow.holds Tryz.pinned (OpenSpec.ofChange fnPairsSpec)

/-- ITS FALSE NEIGHBOUR: 'it returns false'. Refute it at one input. -/
def fnPairsWrong : ChangeSpec := { name := "fnPairs", fn := fun _ => fun
  | [d] => { results := [.lit (.bool false)], args := [d] }
  | _ => none }
def FnPairsWrongFalsely : Prop := fnPairsRow.holds Tryz.pinned (OpenSpec.ofChange fnPairsWrong)

/-- 'laws.FnTransposes': WHATEVER THE INPUT: true; the input reads as it did. -/
def fnTransposesSpec : ChangeSpec := { name := "fnTransposes", fn := fun _ => fun
  | [d] => { results := [.lit (.bool true)], args := [d] }
  | _ => none }
def fnTransposesRow : OpenClaim := { program := "ytjdkifckhidlbaagreat", sum := "c2388239a2d50b38fcf1aeed5affcbacfb9bf498825dfb2a56a52ab63ef12d03", func := "loop.example/g01083/laws.FnTransposes", spec := "fnTransposes", unfollowed := true, recurses := true, apart := false }
def FnTransposesSaid : Prop := fnTransposesRow.holds Tryz.pinned (OpenSpec.ofChange fnTransposesSpec)

/-- ITS FALSE NEIGHBOUR: 'it returns false'. Refute it at one input. -/
def fnTransposesWrong : ChangeSpec := { name := "fnTransposes", fn := fun _ => fun
  | [d] => { results := [.lit (.bool false)], args := [d] }
  | _ => none }
def FnTransposesWrongFalsely : Prop := fnTransposesRow.holds Tryz.pinned (OpenSpec.ofChange fnTransposesWrong)

/-- 'laws.FnKernelQuotients': WHATEVER THE INPUT: true; the input reads as it did. -/
def fnKernelQuotientsSpec : ChangeSpec := { name := "fnKernelQuotients", fn := fun _ => fun
  | [d] => { results := [.lit (.bool true)], args := [d] }
  | _ => none }
def fnKernelQuotientsRow : OpenClaim := { program := "ytjdkifckhidlbaagreat", sum := "c2388239a2d50b38fcf1aeed5affcbacfb9bf498825dfb2a56a52ab63ef12d03", func := "loop.example/g01083/laws.FnKernelQuotients", spec := "fnKernelQuotients", unfollowed := true, recurses := true, apart := false }
def FnKernelQuotientsSaid : Prop := fnKernelQuotientsRow.holds Tryz.pinned (OpenSpec.ofChange fnKernelQuotientsSpec)

/-- ITS FALSE NEIGHBOUR: 'it returns false'. Refute it at one input. -/
def fnKernelQuotientsWrong : ChangeSpec := { name := "fnKernelQuotients", fn := fun _ => fun
  | [d] => { results := [.lit (.bool false)], args := [d] }
  | _ => none }
def FnKernelQuotientsWrongFalsely : Prop := fnKernelQuotientsRow.holds Tryz.pinned (OpenSpec.ofChange fnKernelQuotientsWrong)

/-- 'laws.FnComposedAdjunctions': WHATEVER THE INPUT: true; the input reads as it did. -/
def fnComposedAdjunctionsSpec : ChangeSpec := { name := "fnComposedAdjunctions", fn := fun _ => fun
  | [d] => { results := [.lit (.bool true)], args := [d] }
  | _ => none }
def fnComposedAdjunctionsRow : OpenClaim := { program := "ytjdkifckhidlbaagreat", sum := "c2388239a2d50b38fcf1aeed5affcbacfb9bf498825dfb2a56a52ab63ef12d03", func := "loop.example/g01083/laws.FnComposedAdjunctions", spec := "fnComposedAdjunctions", unfollowed := true, recurses := true, apart := false }
def FnComposedAdjunctionsSaid : Prop := fnComposedAdjunctionsRow.holds Tryz.pinned (OpenSpec.ofChange fnComposedAdjunctionsSpec)

/-- ITS FALSE NEIGHBOUR: 'it returns false'. Refute it at one input. -/
def fnComposedAdjunctionsWrong : ChangeSpec := { name := "fnComposedAdjunctions", fn := fun _ => fun
  | [d] => { results := [.lit (.bool false)], args := [d] }
  | _ => none }
def FnComposedAdjunctionsWrongFalsely : Prop := fnComposedAdjunctionsRow.holds Tryz.pinned (OpenSpec.ofChange fnComposedAdjunctionsWrong)

/-- 'laws.FnQuasiInverses': WHATEVER THE INPUT: true; the input reads as it did. -/
def fnQuasiInversesSpec : ChangeSpec := { name := "fnQuasiInverses", fn := fun _ => fun
  | [d] => { results := [.lit (.bool true)], args := [d] }
  | _ => none }
def fnQuasiInversesRow : OpenClaim := { program := "ytjdkifckhidlbaagreat", sum := "c2388239a2d50b38fcf1aeed5affcbacfb9bf498825dfb2a56a52ab63ef12d03", func := "loop.example/g01083/laws.FnQuasiInverses", spec := "fnQuasiInverses", unfollowed := true, recurses := true, apart := false }
def FnQuasiInversesSaid : Prop := fnQuasiInversesRow.holds Tryz.pinned (OpenSpec.ofChange fnQuasiInversesSpec)

/-- ITS FALSE NEIGHBOUR: 'it returns false'. Refute it at one input. -/
def fnQuasiInversesWrong : ChangeSpec := { name := "fnQuasiInverses", fn := fun _ => fun
  | [d] => { results := [.lit (.bool false)], args := [d] }
  | _ => none }
def FnQuasiInversesWrongFalsely : Prop := fnQuasiInversesRow.holds Tryz.pinned (OpenSpec.ofChange fnQuasiInversesWrong)

/-- 'laws.FnElements': WHATEVER THE INPUT: true; the input reads as it did. -/
def fnElementsSpec : ChangeSpec := { name := "fnElements", fn := fun _ => fun
  | [d] => { results := [.lit (.bool true)], args := [d] }
  | _ => none }
def fnElementsRow : OpenClaim := { program := "ytjdkifckhidlbaagreat", sum := "c2388239a2d50b38fcf1aeed5affcbacfb9bf498825dfb2a56a52ab63ef12d03", func := "loop.example/g01083/laws.FnElements", spec := "fnElements", unfollowed := true, recurses := true, apart := false }
def FnElementsSaid : Prop := fnElementsRow.holds Tryz.pinned (OpenSpec.ofChange fnElementsSpec)

/-- ITS FALSE NEIGHBOUR: 'it returns false'. Refute it at one input. -/
def fnElementsWrong : ChangeSpec := { name := "fnElements", fn := fun _ => fun
  | [d] => { results := [.lit (.bool false)], args := [d] }
  | _ => none }
def FnElementsWrongFalsely : Prop := fnElementsRow.holds Tryz.pinned (OpenSpec.ofChange fnElementsWrong)

/-- 'laws.FnMapsOfElements': WHATEVER THE INPUT: true; the input reads as it did. -/
def fnMapsOfElementsSpec : ChangeSpec := { name := "fnMapsOfElements", fn := fun _ => fun
  | [d] => { results := [.lit (.bool true)], args := [d] }
  | _ => none }
def fnMapsOfElementsRow : OpenClaim := { program := "ytjdkifckhidlbaagreat", sum := "c2388239a2d50b38fcf1aeed5affcbacfb9bf498825dfb2a56a52ab63ef12d03", func := "loop.example/g01083/laws.FnMapsOfElements", spec := "fnMapsOfElements", unfollowed := true, recurses := true, apart := false }
def FnMapsOfElementsSaid : Prop := fnMapsOfElementsRow.holds Tryz.pinned (OpenSpec.ofChange fnMapsOfElementsSpec)

/-- ITS FALSE NEIGHBOUR: 'it returns false'. Refute it at one input. -/
def fnMapsOfElementsWrong : ChangeSpec := { name := "fnMapsOfElements", fn := fun _ => fun
  | [d] => { results := [.lit (.bool false)], args := [d] }
  | _ => none }
def FnMapsOfElementsWrongFalsely : Prop := fnMapsOfElementsRow.holds Tryz.pinned (OpenSpec.ofChange fnMapsOfElementsWrong)

/- THE SECOND FORM. 'bulk': how many values and letters a reading holds, each counted each time it is reached (what is shared counts as often as it is met; a slice's spare places count too). A statement '..UptoSaid' is the law's where the arguments, and the package variables that the reading takes, are together of bulk at most 1048576: NARROWER than '..Said'. Prove '..Said' where nothing that the law and all that it calls make is longer than what came in: it says more and counts as full. Else prove '..UptoSaid'. A law counts once. -/
mutual
def uptoBulk {H : Type} : DataW H → Nat
  | .lit (.string bytes) => bytes.length + 1
  | .lit _ => 1
  | .nil => 1
  | .ptr d => uptoBulk d + 1
  | .slice elems spare => uptoBulkAll elems + uptoBulkAll spare + 1
  | .agg parts => uptoBulkAll parts + 1
  | .iface _ d => uptoBulk d + 1
  | .map entries => uptoBulkEntries entries + 1
  | .held _ => 1
def uptoBulkAll {H : Type} : List (DataW H) → Nat
  | [] => 0
  | d :: r => uptoBulk d + uptoBulkAll r
def uptoBulkEntries {H : Type} : List (Lit × DataW H) → Nat
  | [] => 0
  | x :: r => uptoBulkEntry x + uptoBulkEntries r
def uptoBulkEntry {H : Type} : Lit × DataW H → Nat
  | (.string bytes, d) => bytes.length + uptoBulk d + 1
  | (_, d) => uptoBulk d + 1
 end
def uptoSmall : (H : Type) → List (DataW H) → Bool := fun _ ds => decide (uptoBulkAll ds ≤ 1048576)
def OpenSpec.upto (s : _root_.Go.ChangeSpec) : _root_.Go.OpenSpec := { _root_.Go.OpenSpec.ofChange s with cond := some uptoSmall }

/-- 'laws.FnPairs', WHERE WHAT IT READS IS OF BULK AT MOST 1048576: true; the input reads as it did. -/
def fnPairsUptoRow : OpenClaim := { program := "ytjdkifckhidlbaagreat", sum := "c2388239a2d50b38fcf1aeed5affcbacfb9bf498825dfb2a56a52ab63ef12d03", func := "loop.example/g01083/laws.FnPairs", spec := "fnPairs", unfollowed := true, recurses := true, apart := false, narrowed := true }
def FnPairsUptoSaid : Prop := fnPairsUptoRow.holds Tryz.pinned (OpenSpec.upto fnPairsSpec)

/-- 'laws.FnTransposes', WHERE WHAT IT READS IS OF BULK AT MOST 1048576: true; the input reads as it did. -/
def fnTransposesUptoRow : OpenClaim := { program := "ytjdkifckhidlbaagreat", sum := "c2388239a2d50b38fcf1aeed5affcbacfb9bf498825dfb2a56a52ab63ef12d03", func := "loop.example/g01083/laws.FnTransposes", spec := "fnTransposes", unfollowed := true, recurses := true, apart := false, narrowed := true }
def FnTransposesUptoSaid : Prop := fnTransposesUptoRow.holds Tryz.pinned (OpenSpec.upto fnTransposesSpec)

/-- 'laws.FnKernelQuotients', WHERE WHAT IT READS IS OF BULK AT MOST 1048576: true; the input reads as it did. -/
def fnKernelQuotientsUptoRow : OpenClaim := { program := "ytjdkifckhidlbaagreat", sum := "c2388239a2d50b38fcf1aeed5affcbacfb9bf498825dfb2a56a52ab63ef12d03", func := "loop.example/g01083/laws.FnKernelQuotients", spec := "fnKernelQuotients", unfollowed := true, recurses := true, apart := false, narrowed := true }
def FnKernelQuotientsUptoSaid : Prop := fnKernelQuotientsUptoRow.holds Tryz.pinned (OpenSpec.upto fnKernelQuotientsSpec)

/-- 'laws.FnComposedAdjunctions', WHERE WHAT IT READS IS OF BULK AT MOST 1048576: true; the input reads as it did. -/
def fnComposedAdjunctionsUptoRow : OpenClaim := { program := "ytjdkifckhidlbaagreat", sum := "c2388239a2d50b38fcf1aeed5affcbacfb9bf498825dfb2a56a52ab63ef12d03", func := "loop.example/g01083/laws.FnComposedAdjunctions", spec := "fnComposedAdjunctions", unfollowed := true, recurses := true, apart := false, narrowed := true }
def FnComposedAdjunctionsUptoSaid : Prop := fnComposedAdjunctionsUptoRow.holds Tryz.pinned (OpenSpec.upto fnComposedAdjunctionsSpec)

/-- 'laws.FnQuasiInverses', WHERE WHAT IT READS IS OF BULK AT MOST 1048576: true; the input reads as it did. -/
def fnQuasiInversesUptoRow : OpenClaim := { program := "ytjdkifckhidlbaagreat", sum := "c2388239a2d50b38fcf1aeed5affcbacfb9bf498825dfb2a56a52ab63ef12d03", func := "loop.example/g01083/laws.FnQuasiInverses", spec := "fnQuasiInverses", unfollowed := true, recurses := true, apart := false, narrowed := true }
def FnQuasiInversesUptoSaid : Prop := fnQuasiInversesUptoRow.holds Tryz.pinned (OpenSpec.upto fnQuasiInversesSpec)

/-- 'laws.FnElements', WHERE WHAT IT READS IS OF BULK AT MOST 1048576: true; the input reads as it did. -/
def fnElementsUptoRow : OpenClaim := { program := "ytjdkifckhidlbaagreat", sum := "c2388239a2d50b38fcf1aeed5affcbacfb9bf498825dfb2a56a52ab63ef12d03", func := "loop.example/g01083/laws.FnElements", spec := "fnElements", unfollowed := true, recurses := true, apart := false, narrowed := true }
def FnElementsUptoSaid : Prop := fnElementsUptoRow.holds Tryz.pinned (OpenSpec.upto fnElementsSpec)

/-- 'laws.FnMapsOfElements', WHERE WHAT IT READS IS OF BULK AT MOST 1048576: true; the input reads as it did. -/
def fnMapsOfElementsUptoRow : OpenClaim := { program := "ytjdkifckhidlbaagreat", sum := "c2388239a2d50b38fcf1aeed5affcbacfb9bf498825dfb2a56a52ab63ef12d03", func := "loop.example/g01083/laws.FnMapsOfElements", spec := "fnMapsOfElements", unfollowed := true, recurses := true, apart := false, narrowed := true }
def FnMapsOfElementsUptoSaid : Prop := fnMapsOfElementsUptoRow.holds Tryz.pinned (OpenSpec.upto fnMapsOfElementsSpec)

end Rows
end Go.Proofs.YtjdkifckhidlbaaGreat
