/-
  No cell of these rows narrows 'for every input' (looked for: loops, veiled, ifaces, maps, wideKeys, modest, calm, conditions, laid).
  DERIVED. THE GIVEN ROWS OF THIS SEAT. 3 by the template 'for every input the law returns true; each argument reads behind the call as it read before'; 0 by the template 'total and deterministic' (their statements: YtkhdhnpokfibjaaGreatTotals.lean).
  GIVEN WITH THE SEED: the statements are not yours to turn. If you find one false, say at which input.
  Laid BY PROGRAM, IN A SANDBOX (cutbox-rows.mjs): the forced cells as the released guide's own fill.sh prints them over the translation e1757369bccc00e9… (all of the seat's roots in one cut). By AI agents, Wed Nov 11 2026. No macro, syntax, notation, axiom, sorry.
-/
import Derived.Test.YtkhdhnpokfibjaaGreatChecked
import GoSem.Claim
import GoSem.ClaimJoined
import GoSem.ClaimMapViews
import Derived.JoinedTies
import Derived.KernelRfl
namespace Go.Proofs.YtkhdhnpokfibjaaGreat
/- THE CELL 'sum', in the pinned program and in every row, IS THE sha256 OF THE DUMP (.gsa) THAT YtkhdhnpokfibjaaGreatProg.lean LOADS. Nothing in Lean hashes anything: it is a label: what it is worth is what the hold of that sum in a sandbox is worth. -/
noncomputable def Tryz.pinned : Pinned := { name := "ytkhdhnpokfibjaagreat", sum := "e1757369bccc00e9c9727fbc65dc3328ac7a3b86ac18e10c75c53ee196add65c", checked := Tryz.checked }
namespace Rows
def none {H : Type} : Left H := { results := [], args := [] }

/-- 'laws.FnInterchange': WHATEVER THE INPUT: true; the input reads as it did. -/
def fnInterchangeSpec : ChangeSpec := { name := "fnInterchange", fn := fun _ => fun
  | [d] => { results := [.lit (.bool true)], args := [d] }
  | _ => none }
def fnInterchangeRow : OpenClaim := { program := "ytkhdhnpokfibjaagreat", sum := "e1757369bccc00e9c9727fbc65dc3328ac7a3b86ac18e10c75c53ee196add65c", func := "loop.example/g01083/laws.FnInterchange", spec := "fnInterchange", unfollowed := true, recurses := true, apart := false }
def FnInterchangeSaid : Prop := fnInterchangeRow.holds Tryz.pinned (OpenSpec.ofChange fnInterchangeSpec)

/-- ITS FALSE NEIGHBOUR: 'it returns false'. Refute it at one input. -/
def fnInterchangeWrong : ChangeSpec := { name := "fnInterchange", fn := fun _ => fun
  | [d] => { results := [.lit (.bool false)], args := [d] }
  | _ => none }
def FnInterchangeWrongFalsely : Prop := fnInterchangeRow.holds Tryz.pinned (OpenSpec.ofChange fnInterchangeWrong)

/-- 'laws.FnNaturalIsos': WHATEVER THE INPUT: true; the input reads as it did. -/
def fnNaturalIsosSpec : ChangeSpec := { name := "fnNaturalIsos", fn := fun _ => fun
  | [d] => { results := [.lit (.bool true)], args := [d] }
  | _ => none }
def fnNaturalIsosRow : OpenClaim := { program := "ytkhdhnpokfibjaagreat", sum := "e1757369bccc00e9c9727fbc65dc3328ac7a3b86ac18e10c75c53ee196add65c", func := "loop.example/g01083/laws.FnNaturalIsos", spec := "fnNaturalIsos", unfollowed := true, recurses := true, apart := false }
def FnNaturalIsosSaid : Prop := fnNaturalIsosRow.holds Tryz.pinned (OpenSpec.ofChange fnNaturalIsosSpec)

/-- ITS FALSE NEIGHBOUR: 'it returns false'. Refute it at one input. -/
def fnNaturalIsosWrong : ChangeSpec := { name := "fnNaturalIsos", fn := fun _ => fun
  | [d] => { results := [.lit (.bool false)], args := [d] }
  | _ => none }
def FnNaturalIsosWrongFalsely : Prop := fnNaturalIsosRow.holds Tryz.pinned (OpenSpec.ofChange fnNaturalIsosWrong)

/-- 'laws.FnVertical': WHATEVER THE INPUT: true; the input reads as it did. -/
def fnVerticalSpec : ChangeSpec := { name := "fnVertical", fn := fun _ => fun
  | [d] => { results := [.lit (.bool true)], args := [d] }
  | _ => none }
def fnVerticalRow : OpenClaim := { program := "ytkhdhnpokfibjaagreat", sum := "e1757369bccc00e9c9727fbc65dc3328ac7a3b86ac18e10c75c53ee196add65c", func := "loop.example/g01083/laws.FnVertical", spec := "fnVertical", unfollowed := true, recurses := true, apart := false }
def FnVerticalSaid : Prop := fnVerticalRow.holds Tryz.pinned (OpenSpec.ofChange fnVerticalSpec)

/-- ITS FALSE NEIGHBOUR: 'it returns false'. Refute it at one input. -/
def fnVerticalWrong : ChangeSpec := { name := "fnVertical", fn := fun _ => fun
  | [d] => { results := [.lit (.bool false)], args := [d] }
  | _ => none }
def FnVerticalWrongFalsely : Prop := fnVerticalRow.holds Tryz.pinned (OpenSpec.ofChange fnVerticalWrong)

/- THE SECOND FORM. 'bulk': how many values and letters a reading holds, each counted each time it is reached (what is shared counts as often as it is met; a slice's spare places count too). A statement '..UptoSaid' is the law's where the arguments, and the package variables that the reading takes, are together of bulk at most 1048576: NARROWER than '..Said'. Prove '..Said' where nothing that the law and all that it calls make is longer than what came in: it says more and counts as full. Else prove '..UptoSaid'. A law counts once. -/
mutual
def uptoBulk {H : Type} : DataW H → Nat
  | .lit (.string bytes) => bytes.length + 1
  | .lit _ => 1
  | .nil => 1
  | .ptr d => uptoBulk d + 1
  | .slice elems spare => uptoBulkAll elems + uptoBulkAll spare + 1
  | .agg parts => uptoBulkAll parts + 1
  | .iface _ d => uptoBulk d + 1
  | .map entries => uptoBulkEntries entries + 1
  | .held _ => 1
def uptoBulkAll {H : Type} : List (DataW H) → Nat
  | [] => 0
  | d :: r => uptoBulk d + uptoBulkAll r
def uptoBulkEntries {H : Type} : List (Lit × DataW H) → Nat
  | [] => 0
  | x :: r => uptoBulkEntry x + uptoBulkEntries r
def uptoBulkEntry {H : Type} : Lit × DataW H → Nat
  | (.string bytes, d) => bytes.length + uptoBulk d + 1
  | (_, d) => uptoBulk d + 1
 end
def uptoSmall : (H : Type) → List (DataW H) → Bool := fun _ ds => decide (uptoBulkAll ds ≤ 1048576)
def OpenSpec.upto (s : _root_.Go.ChangeSpec) : _root_.Go.OpenSpec := { _root_.Go.OpenSpec.ofChange s with cond := some uptoSmall }

/-- 'laws.FnInterchange', WHERE WHAT IT READS IS OF BULK AT MOST 1048576: true; the input reads as it did. -/
def fnInterchangeUptoRow : OpenClaim := { program := "ytkhdhnpokfibjaagreat", sum := "e1757369bccc00e9c9727fbc65dc3328ac7a3b86ac18e10c75c53ee196add65c", func := "loop.example/g01083/laws.FnInterchange", spec := "fnInterchange", unfollowed := true, recurses := true, apart := false, narrowed := true }
def FnInterchangeUptoSaid : Prop := fnInterchangeUptoRow.holds Tryz.pinned (OpenSpec.upto fnInterchangeSpec)

/-- 'laws.FnNaturalIsos', WHERE WHAT IT READS IS OF BULK AT MOST 1048576: true; the input reads as it did. -/
def fnNaturalIsosUptoRow : OpenClaim := { program := "ytkhdhnpokfibjaagreat", sum := "e1757369bccc00e9c9727fbc65dc3328ac7a3b86ac18e10c75c53ee196add65c", func := "loop.example/g01083/laws.FnNaturalIsos", spec := "fnNaturalIsos", unfollowed := true, recurses := true, apart := false, narrowed := true }
def FnNaturalIsosUptoSaid : Prop := fnNaturalIsosUptoRow.holds Tryz.pinned (OpenSpec.upto fnNaturalIsosSpec)

/-- 'laws.FnVertical', WHERE WHAT IT READS IS OF BULK AT MOST 1048576: true; the input reads as it did. -/
def fnVerticalUptoRow : OpenClaim := { program := "ytkhdhnpokfibjaagreat", sum := "e1757369bccc00e9c9727fbc65dc3328ac7a3b86ac18e10c75c53ee196add65c", func := "loop.example/g01083/laws.FnVertical", spec := "fnVertical", unfollowed := true, recurses := true, apart := false, narrowed := true }
def FnVerticalUptoSaid : Prop := fnVerticalUptoRow.holds Tryz.pinned (OpenSpec.upto fnVerticalSpec)

end Rows
end Go.Proofs.YtkhdhnpokfibjaaGreat
