/-
  No cell of these rows narrows 'for every input' (looked for: loops, veiled, ifaces, maps, wideKeys, modest, calm, conditions, laid).
  DERIVED. THE GIVEN ROWS OF THIS SEAT. 4 by the template 'for every input the law returns true; each argument reads behind the call as it read before'; 0 by the template 'total and deterministic' (their statements: YtkcpiblgpnjanaaGreatTotals.lean).
  GIVEN WITH THE SEED: the statements are not yours to turn. If you find one false, say at which input.
  Laid BY PROGRAM, IN A SANDBOX (cutbox-rows.mjs): the forced cells as the released guide's own fill.sh prints them over the translation db68e559ec79e730… (all of the seat's roots in one cut). By AI agents, Wed Nov 11 2026. No macro, syntax, notation, axiom, sorry.
-/
import Derived.Test.YtkcpiblgpnjanaaGreatChecked
import GoSem.Claim
import GoSem.ClaimJoined
import GoSem.ClaimMapViews
import Derived.JoinedTies
import Derived.KernelRfl
namespace Go.Proofs.YtkcpiblgpnjanaaGreat
/- THE CELL 'sum', in the pinned program and in every row, IS THE sha256 OF THE DUMP (.gsa) THAT YtkcpiblgpnjanaaGreatProg.lean LOADS. Nothing in Lean hashes anything: it is a label: what it is worth is what the hold of that sum in a sandbox is worth. -/
noncomputable def Tryz.pinned : Pinned := { name := "ytkcpiblgpnjanaagreat", sum := "db68e559ec79e7306c954bf3c2227d4ab7950f9724654cc91814bf9a1e36b07e", checked := Tryz.checked }
namespace Rows
def none {H : Type} : Left H := { results := [], args := [] }

/-- 'laws.FnNaturalIsos': WHATEVER THE INPUT: true; the input reads as it did. -/
def fnNaturalIsosSpec : ChangeSpec := { name := "fnNaturalIsos", fn := fun _ => fun
  | [d] => { results := [.lit (.bool true)], args := [d] }
  | _ => none }
def fnNaturalIsosRow : OpenClaim := { program := "ytkcpiblgpnjanaagreat", sum := "db68e559ec79e7306c954bf3c2227d4ab7950f9724654cc91814bf9a1e36b07e", func := "loop.example/g01083/laws.FnNaturalIsos", spec := "fnNaturalIsos", unfollowed := true, recurses := true, apart := false }
def FnNaturalIsosSaid : Prop := fnNaturalIsosRow.holds Tryz.pinned (OpenSpec.ofChange fnNaturalIsosSpec)

/-- ITS FALSE NEIGHBOUR: 'it returns false'. Refute it at one input. -/
def fnNaturalIsosWrong : ChangeSpec := { name := "fnNaturalIsos", fn := fun _ => fun
  | [d] => { results := [.lit (.bool false)], args := [d] }
  | _ => none }
def FnNaturalIsosWrongFalsely : Prop := fnNaturalIsosRow.holds Tryz.pinned (OpenSpec.ofChange fnNaturalIsosWrong)

/-- 'laws.FnVertical': WHATEVER THE INPUT: true; the input reads as it did. -/
def fnVerticalSpec : ChangeSpec := { name := "fnVertical", fn := fun _ => fun
  | [d] => { results := [.lit (.bool true)], args := [d] }
  | _ => none }
def fnVerticalRow : OpenClaim := { program := "ytkcpiblgpnjanaagreat", sum := "db68e559ec79e7306c954bf3c2227d4ab7950f9724654cc91814bf9a1e36b07e", func := "loop.example/g01083/laws.FnVertical", spec := "fnVertical", unfollowed := true, recurses := true, apart := false }
def FnVerticalSaid : Prop := fnVerticalRow.holds Tryz.pinned (OpenSpec.ofChange fnVerticalSpec)

/-- ITS FALSE NEIGHBOUR: 'it returns false'. Refute it at one input. -/
def fnVerticalWrong : ChangeSpec := { name := "fnVertical", fn := fun _ => fun
  | [d] => { results := [.lit (.bool false)], args := [d] }
  | _ => none }
def FnVerticalWrongFalsely : Prop := fnVerticalRow.holds Tryz.pinned (OpenSpec.ofChange fnVerticalWrong)

/-- 'laws.FnElements': WHATEVER THE INPUT: true; the input reads as it did. -/
def fnElementsSpec : ChangeSpec := { name := "fnElements", fn := fun _ => fun
  | [d] => { results := [.lit (.bool true)], args := [d] }
  | _ => none }
def fnElementsRow : OpenClaim := { program := "ytkcpiblgpnjanaagreat", sum := "db68e559ec79e7306c954bf3c2227d4ab7950f9724654cc91814bf9a1e36b07e", func := "loop.example/g01083/laws.FnElements", spec := "fnElements", unfollowed := true, recurses := true, apart := false }
def FnElementsSaid : Prop := fnElementsRow.holds Tryz.pinned (OpenSpec.ofChange fnElementsSpec)

/-- ITS FALSE NEIGHBOUR: 'it returns false'. Refute it at one input. -/
def fnElementsWrong : ChangeSpec := { name := "fnElements", fn := fun _ => fun
  | [d] => { results := [.lit (.bool false)], args := [d] }
  | _ => none }
def FnElementsWrongFalsely : Prop := fnElementsRow.holds Tryz.pinned (OpenSpec.ofChange fnElementsWrong)

/-- 'laws.FnMapsOfElements': WHATEVER THE INPUT: true; the input reads as it did. -/
def fnMapsOfElementsSpec : ChangeSpec := { name := "fnMapsOfElements", fn := fun _ => fun
  | [d] => { results := [.lit (.bool true)], args := [d] }
  | _ => none }
def fnMapsOfElementsRow : OpenClaim := { program := "ytkcpiblgpnjanaagreat", sum := "db68e559ec79e7306c954bf3c2227d4ab7950f9724654cc91814bf9a1e36b07e", func := "loop.example/g01083/laws.FnMapsOfElements", spec := "fnMapsOfElements", unfollowed := true, recurses := true, apart := false }
def FnMapsOfElementsSaid : Prop := fnMapsOfElementsRow.holds Tryz.pinned (OpenSpec.ofChange fnMapsOfElementsSpec)

/-- ITS FALSE NEIGHBOUR: 'it returns false'. Refute it at one input. -/
def fnMapsOfElementsWrong : ChangeSpec := { name := "fnMapsOfElements", fn := fun _ => fun
  | [d] => { results := [.lit (.bool false)], args := [d] }
  | _ => none }
def FnMapsOfElementsWrongFalsely : Prop := fnMapsOfElementsRow.holds Tryz.pinned (OpenSpec.ofChange fnMapsOfElementsWrong)

/- THE SECOND FORM. 'bulk': how many values and letters a reading holds, each counted each time it is reached (what is shared counts as often as it is met; a slice's spare places count too). A statement '..UptoSaid' is the law's where the arguments, and the package variables that the reading takes, are together of bulk at most 1048576: NARROWER than '..Said'. Prove '..Said' where nothing that the law and all that it calls make is longer than what came in: it says more and counts as full. Else prove '..UptoSaid'. A law counts once. -/
mutual
def uptoBulk {H : Type} : DataW H → Nat
  | .lit (.string bytes) => bytes.length + 1
  | .lit _ => 1
  | .nil => 1
  | .ptr d => uptoBulk d + 1
  | .slice elems spare => uptoBulkAll elems + uptoBulkAll spare + 1
  | .agg parts => uptoBulkAll parts + 1
  | .iface _ d => uptoBulk d + 1
  | .map entries => uptoBulkEntries entries + 1
  | .held _ => 1
def uptoBulkAll {H : Type} : List (DataW H) → Nat
  | [] => 0
  | d :: r => uptoBulk d + uptoBulkAll r
def uptoBulkEntries {H : Type} : List (Lit × DataW H) → Nat
  | [] => 0
  | x :: r => uptoBulkEntry x + uptoBulkEntries r
def uptoBulkEntry {H : Type} : Lit × DataW H → Nat
  | (.string bytes, d) => bytes.length + uptoBulk d + 1
  | (_, d) => uptoBulk d + 1
 end
def uptoSmall : (H : Type) → List (DataW H) → Bool := fun _ ds => decide (uptoBulkAll ds ≤ 1048576)
def OpenSpec.upto (s : _root_.Go.ChangeSpec) : _root_.Go.OpenSpec := { _root_.Go.OpenSpec.ofChange s with cond := some uptoSmall }

/-- 'laws.FnNaturalIsos', WHERE WHAT IT READS IS OF BULK AT MOST 1048576: true; the input reads as it did. -/
def fnNaturalIsosUptoRow : OpenClaim := { program := "ytkcpiblgpnjanaagreat", sum := "db68e559ec79e7306c954bf3c2227d4ab7950f9724654cc91814bf9a1e36b07e", func := "loop.example/g01083/laws.FnNaturalIsos", spec := "fnNaturalIsos", unfollowed := true, recurses := true, apart := false, narrowed := true }
def FnNaturalIsosUptoSaid : Prop := fnNaturalIsosUptoRow.holds Tryz.pinned (OpenSpec.upto fnNaturalIsosSpec)

/-- 'laws.FnVertical', WHERE WHAT IT READS IS OF BULK AT MOST 1048576: true; the input reads as it did. -/
def fnVerticalUptoRow : OpenClaim := { program := "ytkcpiblgpnjanaagreat", sum := "db68e559ec79e7306c954bf3c2227d4ab7950f9724654cc91814bf9a1e36b07e", func := "loop.example/g01083/laws.FnVertical", spec := "fnVertical", unfollowed := true, recurses := true, apart := false, narrowed := true }
def FnVerticalUptoSaid : Prop := fnVerticalUptoRow.holds Tryz.pinned (OpenSpec.upto fnVerticalSpec)

/-- 'laws.FnElements', WHERE WHAT IT READS IS OF BULK AT MOST 1048576: true; the input reads as it did. -/
def fnElementsUptoRow : OpenClaim := { program := "ytkcpiblgpnjanaagreat", sum := "db68e559ec79e7306c954bf3c2227d4ab7950f9724654cc91814bf9a1e36b07e", func := "loop.example/g01083/laws.FnElements", spec := "fnElements", unfollowed := true, recurses := true, apart := false, narrowed := true }
def FnElementsUptoSaid : Prop := fnElementsUptoRow.holds Tryz.pinned (OpenSpec.upto fnElementsSpec)

/-- 'laws.FnMapsOfElements', WHERE WHAT IT READS IS OF BULK AT MOST 1048576: true; the input reads as it did. -/
def fnMapsOfElementsUptoRow : OpenClaim := { program := "ytkcpiblgpnjanaagreat", sum := "db68e559ec79e7306c954bf3c2227d4ab7950f9724654cc91814bf9a1e36b07e", func := "loop.example/g01083/laws.FnMapsOfElements", spec := "fnMapsOfElements", unfollowed := true, recurses := true, apart := false, narrowed := true }
def FnMapsOfElementsUptoSaid : Prop := fnMapsOfElementsUptoRow.holds Tryz.pinned (OpenSpec.upto fnMapsOfElementsSpec)

end Rows
end Go.Proofs.YtkcpiblgpnjanaaGreat
