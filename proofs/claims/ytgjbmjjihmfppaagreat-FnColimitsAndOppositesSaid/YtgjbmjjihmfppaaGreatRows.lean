/-
  No cell of these rows narrows 'for every input' (looked for: loops, veiled, ifaces, maps, wideKeys, modest, calm, conditions, laid).
  DERIVED. THE GIVEN ROWS OF THIS SEAT. 4 by the template 'for every input the law returns true; each argument reads behind the call as it read before'; 0 by the template 'total and deterministic' (their statements: YtgjbmjjihmfppaaGreatTotals.lean).
  GIVEN WITH THE SEED: the statements are not yours to turn. If you find one false, say at which input.
  Laid BY PROGRAM, IN A SANDBOX (cutbox-rows.mjs): the forced cells as the released guide's own fill.sh prints them over the translation 3f30002ef1d8b229… (all of the seat's roots in one cut). By AI agents, Wed Nov 11 2026. No macro, syntax, notation, axiom, sorry.
-/
import Derived.Test.YtgjbmjjihmfppaaGreatChecked
import GoSem.Claim
import GoSem.ClaimJoined
import GoSem.ClaimMapViews
import Derived.JoinedTies
import Derived.KernelRfl
namespace Go.Proofs.YtgjbmjjihmfppaaGreat
/- THE CELL 'sum', in the pinned program and in every row, IS THE sha256 OF THE DUMP (.gsa) THAT YtgjbmjjihmfppaaGreatProg.lean LOADS. Nothing in Lean hashes anything: it is a label: what it is worth is what the hold of that sum in a sandbox is worth. -/
noncomputable def Tryz.pinned : Pinned := { name := "ytgjbmjjihmfppaagreat", sum := "3f30002ef1d8b229b240838cf67f34adbfc705b2e4b501f6c40500724dc73b1e", checked := Tryz.checked }
namespace Rows
def none {H : Type} : Left H := { results := [], args := [] }

/-- 'laws.FnDualLimits': WHATEVER THE INPUT: true; the input reads as it did. -/
def fnDualLimitsSpec : ChangeSpec := { name := "fnDualLimits", fn := fun _ => fun
  | [d] => { results := [.lit (.bool true)], args := [d] }
  | _ => none }
def fnDualLimitsRow : OpenClaim := { program := "ytgjbmjjihmfppaagreat", sum := "3f30002ef1d8b229b240838cf67f34adbfc705b2e4b501f6c40500724dc73b1e", func := "loop.example/g01083/laws.FnDualLimits", spec := "fnDualLimits", unfollowed := true, recurses := true, apart := false }
def FnDualLimitsSaid : Prop := fnDualLimitsRow.holds Tryz.pinned (OpenSpec.ofChange fnDualLimitsSpec)

/-- ITS FALSE NEIGHBOUR: 'it returns false'. Refute it at one input. -/
def fnDualLimitsWrong : ChangeSpec := { name := "fnDualLimits", fn := fun _ => fun
  | [d] => { results := [.lit (.bool false)], args := [d] }
  | _ => none }
def FnDualLimitsWrongFalsely : Prop := fnDualLimitsRow.holds Tryz.pinned (OpenSpec.ofChange fnDualLimitsWrong)

/-- 'laws.FnColimitsAndOpposites': WHATEVER THE INPUT: true; the input reads as it did. -/
def fnColimitsAndOppositesSpec : ChangeSpec := { name := "fnColimitsAndOpposites", fn := fun _ => fun
  | [d] => { results := [.lit (.bool true)], args := [d] }
  | _ => none }
def fnColimitsAndOppositesRow : OpenClaim := { program := "ytgjbmjjihmfppaagreat", sum := "3f30002ef1d8b229b240838cf67f34adbfc705b2e4b501f6c40500724dc73b1e", func := "loop.example/g01083/laws.FnColimitsAndOpposites", spec := "fnColimitsAndOpposites", unfollowed := true, recurses := true, apart := false }
def FnColimitsAndOppositesSaid : Prop := fnColimitsAndOppositesRow.holds Tryz.pinned (OpenSpec.ofChange fnColimitsAndOppositesSpec)

/-- ITS FALSE NEIGHBOUR: 'it returns false'. Refute it at one input. -/
def fnColimitsAndOppositesWrong : ChangeSpec := { name := "fnColimitsAndOpposites", fn := fun _ => fun
  | [d] => { results := [.lit (.bool false)], args := [d] }
  | _ => none }
def FnColimitsAndOppositesWrongFalsely : Prop := fnColimitsAndOppositesRow.holds Tryz.pinned (OpenSpec.ofChange fnColimitsAndOppositesWrong)

/-- 'laws.FnKeptLimits': WHATEVER THE INPUT: true; the input reads as it did. -/
def fnKeptLimitsSpec : ChangeSpec := { name := "fnKeptLimits", fn := fun _ => fun
  | [d] => { results := [.lit (.bool true)], args := [d] }
  | _ => none }
def fnKeptLimitsRow : OpenClaim := { program := "ytgjbmjjihmfppaagreat", sum := "3f30002ef1d8b229b240838cf67f34adbfc705b2e4b501f6c40500724dc73b1e", func := "loop.example/g01083/laws.FnKeptLimits", spec := "fnKeptLimits", unfollowed := true, recurses := true, apart := false }
def FnKeptLimitsSaid : Prop := fnKeptLimitsRow.holds Tryz.pinned (OpenSpec.ofChange fnKeptLimitsSpec)

/-- ITS FALSE NEIGHBOUR: 'it returns false'. Refute it at one input. -/
def fnKeptLimitsWrong : ChangeSpec := { name := "fnKeptLimits", fn := fun _ => fun
  | [d] => { results := [.lit (.bool false)], args := [d] }
  | _ => none }
def FnKeptLimitsWrongFalsely : Prop := fnKeptLimitsRow.holds Tryz.pinned (OpenSpec.ofChange fnKeptLimitsWrong)

/-- 'laws.FnCreatedLimits': WHATEVER THE INPUT: true; the input reads as it did. -/
def fnCreatedLimitsSpec : ChangeSpec := { name := "fnCreatedLimits", fn := fun _ => fun
  | [d] => { results := [.lit (.bool true)], args := [d] }
  | _ => none }
def fnCreatedLimitsRow : OpenClaim := { program := "ytgjbmjjihmfppaagreat", sum := "3f30002ef1d8b229b240838cf67f34adbfc705b2e4b501f6c40500724dc73b1e", func := "loop.example/g01083/laws.FnCreatedLimits", spec := "fnCreatedLimits", unfollowed := true, recurses := true, apart := false }
def FnCreatedLimitsSaid : Prop := fnCreatedLimitsRow.holds Tryz.pinned (OpenSpec.ofChange fnCreatedLimitsSpec)

/-- ITS FALSE NEIGHBOUR: 'it returns false'. Refute it at one input. -/
def fnCreatedLimitsWrong : ChangeSpec := { name := "fnCreatedLimits", fn := fun _ => fun
  | [d] => { results := [.lit (.bool false)], args := [d] }
  | _ => none }
def FnCreatedLimitsWrongFalsely : Prop := fnCreatedLimitsRow.holds Tryz.pinned (OpenSpec.ofChange fnCreatedLimitsWrong)

/- THE SECOND FORM. 'bulk': how many values and letters a reading holds, each counted each time it is reached (what is shared counts as often as it is met; a slice's spare places count too). A statement '..UptoSaid' is the law's where the arguments, and the package variables that the reading takes, are together of bulk at most 1048576: NARROWER than '..Said'. Prove '..Said' where nothing that the law and all that it calls make is longer than what came in: it says more and counts as full. Else prove '..UptoSaid'. A law counts once. -/
mutual
def uptoBulk {H : Type} : DataW H → Nat
  | .lit (.string bytes) => bytes.length + 1
  | .lit _ => 1
  | .nil => 1
  | .ptr d => uptoBulk d + 1
  | .slice elems spare => uptoBulkAll elems + uptoBulkAll spare + 1
  | .agg parts => uptoBulkAll parts + 1
  | .iface _ d => uptoBulk d + 1
  | .map entries => uptoBulkEntries entries + 1
  | .held _ => 1
def uptoBulkAll {H : Type} : List (DataW H) → Nat
  | [] => 0
  | d :: r => uptoBulk d + uptoBulkAll r
def uptoBulkEntries {H : Type} : List (Lit × DataW H) → Nat
  | [] => 0
  | x :: r => uptoBulkEntry x + uptoBulkEntries r
def uptoBulkEntry {H : Type} : Lit × DataW H → Nat
  | (.string bytes, d) => bytes.length + uptoBulk d + 1
  | (_, d) => uptoBulk d + 1
 end
def uptoSmall : (H : Type) → List (DataW H) → Bool := fun _ ds => decide (uptoBulkAll ds ≤ 1048576)
def OpenSpec.upto (s : _root_.Go.ChangeSpec) : _root_.Go.OpenSpec := { _root_.Go.OpenSpec.ofChange s with cond := some uptoSmall }

/-- 'laws.FnDualLimits', WHERE WHAT IT READS IS OF BULK AT MOST 1048576: true; the input reads as it did. -/
def fnDualLimitsUptoRow : OpenClaim := { program := "ytgjbmjjihmfppaagreat", sum := "3f30002ef1d8b229b240838cf67f34adbfc705b2e4b501f6c40500724dc73b1e", func := "loop.example/g01083/laws.FnDualLimits", spec := "fnDualLimits", unfollowed := true, recurses := true, apart := false, narrowed := true }
def FnDualLimitsUptoSaid : Prop := fnDualLimitsUptoRow.holds Tryz.pinned (OpenSpec.upto fnDualLimitsSpec)

/-- 'laws.FnColimitsAndOpposites', WHERE WHAT IT READS IS OF BULK AT MOST 1048576: true; the input reads as it did. -/
def fnColimitsAndOppositesUptoRow : OpenClaim := { program := "ytgjbmjjihmfppaagreat", sum := "3f30002ef1d8b229b240838cf67f34adbfc705b2e4b501f6c40500724dc73b1e", func := "loop.example/g01083/laws.FnColimitsAndOpposites", spec := "fnColimitsAndOpposites", unfollowed := true, recurses := true, apart := false, narrowed := true }
def FnColimitsAndOppositesUptoSaid : Prop := fnColimitsAndOppositesUptoRow.holds Tryz.pinned (OpenSpec.upto fnColimitsAndOppositesSpec)

/-- 'laws.FnKeptLimits', WHERE WHAT IT READS IS OF BULK AT MOST 1048576: true; the input reads as it did. -/
def fnKeptLimitsUptoRow : OpenClaim := { program := "ytgjbmjjihmfppaagreat", sum := "3f30002ef1d8b229b240838cf67f34adbfc705b2e4b501f6c40500724dc73b1e", func := "loop.example/g01083/laws.FnKeptLimits", spec := "fnKeptLimits", unfollowed := true, recurses := true, apart := false, narrowed := true }
def FnKeptLimitsUptoSaid : Prop := fnKeptLimitsUptoRow.holds Tryz.pinned (OpenSpec.upto fnKeptLimitsSpec)

/-- 'laws.FnCreatedLimits', WHERE WHAT IT READS IS OF BULK AT MOST 1048576: true; the input reads as it did. -/
def fnCreatedLimitsUptoRow : OpenClaim := { program := "ytgjbmjjihmfppaagreat", sum := "3f30002ef1d8b229b240838cf67f34adbfc705b2e4b501f6c40500724dc73b1e", func := "loop.example/g01083/laws.FnCreatedLimits", spec := "fnCreatedLimits", unfollowed := true, recurses := true, apart := false, narrowed := true }
def FnCreatedLimitsUptoSaid : Prop := fnCreatedLimitsUptoRow.holds Tryz.pinned (OpenSpec.upto fnCreatedLimitsSpec)

end Rows
end Go.Proofs.YtgjbmjjihmfppaaGreat
