/-
  No cell of these rows narrows 'for every input' (looked for: loops, veiled, ifaces, maps, wideKeys, modest, calm, conditions, laid).
  DERIVED. THE GIVEN ROWS OF THIS SEAT. 12 by the template 'for every input the law returns true; each argument reads behind the call as it read before'; 0 by the template 'total and deterministic' (their statements: YtcmckiiafgcmjaaGreatTotals.lean).
  GIVEN WITH THE SEED: the statements are not yours to turn. If you find one false, say at which input.
  Laid BY PROGRAM, IN A SANDBOX (cutbox-rows.mjs): the forced cells as the released guide's own fill.sh prints them over the translation 1349078611462418… (all of the seat's roots in one cut). By AI agents, Wed Nov 11 2026. No macro, syntax, notation, axiom, sorry.
-/
import Derived.Test.YtcmckiiafgcmjaaGreatChecked
import GoSem.Claim
import GoSem.ClaimJoined
import GoSem.ClaimMapViews
import Derived.JoinedTies
import Derived.KernelRfl
namespace Go.Proofs.YtcmckiiafgcmjaaGreat
/- THE CELL 'sum', in the pinned program and in every row, IS THE sha256 OF THE DUMP (.gsa) THAT YtcmckiiafgcmjaaGreatProg.lean LOADS. Nothing in Lean hashes anything: it is a label: what it is worth is what the hold of that sum in a sandbox is worth. -/
noncomputable def Tryz.pinned : Pinned := { name := "ytcmckiiafgcmjaagreat", sum := "1349078611462418ca53cb8c7fca74fd89b3a8eb1e663c23a6242d9969300f5e", checked := Tryz.checked }
namespace Rows
def none {H : Type} : Left H := { results := [], args := [] }

/-- 'laws.FnExactIsTopology': WHATEVER THE INPUT: true; the input reads as it did. -/
def fnExactIsTopologySpec : ChangeSpec := { name := "fnExactIsTopology", fn := fun _ => fun
  | [d] => { results := [.lit (.bool true)], args := [d] }
  | _ => none }
def fnExactIsTopologyRow : OpenClaim := { program := "ytcmckiiafgcmjaagreat", sum := "1349078611462418ca53cb8c7fca74fd89b3a8eb1e663c23a6242d9969300f5e", func := "loop.example/g01083/laws.FnExactIsTopology", spec := "fnExactIsTopology", inPlace := ["sync/atomic.AddInt64"], unfollowed := true, recurses := true, apart := false }
def FnExactIsTopologySaid : Prop := fnExactIsTopologyRow.holds Tryz.pinned (OpenSpec.ofChange fnExactIsTopologySpec)

/-- ITS FALSE NEIGHBOUR: 'it returns false'. Refute it at one input. -/
def fnExactIsTopologyWrong : ChangeSpec := { name := "fnExactIsTopology", fn := fun _ => fun
  | [d] => { results := [.lit (.bool false)], args := [d] }
  | _ => none }
def FnExactIsTopologyWrongFalsely : Prop := fnExactIsTopologyRow.holds Tryz.pinned (OpenSpec.ofChange fnExactIsTopologyWrong)

/-- 'laws.FnExactCloseSieve': WHATEVER THE INPUT: true; the input reads as it did. -/
def fnExactCloseSieveSpec : ChangeSpec := { name := "fnExactCloseSieve", fn := fun _ => fun
  | [d1, d2, d3] => { results := [.lit (.bool true)], args := [d1, d2, d3] }
  | _ => none }
def fnExactCloseSieveRow : OpenClaim := { program := "ytcmckiiafgcmjaagreat", sum := "1349078611462418ca53cb8c7fca74fd89b3a8eb1e663c23a6242d9969300f5e", func := "loop.example/g01083/laws.FnExactCloseSieve", spec := "fnExactCloseSieve", inPlace := ["sync/atomic.AddInt64"], unfollowed := true, recurses := true, apart := false }
def FnExactCloseSieveSaid : Prop := fnExactCloseSieveRow.holds Tryz.pinned (OpenSpec.ofChange fnExactCloseSieveSpec)

/-- ITS FALSE NEIGHBOUR: 'it returns false'. Refute it at one input. -/
def fnExactCloseSieveWrong : ChangeSpec := { name := "fnExactCloseSieve", fn := fun _ => fun
  | [d1, d2, d3] => { results := [.lit (.bool false)], args := [d1, d2, d3] }
  | _ => none }
def FnExactCloseSieveWrongFalsely : Prop := fnExactCloseSieveRow.holds Tryz.pinned (OpenSpec.ofChange fnExactCloseSieveWrong)

/-- 'laws.FnExactLeastCovers': WHATEVER THE INPUT: true; the input reads as it did. -/
def fnExactLeastCoversSpec : ChangeSpec := { name := "fnExactLeastCovers", fn := fun _ => fun
  | [d] => { results := [.lit (.bool true)], args := [d] }
  | _ => none }
def fnExactLeastCoversRow : OpenClaim := { program := "ytcmckiiafgcmjaagreat", sum := "1349078611462418ca53cb8c7fca74fd89b3a8eb1e663c23a6242d9969300f5e", func := "loop.example/g01083/laws.FnExactLeastCovers", spec := "fnExactLeastCovers", inPlace := ["sync/atomic.AddInt64"], unfollowed := true, recurses := true, apart := false }
def FnExactLeastCoversSaid : Prop := fnExactLeastCoversRow.holds Tryz.pinned (OpenSpec.ofChange fnExactLeastCoversSpec)

/-- ITS FALSE NEIGHBOUR: 'it returns false'. Refute it at one input. -/
def fnExactLeastCoversWrong : ChangeSpec := { name := "fnExactLeastCovers", fn := fun _ => fun
  | [d] => { results := [.lit (.bool false)], args := [d] }
  | _ => none }
def FnExactLeastCoversWrongFalsely : Prop := fnExactLeastCoversRow.holds Tryz.pinned (OpenSpec.ofChange fnExactLeastCoversWrong)

/-- 'laws.FnExactClosedSieves': WHATEVER THE INPUT: true; the input reads as it did. -/
def fnExactClosedSievesSpec : ChangeSpec := { name := "fnExactClosedSieves", fn := fun _ => fun
  | [d1, d2] => { results := [.lit (.bool true)], args := [d1, d2] }
  | _ => none }
def fnExactClosedSievesRow : OpenClaim := { program := "ytcmckiiafgcmjaagreat", sum := "1349078611462418ca53cb8c7fca74fd89b3a8eb1e663c23a6242d9969300f5e", func := "loop.example/g01083/laws.FnExactClosedSieves", spec := "fnExactClosedSieves", inPlace := ["sync/atomic.AddInt64"], unfollowed := true, recurses := true, apart := false }
def FnExactClosedSievesSaid : Prop := fnExactClosedSievesRow.holds Tryz.pinned (OpenSpec.ofChange fnExactClosedSievesSpec)

/-- ITS FALSE NEIGHBOUR: 'it returns false'. Refute it at one input. -/
def fnExactClosedSievesWrong : ChangeSpec := { name := "fnExactClosedSieves", fn := fun _ => fun
  | [d1, d2] => { results := [.lit (.bool false)], args := [d1, d2] }
  | _ => none }
def FnExactClosedSievesWrongFalsely : Prop := fnExactClosedSievesRow.holds Tryz.pinned (OpenSpec.ofChange fnExactClosedSievesWrong)

/-- 'laws.FnExactGeneratedTopology': WHATEVER THE INPUT: true; the input reads as it did. -/
def fnExactGeneratedTopologySpec : ChangeSpec := { name := "fnExactGeneratedTopology", fn := fun _ => fun
  | [d] => { results := [.lit (.bool true)], args := [d] }
  | _ => none }
def fnExactGeneratedTopologyRow : OpenClaim := { program := "ytcmckiiafgcmjaagreat", sum := "1349078611462418ca53cb8c7fca74fd89b3a8eb1e663c23a6242d9969300f5e", func := "loop.example/g01083/laws.FnExactGeneratedTopology", spec := "fnExactGeneratedTopology", inPlace := ["sync/atomic.AddInt64", "sync/atomic.LoadInt64"], unfollowed := true, recurses := true, apart := false }
def FnExactGeneratedTopologySaid : Prop := fnExactGeneratedTopologyRow.holds Tryz.pinned (OpenSpec.ofChange fnExactGeneratedTopologySpec)

/-- ITS FALSE NEIGHBOUR: 'it returns false'. Refute it at one input. -/
def fnExactGeneratedTopologyWrong : ChangeSpec := { name := "fnExactGeneratedTopology", fn := fun _ => fun
  | [d] => { results := [.lit (.bool false)], args := [d] }
  | _ => none }
def FnExactGeneratedTopologyWrongFalsely : Prop := fnExactGeneratedTopologyRow.holds Tryz.pinned (OpenSpec.ofChange fnExactGeneratedTopologyWrong)

/-- 'laws.FnExactAllTopologies': WHATEVER THE INPUT: true; the input reads as it did. -/
def fnExactAllTopologiesSpec : ChangeSpec := { name := "fnExactAllTopologies", fn := fun _ => fun
  | [d] => { results := [.lit (.bool true)], args := [d] }
  | _ => none }
def fnExactAllTopologiesRow : OpenClaim := { program := "ytcmckiiafgcmjaagreat", sum := "1349078611462418ca53cb8c7fca74fd89b3a8eb1e663c23a6242d9969300f5e", func := "loop.example/g01083/laws.FnExactAllTopologies", spec := "fnExactAllTopologies", inPlace := ["sync/atomic.LoadInt64", "sync/atomic.StoreInt64", "sync/atomic.AddInt64"], unfollowed := true, recurses := true, apart := false }
def FnExactAllTopologiesSaid : Prop := fnExactAllTopologiesRow.holds Tryz.pinned (OpenSpec.ofChange fnExactAllTopologiesSpec)

/-- ITS FALSE NEIGHBOUR: 'it returns false'. Refute it at one input. -/
def fnExactAllTopologiesWrong : ChangeSpec := { name := "fnExactAllTopologies", fn := fun _ => fun
  | [d] => { results := [.lit (.bool false)], args := [d] }
  | _ => none }
def FnExactAllTopologiesWrongFalsely : Prop := fnExactAllTopologiesRow.holds Tryz.pinned (OpenSpec.ofChange fnExactAllTopologiesWrong)

/-- 'laws.FnExactMeetTopologies': WHATEVER THE INPUT: true; the input reads as it did. -/
def fnExactMeetTopologiesSpec : ChangeSpec := { name := "fnExactMeetTopologies", fn := fun _ => fun
  | [d1, d2] => { results := [.lit (.bool true)], args := [d1, d2] }
  | _ => none }
def fnExactMeetTopologiesRow : OpenClaim := { program := "ytcmckiiafgcmjaagreat", sum := "1349078611462418ca53cb8c7fca74fd89b3a8eb1e663c23a6242d9969300f5e", func := "loop.example/g01083/laws.FnExactMeetTopologies", spec := "fnExactMeetTopologies", inPlace := ["sync/atomic.AddInt64"], unfollowed := true, recurses := true, apart := false }
def FnExactMeetTopologiesSaid : Prop := fnExactMeetTopologiesRow.holds Tryz.pinned (OpenSpec.ofChange fnExactMeetTopologiesSpec)

/-- ITS FALSE NEIGHBOUR: 'it returns false'. Refute it at one input. -/
def fnExactMeetTopologiesWrong : ChangeSpec := { name := "fnExactMeetTopologies", fn := fun _ => fun
  | [d1, d2] => { results := [.lit (.bool false)], args := [d1, d2] }
  | _ => none }
def FnExactMeetTopologiesWrongFalsely : Prop := fnExactMeetTopologiesRow.holds Tryz.pinned (OpenSpec.ofChange fnExactMeetTopologiesWrong)

/-- 'laws.FnExactJoinTopologies': WHATEVER THE INPUT: true; the input reads as it did. -/
def fnExactJoinTopologiesSpec : ChangeSpec := { name := "fnExactJoinTopologies", fn := fun _ => fun
  | [d1, d2] => { results := [.lit (.bool true)], args := [d1, d2] }
  | _ => none }
def fnExactJoinTopologiesRow : OpenClaim := { program := "ytcmckiiafgcmjaagreat", sum := "1349078611462418ca53cb8c7fca74fd89b3a8eb1e663c23a6242d9969300f5e", func := "loop.example/g01083/laws.FnExactJoinTopologies", spec := "fnExactJoinTopologies", inPlace := ["sync/atomic.AddInt64", "sync/atomic.LoadInt64"], unfollowed := true, recurses := true, apart := false }
def FnExactJoinTopologiesSaid : Prop := fnExactJoinTopologiesRow.holds Tryz.pinned (OpenSpec.ofChange fnExactJoinTopologiesSpec)

/-- ITS FALSE NEIGHBOUR: 'it returns false'. Refute it at one input. -/
def fnExactJoinTopologiesWrong : ChangeSpec := { name := "fnExactJoinTopologies", fn := fun _ => fun
  | [d1, d2] => { results := [.lit (.bool false)], args := [d1, d2] }
  | _ => none }
def FnExactJoinTopologiesWrongFalsely : Prop := fnExactJoinTopologiesRow.holds Tryz.pinned (OpenSpec.ofChange fnExactJoinTopologiesWrong)

/-- 'laws.FnExactModalityOf': WHATEVER THE INPUT: true; the input reads as it did. -/
def fnExactModalityOfSpec : ChangeSpec := { name := "fnExactModalityOf", fn := fun _ => fun
  | [d] => { results := [.lit (.bool true)], args := [d] }
  | _ => none }
def fnExactModalityOfRow : OpenClaim := { program := "ytcmckiiafgcmjaagreat", sum := "1349078611462418ca53cb8c7fca74fd89b3a8eb1e663c23a6242d9969300f5e", func := "loop.example/g01083/laws.FnExactModalityOf", spec := "fnExactModalityOf", inPlace := ["sync/atomic.AddInt64"], unfollowed := true, recurses := true, apart := false }
def FnExactModalityOfSaid : Prop := fnExactModalityOfRow.holds Tryz.pinned (OpenSpec.ofChange fnExactModalityOfSpec)

/-- ITS FALSE NEIGHBOUR: 'it returns false'. Refute it at one input. -/
def fnExactModalityOfWrong : ChangeSpec := { name := "fnExactModalityOf", fn := fun _ => fun
  | [d] => { results := [.lit (.bool false)], args := [d] }
  | _ => none }
def FnExactModalityOfWrongFalsely : Prop := fnExactModalityOfRow.holds Tryz.pinned (OpenSpec.ofChange fnExactModalityOfWrong)

/-- 'laws.FnExactTopologyOfModality': WHATEVER THE INPUT: true; the input reads as it did. -/
def fnExactTopologyOfModalitySpec : ChangeSpec := { name := "fnExactTopologyOfModality", fn := fun _ => fun
  | [d1, d2] => { results := [.lit (.bool true)], args := [d1, d2] }
  | _ => none }
def fnExactTopologyOfModalityRow : OpenClaim := { program := "ytcmckiiafgcmjaagreat", sum := "1349078611462418ca53cb8c7fca74fd89b3a8eb1e663c23a6242d9969300f5e", func := "loop.example/g01083/laws.FnExactTopologyOfModality", spec := "fnExactTopologyOfModality", inPlace := ["sync/atomic.AddInt64"], unfollowed := true, recurses := true, apart := false }
def FnExactTopologyOfModalitySaid : Prop := fnExactTopologyOfModalityRow.holds Tryz.pinned (OpenSpec.ofChange fnExactTopologyOfModalitySpec)

/-- ITS FALSE NEIGHBOUR: 'it returns false'. Refute it at one input. -/
def fnExactTopologyOfModalityWrong : ChangeSpec := { name := "fnExactTopologyOfModality", fn := fun _ => fun
  | [d1, d2] => { results := [.lit (.bool false)], args := [d1, d2] }
  | _ => none }
def FnExactTopologyOfModalityWrongFalsely : Prop := fnExactTopologyOfModalityRow.holds Tryz.pinned (OpenSpec.ofChange fnExactTopologyOfModalityWrong)

/-- 'laws.FnExactIsSeparated': WHATEVER THE INPUT: true; the input reads as it did. -/
def fnExactIsSeparatedSpec : ChangeSpec := { name := "fnExactIsSeparated", fn := fun _ => fun
  | [d1, d2] => { results := [.lit (.bool true)], args := [d1, d2] }
  | _ => none }
def fnExactIsSeparatedRow : OpenClaim := { program := "ytcmckiiafgcmjaagreat", sum := "1349078611462418ca53cb8c7fca74fd89b3a8eb1e663c23a6242d9969300f5e", func := "loop.example/g01083/laws.FnExactIsSeparated", spec := "fnExactIsSeparated", inPlace := ["sync/atomic.AddInt64"], unfollowed := true, recurses := true, apart := false }
def FnExactIsSeparatedSaid : Prop := fnExactIsSeparatedRow.holds Tryz.pinned (OpenSpec.ofChange fnExactIsSeparatedSpec)

/-- ITS FALSE NEIGHBOUR: 'it returns false'. Refute it at one input. -/
def fnExactIsSeparatedWrong : ChangeSpec := { name := "fnExactIsSeparated", fn := fun _ => fun
  | [d1, d2] => { results := [.lit (.bool false)], args := [d1, d2] }
  | _ => none }
def FnExactIsSeparatedWrongFalsely : Prop := fnExactIsSeparatedRow.holds Tryz.pinned (OpenSpec.ofChange fnExactIsSeparatedWrong)

/-- 'laws.FnExactIsDenseFor': WHATEVER THE INPUT: true; the input reads as it did. -/
def fnExactIsDenseForSpec : ChangeSpec := { name := "fnExactIsDenseFor", fn := fun _ => fun
  | [d1, d2, d3] => { results := [.lit (.bool true)], args := [d1, d2, d3] }
  | _ => none }
def fnExactIsDenseForRow : OpenClaim := { program := "ytcmckiiafgcmjaagreat", sum := "1349078611462418ca53cb8c7fca74fd89b3a8eb1e663c23a6242d9969300f5e", func := "loop.example/g01083/laws.FnExactIsDenseFor", spec := "fnExactIsDenseFor", inPlace := ["sync/atomic.AddInt64"], unfollowed := true, recurses := true, apart := false }
def FnExactIsDenseForSaid : Prop := fnExactIsDenseForRow.holds Tryz.pinned (OpenSpec.ofChange fnExactIsDenseForSpec)

/-- ITS FALSE NEIGHBOUR: 'it returns false'. Refute it at one input. -/
def fnExactIsDenseForWrong : ChangeSpec := { name := "fnExactIsDenseFor", fn := fun _ => fun
  | [d1, d2, d3] => { results := [.lit (.bool false)], args := [d1, d2, d3] }
  | _ => none }
def FnExactIsDenseForWrongFalsely : Prop := fnExactIsDenseForRow.holds Tryz.pinned (OpenSpec.ofChange fnExactIsDenseForWrong)

/- THE SECOND FORM. 'bulk': how many values and letters a reading holds, each counted each time it is reached (what is shared counts as often as it is met; a slice's spare places count too). A statement '..UptoSaid' is the law's where the arguments, and the package variables that the reading takes, are together of bulk at most 1048576: NARROWER than '..Said'. Prove '..Said' where nothing that the law and all that it calls make is longer than what came in: it says more and counts as full. Else prove '..UptoSaid'. A law counts once. -/
mutual
def uptoBulk {H : Type} : DataW H → Nat
  | .lit (.string bytes) => bytes.length + 1
  | .lit _ => 1
  | .nil => 1
  | .ptr d => uptoBulk d + 1
  | .slice elems spare => uptoBulkAll elems + uptoBulkAll spare + 1
  | .agg parts => uptoBulkAll parts + 1
  | .iface _ d => uptoBulk d + 1
  | .map entries => uptoBulkEntries entries + 1
  | .held _ => 1
def uptoBulkAll {H : Type} : List (DataW H) → Nat
  | [] => 0
  | d :: r => uptoBulk d + uptoBulkAll r
def uptoBulkEntries {H : Type} : List (Lit × DataW H) → Nat
  | [] => 0
  | x :: r => uptoBulkEntry x + uptoBulkEntries r
def uptoBulkEntry {H : Type} : Lit × DataW H → Nat
  | (.string bytes, d) => bytes.length + uptoBulk d + 1
  | (_, d) => uptoBulk d + 1
 end
def uptoSmall : (H : Type) → List (DataW H) → Bool := fun _ ds => decide (uptoBulkAll ds ≤ 1048576)
def OpenSpec.upto (s : _root_.Go.ChangeSpec) : _root_.Go.OpenSpec := { _root_.Go.OpenSpec.ofChange s with cond := some uptoSmall }

/-- 'laws.FnExactIsTopology', WHERE WHAT IT READS IS OF BULK AT MOST 1048576: true; the input reads as it did. -/
def fnExactIsTopologyUptoRow : OpenClaim := { program := "ytcmckiiafgcmjaagreat", sum := "1349078611462418ca53cb8c7fca74fd89b3a8eb1e663c23a6242d9969300f5e", func := "loop.example/g01083/laws.FnExactIsTopology", spec := "fnExactIsTopology", inPlace := ["sync/atomic.AddInt64"], unfollowed := true, recurses := true, apart := false, narrowed := true }
def FnExactIsTopologyUptoSaid : Prop := fnExactIsTopologyUptoRow.holds Tryz.pinned (OpenSpec.upto fnExactIsTopologySpec)

/-- 'laws.FnExactCloseSieve', WHERE WHAT IT READS IS OF BULK AT MOST 1048576: true; the input reads as it did. -/
def fnExactCloseSieveUptoRow : OpenClaim := { program := "ytcmckiiafgcmjaagreat", sum := "1349078611462418ca53cb8c7fca74fd89b3a8eb1e663c23a6242d9969300f5e", func := "loop.example/g01083/laws.FnExactCloseSieve", spec := "fnExactCloseSieve", inPlace := ["sync/atomic.AddInt64"], unfollowed := true, recurses := true, apart := false, narrowed := true }
def FnExactCloseSieveUptoSaid : Prop := fnExactCloseSieveUptoRow.holds Tryz.pinned (OpenSpec.upto fnExactCloseSieveSpec)

/-- 'laws.FnExactLeastCovers', WHERE WHAT IT READS IS OF BULK AT MOST 1048576: true; the input reads as it did. -/
def fnExactLeastCoversUptoRow : OpenClaim := { program := "ytcmckiiafgcmjaagreat", sum := "1349078611462418ca53cb8c7fca74fd89b3a8eb1e663c23a6242d9969300f5e", func := "loop.example/g01083/laws.FnExactLeastCovers", spec := "fnExactLeastCovers", inPlace := ["sync/atomic.AddInt64"], unfollowed := true, recurses := true, apart := false, narrowed := true }
def FnExactLeastCoversUptoSaid : Prop := fnExactLeastCoversUptoRow.holds Tryz.pinned (OpenSpec.upto fnExactLeastCoversSpec)

/-- 'laws.FnExactClosedSieves', WHERE WHAT IT READS IS OF BULK AT MOST 1048576: true; the input reads as it did. -/
def fnExactClosedSievesUptoRow : OpenClaim := { program := "ytcmckiiafgcmjaagreat", sum := "1349078611462418ca53cb8c7fca74fd89b3a8eb1e663c23a6242d9969300f5e", func := "loop.example/g01083/laws.FnExactClosedSieves", spec := "fnExactClosedSieves", inPlace := ["sync/atomic.AddInt64"], unfollowed := true, recurses := true, apart := false, narrowed := true }
def FnExactClosedSievesUptoSaid : Prop := fnExactClosedSievesUptoRow.holds Tryz.pinned (OpenSpec.upto fnExactClosedSievesSpec)

/-- 'laws.FnExactGeneratedTopology', WHERE WHAT IT READS IS OF BULK AT MOST 1048576: true; the input reads as it did. -/
def fnExactGeneratedTopologyUptoRow : OpenClaim := { program := "ytcmckiiafgcmjaagreat", sum := "1349078611462418ca53cb8c7fca74fd89b3a8eb1e663c23a6242d9969300f5e", func := "loop.example/g01083/laws.FnExactGeneratedTopology", spec := "fnExactGeneratedTopology", inPlace := ["sync/atomic.AddInt64", "sync/atomic.LoadInt64"], unfollowed := true, recurses := true, apart := false, narrowed := true }
def FnExactGeneratedTopologyUptoSaid : Prop := fnExactGeneratedTopologyUptoRow.holds Tryz.pinned (OpenSpec.upto fnExactGeneratedTopologySpec)

/-- 'laws.FnExactAllTopologies', WHERE WHAT IT READS IS OF BULK AT MOST 1048576: true; the input reads as it did. -/
def fnExactAllTopologiesUptoRow : OpenClaim := { program := "ytcmckiiafgcmjaagreat", sum := "1349078611462418ca53cb8c7fca74fd89b3a8eb1e663c23a6242d9969300f5e", func := "loop.example/g01083/laws.FnExactAllTopologies", spec := "fnExactAllTopologies", inPlace := ["sync/atomic.LoadInt64", "sync/atomic.StoreInt64", "sync/atomic.AddInt64"], unfollowed := true, recurses := true, apart := false, narrowed := true }
def FnExactAllTopologiesUptoSaid : Prop := fnExactAllTopologiesUptoRow.holds Tryz.pinned (OpenSpec.upto fnExactAllTopologiesSpec)

/-- 'laws.FnExactMeetTopologies', WHERE WHAT IT READS IS OF BULK AT MOST 1048576: true; the input reads as it did. -/
def fnExactMeetTopologiesUptoRow : OpenClaim := { program := "ytcmckiiafgcmjaagreat", sum := "1349078611462418ca53cb8c7fca74fd89b3a8eb1e663c23a6242d9969300f5e", func := "loop.example/g01083/laws.FnExactMeetTopologies", spec := "fnExactMeetTopologies", inPlace := ["sync/atomic.AddInt64"], unfollowed := true, recurses := true, apart := false, narrowed := true }
def FnExactMeetTopologiesUptoSaid : Prop := fnExactMeetTopologiesUptoRow.holds Tryz.pinned (OpenSpec.upto fnExactMeetTopologiesSpec)

/-- 'laws.FnExactJoinTopologies', WHERE WHAT IT READS IS OF BULK AT MOST 1048576: true; the input reads as it did. -/
def fnExactJoinTopologiesUptoRow : OpenClaim := { program := "ytcmckiiafgcmjaagreat", sum := "1349078611462418ca53cb8c7fca74fd89b3a8eb1e663c23a6242d9969300f5e", func := "loop.example/g01083/laws.FnExactJoinTopologies", spec := "fnExactJoinTopologies", inPlace := ["sync/atomic.AddInt64", "sync/atomic.LoadInt64"], unfollowed := true, recurses := true, apart := false, narrowed := true }
def FnExactJoinTopologiesUptoSaid : Prop := fnExactJoinTopologiesUptoRow.holds Tryz.pinned (OpenSpec.upto fnExactJoinTopologiesSpec)

/-- 'laws.FnExactModalityOf', WHERE WHAT IT READS IS OF BULK AT MOST 1048576: true; the input reads as it did. -/
def fnExactModalityOfUptoRow : OpenClaim := { program := "ytcmckiiafgcmjaagreat", sum := "1349078611462418ca53cb8c7fca74fd89b3a8eb1e663c23a6242d9969300f5e", func := "loop.example/g01083/laws.FnExactModalityOf", spec := "fnExactModalityOf", inPlace := ["sync/atomic.AddInt64"], unfollowed := true, recurses := true, apart := false, narrowed := true }
def FnExactModalityOfUptoSaid : Prop := fnExactModalityOfUptoRow.holds Tryz.pinned (OpenSpec.upto fnExactModalityOfSpec)

/-- 'laws.FnExactTopologyOfModality', WHERE WHAT IT READS IS OF BULK AT MOST 1048576: true; the input reads as it did. -/
def fnExactTopologyOfModalityUptoRow : OpenClaim := { program := "ytcmckiiafgcmjaagreat", sum := "1349078611462418ca53cb8c7fca74fd89b3a8eb1e663c23a6242d9969300f5e", func := "loop.example/g01083/laws.FnExactTopologyOfModality", spec := "fnExactTopologyOfModality", inPlace := ["sync/atomic.AddInt64"], unfollowed := true, recurses := true, apart := false, narrowed := true }
def FnExactTopologyOfModalityUptoSaid : Prop := fnExactTopologyOfModalityUptoRow.holds Tryz.pinned (OpenSpec.upto fnExactTopologyOfModalitySpec)

/-- 'laws.FnExactIsSeparated', WHERE WHAT IT READS IS OF BULK AT MOST 1048576: true; the input reads as it did. -/
def fnExactIsSeparatedUptoRow : OpenClaim := { program := "ytcmckiiafgcmjaagreat", sum := "1349078611462418ca53cb8c7fca74fd89b3a8eb1e663c23a6242d9969300f5e", func := "loop.example/g01083/laws.FnExactIsSeparated", spec := "fnExactIsSeparated", inPlace := ["sync/atomic.AddInt64"], unfollowed := true, recurses := true, apart := false, narrowed := true }
def FnExactIsSeparatedUptoSaid : Prop := fnExactIsSeparatedUptoRow.holds Tryz.pinned (OpenSpec.upto fnExactIsSeparatedSpec)

/-- 'laws.FnExactIsDenseFor', WHERE WHAT IT READS IS OF BULK AT MOST 1048576: true; the input reads as it did. -/
def fnExactIsDenseForUptoRow : OpenClaim := { program := "ytcmckiiafgcmjaagreat", sum := "1349078611462418ca53cb8c7fca74fd89b3a8eb1e663c23a6242d9969300f5e", func := "loop.example/g01083/laws.FnExactIsDenseFor", spec := "fnExactIsDenseFor", inPlace := ["sync/atomic.AddInt64"], unfollowed := true, recurses := true, apart := false, narrowed := true }
def FnExactIsDenseForUptoSaid : Prop := fnExactIsDenseForUptoRow.holds Tryz.pinned (OpenSpec.upto fnExactIsDenseForSpec)

end Rows
end Go.Proofs.YtcmckiiafgcmjaaGreat
