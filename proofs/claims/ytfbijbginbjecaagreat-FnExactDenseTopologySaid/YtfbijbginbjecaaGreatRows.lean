/-
  No cell of these rows narrows 'for every input' (looked for: loops, veiled, ifaces, maps, wideKeys, modest, calm, conditions, laid).
  DERIVED. THE GIVEN ROWS OF THIS SEAT. 12 by the template 'for every input the law returns true; each argument reads behind the call as it read before'; 0 by the template 'total and deterministic' (their statements: YtfbijbginbjecaaGreatTotals.lean).
  GIVEN WITH THE SEED: the statements are not yours to turn. If you find one false, say at which input.
  Laid BY PROGRAM, IN A SANDBOX (cutbox-rows.mjs): the forced cells as the released guide's own fill.sh prints them over the translation a5bfe7b4d3669b5e… (all of the seat's roots in one cut). By AI agents, Wed Nov 11 2026. No macro, syntax, notation, axiom, sorry.
-/
import Derived.Test.YtfbijbginbjecaaGreatChecked
import GoSem.Claim
import GoSem.ClaimJoined
import GoSem.ClaimMapViews
import Derived.JoinedTies
import Derived.KernelRfl
namespace Go.Proofs.YtfbijbginbjecaaGreat
/- THE CELL 'sum', in the pinned program and in every row, IS THE sha256 OF THE DUMP (.gsa) THAT YtfbijbginbjecaaGreatProg.lean LOADS. Nothing in Lean hashes anything: it is a label: what it is worth is what the hold of that sum in a sandbox is worth. -/
noncomputable def Tryz.pinned : Pinned := { name := "ytfbijbginbjecaagreat", sum := "a5bfe7b4d3669b5eaad3ffa7dfca2660f5e6204ece41ab4d3f103a62baf01a26", checked := Tryz.checked }
namespace Rows
def none {H : Type} : Left H := { results := [], args := [] }

/-- 'laws.FnExactLeastTopology': WHATEVER THE INPUT: true; the input reads as it did. -/
def fnExactLeastTopologySpec : ChangeSpec := { name := "fnExactLeastTopology", fn := fun _ => fun
  | [d] => { results := [.lit (.bool true)], args := [d] }
  | _ => none }
def fnExactLeastTopologyRow : OpenClaim := { program := "ytfbijbginbjecaagreat", sum := "a5bfe7b4d3669b5eaad3ffa7dfca2660f5e6204ece41ab4d3f103a62baf01a26", func := "loop.example/g01083/laws.FnExactLeastTopology", spec := "fnExactLeastTopology", inPlace := ["sync/atomic.AddInt64"], unfollowed := true, recurses := true, apart := false }
def FnExactLeastTopologySaid : Prop := fnExactLeastTopologyRow.holds Tryz.pinned (OpenSpec.ofChange fnExactLeastTopologySpec)

/-- ITS FALSE NEIGHBOUR: 'it returns false'. Refute it at one input. -/
def fnExactLeastTopologyWrong : ChangeSpec := { name := "fnExactLeastTopology", fn := fun _ => fun
  | [d] => { results := [.lit (.bool false)], args := [d] }
  | _ => none }
def FnExactLeastTopologyWrongFalsely : Prop := fnExactLeastTopologyRow.holds Tryz.pinned (OpenSpec.ofChange fnExactLeastTopologyWrong)

/-- 'laws.FnExactGreatestTopology': WHATEVER THE INPUT: true; the input reads as it did. -/
def fnExactGreatestTopologySpec : ChangeSpec := { name := "fnExactGreatestTopology", fn := fun _ => fun
  | [d] => { results := [.lit (.bool true)], args := [d] }
  | _ => none }
def fnExactGreatestTopologyRow : OpenClaim := { program := "ytfbijbginbjecaagreat", sum := "a5bfe7b4d3669b5eaad3ffa7dfca2660f5e6204ece41ab4d3f103a62baf01a26", func := "loop.example/g01083/laws.FnExactGreatestTopology", spec := "fnExactGreatestTopology", inPlace := ["sync/atomic.AddInt64"], unfollowed := true, recurses := true, apart := false }
def FnExactGreatestTopologySaid : Prop := fnExactGreatestTopologyRow.holds Tryz.pinned (OpenSpec.ofChange fnExactGreatestTopologySpec)

/-- ITS FALSE NEIGHBOUR: 'it returns false'. Refute it at one input. -/
def fnExactGreatestTopologyWrong : ChangeSpec := { name := "fnExactGreatestTopology", fn := fun _ => fun
  | [d] => { results := [.lit (.bool false)], args := [d] }
  | _ => none }
def FnExactGreatestTopologyWrongFalsely : Prop := fnExactGreatestTopologyRow.holds Tryz.pinned (OpenSpec.ofChange fnExactGreatestTopologyWrong)

/-- 'laws.FnExactDenseTopology': WHATEVER THE INPUT: true; the input reads as it did. -/
def fnExactDenseTopologySpec : ChangeSpec := { name := "fnExactDenseTopology", fn := fun _ => fun
  | [d] => { results := [.lit (.bool true)], args := [d] }
  | _ => none }
def fnExactDenseTopologyRow : OpenClaim := { program := "ytfbijbginbjecaagreat", sum := "a5bfe7b4d3669b5eaad3ffa7dfca2660f5e6204ece41ab4d3f103a62baf01a26", func := "loop.example/g01083/laws.FnExactDenseTopology", spec := "fnExactDenseTopology", inPlace := ["sync/atomic.AddInt64"], unfollowed := true, recurses := true, apart := false }
def FnExactDenseTopologySaid : Prop := fnExactDenseTopologyRow.holds Tryz.pinned (OpenSpec.ofChange fnExactDenseTopologySpec)

/-- ITS FALSE NEIGHBOUR: 'it returns false'. Refute it at one input. -/
def fnExactDenseTopologyWrong : ChangeSpec := { name := "fnExactDenseTopology", fn := fun _ => fun
  | [d] => { results := [.lit (.bool false)], args := [d] }
  | _ => none }
def FnExactDenseTopologyWrongFalsely : Prop := fnExactDenseTopologyRow.holds Tryz.pinned (OpenSpec.ofChange fnExactDenseTopologyWrong)

/-- 'laws.FnExactIsTopology': WHATEVER THE INPUT: true; the input reads as it did. -/
def fnExactIsTopologySpec : ChangeSpec := { name := "fnExactIsTopology", fn := fun _ => fun
  | [d] => { results := [.lit (.bool true)], args := [d] }
  | _ => none }
def fnExactIsTopologyRow : OpenClaim := { program := "ytfbijbginbjecaagreat", sum := "a5bfe7b4d3669b5eaad3ffa7dfca2660f5e6204ece41ab4d3f103a62baf01a26", func := "loop.example/g01083/laws.FnExactIsTopology", spec := "fnExactIsTopology", inPlace := ["sync/atomic.AddInt64"], unfollowed := true, recurses := true, apart := false }
def FnExactIsTopologySaid : Prop := fnExactIsTopologyRow.holds Tryz.pinned (OpenSpec.ofChange fnExactIsTopologySpec)

/-- ITS FALSE NEIGHBOUR: 'it returns false'. Refute it at one input. -/
def fnExactIsTopologyWrong : ChangeSpec := { name := "fnExactIsTopology", fn := fun _ => fun
  | [d] => { results := [.lit (.bool false)], args := [d] }
  | _ => none }
def FnExactIsTopologyWrongFalsely : Prop := fnExactIsTopologyRow.holds Tryz.pinned (OpenSpec.ofChange fnExactIsTopologyWrong)

/-- 'laws.FnExactCloseSieve': WHATEVER THE INPUT: true; the input reads as it did. -/
def fnExactCloseSieveSpec : ChangeSpec := { name := "fnExactCloseSieve", fn := fun _ => fun
  | [d1, d2, d3] => { results := [.lit (.bool true)], args := [d1, d2, d3] }
  | _ => none }
def fnExactCloseSieveRow : OpenClaim := { program := "ytfbijbginbjecaagreat", sum := "a5bfe7b4d3669b5eaad3ffa7dfca2660f5e6204ece41ab4d3f103a62baf01a26", func := "loop.example/g01083/laws.FnExactCloseSieve", spec := "fnExactCloseSieve", inPlace := ["sync/atomic.AddInt64"], unfollowed := true, recurses := true, apart := false }
def FnExactCloseSieveSaid : Prop := fnExactCloseSieveRow.holds Tryz.pinned (OpenSpec.ofChange fnExactCloseSieveSpec)

/-- ITS FALSE NEIGHBOUR: 'it returns false'. Refute it at one input. -/
def fnExactCloseSieveWrong : ChangeSpec := { name := "fnExactCloseSieve", fn := fun _ => fun
  | [d1, d2, d3] => { results := [.lit (.bool false)], args := [d1, d2, d3] }
  | _ => none }
def FnExactCloseSieveWrongFalsely : Prop := fnExactCloseSieveRow.holds Tryz.pinned (OpenSpec.ofChange fnExactCloseSieveWrong)

/-- 'laws.FnExactLeastCovers': WHATEVER THE INPUT: true; the input reads as it did. -/
def fnExactLeastCoversSpec : ChangeSpec := { name := "fnExactLeastCovers", fn := fun _ => fun
  | [d] => { results := [.lit (.bool true)], args := [d] }
  | _ => none }
def fnExactLeastCoversRow : OpenClaim := { program := "ytfbijbginbjecaagreat", sum := "a5bfe7b4d3669b5eaad3ffa7dfca2660f5e6204ece41ab4d3f103a62baf01a26", func := "loop.example/g01083/laws.FnExactLeastCovers", spec := "fnExactLeastCovers", inPlace := ["sync/atomic.AddInt64"], unfollowed := true, recurses := true, apart := false }
def FnExactLeastCoversSaid : Prop := fnExactLeastCoversRow.holds Tryz.pinned (OpenSpec.ofChange fnExactLeastCoversSpec)

/-- ITS FALSE NEIGHBOUR: 'it returns false'. Refute it at one input. -/
def fnExactLeastCoversWrong : ChangeSpec := { name := "fnExactLeastCovers", fn := fun _ => fun
  | [d] => { results := [.lit (.bool false)], args := [d] }
  | _ => none }
def FnExactLeastCoversWrongFalsely : Prop := fnExactLeastCoversRow.holds Tryz.pinned (OpenSpec.ofChange fnExactLeastCoversWrong)

/-- 'laws.FnExactClosedSieves': WHATEVER THE INPUT: true; the input reads as it did. -/
def fnExactClosedSievesSpec : ChangeSpec := { name := "fnExactClosedSieves", fn := fun _ => fun
  | [d1, d2] => { results := [.lit (.bool true)], args := [d1, d2] }
  | _ => none }
def fnExactClosedSievesRow : OpenClaim := { program := "ytfbijbginbjecaagreat", sum := "a5bfe7b4d3669b5eaad3ffa7dfca2660f5e6204ece41ab4d3f103a62baf01a26", func := "loop.example/g01083/laws.FnExactClosedSieves", spec := "fnExactClosedSieves", inPlace := ["sync/atomic.AddInt64"], unfollowed := true, recurses := true, apart := false }
def FnExactClosedSievesSaid : Prop := fnExactClosedSievesRow.holds Tryz.pinned (OpenSpec.ofChange fnExactClosedSievesSpec)

/-- ITS FALSE NEIGHBOUR: 'it returns false'. Refute it at one input. -/
def fnExactClosedSievesWrong : ChangeSpec := { name := "fnExactClosedSieves", fn := fun _ => fun
  | [d1, d2] => { results := [.lit (.bool false)], args := [d1, d2] }
  | _ => none }
def FnExactClosedSievesWrongFalsely : Prop := fnExactClosedSievesRow.holds Tryz.pinned (OpenSpec.ofChange fnExactClosedSievesWrong)

/-- 'laws.FnExactGeneratedTopology': WHATEVER THE INPUT: true; the input reads as it did. -/
def fnExactGeneratedTopologySpec : ChangeSpec := { name := "fnExactGeneratedTopology", fn := fun _ => fun
  | [d] => { results := [.lit (.bool true)], args := [d] }
  | _ => none }
def fnExactGeneratedTopologyRow : OpenClaim := { program := "ytfbijbginbjecaagreat", sum := "a5bfe7b4d3669b5eaad3ffa7dfca2660f5e6204ece41ab4d3f103a62baf01a26", func := "loop.example/g01083/laws.FnExactGeneratedTopology", spec := "fnExactGeneratedTopology", inPlace := ["sync/atomic.AddInt64", "sync/atomic.LoadInt64"], unfollowed := true, recurses := true, apart := false }
def FnExactGeneratedTopologySaid : Prop := fnExactGeneratedTopologyRow.holds Tryz.pinned (OpenSpec.ofChange fnExactGeneratedTopologySpec)

/-- ITS FALSE NEIGHBOUR: 'it returns false'. Refute it at one input. -/
def fnExactGeneratedTopologyWrong : ChangeSpec := { name := "fnExactGeneratedTopology", fn := fun _ => fun
  | [d] => { results := [.lit (.bool false)], args := [d] }
  | _ => none }
def FnExactGeneratedTopologyWrongFalsely : Prop := fnExactGeneratedTopologyRow.holds Tryz.pinned (OpenSpec.ofChange fnExactGeneratedTopologyWrong)

/-- 'laws.FnExactMeetTopologies': WHATEVER THE INPUT: true; the input reads as it did. -/
def fnExactMeetTopologiesSpec : ChangeSpec := { name := "fnExactMeetTopologies", fn := fun _ => fun
  | [d1, d2] => { results := [.lit (.bool true)], args := [d1, d2] }
  | _ => none }
def fnExactMeetTopologiesRow : OpenClaim := { program := "ytfbijbginbjecaagreat", sum := "a5bfe7b4d3669b5eaad3ffa7dfca2660f5e6204ece41ab4d3f103a62baf01a26", func := "loop.example/g01083/laws.FnExactMeetTopologies", spec := "fnExactMeetTopologies", inPlace := ["sync/atomic.AddInt64"], unfollowed := true, recurses := true, apart := false }
def FnExactMeetTopologiesSaid : Prop := fnExactMeetTopologiesRow.holds Tryz.pinned (OpenSpec.ofChange fnExactMeetTopologiesSpec)

/-- ITS FALSE NEIGHBOUR: 'it returns false'. Refute it at one input. -/
def fnExactMeetTopologiesWrong : ChangeSpec := { name := "fnExactMeetTopologies", fn := fun _ => fun
  | [d1, d2] => { results := [.lit (.bool false)], args := [d1, d2] }
  | _ => none }
def FnExactMeetTopologiesWrongFalsely : Prop := fnExactMeetTopologiesRow.holds Tryz.pinned (OpenSpec.ofChange fnExactMeetTopologiesWrong)

/-- 'laws.FnExactJoinTopologies': WHATEVER THE INPUT: true; the input reads as it did. -/
def fnExactJoinTopologiesSpec : ChangeSpec := { name := "fnExactJoinTopologies", fn := fun _ => fun
  | [d1, d2] => { results := [.lit (.bool true)], args := [d1, d2] }
  | _ => none }
def fnExactJoinTopologiesRow : OpenClaim := { program := "ytfbijbginbjecaagreat", sum := "a5bfe7b4d3669b5eaad3ffa7dfca2660f5e6204ece41ab4d3f103a62baf01a26", func := "loop.example/g01083/laws.FnExactJoinTopologies", spec := "fnExactJoinTopologies", inPlace := ["sync/atomic.AddInt64", "sync/atomic.LoadInt64"], unfollowed := true, recurses := true, apart := false }
def FnExactJoinTopologiesSaid : Prop := fnExactJoinTopologiesRow.holds Tryz.pinned (OpenSpec.ofChange fnExactJoinTopologiesSpec)

/-- ITS FALSE NEIGHBOUR: 'it returns false'. Refute it at one input. -/
def fnExactJoinTopologiesWrong : ChangeSpec := { name := "fnExactJoinTopologies", fn := fun _ => fun
  | [d1, d2] => { results := [.lit (.bool false)], args := [d1, d2] }
  | _ => none }
def FnExactJoinTopologiesWrongFalsely : Prop := fnExactJoinTopologiesRow.holds Tryz.pinned (OpenSpec.ofChange fnExactJoinTopologiesWrong)

/-- 'laws.FnExactModalityOf': WHATEVER THE INPUT: true; the input reads as it did. -/
def fnExactModalityOfSpec : ChangeSpec := { name := "fnExactModalityOf", fn := fun _ => fun
  | [d] => { results := [.lit (.bool true)], args := [d] }
  | _ => none }
def fnExactModalityOfRow : OpenClaim := { program := "ytfbijbginbjecaagreat", sum := "a5bfe7b4d3669b5eaad3ffa7dfca2660f5e6204ece41ab4d3f103a62baf01a26", func := "loop.example/g01083/laws.FnExactModalityOf", spec := "fnExactModalityOf", inPlace := ["sync/atomic.AddInt64"], unfollowed := true, recurses := true, apart := false }
def FnExactModalityOfSaid : Prop := fnExactModalityOfRow.holds Tryz.pinned (OpenSpec.ofChange fnExactModalityOfSpec)

/-- ITS FALSE NEIGHBOUR: 'it returns false'. Refute it at one input. -/
def fnExactModalityOfWrong : ChangeSpec := { name := "fnExactModalityOf", fn := fun _ => fun
  | [d] => { results := [.lit (.bool false)], args := [d] }
  | _ => none }
def FnExactModalityOfWrongFalsely : Prop := fnExactModalityOfRow.holds Tryz.pinned (OpenSpec.ofChange fnExactModalityOfWrong)

/-- 'laws.FnExactTopologyOfModality': WHATEVER THE INPUT: true; the input reads as it did. -/
def fnExactTopologyOfModalitySpec : ChangeSpec := { name := "fnExactTopologyOfModality", fn := fun _ => fun
  | [d1, d2] => { results := [.lit (.bool true)], args := [d1, d2] }
  | _ => none }
def fnExactTopologyOfModalityRow : OpenClaim := { program := "ytfbijbginbjecaagreat", sum := "a5bfe7b4d3669b5eaad3ffa7dfca2660f5e6204ece41ab4d3f103a62baf01a26", func := "loop.example/g01083/laws.FnExactTopologyOfModality", spec := "fnExactTopologyOfModality", inPlace := ["sync/atomic.AddInt64"], unfollowed := true, recurses := true, apart := false }
def FnExactTopologyOfModalitySaid : Prop := fnExactTopologyOfModalityRow.holds Tryz.pinned (OpenSpec.ofChange fnExactTopologyOfModalitySpec)

/-- ITS FALSE NEIGHBOUR: 'it returns false'. Refute it at one input. -/
def fnExactTopologyOfModalityWrong : ChangeSpec := { name := "fnExactTopologyOfModality", fn := fun _ => fun
  | [d1, d2] => { results := [.lit (.bool false)], args := [d1, d2] }
  | _ => none }
def FnExactTopologyOfModalityWrongFalsely : Prop := fnExactTopologyOfModalityRow.holds Tryz.pinned (OpenSpec.ofChange fnExactTopologyOfModalityWrong)

/- THE SECOND FORM. 'bulk': how many values and letters a reading holds, each counted each time it is reached (what is shared counts as often as it is met; a slice's spare places count too). A statement '..UptoSaid' is the law's where the arguments, and the package variables that the reading takes, are together of bulk at most 1048576: NARROWER than '..Said'. Prove '..Said' where nothing that the law and all that it calls make is longer than what came in: it says more and counts as full. Else prove '..UptoSaid'. A law counts once. -/
mutual
def uptoBulk {H : Type} : DataW H → Nat
  | .lit (.string bytes) => bytes.length + 1
  | .lit _ => 1
  | .nil => 1
  | .ptr d => uptoBulk d + 1
  | .slice elems spare => uptoBulkAll elems + uptoBulkAll spare + 1
  | .agg parts => uptoBulkAll parts + 1
  | .iface _ d => uptoBulk d + 1
  | .map entries => uptoBulkEntries entries + 1
  | .held _ => 1
def uptoBulkAll {H : Type} : List (DataW H) → Nat
  | [] => 0
  | d :: r => uptoBulk d + uptoBulkAll r
def uptoBulkEntries {H : Type} : List (Lit × DataW H) → Nat
  | [] => 0
  | x :: r => uptoBulkEntry x + uptoBulkEntries r
def uptoBulkEntry {H : Type} : Lit × DataW H → Nat
  | (.string bytes, d) => bytes.length + uptoBulk d + 1
  | (_, d) => uptoBulk d + 1
 end
def uptoSmall : (H : Type) → List (DataW H) → Bool := fun _ ds => decide (uptoBulkAll ds ≤ 1048576)
def OpenSpec.upto (s : _root_.Go.ChangeSpec) : _root_.Go.OpenSpec := { _root_.Go.OpenSpec.ofChange s with cond := some uptoSmall }

/-- 'laws.FnExactLeastTopology', WHERE WHAT IT READS IS OF BULK AT MOST 1048576: true; the input reads as it did. -/
def fnExactLeastTopologyUptoRow : OpenClaim := { program := "ytfbijbginbjecaagreat", sum := "a5bfe7b4d3669b5eaad3ffa7dfca2660f5e6204ece41ab4d3f103a62baf01a26", func := "loop.example/g01083/laws.FnExactLeastTopology", spec := "fnExactLeastTopology", inPlace := ["sync/atomic.AddInt64"], unfollowed := true, recurses := true, apart := false, narrowed := true }
def FnExactLeastTopologyUptoSaid : Prop := fnExactLeastTopologyUptoRow.holds Tryz.pinned (OpenSpec.upto fnExactLeastTopologySpec)

/-- 'laws.FnExactGreatestTopology', WHERE WHAT IT READS IS OF BULK AT MOST 1048576: true; the input reads as it did. -/
def fnExactGreatestTopologyUptoRow : OpenClaim := { program := "ytfbijbginbjecaagreat", sum := "a5bfe7b4d3669b5eaad3ffa7dfca2660f5e6204ece41ab4d3f103a62baf01a26", func := "loop.example/g01083/laws.FnExactGreatestTopology", spec := "fnExactGreatestTopology", inPlace := ["sync/atomic.AddInt64"], unfollowed := true, recurses := true, apart := false, narrowed := true }
def FnExactGreatestTopologyUptoSaid : Prop := fnExactGreatestTopologyUptoRow.holds Tryz.pinned (OpenSpec.upto fnExactGreatestTopologySpec)

/-- 'laws.FnExactDenseTopology', WHERE WHAT IT READS IS OF BULK AT MOST 1048576: true; the input reads as it did. -/
def fnExactDenseTopologyUptoRow : OpenClaim := { program := "ytfbijbginbjecaagreat", sum := "a5bfe7b4d3669b5eaad3ffa7dfca2660f5e6204ece41ab4d3f103a62baf01a26", func := "loop.example/g01083/laws.FnExactDenseTopology", spec := "fnExactDenseTopology", inPlace := ["sync/atomic.AddInt64"], unfollowed := true, recurses := true, apart := false, narrowed := true }
def FnExactDenseTopologyUptoSaid : Prop := fnExactDenseTopologyUptoRow.holds Tryz.pinned (OpenSpec.upto fnExactDenseTopologySpec)

/-- 'laws.FnExactIsTopology', WHERE WHAT IT READS IS OF BULK AT MOST 1048576: true; the input reads as it did. -/
def fnExactIsTopologyUptoRow : OpenClaim := { program := "ytfbijbginbjecaagreat", sum := "a5bfe7b4d3669b5eaad3ffa7dfca2660f5e6204ece41ab4d3f103a62baf01a26", func := "loop.example/g01083/laws.FnExactIsTopology", spec := "fnExactIsTopology", inPlace := ["sync/atomic.AddInt64"], unfollowed := true, recurses := true, apart := false, narrowed := true }
def FnExactIsTopologyUptoSaid : Prop := fnExactIsTopologyUptoRow.holds Tryz.pinned (OpenSpec.upto fnExactIsTopologySpec)

/-- 'laws.FnExactCloseSieve', WHERE WHAT IT READS IS OF BULK AT MOST 1048576: true; the input reads as it did. -/
def fnExactCloseSieveUptoRow : OpenClaim := { program := "ytfbijbginbjecaagreat", sum := "a5bfe7b4d3669b5eaad3ffa7dfca2660f5e6204ece41ab4d3f103a62baf01a26", func := "loop.example/g01083/laws.FnExactCloseSieve", spec := "fnExactCloseSieve", inPlace := ["sync/atomic.AddInt64"], unfollowed := true, recurses := true, apart := false, narrowed := true }
def FnExactCloseSieveUptoSaid : Prop := fnExactCloseSieveUptoRow.holds Tryz.pinned (OpenSpec.upto fnExactCloseSieveSpec)

/-- 'laws.FnExactLeastCovers', WHERE WHAT IT READS IS OF BULK AT MOST 1048576: true; the input reads as it did. -/
def fnExactLeastCoversUptoRow : OpenClaim := { program := "ytfbijbginbjecaagreat", sum := "a5bfe7b4d3669b5eaad3ffa7dfca2660f5e6204ece41ab4d3f103a62baf01a26", func := "loop.example/g01083/laws.FnExactLeastCovers", spec := "fnExactLeastCovers", inPlace := ["sync/atomic.AddInt64"], unfollowed := true, recurses := true, apart := false, narrowed := true }
def FnExactLeastCoversUptoSaid : Prop := fnExactLeastCoversUptoRow.holds Tryz.pinned (OpenSpec.upto fnExactLeastCoversSpec)

/-- 'laws.FnExactClosedSieves', WHERE WHAT IT READS IS OF BULK AT MOST 1048576: true; the input reads as it did. -/
def fnExactClosedSievesUptoRow : OpenClaim := { program := "ytfbijbginbjecaagreat", sum := "a5bfe7b4d3669b5eaad3ffa7dfca2660f5e6204ece41ab4d3f103a62baf01a26", func := "loop.example/g01083/laws.FnExactClosedSieves", spec := "fnExactClosedSieves", inPlace := ["sync/atomic.AddInt64"], unfollowed := true, recurses := true, apart := false, narrowed := true }
def FnExactClosedSievesUptoSaid : Prop := fnExactClosedSievesUptoRow.holds Tryz.pinned (OpenSpec.upto fnExactClosedSievesSpec)

/-- 'laws.FnExactGeneratedTopology', WHERE WHAT IT READS IS OF BULK AT MOST 1048576: true; the input reads as it did. -/
def fnExactGeneratedTopologyUptoRow : OpenClaim := { program := "ytfbijbginbjecaagreat", sum := "a5bfe7b4d3669b5eaad3ffa7dfca2660f5e6204ece41ab4d3f103a62baf01a26", func := "loop.example/g01083/laws.FnExactGeneratedTopology", spec := "fnExactGeneratedTopology", inPlace := ["sync/atomic.AddInt64", "sync/atomic.LoadInt64"], unfollowed := true, recurses := true, apart := false, narrowed := true }
def FnExactGeneratedTopologyUptoSaid : Prop := fnExactGeneratedTopologyUptoRow.holds Tryz.pinned (OpenSpec.upto fnExactGeneratedTopologySpec)

/-- 'laws.FnExactMeetTopologies', WHERE WHAT IT READS IS OF BULK AT MOST 1048576: true; the input reads as it did. -/
def fnExactMeetTopologiesUptoRow : OpenClaim := { program := "ytfbijbginbjecaagreat", sum := "a5bfe7b4d3669b5eaad3ffa7dfca2660f5e6204ece41ab4d3f103a62baf01a26", func := "loop.example/g01083/laws.FnExactMeetTopologies", spec := "fnExactMeetTopologies", inPlace := ["sync/atomic.AddInt64"], unfollowed := true, recurses := true, apart := false, narrowed := true }
def FnExactMeetTopologiesUptoSaid : Prop := fnExactMeetTopologiesUptoRow.holds Tryz.pinned (OpenSpec.upto fnExactMeetTopologiesSpec)

/-- 'laws.FnExactJoinTopologies', WHERE WHAT IT READS IS OF BULK AT MOST 1048576: true; the input reads as it did. -/
def fnExactJoinTopologiesUptoRow : OpenClaim := { program := "ytfbijbginbjecaagreat", sum := "a5bfe7b4d3669b5eaad3ffa7dfca2660f5e6204ece41ab4d3f103a62baf01a26", func := "loop.example/g01083/laws.FnExactJoinTopologies", spec := "fnExactJoinTopologies", inPlace := ["sync/atomic.AddInt64", "sync/atomic.LoadInt64"], unfollowed := true, recurses := true, apart := false, narrowed := true }
def FnExactJoinTopologiesUptoSaid : Prop := fnExactJoinTopologiesUptoRow.holds Tryz.pinned (OpenSpec.upto fnExactJoinTopologiesSpec)

/-- 'laws.FnExactModalityOf', WHERE WHAT IT READS IS OF BULK AT MOST 1048576: true; the input reads as it did. -/
def fnExactModalityOfUptoRow : OpenClaim := { program := "ytfbijbginbjecaagreat", sum := "a5bfe7b4d3669b5eaad3ffa7dfca2660f5e6204ece41ab4d3f103a62baf01a26", func := "loop.example/g01083/laws.FnExactModalityOf", spec := "fnExactModalityOf", inPlace := ["sync/atomic.AddInt64"], unfollowed := true, recurses := true, apart := false, narrowed := true }
def FnExactModalityOfUptoSaid : Prop := fnExactModalityOfUptoRow.holds Tryz.pinned (OpenSpec.upto fnExactModalityOfSpec)

/-- 'laws.FnExactTopologyOfModality', WHERE WHAT IT READS IS OF BULK AT MOST 1048576: true; the input reads as it did. -/
def fnExactTopologyOfModalityUptoRow : OpenClaim := { program := "ytfbijbginbjecaagreat", sum := "a5bfe7b4d3669b5eaad3ffa7dfca2660f5e6204ece41ab4d3f103a62baf01a26", func := "loop.example/g01083/laws.FnExactTopologyOfModality", spec := "fnExactTopologyOfModality", inPlace := ["sync/atomic.AddInt64"], unfollowed := true, recurses := true, apart := false, narrowed := true }
def FnExactTopologyOfModalityUptoSaid : Prop := fnExactTopologyOfModalityUptoRow.holds Tryz.pinned (OpenSpec.upto fnExactTopologyOfModalitySpec)

end Rows
end Go.Proofs.YtfbijbginbjecaaGreat
