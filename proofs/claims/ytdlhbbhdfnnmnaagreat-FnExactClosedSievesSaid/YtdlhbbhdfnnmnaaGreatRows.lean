/-
  NARROWER THAN 'FOR EVERY INPUT', by the rows' own cells (each row's printed sentence says how): FnExactLeftExtension: calm · FnExactLeftUnit: calm · FnExactLeftOfMap: calm · FnExactLeftExtended: calm.
  DERIVED. THE GIVEN ROWS OF THIS SEAT. 12 by the template 'for every input the law returns true; each argument reads behind the call as it read before'; 0 by the template 'total and deterministic' (their statements: YtdlhbbhdfnnmnaaGreatTotals.lean).
  GIVEN WITH THE SEED: the statements are not yours to turn. If you find one false, say at which input.
  Laid BY PROGRAM, IN A SANDBOX (cutbox-rows.mjs): the forced cells as the released guide's own fill.sh prints them over the translation 923872f73f47ef85… (all of the seat's roots in one cut). By AI agents, Wed Nov 11 2026. No macro, syntax, notation, axiom, sorry.
-/
import Derived.Test.YtdlhbbhdfnnmnaaGreatChecked
import GoSem.Claim
import GoSem.ClaimJoined
import GoSem.ClaimMapViews
import Derived.JoinedTies
import Derived.KernelRfl
namespace Go.Proofs.YtdlhbbhdfnnmnaaGreat
/- THE CELL 'sum', in the pinned program and in every row, IS THE sha256 OF THE DUMP (.gsa) THAT YtdlhbbhdfnnmnaaGreatProg.lean LOADS. Nothing in Lean hashes anything: it is a label: what it is worth is what the hold of that sum in a sandbox is worth. -/
noncomputable def Tryz.pinned : Pinned := { name := "ytdlhbbhdfnnmnaagreat", sum := "923872f73f47ef85b74a0f186f6125297898466b2a5074b4fcaf4bb642ddef7b", checked := Tryz.checked }
namespace Rows
def none {H : Type} : Left H := { results := [], args := [] }

/-- 'laws.FnExactPushoutSets': WHATEVER THE INPUT: true; the input reads as it did. -/
def fnExactPushoutSetsSpec : ChangeSpec := { name := "fnExactPushoutSets", fn := fun _ => fun
  | [d1, d2] => { results := [.lit (.bool true)], args := [d1, d2] }
  | _ => none }
def fnExactPushoutSetsRow : OpenClaim := { program := "ytdlhbbhdfnnmnaagreat", sum := "923872f73f47ef85b74a0f186f6125297898466b2a5074b4fcaf4bb642ddef7b", func := "loop.example/g01083/laws.FnExactPushoutSets", spec := "fnExactPushoutSets", inPlace := ["(*sync.WaitGroup).Add", "internal/race.ReleaseMerge", "internal/race.Disable", "internal/race.Enable", "internal/synctest.IsInBubble", "internal/synctest.Associate[sync.WaitGroup]", "sync.fatal", "sync/atomic.OrUint64", "sync/atomic.AddUint64", "internal/race.Read", "sync/atomic.LoadUint64", "sync/atomic.StoreUint64", "internal/synctest.Disassociate[sync.WaitGroup]", "sync.runtime_Semrelease", "(*sync.WaitGroup).Done", "(*sync.WaitGroup).Wait", "internal/race.Acquire", "internal/synctest.IsAssociated[sync.WaitGroup]", "sync/atomic.CompareAndSwapUint64", "internal/race.Write", "sync.runtime_SemacquireWaitGroup"], unfollowed := true, recurses := true, leaving := true, apart := false }
def FnExactPushoutSetsSaid : Prop := fnExactPushoutSetsRow.holds Tryz.pinned (OpenSpec.ofChange fnExactPushoutSetsSpec)

/-- ITS FALSE NEIGHBOUR: 'it returns false'. Refute it at one input. -/
def fnExactPushoutSetsWrong : ChangeSpec := { name := "fnExactPushoutSets", fn := fun _ => fun
  | [d1, d2] => { results := [.lit (.bool false)], args := [d1, d2] }
  | _ => none }
def FnExactPushoutSetsWrongFalsely : Prop := fnExactPushoutSetsRow.holds Tryz.pinned (OpenSpec.ofChange fnExactPushoutSetsWrong)

/-- 'laws.FnExactLeftExtension': WHATEVER THE INPUT: true; the input reads as it did. -/
def fnExactLeftExtensionSpec : ChangeSpec := { name := "fnExactLeftExtension", fn := fun _ => fun
  | [d1, d2] => { results := [.lit (.bool true)], args := [d1, d2] }
  | _ => none }
def fnExactLeftExtensionRow : OpenClaim := { program := "ytdlhbbhdfnnmnaagreat", sum := "923872f73f47ef85b74a0f186f6125297898466b2a5074b4fcaf4bb642ddef7b", func := "loop.example/g01083/laws.FnExactLeftExtension", spec := "fnExactLeftExtension", inPlace := ["(*internal/sync.Mutex).Lock", "internal/race.Disable", "sync/atomic.CompareAndSwapInt32", "internal/race.Enable", "internal/race.Acquire", "(*internal/sync.Mutex).lockSlow", "internal/sync.runtime_canSpin", "internal/sync.runtime_doSpin", "internal/sync.throw", "internal/sync.runtime_nanotime", "internal/sync.runtime_SemacquireMutex", "sync/atomic.AddInt32", "(*internal/sync.Mutex).Unlock", "internal/race.ReleaseMerge", "(*internal/sync.Mutex).unlockSlow", "internal/sync.fatal", "internal/sync.runtime_Semrelease", "(*sync.WaitGroup).Add", "internal/synctest.IsInBubble", "internal/synctest.Associate[sync.WaitGroup]", "sync.fatal", "sync/atomic.OrUint64", "sync/atomic.AddUint64", "internal/race.Read", "sync/atomic.LoadUint64", "sync/atomic.StoreUint64", "internal/synctest.Disassociate[sync.WaitGroup]", "sync.runtime_Semrelease", "(*sync.WaitGroup).Done", "(*sync.WaitGroup).Wait", "internal/synctest.IsAssociated[sync.WaitGroup]", "sync/atomic.CompareAndSwapUint64", "internal/race.Write", "sync.runtime_SemacquireWaitGroup"], unfollowed := true, recurses := true, leaving := true, apart := false, calm := true, outside := [.timePasses] }
def FnExactLeftExtensionSaid : Prop := fnExactLeftExtensionRow.holds Tryz.pinned (OpenSpec.ofChange fnExactLeftExtensionSpec)

/-- ITS FALSE NEIGHBOUR: 'it returns false'. Refute it at one input. -/
def fnExactLeftExtensionWrong : ChangeSpec := { name := "fnExactLeftExtension", fn := fun _ => fun
  | [d1, d2] => { results := [.lit (.bool false)], args := [d1, d2] }
  | _ => none }
def FnExactLeftExtensionWrongFalsely : Prop := fnExactLeftExtensionRow.holds Tryz.pinned (OpenSpec.ofChange fnExactLeftExtensionWrong)

/-- 'laws.FnExactCharacteristicMap': WHATEVER THE INPUT: true; the input reads as it did. -/
def fnExactCharacteristicMapSpec : ChangeSpec := { name := "fnExactCharacteristicMap", fn := fun _ => fun
  | [d1, d2] => { results := [.lit (.bool true)], args := [d1, d2] }
  | _ => none }
def fnExactCharacteristicMapRow : OpenClaim := { program := "ytdlhbbhdfnnmnaagreat", sum := "923872f73f47ef85b74a0f186f6125297898466b2a5074b4fcaf4bb642ddef7b", func := "loop.example/g01083/laws.FnExactCharacteristicMap", spec := "fnExactCharacteristicMap", unfollowed := true, recurses := true, leaving := true, apart := false }
def FnExactCharacteristicMapSaid : Prop := fnExactCharacteristicMapRow.holds Tryz.pinned (OpenSpec.ofChange fnExactCharacteristicMapSpec)

/-- ITS FALSE NEIGHBOUR: 'it returns false'. Refute it at one input. -/
def fnExactCharacteristicMapWrong : ChangeSpec := { name := "fnExactCharacteristicMap", fn := fun _ => fun
  | [d1, d2] => { results := [.lit (.bool false)], args := [d1, d2] }
  | _ => none }
def FnExactCharacteristicMapWrongFalsely : Prop := fnExactCharacteristicMapRow.holds Tryz.pinned (OpenSpec.ofChange fnExactCharacteristicMapWrong)

/-- 'laws.FnExactLeftUnit': WHATEVER THE INPUT: true; the input reads as it did. -/
def fnExactLeftUnitSpec : ChangeSpec := { name := "fnExactLeftUnit", fn := fun _ => fun
  | [d1, d2] => { results := [.lit (.bool true)], args := [d1, d2] }
  | _ => none }
def fnExactLeftUnitRow : OpenClaim := { program := "ytdlhbbhdfnnmnaagreat", sum := "923872f73f47ef85b74a0f186f6125297898466b2a5074b4fcaf4bb642ddef7b", func := "loop.example/g01083/laws.FnExactLeftUnit", spec := "fnExactLeftUnit", inPlace := ["(*internal/sync.Mutex).Lock", "internal/race.Disable", "sync/atomic.CompareAndSwapInt32", "internal/race.Enable", "internal/race.Acquire", "(*internal/sync.Mutex).lockSlow", "internal/sync.runtime_canSpin", "internal/sync.runtime_doSpin", "internal/sync.throw", "internal/sync.runtime_nanotime", "internal/sync.runtime_SemacquireMutex", "sync/atomic.AddInt32", "(*internal/sync.Mutex).Unlock", "internal/race.ReleaseMerge", "(*internal/sync.Mutex).unlockSlow", "internal/sync.fatal", "internal/sync.runtime_Semrelease", "(*sync.WaitGroup).Add", "internal/synctest.IsInBubble", "internal/synctest.Associate[sync.WaitGroup]", "sync.fatal", "sync/atomic.OrUint64", "sync/atomic.AddUint64", "internal/race.Read", "sync/atomic.LoadUint64", "sync/atomic.StoreUint64", "internal/synctest.Disassociate[sync.WaitGroup]", "sync.runtime_Semrelease", "(*sync.WaitGroup).Done", "(*sync.WaitGroup).Wait", "internal/synctest.IsAssociated[sync.WaitGroup]", "sync/atomic.CompareAndSwapUint64", "internal/race.Write", "sync.runtime_SemacquireWaitGroup"], unfollowed := true, recurses := true, leaving := true, apart := false, calm := true, outside := [.timePasses] }
def FnExactLeftUnitSaid : Prop := fnExactLeftUnitRow.holds Tryz.pinned (OpenSpec.ofChange fnExactLeftUnitSpec)

/-- ITS FALSE NEIGHBOUR: 'it returns false'. Refute it at one input. -/
def fnExactLeftUnitWrong : ChangeSpec := { name := "fnExactLeftUnit", fn := fun _ => fun
  | [d1, d2] => { results := [.lit (.bool false)], args := [d1, d2] }
  | _ => none }
def FnExactLeftUnitWrongFalsely : Prop := fnExactLeftUnitRow.holds Tryz.pinned (OpenSpec.ofChange fnExactLeftUnitWrong)

/-- 'laws.FnExactPartOfMap': WHATEVER THE INPUT: true; the input reads as it did. -/
def fnExactPartOfMapSpec : ChangeSpec := { name := "fnExactPartOfMap", fn := fun _ => fun
  | [d] => { results := [.lit (.bool true)], args := [d] }
  | _ => none }
def fnExactPartOfMapRow : OpenClaim := { program := "ytdlhbbhdfnnmnaagreat", sum := "923872f73f47ef85b74a0f186f6125297898466b2a5074b4fcaf4bb642ddef7b", func := "loop.example/g01083/laws.FnExactPartOfMap", spec := "fnExactPartOfMap", unfollowed := true, recurses := true, leaving := true, apart := false }
def FnExactPartOfMapSaid : Prop := fnExactPartOfMapRow.holds Tryz.pinned (OpenSpec.ofChange fnExactPartOfMapSpec)

/-- ITS FALSE NEIGHBOUR: 'it returns false'. Refute it at one input. -/
def fnExactPartOfMapWrong : ChangeSpec := { name := "fnExactPartOfMap", fn := fun _ => fun
  | [d] => { results := [.lit (.bool false)], args := [d] }
  | _ => none }
def FnExactPartOfMapWrongFalsely : Prop := fnExactPartOfMapRow.holds Tryz.pinned (OpenSpec.ofChange fnExactPartOfMapWrong)

/-- 'laws.FnExactClosedSieves': WHATEVER THE INPUT: true; the input reads as it did. -/
def fnExactClosedSievesSpec : ChangeSpec := { name := "fnExactClosedSieves", fn := fun _ => fun
  | [d1, d2] => { results := [.lit (.bool true)], args := [d1, d2] }
  | _ => none }
def fnExactClosedSievesRow : OpenClaim := { program := "ytdlhbbhdfnnmnaagreat", sum := "923872f73f47ef85b74a0f186f6125297898466b2a5074b4fcaf4bb642ddef7b", func := "loop.example/g01083/laws.FnExactClosedSieves", spec := "fnExactClosedSieves", inPlace := ["sync/atomic.AddInt64"], unfollowed := true, recurses := true, leaving := true, apart := false }
def FnExactClosedSievesSaid : Prop := fnExactClosedSievesRow.holds Tryz.pinned (OpenSpec.ofChange fnExactClosedSievesSpec)

/-- ITS FALSE NEIGHBOUR: 'it returns false'. Refute it at one input. -/
def fnExactClosedSievesWrong : ChangeSpec := { name := "fnExactClosedSieves", fn := fun _ => fun
  | [d1, d2] => { results := [.lit (.bool false)], args := [d1, d2] }
  | _ => none }
def FnExactClosedSievesWrongFalsely : Prop := fnExactClosedSievesRow.holds Tryz.pinned (OpenSpec.ofChange fnExactClosedSievesWrong)

/-- 'laws.FnExactLeftOfMap': WHATEVER THE INPUT: true; the input reads as it did. -/
def fnExactLeftOfMapSpec : ChangeSpec := { name := "fnExactLeftOfMap", fn := fun _ => fun
  | [d1, d2] => { results := [.lit (.bool true)], args := [d1, d2] }
  | _ => none }
def fnExactLeftOfMapRow : OpenClaim := { program := "ytdlhbbhdfnnmnaagreat", sum := "923872f73f47ef85b74a0f186f6125297898466b2a5074b4fcaf4bb642ddef7b", func := "loop.example/g01083/laws.FnExactLeftOfMap", spec := "fnExactLeftOfMap", inPlace := ["(*internal/sync.Mutex).Lock", "internal/race.Disable", "sync/atomic.CompareAndSwapInt32", "internal/race.Enable", "internal/race.Acquire", "(*internal/sync.Mutex).lockSlow", "internal/sync.runtime_canSpin", "internal/sync.runtime_doSpin", "internal/sync.throw", "internal/sync.runtime_nanotime", "internal/sync.runtime_SemacquireMutex", "sync/atomic.AddInt32", "(*internal/sync.Mutex).Unlock", "internal/race.ReleaseMerge", "(*internal/sync.Mutex).unlockSlow", "internal/sync.fatal", "internal/sync.runtime_Semrelease", "(*sync.WaitGroup).Add", "internal/synctest.IsInBubble", "internal/synctest.Associate[sync.WaitGroup]", "sync.fatal", "sync/atomic.OrUint64", "sync/atomic.AddUint64", "internal/race.Read", "sync/atomic.LoadUint64", "sync/atomic.StoreUint64", "internal/synctest.Disassociate[sync.WaitGroup]", "sync.runtime_Semrelease", "(*sync.WaitGroup).Done", "(*sync.WaitGroup).Wait", "internal/synctest.IsAssociated[sync.WaitGroup]", "sync/atomic.CompareAndSwapUint64", "internal/race.Write", "sync.runtime_SemacquireWaitGroup"], unfollowed := true, recurses := true, leaving := true, apart := false, calm := true, outside := [.timePasses] }
def FnExactLeftOfMapSaid : Prop := fnExactLeftOfMapRow.holds Tryz.pinned (OpenSpec.ofChange fnExactLeftOfMapSpec)

/-- ITS FALSE NEIGHBOUR: 'it returns false'. Refute it at one input. -/
def fnExactLeftOfMapWrong : ChangeSpec := { name := "fnExactLeftOfMap", fn := fun _ => fun
  | [d1, d2] => { results := [.lit (.bool false)], args := [d1, d2] }
  | _ => none }
def FnExactLeftOfMapWrongFalsely : Prop := fnExactLeftOfMapRow.holds Tryz.pinned (OpenSpec.ofChange fnExactLeftOfMapWrong)

/-- 'laws.FnExactAllTopologies': WHATEVER THE INPUT: true; the input reads as it did. -/
def fnExactAllTopologiesSpec : ChangeSpec := { name := "fnExactAllTopologies", fn := fun _ => fun
  | [d] => { results := [.lit (.bool true)], args := [d] }
  | _ => none }
def fnExactAllTopologiesRow : OpenClaim := { program := "ytdlhbbhdfnnmnaagreat", sum := "923872f73f47ef85b74a0f186f6125297898466b2a5074b4fcaf4bb642ddef7b", func := "loop.example/g01083/laws.FnExactAllTopologies", spec := "fnExactAllTopologies", inPlace := ["sync/atomic.LoadInt64", "sync/atomic.StoreInt64", "sync/atomic.AddInt64"], unfollowed := true, recurses := true, leaving := true, apart := false }
def FnExactAllTopologiesSaid : Prop := fnExactAllTopologiesRow.holds Tryz.pinned (OpenSpec.ofChange fnExactAllTopologiesSpec)

/-- ITS FALSE NEIGHBOUR: 'it returns false'. Refute it at one input. -/
def fnExactAllTopologiesWrong : ChangeSpec := { name := "fnExactAllTopologies", fn := fun _ => fun
  | [d] => { results := [.lit (.bool false)], args := [d] }
  | _ => none }
def FnExactAllTopologiesWrongFalsely : Prop := fnExactAllTopologiesRow.holds Tryz.pinned (OpenSpec.ofChange fnExactAllTopologiesWrong)

/-- 'laws.FnExactLeftExtended': WHATEVER THE INPUT: true; the input reads as it did. -/
def fnExactLeftExtendedSpec : ChangeSpec := { name := "fnExactLeftExtended", fn := fun _ => fun
  | [d1, d2, d3] => { results := [.lit (.bool true)], args := [d1, d2, d3] }
  | _ => none }
def fnExactLeftExtendedRow : OpenClaim := { program := "ytdlhbbhdfnnmnaagreat", sum := "923872f73f47ef85b74a0f186f6125297898466b2a5074b4fcaf4bb642ddef7b", func := "loop.example/g01083/laws.FnExactLeftExtended", spec := "fnExactLeftExtended", inPlace := ["(*internal/sync.Mutex).Lock", "internal/race.Disable", "sync/atomic.CompareAndSwapInt32", "internal/race.Enable", "internal/race.Acquire", "(*internal/sync.Mutex).lockSlow", "internal/sync.runtime_canSpin", "internal/sync.runtime_doSpin", "internal/sync.throw", "internal/sync.runtime_nanotime", "internal/sync.runtime_SemacquireMutex", "sync/atomic.AddInt32", "(*internal/sync.Mutex).Unlock", "internal/race.ReleaseMerge", "(*internal/sync.Mutex).unlockSlow", "internal/sync.fatal", "internal/sync.runtime_Semrelease", "(*sync.WaitGroup).Add", "internal/synctest.IsInBubble", "internal/synctest.Associate[sync.WaitGroup]", "sync.fatal", "sync/atomic.OrUint64", "sync/atomic.AddUint64", "internal/race.Read", "sync/atomic.LoadUint64", "sync/atomic.StoreUint64", "internal/synctest.Disassociate[sync.WaitGroup]", "sync.runtime_Semrelease", "(*sync.WaitGroup).Done", "(*sync.WaitGroup).Wait", "internal/synctest.IsAssociated[sync.WaitGroup]", "sync/atomic.CompareAndSwapUint64", "internal/race.Write", "sync.runtime_SemacquireWaitGroup"], unfollowed := true, recurses := true, leaving := true, apart := false, calm := true, outside := [.timePasses] }
def FnExactLeftExtendedSaid : Prop := fnExactLeftExtendedRow.holds Tryz.pinned (OpenSpec.ofChange fnExactLeftExtendedSpec)

/-- ITS FALSE NEIGHBOUR: 'it returns false'. Refute it at one input. -/
def fnExactLeftExtendedWrong : ChangeSpec := { name := "fnExactLeftExtended", fn := fun _ => fun
  | [d1, d2, d3] => { results := [.lit (.bool false)], args := [d1, d2, d3] }
  | _ => none }
def FnExactLeftExtendedWrongFalsely : Prop := fnExactLeftExtendedRow.holds Tryz.pinned (OpenSpec.ofChange fnExactLeftExtendedWrong)

/-- 'laws.FnExactTopologyOfModality': WHATEVER THE INPUT: true; the input reads as it did. -/
def fnExactTopologyOfModalitySpec : ChangeSpec := { name := "fnExactTopologyOfModality", fn := fun _ => fun
  | [d1, d2] => { results := [.lit (.bool true)], args := [d1, d2] }
  | _ => none }
def fnExactTopologyOfModalityRow : OpenClaim := { program := "ytdlhbbhdfnnmnaagreat", sum := "923872f73f47ef85b74a0f186f6125297898466b2a5074b4fcaf4bb642ddef7b", func := "loop.example/g01083/laws.FnExactTopologyOfModality", spec := "fnExactTopologyOfModality", inPlace := ["sync/atomic.AddInt64"], unfollowed := true, recurses := true, leaving := true, apart := false }
def FnExactTopologyOfModalitySaid : Prop := fnExactTopologyOfModalityRow.holds Tryz.pinned (OpenSpec.ofChange fnExactTopologyOfModalitySpec)

/-- ITS FALSE NEIGHBOUR: 'it returns false'. Refute it at one input. -/
def fnExactTopologyOfModalityWrong : ChangeSpec := { name := "fnExactTopologyOfModality", fn := fun _ => fun
  | [d1, d2] => { results := [.lit (.bool false)], args := [d1, d2] }
  | _ => none }
def FnExactTopologyOfModalityWrongFalsely : Prop := fnExactTopologyOfModalityRow.holds Tryz.pinned (OpenSpec.ofChange fnExactTopologyOfModalityWrong)

/-- 'laws.FnExactIsSeparated': WHATEVER THE INPUT: true; the input reads as it did. -/
def fnExactIsSeparatedSpec : ChangeSpec := { name := "fnExactIsSeparated", fn := fun _ => fun
  | [d1, d2] => { results := [.lit (.bool true)], args := [d1, d2] }
  | _ => none }
def fnExactIsSeparatedRow : OpenClaim := { program := "ytdlhbbhdfnnmnaagreat", sum := "923872f73f47ef85b74a0f186f6125297898466b2a5074b4fcaf4bb642ddef7b", func := "loop.example/g01083/laws.FnExactIsSeparated", spec := "fnExactIsSeparated", inPlace := ["sync/atomic.AddInt64"], unfollowed := true, recurses := true, leaving := true, apart := false }
def FnExactIsSeparatedSaid : Prop := fnExactIsSeparatedRow.holds Tryz.pinned (OpenSpec.ofChange fnExactIsSeparatedSpec)

/-- ITS FALSE NEIGHBOUR: 'it returns false'. Refute it at one input. -/
def fnExactIsSeparatedWrong : ChangeSpec := { name := "fnExactIsSeparated", fn := fun _ => fun
  | [d1, d2] => { results := [.lit (.bool false)], args := [d1, d2] }
  | _ => none }
def FnExactIsSeparatedWrongFalsely : Prop := fnExactIsSeparatedRow.holds Tryz.pinned (OpenSpec.ofChange fnExactIsSeparatedWrong)

/-- 'laws.FnExactIsDenseFor': WHATEVER THE INPUT: true; the input reads as it did. -/
def fnExactIsDenseForSpec : ChangeSpec := { name := "fnExactIsDenseFor", fn := fun _ => fun
  | [d1, d2, d3] => { results := [.lit (.bool true)], args := [d1, d2, d3] }
  | _ => none }
def fnExactIsDenseForRow : OpenClaim := { program := "ytdlhbbhdfnnmnaagreat", sum := "923872f73f47ef85b74a0f186f6125297898466b2a5074b4fcaf4bb642ddef7b", func := "loop.example/g01083/laws.FnExactIsDenseFor", spec := "fnExactIsDenseFor", inPlace := ["sync/atomic.AddInt64"], unfollowed := true, recurses := true, leaving := true, apart := false }
def FnExactIsDenseForSaid : Prop := fnExactIsDenseForRow.holds Tryz.pinned (OpenSpec.ofChange fnExactIsDenseForSpec)

/-- ITS FALSE NEIGHBOUR: 'it returns false'. Refute it at one input. -/
def fnExactIsDenseForWrong : ChangeSpec := { name := "fnExactIsDenseFor", fn := fun _ => fun
  | [d1, d2, d3] => { results := [.lit (.bool false)], args := [d1, d2, d3] }
  | _ => none }
def FnExactIsDenseForWrongFalsely : Prop := fnExactIsDenseForRow.holds Tryz.pinned (OpenSpec.ofChange fnExactIsDenseForWrong)

/- THE SECOND FORM. 'bulk': how many values and letters a reading holds, each counted each time it is reached (what is shared counts as often as it is met; a slice's spare places count too). A statement '..UptoSaid' is the law's where the arguments, and the package variables that the reading takes, are together of bulk at most 1048576: NARROWER than '..Said'. Prove '..Said' where nothing that the law and all that it calls make is longer than what came in: it says more and counts as full. Else prove '..UptoSaid'. A law counts once. -/
mutual
def uptoBulk {H : Type} : DataW H → Nat
  | .lit (.string bytes) => bytes.length + 1
  | .lit _ => 1
  | .nil => 1
  | .ptr d => uptoBulk d + 1
  | .slice elems spare => uptoBulkAll elems + uptoBulkAll spare + 1
  | .agg parts => uptoBulkAll parts + 1
  | .iface _ d => uptoBulk d + 1
  | .map entries => uptoBulkEntries entries + 1
  | .held _ => 1
def uptoBulkAll {H : Type} : List (DataW H) → Nat
  | [] => 0
  | d :: r => uptoBulk d + uptoBulkAll r
def uptoBulkEntries {H : Type} : List (Lit × DataW H) → Nat
  | [] => 0
  | x :: r => uptoBulkEntry x + uptoBulkEntries r
def uptoBulkEntry {H : Type} : Lit × DataW H → Nat
  | (.string bytes, d) => bytes.length + uptoBulk d + 1
  | (_, d) => uptoBulk d + 1
 end
def uptoSmall : (H : Type) → List (DataW H) → Bool := fun _ ds => decide (uptoBulkAll ds ≤ 1048576)
def OpenSpec.upto (s : _root_.Go.ChangeSpec) : _root_.Go.OpenSpec := { _root_.Go.OpenSpec.ofChange s with cond := some uptoSmall }

/-- 'laws.FnExactPushoutSets', WHERE WHAT IT READS IS OF BULK AT MOST 1048576: true; the input reads as it did. -/
def fnExactPushoutSetsUptoRow : OpenClaim := { program := "ytdlhbbhdfnnmnaagreat", sum := "923872f73f47ef85b74a0f186f6125297898466b2a5074b4fcaf4bb642ddef7b", func := "loop.example/g01083/laws.FnExactPushoutSets", spec := "fnExactPushoutSets", inPlace := ["(*sync.WaitGroup).Add", "internal/race.ReleaseMerge", "internal/race.Disable", "internal/race.Enable", "internal/synctest.IsInBubble", "internal/synctest.Associate[sync.WaitGroup]", "sync.fatal", "sync/atomic.OrUint64", "sync/atomic.AddUint64", "internal/race.Read", "sync/atomic.LoadUint64", "sync/atomic.StoreUint64", "internal/synctest.Disassociate[sync.WaitGroup]", "sync.runtime_Semrelease", "(*sync.WaitGroup).Done", "(*sync.WaitGroup).Wait", "internal/race.Acquire", "internal/synctest.IsAssociated[sync.WaitGroup]", "sync/atomic.CompareAndSwapUint64", "internal/race.Write", "sync.runtime_SemacquireWaitGroup"], unfollowed := true, recurses := true, leaving := true, apart := false, narrowed := true }
def FnExactPushoutSetsUptoSaid : Prop := fnExactPushoutSetsUptoRow.holds Tryz.pinned (OpenSpec.upto fnExactPushoutSetsSpec)

/-- 'laws.FnExactLeftExtension', WHERE WHAT IT READS IS OF BULK AT MOST 1048576: true; the input reads as it did. -/
def fnExactLeftExtensionUptoRow : OpenClaim := { program := "ytdlhbbhdfnnmnaagreat", sum := "923872f73f47ef85b74a0f186f6125297898466b2a5074b4fcaf4bb642ddef7b", func := "loop.example/g01083/laws.FnExactLeftExtension", spec := "fnExactLeftExtension", inPlace := ["(*internal/sync.Mutex).Lock", "internal/race.Disable", "sync/atomic.CompareAndSwapInt32", "internal/race.Enable", "internal/race.Acquire", "(*internal/sync.Mutex).lockSlow", "internal/sync.runtime_canSpin", "internal/sync.runtime_doSpin", "internal/sync.throw", "internal/sync.runtime_nanotime", "internal/sync.runtime_SemacquireMutex", "sync/atomic.AddInt32", "(*internal/sync.Mutex).Unlock", "internal/race.ReleaseMerge", "(*internal/sync.Mutex).unlockSlow", "internal/sync.fatal", "internal/sync.runtime_Semrelease", "(*sync.WaitGroup).Add", "internal/synctest.IsInBubble", "internal/synctest.Associate[sync.WaitGroup]", "sync.fatal", "sync/atomic.OrUint64", "sync/atomic.AddUint64", "internal/race.Read", "sync/atomic.LoadUint64", "sync/atomic.StoreUint64", "internal/synctest.Disassociate[sync.WaitGroup]", "sync.runtime_Semrelease", "(*sync.WaitGroup).Done", "(*sync.WaitGroup).Wait", "internal/synctest.IsAssociated[sync.WaitGroup]", "sync/atomic.CompareAndSwapUint64", "internal/race.Write", "sync.runtime_SemacquireWaitGroup"], unfollowed := true, recurses := true, leaving := true, apart := false, calm := true, outside := [.timePasses], narrowed := true }
def FnExactLeftExtensionUptoSaid : Prop := fnExactLeftExtensionUptoRow.holds Tryz.pinned (OpenSpec.upto fnExactLeftExtensionSpec)

/-- 'laws.FnExactCharacteristicMap', WHERE WHAT IT READS IS OF BULK AT MOST 1048576: true; the input reads as it did. -/
def fnExactCharacteristicMapUptoRow : OpenClaim := { program := "ytdlhbbhdfnnmnaagreat", sum := "923872f73f47ef85b74a0f186f6125297898466b2a5074b4fcaf4bb642ddef7b", func := "loop.example/g01083/laws.FnExactCharacteristicMap", spec := "fnExactCharacteristicMap", unfollowed := true, recurses := true, leaving := true, apart := false, narrowed := true }
def FnExactCharacteristicMapUptoSaid : Prop := fnExactCharacteristicMapUptoRow.holds Tryz.pinned (OpenSpec.upto fnExactCharacteristicMapSpec)

/-- 'laws.FnExactLeftUnit', WHERE WHAT IT READS IS OF BULK AT MOST 1048576: true; the input reads as it did. -/
def fnExactLeftUnitUptoRow : OpenClaim := { program := "ytdlhbbhdfnnmnaagreat", sum := "923872f73f47ef85b74a0f186f6125297898466b2a5074b4fcaf4bb642ddef7b", func := "loop.example/g01083/laws.FnExactLeftUnit", spec := "fnExactLeftUnit", inPlace := ["(*internal/sync.Mutex).Lock", "internal/race.Disable", "sync/atomic.CompareAndSwapInt32", "internal/race.Enable", "internal/race.Acquire", "(*internal/sync.Mutex).lockSlow", "internal/sync.runtime_canSpin", "internal/sync.runtime_doSpin", "internal/sync.throw", "internal/sync.runtime_nanotime", "internal/sync.runtime_SemacquireMutex", "sync/atomic.AddInt32", "(*internal/sync.Mutex).Unlock", "internal/race.ReleaseMerge", "(*internal/sync.Mutex).unlockSlow", "internal/sync.fatal", "internal/sync.runtime_Semrelease", "(*sync.WaitGroup).Add", "internal/synctest.IsInBubble", "internal/synctest.Associate[sync.WaitGroup]", "sync.fatal", "sync/atomic.OrUint64", "sync/atomic.AddUint64", "internal/race.Read", "sync/atomic.LoadUint64", "sync/atomic.StoreUint64", "internal/synctest.Disassociate[sync.WaitGroup]", "sync.runtime_Semrelease", "(*sync.WaitGroup).Done", "(*sync.WaitGroup).Wait", "internal/synctest.IsAssociated[sync.WaitGroup]", "sync/atomic.CompareAndSwapUint64", "internal/race.Write", "sync.runtime_SemacquireWaitGroup"], unfollowed := true, recurses := true, leaving := true, apart := false, calm := true, outside := [.timePasses], narrowed := true }
def FnExactLeftUnitUptoSaid : Prop := fnExactLeftUnitUptoRow.holds Tryz.pinned (OpenSpec.upto fnExactLeftUnitSpec)

/-- 'laws.FnExactPartOfMap', WHERE WHAT IT READS IS OF BULK AT MOST 1048576: true; the input reads as it did. -/
def fnExactPartOfMapUptoRow : OpenClaim := { program := "ytdlhbbhdfnnmnaagreat", sum := "923872f73f47ef85b74a0f186f6125297898466b2a5074b4fcaf4bb642ddef7b", func := "loop.example/g01083/laws.FnExactPartOfMap", spec := "fnExactPartOfMap", unfollowed := true, recurses := true, leaving := true, apart := false, narrowed := true }
def FnExactPartOfMapUptoSaid : Prop := fnExactPartOfMapUptoRow.holds Tryz.pinned (OpenSpec.upto fnExactPartOfMapSpec)

/-- 'laws.FnExactClosedSieves', WHERE WHAT IT READS IS OF BULK AT MOST 1048576: true; the input reads as it did. -/
def fnExactClosedSievesUptoRow : OpenClaim := { program := "ytdlhbbhdfnnmnaagreat", sum := "923872f73f47ef85b74a0f186f6125297898466b2a5074b4fcaf4bb642ddef7b", func := "loop.example/g01083/laws.FnExactClosedSieves", spec := "fnExactClosedSieves", inPlace := ["sync/atomic.AddInt64"], unfollowed := true, recurses := true, leaving := true, apart := false, narrowed := true }
def FnExactClosedSievesUptoSaid : Prop := fnExactClosedSievesUptoRow.holds Tryz.pinned (OpenSpec.upto fnExactClosedSievesSpec)

/-- 'laws.FnExactLeftOfMap', WHERE WHAT IT READS IS OF BULK AT MOST 1048576: true; the input reads as it did. -/
def fnExactLeftOfMapUptoRow : OpenClaim := { program := "ytdlhbbhdfnnmnaagreat", sum := "923872f73f47ef85b74a0f186f6125297898466b2a5074b4fcaf4bb642ddef7b", func := "loop.example/g01083/laws.FnExactLeftOfMap", spec := "fnExactLeftOfMap", inPlace := ["(*internal/sync.Mutex).Lock", "internal/race.Disable", "sync/atomic.CompareAndSwapInt32", "internal/race.Enable", "internal/race.Acquire", "(*internal/sync.Mutex).lockSlow", "internal/sync.runtime_canSpin", "internal/sync.runtime_doSpin", "internal/sync.throw", "internal/sync.runtime_nanotime", "internal/sync.runtime_SemacquireMutex", "sync/atomic.AddInt32", "(*internal/sync.Mutex).Unlock", "internal/race.ReleaseMerge", "(*internal/sync.Mutex).unlockSlow", "internal/sync.fatal", "internal/sync.runtime_Semrelease", "(*sync.WaitGroup).Add", "internal/synctest.IsInBubble", "internal/synctest.Associate[sync.WaitGroup]", "sync.fatal", "sync/atomic.OrUint64", "sync/atomic.AddUint64", "internal/race.Read", "sync/atomic.LoadUint64", "sync/atomic.StoreUint64", "internal/synctest.Disassociate[sync.WaitGroup]", "sync.runtime_Semrelease", "(*sync.WaitGroup).Done", "(*sync.WaitGroup).Wait", "internal/synctest.IsAssociated[sync.WaitGroup]", "sync/atomic.CompareAndSwapUint64", "internal/race.Write", "sync.runtime_SemacquireWaitGroup"], unfollowed := true, recurses := true, leaving := true, apart := false, calm := true, outside := [.timePasses], narrowed := true }
def FnExactLeftOfMapUptoSaid : Prop := fnExactLeftOfMapUptoRow.holds Tryz.pinned (OpenSpec.upto fnExactLeftOfMapSpec)

/-- 'laws.FnExactAllTopologies', WHERE WHAT IT READS IS OF BULK AT MOST 1048576: true; the input reads as it did. -/
def fnExactAllTopologiesUptoRow : OpenClaim := { program := "ytdlhbbhdfnnmnaagreat", sum := "923872f73f47ef85b74a0f186f6125297898466b2a5074b4fcaf4bb642ddef7b", func := "loop.example/g01083/laws.FnExactAllTopologies", spec := "fnExactAllTopologies", inPlace := ["sync/atomic.LoadInt64", "sync/atomic.StoreInt64", "sync/atomic.AddInt64"], unfollowed := true, recurses := true, leaving := true, apart := false, narrowed := true }
def FnExactAllTopologiesUptoSaid : Prop := fnExactAllTopologiesUptoRow.holds Tryz.pinned (OpenSpec.upto fnExactAllTopologiesSpec)

/-- 'laws.FnExactLeftExtended', WHERE WHAT IT READS IS OF BULK AT MOST 1048576: true; the input reads as it did. -/
def fnExactLeftExtendedUptoRow : OpenClaim := { program := "ytdlhbbhdfnnmnaagreat", sum := "923872f73f47ef85b74a0f186f6125297898466b2a5074b4fcaf4bb642ddef7b", func := "loop.example/g01083/laws.FnExactLeftExtended", spec := "fnExactLeftExtended", inPlace := ["(*internal/sync.Mutex).Lock", "internal/race.Disable", "sync/atomic.CompareAndSwapInt32", "internal/race.Enable", "internal/race.Acquire", "(*internal/sync.Mutex).lockSlow", "internal/sync.runtime_canSpin", "internal/sync.runtime_doSpin", "internal/sync.throw", "internal/sync.runtime_nanotime", "internal/sync.runtime_SemacquireMutex", "sync/atomic.AddInt32", "(*internal/sync.Mutex).Unlock", "internal/race.ReleaseMerge", "(*internal/sync.Mutex).unlockSlow", "internal/sync.fatal", "internal/sync.runtime_Semrelease", "(*sync.WaitGroup).Add", "internal/synctest.IsInBubble", "internal/synctest.Associate[sync.WaitGroup]", "sync.fatal", "sync/atomic.OrUint64", "sync/atomic.AddUint64", "internal/race.Read", "sync/atomic.LoadUint64", "sync/atomic.StoreUint64", "internal/synctest.Disassociate[sync.WaitGroup]", "sync.runtime_Semrelease", "(*sync.WaitGroup).Done", "(*sync.WaitGroup).Wait", "internal/synctest.IsAssociated[sync.WaitGroup]", "sync/atomic.CompareAndSwapUint64", "internal/race.Write", "sync.runtime_SemacquireWaitGroup"], unfollowed := true, recurses := true, leaving := true, apart := false, calm := true, outside := [.timePasses], narrowed := true }
def FnExactLeftExtendedUptoSaid : Prop := fnExactLeftExtendedUptoRow.holds Tryz.pinned (OpenSpec.upto fnExactLeftExtendedSpec)

/-- 'laws.FnExactTopologyOfModality', WHERE WHAT IT READS IS OF BULK AT MOST 1048576: true; the input reads as it did. -/
def fnExactTopologyOfModalityUptoRow : OpenClaim := { program := "ytdlhbbhdfnnmnaagreat", sum := "923872f73f47ef85b74a0f186f6125297898466b2a5074b4fcaf4bb642ddef7b", func := "loop.example/g01083/laws.FnExactTopologyOfModality", spec := "fnExactTopologyOfModality", inPlace := ["sync/atomic.AddInt64"], unfollowed := true, recurses := true, leaving := true, apart := false, narrowed := true }
def FnExactTopologyOfModalityUptoSaid : Prop := fnExactTopologyOfModalityUptoRow.holds Tryz.pinned (OpenSpec.upto fnExactTopologyOfModalitySpec)

/-- 'laws.FnExactIsSeparated', WHERE WHAT IT READS IS OF BULK AT MOST 1048576: true; the input reads as it did. -/
def fnExactIsSeparatedUptoRow : OpenClaim := { program := "ytdlhbbhdfnnmnaagreat", sum := "923872f73f47ef85b74a0f186f6125297898466b2a5074b4fcaf4bb642ddef7b", func := "loop.example/g01083/laws.FnExactIsSeparated", spec := "fnExactIsSeparated", inPlace := ["sync/atomic.AddInt64"], unfollowed := true, recurses := true, leaving := true, apart := false, narrowed := true }
def FnExactIsSeparatedUptoSaid : Prop := fnExactIsSeparatedUptoRow.holds Tryz.pinned (OpenSpec.upto fnExactIsSeparatedSpec)

/-- 'laws.FnExactIsDenseFor', WHERE WHAT IT READS IS OF BULK AT MOST 1048576: true; the input reads as it did. -/
def fnExactIsDenseForUptoRow : OpenClaim := { program := "ytdlhbbhdfnnmnaagreat", sum := "923872f73f47ef85b74a0f186f6125297898466b2a5074b4fcaf4bb642ddef7b", func := "loop.example/g01083/laws.FnExactIsDenseFor", spec := "fnExactIsDenseFor", inPlace := ["sync/atomic.AddInt64"], unfollowed := true, recurses := true, leaving := true, apart := false, narrowed := true }
def FnExactIsDenseForUptoSaid : Prop := fnExactIsDenseForUptoRow.holds Tryz.pinned (OpenSpec.upto fnExactIsDenseForSpec)

end Rows
end Go.Proofs.YtdlhbbhdfnnmnaaGreat
