/- The closed facts of the row of FnMapsOfElements, one by one. No condition. -/
import Derived.Test.YtcnehblmgfbfoaaGreatRows
import Derived.JoinedOf
namespace Go.Proofs.YtcnehblmgfbfoaaGreat
open Go
set_option linter.unusedVariables false
/-- the closed facts of the row, one by one -/
theorem gp {a b : Bool} (ha : a = true) (hb : b = true) : (a && b) = true := by rw [ha, hb]; rfl
theorem k0 : (fun (P : Program) (f : FuncId) (fn : Func) (s : ChangeSpec) (c : OpenClaim) => c.wf (OpenSpec.ofChange s)) Tryz.pinned.checked.prog 7 Tryz.f7 Rows.fnMapsOfElementsSpec Rows.fnMapsOfElementsRow = true := by kernel_rfl
theorem k1 : (fun (P : Program) (f : FuncId) (fn : Func) (s : ChangeSpec) (c : OpenClaim) => laidOutB P) Tryz.pinned.checked.prog 7 Tryz.f7 Rows.fnMapsOfElementsSpec Rows.fnMapsOfElementsRow = true := by kernel_rfl
theorem k2 : (fun (P : Program) (f : FuncId) (fn : Func) (s : ChangeSpec) (c : OpenClaim) => mapsRowed P) Tryz.pinned.checked.prog 7 Tryz.f7 Rows.fnMapsOfElementsSpec Rows.fnMapsOfElementsRow = true := by kernel_rfl
theorem k3 : (fun (P : Program) (f : FuncId) (fn : Func) (s : ChangeSpec) (c : OpenClaim) => fn.params.all (P.readableRec ·)) Tryz.pinned.checked.prog 7 Tryz.f7 Rows.fnMapsOfElementsSpec Rows.fnMapsOfElementsRow = true := by kernel_rfl
theorem k4 : (fun (P : Program) (f : FuncId) (fn : Func) (s : ChangeSpec) (c : OpenClaim) => namedTie P c.named s.vars) Tryz.pinned.checked.prog 7 Tryz.f7 Rows.fnMapsOfElementsSpec Rows.fnMapsOfElementsRow = true := by kernel_rfl
theorem k5 : (fun (P : Program) (f : FuncId) (fn : Func) (s : ChangeSpec) (c : OpenClaim) => (c.stops == [])) Tryz.pinned.checked.prog 7 Tryz.f7 Rows.fnMapsOfElementsSpec Rows.fnMapsOfElementsRow = true := by kernel_rfl
theorem k6 : (fun (P : Program) (f : FuncId) (fn : Func) (s : ChangeSpec) (c : OpenClaim) => (P.stops == [])) Tryz.pinned.checked.prog 7 Tryz.f7 Rows.fnMapsOfElementsSpec Rows.fnMapsOfElementsRow = true := by kernel_rfl
theorem k7 : (fun (P : Program) (f : FuncId) (fn : Func) (s : ChangeSpec) (c : OpenClaim) => (c.knobs == [])) Tryz.pinned.checked.prog 7 Tryz.f7 Rows.fnMapsOfElementsSpec Rows.fnMapsOfElementsRow = true := by kernel_rfl
theorem k8 : (fun (P : Program) (f : FuncId) (fn : Func) (s : ChangeSpec) (c : OpenClaim) => (P.stopKnobs == [])) Tryz.pinned.checked.prog 7 Tryz.f7 Rows.fnMapsOfElementsSpec Rows.fnMapsOfElementsRow = true := by kernel_rfl
theorem k9 : (fun (P : Program) (f : FuncId) (fn : Func) (s : ChangeSpec) (c : OpenClaim) => (c.inPlace == P.inPlace f)) Tryz.pinned.checked.prog 7 Tryz.f7 Rows.fnMapsOfElementsSpec Rows.fnMapsOfElementsRow = true := by kernel_rfl
theorem k10 : (fun (P : Program) (f : FuncId) (fn : Func) (s : ChangeSpec) (c : OpenClaim) => (c.unfollowed == P.unfollowed f)) Tryz.pinned.checked.prog 7 Tryz.f7 Rows.fnMapsOfElementsSpec Rows.fnMapsOfElementsRow = true := by kernel_rfl
theorem k11 : (fun (P : Program) (f : FuncId) (fn : Func) (s : ChangeSpec) (c : OpenClaim) => (c.recurses == P.recurses f)) Tryz.pinned.checked.prog 7 Tryz.f7 Rows.fnMapsOfElementsSpec Rows.fnMapsOfElementsRow = true := by kernel_rfl
theorem k12 : (fun (P : Program) (f : FuncId) (fn : Func) (s : ChangeSpec) (c : OpenClaim) => (c.named == P.varsNamed f)) Tryz.pinned.checked.prog 7 Tryz.f7 Rows.fnMapsOfElementsSpec Rows.fnMapsOfElementsRow = true := by kernel_rfl
theorem k13 : (fun (P : Program) (f : FuncId) (fn : Func) (s : ChangeSpec) (c : OpenClaim) => (c.maps == (fn.params.toList ++ s.plain.varTypes P).any (P.mapsRec ·))) Tryz.pinned.checked.prog 7 Tryz.f7 Rows.fnMapsOfElementsSpec Rows.fnMapsOfElementsRow = true := by kernel_rfl
theorem k14 : (fun (P : Program) (f : FuncId) (fn : Func) (s : ChangeSpec) (c : OpenClaim) => (c.ifaces == (fn.params.toList ++ s.plain.varTypes P).any (P.ifacesRec ·))) Tryz.pinned.checked.prog 7 Tryz.f7 Rows.fnMapsOfElementsSpec Rows.fnMapsOfElementsRow = true := by kernel_rfl
theorem k15 : (fun (P : Program) (f : FuncId) (fn : Func) (s : ChangeSpec) (c : OpenClaim) => (c.mapsOut == P.mapsAmong fn.resultTypes.toList)) Tryz.pinned.checked.prog 7 Tryz.f7 Rows.fnMapsOfElementsSpec Rows.fnMapsOfElementsRow = true := by kernel_rfl
theorem k16 : (fun (P : Program) (f : FuncId) (fn : Func) (s : ChangeSpec) (c : OpenClaim) => (c.loops == (fn.params.toList ++ s.plain.varTypes P).any (P.loopsFrom ·))) Tryz.pinned.checked.prog 7 Tryz.f7 Rows.fnMapsOfElementsSpec Rows.fnMapsOfElementsRow = true := by kernel_rfl
theorem k17 : (fun (P : Program) (f : FuncId) (fn : Func) (s : ChangeSpec) (c : OpenClaim) => (c.wideKeys == (fn.params.toList ++ s.plain.varTypes P ++ fn.resultTypes.toList).any (P.wideKeysFrom ·))) Tryz.pinned.checked.prog 7 Tryz.f7 Rows.fnMapsOfElementsSpec Rows.fnMapsOfElementsRow = true := by kernel_rfl
theorem k18 : (fun (P : Program) (f : FuncId) (fn : Func) (s : ChangeSpec) (c : OpenClaim) => s.vars.all (P.varReadable ·)) Tryz.pinned.checked.prog 7 Tryz.f7 Rows.fnMapsOfElementsSpec Rows.fnMapsOfElementsRow = true := by kernel_rfl
theorem k19 : (fun (P : Program) (f : FuncId) (fn : Func) (s : ChangeSpec) (c : OpenClaim) => fn.resultTypes.all (fun t => P.readableRec t && decide (t < P.types.size))) Tryz.pinned.checked.prog 7 Tryz.f7 Rows.fnMapsOfElementsSpec Rows.fnMapsOfElementsRow = true := by kernel_rfl
theorem k20 : (fun (P : Program) (f : FuncId) (fn : Func) (s : ChangeSpec) (c : OpenClaim) => (c.ifacesOut == fn.resultTypes.toList.any (P.ifacesRec ·))) Tryz.pinned.checked.prog 7 Tryz.f7 Rows.fnMapsOfElementsSpec Rows.fnMapsOfElementsRow = true := by kernel_rfl
theorem k21 : (fun (P : Program) (f : FuncId) (fn : Func) (s : ChangeSpec) (c : OpenClaim) => (c.loopsOut == fn.resultTypes.toList.any (P.loopsFrom ·))) Tryz.pinned.checked.prog 7 Tryz.f7 Rows.fnMapsOfElementsSpec Rows.fnMapsOfElementsRow = true := by kernel_rfl
theorem k22 : (fun (P : Program) (f : FuncId) (fn : Func) (s : ChangeSpec) (c : OpenClaim) => (c.plainKeys == P.plainKeys)) Tryz.pinned.checked.prog 7 Tryz.f7 Rows.fnMapsOfElementsSpec Rows.fnMapsOfElementsRow = true := by kernel_rfl
theorem k23 : (fun (P : Program) (f : FuncId) (fn : Func) (s : ChangeSpec) (c : OpenClaim) => c.shortTexts.isNone) Tryz.pinned.checked.prog 7 Tryz.f7 Rows.fnMapsOfElementsSpec Rows.fnMapsOfElementsRow = true := by kernel_rfl
theorem k24 : (fun (P : Program) (f : FuncId) (fn : Func) (s : ChangeSpec) (c : OpenClaim) => P.stopsHeard) Tryz.pinned.checked.prog 7 Tryz.f7 Rows.fnMapsOfElementsSpec Rows.fnMapsOfElementsRow = true := by kernel_rfl
theorem k25 : (fun (P : Program) (f : FuncId) (fn : Func) (s : ChangeSpec) (c : OpenClaim) => P.mayEnter) Tryz.pinned.checked.prog 7 Tryz.f7 Rows.fnMapsOfElementsSpec Rows.fnMapsOfElementsRow = true := by kernel_rfl
theorem k26 : (fun (P : Program) (f : FuncId) (fn : Func) (s : ChangeSpec) (c : OpenClaim) => (c.lifted == P.liftsFinal)) Tryz.pinned.checked.prog 7 Tryz.f7 Rows.fnMapsOfElementsSpec Rows.fnMapsOfElementsRow = true := by kernel_rfl
theorem k27 : (fun (P : Program) (f : FuncId) (fn : Func) (s : ChangeSpec) (c : OpenClaim) => (P.make == some c.make)) Tryz.pinned.checked.prog 7 Tryz.f7 Rows.fnMapsOfElementsSpec Rows.fnMapsOfElementsRow = true := by kernel_rfl
theorem k29 : (fun (P : Program) (f : FuncId) (fn : Func) (s : ChangeSpec) (c : OpenClaim) => (c.pinned == c.pinnedBy)) Tryz.pinned.checked.prog 7 Tryz.f7 Rows.fnMapsOfElementsSpec Rows.fnMapsOfElementsRow = true := by kernel_rfl
theorem k30 : (fun (P : Program) (f : FuncId) (fn : Func) (s : ChangeSpec) (c : OpenClaim) => (c.veiled == (fn.params.toList ++ s.plain.varTypes P ++ fn.resultTypes.toList).any (P.veiledRec ·))) Tryz.pinned.checked.prog 7 Tryz.f7 Rows.fnMapsOfElementsSpec Rows.fnMapsOfElementsRow = true := by kernel_rfl
theorem k31 : (fun (P : Program) (f : FuncId) (fn : Func) (s : ChangeSpec) (c : OpenClaim) => c.veiledFits P fn.params.toList (fn.params.toList ++ s.plain.varTypes P ++ fn.resultTypes.toList)) Tryz.pinned.checked.prog 7 Tryz.f7 Rows.fnMapsOfElementsSpec Rows.fnMapsOfElementsRow = true := by kernel_rfl
end Go.Proofs.YtcnehblmgfbfoaaGreat
