/- The law TopEnded of the given program returns true, for every input: R5. Conditions: none. -/
import Derived.Test.YtmmgkehhckhdcaaGreatDoorRows
import Derived.JoinedOf
import Derived.ProofKit

set_option linter.unusedVariables false
set_option linter.unusedSimpArgs false

namespace Go.Proofs.YtmmgkehhckhdcaaGreatDoor
open Go
set_option maxRecDepth 1000000

theorem rf1 : (Rows.topEndedRow.wf (OpenSpec.ofChange Rows.topEndedSpec)) = true := by kernel_rfl
theorem rf4 : (Tryz.f3.params.all (Tryz.pinned.checked.prog.readableRec ·)) = true := by kernel_rfl
theorem rf5 : (namedTie Tryz.pinned.checked.prog Rows.topEndedRow.named Rows.topEndedSpec.vars) = true := by kernel_rfl
theorem rf6 : ((Rows.topEndedRow.stops == [])) = true := by kernel_rfl
theorem rf7 : ((Tryz.pinned.checked.prog.stops == [])) = true := by kernel_rfl
theorem rf8 : ((Rows.topEndedRow.knobs == [])) = true := by kernel_rfl
theorem rf9 : ((Tryz.pinned.checked.prog.stopKnobs == [])) = true := by kernel_rfl
theorem rf14 : ((Rows.topEndedRow.maps == (Tryz.f3.params.toList ++ Rows.topEndedSpec.plain.varTypes Tryz.pinned.checked.prog).any (Tryz.pinned.checked.prog.mapsRec ·))) = true := by kernel_rfl
theorem rf15 : ((Rows.topEndedRow.ifaces == (Tryz.f3.params.toList ++ Rows.topEndedSpec.plain.varTypes Tryz.pinned.checked.prog).any (Tryz.pinned.checked.prog.ifacesRec ·))) = true := by kernel_rfl
theorem rf16 : ((Rows.topEndedRow.mapsOut == Tryz.pinned.checked.prog.mapsAmong Tryz.f3.resultTypes.toList)) = true := by kernel_rfl
theorem rf17 : ((Rows.topEndedRow.loops == (Tryz.f3.params.toList ++ Rows.topEndedSpec.plain.varTypes Tryz.pinned.checked.prog).any (Tryz.pinned.checked.prog.loopsFrom ·))) = true := by kernel_rfl
theorem rf18 : ((Rows.topEndedRow.wideKeys == (Tryz.f3.params.toList ++ Rows.topEndedSpec.plain.varTypes Tryz.pinned.checked.prog ++ Tryz.f3.resultTypes.toList).any (Tryz.pinned.checked.prog.wideKeysFrom ·))) = true := by kernel_rfl
theorem rf19 : (Rows.topEndedSpec.vars.all (Tryz.pinned.checked.prog.varReadable ·)) = true := by kernel_rfl
theorem rf20 : (Tryz.f3.resultTypes.all (fun t => Tryz.pinned.checked.prog.readableRec t && decide (t < Tryz.pinned.checked.prog.types.size))) = true := by kernel_rfl
theorem rf21 : ((Rows.topEndedRow.ifacesOut == Tryz.f3.resultTypes.toList.any (Tryz.pinned.checked.prog.ifacesRec ·))) = true := by kernel_rfl
theorem rf22 : ((Rows.topEndedRow.loopsOut == Tryz.f3.resultTypes.toList.any (Tryz.pinned.checked.prog.loopsFrom ·))) = true := by kernel_rfl
theorem rf23 : ((Rows.topEndedRow.plainKeys == Tryz.pinned.checked.prog.plainKeys)) = true := by kernel_rfl
theorem rf24 : (Rows.topEndedRow.shortTexts.isNone) = true := by kernel_rfl
theorem rf27 : ((Rows.topEndedRow.lifted == Tryz.pinned.checked.prog.liftsFinal)) = true := by kernel_rfl
theorem rf28 : ((Tryz.pinned.checked.prog.make == some Rows.topEndedRow.make)) = true := by kernel_rfl
theorem rf29 : ((Rows.topEndedRow.kinds == (if Rows.topEndedRow.domain.isEmpty then [] else Tryz.f3.params.toList.map fun t => match Tryz.pinned.checked.prog.underlying t with | some (.int k) => some k | _ => none))) = true := by kernel_rfl
theorem rf30 : ((Rows.topEndedRow.pinned == Rows.topEndedRow.pinnedBy)) = true := by kernel_rfl
theorem rf31 : ((Rows.topEndedRow.veiled == (Tryz.f3.params.toList ++ Rows.topEndedSpec.plain.varTypes Tryz.pinned.checked.prog ++ Tryz.f3.resultTypes.toList).any (Tryz.pinned.checked.prog.veiledRec ·))) = true := by kernel_rfl
theorem rf32 : (Rows.topEndedRow.veiledFits Tryz.pinned.checked.prog Tryz.f3.params.toList (Tryz.f3.params.toList ++ Rows.topEndedSpec.plain.varTypes Tryz.pinned.checked.prog ++ Tryz.f3.resultTypes.toList)) = true := by kernel_rfl
end Go.Proofs.YtmmgkehhckhdcaaGreatDoor

namespace Go.Proofs.YtmmgkehhckhdcaaGreatDoor
open Go
set_option maxRecDepth 1000000

theorem rf3 : (mapsRowed Tryz.pinned.checked.prog) = true := by kernel_rfl
end Go.Proofs.YtmmgkehhckhdcaaGreatDoor

