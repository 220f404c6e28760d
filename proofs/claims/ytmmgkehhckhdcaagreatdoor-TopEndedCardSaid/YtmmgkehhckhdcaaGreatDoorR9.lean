/- The law TopEnded of the given program returns true, for every input: R9. Conditions: none. -/
import Derived.Test.YtmmgkehhckhdcaaGreatDoorRows
import Derived.LaidByTextLater
import Derived.SevenTiedAt
import Derived.Test.YtmmgkehhckhdcaaGreatDoorR8

set_option linter.unusedVariables false
set_option linter.unusedSimpArgs false

namespace Go.Proofs.YtmmgkehhckhdcaaGreatDoor
open Go
set_option maxRecDepth 1000000

theorem tieK : laid4.map (fun x => Tryz.prog.kindOfLater x.1) = ([LaidKind.data, .data, .data, .data]).map some := by kernel_rfl
end Go.Proofs.YtmmgkehhckhdcaaGreatDoor

namespace Go.Proofs.YtmmgkehhckhdcaaGreatDoor
open Go
set_option maxRecDepth 1000000

theorem tieN : varsNamedLaterB Tryz.prog (varsId Tryz.prog) laid4 = true := by kernel_rfl
end Go.Proofs.YtmmgkehhckhdcaaGreatDoor

