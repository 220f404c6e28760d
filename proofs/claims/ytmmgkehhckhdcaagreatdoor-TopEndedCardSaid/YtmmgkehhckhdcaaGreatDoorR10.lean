/- The law TopEnded of the given program returns true, for every input: R10. Conditions: none. -/
import Derived.Test.YtmmgkehhckhdcaaGreatDoorRows
import Derived.LaidByTextLater
import Derived.SevenTiedAt
import Derived.Test.YtmmgkehhckhdcaaGreatDoorR8

set_option linter.unusedVariables false
set_option linter.unusedSimpArgs false

namespace Go.Proofs.YtmmgkehhckhdcaaGreatDoor
open Go
set_option maxRecDepth 1000000

theorem tieD (os : Os) (tape : Tape) : varsDone Tryz.prog 400 (varsId Tryz.prog) os tape = true := by kernel_rfl
end Go.Proofs.YtmmgkehhckhdcaaGreatDoor

namespace Go.Proofs.YtmmgkehhckhdcaaGreatDoor
open Go
set_option maxRecDepth 1000000

theorem tieR1 (os : Os) (tape : Tape) : (DataW.laidRun Tryz.prog (varsWorld Tryz.prog 400 (varsId Tryz.prog) os tape).memory 8 (laid4.map (·.1))).map (·.1) = some laid4 := by kernel_rfl
end Go.Proofs.YtmmgkehhckhdcaaGreatDoor

