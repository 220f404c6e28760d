/- The law TopEnded of the given program returns true, for every input: R1. Conditions: none. -/
import Derived.Test.YtmmgkehhckhdcaaGreatDoorRows
import Derived.ProofKit
import Derived.LaidMore
import Derived.LaidHandle
import Derived.LaidSub
import Derived.Lay
import Derived.OpenShut

set_option linter.unusedVariables false
set_option linter.unusedSimpArgs false

namespace Go.Proofs.YtmmgkehhckhdcaaGreatDoor
open Go Go.ChangeShapes Go.WideShapes Go.ChangeAt Go.WideMaps Go.WideElems Go.RowKit
set_option maxRecDepth 1000000

/-- The witness: two empty texts, and the variables as they are laid. -/
def argsE : Array Value := #[.string ByteArray.empty, .string ByteArray.empty]
noncomputable def worldE (os : Os) : World := World.laidAll Tryz.prog os Rows.topEndedRow.laid
noncomputable def callE (os : Os) : World := (worldE os).forCall (fun _ _ => 0) { blocks := #[], args := argsE }
theorem laidPlain : (Rows.topEndedRow.laid.all fun x => x.2.handleName?.isNone) = true := by kernel_rfl
theorem witZ (os : Os) : World.variablesZipB Tryz.prog (callE os) = true := by kernel_rfl
theorem witT (os : Os) : List.take ((begin Tryz.prog (fun _ _ => 0) default).world.heap.size - Tryz.prog.globals.size) (List.drop Tryz.prog.globals.size (callE os).heap.toList) = List.drop Tryz.prog.globals.size (begin Tryz.prog (fun _ _ => 0) default).world.heap.toList := by kernel_rfl
theorem witI (os : Os) : Input.okWideB Tryz.prog (callE os) 3 { blocks := #[], args := argsE } = true := by kernel_rfl
end Go.Proofs.YtmmgkehhckhdcaaGreatDoor

namespace Go.Proofs.YtmmgkehhckhdcaaGreatDoor
open Go Go.ChangeShapes Go.WideShapes Go.ChangeAt Go.WideMaps Go.WideElems Go.RowKit
set_option maxRecDepth 1000000

theorem witP {H : Type} (enc : TypeId × Value → H) (os : Os) : ChangeSpec.preB enc Tryz.prog Tryz.f3 Rows.topEndedSpec [] false (callE os).memory argsE 8 = true := by kernel_rfl
theorem witS {H : Type} (enc : TypeId × Value → H) (os : Os) : ChangeSpec.sizedB enc Tryz.prog Tryz.f3 Rows.topEndedSpec false (callE os).memory argsE 8 = true := by kernel_rfl
end Go.Proofs.YtmmgkehhckhdcaaGreatDoor

namespace Go.Proofs.YtmmgkehhckhdcaaGreatDoor
open Go Go.ChangeShapes Go.WideShapes Go.ChangeAt Go.WideMaps Go.WideElems Go.RowKit
set_option maxRecDepth 1000000

theorem layFits (os : Os) : World.layFits Tryz.prog (World.holding Tryz.prog os { blocks := #[], args := #[] }) Rows.topEndedRow.laid [] = true := by kernel_rfl
theorem layIfaces (os : Os) : World.layIfaces Tryz.prog (World.holding Tryz.prog os { blocks := #[], args := #[] }) Rows.topEndedRow.laid (World.laidAll Tryz.prog os Rows.topEndedRow.laid) = true := by kernel_rfl
theorem witL (os : Os) : laidMetH Tryz.prog Rows.topEndedRow.laid (callE os).memory := by
  rw [MakeChecks.laidMetH_plain _ _ _ laidPlain]
  exact laidMet_laidAll _ (layFits os) (layIfaces os)
end Go.Proofs.YtmmgkehhckhdcaaGreatDoor

