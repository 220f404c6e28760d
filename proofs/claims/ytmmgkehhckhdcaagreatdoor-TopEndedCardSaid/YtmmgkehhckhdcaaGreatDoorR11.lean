/- The law TopEnded of the given program returns true, for every input: R11. Conditions: none. -/
import Derived.Test.YtmmgkehhckhdcaaGreatDoorRows
import Derived.LaidByTextLater
import Derived.SevenTiedAt
import Derived.Test.YtmmgkehhckhdcaaGreatDoorR8

set_option linter.unusedVariables false
set_option linter.unusedSimpArgs false

namespace Go.Proofs.YtmmgkehhckhdcaaGreatDoor
open Go
set_option maxRecDepth 1000000

/-- The places that the four variables take, and where they stand. -/
def laidPs : List MemPlace := MemPlace.row ⟨7, 0, none⟩ 32 ++ MemPlace.row ⟨0, 0, none⟩ 20 ++ MemPlace.row ⟨2, 0, none⟩ 32 ++ MemPlace.row ⟨3, 0, none⟩ 64
theorem tieP (os : Os) (tape : Tape) : (DataW.laidRun Tryz.prog (varsWorld Tryz.prog 400 (varsId Tryz.prog) os tape).memory 8 (laid4.map (·.1))).map (·.2) = some laidPs := by kernel_rfl
theorem tiePn : decide laidPs.Nodup = true := by kernel_rfl
end Go.Proofs.YtmmgkehhckhdcaaGreatDoor

namespace Go.Proofs.YtmmgkehhckhdcaaGreatDoor
open Go
set_option maxRecDepth 1000000

theorem tieB (os : Os) (tape : Tape) : laidRowsB Tryz.prog (varsWorld Tryz.prog 400 (varsId Tryz.prog) os tape).memory laidPs = true := by kernel_rfl
theorem tieR2 (os : Os) (tape : Tape) : (DataW.laidRun Tryz.prog (varsWorld Tryz.prog 400 (varsId Tryz.prog) os tape).memory 8 (laid4.map (·.1))).map (fun x => decide x.2.Nodup && laidRowsB Tryz.prog (varsWorld Tryz.prog 400 (varsId Tryz.prog) os tape).memory x.2) = some true := by
  have h := tieP os tape
  have hb := tieB os tape
  have hn := tiePn
  generalize (varsWorld Tryz.prog 400 (varsId Tryz.prog) os tape).memory = M at h hb ⊢
  generalize DataW.laidRun Tryz.prog M 8 (laid4.map (·.1)) = r at h ⊢
  cases r with
  | none => cases h
  | some x =>
    simp only [Option.map_some, Option.some.injEq] at h ⊢
    rw [h, hn, hb]
    rfl
end Go.Proofs.YtmmgkehhckhdcaaGreatDoor

