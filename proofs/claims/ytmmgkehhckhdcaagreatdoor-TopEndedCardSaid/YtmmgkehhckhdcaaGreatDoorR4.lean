/- The law TopEnded of the given program returns true, for every input: R4. Conditions: none. -/
import Derived.Test.YtmmgkehhckhdcaaGreatDoorRows
import Derived.JoinedOf
import Derived.ProofKit

set_option linter.unusedVariables false
set_option linter.unusedSimpArgs false

namespace Go.Proofs.YtmmgkehhckhdcaaGreatDoor
open Go
set_option maxRecDepth 1000000

theorem fine_0 : ((List.range' 0 231).all (rowFine Tryz.prog)) = true := by kernel_rfl
end Go.Proofs.YtmmgkehhckhdcaaGreatDoor

namespace Go.Proofs.YtmmgkehhckhdcaaGreatDoor
open Go
set_option maxRecDepth 1000000

theorem fine_1 : ((List.range' 231 231).all (rowFine Tryz.prog)) = true := by kernel_rfl
end Go.Proofs.YtmmgkehhckhdcaaGreatDoor

namespace Go.Proofs.YtmmgkehhckhdcaaGreatDoor
open Go
set_option maxRecDepth 1000000

theorem fine_2 : ((List.range' 462 231).all (rowFine Tryz.prog)) = true := by kernel_rfl
end Go.Proofs.YtmmgkehhckhdcaaGreatDoor

namespace Go.Proofs.YtmmgkehhckhdcaaGreatDoor
open Go
set_option maxRecDepth 1000000

theorem fine_3 : ((List.range' 693 229).all (rowFine Tryz.prog)) = true := by kernel_rfl
end Go.Proofs.YtmmgkehhckhdcaaGreatDoor

namespace Go.Proofs.YtmmgkehhckhdcaaGreatDoor
open Go
set_option maxRecDepth 1000000

theorem globsIn : Tryz.prog.globals.all (fun g => decide (g.type < Tryz.prog.types.size)) = true := by kernel_rfl
theorem types_size : Tryz.prog.types.size = 922 := by kernel_rfl
theorem parsIn' : (Tryz.prog.funcs.toList.all fun f => f.params.toList.all fun t => Nat.blt t 922) = true := by kernel_rfl
theorem parsIn : Tryz.prog.funcs.all (fun f => f.params.all fun t => decide (t < Tryz.prog.types.size)) = true := by
  rw [← Array.all_toList]
  refine List.all_eq_true.2 fun f hf => ?_
  have h := List.all_eq_true.1 parsIn' f hf
  rw [← Array.all_toList]
  refine List.all_eq_true.2 fun t ht => ?_
  have h2 := List.all_eq_true.1 h t ht
  rw [types_size]
  exact decide_eq_true (by simpa [Nat.blt_eq] using h2)
end Go.Proofs.YtmmgkehhckhdcaaGreatDoor

namespace Go.Proofs.YtmmgkehhckhdcaaGreatDoor
open Go
set_option maxRecDepth 1000000

theorem laidOut : laidOutB Tryz.prog = true := by
  unfold laidOutB
  rw [globsIn, parsIn, types_size, Bool.and_true, Bool.and_true]
  refine List.all_eq_true.2 fun t ht => ?_
  have hl := List.mem_range.1 ht
  have mk : ∀ a n, ((List.range' a n).all (rowFine Tryz.prog)) = true → a ≤ t → t < a + n → rowFine Tryz.prog t = true := fun a n h h1 h2 =>
    List.all_eq_true.1 h t (by rw [List.mem_range'_1]; exact ⟨h1, h2⟩)
  by_cases h1 : t < 231
  · exact mk _ _ fine_0 (Nat.zero_le _) h1
  · by_cases h2 : t < 462
    · exact mk _ _ fine_1 (Nat.le_of_not_lt h1) (by omega)
    · by_cases h3 : t < 693
      · exact mk _ _ fine_2 (Nat.le_of_not_lt h2) (by omega)
      · exact mk _ _ fine_3 (Nat.le_of_not_lt h3) (by omega)
theorem rf2 : laidOutB Tryz.pinned.checked.prog = true := laidOut
end Go.Proofs.YtmmgkehhckhdcaaGreatDoor

