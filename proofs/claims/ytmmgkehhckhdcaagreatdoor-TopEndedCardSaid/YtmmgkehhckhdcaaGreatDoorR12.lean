/- The law TopEnded of the given program returns true, for every input: R12. Conditions: none. -/
import Derived.Test.YtmmgkehhckhdcaaGreatDoorRows
import Derived.LaidByTextLater
import Derived.SevenTiedAt
import Derived.Test.YtmmgkehhckhdcaaGreatDoorCards
import Derived.Test.YtmmgkehhckhdcaaGreatDoorR8
import Derived.Test.YtmmgkehhckhdcaaGreatDoorR9
import Derived.Test.YtmmgkehhckhdcaaGreatDoorR10
import Derived.Test.YtmmgkehhckhdcaaGreatDoorR11
import Derived.Test.YtmmgkehhckhdcaaGreatDoorR7

set_option linter.unusedVariables false
set_option linter.unusedSimpArgs false

namespace Go.Proofs.YtmmgkehhckhdcaaGreatDoor
open Go
set_option maxRecDepth 1000000

theorem pin1 : Tryz.pinned.checked.prog.pinnedFits "unicode/utf8.first" = true := by kernel_rfl
theorem noOwn1 : Tryz.pinned.checked.prog.headLifts.contains "ownunsafe" = false := by kernel_rfl
theorem fits1a : Tryz.pinned.checked.prog.listedFits Rows.topEndedRow.laid = true := by
  unfold Program.listedFits
  rw [noOwn1]
  kernel_rfl
end Go.Proofs.YtmmgkehhckhdcaaGreatDoor

namespace Go.Proofs.YtmmgkehhckhdcaaGreatDoor
open Go
set_option maxRecDepth 1000000

theorem laid4Plain : (laid4.all fun x => x.2.handleName?.isNone) = true := by kernel_rfl
theorem tie0 : Tryz.prog.laidByTextLater laid4 [.data, .data, .data, .data] true :=
  Program.laidByTextLater_by_run 400 8 tieW1 tieW2 tieW3 tieK tieG tieN tieD tieR1 tieR2 laid4Plain
theorem rowTie : Rows.topEndedRow.laidByTextAt .later Tryz.pinned [.pinned, .data, .data, .data, .data] true :=
  OpenClaim.laidByTextAt_pinned rfl rfl tie0 rfl rfl rfl rfl (fun y hy _e => by
    simp only [Rows.topEndedRow, List.zip_cons_cons, List.zip_nil_right, List.mem_cons, List.mem_nil_iff, or_false] at hy
    rcases hy with rfl | rfl | rfl | rfl | rfl
    · exact ⟨pin1, by kernel_rfl⟩
    · cases _e
    · cases _e
    · cases _e
    · cases _e) fits1a
end Go.Proofs.YtmmgkehhckhdcaaGreatDoor

namespace Go.Proofs.YtmmgkehhckhdcaaGreatDoor
open Go
set_option maxRecDepth 1000000
theorem cardWf : Rows.topEndedRow.wfByText (OpenSpec.ofChange Rows.topEndedSpec) = true := by kernel_rfl
end Go.Proofs.YtmmgkehhckhdcaaGreatDoor

namespace Go.Proofs.YtmmgkehhckhdcaaGreatDoor
open Go
set_option maxRecDepth 1000000
theorem cardMain : Tryz.pinned.checked.prog.mainIs = some (true, "4c9b68fd106e1c46b286d5812592f73c46e157699e1b61f603728d9d7d8e9395".toList) := by kernel_rfl
theorem want9 : Tryz.prog.wantsStandIn 9 = false := by kernel_rfl
end Go.Proofs.YtmmgkehhckhdcaaGreatDoor

namespace Go.Proofs.YtmmgkehhckhdcaaGreatDoor
open Go
set_option maxRecDepth 1000000
theorem cardLooks : true = Tryz.prog.looks [] := by kernel_rfl
end Go.Proofs.YtmmgkehhckhdcaaGreatDoor

namespace Go.Proofs.YtmmgkehhckhdcaaGreatDoor
open Go
set_option maxRecDepth 1000000
theorem noGoes : (Tryz.prog.funcs.toList.any Func.goes) = false := by kernel_rfl
theorem goes3 : Tryz.prog.goes 3 = false := by
  unfold Program.goes
  have h2 : Tryz.prog.funcs.any Func.goes = false := by rw [← Array.any_toList]; exact noGoes
  have h1 : ((Tryz.prog.closure 3).any fun g => (Tryz.prog.funcs[g]?).any Func.goes) = false := by
    refine List.any_eq_false.2 fun g _ => ?_
    cases hg : Tryz.prog.funcs[g]? with
    | none => simp
    | some fn =>
      have hm : fn ∈ Tryz.prog.funcs.toList := by
        obtain ⟨hl, rfl⟩ := Array.getElem?_eq_some_iff.1 hg
        exact Array.mem_toList_iff.2 (Array.getElem_mem hl)
      have := List.any_eq_false.1 noGoes fn hm
      simpa using this
  rw [h1, h2, Bool.and_false, Bool.or_false]
theorem goesFrom_of {P : Program} {n : String} {f : FuncId} (h : P.funcNamed n = some f) : P.goesFrom n = P.goes f := by
  unfold Program.goesFrom; rw [h]; rfl
theorem goesBy_of {P : Program} {c : OpenClaim} (hs : c.start = .entering) (h : P.goesFrom c.func = false) : false = c.goesBy P := by
  unfold OpenClaim.goesBy Program.goesAt; rw [h, hs]; rfl
theorem cardGoes : false = Rows.topEndedRow.goesBy Tryz.pinned.checked.prog :=
  goesBy_of rfl ((goesFrom_of rowNamed).trans goes3)
end Go.Proofs.YtmmgkehhckhdcaaGreatDoor

namespace Go.Proofs.YtmmgkehhckhdcaaGreatDoor
open Go
set_option maxRecDepth 1000000

theorem topEnded_card_holds : Rows.TopEndedCardSaid :=
  Claim7.holds_tied_plain_at .later [] [.pinned, .data, .data, .data, .data] true (true, "4c9b68fd106e1c46b286d5812592f73c46e157699e1b61f603728d9d7d8e9395") true
    topEnded_holds (fun _ h => by cases h) cardWf (fun _ h => by cases h) rowTie rfl ⟨rfl, rfl⟩ cardMain rfl
    (fun f fn hf hfn => by
      obtain rfl : f = 3 := Option.some.inj (rowNamed.symm.trans hf) |>.symm
      obtain rfl : fn = Tryz.f3 := (Option.some.inj (Tryz.func3.symm.trans hfn)).symm
      exact ⟨cardLooks, fun j t ht => by
        rw [Tryz.params3] at ht
        have hm : t ∈ [9, 9] := by simpa using Array.mem_of_getElem? ht
        have h9 : t = 9 := by simpa using hm
        subst h9
        exact want9⟩)
    cardGoes
end Go.Proofs.YtmmgkehhckhdcaaGreatDoor

