/- The law TopEnded of the given program returns true, for every input: R7. Conditions: none. -/
import Derived.Test.YtmmgkehhckhdcaaGreatDoorRows
import Derived.JoinedOf
import Derived.ProofKit
import Derived.Lay
import Derived.Test.YtmmgkehhckhdcaaGreatDoorR5
import Derived.Test.YtmmgkehhckhdcaaGreatDoorR6
import Derived.Test.YtmmgkehhckhdcaaGreatDoorR4
import Derived.Test.YtmmgkehhckhdcaaGreatDoorR3
import Derived.Test.YtmmgkehhckhdcaaGreatDoorR0
import Derived.Test.YtmmgkehhckhdcaaGreatDoorR1

set_option linter.unusedVariables false
set_option linter.unusedSimpArgs false

namespace Go.Proofs.YtmmgkehhckhdcaaGreatDoor
open Go
set_option maxRecDepth 1000000

theorem rowNamed : Tryz.pinned.checked.prog.funcNamed Rows.topEndedRow.func = some 3 := by kernel_rfl
theorem rowFacts : joinedFacts Tryz.pinned.checked.prog 3 Tryz.f3 Rows.topEndedSpec Rows.topEndedRow = true := by
  unfold joinedFacts
  simp only [Bool.and_eq_true]
  exact ⟨⟨⟨⟨⟨⟨⟨⟨⟨⟨⟨⟨⟨⟨⟨⟨⟨⟨⟨⟨⟨⟨⟨⟨⟨⟨⟨⟨⟨⟨⟨rf1, rf2⟩, rf3⟩, rf4⟩, rf5⟩, rf6⟩, rf7⟩, rf8⟩, rf9⟩, rf10⟩, rf11⟩, rf12⟩, rf13⟩, rf14⟩, rf15⟩, rf16⟩, rf17⟩, rf18⟩, rf19⟩, rf20⟩, rf21⟩, rf22⟩, rf23⟩, rf24⟩, rf25⟩, rf26⟩, rf27⟩, rf28⟩, rf29⟩, rf30⟩, rf31⟩, rf32⟩
theorem rowInst : Tryz.f3.isInstance Tryz.pinned.checked.prog Rows.topEndedRow.origin Rows.topEndedRow.targs :=
  of_decide_eq_true (by kernel_rfl)
theorem rowWrap : Tryz.f3.isWrapper Tryz.pinned.checked.prog Rows.topEndedRow.wrapper Rows.topEndedRow.mainSum := by
  unfold Func.isWrapper; first | (rw [if_pos (by decide +kernel)]; kernel_rfl) | (rw [if_neg (by decide +kernel)]; exact ⟨rfl, rfl⟩)
end Go.Proofs.YtmmgkehhckhdcaaGreatDoor

/- The row: for every input the law returns true, and each argument reads as it did. -/
namespace Go.Proofs.YtmmgkehhckhdcaaGreatDoor
open Go Go.ChangeShapes Go.WideShapes Go.ChangeAt Go.WideMaps Go.WideElems Go.RowKit Go.Abs
set_option maxRecDepth 1000000

theorem kept_of {W W' : World} (h : ∀ i, i < W.heap.size → W'.heap[i]? = W.heap[i]?) (ho : W'.os = W.os) (hu : W'.output = W.output) (may : MemPlace → Prop) : W.keptBut W' may := by
  refine ⟨ho, hu, fun i hi => ?_⟩
  rw [h i hi]
  split <;> simp_all

theorem noInit : Tryz.prog.inits.idxOf? 3 = none := by kernel_rfl
theorem lifted (os : Os) (started : os.Started) (H : Type) (enc : TypeId × Value → H) :
    ReturnsInHanded {} Tryz.checked os 3 .any (fun w args => (Rows.topEndedSpec.pre enc Tryz.prog Tryz.f3 [] false w args ∧ laidMetH Tryz.prog Rows.topEndedRow.laid w) ∧ sizedMet enc Tryz.prog Tryz.f3 (OpenSpec.ofChange Rows.topEndedSpec) false w args)
      (Rows.topEndedSpec.post enc Tryz.prog Tryz.f3 false true false false) := by
  refine returnsInHanded_of_change_and (C := Tryz.checked) (X := fun w _ => laidMetH Tryz.prog Rows.topEndedRow.laid w) (fun _ _ _ hh h => h.of_heap hh) own started noInit Tryz.func3
    (ChangeSpec.witness_shaped (enc := enc) (C := Tryz.checked) (os := os) (X := fun w _ => laidMetH Tryz.prog Rows.topEndedRow.laid w) false (worldE os) argsE 8 (World.laidAll_os _ _ _)
      (World.shaped_of_ZipB (witZ os) (witT os)) (witI os) (witP enc os) (witS enc os) (witL os)) ?_
  intro W base args ds gs before hval0 hW _ _ hL _
  have hval : ∀ (j : Nat) t v, Tryz.f3.params[j]? = some t → args[j]? = some v → Value.okWide Tryz.prog W .any base t v := hval0
  have hW' := hW
  obtain ⟨p, q, hA0, hV, rfl, _, _⟩ := hW
  have hA : DataW.TrodAll enc Tryz.prog W 0 (fun _ => true) true Tryz.f3.params.toList args.toList ds p := hA0
  rw [Tryz.params3] at hA hval
  obtain ⟨v0, v1, d0, d1, p0, p1, rfl, rfl, rfl, h0, h1⟩ := trodAll_two hA
  obtain ⟨rfl, rfl⟩ := trodVars_none hV
  obtain ⟨a, rfl, rfl, rfl, wa⟩ := ChangeMaps.open_string u9 (hval 0 9 v0 rfl rfl) h0
  obtain ⟨b, rfl, rfl, rfl, wb⟩ := ChangeMaps.open_string u9 (hval 1 9 v1 rfl rfl) h1
  simp only [List.append_nil] at hW'
  refine (law_calls hL a b).mono fun e W' ⟨he, hk, ho, hu⟩ => ?_
  subst he
  exact ⟨_, rfl, _, _, _, [], [], [], hW', trodAll_mk1 (shut_bool u4 _), trodAll_mk2 (ChangeMaps.shut_string u9 wa) (ChangeMaps.shut_string u9 wb), rfl, kept_of hk ho hu _, fun h => by cases h⟩

theorem topEnded_holds : Rows.TopEndedSaid :=
  OpenClaim.holds_of_wide 3 Tryz.f3 rfl rfl rfl rfl rfl rfl rfl ⟨rfl, rfl, rfl, rfl, rfl⟩ rfl rfl rfl rfl rfl rowNamed Tryz.func3 rowFacts rowInst rowWrap
    (fun os started H enc _ => lifted os started H enc)
end Go.Proofs.YtmmgkehhckhdcaaGreatDoor

