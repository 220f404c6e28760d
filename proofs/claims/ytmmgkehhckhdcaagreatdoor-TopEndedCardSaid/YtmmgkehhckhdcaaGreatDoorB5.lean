/- Parts of the proof of the law TopEnded: characters, lines and the maker of a Stomach: B5. Conditions: none. -/
import Derived.Test.YtmmgkehhckhdcaaGreatDoorB4
import Derived.Test.YtmmgkehhckhdcaaGreatDoorA4

set_option linter.unusedVariables false
set_option linter.unusedSimpArgs false

namespace Go.Proofs.Gn
open Go Go.Proofs Go.Abs Gt
set_option maxRecDepth 1000000
noncomputable section

def argsN (st : Int) : List Value := [.slice none 0 0, .slice none 0 0, it st]
def frN (st : Int) : AFrame := ⟨11, 132, (match PA.fill .nil 0 (argsN st) with | .box t => t), [.code (bodyAt P 11 [])], [], false, .normal, none⟩

variable {st : Int}
theorem enterN : enterA P 11 (argsN st) .normal = some (frN st) := by kernel_rfl

theorem newStart {Q : AM → Prop} (h : Goes P (nwst0 st) Q) : Goes P ⟨frN st, [], heapL [nwob0]⟩ Q :=
  Goes.small (keep := [(0, false)]) (top := [0, 1, 2]) (slots := []) (by kernel_rfl) (fun id o hm _ => by simp at hm) h

theorem newEnd (K : ProgOk P) : Goes P (nxst2 st) (Abs.Returns P 11 (.tuple ⟨[pt 7 0, it 0]⟩) (nxst2 st).heap) :=
  Goes.go K 1 (by kernel_rfl) (Goes.done ⟨by kernel_rfl, by kernel_rfl, by kernel_rfl, by kernel_rfl, by kernel_rfl, by kernel_rfl, by kernel_rfl⟩)

def StepsOk (st : Int) : Prop := ∀ {Q : AM → Prop}, ProgOk P → Goes P (nwst2 st) Q → Goes P (nwst1 st) Q
theorem ok1000 : StepsOk 1000 := fun K h => nwseg1_1000 K h
theorem ok100000 : StepsOk 100000 := fun K h => nwseg1_100000 K h

theorem newGoes (K : ProgOk P) (hs : StepsOk st) : Goes P ⟨frN st, [], heapL [nwob0]⟩ (Abs.Returns P 11 (.tuple ⟨[pt 7 0, it 0]⟩) (nxst2 st).heap) :=
  newStart (nwseg0 K (hs K (newTail K (newEnd K))))

def keepN : List (Nat × Bool) := [(1, false), (2, false), (3, false), (4, false), (5, false), (6, false), (7, false), (8, false), (9, false)]

theorem objs1 (i : Nat) (hi : i ≠ 0) : (heapL [nwob0]).objs.get i = none := by
  have h : (heapL [nwob0]).objs = .node (some nwob0) .nil .nil ∨ (heapL [nwob0]).objs = .lst [nwob0] := by first | (left; kernel_rfl) | (right; kernel_rfl)
  rcases h with h | h
  · rw [h, PA.get_node, if_neg hi]
    split <;> rw [PA.get_nil]
  · rw [h, PA.get_lst]
    cases i with
    | zero => exact absurd rfl hi
    | succ i => rfl

/-- stomach.New, called in whatever memory. -/
theorem newCall (K : ProgOk P) (hs : StepsOk st) {h : AHeap} {t : PA AObj} {v2 : Value} (hb : h.objs.get 0 = some nwob0) (hc : canonH (newId keepN h.next) (nxst2 st).heap keepN h.next h.objs = some t)
    (hv : renV (newId keepN h.next) (.tuple ⟨[pt 7 0, it 0]⟩) = some v2) : CallOk P 11 (argsN st) h v2 ⟨t, h.next + keepN.length, h.fams⟩ :=
  callOk_base enterN (newGoes K hs) rfl (by kernel_rfl) (by kernel_rfl) objs1 (by kernel_rfl) (by kernel_rfl) (by kernel_rfl) (by kernel_rfl) hb (by kernel_rfl) (by kernel_rfl) (by kernel_rfl)
    (fun id o hm _ => by simp [keepN] at hm) hc hv
end
end Go.Proofs.Gn

