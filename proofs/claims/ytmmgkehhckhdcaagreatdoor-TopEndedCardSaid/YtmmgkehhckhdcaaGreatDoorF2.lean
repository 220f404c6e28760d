/- Part of the proof of the law TopEnded: the run as a whole: F2. Conditions: none. -/
import Derived.Test.YtmmgkehhckhdcaaGreatDoorF1
import Derived.Test.YtmmgkehhckhdcaaGreatDoorB5

set_option linter.unusedVariables false
set_option linter.unusedSimpArgs false

/- run.Do of the law's text, as a whole, in whatever memory. -/
namespace Go.Proofs.Gt
open Go Go.Proofs Go.Abs
set_option maxRecDepth 1000000
noncomputable section

def jobV (t : List UInt8) : Value := ag [.slice none 0 0, .slice none 0 0, st t, it 1000, it 100000, it 1000]
def frD (t : List UInt8) : AFrame := frB 6 18 [jobV t]

variable {t : List UInt8}
theorem enterD : enterA P 6 [jobV t] .normal = some (frD t) := by kernel_rfl

def D1 (t : List UInt8) : AM := run1 P 101 ⟨frD t, [], heapL [daob0]⟩
def tD (t : List UInt8) : PA AObj := match canonH (newId Gn.keepN (D1 t).heap.next) (Gn.nxst2 100000).heap Gn.keepN (D1 t).heap.next (D1 t).heap.objs with | some t => t | none => .nil
def hD (t : List UInt8) : AHeap := ⟨tD t, (D1 t).heap.next + Gn.keepN.length, (D1 t).heap.fams⟩
def vD : Value := .tuple ⟨[pt 11 0, it 0]⟩

theorem callD (K : ProgOk P) : CallOk P 11 (Gn.argsN 100000) (D1 t).heap vD (hD t) :=
  Gn.newCall K Gn.ok100000 (by kernel_rfl) (by kernel_rfl) (by kernel_rfl)

theorem startD (K : ProgOk P) {Q : AM → Prop} (h : Goes P (das0 t) Q) : Goes P ⟨frD t, [], heapL [daob0]⟩ Q := by
  refine Goes.go K 101 (by kernel_rfl) ?_
  refine Goes.call K (S := D1 t) (S' := fin1 P (D1 t) vD (hD t)) (by kernel_rfl) (callD K) (fin1_eq (by kernel_rfl)) ?_
  refine Goes.go K 27 (by kernel_rfl) ?_
  exact Goes.small (keep := [(0, false), (2, false), (5, false), (6, false), (7, false), (8, false), (9, false), (10, false), (11, false), (12, false), (13, false)]) (top := [0, 1]) (slots := [[2]]) (by kernel_rfl) (fun id o hm _ => by simp at hm) h

/-- The log's text. -/
def FT (ms : List UInt8) : List UInt8 := LT (113 :: (ms ++ [10]))

def endH (t R X : List UInt8) (x : Nat) (ms : List UInt8) : AHeap := (L3 t R X x (atE ms) (99991 - ms.length) (113 :: ms) (FT ms)).heap

theorem doGoes (K : ProgOk P) {ms more : List UInt8} (hm : ∀ c ∈ ms, isLow c) (hl : ms.length < 900) (hml : more.length ≤ 6000) :
    ∃ R X x, Goes P ⟨frD (txt ms more), [], heapL [daob0]⟩ (Abs.Returns P 6 (doV 28 (99991 - ms.length) (FT ms)) (endH (txt ms more) R X x ms)) := by
  obtain ⟨R, X, x, h⟩ := textRun K hm hl hml
  refine ⟨R, X, x, startD K (h (doEnd K (fun c hc => ?_) hl))⟩
  have := hm c hc
  exact ⟨by have := this.1; omega, by have := this.2; omega⟩

def keepE : List (Nat × Bool) := [(28, false)]

theorem objs0 (i : Nat) (hi : i ≠ 0) : (heapL [daob0]).objs.get i = none := by
  rw [heapL_get]
  cases i with
  | zero => exact absurd rfl hi
  | succ i => rfl

theorem endO {R X ms : List UInt8} {x : Nat} : (endH t R X x ms).objs.get 28 = some dviW := by kernel_rfl
theorem endF {R X ms : List UInt8} {x : Nat} : nodupN (famsOf (endH t R X x ms) keepE) = true := by kernel_rfl
theorem endK {R X ms : List UInt8} {x : Nat} : keptB (endH t R X x ms) keepE = true := by kernel_rfl
theorem endCn {R X ms : List UInt8} {x n : Nat} {p : PA AObj} : canonH (newId keepE n) (endH t R X x ms) keepE n p = match p.put n dviW with | .box t => some t := by kernel_rfl
theorem endV {n : Nat} {stp : Int} {F : List UInt8} : renV (newId keepE n) (doV 28 stp F) = some (doV n stp F) := by kernel_rfl

/-- A run of the law's text, in whatever memory. -/
theorem doCall (K : ProgOk P) {ms more : List UInt8} (hm : ∀ c ∈ ms, isLow c) (hl : ms.length < 900) (hml : more.length ≤ 6000) {h : AHeap} {p : PA AObj} (hb : h.objs.get 0 = some daob0)
    (hp : h.objs.put h.next dviW = .box p) : CallOk P 6 [jobV (txt ms more)] h (doV h.next (99991 - ms.length) (FT ms)) ⟨p, h.next + 1, h.fams⟩ := by
  obtain ⟨R, X, x, hgo⟩ := doGoes K hm hl hml
  exact callOk_base (b0 := daob0) (keep := keepE) enterD hgo (by kernel_rfl) rfl (by kernel_rfl) objs0 rfl rfl rfl (by kernel_rfl) hb rfl endF endK (fun id o hm _ => by simp [keepE] at hm) (by rw [endCn, hp]) endV
end
end Go.Proofs.Gt

