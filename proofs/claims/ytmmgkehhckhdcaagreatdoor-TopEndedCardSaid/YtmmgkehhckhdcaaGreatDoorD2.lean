/- Part of the proof of the law TopEnded: the run of the law's text up to the message: D2. Conditions: none. -/
import Derived.Test.YtmmgkehhckhdcaaGreatDoorD0

set_option linter.unusedVariables false
set_option linter.unusedSimpArgs false

namespace Go.Proofs.Gt
open Go Go.Proofs Go.Abs
set_option maxRecDepth 1000000
noncomputable section

theorem daseg3 (K : ProgOk P) {t R X : List UInt8} {x : Nat} (hx : x < 100000) {Q : AM → Prop} (h : Goes P (das3 t R X x) Q) : Goes P (das2 t R X x) Q :=
  Goes.seg2 K (l := []) (m := 15606) (keep := [(0, false), (1, false), (2, false), (3, false), (4, false), (5, false), (6, false), (7, false), (8, false), (9, false), (10, false), (11, false), (12, false), (13, false), (14, true), (17, false), (18, false), (75, false), (77, false), (80, false), (93, false), (695, false), (723, false)]) (top := [2]) (slots := [[0, 1, 2, 6], [0, 2, 3, 4, 18], [0, 1], [], [], [], [], [], [0], [0, 3, 4], [2]]) (p := (True) ∧ (PlainO (lineO X x) ∧ True)) (by kernel_rfl) ⟨trivial, plain_line X x, trivial⟩ h
end
end Go.Proofs.Gt

namespace Go.Proofs.Gt
open Go Go.Proofs Go.Abs
set_option maxRecDepth 1000000
noncomputable section

theorem daseg4 (K : ProgOk P) {t R X : List UInt8} {x : Nat} (hx : x < 100000) {Q : AM → Prop} (h : Goes P (das4 t R X x) Q) : Goes P (das3 t R X x) Q :=
  Goes.seg2 K (l := []) (m := 16995) (keep := [(0, false), (1, false), (2, false), (3, false), (4, false), (5, false), (6, false), (7, false), (8, false), (9, false), (10, false), (11, false), (12, false), (13, false), (14, true), (15, false), (16, false), (17, false), (18, false), (19, false), (20, false), (21, false), (339, false), (343, false), (344, false)]) (top := [0]) (slots := [[6, 9], [0, 2, 3, 5, 18], [0, 1], [], [], [], [], [], [0], [0, 3, 4], [2]]) (p := (True) ∧ (PlainO (lineO X x) ∧ True)) (by kernel_rfl) ⟨trivial, plain_line X x, trivial⟩ h
end
end Go.Proofs.Gt

