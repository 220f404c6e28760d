/- Part of the proof of the law TopEnded: the run of the law's text up to the message: D4. Conditions: none. -/
import Derived.Test.YtmmgkehhckhdcaaGreatDoorD0

set_option linter.unusedVariables false
set_option linter.unusedSimpArgs false

namespace Go.Proofs.Gt
open Go Go.Proofs Go.Abs
set_option maxRecDepth 1000000
noncomputable section

theorem daseg7 (K : ProgOk P) {t R X : List UInt8} {x : Nat} (hx : x < 100000) {Q : AM → Prop} (h : Goes P (das7 t R X x) Q) : Goes P (das6 t R X x) Q :=
  Goes.seg2 K (l := []) (m := 16995) (keep := [(0, false), (1, false), (2, false), (3, false), (4, false), (5, false), (6, false), (7, false), (8, false), (9, false), (10, false), (11, false), (12, false), (13, false), (14, true), (15, false), (16, false), (17, false), (18, false), (19, false), (20, false), (21, false)]) (top := [0, 2, 3, 18]) (slots := [[0, 1], [], [], [], [], [], [0], [0, 3, 4], [2]]) (p := (True) ∧ (PlainO (lineO X x) ∧ True)) (by kernel_rfl) ⟨trivial, plain_line X x, trivial⟩ h
end
end Go.Proofs.Gt

namespace Go.Proofs.Gt
open Go Go.Proofs Go.Abs
set_option maxRecDepth 1000000
noncomputable section

theorem daseg8 (K : ProgOk P) {t R X : List UInt8} {x : Nat} (hx : x < 100000) {Q : AM → Prop} (h : Goes P (das8 t R X x) Q) : Goes P (das7 t R X x) Q :=
  Goes.seg2 K (l := [(25431, .charC)]) (m := 111) (keep := [(0, false), (1, false), (2, false), (3, false), (4, false), (5, false), (6, false), (7, false), (8, false), (9, false), (10, false), (11, false), (12, false), (13, false), (14, true), (15, false), (16, false), (17, false), (18, false), (65, false), (66, false), (67, false), (68, false), (102, false), (112, false), (223, false), (224, false), (225, false)]) (top := [0, 2, 4]) (slots := [[2], [2], [0, 1], [0, 1], [], [], [0], [0, 3, 4], [2]]) (p := (ccP x ∧ True) ∧ (PlainO (lineO X x) ∧ True)) (by kernel_rfl) ⟨⟨ccOk K hx, trivial⟩, plain_line X x, trivial⟩ h
end
end Go.Proofs.Gt

