/- Part of the proof of the law TopEnded: the message and the end: E4. Conditions: none. -/
import Derived.Test.YtmmgkehhckhdcaaGreatDoorE0

set_option linter.unusedVariables false
set_option linter.unusedSimpArgs false

namespace Go.Proofs.Gt
open Go Go.Proofs Go.Abs
set_option maxRecDepth 1000000
noncomputable section

theorem endStep6 (K : ProgOk P) {t R X : List UInt8} {x at_ : Nat} {stp : Int} {ls : List UInt8} {Q : AM → Prop} (h : Goes P (PS4 t R X x at_ stp ls) Q) : Goes P (PS3 t R X x at_ stp ls) Q :=
  Goes.seg2 K (l := []) (m := 11670) (keep := [(0, false), (1, false), (2, false), (3, false), (4, false), (5, false), (6, false), (7, false), (8, false), (9, false), (10, false), (11, false), (12, false), (13, false), (14, true), (15, false), (16, false), (17, false), (18, false), (19, false), (22, false), (23, false), (24, false), (25, false), (27, false), (413, false), (446, false), (454, false), (456, false), (459, false), (462, false), (464, false), (465, false), (475, false), (484, false)]) (top := [3, 4, 5, 7, 14, 15, 16]) (slots := [[0, 1, 2], [0, 1, 5], [6, 10], [0, 3, 4, 5], [2]]) (p := (True) ∧ (PlainO (lineO X x) ∧ True)) (by kernel_rfl) ⟨trivial, ⟨plain_line X x, trivial⟩⟩ h
end
end Go.Proofs.Gt

namespace Go.Proofs.Gt
open Go Go.Proofs Go.Abs
set_option maxRecDepth 1000000
noncomputable section

theorem endStep7 (K : ProgOk P) {t R X : List UInt8} {x at_ : Nat} {stp : Int} {ls : List UInt8} {Q : AM → Prop} (h : Goes P (PS5 t R X x at_ stp ls) Q) : Goes P (PS4 t R X x at_ stp ls) Q :=
  Goes.seg2 K (l := []) (m := 22586) (keep := [(0, false), (1, false), (2, false), (3, false), (4, false), (5, false), (6, false), (7, false), (8, false), (9, false), (10, false), (11, false), (12, false), (13, false), (14, true), (15, false), (16, false), (17, false), (18, false), (19, false), (20, false), (21, false), (22, false), (23, false), (24, false), (25, false), (26, false), (401, false), (601, false)]) (top := [0, 3, 4, 8]) (slots := [[2]]) (p := (True) ∧ (PlainO (lineO X x) ∧ True)) (by kernel_rfl) ⟨trivial, ⟨plain_line X x, trivial⟩⟩ h
end
end Go.Proofs.Gt

