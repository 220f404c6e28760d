/- Part of the proof of the law TopEnded: the run of the law's text up to the message: D1. Conditions: none. -/
import Derived.Test.YtmmgkehhckhdcaaGreatDoorD0

set_option linter.unusedVariables false
set_option linter.unusedSimpArgs false

namespace Go.Proofs.Gt
open Go Go.Proofs Go.Abs
set_option maxRecDepth 1000000
noncomputable section

theorem daseg1 (K : ProgOk P) {t R X fl lt : List UInt8} {x : Nat} {fnd : Bool} {Q : AM → Prop} (hp : (abin P .gtr 3 (it (Int.ofNat (lengthL t))) (it 65536) = some (.bool false) ∧ abin P .eql 9 (st t) (sb []) = some (.bool false) ∧ CallV P 501 [st t, sb [10]] (.tuple ⟨[st fl, st R, .bool fnd]⟩) ∧ CallV P 502 [st fl, sb [32]] (st lt) ∧ (((Nat.ble (Nat.add 0 (Nat.mul 1 1)) 1 = true ∧ PA.loadN (.lst [by8 13]) 0 (Nat.mul 1 1) = some [by8 13]) ∧ 1 = 1) ∧ (Nat.ble (Nat.add 0 (Nat.mul (lengthL lt) 1)) (lengthL lt) = true ∧ PA.loadN (.lst (ofBytes lt)) 0 (Nat.mul (lengthL lt) 1) = some (ofBytes lt)) ∧ Nat.ble (Nat.add x 17) (lengthL lt) = false ∧ oneL [by8 13] = true ∧ Nat.ble (Nat.add x 17) 1048576 = true ∧ ofBytes lt ++ [by8 13] = ofBytes (T1 ++ X) ∧ Nat.add (lengthL lt) 1 = Nat.add x 17 ∧ Nat.beq (lengthL lt) (lengthL lt) = true) ∧ ccP x ∧ ccP x ∧ ccP x ∧ ccP x ∧ ccP x ∧ ccP x ∧ ccP x ∧ True) ∧ (PlainO (lineO X x) ∧ True)) (h : Goes P (das1 t R X x) Q) : Goes P (das0 t) Q :=
  Goes.seg2 K (l := [(137, .bin (.bool false)), (16002, .bin (.bool false)), (10, .call (.tuple ⟨[st fl, st R, .bool fnd]⟩)), (20, .call (st lt)), (25, .app [by8 13] 1 (ofBytes lt) (ofBytes (T1 ++ X)) (Nat.add x 17) true), (42, .charC), (69, .charC), (66, .charC), (50, .charC), (50, .charC), (50, .charC), (50, .charC)]) (m := 50) (keep := [(0, false), (1, false), (2, false), (3, false), (4, false), (5, false), (6, false), (7, false), (8, false), (9, false), (10, false), (11, false), (12, false), (13, false), (15, false), (16, false), (17, false), (280, true)]) (top := [0, 2, 4]) (slots := [[0, 2], [0], [0, 3, 4], [2]]) (by kernel_rfl) hp h
end
end Go.Proofs.Gt

namespace Go.Proofs.Gt
open Go Go.Proofs Go.Abs
set_option maxRecDepth 1000000
noncomputable section

theorem daseg2 (K : ProgOk P) {t R X : List UInt8} {x : Nat} (hx : x < 100000) {Q : AM → Prop} (h : Goes P (das2 t R X x) Q) : Goes P (das1 t R X x) Q :=
  Goes.seg2 K (l := [(21224, .charC), (95, .charC), (69, .charC), (66, .charC), (50, .charC), (50, .charC), (50, .charC), (50, .charC), (50, .charC), (50, .charC)]) (m := 2326) (keep := [(0, false), (1, false), (2, false), (3, false), (4, false), (5, false), (6, false), (7, false), (8, false), (9, false), (10, false), (11, false), (12, false), (13, false), (17, true), (125, false), (126, false), (453, false), (511, false), (513, false)]) (top := [0, 1, 6, 7, 8, 9, 10]) (slots := [[], [], [0], [0, 3, 4], [2]]) (p := (ccP x ∧ ccP x ∧ ccP x ∧ ccP x ∧ ccP x ∧ ccP x ∧ ccP x ∧ ccP x ∧ ccP x ∧ ccP x ∧ True) ∧ (PlainO (lineO X x) ∧ True)) (by kernel_rfl) ⟨⟨ccOk K hx, ccOk K hx, ccOk K hx, ccOk K hx, ccOk K hx, ccOk K hx, ccOk K hx, ccOk K hx, ccOk K hx, ccOk K hx, trivial⟩, plain_line X x, trivial⟩ h
end
end Go.Proofs.Gt

