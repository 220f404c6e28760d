/- Part of the proof of the law TopEnded: the message and the end: E3. Conditions: none. -/
import Derived.Test.YtmmgkehhckhdcaaGreatDoorE0

set_option linter.unusedVariables false
set_option linter.unusedSimpArgs false

namespace Go.Proofs.Gt
open Go Go.Proofs Go.Abs
set_option maxRecDepth 1000000
noncomputable section

/-- The end is read. -/
theorem endRead (K : ProgOk P) {t R X : List UInt8} {x at_ : Nat} {stp : Int} {ls : List UInt8} {c : UInt8} {cat : Int} (hl0 : lineP X x at_ 92) (hl1 : lineP X x (Nat.succ at_) 101) (hl2 : lineP X x (Nat.succ (Nat.succ at_)) 110) (hl3 : lineP X x (Nat.succ (Nat.succ (Nat.succ at_))) 100) (hl4 : lineP X x (Nat.succ (Nat.succ (Nat.succ (Nat.succ at_)))) c) (hc : codeP c cat) (h7 : cat ≠ 7) (h11 : ¬ cat = 11) (hs : 0 < stp ∧ stp < 100001) (ha : at_ < 100000) {Q : AM → Prop} (h : Goes P (PS2 t R X x (Nat.succ (Nat.succ (Nat.succ (Nat.succ at_)))) (stp - 1) ls) Q) : Goes P (PS1 t R X x at_ stp ls) Q :=
  Goes.seg2 K (l := [(16, .bin (.bool false)), (15797, .charK at_ 92), (20, .bin (it (Int.ofNat (Nat.succ at_)))), (48, .charK (Nat.succ at_) 101), (20, .bin (it (Int.ofNat (Nat.succ (Nat.succ at_))))), (45, .charK (Nat.succ (Nat.succ at_)) 110), (38, .bin (it (Int.ofNat (Nat.succ (Nat.succ (Nat.succ at_)))))), (11, .charK (Nat.succ (Nat.succ (Nat.succ at_))) 100), (38, .bin (it (Int.ofNat (Nat.succ (Nat.succ (Nat.succ (Nat.succ at_))))))), (11, .char (Nat.succ (Nat.succ (Nat.succ (Nat.succ at_)))) c cat), (15, .addr), (0, .load [it cat]), (0, .bin (.bool true)), (43, .bin (it (stp - 1)))]) (m := 716) (keep := [(0, false), (1, false), (2, false), (3, false), (4, false), (5, false), (6, false), (7, false), (8, false), (9, false), (10, false), (11, false), (12, false), (13, false), (14, true), (15, false), (16, false), (17, false), (18, false), (19, false), (20, false), (21, false), (22, false), (23, false), (24, false), (25, false), (333, false), (345, false)]) (top := [5]) (slots := [[0, 3, 6, 18], [0], [0, 3, 4], [2]]) (p := (abin P .eql 3 (it stp) (it 0) = some (.bool false) ∧ (CharOk P 379 ∧ lineP X x at_ 92) ∧ abin P .add 3 (it (Int.ofNat at_)) (it 1) = some (it (Int.ofNat (Nat.succ at_))) ∧ (CharOk P 379 ∧ lineP X x (Nat.succ at_) 101) ∧ abin P .add 3 (it (Int.ofNat (Nat.succ at_))) (it 1) = some (it (Int.ofNat (Nat.succ (Nat.succ at_)))) ∧ (CharOk P 379 ∧ lineP X x (Nat.succ (Nat.succ at_)) 110) ∧ abin P .add 3 (it (Int.ofNat (Nat.succ (Nat.succ at_)))) (it 1) = some (it (Int.ofNat (Nat.succ (Nat.succ (Nat.succ at_))))) ∧ (CharOk P 379 ∧ lineP X x (Nat.succ (Nat.succ (Nat.succ at_))) 100) ∧ abin P .add 3 (it (Int.ofNat (Nat.succ (Nat.succ (Nat.succ at_))))) (it 1) = some (it (Int.ofNat (Nat.succ (Nat.succ (Nat.succ (Nat.succ at_)))))) ∧ (CharOk P 379 ∧ Int.ofNat (Nat.succ (Nat.succ (Nat.succ (Nat.succ at_)))) = Int.ofNat (Nat.succ (Nat.succ (Nat.succ (Nat.succ at_)))) ∧ (Nat.succ (Nat.succ (Nat.succ (Nat.succ at_)))) < Nat.add x 17 ∧ Nat.add x 17 ≤ Nat.add x 17 ∧ Nat.add x 17 < 2 ^ 63 ∧ (Nat.ble (Nat.add (Nat.succ (Nat.succ (Nat.succ (Nat.succ at_)))) 1) (Nat.mul (Nat.add x 17) 1) = true ∧ (PA.lst (ofBytes (T1 ++ X))).loadN (Nat.succ (Nat.succ (Nat.succ (Nat.succ at_)))) 1 = some [by8 (Int.ofNat c.toNat)]) ∧ codeP c cat ∧ cat ≠ 7) ∧ Nat.ble (Nat.succ c.toNat) 256 = true ∧ codeP2 c cat ∧ abin P .neq 3 (it cat) (it 11) = some (.bool true) ∧ abin P .sub 3 (it stp) (it 1) = some (it (stp - 1)) ∧ True) ∧ (PlainO (lineO X x) ∧ True)) (by kernel_rfl) ⟨⟨eql_f (by omega), ⟨⟨charOk K, hl0⟩, ⟨add_ok (by simp only [Int.ofNat_eq_natCast]; omega) (by simp only [Int.ofNat_eq_natCast]; omega) (by simp only [Int.ofNat_eq_natCast]; omega), ⟨⟨charOk K, hl1⟩, ⟨add_ok (by simp only [Int.ofNat_eq_natCast]; omega) (by simp only [Int.ofNat_eq_natCast]; omega) (by simp only [Int.ofNat_eq_natCast]; omega), ⟨⟨charOk K, hl2⟩, ⟨add_ok (by simp only [Int.ofNat_eq_natCast]; omega) (by simp only [Int.ofNat_eq_natCast]; omega) (by simp only [Int.ofNat_eq_natCast]; omega), ⟨⟨charOk K, hl3⟩, ⟨add_ok (by simp only [Int.ofNat_eq_natCast]; omega) (by simp only [Int.ofNat_eq_natCast]; omega) (by simp only [Int.ofNat_eq_natCast]; omega), ⟨⟨charOk K, hl4.1, hl4.2.1, hl4.2.2.1, hl4.2.2.2.1, hl4.2.2.2.2, hc, h7⟩, ⟨hc.1, ⟨codeP_2 hc, ⟨neq_t h11, ⟨sub_ok rfl (by omega) (by omega), trivial⟩⟩⟩⟩⟩⟩⟩⟩⟩⟩⟩⟩⟩⟩, ⟨plain_line X x, trivial⟩⟩ h
end
end Go.Proofs.Gt

namespace Go.Proofs.Gt
open Go Go.Proofs Go.Abs
set_option maxRecDepth 1000000
noncomputable section

theorem endStep5 (K : ProgOk P) {t R X : List UInt8} {x at_ : Nat} {stp : Int} {ls : List UInt8} {Q : AM → Prop} (h : Goes P (PS3 t R X x at_ stp ls) Q) : Goes P (PS2 t R X x at_ stp ls) Q :=
  Goes.seg2 K (l := []) (m := 19898) (keep := [(0, false), (1, false), (2, false), (3, false), (4, false), (5, false), (6, false), (7, false), (8, false), (9, false), (10, false), (11, false), (12, false), (13, false), (14, true), (15, false), (16, false), (17, false), (18, false), (19, false), (25, false), (100, false), (135, false), (136, false), (137, false), (138, false), (147, false), (316, false)]) (top := [0, 6, 12, 13, 14, 15, 19, 20]) (slots := [[0], [], [], [0], [0, 3, 4], [2]]) (p := (True) ∧ (PlainO (lineO X x) ∧ True)) (by kernel_rfl) ⟨trivial, ⟨plain_line X x, trivial⟩⟩ h
end
end Go.Proofs.Gt

