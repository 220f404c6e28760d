/- Part of the proof of the law TopEnded: the message and the end: E1. Conditions: none. -/
import Derived.Test.YtmmgkehhckhdcaaGreatDoorE0

set_option linter.unusedVariables false
set_option linter.unusedSimpArgs false

namespace Go.Proofs.Gt
open Go Go.Proofs Go.Abs
set_option maxRecDepth 1000000
noncomputable section

/-- A letter of the message is read. -/
theorem letterRound (K : ProgOk P) {t R X : List UInt8} {x n at_ : Nat} {stp : Int} {out : List Value} {c : UInt8} (hl : lineP X x at_ c) (hc : codeP c 11) (hs : 0 < stp ∧ stp < 100001) (ha : at_ < 100000) (hn : n < 10000) (ho : out.length = n * 3) (hp : ∀ v ∈ out ++ tokL c, plainV.plainS v = true) {Q : AM → Prop} (h : Goes P (LH t R X x (Nat.succ n) (Nat.succ at_) (stp - 1) (out ++ tokL c)) Q) : Goes P (LH t R X x n at_ stp out) Q :=
  Goes.seg2 K (l := [(38, .bin (.bool false)), (15797, .char at_ c 11), (20, .bin (it (Int.ofNat (Nat.succ at_)))), (21, .addr), (0, .load [it 11]), (78, .bin (it (stp - 1))), (205, .bin (.bool false)), (7, .app (tokL c) 1 out (out ++ tokL c) (Nat.succ n) true)]) (m := 19) (keep := [(0, false), (1, false), (2, false), (3, false), (4, false), (5, false), (6, false), (7, false), (8, false), (9, false), (10, false), (11, false), (12, false), (13, false), (14, true), (15, false), (16, false), (17, false), (18, false), (19, false), (20, false), (21, false), (22, false), (23, false), (24, false), (298, true)]) (top := [0, 1, 8, 9]) (slots := [[0, 1], [], [], [0], [0, 3, 4], [2]]) (p := (abin P .eql 3 (it stp) (it 0) = some (.bool false) ∧ (CharOk P 379 ∧ Int.ofNat at_ = Int.ofNat at_ ∧ at_ < Nat.add x 17 ∧ Nat.add x 17 ≤ Nat.add x 17 ∧ Nat.add x 17 < 2 ^ 63 ∧ (Nat.ble (Nat.add at_ 1) (Nat.mul (Nat.add x 17) 1) = true ∧ (PA.lst (ofBytes (T1 ++ X))).loadN at_ 1 = some [by8 (Int.ofNat c.toNat)]) ∧ codeP c 11 ∧ (11 : Int) ≠ 7) ∧ abin P .add 3 (it (Int.ofNat at_)) (it 1) = some (it (Int.ofNat (Nat.succ at_))) ∧ Nat.ble (Nat.succ c.toNat) 256 = true ∧ codeP2 c 11 ∧ abin P .sub 3 (it stp) (it 1) = some (it (stp - 1)) ∧ abin P .eql 3 (it (Int.ofNat n)) (it 20000) = some (.bool false) ∧ (((Nat.ble (Nat.add 0 (Nat.mul 1 3)) 3 = true ∧ (PA.lst (tokL c)).loadN 0 (Nat.mul 1 3) = some (tokL c)) ∧ 1 = 1) ∧ (Nat.ble (Nat.add 0 (Nat.mul n 3)) (Nat.mul n 3) = true ∧ (PA.lst out).loadN 0 (Nat.mul n 3) = some out) ∧ Nat.ble (Nat.succ n) n = false ∧ oneL (tokL c) = true ∧ Nat.ble (Nat.succ n) 1048576 = true ∧ out ++ tokL c = out ++ tokL c ∧ Nat.add n 1 = Nat.succ n ∧ Nat.beq n n = true) ∧ True) ∧ (PlainO (lineO X x) ∧ (PlainO (.cells (.lst (out ++ tokL c)) (Nat.mul (Nat.succ n) 3) 159 3 false true none) ∧ True))) (by kernel_rfl) ⟨⟨eql_f (by omega), ⟨⟨charOk K, hl.1, hl.2.1, hl.2.2.1, hl.2.2.2.1, hl.2.2.2.2, hc, by decide⟩, ⟨add_ok (by simp only [Int.ofNat_eq_natCast]; omega) (by simp only [Int.ofNat_eq_natCast]; omega) (by simp only [Int.ofNat_eq_natCast]; omega), ⟨hc.1, ⟨codeP_2 hc, ⟨sub_ok rfl (by omega) (by omega), ⟨eql_f (by simp only [Int.ofNat_eq_natCast]; omega), ⟨⟨⟨⟨rfl, rfl⟩, rfl⟩, ldAll ho, ble_f (by omega), rfl, ble_t (by omega), rfl, rfl, beqT n⟩, trivial⟩⟩⟩⟩⟩⟩⟩⟩, ⟨plain_line X x, ⟨plain_toks hp 0 _ _ _ _ _, trivial⟩⟩⟩ h
end
end Go.Proofs.Gt

