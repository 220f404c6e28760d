/- Part of the proof of the law TopEnded: the run as a whole: F1. Conditions: none. -/
import Derived.Test.YtmmgkehhckhdcaaGreatDoorE1
import Derived.Test.YtmmgkehhckhdcaaGreatDoorE2
import Derived.Test.YtmmgkehhckhdcaaGreatDoorL0
import Derived.Test.YtmmgkehhckhdcaaGreatDoorE3
import Derived.Test.YtmmgkehhckhdcaaGreatDoorE4
import Derived.Test.YtmmgkehhckhdcaaGreatDoorA4
import Derived.Test.YtmmgkehhckhdcaaGreatDoorD1
import Derived.Test.YtmmgkehhckhdcaaGreatDoorD2
import Derived.Test.YtmmgkehhckhdcaaGreatDoorD3
import Derived.Test.YtmmgkehhckhdcaaGreatDoorD4
import Derived.Test.YtmmgkehhckhdcaaGreatDoorD5

set_option linter.unusedVariables false
set_option linter.unusedSimpArgs false

/- The loops over the message's letters, as wholes. -/
namespace Go.Proofs.Gt
open Go Go.Proofs Go.Abs
set_option maxRecDepth 1000000
noncomputable section

def isLow (c : UInt8) : Prop := 97 ≤ c.toNat ∧ c.toNat ≤ 122

theorem lettersLoop (K : ProgOk P) {t R X : List UInt8} {x : Nat} {Q : AM → Prop} (tl : List UInt8) (hx : x < 100000) (hX : x = X.length) : ∀ (r dn : List UInt8) (n at_ : Nat) (stp : Int) (out : List Value),
    X = dn ++ (r ++ 125 :: tl) → (∀ c ∈ r, isLow c) → n = dn.length + 1 → at_ = 17 + dn.length → out = toksL (113 :: dn) → dn.length + r.length < 9000 → (r.length : Int) < stp ∧ stp < 100001 →
    (∀ n' at' stp' out', n' = dn.length + r.length + 1 → at' = 17 + (dn.length + r.length) → stp' = stp - r.length → out' = toksL (113 :: (dn ++ r)) → Goes P (LH t R X x n' at' stp' out') Q) → Goes P (LH t R X x n at_ stp out) Q
  | [], dn, n, at_, stp, out, hXe, _, hn, ha, ho, _, _, h => h n at_ stp out (by simpa using hn) (by simpa using ha) (by simp) (by simpa using ho)
  | c :: r, dn, n, at_, stp, out, hXe, hr, hn, ha, ho, hl, hs, h => by
    have hc := hr c List.mem_cons_self
    have hxl : dn.length < x := by rw [hX, hXe]; simp
    have hlp : lineP X x at_ c := by
      rw [ha]
      refine lineP_ok hx hxl ?_
      rw [hXe]; simp
    have hlen : x = dn.length + (r.length + 1) + (tl.length + 1) := by
      rw [hX, hXe]
      simp only [List.length_append, List.length_cons]
      omega
    simp only [List.length_cons] at hl hs
    have e2 : out ++ tokL c = toksL (113 :: (dn ++ [c])) := by
      rw [ho, ← List.cons_append, toksL_append]; simp [toksL]
    refine letterRound K hlp (codeP_letter hc.1 hc.2) ⟨by omega, by omega⟩ (by omega) (by omega) (by rw [ho, toksL_length, hn]; simp) (by rw [e2]; exact toksL_plain _) ?_
    refine lettersLoop K tl hx hX r (dn ++ [c]) _ _ _ _ (by rw [hXe]; simp) (fun y hy => hr y (List.mem_cons_of_mem _ hy)) (by simp [hn]) (by simp [ha]; omega) e2 (by simp; omega) ⟨by omega, by omega⟩ ?_
    intro n' at' stp' out' h1 h2 h3 h4
    exact h n' at' stp' out' (by rw [h1]; simp; omega) (by rw [h2]; simp; omega) (by rw [h3]; simp; omega) (by rw [h4]; simp)

theorem speltLoop (K : ProgOk P) {t R X : List UInt8} {x n at_ : Nat} {stp : Int} {out : List Value} {Q : AM → Prop} : ∀ (r d : List UInt8) (i : Nat),
    out = toksL (d ++ r) → i = d.length → n = (d ++ r).length → n < 10000 → Goes P (PS1 t R X x at_ stp (d ++ r)) Q → Goes P (SH t R X x n at_ stp out i d) Q
  | [], d, i, ho, hi, hn, hl, h => by
    refine speltEnd K (by rw [hn, hi]; simp) hi.symm ?_
    simpa using h
  | c :: r, d, i, ho, hi, hn, hl, h => by
    have hin : i < n := by rw [hn, hi]; simp
    refine speltRound K hin hl hi.symm ?_ (by rw [ho]; exact toksL_plain _) (speltLoop K r (d ++ [c]) _ (by rw [ho]; simp) (by simp [hi]) (by rw [hn]; simp) hl (by simpa using h))
    have e : Nat.add 0 (Nat.mul i 3) = d.length * 3 := by rw [hi, Nat.add_eq, Nat.mul_eq, Nat.zero_add]
    have hlen : out.length = n * 3 := by rw [ho, toksL_length, hn]
    rw [e]
    refine ⟨ble_t ?_, loadN_lst ?_ ?_⟩
    · show d.length * 3 + 3 ≤ n * 3
      rw [← hi]; omega
    · rw [hlen, ← hi]; omega
    · rw [ho]; exact (toksL_at d c r).symm

theorem logLoop (K : ProgOk P) {stp : Int} {len : Nat} {Q : AM → Prop} : ∀ (r d : List UInt8) (i : Nat), i = d.length → len = (d ++ r).length → (∀ c ∈ r, 32 ≤ c.toNat ∧ c.toNat < 127) → 0 < i → len < 1000 →
    Goes P (GS2 (d ++ r) stp (Nat.succ len) ((d ++ r) ++ [10])) Q → Goes P (GS1 (d ++ r) stp len i d) Q
  | [], d, i, hi, hn, _, h0, hl, h => by
    have e : i = len := by rw [hi, hn]; simp
    subst e
    refine logLine K (by omega) hi.symm h0 hl ?_
    simpa using h
  | c :: r, d, i, hi, hn, hr, h0, hl, h => by
    have hin : i < len := by rw [hn, hi]; simp
    have hc := hr c List.mem_cons_self
    refine logRound K hin (by rw [hi]; simp) hc.1 hc.2 hi.symm h0 (by omega) ?_
    have := logLoop K r (d ++ [c]) (Nat.succ i) (stp := stp) (len := len) (Q := Q) (by simp [hi]) (by rw [hn]; simp) (fun y hy => hr y (List.mem_cons_of_mem _ hy)) (by omega) hl (by simpa using h)
    simpa using this

/-- A log of one line of letters, from the call on. -/
theorem logGoes (K : ProgOk P) {ms : List UInt8} {stp : Int} (hm : ∀ c ∈ ms, 32 ≤ c.toNat ∧ c.toNat < 127) (hl : ms.length < 900) {Q : AM → Prop} (h : Goes P (GS2 (113 :: ms) stp (ms.length + 2) (113 :: (ms ++ [10]))) Q) : Goes P (GS0 (113 :: ms) stp) Q := by
  refine logStart K ?_
  have e : lengthL (113 :: ms) = ms.length + 1 := by rw [lengthL_eq]; rfl
  rw [e]
  exact logLoop K ms [113] 1 rfl (by simp [Nat.add_comm]) hm (by omega) (by omega) (by simpa using h)
end
end Go.Proofs.Gt

/- From the message's first letter to the log's call. -/
namespace Go.Proofs.Gt
open Go Go.Proofs Go.Abs
set_option maxRecDepth 1000000
noncomputable section

/-- Where the line is left. -/
def atE (ms : List UInt8) : Nat := Nat.succ (Nat.succ (Nat.succ (Nat.succ (Nat.succ (Nat.add 17 ms.length)))))

theorem das10_eq {t R X : List UInt8} {x : Nat} : das10 t R X x = LH t R X x 1 17 99993 (toksL [113]) := by kernel_rfl

theorem toLog (K : ProgOk P) {t R X ms tl : List UInt8} {x : Nat} {c : UInt8} {cat : Int} {Q : AM → Prop} (hXe : X = ms ++ 125 :: 92 :: 101 :: 110 :: 100 :: c :: tl) (hx : x < 100000) (hX : x = X.length) (hm : ∀ c ∈ ms, isLow c) (hl : ms.length < 900)
    (hc : codeP c cat) (h7 : cat ≠ 7) (h11 : ¬ cat = 11) (h : Goes P (PS5 t R X x (atE ms) (99991 - ms.length) (113 :: ms)) Q) : Goes P (das10 t R X x) Q := by
  rw [das10_eq]
  have hlen : x = ms.length + (tl.length + 6) := by rw [hX, hXe]; simp
  refine lettersLoop K (92 :: 101 :: 110 :: 100 :: c :: tl) hx hX ms [] 1 17 99993 _ (by simpa using hXe) hm rfl rfl rfl (by simp; omega) ⟨by omega, by omega⟩ ?_
  intro n' at' stp' out' h1 h2 h3 h4
  simp only [List.length_nil, Nat.zero_add, List.nil_append] at h1 h2 h3 h4
  have hg : ∀ k y, (125 :: 92 :: 101 :: 110 :: 100 :: c :: tl)[k]? = some y → k < 6 → lineP X x (Nat.add 17 (ms.length + k)) y := by
    intro k y hk hk6
    refine lineP_ok hx (by omega) ?_
    rw [hXe, List.getElem?_append_right (by omega)]
    have : ms.length + k - ms.length = k := by omega
    rw [this]; exact hk
  have g0 := hg 0 125 rfl (by omega)
  have g1 := hg 1 92 rfl (by omega)
  have g2 := hg 2 101 rfl (by omega)
  have g3 := hg 3 110 rfl (by omega)
  have g4 := hg 4 100 rfl (by omega)
  have g5 := hg 5 c rfl (by omega)
  have hat : at' = Nat.add 17 ms.length := h2
  subst hat
  have ho : out'.length = n' * 3 := by rw [h4, toksL_length, h1]; simp
  refine braceRound K g0 ⟨by omega, by omega⟩ (by show 17 + ms.length < 100000; omega) (by omega) ⟨ble_t (by show 0 + 0 * 3 + 3 ≤ n' * 3; omega), loadN_lst (by rw [ho]; show 0 + 0 * 3 + 3 ≤ n' * 3; omega) (by rw [h4]; rfl)⟩ (by rw [h4]; exact toksL_plain _) ?_
  refine speltLoop K ms [113] 1 (by rw [h4]; rfl) rfl (by rw [h1]; simp [Nat.add_comm]) (by omega) ?_
  refine endRead K g1 g2 g3 g4 g5 hc h7 h11 ⟨by omega, by omega⟩ (by show 17 + ms.length + 1 < 100000; omega) ?_
  refine endStep5 K (endStep6 K (endStep7 K ?_))
  have e : stp' - 1 - 1 = 99991 - (ms.length : Int) := by omega
  rw [e]
  exact h
end
end Go.Proofs.Gt

/- The log's call, and the end of the run. -/
namespace Go.Proofs.Gt
open Go Go.Proofs Go.Abs
set_option maxRecDepth 1000000
noncomputable section

/-- The run's result, but for its log. -/
def rV (stp : Int) : Value := ag [it 1, it 0, sl 28 0 108 108, sb [], it 1, it stp]
def rW (stp : Int) : Value := ag [it 1, it 0, sl 1 0 108 108, sb [], it 1, it stp]

theorem same_rV (stp : Int) : sameV (rV stp) (rV stp) = true := by
  have h : sameV (rV stp) (rV stp) = (decide (IntKind.i64 = IntKind.i64) && decide (stp = stp) && true) := by kernel_rfl
  rw [h]; simp

def evL : List (Nat × Ev) := [(47, .ret)]
def L1 (t R X : List UInt8) (x at_ : Nat) (stp : Int) (ls : List UInt8) : AM := orunS P evL 0 (PS5 t R X x at_ stp ls)

variable {t R X : List UInt8} {x at_ : Nat} {stp : Int} {ls : List UInt8}

theorem runL : orun P evL 0 (PS5 t R X x at_ stp ls) = some (.mk ((sameV (rV stp) (rV stp) = true ∧ sameV (it 1000) (it 1000) = true ∧ True) ∧ True) (L1 t R X x at_ stp ls)) := by kernel_rfl

theorem opL : opS P (L1 t R X x at_ stp ls) = some (.enter 31 [sl 29 0 2 2, rV stp, it 1000]) := by kernel_rfl

def bsL (ls : List UInt8) : List (Nat × AObj) := [(0, daob0), (28, dviR), (29, linesR ls)]

theorem plainC_all {l : List Value} (h : l.all plainV.plainS = true) (n : Nat) : PlainC (.lst l) n := by
  intro i v _ hv
  rw [PA.get_lst] at hv
  exact List.all_eq_true.1 h v (List.mem_of_getElem? hv)

def dviL : List Value := match dviC with | .lst l => l | _ => []
theorem dviC_eq : dviC = .lst dviL := by kernel_rfl
theorem plain_dvi (n : Nat) : PlainC dviC n := by rw [dviC_eq]; exact plainC_all (by kernel_rfl) n

def linesC (ls : List UInt8) : List Value := [st ls, vs 0x556e64657266756c6c2076626f7820286261646e65737320313030303029]
def powL : List Value := match daob0 with | .cells (.lst l) _ _ _ _ _ _ => l | _ => []

theorem baseL : BaseOk (L1 t R X x at_ stp ls).heap (bsL ls) := by
  refine ⟨⟨.lst powL, .lst powL, 20, 3, 1, true, false, none, by kernel_rfl, by kernel_rfl, by kernel_rfl, fun _ _ h => h, plainC_all (by kernel_rfl) _⟩,
    ⟨dviC, dviC, 108, 5, 1, false, true, none, by kernel_rfl, by kernel_rfl, by kernel_rfl, fun _ _ h => h, plain_dvi _⟩,
    ⟨.lst (linesC ls), .lst (linesC ls), 2, 9, 1, false, true, none, by kernel_rfl, by kernel_rfl, by kernel_rfl, fun _ _ h => h, plainC_all (by kernel_rfl) _⟩, trivial⟩

def argsL (stp : Int) : List Value := [sl 2 0 2 2, rW stp, it 1000]
def frL (stp : Int) : AFrame := frB 31 57 (argsL stp)
theorem enterL : enterA P 31 (argsL stp) .normal = some (frL stp) := by kernel_rfl

theorem startL {Q : AM → Prop} (h : Goes P (GS0 ls stp) Q) : Goes P ⟨frL stp, [], heapL ((bsL ls).map (·.2))⟩ Q :=
  Goes.small (keep := [(0, false), (1, false), (2, false)]) (top := [0, 1, 2]) (slots := []) (by kernel_rfl) (fun id o hm _ => by simp at hm) h

def hL (t R X : List UInt8) (x at_ : Nat) (stp : Int) (ls : List UInt8) : AHeap := ⟨(L1 t R X x at_ stp ls).heap.objs, (L1 t R X x at_ stp ls).heap.next + 0, (L1 t R X x at_ stp ls).heap.fams⟩

theorem callL (K : ProgOk P) {ms : List UInt8} (hm : ∀ c ∈ ms, 32 ≤ c.toNat ∧ c.toNat < 127) (hl : ms.length < 900) :
    CallOk P 31 [sl 29 0 2 2, rV stp, it 1000] (L1 t R X x at_ stp (113 :: ms)).heap (st (LT (113 :: (ms ++ [10])))) (hL t R X x at_ stp (113 :: ms)) :=
  callOk_ro (bs := bsL (113 :: ms)) (keep := []) (enterL (stp := stp)) (startL (logGoes (stp := stp) K hm hl (logDone K (by simp) (by omega)))) (by kernel_rfl) baseL rfl (by kernel_rfl) (by kernel_rfl) rfl rfl rfl (fun id o hm _ => by cases hm) rfl (by kernel_rfl)

/-- A run's value. -/
def doV (b : Nat) (stp : Int) (F : List UInt8) : Value := .tuple ⟨[ag [it 1, it 0, sl b 0 108 108, st F, it 1, it stp], it 0]⟩

def L2 (t R X : List UInt8) (x at_ : Nat) (stp : Int) (ls F : List UInt8) : AM := fin1 P (L1 t R X x at_ stp ls) (st F) (hL t R X x at_ stp ls)
def L3 (t R X : List UInt8) (x at_ : Nat) (stp : Int) (ls F : List UInt8) : AM := run1 P 14 (L2 t R X x at_ stp ls F)

theorem doEnd (K : ProgOk P) {ms : List UInt8} (hm : ∀ c ∈ ms, 32 ≤ c.toNat ∧ c.toNat < 127) (hl : ms.length < 900) :
    Goes P (PS5 t R X x at_ stp (113 :: ms)) (Abs.Returns P 6 (doV 28 stp (LT (113 :: (ms ++ [10])))) (L3 t R X x at_ stp (113 :: ms) (LT (113 :: (ms ++ [10])))).heap) := by
  refine Goes.trace K runL ⟨⟨same_rV stp, rfl, trivial⟩, trivial⟩ ?_
  refine Goes.call K opL (callL K hm hl) (fin1_eq (by kernel_rfl)) ?_
  refine Goes.go K 14 (by kernel_rfl) (Goes.done ?_)
  exact ⟨by kernel_rfl, rfl, by kernel_rfl, by kernel_rfl, by kernel_rfl, by kernel_rfl, by kernel_rfl⟩
end
end Go.Proofs.Gt

/- The text: its first line, and the run of it. -/
namespace Go.Proofs.Gt
open Go Go.Proofs Go.Abs
set_option maxRecDepth 1000000
noncomputable section

theorem toMessage (K : ProgOk P) {t X R fl lt : List UInt8} {x : Nat} {fnd : Bool} {Q : AM → Prop} (ht0 : t ≠ []) (htl : t.length ≤ 65536) (hcut : CallV P 501 [st t, sb [10]] (.tuple ⟨[st fl, st R, .bool fnd]⟩)) (htrim : CallV P 502 [st fl, sb [32]] (st lt))
    (hX : lt ++ [13] = T1 ++ X) (hx : x = X.length) (hxl : x < 100000) (h : Goes P (das10 t R X x) Q) : Goes P (das0 t) Q := by
  have hlen : lt.length + 1 = x + 17 := by
    have := congrArg List.length hX
    simp only [List.length_append, List.length_cons, List.length_nil] at this
    rw [hx]
    have e : T1.length = 17 := rfl
    omega
  have e1 : lengthL lt = lt.length := lengthL_eq lt
  have hb : ofBytes lt ++ [by8 13] = ofBytes (T1 ++ X) := by rw [← hX, ofBytes_append]; rfl
  have hl : (ofBytes lt).length = lt.length := ofBytes_length lt
  have cc := ccOk K hxl
  refine daseg1 K (fl := fl) (lt := lt) (fnd := fnd) ⟨⟨gtr_f (by rw [lengthL_eq]; simp only [Int.ofNat_eq_natCast]; omega), str_eql_f ht0, hcut, htrim, ⟨⟨⟨rfl, rfl⟩, rfl⟩, ⟨?_, ?_⟩, ?_, rfl, ?_, hb, ?_, beqT _⟩, cc, cc, cc, cc, cc, cc, cc, trivial⟩, plain_line X x, trivial⟩ ?_
  · rw [e1]; exact ble_t (by show 0 + lt.length * 1 ≤ lt.length; omega)
  · rw [e1]
    refine loadN_lst (by show 0 + lt.length * 1 ≤ _; omega) ?_
    rw [List.drop_zero]
    exact (List.take_of_length_le (by show (ofBytes lt).length ≤ lt.length * 1; omega)).symm
  · rw [e1]; exact ble_f (by show ¬ x + 17 ≤ lt.length; omega)
  · exact ble_t (by show x + 17 ≤ 1048576; omega)
  · rw [e1]; exact hlen
  · exact daseg2 K hxl (daseg3 K hxl (daseg4 K hxl (daseg5 K hxl (daseg6 K hxl (daseg7 K hxl (daseg8 K hxl (daseg9 K hxl (daseg10 K hxl h))))))))

theorem trimB_app {Y z : List UInt8} {c : UInt8} (hc : c ≠ 32) : trimB ((Y ++ [c]) ++ z) = (Y ++ [c]) ++ trimB z := by
  unfold trimB
  rw [List.reverse_append, List.dropWhile_append]
  split
  · rename_i h
    have h1 : (List.dropWhile (fun x => x == 32) z.reverse) = [] := List.isEmpty_iff.1 h
    rw [h1]
    have e : (List.dropWhile (fun x => x == 32) (Y ++ [c]).reverse) = (Y ++ [c]).reverse := by
      rw [List.reverse_append, List.reverse_singleton, List.singleton_append]
      exact List.dropWhile_cons_of_neg (by simpa using hc)
    rw [e]; simp
  · rw [List.reverse_append, List.reverse_reverse]

theorem trimB_blankHead (a : List UInt8) : trimB (32 :: a) = [] ∨ ∃ b, trimB (32 :: a) = 32 :: b := by
  unfold trimB
  rw [List.reverse_cons]
  have := List.dropWhile_append (p := fun x : UInt8 => x == 32) (xs := a.reverse) (ys := [32])
  rw [this]
  split
  · left
    simp
  · right
    exact ⟨_, by rw [List.reverse_append, List.reverse_singleton, List.singleton_append]⟩

theorem trimB_le (s : List UInt8) : (trimB s).length ≤ s.length := by
  unfold trimB
  rw [List.length_reverse]
  have := (List.dropWhile_sublist (fun x : UInt8 => x == 32) (l := s.reverse)).length_le
  simpa using this

/-- The law's text. -/
def txt (ms more : List UInt8) : List UInt8 := (T1 ++ ms ++ [125, 92, 101, 110] ++ [100]) ++ 32 :: more

theorem splitLine : ∀ s : List UInt8, (∀ x ∈ s, x ≠ 10) ∨ ∃ a b, s = a ++ 10 :: b ∧ ∀ x ∈ a, x ≠ 10
  | [] => .inl (fun x hx => by cases hx)
  | c :: s => by
    by_cases hc : c = 10
    · exact .inr ⟨[], s, by rw [hc]; rfl, fun x hx => by cases hx⟩
    · rcases splitLine s with h | ⟨a, b, h1, h2⟩
      · left
        intro x hx
        rcases List.mem_cons.1 hx with rfl | hx
        · exact hc
        · exact h x hx
      · right
        refine ⟨c :: a, b, by rw [h1]; rfl, ?_⟩
        intro x hx
        rcases List.mem_cons.1 hx with rfl | hx
        · exact hc
        · exact h2 x hx

theorem code32 : codeP 32 10 := ⟨rfl, by kernel_rfl⟩
theorem code13 : codeP 13 5 := ⟨rfl, by kernel_rfl⟩

theorem low_ne {c : UInt8} (h : isLow c) : c ≠ 10 := by
  rintro rfl
  exact absurd h.1 (by decide)

/-- Where the first line ends. -/
theorem lineRun (K : ProgOk P) {ms a R : List UInt8} {fnd : Bool} {t : List UInt8} (hm : ∀ c ∈ ms, isLow c) (hl : ms.length < 900) (hal : a.length ≤ 6000) (ht0 : t ≠ []) (htl : t.length ≤ 65536)
    (hcut : CallV P 501 [st t, sb [10]] (.tuple ⟨[st (txt ms a), st R, .bool fnd]⟩)) : ∃ X x, ∀ {Q : AM → Prop}, Goes P (PS5 t R X x (atE ms) (99991 - ms.length) (113 :: ms)) Q → Goes P (das0 t) Q := by
  have hlen : (txt ms a).length = 17 + ms.length + 5 + (a.length + 1) := by
    simp only [txt, List.length_append, List.length_cons, List.length_nil]
    have e : T1.length = 17 := rfl
    omega
  have htr : CallV P 502 [st (txt ms a), sb [32]] (st (trimB (txt ms a))) := trimRight K (by omega)
  have e1 : trimB (txt ms a) = (T1 ++ ms ++ [125, 92, 101, 110] ++ [100]) ++ trimB (32 :: a) := trimB_app (by decide)
  rw [e1] at htr
  have htl2 := trimB_le (32 :: a)
  simp only [List.length_cons] at htl2
  obtain ⟨c, tl, cat, h1, h2, h3, h4, h5⟩ : ∃ c tl cat, trimB (32 :: a) ++ [13] = c :: tl ∧ codeP c cat ∧ cat ≠ 7 ∧ ¬ cat = 11 ∧ tl.length ≤ 6001 := by
    rcases trimB_blankHead a with h | ⟨b, h⟩
    · exact ⟨13, [], 5, by rw [h]; rfl, code13, by decide, by decide, by simp⟩
    · rw [h] at htl2
      simp only [List.length_cons] at htl2
      exact ⟨32, b ++ [13], 10, by rw [h]; rfl, code32, by decide, by decide, by simp; omega⟩
  have hXX : (T1 ++ ms ++ [125, 92, 101, 110] ++ [100]) ++ trimB (32 :: a) ++ [13] = T1 ++ (ms ++ 125 :: 92 :: 101 :: 110 :: 100 :: c :: tl) := by
    rw [List.append_assoc _ (trimB (32 :: a)) [13], h1]
    simp
  have hxl : (ms ++ 125 :: 92 :: 101 :: 110 :: 100 :: c :: tl).length < 100000 := by
    simp only [List.length_append, List.length_cons]; omega
  exact ⟨_, _, fun h => toMessage K ht0 htl hcut htr hXX rfl hxl (toLog K rfl hxl rfl hm hl h2 h3 h4 h)⟩

theorem txt_cons (ms more : List UInt8) : ∃ l, txt ms more = 92 :: l := ⟨_, rfl⟩

/-- The run of the law's text, up to the log. -/
theorem textRun (K : ProgOk P) {ms more : List UInt8} (hm : ∀ c ∈ ms, isLow c) (hl : ms.length < 900) (hml : more.length ≤ 6000) : ∃ R X x, ∀ {Q : AM → Prop}, Goes P (PS5 (txt ms more) R X x (atE ms) (99991 - ms.length) (113 :: ms)) Q → Goes P (das0 (txt ms more)) Q := by
  have hlen : (txt ms more).length = 17 + ms.length + 5 + (more.length + 1) := by
    simp only [txt, List.length_append, List.length_cons, List.length_nil]
    have e : T1.length = 17 := rfl
    omega
  have ht0 : txt ms more ≠ [] := by obtain ⟨l, e⟩ := txt_cons ms more; rw [e]; simp
  have hY : ∀ x ∈ T1 ++ ms ++ [125, 92, 101, 110] ++ [100], x ≠ 10 := by
    intro x hx
    simp only [List.mem_append] at hx
    rcases hx with ((hx | hx) | hx) | hx
    · revert x; decide
    · exact low_ne (hm x hx)
    · revert x; decide
    · revert x; decide
  rcases splitLine more with hno | ⟨a, b, rfl, ha⟩
  · refine ⟨[], lineRun K hm hl hml ht0 (by omega) (cutA K ?_)⟩
    intro x hx
    rcases List.mem_append.1 hx with hx | hx
    · exact hY x hx
    · rcases List.mem_cons.1 hx with rfl | hx
      · decide
      · exact hno x hx
  · have e : txt ms (a ++ 10 :: b) = txt ms a ++ 10 :: b := by simp [txt]
    have hal : a.length ≤ 6000 := by simp at hml; omega
    refine ⟨b, lineRun (fnd := true) K hm hl hal ht0 (by omega) ?_⟩
    rw [e]
    refine cutB K ?_ (.inl ?_) ?_
    · intro x hx
      rcases List.mem_append.1 hx with hx | hx
      · exact hY x hx
      · rcases List.mem_cons.1 hx with rfl | hx
        · decide
        · exact ha x hx
    · obtain ⟨l, e⟩ := txt_cons ms a; rw [e]; simp
    · rw [← e]; omega
end
end Go.Proofs.Gt

