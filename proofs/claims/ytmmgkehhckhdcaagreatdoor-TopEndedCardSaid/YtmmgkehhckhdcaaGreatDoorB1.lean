/- Parts of the proof of the law TopEnded: characters, lines and the maker of a Stomach: B1. Conditions: none. -/
import Derived.Test.YtmmgkehhckhdcaaGreatDoorProg
import Derived.KernelRfl
import Derived.Test.YtmmgkehhckhdcaaGreatDoorA4

set_option linter.unusedVariables false
set_option linter.unusedSimpArgs false

/- The Reader's char at an ordinary character, in whatever memory. -/
namespace Go.Proofs.Gt
open Go Go.Proofs Go.Abs
set_option maxRecDepth 1000000
noncomputable section
noncomputable abbrev P : Program := Tryz.prog

def frC (r cd : Nat) : AFrame := ⟨379, 117, (match PA.fill .nil 0 [pt r 0, pt cd 0] with | .box t => t), [.code (bodyAt P 379 [])], [], false, .normal, none⟩

def evC (at_ b len cap : Nat) (c : UInt8) (cat : Int) (sv : Value) : List (Nat × Ev) :=
  [(14, .loadH [it (Int.ofNat at_)]), (3, .loadH [sl b 0 len cap]), (1, .bin (.bool false)), (8, .loadH [sl b 0 len cap]), (3, .loadH [it (Int.ofNat at_)]), (0, .addr), (0, .loadH [by8 (Int.ofNat c.toNat)]),
   (7, .loadH [sl b 0 len cap]), (3, .loadH [it (Int.ofNat at_)]), (0, .slH sv), (8, .addr), (0, .loadH [it cat]), (0, .bin (.bool true))]

def endC (S : AM) (r cd at_ b len cap : Nat) (c : UInt8) (cat : Int) (sv : Value) : AM := orunS P (evC at_ b len cap c cat sv) 27 ⟨frC r cd, S.frame :: S.callers, S.heap⟩

theorem runC {S : AM} {r cd b at_ len cap : Nat} {c : UInt8} {cat : Int} {sv : Value} : orun P (evC at_ b len cap c cat sv) 27 ⟨frC r cd, S.frame :: S.callers, S.heap⟩ = some (.mk (
    S.heap.load r 5 1 = some [it (Int.ofNat at_)] ∧ S.heap.load r 4 1 = some [sl b 0 len cap] ∧ abin P .geq 3 (it (Int.ofNat at_)) (it (Int.ofNat len)) = some (.bool false) ∧
    S.heap.load r 4 1 = some [sl b 0 len cap] ∧ S.heap.load r 5 1 = some [it (Int.ofNat at_)] ∧ Nat.ble (Nat.succ at_) len = true ∧ S.heap.load b (Nat.add 0 (Nat.mul at_ 1)) 1 = some [by8 (Int.ofNat c.toNat)] ∧
    S.heap.load r 4 1 = some [sl b 0 len cap] ∧ S.heap.load r 5 1 = some [it (Int.ofNat at_)] ∧ sliceA P S.heap 29 (sl b 0 len cap) (some (it (Int.ofNat at_))) none none = some (sv, S.heap) ∧
    Nat.ble (Nat.succ c.toNat) 256 = true ∧ S.heap.load cd (Nat.add 0 (Nat.mul c.toNat 1)) 1 = some [it cat] ∧ abin P .neq 3 (it cat) (it 7) = some (.bool true) ∧ True) (endC S r cd at_ b len cap c cat sv)) := by
  kernel_rfl

theorem endC_eq {S : AM} {r cd b at_ len cap : Nat} {c : UInt8} {cat : Int} {sv : Value} : endC S r cd at_ b len cap c cat sv =
    ⟨⟨379, 117, (endC S r cd at_ b len cap c cat sv).frame.tmps, (endC S r cd at_ b len cap c cat sv).frame.todo, [], true, .normal, none⟩, S.frame :: S.callers, S.heap⟩ := by kernel_rfl

theorem endC_res {S : AM} {r cd b at_ len cap : Nat} {c : UInt8} {cat : Int} {sv : Value} : resultA P 379 (endC S r cd at_ b len cap c cat sv).frame.tmps S.heap = some (.tuple ⟨[by8 (Int.ofNat c.toNat), .bool true]⟩) := by kernel_rfl

theorem enterC {r cd : Nat} : enterA P 379 [pt r 0, pt cd 0] .normal = some (frC r cd) := by kernel_rfl
theorem und29 : P.underlying 29 = some (.slice 5) := by kernel_rfl
theorem size5 : sizeT P 5 = some 1 := by kernel_rfl

theorem charOk (K : ProgOk P) : CharOk P 379 := by
  intro S Q r cd b at_ len cap k ex c cat ho h5 h4 h1 h2 h3 hk hb hc hd hn hf h'
  have hs : sliceA P S.heap 29 (sl b 0 len cap) (some (it (Int.ofNat at_))) none none = some (.slice (some ⟨b, bif Nat.beq cap at_ then 0 else Nat.add 0 (Nat.mul at_ 1), none⟩) (Nat.sub len at_) (Nat.sub cap at_), S.heap) := by
    have e1 : Nat.ble len cap = true := ble_t h2
    have e2 : Nat.ble at_ len = true := ble_t (by omega)
    simp only [sl, it, sliceA, und29, size5, bound, bound2, e1, cond_true, asNat, e2, hk, hb]
  have hm : Nat.add 0 (Nat.mul at_ 1) = at_ := by rw [Nat.add_eq, Nat.mul_eq, Nat.zero_add, Nat.mul_one]
  have hm2 : Nat.add 0 (Nat.mul c.toNat 1) = c.toNat := by rw [Nat.add_eq, Nat.mul_eq, Nat.zero_add, Nat.mul_one]
  have hc8 : c.toNat < 256 := c.toNat_lt
  refine Goes.enter K ho enterC (Goes.trace K (runC (b := b) (at_ := at_) (len := len) (cap := cap) (c := c) (cat := cat))
    ⟨h5, h4, geq_f (by simp only [Int.ofNat_eq_natCast]; omega), h4, h5, ble_t h1, by rw [hm]; exact hc, h4, h5, hs, ble_t hc8, by rw [hm2]; exact hd, neq_t hn, trivial⟩ ?_)
  rw [endC_eq]
  exact Goes.leave K (opS_ret ho) endC_res hf h'
end
end Go.Proofs.Gt

/- strings.Cut at a line's end, strings.TrimRight of blanks, over whatever text. -/
namespace Go.Proofs.Gt
open Go Go.Proofs Go.Abs
set_option maxRecDepth 1000000
noncomputable section

def st (l : List UInt8) : Value := .string ⟨⟨l⟩⟩

def frB (f nt : Nat) (args : List Value) : AFrame := ⟨f, nt, (match PA.fill .nil 0 args with | .box t => t), [.code (bodyAt P f [])], [], false, .normal, none⟩

theorem und9 : P.underlying 9 = some .string := by kernel_rfl

/-! ## Cut -/

theorem enterCut {s : List UInt8} : enterA P 501 [st s, sb [10]] .normal = some (frB 501 13 [st s, sb [10]]) := by kernel_rfl

theorem cutRunA {s : List UInt8} (S : AM) : orunR P [(42, .bin (.bool false)), (25, .ibs (-1))] 34 ⟨frB 501 13 [st s, sb [10]], S.frame :: S.callers, S.heap⟩ =
    some (.mk (abin P .eql 9 (sb [10]) (st s) = some (.bool false) ∧ indexByteA s 10 0 = -1 ∧ True) (.tuple ⟨[st s, sb [], .bool false]⟩) (S.frame :: S.callers) S.heap) := by kernel_rfl

theorem cutRunB {s a b : List UInt8} {n : Nat} (S : AM) : orunR P [(42, .bin (.bool false)), (25, .ibs (Int.ofNat n)), (20, .slS a), (4, .bin (it (Int.ofNat (Nat.succ n)))), (0, .slS b)] 14 ⟨frB 501 13 [st s, sb [10]], S.frame :: S.callers, S.heap⟩ =
    some (.mk (abin P .eql 9 (sb [10]) (st s) = some (.bool false) ∧ indexByteA s 10 0 = Int.ofNat n ∧ sliceA P S.heap 9 (st s) none (some (it (Int.ofNat n))) none = some (st a, S.heap) ∧
      abin P .add 3 (it (Int.ofNat n)) (it 1) = some (it (Int.ofNat (Nat.succ n))) ∧ sliceA P S.heap 9 (st s) (some (it (Int.ofNat (Nat.succ n)))) none none = some (st b, S.heap) ∧ True) (.tuple ⟨[st a, st b, .bool true]⟩) (S.frame :: S.callers) S.heap) := by kernel_rfl

/-- A text without a line's end. -/
theorem cutA (K : ProgOk P) {s : List UInt8} (hs : ∀ x ∈ s, x ≠ 10) : CallV P 501 [st s, sb [10]] (.tuple ⟨[st s, sb [], .bool false]⟩) :=
  callV_run K enterCut cutRunA ⟨str_eql_f (by rintro rfl; exact hs 10 (List.mem_singleton.2 rfl) rfl), indexByteA_none fun x hx h => hs x hx (UInt8.toNat_inj.1 h), trivial⟩

/-- A text that goes on behind a line's end. -/
theorem cutB (K : ProgOk P) {a b : List UInt8} (ha : ∀ x ∈ a, x ≠ 10) (hne : a ≠ [] ∨ b ≠ []) (hl : (a ++ 10 :: b).length < 2 ^ 63) : CallV P 501 [st (a ++ 10 :: b), sb [10]] (.tuple ⟨[st a, st b, .bool true]⟩) := by
  intro S Q ho hf h'
  have hlen : a.length + 1 ≤ (a ++ 10 :: b).length := by simp
  refine Goes.enter K ho enterCut (Goes.retR K (cutRunB (n := a.length) S) ⟨str_eql_f ?_, ?_, slS_hi und9 (by omega) ?_, add_ok ?_ (by simp only [Int.ofNat_eq_natCast]; omega) (by simp only [Int.ofNat_eq_natCast]; omega), slS_lo und9 hlen ?_, trivial⟩ (opS_ret ho) hf h')
  · intro h
    cases a with
    | nil => simp at h; simp [h] at hne
    | cons x a =>
      simp only [List.cons_append, List.map, List.cons.injEq] at h
      have := h.2
      simp at this
  · have := indexByteA_at (c := 10) (r := b) (l := a) (i := 0) ha
    simpa using this
  · simp
  · simp [Int.ofNat_eq_natCast]
  · simp
end
end Go.Proofs.Gt

/- strings.TrimRight of blanks, over whatever text. -/
namespace Go.Proofs.Gt
open Go Go.Proofs Go.Abs
set_option maxRecDepth 1000000
noncomputable section

/-- A text without its last blanks. -/
def trimB (s : List UInt8) : List UInt8 := (s.reverse.dropWhile (fun x => x == 32)).reverse

theorem trimB_blank (s : List UInt8) : trimB (s ++ [32]) = trimB s := by
  simp only [trimB, List.reverse_append, List.reverse_cons, List.reverse_nil, List.nil_append, List.singleton_append]
  rw [List.dropWhile_cons_of_pos (by rfl)]
theorem trimB_other (s : List UInt8) {c : UInt8} (hc : c ≠ 32) : trimB (s ++ [c]) = s ++ [c] := by
  simp only [trimB, List.reverse_append, List.reverse_cons, List.reverse_nil, List.nil_append, List.singleton_append]
  rw [List.dropWhile_cons_of_neg (by simpa using hc)]
  simp

def hd605 (s : List UInt8) (cs : List AFrame) (h : AHeap) : AM := match oslim P [] 7 [0, 1] ⟨frB 605 23 [st s, by8 32], cs, h⟩ with
  | some (.mk _ S) => S
  | none => ⟨frB 605 23 [st s, by8 32], cs, h⟩

theorem in605 {s : List UInt8} {cs : List AFrame} {h : AHeap} : oslim P [] 7 [0, 1] ⟨frB 605 23 [st s, by8 32], cs, h⟩ = some (.mk True (hd605 s cs h)) := by kernel_rfl

theorem round605 {s s2 : List UInt8} {n : Nat} {cs : List AFrame} {h : AHeap} : oslim P [(5, .bin (.bool true)), (4, .bin (it (Int.ofNat n))), (0, .index 32), (1, .bin (.bool true)), (9, .bin (it (Int.ofNat n))), (0, .slS s2)] 4 [0, 1] (hd605 s cs h) =
    some (.mk (abin P .gtr 3 (it (Int.ofNat (lengthL s))) (it 0) = some (.bool true) ∧ abin P .sub 3 (it (Int.ofNat (lengthL s))) (it 1) = some (it (Int.ofNat n)) ∧ lnth s n = some 32 ∧
      abin P .eql 5 (by8 (Int.ofNat (UInt8.toNat 32))) (by8 32) = some (.bool true) ∧ abin P .sub 3 (it (Int.ofNat (lengthL s))) (it 1) = some (it (Int.ofNat n)) ∧ sliceA P h 9 (st s) none (some (it (Int.ofNat n))) none = some (st s2, h) ∧ True) (hd605 s2 cs h)) := by kernel_rfl

theorem out605a {s : List UInt8} {cs : List AFrame} {h : AHeap} : orunR P [(5, .bin (.bool false))] 18 (hd605 s cs h) = some (.mk (abin P .gtr 3 (it (Int.ofNat (lengthL s))) (it 0) = some (.bool false) ∧ True) (st s) cs h) := by kernel_rfl

theorem out605b {s : List UInt8} {n : Nat} {c : UInt8} {cs : List AFrame} {h : AHeap} : orunR P [(5, .bin (.bool true)), (4, .bin (it (Int.ofNat n))), (0, .index c), (1, .bin (.bool false))] 10 (hd605 s cs h) =
    some (.mk (abin P .gtr 3 (it (Int.ofNat (lengthL s))) (it 0) = some (.bool true) ∧ abin P .sub 3 (it (Int.ofNat (lengthL s))) (it 1) = some (it (Int.ofNat n)) ∧ lnth s n = some c ∧
      abin P .eql 5 (by8 (Int.ofNat c.toNat)) (by8 32) = some (.bool false) ∧ True) (st s) cs h) := by kernel_rfl

theorem trim605 (K : ProgOk P) {S : AM} {Q : AM → Prop} {h : AHeap} (h0 : S.frame.ret = false) : ∀ (n : Nat) (s : List UInt8), s.length = n → n < 2 ^ 62 → (finS P S (st (trimB s)) h).isSome = true → Goes P (fin1 P S (st (trimB s)) h) Q → Goes P (hd605 s (S.frame :: S.callers) h) Q
  | 0, s, hn, _, hf, h' => by
    cases s with
    | nil => exact Goes.retR K out605a ⟨by kernel_rfl, trivial⟩ h0 hf h'
    | cons x s => simp at hn
  | n + 1, s, hn, hb, hf, h' => by
    have hne : s ≠ [] := by rintro rfl; simp at hn
    obtain ⟨s2, c, rfl⟩ : ∃ s2 c, s = s2 ++ [c] := ⟨s.dropLast, s.getLast hne, (List.dropLast_concat_getLast hne).symm⟩
    have hn2 : s2.length = n := by simpa using hn
    have e1 : lengthL (s2 ++ [c]) = n + 1 := by rw [lengthL_eq]; exact hn
    have e2 : lnth (s2 ++ [c]) n = some c := by rw [lnth_eq, ← hn2]; simp
    have g1 : abin P .gtr 3 (it (Int.ofNat (lengthL (s2 ++ [c])))) (it 0) = some (.bool true) := by rw [e1]; exact gtr_t (by simp only [Int.ofNat_eq_natCast]; omega)
    have g2 : abin P .sub 3 (it (Int.ofNat (lengthL (s2 ++ [c])))) (it 1) = some (it (Int.ofNat n)) := by rw [e1]; exact sub_ok (by simp only [Int.ofNat_eq_natCast]; omega) (by simp only [Int.ofNat_eq_natCast]; omega) (by simp only [Int.ofNat_eq_natCast]; omega)
    by_cases hc : c = 32
    · subst hc
      rw [trimB_blank] at hf h'
      exact Goes.oslim K (round605 (n := n)) ⟨g1, g2, e2, eql_t rfl, g2, slS_hi und9 (by simp; omega) (by rw [← hn2]; simp), trivial⟩ (trim605 K h0 n s2 hn2 (by omega) hf h')
    · rw [trimB_other _ hc] at hf h'
      refine Goes.retR K (out605b (n := n) (c := c)) ⟨g1, g2, e2, eql_f ?_, trivial⟩ h0 hf h'
      intro h
      apply hc
      apply UInt8.toNat_inj.1
      simp only [Int.ofNat_eq_natCast] at h
      have : (32 : UInt8).toNat = 32 := rfl
      omega

theorem enterTrim {s : List UInt8} : enterA P 502 [st s, sb [32]] .normal = some (frB 502 37 [st s, sb [32]]) := by kernel_rfl
theorem enter605 {s : List UInt8} : enterA P 605 [st s, by8 32] .normal = some (frB 605 23 [st s, by8 32]) := by kernel_rfl

/-- A call from within a call: the callee's frame is gone behind it. -/
theorem runTrimA (S : AM) : orunR P [(8, .bin (.bool true))] 12 ⟨frB 502 37 [sb [], sb [32]], S.frame :: S.callers, S.heap⟩ = some (.mk (abin P .eql 9 (sb []) (sb []) = some (.bool true) ∧ True) (sb []) (S.frame :: S.callers) S.heap) := by kernel_rfl

def to605 (s : List UInt8) (S : AM) : AM := orunS P [(8, .bin (.bool false))] 25 ⟨frB 502 37 [st s, sb [32]], S.frame :: S.callers, S.heap⟩
theorem runTrimB {s : List UInt8} (S : AM) : orun P [(8, .bin (.bool false))] 25 ⟨frB 502 37 [st s, sb [32]], S.frame :: S.callers, S.heap⟩ = some (.mk (abin P .eql 9 (st s) (sb []) = some (.bool false) ∧ True) (to605 s S)) := by kernel_rfl
theorem to605op {s : List UInt8} {S : AM} : opS P (to605 s S) = some (.enter 605 [st s, by8 32]) := by kernel_rfl
theorem to605fin {s u : List UInt8} {S : AM} : (finS P (to605 s S) (st u) (to605 s S).heap).isSome = true := by kernel_rfl
theorem to605ret {s u : List UInt8} {S : AM} : orunR P [] 3 (fin1 P (to605 s S) (st u) (to605 s S).heap) = some (.mk True (st u) (S.frame :: S.callers) S.heap) := by kernel_rfl

theorem trimRight (K : ProgOk P) {s : List UInt8} (hl : s.length < 2 ^ 62) : CallV P 502 [st s, sb [32]] (st (trimB s)) := by
  intro S Q ho hf h'
  refine Goes.enter K ho enterTrim ?_
  cases s with
  | nil => exact Goes.retR K (runTrimA S) ⟨str_eql_t [], trivial⟩ (opS_ret ho) hf h'
  | cons x s =>
    refine Goes.trace K (runTrimB S) ⟨str_eql_f (by simp), trivial⟩ (Goes.enter K to605op enter605 (Goes.oslim K in605 trivial (trim605 K (opS_ret to605op) _ _ rfl hl to605fin ?_)))
    exact Goes.retR K to605ret trivial (opS_ret ho) hf h'
end
end Go.Proofs.Gt

