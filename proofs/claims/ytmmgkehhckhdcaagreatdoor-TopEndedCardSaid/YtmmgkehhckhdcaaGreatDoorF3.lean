/- Part of the proof of the law TopEnded: the run as a whole: F3. Conditions: none. -/
import Derived.Test.YtmmgkehhckhdcaaGreatDoorL0
import Derived.Test.YtmmgkehhckhdcaaGreatDoorF2

set_option linter.unusedVariables false
set_option linter.unusedSimpArgs false

/- letters() of whatever text. -/
namespace Go.Proofs.Gt
open Go Go.Proofs Go.Abs
set_option maxRecDepth 1000000
noncomputable section

def lowC (c : UInt8) : UInt8 := UInt8.ofNat (97 + c.toNat % 26)
/-- What letters() gives, behind its q. -/
def lowB (w : List UInt8) : List UInt8 := (w.take 300).map lowC

theorem lowC_nat (c : UInt8) : (lowC c).toNat = 97 + c.toNat % 26 := by
  unfold lowC
  rw [UInt8.toNat_ofNat']
  exact Nat.mod_eq_of_lt (by omega)

theorem rem_tab : (List.range 256).map (fun n => abin P .rem 5 (by8 (Int.ofNat n)) (by8 26)) = (List.range 256).map (fun n => some (by8 (Int.ofNat (n % 26)))) := by kernel_rfl
theorem add_tab : (List.range 26).map (fun n => abin P .add 5 (by8 97) (by8 (Int.ofNat n))) = (List.range 26).map (fun n => some (by8 (Int.ofNat (97 + n)))) := by kernel_rfl

theorem rem_low (c : UInt8) : abin P .rem 5 (by8 (Int.ofNat c.toNat)) (by8 26) = some (by8 (Int.ofNat (c.toNat % 26))) := by
  have hc : c.toNat < 256 := c.toNat_lt
  have h : ((List.range 256).map (fun n => abin P .rem 5 (by8 (Int.ofNat n)) (by8 26)))[c.toNat]? = ((List.range 256).map (fun n => some (by8 (Int.ofNat (n % 26)))))[c.toNat]? := by rw [rem_tab]
  rw [List.getElem?_map, List.getElem?_map, List.getElem?_range hc] at h
  simpa only [Option.map_some, Option.some.injEq] using h

theorem add_low (c : UInt8) : abin P .add 5 (by8 97) (by8 (Int.ofNat (c.toNat % 26))) = some (by8 (Int.ofNat (lowC c).toNat)) := by
  have hc : c.toNat % 26 < 26 := Nat.mod_lt _ (by omega)
  have h : ((List.range 26).map (fun n => abin P .add 5 (by8 97) (by8 (Int.ofNat n))))[c.toNat % 26]? = ((List.range 26).map (fun n => some (by8 (Int.ofNat (97 + n)))))[c.toNat % 26]? := by rw [add_tab]
  rw [List.getElem?_map, List.getElem?_map, List.getElem?_range hc] at h
  rw [lowC_nat]
  simpa only [Option.map_some, Option.some.injEq] using h

def LW (w : List UInt8) (i : Nat) (d : List UInt8) (ex : Bool) : AM :=
  ⟨⟨4, 26, slotsL [(0, st w), (3, sl 1 0 (Nat.succ i) (Nat.succ i)), (4, it (Int.ofNat i))], [.code (bodyAt P 4 [1, 1, 0, 1, 0, 0, 0, 0]), .code (bodyAt P 4 [1, 1, 0, 1, 0, 0, 0, 1]), .code (bodyAt P 4 [1, 1, 0, 1, 0, 0, 1]), .inLoop (bodyAt P 4 [1, 1, 0, 1, 0, 0]), .inBlock 0, .code (bodyAt P 4 [1, 1, 1])], [], false, .normal, none⟩,
  [],
  heapL [daob0,
   .cells (.lst (ofBytes d)) (Nat.mul (Nat.succ i) 1) 5 1 ex true none]⟩

def frW (w : List UInt8) : AFrame := frB 4 26 [st w]
theorem enterW {w : List UInt8} : enterA P 4 [st w] .normal = some (frW w) := by kernel_rfl

theorem startW (K : ProgOk P) {w : List UInt8} {Q : AM → Prop} (h : Goes P (LW w 0 [113] true) Q) : Goes P ⟨frW w, [], heapL [daob0]⟩ Q :=
  Goes.seg2 K (l := []) (m := 18) (keep := [(0, false), (1, false)]) (top := [0, 3, 4]) (slots := []) (p := True ∧ True) (by kernel_rfl) ⟨trivial, trivial⟩ h

variable {w d : List UInt8} {i : Nat} {c : UInt8}

def lowProps (w d : List UInt8) (i : Nat) (c : UInt8) : Prop := abin P .add 3 (it (Int.ofNat i)) (it 1) = some (it (Int.ofNat (Nat.succ i)))

theorem roundW1 (K : ProgOk P) {Q : AM → Prop} (hi : i < w.length) (h3 : i < 300) (hc : w[i]? = some c) (hd : d.length = i + 1) (h : Goes P (LW w (Nat.succ i) (d ++ [lowC c]) false) Q) : Goes P (LW w i d true) Q :=
  Goes.seg2 K (l := [(4, .bin (.bool true)), (2, .bin (.bool true)), (10, .index c), (0, .bin (by8 (Int.ofNat (c.toNat % 26)))), (0, .bin (by8 (Int.ofNat (lowC c).toNat))), (1, .app [by8 (Int.ofNat (lowC c).toNat)] 1 (ofBytes d) (ofBytes (d ++ [lowC c])) (Nat.succ (Nat.succ i)) true), (5, .bin (it (Int.ofNat (Nat.succ i))))]) (m := 5)
    (keep := [(0, false), (3, true)]) (top := [0, 3, 4]) (slots := [])
    (p := (abin P .lss 3 (it (Int.ofNat i)) (it (Int.ofNat (lengthL w))) = some (.bool true) ∧ abin P .lss 3 (it (Int.ofNat i)) (it 300) = some (.bool true) ∧ lnth w i = some c ∧
      abin P .rem 5 (by8 (Int.ofNat c.toNat)) (by8 26) = some (by8 (Int.ofNat (c.toNat % 26))) ∧ abin P .add 5 (by8 97) (by8 (Int.ofNat (c.toNat % 26))) = some (by8 (Int.ofNat (lowC c).toNat)) ∧
      (((Nat.ble (Nat.add 0 (Nat.mul 1 1)) 1 = true ∧ (PA.lst [by8 (Int.ofNat (lowC c).toNat)]).loadN 0 (Nat.mul 1 1) = some [by8 (Int.ofNat (lowC c).toNat)]) ∧ 1 = 1) ∧ (Nat.ble (Nat.add 0 (Nat.mul (Nat.succ i) 1)) (Nat.mul (Nat.succ i) 1) = true ∧ (PA.lst (ofBytes d)).loadN 0 (Nat.mul (Nat.succ i) 1) = some (ofBytes d)) ∧ Nat.ble (Nat.succ (Nat.succ i)) (Nat.succ i) = false ∧ oneL [by8 (Int.ofNat (lowC c).toNat)] = true ∧ Nat.ble (Nat.succ (Nat.succ i)) 1048576 = true ∧ ofBytes d ++ [by8 (Int.ofNat (lowC c).toNat)] = ofBytes (d ++ [lowC c]) ∧ Nat.add (Nat.succ i) 1 = Nat.succ (Nat.succ i)) ∧
      abin P .add 3 (it (Int.ofNat i)) (it 1) = some (it (Int.ofNat (Nat.succ i))) ∧ True) ∧ (PlainO (.cells (.lst (ofBytes (d ++ [lowC c]))) (Nat.mul (Nat.succ (Nat.succ i)) 1) 5 1 false true none) ∧ True)) (by kernel_rfl)
    ⟨⟨lss_t (by rw [lengthL_eq]; simp only [Int.ofNat_eq_natCast]; omega), lss_t (by simp only [Int.ofNat_eq_natCast]; omega), by rw [lnth_eq]; exact hc, rem_low c, add_low c, ⟨⟨⟨rfl, rfl⟩, rfl⟩, ldAll (by rw [ofBytes_length, hd, Nat.mul_one]), ble_f (by omega), rfl, ble_t (by omega), (ofBytes_append d [lowC c]).symm, rfl⟩,
      add_ok (by simp only [Int.ofNat_eq_natCast]; omega) (by simp only [Int.ofNat_eq_natCast]; omega) (by simp only [Int.ofNat_eq_natCast]; omega), trivial⟩, plainC_ofBytes _ _, trivial⟩ h

theorem roundW2 (K : ProgOk P) {Q : AM → Prop} (hi : i < w.length) (h3 : i < 300) (hc : w[i]? = some c) (hd : d.length = i + 1) (h : Goes P (LW w (Nat.succ i) (d ++ [lowC c]) false) Q) : Goes P (LW w i d false) Q :=
  Goes.seg2 K (l := [(4, .bin (.bool true)), (2, .bin (.bool true)), (10, .index c), (0, .bin (by8 (Int.ofNat (c.toNat % 26)))), (0, .bin (by8 (Int.ofNat (lowC c).toNat))), (1, .app [by8 (Int.ofNat (lowC c).toNat)] 1 (ofBytes d) (ofBytes (d ++ [lowC c])) (Nat.succ (Nat.succ i)) true), (5, .bin (it (Int.ofNat (Nat.succ i))))]) (m := 5)
    (keep := [(0, false), (3, true)]) (top := [0, 3, 4]) (slots := [])
    (p := (abin P .lss 3 (it (Int.ofNat i)) (it (Int.ofNat (lengthL w))) = some (.bool true) ∧ abin P .lss 3 (it (Int.ofNat i)) (it 300) = some (.bool true) ∧ lnth w i = some c ∧
      abin P .rem 5 (by8 (Int.ofNat c.toNat)) (by8 26) = some (by8 (Int.ofNat (c.toNat % 26))) ∧ abin P .add 5 (by8 97) (by8 (Int.ofNat (c.toNat % 26))) = some (by8 (Int.ofNat (lowC c).toNat)) ∧
      (((Nat.ble (Nat.add 0 (Nat.mul 1 1)) 1 = true ∧ (PA.lst [by8 (Int.ofNat (lowC c).toNat)]).loadN 0 (Nat.mul 1 1) = some [by8 (Int.ofNat (lowC c).toNat)]) ∧ 1 = 1) ∧ (Nat.ble (Nat.add 0 (Nat.mul (Nat.succ i) 1)) (Nat.mul (Nat.succ i) 1) = true ∧ (PA.lst (ofBytes d)).loadN 0 (Nat.mul (Nat.succ i) 1) = some (ofBytes d)) ∧ Nat.ble (Nat.succ (Nat.succ i)) (Nat.succ i) = false ∧ oneL [by8 (Int.ofNat (lowC c).toNat)] = true ∧ Nat.ble (Nat.succ (Nat.succ i)) 1048576 = true ∧ ofBytes d ++ [by8 (Int.ofNat (lowC c).toNat)] = ofBytes (d ++ [lowC c]) ∧ Nat.add (Nat.succ i) 1 = Nat.succ (Nat.succ i) ∧ Nat.beq (Nat.succ i) (Nat.succ i) = true) ∧
      abin P .add 3 (it (Int.ofNat i)) (it 1) = some (it (Int.ofNat (Nat.succ i))) ∧ True) ∧ (PlainO (.cells (.lst (ofBytes (d ++ [lowC c]))) (Nat.mul (Nat.succ (Nat.succ i)) 1) 5 1 false true none) ∧ True)) (by kernel_rfl)
    ⟨⟨lss_t (by rw [lengthL_eq]; simp only [Int.ofNat_eq_natCast]; omega), lss_t (by simp only [Int.ofNat_eq_natCast]; omega), by rw [lnth_eq]; exact hc, rem_low c, add_low c, ⟨⟨⟨rfl, rfl⟩, rfl⟩, ldAll (by rw [ofBytes_length, hd, Nat.mul_one]), ble_f (by omega), rfl, ble_t (by omega), (ofBytes_append d [lowC c]).symm, rfl, beqT _⟩,
      add_ok (by simp only [Int.ofNat_eq_natCast]; omega) (by simp only [Int.ofNat_eq_natCast]; omega) (by simp only [Int.ofNat_eq_natCast]; omega), trivial⟩, plainC_ofBytes _ _, trivial⟩ h

/-! ## The end -/

def evW1 (i : Nat) (d : List UInt8) : List (Nat × Ev) := [(4, .bin (.bool false)), (10, .convB (ofBytes d) d)]
def evW2 (i : Nat) (d : List UInt8) : List (Nat × Ev) := [(4, .bin (.bool true)), (2, .bin (.bool false)), (7, .convB (ofBytes d) d)]
def cvP (i : Nat) (d : List UInt8) : Prop := (Nat.ble (Nat.add 0 (Nat.succ i)) (Nat.mul (Nat.succ i) 1) = true ∧ (PA.lst (ofBytes d)).loadN 0 (Nat.succ i) = some (ofBytes d)) ∧ bytesOf (ofBytes d) = some d
theorem cvP_ok (hd : d.length = i + 1) : cvP i d := ⟨⟨ble_t (by show 0 + (i + 1) ≤ (i + 1) * 1; omega), loadN_lst (by rw [ofBytes_length]; omega) (by rw [List.drop_zero]; exact (List.take_of_length_le (by rw [ofBytes_length]; omega)).symm)⟩, bytesOf_of d⟩

def endW1 (w : List UInt8) (i : Nat) (d : List UInt8) (ex : Bool) : AM := orunS P (evW1 i d) 3 (LW w i d ex)
def endW2 (w : List UInt8) (i : Nat) (d : List UInt8) (ex : Bool) : AM := orunS P (evW2 i d) 3 (LW w i d ex)
theorem runW1 {ex : Bool} : orun P (evW1 i d) 3 (LW w i d ex) = some (.mk (abin P .lss 3 (it (Int.ofNat i)) (it (Int.ofNat (lengthL w))) = some (.bool false) ∧ cvP i d ∧ True) (endW1 w i d ex)) := by kernel_rfl
theorem runW2 {ex : Bool} : orun P (evW2 i d) 3 (LW w i d ex) = some (.mk (abin P .lss 3 (it (Int.ofNat i)) (it (Int.ofNat (lengthL w))) = some (.bool true) ∧ abin P .lss 3 (it (Int.ofNat i)) (it 300) = some (.bool false) ∧ cvP i d ∧ True) (endW2 w i d ex)) := by kernel_rfl
theorem retW1 {ex : Bool} : Abs.Returns P 4 (st d) (LW w i d ex).heap (endW1 w i d ex) := ⟨by kernel_rfl, by kernel_rfl, by kernel_rfl, by kernel_rfl, by kernel_rfl, by kernel_rfl, by kernel_rfl⟩
theorem retW2 {ex : Bool} : Abs.Returns P 4 (st d) (LW w i d ex).heap (endW2 w i d ex) := ⟨by kernel_rfl, by kernel_rfl, by kernel_rfl, by kernel_rfl, by kernel_rfl, by kernel_rfl, by kernel_rfl⟩
end
end Go.Proofs.Gt

/- letters() as a whole; first() of a text. -/
namespace Go.Proofs.Gt
open Go Go.Proofs Go.Abs
set_option maxRecDepth 1000000
noncomputable section

theorem lowLoop (K : ProgOk P) {w : List UInt8} : ∀ (k i : Nat) (d : List UInt8) (ex : Bool), min w.length 300 = i + k → d = 113 :: (w.take i).map lowC → ∃ h2, Goes P (LW w i d ex) (Abs.Returns P 4 (st (113 :: lowB w)) h2)
  | 0, i, d, ex, hk, hd => by
    have hl : d.length = i + 1 := by rw [hd]; simp; omega
    have he : d = 113 :: lowB w := by
      rw [hd]
      unfold lowB
      congr 2
      rcases Nat.lt_or_ge 300 w.length with h | h
      · have : i = 300 := by omega
        rw [this]
      · rw [List.take_of_length_le (by omega), List.take_of_length_le h]
    refine ⟨(LW w i d ex).heap, ?_⟩
    rw [← he]
    by_cases h : i < w.length
    · exact Goes.trace K runW2 ⟨lss_t (by rw [lengthL_eq]; simp only [Int.ofNat_eq_natCast]; omega), lss_f (by simp only [Int.ofNat_eq_natCast]; omega), cvP_ok hl, trivial⟩ (Goes.done retW2)
    · exact Goes.trace K runW1 ⟨lss_f (by rw [lengthL_eq]; simp only [Int.ofNat_eq_natCast]; omega), cvP_ok hl, trivial⟩ (Goes.done retW1)
  | k + 1, i, d, ex, hk, hd => by
    have hl : d.length = i + 1 := by rw [hd]; simp; omega
    have hi : i < w.length := by omega
    have h3 : i < 300 := by omega
    have hc : w[i]? = some w[i] := List.getElem?_eq_getElem hi
    have hd2 : d ++ [lowC w[i]] = 113 :: (w.take (i + 1)).map lowC := by
      rw [hd, List.take_add_one, hc, List.map_append]; rfl
    obtain ⟨h2, hg⟩ := lowLoop K k (i + 1) (d ++ [lowC w[i]]) false (by omega) hd2
    refine ⟨h2, ?_⟩
    cases ex with
    | true => exact roundW1 K hi h3 hc hl hg
    | false => exact roundW2 K hi h3 hc hl hg

/-- letters(), called in whatever memory. -/
theorem letterCall (K : ProgOk P) {w : List UInt8} {h : AHeap} (hb : h.objs.get 0 = some daob0) : CallOk P 4 [st w] h (st (113 :: lowB w)) ⟨h.objs, h.next + 0, h.fams⟩ := by
  obtain ⟨h2, hg⟩ := lowLoop K (min w.length 300) 0 [113] true (w := w) (by omega) (by simp)
  exact callOk_base (b0 := daob0) (keep := []) (h2 := h2) enterW (startW K hg) rfl rfl (by kernel_rfl) objs0 rfl rfl rfl (by kernel_rfl) hb rfl rfl rfl (fun id o hm _ => by cases hm) rfl rfl

theorem lowB_low (w : List UInt8) : ∀ c ∈ lowB w, isLow c := by
  intro c hc
  unfold lowB at hc
  obtain ⟨x, _, rfl⟩ := List.mem_map.1 hc
  unfold isLow
  rw [lowC_nat]
  have : x.toNat % 26 < 26 := Nat.mod_lt _ (by omega)
  omega
theorem lowB_len (w : List UInt8) : (lowB w).length < 900 := by
  unfold lowB
  rw [List.length_map, List.length_take]
  omega
end
end Go.Proofs.Gt

/- first() of a text; both() of two runs of the law's text. -/
namespace Go.Proofs.Gt
open Go Go.Proofs Go.Abs
set_option maxRecDepth 1000000
noncomputable section

/-! ## first -/

theorem enterF {s : List UInt8} : enterA P 8 [st s] .normal = some (frB 8 18 [st s]) := by kernel_rfl
def todo8 : List AItem := match oslim P [] 13 [0, 3] ⟨frB 8 18 [sb []], [], ⟨.nil, 0, .nil⟩⟩ with
  | some (.mk _ S) => S.frame.todo
  | none => []
def hd8 (s : List UInt8) (i : Nat) (cs : List AFrame) (h : AHeap) : AM := ⟨⟨8, 18, slotsL [(0, st s), (3, it (Int.ofNat i))], todo8, [], false, .normal, none⟩, cs, h⟩

theorem in8 {s : List UInt8} {cs : List AFrame} {h : AHeap} : oslim P [] 13 [0, 3] ⟨frB 8 18 [st s], cs, h⟩ = some (.mk True (hd8 s 0 cs h)) := by kernel_rfl

theorem round8 {s : List UInt8} {i : Nat} {c : UInt8} {cs : List AFrame} {h : AHeap} : oslim P [(4, .bin (.bool true)), (9, .index c), (0, .bin (.bool false)), (6, .bin (it (Int.ofNat (Nat.succ i))))] 5 [0, 3] (hd8 s i cs h) =
    some (.mk (abin P .lss 3 (it (Int.ofNat i)) (it (Int.ofNat (lengthL s))) = some (.bool true) ∧ lnth s i = some c ∧ abin P .eql 5 (by8 (Int.ofNat c.toNat)) (by8 10) = some (.bool false) ∧
      abin P .add 3 (it (Int.ofNat i)) (it 1) = some (it (Int.ofNat (Nat.succ i))) ∧ True) (hd8 s (Nat.succ i) cs h)) := by kernel_rfl

theorem out8 {s a : List UInt8} {i : Nat} {cs : List AFrame} {h : AHeap} : orunR P [(4, .bin (.bool true)), (9, .index 10), (0, .bin (.bool true)), (6, .slS a)] 3 (hd8 s i cs h) =
    some (.mk (abin P .lss 3 (it (Int.ofNat i)) (it (Int.ofNat (lengthL s))) = some (.bool true) ∧ lnth s i = some 10 ∧ abin P .eql 5 (by8 (Int.ofNat (UInt8.toNat 10))) (by8 10) = some (.bool true) ∧
      sliceA P h 9 (st s) none (some (it (Int.ofNat i))) none = some (st a, h) ∧ True) (st a) cs h) := by kernel_rfl

theorem loop8 (K : ProgOk P) {S : AM} {Q : AM → Prop} {h : AHeap} {a b : List UInt8} (h0 : S.frame.ret = false) (ha : ∀ c ∈ a, c ≠ 10) (hl : a.length < 100000) (hf : (finS P S (st a) h).isSome = true) (h' : Goes P (fin1 P S (st a) h) Q) :
    ∀ (r d : List UInt8) (i : Nat), a = d ++ r → i = d.length → Goes P (hd8 (a ++ 10 :: b) i (S.frame :: S.callers) h) Q
  | [], d, i, hd, hi => by
    have e : i = a.length := by rw [hd, hi]; simp
    have hlt : i < (a ++ 10 :: b).length := by rw [e]; simp
    refine Goes.retR K (out8 (a := a)) ⟨lss_t (by rw [lengthL_eq]; simp only [Int.ofNat_eq_natCast]; omega), by rw [lnth_eq, e]; simp, eql_t rfl, slS_hi und9 (by omega) (by rw [e]; simp), trivial⟩ h0 hf h'
  | c :: r, d, i, hd, hi => by
    have hc : c ≠ 10 := ha c (by rw [hd]; simp)
    have hlt : i < (a ++ 10 :: b).length := by rw [hd, hi]; simp
    have hil : i < a.length := by rw [hd, hi]; simp
    refine Goes.oslim K (round8 (c := c)) ⟨lss_t (by rw [lengthL_eq]; simp only [Int.ofNat_eq_natCast]; omega), by rw [lnth_eq, List.getElem?_append_left hil, hd, hi]; simp, eql_f (fun hh => hc ?_), add_ok (by simp only [Int.ofNat_eq_natCast]; omega) (by simp only [Int.ofNat_eq_natCast]; omega) (by simp only [Int.ofNat_eq_natCast]; omega), trivial⟩
      (loop8 K h0 ha hl hf h' r (d ++ [c]) _ (by rw [hd]; simp) (by simp [hi]))
    apply UInt8.toNat_inj.1
    simp only [Int.ofNat_eq_natCast] at hh
    have : (10 : UInt8).toNat = 10 := rfl
    omega

/-- The first line of a text. -/
theorem firstV (K : ProgOk P) {a b : List UInt8} (ha : ∀ c ∈ a, c ≠ 10) (hl : a.length < 100000) : CallV P 8 [st (a ++ 10 :: b)] (st a) := by
  intro S Q ho hf h'
  exact Goes.enter K ho enterF (Goes.oslim K in8 trivial (loop8 K (opS_ret ho) ha hl hf h' a [] 0 rfl rfl))

/-! ## both -/

def dviB : List UInt8 := [247, 2, 1, 131, 146, 192, 28, 59, 0, 0, 0, 0, 3, 232, 6, 103, 97, 108, 108, 101, 121, 139, 0, 0, 0, 0, 0, 0, 0, 0, 0, 0, 0, 0, 0, 0, 0, 0, 0, 0, 0, 0, 0, 0, 0, 0, 0, 0, 0, 0, 0, 0, 0, 0, 0, 0, 0, 0, 0, 0, 0, 0, 255, 255, 255, 255, 140, 248, 0, 0, 0, 21, 1, 131, 146, 192, 28, 59, 0, 0, 0, 0, 3, 232, 1, 244, 0, 0, 0, 0, 0, 0, 0, 0, 0, 1, 249, 0, 0, 0, 67, 2, 223, 223, 223, 223, 223, 223]
def argsB (ms m1 m2 : List UInt8) : List Value := [jobV (txt ms m1), jobV (txt ms m2)]
def frBo (ms m1 m2 : List UInt8) : AFrame := frB 9 29 (argsB ms m1 m2)
theorem enterBo {ms m1 m2 : List UInt8} : enterA P 9 (argsB ms m1 m2) .normal = some (frBo ms m1 m2) := by kernel_rfl

variable {ms m1 m2 F : List UInt8} {stp : Int}

def Bo1 (ms m1 m2 : List UInt8) : AM := run1 P 9 ⟨frBo ms m1 m2, [], heapL [daob0]⟩
def putD (h : AHeap) : PA AObj := match h.objs.put h.next dviW with | .box t => t
theorem putD_eq (h : AHeap) : h.objs.put h.next dviW = .box (putD h) := by
  unfold putD
  cases h.objs.put h.next dviW; rfl
def behindD (h : AHeap) : AHeap := ⟨putD h, h.next + 1, h.fams⟩
def Bo2 (ms m1 m2 : List UInt8) (stp : Int) (F : List UInt8) : AM := fin1 P (Bo1 ms m1 m2) (doV (Bo1 ms m1 m2).heap.next stp F) (behindD (Bo1 ms m1 m2).heap)
def Bo3 (ms m1 m2 : List UInt8) (stp : Int) (F : List UInt8) : AM := run1 P 10 (Bo2 ms m1 m2 stp F)
def Bo4 (ms m1 m2 : List UInt8) (stp : Int) (F : List UInt8) : AM := fin1 P (Bo3 ms m1 m2 stp F) (doV (Bo3 ms m1 m2 stp F).heap.next stp F) (behindD (Bo3 ms m1 m2 stp F).heap)
def evBo : List (Nat × Ev) := [(89, .bin (.bool true)), (13, .bin (.bool true)), (4, .light), (2, .light)]
def Bo5 (ms m1 m2 : List UInt8) (stp : Int) (F : List UInt8) : AM := orunS P evBo 10 (Bo4 ms m1 m2 stp F)

def sv (v : Value) : Prop := sameV v v = true
theorem sv_it (n : Int) : sv (it n) := by
  show (decide (IntKind.i64 = IntKind.i64) && decide (n = n)) = true
  simp
theorem sv_st (l : List UInt8) : sv (st l) := beqBytes_t l

theorem opBo1 : opS P (Bo1 ms m1 m2) = some (.enter 6 [jobV (txt ms m1)]) := by kernel_rfl
theorem hbBo1 : (Bo1 ms m1 m2).heap.objs.get 0 = some daob0 := by kernel_rfl
theorem opBo3 : opS P (Bo3 ms m1 m2 stp F) = some (.enter 6 [jobV (txt ms m2)]) := by kernel_rfl
theorem hbBo3 : (Bo3 ms m1 m2 stp F).heap.objs.get 0 = some daob0 := by kernel_rfl
theorem runBo : orun P evBo 10 (Bo4 ms m1 m2 stp F) = some (.mk (abin P .eql 9 (st F) (st F) = some (.bool true) ∧ abin P .eql 3 (it stp) (it stp) = some (.bool true) ∧
    (sv (it 1) ∧ sv (it 1) ∧ sv (it 0) ∧ sv (it 0) ∧ sv (st F) ∧ sv (st F) ∧ sv (it 1) ∧ sv (it 1) ∧ sv (it stp) ∧ sv (it stp) ∧ sv (sl 3 0 108 108) ∧ sv (st dviB) ∧ True) ∧
    (sv (it 1) ∧ sv (it 1) ∧ sv (it 0) ∧ sv (it 0) ∧ sv (st F) ∧ sv (st F) ∧ sv (it 1) ∧ sv (it 1) ∧ sv (it stp) ∧ sv (it stp) ∧ sv (sl 3 0 108 108) ∧ sv (st dviB) ∧ sv (sl 5 0 108 108) ∧ sv (st dviB) ∧ True) ∧ True) (Bo5 ms m1 m2 stp F)) := by kernel_rfl
theorem retBo : Abs.Returns P 9 (.bool true) (Bo5 ms m1 m2 stp F).heap (Bo5 ms m1 m2 stp F) := ⟨by kernel_rfl, rfl, by kernel_rfl, by kernel_rfl, by kernel_rfl, by kernel_rfl, by kernel_rfl⟩

theorem bothGoes (K : ProgOk P) (hm : ∀ c ∈ ms, isLow c) (hl : ms.length < 900) (h1 : m1.length ≤ 6000) (h2 : m2.length ≤ 6000) :
    Goes P ⟨frBo ms m1 m2, [], heapL [daob0]⟩ (Abs.Returns P 9 (.bool true) (Bo5 ms m1 m2 (99991 - ms.length) (FT ms)).heap) := by
  refine Goes.go K 9 (by kernel_rfl) ?_
  refine Goes.call K opBo1 (doCall K hm hl h1 hbBo1 (putD_eq _)) (fin1_eq (by kernel_rfl)) ?_
  refine Goes.go K 10 (by kernel_rfl) ?_
  refine Goes.call K (S := Bo3 ms m1 m2 (99991 - ms.length) (FT ms)) opBo3 (doCall K hm hl h2 hbBo3 (putD_eq _)) (fin1_eq (by kernel_rfl)) ?_
  exact Goes.trace K runBo ⟨str_eql_t _, eql_t rfl, ⟨sv_it _, sv_it _, sv_it _, sv_it _, sv_st _, sv_st _, sv_it _, sv_it _, sv_it _, sv_it _, rfl, sv_st _, trivial⟩,
    ⟨sv_it _, sv_it _, sv_it _, sv_it _, sv_st _, sv_st _, sv_it _, sv_it _, sv_it _, sv_it _, rfl, sv_st _, rfl, sv_st _, trivial⟩, trivial⟩ (Goes.done retBo)

/-- both(), called in whatever memory. -/
theorem bothCall (K : ProgOk P) (hm : ∀ c ∈ ms, isLow c) (hl : ms.length < 900) (h1 : m1.length ≤ 6000) (h2 : m2.length ≤ 6000) {h : AHeap} (hb : h.objs.get 0 = some daob0) :
    CallOk P 9 (argsB ms m1 m2) h (.bool true) ⟨h.objs, h.next + 0, h.fams⟩ :=
  callOk_base (b0 := daob0) (keep := []) enterBo (bothGoes K hm hl h1 h2) (by kernel_rfl) rfl (by kernel_rfl) objs0 rfl rfl rfl (by kernel_rfl) hb rfl rfl rfl (fun id o hm _ => by cases hm) rfl rfl
end
end Go.Proofs.Gt

