/- A small machine over the model's own code, and that what it does stands for what the model does: part A3. Conditions: none. -/
import Derived.Test.YtmmgkehhckhdcaaGreatDoorA2
import Derived.Test.YtmmgkehhckhdcaaGreatDoorA1

set_option linter.unusedVariables false
set_option linter.unusedSimpArgs false

/- A region that draws is entered: the order that is drawn. -/

namespace Go.Abs

theorem hasBit_eq (m i : Nat) : hasBit m i = m.testBit i := by
  rw [Nat.testBit_eq_decide_div_mod_eq]
  unfold hasBit
  have h1 : Nat.shiftRight m i = m / 2 ^ i := Nat.shiftRight_eq_div_pow m i
  rw [h1]
  show (Nat.mod (m / 2 ^ i) 2).beq 1 = _
  have h2 : Nat.mod (m / 2 ^ i) 2 = m / 2 ^ i % 2 := rfl
  rw [h2]
  by_cases h : m / 2 ^ i % 2 = 1
  · rw [h]; rfl
  · rw [decide_eq_false h]
    exact beq_false h

theorem rowsF_get : ∀ (l : List Oper) (ms : List Nat) (i k : Nat), lnth (rowsF i l ms) k = (l[k]?).map fun o => ⟨i + k, heavy o, (ms[k]?).getD 0⟩
  | [], ms, i, k => by rw [lnth_eq]; cases ms <;> simp [rowsF]
  | o :: l, [], i, k => by
    rw [lnth_eq]
    cases k with
    | zero => simp [rowsF]
    | succ k =>
      have := rowsF_get l [] (i + 1) k
      rw [lnth_eq] at this
      simp only [rowsF, List.getElem?_cons_succ]
      rw [this]
      simp only [List.getElem?_nil, Option.getD_none]
      rw [show i + 1 + k = i + (k + 1) by omega]
  | o :: l, m :: ms, i, k => by
    rw [lnth_eq]
    cases k with
    | zero => simp [rowsF]
    | succ k =>
      have := rowsF_get l ms (i + 1) k
      rw [lnth_eq] at this
      simp only [rowsF, List.getElem?_cons_succ]
      rw [this]
      rw [show i + 1 + k = i + (k + 1) by omega]

def gAfter (acc : Array Nat) (o : Oper) : Nat := o.after.foldl (fun s e => if Region.binds .any e then s ||| 2 ^ e.on ||| acc.getD e.on 0 else s) 0

def befL (l : List Oper) : Array Nat := l.foldl (fun acc o => acc.push (gAfter acc o)) #[]

theorem before_eq (ops : Array Oper) : Region.before ops = befL ops.toList := by
  unfold Region.before befL gAfter
  rw [← Array.foldl_toList]

theorem befL_snoc (l : List Oper) (o : Oper) : befL (l ++ [o]) = (befL l).push (gAfter (befL l) o) := by
  simp [befL]

theorem befL_size : ∀ (n : Nat) (l : List Oper), l.length = n → (befL l).size = n
  | 0, l, h => by
    have : l = [] := List.eq_nil_of_length_eq_zero h
    subst this; rfl
  | n + 1, l, h => by
    have hne : l ≠ [] := by intro hh; subst hh; simp at h
    rw [← List.dropLast_concat_getLast hne, befL_snoc, Array.size_push, befL_size n _ (by simp [h])]

theorem befL_get (i : Nat) (o : Oper) : ∀ (n : Nat) (l : List Oper), l.length = n → l[i]? = some o → (befL l)[i]? = some (gAfter (befL (l.take i)) o)
  | 0, l, h, ho => by
    have : l = [] := List.eq_nil_of_length_eq_zero h
    subst this; simp at ho
  | n + 1, l, h, ho => by
    have hne : l ≠ [] := by intro hh; subst hh; simp at h
    have hsplit := List.dropLast_concat_getLast hne
    have hlen : l.dropLast.length = n := by simp [h]
    have hil : i < l.length := by
      rcases Nat.lt_or_ge i l.length with h' | h'
      · exact h'
      · rw [List.getElem?_eq_none h'] at ho; cases ho
    by_cases hi : i < n
    · have ho' : l.dropLast[i]? = some o := by
        rw [List.getElem?_dropLast, if_pos (by omega)]; exact ho
      have ih := befL_get i o n l.dropLast hlen ho'
      have htake : l.dropLast.take i = l.take i := by
        rw [List.dropLast_eq_take, List.take_take]; congr 1; omega
      rw [← htake, ← ih]
      conv => lhs; rw [← hsplit]
      rw [befL_snoc, Array.getElem?_push, if_neg (by rw [befL_size n _ hlen]; omega)]
    · have hin : i = n := by omega
      subst hin
      have hlast : l.getLast hne = o := by
        rw [List.getLast_eq_getElem]
        have := List.getElem?_eq_some_iff.1 ho
        obtain ⟨h1, h2⟩ := this
        rw [← h2]
        congr 1; omega
      conv => lhs; rw [← hsplit]
      rw [befL_snoc, Array.getElem?_push, if_pos (by rw [befL_size i _ hlen]), hlast]
      congr 2
      rw [List.dropLast_eq_take]; congr 1; congr 1; omega

theorem befL_prefix (i j : Nat) (l : List Oper) (hj : j < i) (hi : i ≤ l.length) : (befL (l.take i))[j]? = (befL l)[j]? := by
  have hjl : j < l.length := by omega
  obtain ⟨o, ho⟩ : ∃ o, l[j]? = some o := ⟨l[j], List.getElem?_eq_getElem hjl⟩
  rw [befL_get j o _ l rfl ho]
  have ho' : (l.take i)[j]? = some o := by rw [List.getElem?_take, if_pos hj]; exact ho
  rw [befL_get j o _ (l.take i) rfl ho', List.take_take]
  congr 3
  congr 1; omega

theorem maskOf_eq (ops : Array Oper) (i : Nat) : maskOf (rows ops) i = ((befL ops.toList)[i]?).getD 0 := by
  unfold maskOf rows
  rw [rowsF_get, before_eq]
  cases h : (ops.toList[i]? : Option Oper) with
  | none =>
    have hsz : (befL ops.toList).size = ops.toList.length := befL_size _ _ rfl
    have : ops.toList.length ≤ i := by
      rcases Nat.lt_or_ge i ops.toList.length with h' | h'
      · rw [List.getElem?_eq_getElem h'] at h; cases h
      · exact h'
    rw [Array.getElem?_eq_none (by omega)]
    rfl
  | some o =>
    simp only [Option.map_some]
    simp

theorem gAfter_bit (acc : Array Nat) (j : Nat) : ∀ (l : List Edge) (s : Nat), (l.foldl (fun s e => if Region.binds .any e then s ||| 2 ^ e.on ||| acc.getD e.on 0 else s) s).testBit j = true →
    s.testBit j = true ∨ ∃ e ∈ l, Region.binds .any e = true ∧ (e.on = j ∨ (acc.getD e.on 0).testBit j = true)
  | [], s, h => .inl h
  | e :: l, s, h => by
    simp only [List.foldl_cons] at h
    rcases gAfter_bit acc j l _ h with h1 | ⟨x, hx, h2⟩
    · by_cases hb : Region.binds .any e = true
      · rw [if_pos hb] at h1
        simp only [Nat.testBit_or, Bool.or_eq_true] at h1
        rcases h1 with (h1 | h1) | h1
        · exact .inl h1
        · rw [Nat.testBit_two_pow] at h1
          exact .inr ⟨e, List.mem_cons_self, hb, .inl (by simpa using h1)⟩
        · exact .inr ⟨e, List.mem_cons_self, hb, .inr h1⟩
      · rw [if_neg hb] at h1
        exact .inl h1
    · exact .inr ⟨x, List.mem_cons_of_mem _ hx, h2⟩

/-- What comes ahead of an operation comes ahead by an edge, or ahead of one that does. -/
theorem before_edge {ops : Array Oper} {i j : Nat} {o : Oper} (ho : ops[i]? = some o) (hlt : ∀ e ∈ o.after.toList, Region.binds .any e = true → e.on < i) (hb : beforeOp ops j i = true) :
    ∃ e ∈ o.after.toList, Region.binds .any e = true ∧ (e.on = j ∨ beforeOp ops j e.on = true) := by
  have ho' : ops.toList[i]? = some o := by simpa using ho
  have hil : i < ops.toList.length := by
    rcases Nat.lt_or_ge i ops.toList.length with h | h
    · exact h
    · rw [List.getElem?_eq_none h] at ho'; cases ho'
  unfold beforeOp at hb
  rw [hasBit_eq, maskOf_eq, befL_get i o _ _ rfl ho'] at hb
  simp only [Option.getD_some] at hb
  unfold gAfter at hb
  rw [← Array.foldl_toList] at hb
  rcases gAfter_bit _ j _ _ hb with h | ⟨e, he, h1, h2⟩
  · simp at h
  · refine ⟨e, he, h1, h2.imp id fun h3 => ?_⟩
    unfold beforeOp
    rw [hasBit_eq, maskOf_eq]
    rw [Array.getD_eq_getD_getElem?, befL_prefix i e.on _ (hlt e he h1) (by omega)] at h3
    exact h3

theorem before_lt {ops : Array Oper} (hf : RegFacts ops) : ∀ (n : Nat) {i j : Nat}, i ≤ n → i < ops.size → beforeOp ops j i = true → j < i
  | n, i, j, hn, hi, hb => by
    obtain ⟨o, ho⟩ : ∃ o, ops[i]? = some o := ⟨ops[i], Array.getElem?_eq_getElem hi⟩
    have hof := hf.op i o ho
    obtain ⟨e, he, h1, h2⟩ := before_edge ho hof.after hb
    have hlt := hof.after e he h1
    rcases h2 with rfl | h2
    · exact hlt
    · cases n with
      | zero => omega
      | succ n =>
        have := before_lt hf n (i := e.on) (by omega) (by omega) h2
        omega

theorem not_before_self {ops : Array Oper} (hf : RegFacts ops) {i : Nat} (hi : i < ops.size) : beforeOp ops i i = false := by
  cases hb : beforeOp ops i i with
  | false => rfl
  | true => have := before_lt hf i (Nat.le_refl _) hi hb; omega

/-! ## The order that is drawn -/

/-- One stands ahead of another one. -/
def Ahead (l : List Nat) (x y : Nat) : Prop := ∃ l1 l2, l = l1 ++ x :: l2 ∧ y ∈ l2

theorem Ahead.trans {l : List Nat} (hn : l.Nodup) {x y z : Nat} (h : Ahead l x y) (h' : Ahead l y z) : Ahead l x z := by
  obtain ⟨l1, l2, h1, h2⟩ := h
  obtain ⟨m1, m2, rfl⟩ := List.append_of_mem h2
  obtain ⟨p1, p2, h3, h4⟩ := h'
  have hm : l = (l1 ++ x :: m1) ++ y :: m2 := by rw [h1]; simp
  have heq : p2 = m2 := by
    rw [hm] at h3 hn
    have hy1 : y ∉ l1 ++ x :: m1 := by
      intro hh
      rw [List.nodup_append] at hn
      exact hn.2.2 y hh y List.mem_cons_self rfl
    have hy2 : y ∉ p1 := by
      intro hh
      rw [h3, List.nodup_append] at hn
      exact hn.2.2 y hh y List.mem_cons_self rfl
    have := List.append_eq_append_iff.1 h3
    rcases this with ⟨a, ha1, ha2⟩ | ⟨a, ha1, ha2⟩
    · cases a with
      | nil => simp at ha2; exact ha2.symm
      | cons b a =>
        simp only [List.cons_append, List.cons.injEq] at ha2
        obtain ⟨rfl, _⟩ := ha2
        exact absurd (by rw [ha1]; simp) hy2
    · cases a with
      | nil => simp at ha2; exact ha2
      | cons b a =>
        simp only [List.cons_append, List.cons.injEq] at ha2
        obtain ⟨rfl, _⟩ := ha2
        exact absurd (by rw [ha1]; simp) hy1
  subst heq
  exact ⟨l1, _, h1, by simp [h4]⟩

structure LinInv (ops : Array Oper) (listed : Array Bool) (acc : List Nat) : Prop where
  size : listed.size = ops.size
  nd : acc.Nodup
  mem : ∀ i, i ∈ acc ↔ (i < ops.size ∧ listed[i]? = some true)
  ord : ∀ l1 l2 i o, acc.reverse = l1 ++ i :: l2 → ops[i]? = some o → ∀ e ∈ o.after.toList, Region.binds .any e = true → e.on ∈ l1

theorem nodup_lt_length {n : Nat} {l : List Nat} (hn : l.Nodup) (hl : ∀ i ∈ l, i < n) : l.length ≤ n := by
  have := List.Nodup.length_le_of_subset hn (l₂ := List.range n) (fun i hi => List.mem_range.2 (hl i hi))
  simpa using this

theorem nodup_full {n : Nat} {l : List Nat} (hn : l.Nodup) (hl : ∀ i ∈ l, i < n) (hlen : l.length = n) : ∀ i, i < n → i ∈ l := by
  intro i hi
  rcases Classical.em (i ∈ l) with h | h
  · exact h
  · have h2 : (i :: l).Nodup := List.nodup_cons.2 ⟨h, hn⟩
    have := nodup_lt_length (n := n) h2 (by
      intro j hj
      rcases List.mem_cons.1 hj with rfl | hj
      · exact hi
      · exact hl j hj)
    simp at this; omega

theorem lin_ready {ops : Array Oper} (hf : RegFacts ops) {listed : Array Bool} {acc : List Nat} (hI : LinInv ops listed acc) (hlt : acc.length < ops.size) :
    ∃ i, i < ops.size ∧ i ∉ acc ∧ ∀ o, ops[i]? = some o → ∀ e ∈ o.after.toList, Region.binds .any e = true → e.on ∈ acc := by
  have : ∃ i, i < ops.size ∧ i ∉ acc := by
    rcases Classical.em (∃ i, i < ops.size ∧ i ∉ acc) with h | h
    · exact h
    · exfalso
      have hall : ∀ i ∈ List.range ops.size, i ∈ acc := by
        intro i hi
        rcases Classical.em (i ∈ acc) with h' | h'
        · exact h'
        · exact absurd ⟨i, List.mem_range.1 hi, h'⟩ h
      have := List.Nodup.length_le_of_subset List.nodup_range hall
      simp at this; omega
  -- the least one
  have key : ∀ n, (∃ i, i ≤ n ∧ i < ops.size ∧ i ∉ acc) → ∃ i, i < ops.size ∧ i ∉ acc ∧ ∀ j, j < i → j ∈ acc := by
    intro n
    induction n with
    | zero =>
      rintro ⟨i, h0, h1, h2⟩
      exact ⟨i, h1, h2, fun j hj => by omega⟩
    | succ n ih =>
      rintro ⟨i, h0, h1, h2⟩
      rcases Classical.em (∃ j, j ≤ n ∧ j < ops.size ∧ j ∉ acc) with h | h
      · exact ih h
      · refine ⟨i, h1, h2, fun j hj => ?_⟩
        rcases Classical.em (j ∈ acc) with h' | h'
        · exact h'
        · exact absurd ⟨j, by omega, by omega, h'⟩ h
  obtain ⟨i0, hi0, hi1⟩ := this
  obtain ⟨i, h1, h2, h3⟩ := key i0 ⟨i0, Nat.le_refl _, hi0, hi1⟩
  exact ⟨i, h1, h2, fun o ho e he hb => h3 _ ((hf.op i o ho).after e he hb)⟩

theorem getD_true {a : Array Bool} {i : Nat} (hs : i < a.size) (d : Bool) : a.getD i d = true ↔ a[i]? = some true := by
  rw [Array.getD_eq_getD_getElem?, Array.getElem?_eq_getElem hs]; simp

theorem lin_go {ops : Array Oper} (hf : RegFacts ops) : ∀ (fuel t : Nat) (listed : Array Bool) (acc : List Nat), LinInv ops listed acc → fuel + acc.length = ops.size →
    ∃ listed' acc', Region.linearise.go .any ops fuel t listed acc = acc'.reverse ∧ LinInv ops listed' acc' ∧ acc'.length = ops.size
  | 0, t, listed, acc, hI, hlen => ⟨listed, acc, rfl, hI, by omega⟩
  | fuel + 1, t, listed, acc, hI, hlen => by
    obtain ⟨i0, hi0, hi1, hi2⟩ := lin_ready hf hI (by omega)
    simp only [Region.linearise.go]
    generalize hrs : (List.range ops.size).filter (fun i => !listed.getD i true && ((ops[i]?).map (fun x => x.after.all fun e => !Region.binds .any e || listed.getD e.on false)).getD false) = rs
    have hmem : ∀ i, i ∈ rs ↔ (i < ops.size ∧ i ∉ acc ∧ ∀ o, ops[i]? = some o → ∀ e ∈ o.after.toList, Region.binds .any e = true → e.on ∈ acc) := by
      intro i
      rw [← hrs, List.mem_filter, List.mem_range]
      constructor
      · rintro ⟨h1, h2⟩
        simp only [Bool.and_eq_true, Bool.not_eq_true'] at h2
        obtain ⟨h2, h3⟩ := h2
        refine ⟨h1, fun hh => ?_, fun o ho e he hb => ?_⟩
        · have := ((hI.mem i).1 hh).2
          rw [(getD_true (by rw [hI.size]; exact h1) true).2 this] at h2; cases h2
        · rw [ho] at h3
          simp only [Option.map_some, Option.getD_some] at h3
          have := (Array.all_eq_true_iff_forall_mem.1 h3) e (by simpa using he)
          rw [hb] at this
          simp only [Bool.not_true, Bool.false_or] at this
          have hlt := (hf.op i o ho).after e he hb
          exact (hI.mem e.on).2 ⟨by omega, (getD_true (by rw [hI.size]; omega) false).1 this⟩
      · rintro ⟨h1, h2, h3⟩
        refine ⟨h1, ?_⟩
        simp only [Bool.and_eq_true, Bool.not_eq_true']
        obtain ⟨o, ho⟩ : ∃ o, ops[i]? = some o := ⟨ops[i], Array.getElem?_eq_getElem h1⟩
        refine ⟨?_, ?_⟩
        · cases hg : listed.getD i true with
          | false => rfl
          | true => exact absurd ((hI.mem i).2 ⟨h1, (getD_true (by rw [hI.size]; exact h1) true).1 hg⟩) h2
        · rw [ho]
          simp only [Option.map_some, Option.getD_some]
          rw [Array.all_eq_true_iff_forall_mem]
          intro e he
          cases hb : Region.binds .any e with
          | false => rfl
          | true =>
            have := (hI.mem e.on).1 (h3 o ho e (by simpa using he) hb)
            simp only [Bool.not_true, Bool.false_or]
            exact (getD_true (by rw [hI.size]; exact this.1) false).2 this.2
    have hne : rs.length ≠ 0 := by
      intro hh
      have := (hmem i0).2 ⟨hi0, hi1, hi2⟩
      rw [List.eq_nil_of_length_eq_zero hh] at this; cases this
    have hlt : t % rs.length < rs.length := Nat.mod_lt _ (by omega)
    rw [List.getElem?_eq_getElem hlt]
    simp only
    generalize hi : rs[t % rs.length] = i
    obtain ⟨h1, h2, h3⟩ := (hmem i).1 (by rw [← hi]; exact List.getElem_mem hlt)
    refine lin_go hf fuel _ _ (i :: acc) ⟨by simp [hI.size], List.nodup_cons.2 ⟨h2, hI.nd⟩, fun j => ?_, fun l1 l2 j o hl ho e he hb => ?_⟩ (by simp; omega)
    · rw [List.mem_cons, hI.mem j]
      by_cases hji : j = i
      · subst hji
        simp [h1, hI.size]
      · rw [Array.getElem?_setIfInBounds_ne (fun hh => hji hh.symm)]
        constructor
        · rintro (h | h)
          · exact absurd h hji
          · exact h
        · exact .inr
    · rw [List.reverse_cons] at hl
      rcases List.eq_nil_or_concat l2 with rfl | ⟨l3, x, rfl⟩
      · have hh := List.append_inj' hl (by simp)
        obtain ⟨ha, hb2⟩ := hh
        simp only [List.cons.injEq, and_true] at hb2
        subst hb2
        rw [← ha]
        exact List.mem_reverse.2 (h3 o ho e he hb)
      · have hl' : acc.reverse ++ [i] = (l1 ++ j :: l3) ++ [x] := by rw [hl]; simp
        have hh := List.append_inj' hl' (by simp)
        exact hI.ord l1 l3 j o hh.1 ho e he hb

/-- The order that is drawn, in a program whose orders are mixed. -/
structure LinFacts (ops : Array Oper) (rl : List Nat) : Prop where
  nd : rl.Nodup
  lt : ∀ i ∈ rl, i < ops.size
  all : ∀ i, i < ops.size → i ∈ rl
  ord : ∀ i ∈ rl, ∀ j, beforeOp ops j i = true → Ahead rl j i

theorem lin_facts {ops : Array Oper} (hf : RegFacts ops) (t : Nat) : LinFacts ops (Region.linearise .any ops t) := by
  have hI : LinInv ops (Array.replicate ops.size false) [] := by
    refine ⟨by simp, List.nodup_nil, fun i => ?_, fun l1 l2 i o h => by simp at h⟩
    constructor
    · intro h; cases h
    · rintro ⟨h1, h2⟩; simp [h1] at h2
  obtain ⟨listed, acc, h1, h2, h3⟩ := lin_go hf ops.size t _ [] hI (by simp)
  have hrl : Region.linearise .any ops t = acc.reverse := h1
  rw [hrl]
  have hlt : ∀ i ∈ acc, i < ops.size := fun i hi => ((h2.mem i).1 hi).1
  have hnd : acc.reverse.Nodup := List.pairwise_reverse.2 (h2.nd.imp Ne.symm)
  refine ⟨hnd, fun i hi => hlt i (List.mem_reverse.1 hi), fun i hi => List.mem_reverse.2 (nodup_full h2.nd hlt h3 i hi), ?_⟩
  have key : ∀ n i, i ≤ n → i ∈ acc.reverse → ∀ j, beforeOp ops j i = true → Ahead acc.reverse j i := by
    intro n
    induction n with
    | zero =>
      intro i hn hi j hb
      have hi2 := hlt i (List.mem_reverse.1 hi)
      have := before_lt hf 0 hn hi2 hb
      omega
    | succ n ih =>
      intro i hn hi j hb
      have hi2 := hlt i (List.mem_reverse.1 hi)
      obtain ⟨o, ho⟩ : ∃ o, ops[i]? = some o := ⟨ops[i], Array.getElem?_eq_getElem hi2⟩
      have hof := hf.op i o ho
      obtain ⟨e, he, h4, h5⟩ := before_edge ho hof.after hb
      have hlte := hof.after e he h4
      obtain ⟨l1, l2, hl⟩ := List.append_of_mem hi
      have hmem := h2.ord l1 l2 i o hl ho e he h4
      obtain ⟨m1, m2, rfl⟩ := List.append_of_mem hmem
      have hah : Ahead acc.reverse e.on i := ⟨m1, m2 ++ i :: l2, by rw [hl]; simp, by simp⟩
      rcases h5 with rfl | h5
      · exact hah
      · refine Ahead.trans hnd (ih e.on (by omega) ?_ j h5) hah
        rw [hl]; simp
  exact fun i hi j hb => key i i (Nat.le_refl _) hi j hb

section
variable {P : Program} {ρ : Ren} {ops : Array Oper}

/-- A region that draws begins. -/
theorem DRel.begins (hok : regionOk ops = true) {rl : List Nat} (hl : LinFacts ops rl) {tm : PA Value} {R : Array Value} (hs : SlotsRel ρ tm R) :
    DRel P ρ ops (plan ops) rl tm R { init := tm, res := fun _ => undef, env := fun _ => .nil } := by
  have hf := regFacts hok
  have hslot : ∀ (l : List Nat), (∀ i, i < ops.size → i ∈ l) → ∀ t, Ghost.slot { init := tm, res := fun _ => undef, env := fun _ => .nil } ops.toList (fun j => !l.contains j) t = tm.get t := by
    intro l hall t
    unfold Ghost.slot
    cases hw : writer ops.toList t with
    | none => rfl
    | some j =>
      obtain ⟨o, ho, _⟩ := writer_some hw
      have hj : j < ops.size := by
        rcases Nat.lt_or_ge j ops.toList.length with h | h
        · simpa using h
        · rw [List.getElem?_eq_none h] at ho; cases ho
      have : l.contains j = true := by simpa using hall j hj
      simp only [this, Bool.not_true, Bool.false_eq_true, if_false]
  refine { ok := hok, nda := hf.nodup, ndr := hl.nd, sub := (fun i hi => hl.all i (hf.lt i hi)), lt := hl.lt, up := (fun i _ j _ hj => hl.all j hj), orda := ⟨[], rfl⟩, ordr := (fun i hi j hb _ => hl.ord i hi j hb),
           tmA := (fun t => (hslot _ hf.all t).symm), tmR := (fun t v hv => ?_), pend := (fun i hi hia => absurd (hf.all i (hl.lt i hi)) hia), dlt := (fun i hi hia => absurd (hf.all i (hl.lt i hi)) hia) }
  rw [hslot _ hl.all] at hv
  exact hs t v hv

end
end Go.Abs

/- Regions that draw: light operations in the abstract machine; what a pending one does in the real one. -/

namespace Go.Abs

def Ghost.add (G : Ghost) (i : Nat) (v : Value) (tm : PA Value) : Ghost :=
  { init := G.init, res := fun j => if j = i then v else G.res j, env := fun j => if j = i then tm else G.env j }

/-- Slots, but only some of them. -/
noncomputable def only (tm : PA Value) : List Tmp → PA Value
  | [] => .nil
  | t :: l => match tm.get t with
    | some v => ((only tm l).put t v).un
    | none => only tm l

theorem only_get (tm : PA Value) : ∀ (l : List Tmp) (t : Tmp), (only tm l).get t = if t ∈ l then tm.get t else none
  | [], t => by simp [only, PA.get_nil]
  | x :: l, t => by
    simp only [only]
    cases hx : tm.get x with
    | none =>
      simp only
      rw [only_get tm l t]
      by_cases h : t = x
      · subst h; simp [hx]
      · simp [h]
    | some v =>
      simp only
      have : ((only tm l).put x v).un.get t = if t = x then some v else (only tm l).get t := PA.put_get _ _ _ _
      rw [this, only_get tm l t]
      by_cases h : t = x
      · subst h; simp [hx]
      · simp [h]

theorem mem_tmpsOf {t : Tmp} : ∀ {l : List Operand}, Operand.tmp t ∈ l → t ∈ tmpsOf l
  | [], h => by cases h
  | x :: l, h => by
    rcases List.mem_cons.1 h with rfl | h
    · simp [tmpsOf]
    · have := mem_tmpsOf h
      cases x <;> simp [tmpsOf, this]

section
variable {P : Program} {ρ : Ren} {w0 : World} {n0 : Nat} {h : AHeap} {w : World} {ops : Array Oper}

/-- Operands look alike where the slots do. -/
theorem ev_looks {tm tm' : PA Value} {l : List Oper} {o : Oper} (ht : ∀ t ∈ looks l o, tm.get t = tm'.get t) : ∀ x ∈ o.op.operands.toList, ev tm x = ev tm' x := by
  intro x hx
  cases x with
  | tmp t => exact ht t (by unfold looks; exact List.mem_append_left _ (mem_tmpsOf hx))
  | const v => rfl
  | global g => rfl
  | func f => rfl

theorem wantedA_looks {tm tm' : PA Value} {l : List Oper} {o : Oper} (ht : ∀ t ∈ looks l o, tm.get t = tm'.get t) : wantedA l tm o.guard = wantedA l tm' o.guard := by
  unfold wantedA
  cases hg : o.guard with
  | none => rfl
  | some gb =>
    obtain ⟨g, b⟩ := gb
    simp only
    cases hl : lnth l g with
    | none => rfl
    | some p =>
      simp only
      cases hd : p.dst with
      | none => rfl
      | some d =>
        simp only
        rw [ht d (by unfold looks; refine List.mem_append_right _ ?_; simp [hg, hl, hd])]

theorem only_looks (tm : PA Value) (l : List Tmp) : ∀ t ∈ l, (only tm l).get t = tm.get t := by
  intro t ht; rw [only_get, if_pos ht]

theorem slot_add (G : Ghost) (i : Nat) (v : Value) (tm : PA Value) (l : List Oper) (done : Nat → Bool) (t : Tmp) : (G.add i v tm).slot l done t = (G.put i v).slot l done t := rfl

theorem kind2_block {tm : PA Value} {o : Oper} {v : Value} {h1 : AHeap} (hk : lightKind o = 2) {b : Nat} (hb : blockOf v = some b) (he : execA P tm h o = some (.value v h1)) : b = h.next ∧ h1.next = h.next + 1 := by
  have row : ∀ {elem k : Nat} {x : Bool} {l : List Value} {size : Nat}, (newRowA h elem k x l size).1 = h.next ∧ (newRowA h elem k x l size).2.next = h.next + 1 := by
    intro elem k x l size
    obtain ⟨c, hc1, hc2⟩ := newRowA_eq h elem k x l size
    rw [hc2]; exact ⟨(h.new_eq _).1, (h.new_eq _).2.1⟩
  unfold execA at he
  cases hop : o.op <;> simp only [lightKind, hop, reduceCtorEq] at hk <;> simp only [hop] at he
  case call c =>
    exfalso
    obtain ⟨callee, args, ts⟩ := c
    cases callee with
    | value f => simp at hk
    | invoke r m => simp at hk
    | builtin b => cases b <;> simp at hk
  case makeMap t r =>
    cases r with
    | some r => cases he
    | none => cases he; cases hb
  case makeChan t s =>
    simp only [cond_eq_ite] at he
    repeat' (split at he <;> try (cases he; done))
    all_goals (cases he; cases hb)
  case alloc elem =>
    split at he
    · cases he; simp only [blockOf, Option.some.injEq] at hb; rw [← hb]; exact row
    · cases he
  case box elem x =>
    split at he
    · cases he; simp only [blockOf, Option.some.injEq] at hb; rw [← hb]; exact row
    · cases he
  case buildSlice t len parts =>
    simp only [cond_eq_ite] at he
    repeat' (split at he <;> try (cases he; done))
    all_goals (cases he; simp only [blockOf, Option.some.injEq] at hb; rw [← hb]; exact row)
  case makeSlice t l c =>
    simp only [cond_eq_ite] at he
    repeat' (split at he <;> try (cases he; done))
    all_goals (cases he; simp only [blockOf, Option.some.injEq] at hb; rw [← hb]; exact row)
  all_goals (exact absurd hk (by decide))

/-- What a light operation gives: a value, and memory as it was or with a new block. -/
theorem light_value {tm : PA Value} {o : Oper} (hh : heavy o = false) {a : ANext} (he : execA P tm h o = some a) :
    ∃ v h1, a = .value v h1 ∧ (h1 = h ∨ ∃ ob, ob.fam = none ∧ h1 = (h.new ob).2) := by
  have h3 : lightKind o = 0 ∨ lightKind o = 1 ∨ lightKind o = 2 := by
    unfold lightKind
    split <;> simp
  rcases h3 with hk | hk | hk
  · obtain ⟨v, rfl, _⟩ := execA_kind0 hh hk he
    exact ⟨v, h, rfl, .inl rfl⟩
  · exact execA_kind1 hh hk he
  · unfold execA at he
    have row : ∀ {elem k : Nat} {x : Bool} {l : List Value} {size : Nat}, ∃ ob : AObj, ob.fam = none ∧ (newRowA h elem k x l size).2 = (h.new ob).2 := fun {elem k x l size} => row_heap h elem k x l size
    cases hop : o.op <;> simp only [lightKind, hop, reduceCtorEq] at hk <;> simp only [hop] at he
    case call c =>
      exfalso
      obtain ⟨callee, args, ts⟩ := c
      cases callee with
      | value f => simp at hk
      | invoke r m => simp at hk
      | builtin b => cases b <;> simp at hk
    case makeMap t r =>
      cases r with
      | some r => cases he
      | none => cases he; exact ⟨_, _, rfl, .inr ⟨_, rfl, rfl⟩⟩
    all_goals first
      | (exact absurd hk (by decide))
      | ((try simp only [cond_eq_ite] at he)
         repeat' (split at he <;> try (cases he; done))
         all_goals first
           | (cases he; exact ⟨_, _, rfl, .inr row⟩)
           | (cases he; exact ⟨_, _, rfl, .inr ⟨_, rfl, rfl⟩⟩))

/-- A light operation is done in the abstract machine alone. -/
theorem DRel.light {al rl : List Nat} {i : Nat} {o : Oper} {nt : Nat} {tm tm' : PA Value} {R : Array Value} {G : Ghost} {v : Value} (D : DRel P ρ ops (i :: al) rl tm R G) (ho : ops[i]? = some o) (hh : Go.Abs.heavy o = false) (hn : R.size = nt)
    (hp : putDst nt tm o.dst v = some tm')
    (hcase : (wantedA ops.toList tm o.guard = some false ∧ v = undef) ∨ (wantedA ops.toList tm o.guard = some true ∧ ∃ h h', execA P tm h o = some (.value v h'))) :
    DRel P ρ ops al rl tm' R (G.add i v tm) := by
  have hf := regFacts D.ok
  have hna := List.nodup_cons.1 D.nda
  have ho' : ops.toList[i]? = some o := by simpa using ho
  have hirl := D.sub i List.mem_cons_self
  have hisz := D.lt i hirl
  obtain ⟨l, hl⟩ := D.orda
  obtain ⟨hpl1, _⟩ := planOk_get hf.plan hl
  refine { ok := D.ok, nda := hna.2, ndr := D.ndr, sub := (fun x hx => D.sub x (List.mem_cons_of_mem _ hx)), lt := D.lt, up := D.up, orda := ⟨l ++ [i], by rw [hl]; simp⟩, ordr := D.ordr,
           tmA := (fun t => put_slots hf ho hna.1 D.tmA hp t), tmR := (fun t u hu => ?_), pend := (fun p hpr hpa => ?_), dlt := (fun x hx hxa ox d hox hd => ?_) }
  · refine D.tmR t u ?_
    rw [← hu]
    unfold Ghost.slot
    cases hw : writer ops.toList t with
    | none => rfl
    | some j =>
      by_cases hji : j = i
      · subst hji
        simp [hirl, Ghost.add]
      · simp [Ghost.add, hji]
  · by_cases hpi : p = i
    · subst hpi
      refine ⟨o, ho, hh, fun t ht => ?_, ?_⟩
      · show (if p = p then tm else G.env p).get t = _
        rw [if_pos rfl, D.tmA t]
        unfold Ghost.slot
        cases hw : writer ops.toList t with
        | none => rfl
        | some j =>
          obtain ⟨oj, hoj, hdj⟩ := writer_some hw
          have hoj' : ops[j]? = some oj := by simpa using hoj
          have hjsz : j < ops.size := by
            rcases Nat.lt_or_ge j ops.toList.length with h | h
            · simpa using h
            · rw [List.getElem?_eq_none h] at hoj; cases hoj
          by_cases hjp : j = p
          · subst hjp
            simp [not_before_self hf hjsz, Ghost.add]
          · by_cases hja : j ∈ al
            · have hb := hpl1 j hja
              simp [hja, hb, Ghost.add]
            · have hb1 := (before_next hf D (p := j) (by simp [hjp, hja]) hjsz).1
              have hpair := (hf.op p o ho).pair j oj hoj'
              have hb2 : beforeOp ops j p = true := by
                simp only [pairOk, hdj, beq_false (fun hh : p = j => hjp hh.symm), Bool.false_or, Bool.and_eq_true, Bool.or_eq_true, Bool.not_eq_true'] at hpair
                rcases hpair.1 with hm | hm
                · rw [memN_iff.2 ht] at hm; cases hm
                · cases hk : (!Go.Abs.heavy o && !Nat.beq (lightKind o) 0) with
                  | true => simp only [hk, cond_true] at hm; exact hm
                  | false =>
                    simp only [hk, cond_false, ordered, Bool.or_eq_true] at hm
                    rcases hm with hm | hm
                    · exact hm
                    · have : beforeOp ops p j = true := hm
                      rw [this] at hb1; cases hb1
              simp [hja, hjp, hb2, Ghost.add]
      · have henv : (G.add p v tm).env p = tm := by simp [Ghost.add]
        have hres : (G.add p v tm).res p = v := by simp [Ghost.add]
        rw [henv, hres]
        rcases hcase with ⟨c1, c2⟩ | ⟨c1, h0, h0', c2⟩
        · exact .inl ⟨c1, c2⟩
        · refine .inr ⟨c1, ⟨h0, h0', c2⟩, fun hk => ?_, fun hk t ht => ?_⟩
          · obtain ⟨v2, e1, e2⟩ := execA_kind0 hh hk c2
            cases e1
            exact e2
          · cases hd : o.dst with
            | none => rw [hd] at hp; simp only [putDst, Option.some.injEq] at hp; subst hp; rfl
            | some d =>
              have hne : t ≠ d := fun hh2 => hf.self p o ho hh d hd (hh2 ▸ ht)
              rw [hd] at hp
              simp only [putDst] at hp
              cases hbl : Nat.blt d nt with
              | false => simp only [hbl, cond_false] at hp; cases hp
              | true =>
                simp only [hbl, cond_true, Option.some.injEq] at hp
                have hget : tm'.get t = if t = d then some v else tm.get t := by subst hp; exact PA.put_get tm d v t
                rw [hget, if_neg hne]
    · have hnot : p ∉ i :: al := by simp [hpi, hpa]
      have h1 := (D.pend p hpr hnot).put hf ho hp (before_next hf D hnot (D.lt p hpr)).1 hpi
      obtain ⟨op, a1, a2, a3, a4⟩ := h1.op
      have henv : (G.add i v tm).env p = (G.put i v).env p := by simp [Ghost.add, Ghost.put, hpi]
      have hres : (G.add i v tm).res p = (G.put i v).res p := rfl
      exact ⟨op, a1, a2, fun t ht => by rw [henv]; exact a3 t ht, by rw [henv, hres]; exact a4⟩
  · by_cases hxi : x = i
    · subst hxi
      rw [ho] at hox; cases hox
      rw [hn]; exact putDst_lt hp d hd
    · exact D.dlt x hx (by simp [hxi, hxa]) ox d hox hd

theorem lightFree_value {tm : PA Value} {o : Oper} (hh : heavy o = false) (hf : lightFree o = true) {a : ANext} (he : execA P tm h o = some a) :
    (∃ v, a = .value v h) ∧ (lightKind o = 0 ∨ (lightKind o = 1 ∧ ∃ d, o.dst = some d)) := by
  obtain ⟨dst, op, type, pos, after, guard⟩ := o
  have h0 : ∀ o2 : Oper, o2 = ⟨dst, op, type, pos, after, guard⟩ → lightKind o2 = 0 → (∃ v, a = .value v h) ∧ (lightKind o2 = 0 ∨ (lightKind o2 = 1 ∧ ∃ d, o2.dst = some d)) := by
    rintro _ rfl hk
    obtain ⟨v, rfl, _⟩ := execA_kind0 hh hk he
    exact ⟨⟨v, rfl⟩, .inl hk⟩
  have h1 : ∀ o2 : Oper, o2 = ⟨dst, op, type, pos, after, guard⟩ → lightKind o2 = 1 → (∃ v, a = .value v h) → dst.isSome = true → (∃ v, a = .value v h) ∧ (lightKind o2 = 0 ∨ (lightKind o2 = 1 ∧ ∃ d, o2.dst = some d)) := by
    rintro _ rfl hk hv hd
    exact ⟨hv, .inr ⟨hk, Option.isSome_iff_exists.1 hd⟩⟩
  by_cases hz : lightKind (⟨dst, op, type, pos, after, guard⟩ : Oper) = 0
  · exact h0 _ rfl hz
  · cases op <;> simp only [lightFree, lightKind, beq_false, ne_eq, not_true_eq_false, Nat.succ_ne_zero, reduceCtorEq] at hf hz
    case load t x =>
      refine h1 _ rfl rfl ?_ hf
      simp only [execA] at he
      repeat' (split at he <;> try (cases he; done))
      all_goals (cases he; exact ⟨_, rfl⟩)
    case lookup t x ix ok =>
      refine h1 _ rfl rfl ?_ hf
      simp only [execA, cond_eq_ite] at he
      repeat' (split at he <;> try (cases he; done))
      all_goals (cases he; exact ⟨_, rfl⟩)
    case slice t x lo hi mx =>
      cases mx with
      | some m => simp only [heavy, reduceCtorEq] at hh
      | none =>
        refine h1 _ rfl rfl ?_ hf
        simp only [execA] at he
        split at he
        · rename_i v lo1 hi1 mx1 hv h1 h2 h3
          simp only [opt, Option.some.injEq] at h3; subst h3
          split at he
          · rename_i r h4 hs
            cases he
            rw [sliceA_heap hs]; exact ⟨_, rfl⟩
          · cases he
        · cases he
    case call c =>
      obtain ⟨callee, args, argTypes⟩ := c
      cases callee with
      | value f => simp only [heavy, reduceCtorEq] at hh
      | invoke r m => simp only [heavy, reduceCtorEq] at hh
      | builtin b =>
        have hb : b = .len := by
          cases b <;> first
            | rfl
            | (exact absurd rfl hz)
            | (exact absurd hf (by simp [lightFree]))
            | (simp [heavy] at hh; done)
        subst hb
        refine h1 _ rfl rfl ?_ hf
        simp only [execA] at he
        cases ha : evs tm args.toList with
        | none => simp only [ha] at he; cases he
        | some vs =>
          simp only [ha] at he
          cases ht : argTypes.toList with
          | nil => simp only [ht, builtinA] at he; cases he
          | cons t ts =>
            cases vs with
            | nil => simp only [ht, builtinA] at he; cases he
            | cons x l =>
              simp only [ht, builtinA] at he
              split at he
              · cases he; exact ⟨_, rfl⟩
              · cases he
    all_goals first
      | (exact absurd rfl hz)
      | (exact absurd hf (by decide))

/-- The pending ones would do again what they did, behind a light operation. -/
theorem PendHeap.light {al rl : List Nat} {i : Nat} {o : Oper} {tm tm' : PA Value} {R : Array Value} {G : Ghost} (D : DRel P ρ ops (i :: al) rl tm R G) (ho : ops[i]? = some o)
    (hval : validate P ops.toList tm' h (prefixL ops i o) = true) : PendHeap P h ops tm' al rl := by
  have hf := regFacts D.ok
  intro p hp hpa op hop hk hw
  refine again_some (validate_get hval ?_ hop hw)
  unfold prefixL
  by_cases hpi : p = i
  · subst hpi
    rw [ho] at hop; cases hop
    rw [beq_false hk]
    simp
  · have hnot : p ∉ i :: al := by simp [hpi, hpa]
    obtain ⟨_, l, hl, hmem⟩ := before_next hf D hnot (D.lt p hp)
    obtain ⟨op2, q1, q2, _⟩ := (D.pend p hp hnot).op
    rw [hop] at q1; cases q1
    refine List.mem_append_left _ ?_
    rw [hl]
    refine mem_crossF hmem ?_ hop q2 hk ?_
    · intro hi
      have := hf.nodup
      rw [hl, List.nodup_append] at this
      exact this.2.2 i hi i List.mem_cons_self rfl
    · rw [hasBit_eq]; simp

/-- The same, where memory is left as it is. -/
theorem PendHeap.free {al rl : List Nat} {i nt : Nat} {o : Oper} {v : Value} {tm tm' : PA Value} {R : Array Value} {G : Ghost} (D : DRel P ρ ops (i :: al) rl tm R G) (ho : ops[i]? = some o) (hh : heavy o = false) (hp : putDst nt tm o.dst v = some tm')
    (HP : PendHeap P h ops tm (i :: al) rl) (hcase : wantedA ops.toList tm o.guard = some false ∨ (execA P tm h o = some (.value v h) ∧ (lightKind o = 0 ∨ (lightKind o = 1 ∧ ∃ d, o.dst = some d)))) : PendHeap P h ops tm' al rl := by
  have hf := regFacts D.ok
  have ho' : ops.toList[i]? = some o := by simpa using ho
  -- what an operation looks at has not changed, but for the new slot
  have hget : ∀ t, o.dst ≠ some t → tm'.get t = tm.get t := by
    intro t ht
    cases hd : o.dst with
    | none => rw [hd] at hp; simp only [putDst, Option.some.injEq] at hp; subst hp; rfl
    | some d =>
      rw [hd] at hp
      simp only [putDst] at hp
      cases hbl : Nat.blt d nt with
      | false => simp only [hbl, cond_false] at hp; cases hp
      | true =>
        simp only [hbl, cond_true, Option.some.injEq] at hp
        have : tm'.get t = if t = d then some v else tm.get t := by subst hp; exact PA.put_get tm d v t
        rw [this, if_neg (fun h => ht (by rw [hd, h]))]
  intro p hpr hpa op hop hk hw
  by_cases hpi : p = i
  · subst hpi
    rw [ho] at hop; cases hop
    have hself : ∀ t ∈ looks ops.toList o, tm'.get t = tm.get t := fun t ht => hget t (fun hd => hf.self p o ho hh t hd ht)
    rw [wantedA_looks hself] at hw
    rcases hcase with hc | ⟨hex, hc⟩
    · rw [hw] at hc; cases hc
    · rcases hc with hc | ⟨hc, d, hd⟩
      · exact absurd hc hk
      · refine ⟨d, v, v, h, hd, ?_, by rw [execA_congr (ev_looks hself)]; exact hex, .inl ⟨hc, rfl, rfl⟩⟩
        rw [hd] at hp
        simp only [putDst] at hp
        cases hbl : Nat.blt d nt with
        | false => simp only [hbl, cond_false] at hp; cases hp
        | true =>
          simp only [hbl, cond_true, Option.some.injEq] at hp
          have : tm'.get d = if d = d then some v else tm.get d := by subst hp; exact PA.put_get tm d v d
          rw [this, if_pos rfl]
  · have hnot : p ∉ i :: al := by simp [hpi, hpa]
    obtain ⟨op2, q1, q2, _⟩ := (D.pend p hpr hnot).op
    rw [hop] at q1; cases q1
    have hb := (before_next hf D hnot (D.lt p hpr)).1
    have hlk : ∀ t ∈ looks ops.toList op, tm'.get t = tm.get t := by
      intro t ht
      refine hget t fun hd => ?_
      have hpair := (hf.op p op hop).pair i o ho
      simp only [pairOk, hd, beq_false hpi, Bool.false_or, Bool.and_eq_true, Bool.or_eq_true, Bool.not_eq_true'] at hpair
      rcases hpair.1 with hm | hm
      · rw [memN_iff.2 ht] at hm; cases hm
      · simp only [q2, beq_false hk, Bool.not_false, Bool.and_self, cond_true] at hm
        have : beforeOp ops i p = true := hm
        rw [this] at hb; cases hb
    rw [wantedA_looks hlk] at hw
    obtain ⟨d, old, v2, h2, e1, e2, e3, e4⟩ := HP p hpr hnot op hop hk hw
    refine ⟨d, old, v2, h2, e1, ?_, by rw [execA_congr (ev_looks hlk)]; exact e3, e4⟩
    rw [hget d fun hd => ?_]
    · exact e2
    · have w1 := writer_of hf.dsts (by simpa using hop) e1
      have w2 := writer_of hf.dsts ho' hd
      rw [w1] at w2
      exact hpi (Option.some.inj w2)

theorem GhostsOk.light {lo hi hi' : Nat} {al rl : List Nat} {i : Nat} {o : Oper} {G : Ghost} {v : Value} {tm : PA Value} (hgh : GhostsOk ρ lo hi ops (i :: al) rl G) (hhi : hi ≤ hi') (ho : ops[i]? = some o)
    (hb : lightKind o = 2 → ∀ b, blockOf v = some b → hi ≤ b ∧ lo ≤ b ∧ b < hi' ∧ ρ b = none) : GhostsOk ρ lo hi' ops al rl (G.add i v tm) := by
  intro p hp hpa op hop hk b hbl
  by_cases hpi : p = i
  · subst hpi
    rw [ho] at hop; cases hop
    have : blockOf v = some b := by simpa [Ghost.add] using hbl
    obtain ⟨b1, b2, b3, b4⟩ := hb hk b this
    refine ⟨⟨b2, b3, b4⟩, fun q hq hqa hqp oq hoq hkq hbq => ?_⟩
    have hbq : blockOf (G.res q) = some b := by simpa [Ghost.add, hqp] using hbq
    have := (hgh q hq (by simp [hqp, hqa]) oq hoq hkq b hbq).1
    omega
  · have hbl : blockOf (G.res p) = some b := by simpa [Ghost.add, hpi] using hbl
    obtain ⟨⟨b1, b2, b3⟩, g2⟩ := hgh p hp (by simp [hpi, hpa]) op hop hk b hbl
    refine ⟨⟨b1, by omega, b3⟩, fun q hq hqa hqp oq hoq hkq hbq => ?_⟩
    by_cases hqi : q = i
    · subst hqi
      rw [ho] at hoq; cases hoq
      have hbq : blockOf v = some b := by simpa [Ghost.add] using hbq
      have := (hb hkq b hbq).1
      omega
    · have hbq : blockOf (G.res q) = some b := by simpa [Ghost.add, hqi] using hbq
      exact g2 q hq (by simp [hqi, hqa]) hqp oq hoq hkq hbq

end
end Go.Abs

/- A pending operation of a region that draws is done in the real machine. -/

namespace Go.Abs

theorem sameCells_get {i : Nat} : ∀ {n : Nat} {a b : PA Value}, sameCells n a b = true → i < n → ∃ v, a.get i = some v ∧ b.get i = some v
  | 0, _, _, _, h => by omega
  | n + 1, a, b, h, hi => by
    simp only [sameCells] at h
    split at h
    · rename_i v w hv hw
      simp only [Bool.and_eq_true] at h
      by_cases hin : i = n
      · subst hin
        rw [sameV_eq h.1] at hv
        exact ⟨w, hv, hw⟩
      · exact sameCells_get h.2 (by omega)
    · cases h

section
variable {P : Program} {ρ : Ren} {w0 : World} {n0 : Nat} {h : AHeap} {w : World} {ops : Array Oper}

theorem ops_lt {i : Nat} {o : Oper} (ho : ops[i]? = some o) : i < ops.size := by
  rcases Nat.lt_or_ge i ops.size with h | h
  · exact h
  · rw [Array.getElem?_eq_none h] at ho; cases ho

/-- Who stands first in what the real machine has left has nobody ahead of it there. -/
theorem DRel.first {al rl : List Nat} {p j : Nat} {tm : PA Value} {R : Array Value} {G : Ghost} (D : DRel P ρ ops al (p :: rl) tm R G) (hb : beforeOp ops j p = true) : j ∉ p :: rl := by
  intro hj
  have hf := regFacts D.ok
  have hnr := List.nodup_cons.1 D.ndr
  obtain ⟨l1, l2, h1, h2⟩ := D.ordr p List.mem_cons_self j hb hj
  cases l1 with
  | nil =>
    simp only [List.nil_append, List.cons.injEq] at h1
    obtain ⟨rfl, rfl⟩ := h1
    exact hnr.1 h2
  | cons y l1 =>
    simp only [List.cons_append, List.cons.injEq] at h1
    obtain ⟨rfl, h1⟩ := h1
    exact hnr.1 (by rw [h1]; simp [h2])

/-- What a pending operation looks at is there in the real machine. -/
theorem DRel.pend_slots {al rl : List Nat} {p : Nat} {tm : PA Value} {R : Array Value} {G : Ghost} (D : DRel P ρ ops al (p :: rl) tm R G) (hpa : p ∉ al) {o : Oper} (ho : ops[p]? = some o) :
    SlotsRel ρ (only (G.env p) (looks ops.toList o)) R := by
  have hf := regFacts D.ok
  intro t v hv
  rw [only_get] at hv
  by_cases ht : t ∈ looks ops.toList o
  · rw [if_pos ht] at hv
    obtain ⟨o2, q1, q2, q3, _⟩ := (D.pend p List.mem_cons_self hpa).op
    rw [ho] at q1; cases q1
    rw [q3 t ht] at hv
    refine D.tmR t v ?_
    rw [← hv]
    unfold Ghost.slot
    cases hw : writer ops.toList t with
    | none => rfl
    | some j =>
      obtain ⟨oj, hoj, hdj⟩ := writer_some hw
      have hoj' : ops[j]? = some oj := by simpa using hoj
      have hjsz := ops_lt hoj'
      cases hb : beforeOp ops j p with
      | true =>
        have hjn := D.first hb
        have hc : (p :: rl).contains j = false := by
          cases hcc : (p :: rl).contains j with
          | false => rfl
          | true => exact absurd (by simpa using hcc) hjn
        simp only [hc, hb, Bool.not_false, if_true]
      | false =>
        have hjin : j ∈ p :: rl := by
          by_cases hjp : j = p
          · subst hjp; exact List.mem_cons_self
          · have hpair := (hf.op p o ho).pair j oj hoj'
            simp only [pairOk, hdj, beq_false (fun hh : p = j => hjp hh.symm), Bool.false_or, Bool.and_eq_true, Bool.or_eq_true, Bool.not_eq_true'] at hpair
            rcases hpair.1 with hm | hm
            · rw [memN_iff.2 ht] at hm; cases hm
            · cases hk : (!Go.Abs.heavy o && !Nat.beq (lightKind o) 0) with
              | true =>
                simp only [hk, cond_true] at hm
                have : beforeOp ops j p = true := hm
                rw [this] at hb; cases hb
              | false =>
                simp only [hk, cond_false, ordered, Bool.or_eq_true] at hm
                rcases hm with hm | hm
                · have : beforeOp ops j p = true := hm
                  rw [this] at hb; cases hb
                · exact D.up p List.mem_cons_self j hm hjsz
        have hc : (p :: rl).contains j = true := by simpa using hjin
        simp only [hc, hb, Bool.not_true, Bool.false_eq_true, if_false]
  · rw [if_neg ht] at hv; cases hv

/-- What is left, when the real machine has done a pending one. -/
theorem DRel.tailR {ρ' : Ren} (hle : ρ.le ρ') {al rl : List Nat} {p : Nat} {o : Oper} {tm : PA Value} {R : Array Value} {G : Ghost} {v' : Value} (D : DRel P ρ ops al (p :: rl) tm R G) (hpa : p ∉ al) (ho : ops[p]? = some o)
    (hv : VRel ρ' (G.res p) v') : DRel P ρ' ops al rl tm (setDst R o.dst v') G := by
  have hf := regFacts D.ok
  have hnr := List.nodup_cons.1 D.ndr
  have hG : G.put p (G.res p) = G := by
    unfold Ghost.put
    congr
    funext j
    by_cases hj : j = p
    · rw [if_pos hj, hj]
    · rw [if_neg hj]
  have hslots := put_slotsR (G := G) (v := G.res p) (v' := v') (ρ := ρ') hf ho hnr.1 (fun t u hu => (D.tmR t u hu).mono hle) hv (fun d hd => D.dlt p List.mem_cons_self hpa o d ho hd)
  rw [hG] at hslots
  refine { ok := D.ok, nda := D.nda, ndr := hnr.2, sub := (fun x hx => ?_), lt := (fun x hx => D.lt x (List.mem_cons_of_mem _ hx)), up := (fun x hx j hb hj => ?_), orda := D.orda, ordr := (fun x hx j hb hj => ?_),
           tmA := D.tmA, tmR := hslots, pend := (fun x hx hxa => D.pend x (List.mem_cons_of_mem _ hx) hxa), dlt := (fun x hx hxa ox d hox hd => by rw [setDst_size]; exact D.dlt x (List.mem_cons_of_mem _ hx) hxa ox d hox hd) }
  · rcases List.mem_cons.1 (D.sub x hx) with rfl | h
    · exact absurd hx hpa
    · exact h
  · rcases List.mem_cons.1 (D.up x (List.mem_cons_of_mem _ hx) j hb hj) with rfl | h
    · exact absurd (List.mem_cons_of_mem _ hx) (D.first hb)
    · exact h
  · obtain ⟨l1, l2, h1, h2⟩ := D.ordr x (List.mem_cons_of_mem _ hx) j hb (List.mem_cons_of_mem _ hj)
    cases l1 with
    | nil =>
      simp only [List.nil_append, List.cons.injEq] at h1
      obtain ⟨rfl, rfl⟩ := h1
      exact absurd hj hnr.1
    | cons y l1 =>
      simp only [List.cons_append, List.cons.injEq] at h1
      exact ⟨l1, l2, h1.2, h2⟩

theorem GhostsOk.tailR {ρ' : Ren} {lo hi : Nat} {al rl : List Nat} {p : Nat} {G : Ghost} (hgh : GhostsOk ρ lo hi ops al (p :: rl) G) (hnd : (p :: rl).Nodup)
    (hx : ∀ b, b < hi → ρ b = none → (∀ o, ops[p]? = some o → lightKind o = 2 → blockOf (G.res p) ≠ some b) → ρ' b = none) (hpa : p ∉ al) : GhostsOk ρ' lo hi ops al rl G := by
  intro i hi hia o ho hk b hb
  obtain ⟨⟨g1, g2, g3⟩, g4⟩ := hgh i (List.mem_cons_of_mem _ hi) hia o ho hk b hb
  have hpi : p ≠ i := fun hh => (List.nodup_cons.1 hnd).1 (hh ▸ hi)
  exact ⟨⟨g1, g2, hx b g2 g3 fun op hop hkp => g4 p List.mem_cons_self hpa hpi op hop hkp⟩, fun j hj hja hji q hq hkq => g4 j (List.mem_cons_of_mem _ hj) hja hji q hq hkq⟩

theorem heavy_defer {o : Oper} (hh : heavy o = false) : ∀ c, o.op ≠ .defer c := by
  intro c hop
  simp only [heavy, hop, reduceCtorEq] at hh

theorem obj_eq (h : AHeap) (id : Nat) : h.obj id = h.objs.get id := by obtain ⟨_, _, _⟩ := h; rfl

theorem newRowA_obj (h : AHeap) (elem k : Nat) (x : Bool) (l : List Value) (size : Nat) : ∃ c, (∀ i, c.get i = l[i]?) ∧ (newRowA h elem k x l size).2.obj h.next = some (.cells c size elem k x true none) := by
  obtain ⟨c, hc1, hc2⟩ := newRowA_eq h elem k x l size
  refine ⟨c, hc1, ?_⟩
  rw [hc2]
  have := (h.new_eq (.cells c size elem k x true none)).2.2.2 h.next
  rw [if_pos rfl] at this
  rw [obj_eq]
  exact this

end

end Go.Abs

/- Pending operations of a region that draws are done in the real machine, one after the other. -/

namespace Go.Abs
section
variable {P : Program} {ρ : Ren} {w0 : World} {n0 : Nat} {h : AHeap} {w : World} {ops : Array Oper}

/-- The real machine does the pending operation that is next. -/
theorem pend_one (X : XOk P) {lo : Nat} {al rl : List Nat} {p : Nat} {tm : PA Value} {R : Array Value} {G : Ghost} {fn : FuncId} {k' : List Item} {ds' : List Deferred} {kd : CallKind} {ro' : Option Nat} {cs : List Frame}
    (S : SRel ρ w0 n0 h w) (hg : GlobOk ρ) (D : DRel P ρ ops al (p :: rl) tm R G) (hpa : p ∉ al) (HP : PendHeap P h ops tm al (p :: rl)) (hlo : lo ≤ h.next) (GH : GhostsOk ρ lo h.next ops al (p :: rl) G) :
    ∃ ρ' w' R', ρ.le ρ' ∧ (∀ id, id < lo → ρ' id = ρ id) ∧ R'.size = R.size ∧ step P (lone (fr fn R (.inRegion ops (p :: rl) :: k') ds' kd ro') cs w) = .next (lone (fr fn R' (.inRegion ops rl :: k') ds' kd ro') cs w') ∧
      SRel ρ' w0 n0 h w' ∧ DRel P ρ' ops al rl tm R' G ∧ GhostsOk ρ' lo h.next ops al rl G := by
  have hf := regFacts D.ok
  obtain ⟨o, ho, hh, hsl, hcase⟩ := (D.pend p List.mem_cons_self hpa).op
  have ho' : ops.toList[p]? = some o := by simpa using ho
  have hS := D.pend_slots hpa ho
  have hdef : ro' = none ∨ ∀ c, o.op ≠ .defer c := .inr (heavy_defer hh)
  have hfin : ∀ v' : Value, (fr fn R (.inRegion ops (p :: rl) :: k') ds' kd ro').finish v' = fr fn (setDst R o.dst v') (.inRegion ops rl :: k') ds' kd ro' := by
    intro v'
    simp only [Frame.finish, ho, Option.bind_some]
    cases o.dst <;> rfl
  have hwe : wantedA ops.toList (only (G.env p) (looks ops.toList o)) o.guard = wantedA ops.toList (G.env p) o.guard := wantedA_looks (only_looks _ _)
  -- what an operation gives in a memory that stays
  have done : ∀ {ρ' : Ren} {w' : World} {v' : Value}, ρ.le ρ' → (∀ id, id < h.next → ρ' id = ρ id) → VRel ρ' (G.res p) v' → SRel ρ' w0 n0 h w' →
      step P (lone (fr fn R (.inRegion ops (p :: rl) :: k') ds' kd ro') cs w) = .next (lone ((fr fn R (.inRegion ops (p :: rl) :: k') ds' kd ro').finish v') cs w') →
      ∃ ρ' w' R', ρ.le ρ' ∧ (∀ id, id < lo → ρ' id = ρ id) ∧ R'.size = R.size ∧ step P (lone (fr fn R (.inRegion ops (p :: rl) :: k') ds' kd ro') cs w) = .next (lone (fr fn R' (.inRegion ops rl :: k') ds' kd ro') cs w') ∧
        SRel ρ' w0 n0 h w' ∧ DRel P ρ' ops al rl tm R' G ∧ GhostsOk ρ' lo h.next ops al rl G := by
    intro ρ' w' v' hle hx hv S' hst
    rw [hfin] at hst
    exact ⟨ρ', w', _, hle, fun id hi => hx id (by omega), setDst_size _ _ _, hst, S', D.tailR hle hpa ho hv, GH.tailR D.ndr (fun b hb hn _ => by rw [hx b hb]; exact hn) hpa⟩
  rcases hcase with ⟨c1, c2⟩ | ⟨c1, ⟨hp0, hp1, c2⟩, c3, c4⟩
  · have hwr := wantedA_plain hS rfl (o := o) (by rw [hwe]; exact c1)
    exact done (v' := undef) (Ren.le_refl _) (fun _ _ => rfl) (by rw [c2]; exact .undef) S (s_op_skip (by simp [ho, hwr]))
  · have hwr := wantedA_plain hS rfl (o := o) (by rw [hwe]; exact c1)
    have hR := op_rel hg hS (fr fn R (.inRegion ops (p :: rl) :: k') ds' kd ro') rfl
    have hcong : ∀ hp : AHeap, execA P (only (G.env p) (looks ops.toList o)) hp o = execA P (G.env p) hp o := fun hp => execA_congr (ev_looks (only_looks _ _)) hp
    by_cases hk0 : lightKind o = 0
    · have hex := c3 hk0 h
      rw [← hcong] at hex
      obtain ⟨ρ', w', nx, hlx, hrun, S', hN⟩ := exec_ok X S hR hex
      cases hN with
      | value _ v' _ hv => exact done hlx.le hlx.ext hv S' (s_value ho hwr hdef hrun)
    · -- it reads or makes memory: it would do so again
      have hlk := c4 hk0
      have hwt : wantedA ops.toList tm o.guard = some true := by rw [wantedA_looks hlk]; exact c1
      obtain ⟨d, old, v, h1, hd, hold, hex, hag⟩ := HP p List.mem_cons_self hpa o ho hk0 hwt
      have hres : old = G.res p := by
        rw [D.tmA d] at hold
        unfold Ghost.slot at hold
        rw [writer_of hf.dsts ho' hd] at hold
        have hc : al.contains p = false := by
          cases hcc : al.contains p with
          | false => rfl
          | true => exact absurd (by simpa using hcc) hpa
        simp only [hc, Bool.not_false, if_true, Option.some.injEq] at hold
        exact hold.symm
      have hex2 : execA P (only (G.env p) (looks ops.toList o)) h o = some (.value v h1) := by
        rw [hcong, ← execA_congr (ev_looks hlk) h]; exact hex
      rcases hag with ⟨hk1, hnx, hov⟩ | ⟨hk1, b, b', c, c', size, e, k, x, wr, hb, hb', hshape, hob, hob', hsame⟩
      · obtain ⟨v2, h2, e1, e2⟩ := execA_kind1 hh hk1 hex2
        cases e1
        have hh1 : h1 = h := by
          rcases e2 with e2 | ⟨ob, _, e2⟩
          · exact e2
          · rw [e2, (h.new_eq ob).2.1] at hnx; omega
        rw [hh1] at hex2
        obtain ⟨ρ', w', nx, hlx, hrun, S', hN⟩ := exec_ok X S hR hex2
        cases hN with
        | value _ v' _ hv => exact done hlx.le hlx.ext (by rw [← hres, hov]; exact hv) S' (s_value ho hwr hdef hrun)
      · have hk2 : lightKind o = 2 := by
          have h3 : lightKind o = 0 ∨ lightKind o = 1 ∨ lightKind o = 2 := by
            unfold lightKind
            split <;> simp
          rcases h3 with h3 | h3 | h3
          · exact absurd h3 hk0
          · exact absurd h3 hk1
          · exact h3
        obtain ⟨⟨l, l', el, elem, k2, size2, mk, r1, r2, r3, r4, r5, r6⟩, hbn⟩ := row_form (ρ := ρ) (w := w) hR hk2 hb' hex2
        subst hbn
        -- the block that it makes now
        obtain ⟨c2, hc2, hob2⟩ := newRowA_obj h elem k2 true l size2
        rw [← r4, hob'] at hob2
        simp only [Option.some.injEq, AObj.cells.injEq] at hob2
        obtain ⟨rfl, rfl, rfl, rfl, rfl, rfl, _⟩ := hob2
        have hpb := GH p List.mem_cons_self hpa o ho hk2 b (by rw [← hres]; exact hb)
        obtain ⟨⟨hb1, hb2, hb3⟩, hb4⟩ := hpb
        let E : RE := ⟨w.heap.size, 0, size, k, 0⟩
        have hle : ρ.le (ρ.set b E) := Ren.le_set _ hb3
        have hobj : h.objs.get b = some (.cells c size e k true true none) := by rw [← obj_eq]; exact hob
        have hlen := r2.length
        have S' : SRel (ρ.set b E) w0 n0 h (w.alloc (.cells l' el)) := by
          refine S.adopt (ro := .cells l' el) (e := E) rfl hb3 hobj rfl ⟨rfl, rfl, fun _ => rfl, l', el, (0, 0), by rw [alloc_heap, if_pos (by rfl)], fun _ i hi => (by simp), ?_, fun i u hi hu => ?_⟩
          · show 0 + size + 0 * k ≤ l'.size
            have : l'.toList.length = l'.size := by simp
            omega
          · obtain ⟨u2, g1, g2⟩ := sameCells_get hsame hi
            rw [hu] at g1; cases g1
            rw [hc2] at g2
            obtain ⟨v', q1, q2⟩ := r2.get i g2
            refine ⟨v', ?_, q2.mono hle⟩
            show l'[0 + i]? = some v'
            rw [Nat.zero_add]; simpa using q1
        have hv : VRel (ρ.set b E) (G.res p) (mk w.heap.size) := by
          rw [← hres]
          rw [r5] at hshape
          rw [mk_shape r6 hshape hb]
          exact mk_rel r6 _ b E (Ren.set_same _ _ _) rfl
        have hst := s_value (cs := cs) (fn := fn) (R := R) (k := k') (D := ds') (kd := kd) (ro := ro') (rest := rl) ho hwr hdef r1
        rw [hfin] at hst
        refine ⟨ρ.set b E, _, _, hle, fun id hi => Ren.set_ne _ _ (by omega), setDst_size _ _ _, hst, S', D.tailR hle hpa ho hv, GH.tailR D.ndr (fun b2 hb2 hn hne => ?_) hpa⟩
        rw [Ren.set_ne _ _ (fun hh => hne o ho hk2 (by rw [← hres, hh]; exact hb))]
        exact hn

/-- The pending ones that are next, all. -/
theorem pend_all (X : XOk P) {lo : Nat} {al : List Nat} {tm : PA Value} {G : Ghost} {fn : FuncId} {k' : List Item} {ds' : List Deferred} {kd : CallKind} {ro' : Option Nat} {cs : List Frame} (hlo : lo ≤ h.next) :
    ∀ {l rl : List Nat} {ρ : Ren} {R : Array Value} {w : World}, SRel ρ w0 n0 h w → GlobOk ρ → DRel P ρ ops al (l ++ rl) tm R G → (∀ p ∈ l, p ∉ al) → PendHeap P h ops tm al (l ++ rl) → GhostsOk ρ lo h.next ops al (l ++ rl) G →
      ∃ ρ' w' R', ρ.le ρ' ∧ (∀ id, id < lo → ρ' id = ρ id) ∧ R'.size = R.size ∧ Steps P (lone (fr fn R (.inRegion ops (l ++ rl) :: k') ds' kd ro') cs w) (lone (fr fn R' (.inRegion ops rl :: k') ds' kd ro') cs w') ∧
        SRel ρ' w0 n0 h w' ∧ DRel P ρ' ops al rl tm R' G ∧ PendHeap P h ops tm al rl ∧ GhostsOk ρ' lo h.next ops al rl G
  | [], rl, ρ, R, w, S, _, D, _, HP, GH => ⟨ρ, w, R, Ren.le_refl _, fun _ _ => rfl, rfl, Steps.refl _ _, S, D, HP, GH⟩
  | p :: l, rl, ρ, R, w, S, hg, D, hl, HP, GH => by
    obtain ⟨ρ1, w1, R1, a1, a2, a3, a4, a5, a6, a7⟩ := pend_one X (fn := fn) (k' := k') (ds' := ds') (kd := kd) (ro' := ro') (cs := cs) S hg D (hl p List.mem_cons_self) HP hlo GH
    have HP1 : PendHeap P h ops tm al (l ++ rl) := fun i hi => HP i (List.mem_cons_of_mem _ hi)
    obtain ⟨ρ2, w2, R2, b1, b2, b3, b4, b5, b6, b7, b8⟩ := pend_all X hlo (fn := fn) (k' := k') (ds' := ds') (kd := kd) (ro' := ro') (cs := cs) a5 (hg.mono a1) a6 (fun q hq => hl q (List.mem_cons_of_mem _ hq)) HP1 a7
    exact ⟨ρ2, w2, R2, Ren.le_trans a1 b1, fun id hi => by rw [b2 id hi, a2 id hi], by rw [b3, a3], Steps.trans (.one a4) b4, b5, b6, b7, b8⟩

end
end Go.Abs

/- Heavy operations of a region that draws; every abstract step stands for real ones. -/

namespace Go.Abs

theorem commA_congr {P : Program} {tm tm' : PA Value} {o : Oper} (h : ∀ x ∈ o.op.operands.toList, ev tm x = ev tm' x) (hp : AHeap) : commA P tm hp o = commA P tm' hp o := by
  obtain ⟨dst, op, type, pos, after, guard⟩ := o
  cases op <;> simp only [Op.operands] at h <;> try rfl
  case send ch x => simp only [commA, h ch (by simp), h x (by simp)]
  case recv ct ch ok => simp only [commA, h ch (by simp)]
  case select cs bl =>
    obtain ⟨cs⟩ := cs
    cases cs with
    | nil => rfl
    | cons c l =>
      obtain ⟨ch, snd, elem⟩ := c
      cases l with
      | nil =>
        cases snd with
        | none => simp only [commA, h ch (by simp)]
        | some s => rfl
      | cons c2 l2 => cases snd <;> rfl

section
variable {P : Program} {ρ : Ren} {w0 : World} {n0 : Nat} {h : AHeap} {w : World} {bs : List Frame} {ops : Array Oper}

/-- What a heavy operation looks at is there in the real machine, where it is next in both. -/
theorem DRel.heavy_slots {al rl : List Nat} {i : Nat} {tm : PA Value} {R : Array Value} {G : Ghost} (D : DRel P ρ ops (i :: al) (i :: rl) tm R G) {o : Oper} (ho : ops[i]? = some o) (hv : Go.Abs.heavy o = true) :
    SlotsRel ρ (only tm (looks ops.toList o)) R := by
  have hf := regFacts D.ok
  intro t v hget
  rw [only_get] at hget
  by_cases ht : t ∈ looks ops.toList o
  · rw [if_pos ht, D.tmA t] at hget
    refine D.tmR t v ?_
    rw [← hget]
    unfold Ghost.slot
    cases hw : writer ops.toList t with
    | none => rfl
    | some j =>
      obtain ⟨oj, hoj, hdj⟩ := writer_some hw
      have hoj' : ops[j]? = some oj := by simpa using hoj
      have hjsz := ops_lt hoj'
      by_cases hja : j ∈ i :: al
      · have hjr := D.sub j hja
        have c1 : (i :: al).contains j = true := by simpa using hja
        have c2 : (i :: rl).contains j = true := by simpa using hjr
        simp only [c1, c2]
      · have hb1 := (before_next hf D hja hjsz).1
        have hji : i ≠ j := fun hh => hja (by rw [← hh]; exact List.mem_cons_self)
        have hpair := (hf.op i o ho).pair j oj hoj'
        have hb2 : beforeOp ops j i = true := by
          simp only [pairOk, hdj, beq_false hji, Bool.false_or, Bool.and_eq_true, Bool.or_eq_true, Bool.not_eq_true', hv, Bool.not_true, Bool.false_and, cond_false, ordered] at hpair
          rcases hpair.1 with hm | hm | hm
          · rw [memN_iff.2 ht] at hm; cases hm
          · exact hm
          · have : beforeOp ops i j = true := hm
            rw [this] at hb1; cases hb1
        have hjr := D.first hb2
        have c1 : (i :: al).contains j = false := by
          cases hcc : (i :: al).contains j with
          | false => rfl
          | true => exact absurd (by simpa using hcc) hja
        have c2 : (i :: rl).contains j = false := by
          cases hcc : (i :: rl).contains j with
          | false => rfl
          | true => exact absurd (by simpa using hcc) hjr
        simp only [c1, c2]
  · rw [if_neg ht] at hget; cases hget

/-- Ahead of the heavy operation that is next in the plan there are only pending ones. -/
theorem DRel.ahead {al rl : List Nat} {i : Nat} {tm : PA Value} {R : Array Value} {G : Ghost} (D : DRel P ρ ops (i :: al) rl tm R G) {o : Oper} (ho : ops[i]? = some o) (hv : Go.Abs.heavy o = true) :
    ∃ l rl', rl = l ++ i :: rl' ∧ ∀ p ∈ l, p ∉ i :: al := by
  have hf := regFacts D.ok
  obtain ⟨l, rl', hl⟩ := List.append_of_mem (D.sub i List.mem_cons_self)
  refine ⟨l, rl', hl, fun p hp hpa => ?_⟩
  have hnd := D.ndr
  have hpi : p ≠ i := by
    intro hh; subst hh
    rw [hl, List.nodup_append] at hnd
    exact hnd.2.2 p hp p List.mem_cons_self rfl
  have hpal : p ∈ al := (List.mem_cons.1 hpa).resolve_left hpi
  obtain ⟨lp, hpl⟩ := D.orda
  obtain ⟨hpl1, o2, ho2, hpl2⟩ := planOk_get hf.plan hpl
  rw [ho] at ho2; cases ho2
  -- not ahead of i in the real order
  have hno : ¬ Ahead rl i p := by
    rintro ⟨l1, l2, h1, h2⟩
    obtain ⟨m1, m2, rfl⟩ := List.append_of_mem hp
    rw [h1] at hl
    have hnd2 := hnd
    rw [h1] at hnd2
    have hp1 : p ∉ l1 := by
      intro hh
      rw [List.nodup_append] at hnd2
      exact hnd2.2.2 p hh p (List.mem_cons_of_mem _ h2) rfl
    have hi1 : i ∉ m1 ++ p :: m2 := by
      intro hh
      rw [hl, List.nodup_append] at hnd2
      exact hnd2.2.2 i hh i List.mem_cons_self rfl
    rcases List.append_eq_append_iff.1 hl with ⟨a, ha1, ha2⟩ | ⟨a, ha1, ha2⟩
    · cases a with
      | nil =>
        simp only [List.append_nil] at ha1
        exact hp1 (by rw [← ha1]; simp)
      | cons x a =>
        simp only [List.cons_append, List.cons.injEq] at ha2
        obtain ⟨rfl, _⟩ := ha2
        exact hi1 (by rw [ha1]; simp)
    · exact hp1 (by rw [ha1]; simp)
  have heavyPair : ∀ q oq, ops[q]? = some oq → Go.Abs.heavy oq = true → q ∈ al → q ≠ i → beforeOp ops i q = true := by
    intro q oq hoq hhq hqa hqi
    have hpair := (hf.op i o ho).pair q oq hoq
    simp only [pairOk, beq_false (fun hh : i = q => hqi hh.symm), Bool.false_or, Bool.and_eq_true, Bool.or_eq_true, Bool.not_eq_true', hv, hhq, Bool.and_self, Bool.not_true, Bool.false_eq_true, false_or, ordered, reduceCtorEq] at hpair
    rcases hpair.2 with hm | hm
    · have hm : beforeOp ops q i = true := hm
      rw [hpl1 q hqa] at hm; cases hm
    · exact hm
  have hprl : p ∈ rl := D.sub p hpa
  have ahead : ∀ q, beforeOp ops q p = true → q ∈ rl → Ahead rl q p := fun q hb hq => D.ordr p hprl q hb hq
  obtain ⟨op, hop, hcase⟩ := hpl2 hv p hpal
  rcases hcase with hc | hc | ⟨k', hk', q, hq, hqh, hqb⟩
  · exact hno (ahead i (heavyPair p op hop hc hpal hpi) (D.sub i List.mem_cons_self))
  · exact hno (ahead i hc (D.sub i List.mem_cons_self))
  · have hki : k' ≠ i := fun hh => (List.nodup_cons.1 D.nda).1 (hh ▸ hk')
    have h1 := heavyPair k' q hq hqh hk' hki
    have hkr := D.sub k' (List.mem_cons_of_mem _ hk')
    exact hno (Ahead.trans hnd (D.ordr k' hkr i h1 (D.sub i List.mem_cons_self)) (ahead k' hqb hkr))

/-- The value of a heavy operation comes, in a frame that runs. -/
theorem heavy_finish {lo hi hi' : Nat} {al rl : List Nat} {i : Nat} {o : Oper} {fn : FuncId} {nt : Nat} {tm : PA Value} {R : Array Value} {G : Ghost} {k : List AItem} {k' : List Item} {ds ds' : List Deferred} {kd : CallKind} {ro ro' : Option Nat}
    {v v' : Value} (D : DRel P ρ ops (i :: al) (i :: rl) tm R G) (hgh : GhostsOk ρ lo hi ops (i :: al) (i :: rl) G) (hhi : hi ≤ hi') (ho : ops[i]? = some o) (hv : Go.Abs.heavy o = true) (hn : R.size = nt)
    (hk : ItsRel ρ k k') (hd : DefsRel ρ ds ds') (hro : RoRel ρ ro ro') (hvr : VRel ρ v v') {c' : AFrame} (hf : finishA P ⟨fn, nt, tm, .drawR ops (i :: al) :: k, ds, false, kd, ro⟩ h v = some c') :
    FRel P ρ (PendHeap P h) lo hi' c' ((fr fn R (.inRegion ops (i :: rl) :: k') ds' kd ro').finish v') := by
  have hw : FRel P ρ Waits lo hi' ⟨fn, nt, tm, .drawR ops (i :: al) :: k, ds, false, kd, ro⟩ (fr fn R (.inRegion ops (i :: rl) :: k') ds' kd ro') :=
    .mk fn nt tm _ ds false kd ro ro' R _ ds' hn (fun _ => .draw ops _ _ k k' G D ⟨i, al, rl, o, rfl, rfl, ho, hv⟩ (hgh.wide hhi) hk) (fun hh => by cases hh) hd hro
  exact finishOk P hw rfl hf hvr

/-- A heavy operation, where it is next in both machines. -/
theorem step_heavy (X : XOk P) {n : Nat} {al rl : List Nat} {i : Nat} {o : Oper} {fn : FuncId} {nt : Nat} {tm : PA Value} {R : Array Value} {G : Ghost} {k : List AItem} {k' : List Item} {ds ds' : List Deferred} {kd : CallKind} {ro ro' : Option Nat}
    {acs : List AFrame} {Fs : List Frame} (S : SRel ρ w0 n0 h w) (hg : GlobOk ρ) (D : DRel P ρ ops (i :: al) (i :: rl) tm R G) (hgh : GhostsOk ρ n h.next ops (i :: al) (i :: rl) G) (ho : ops[i]? = some o) (hv : Go.Abs.heavy o = true) (hn : R.size = nt)
    (hk : ItsRel ρ k k') (hd : DefsRel ρ ds ds') (hro : RoRel ρ ro ro') (hnn : n ≤ h.next) (hc : FsRel P ρ n acs Fs) {S' : AM}
    (hst : operA P ⟨fn, nt, tm, .drawR ops (i :: al) :: k, ds, false, kd, ro⟩ acs h ops.toList i = some S') : StepsTo P w0 n0 bs ρ (fr fn R (.inRegion ops (i :: rl) :: k') ds' kd ro') Fs w S' := by
  have ho' : lnth ops.toList i = some o := by rw [lnth_eq]; simpa using ho
  have hS := D.heavy_slots ho hv
  have hR := op_rel hg hS (fr fn R (.inRegion ops (i :: rl) :: k') ds' kd ro') rfl
  have hwe : wantedA ops.toList (only tm (looks ops.toList o)) o.guard = wantedA ops.toList tm o.guard := wantedA_looks (only_looks _ _)
  unfold operA at hst
  rw [ho'] at hst
  simp only at hst
  split at hst
  · rename_i hw
    have hwr := wantedA_plain hS rfl (o := o) (by rw [hwe]; exact hw)
    cases hcm : isComm o with
    | true =>
      simp only [hcm, cond_true] at hst
      split at hst
      · rename_i v h1 hcv
        split at hst
        · rename_i c' hf
          simp only [Option.some.injEq] at hst; subst hst
          rw [← commA_congr (ev_looks (only_looks tm (looks ops.toList o)))] at hcv
          obtain ⟨v', w', g1, g2, g3⟩ := comm_ok S hR ho hwr hcv (cs := Fs ++ bs)
          have hnx := commA_next hcv
          exact ⟨ρ, _, Fs, w', Ren.le_refl _, .one g3, g2, hg, n, by rw [hnx]; exact hnn, heavy_finish D hgh (by rw [hnx]; exact Nat.le_refl _) ho hv hn hk hd hro g1 hf, hc⟩
        · cases hst
      · cases hst
    | false =>
      simp only [hcm, cond_false] at hst
      cases hex : execA P tm h o with
      | none => rw [hex] at hst; cases hst
      | some a =>
        rw [hex] at hst
        have hnx := execA_next hex
        rw [← execA_congr (ev_looks (only_looks tm (looks ops.toList o)))] at hex
        obtain ⟨ρ', w', nx, hlx, hrun, S', hN⟩ := exec_ok X S hR hex
        have hle := hlx.le
        have hxx : ∀ id, id < n → ρ' id = ρ id := fun id hi => hlx.ext id (by omega)
        have D' := D.mono hle
        have hgh' : GhostsOk ρ' n h.next ops (i :: al) (i :: rl) G := hgh.mono hlx.ext (Nat.le_refl _)
        have hdef : ro' = none ∨ ∀ c, o.op ≠ .defer c := by
          cases hro with
          | none => exact .inl rfl
          | some l e he =>
            right
            intro c hop
            have : ∃ d, a = .defer d := by
              simp only [execA, hop] at hex
              repeat (split at hex <;> try (cases hex; done))
              cases hex
              exact ⟨_, rfl⟩
            obtain ⟨d, rfl⟩ := this
            simp only [goOn] at hst
            cases hst
        have wait : FRel P ρ' Waits n h.next ⟨fn, nt, tm, .drawR ops (i :: al) :: k, ds, false, kd, ro⟩ (fr fn R (.inRegion ops (i :: rl) :: k') ds' kd ro') :=
          .mk fn nt tm _ ds false kd ro ro' R _ ds' hn (fun _ => .draw ops _ _ k k' G D' ⟨i, al, rl, o, rfl, rfl, ho, hv⟩ hgh' (hk.mono hle)) (fun hh => by cases hh) (hd.mono hle) (hro.mono hle)
        cases hN with
        | value v v' h1 hvr =>
          simp only [goOn] at hst
          split at hst
          · rename_i c' hf
            simp only [Option.some.injEq] at hst; subst hst
            exact ⟨ρ', _, Fs, w', hle, .one (s_value ho hwr hdef hrun), S', hg.mono hle, n, Nat.le_trans hnn hnx, heavy_finish D' hgh' hnx ho hv hn (hk.mono hle) (hd.mono hle) (hro.mono hle) hvr hf, hc.mono hle hxx⟩
          · cases hst
        | skip h1 =>
          simp only [goOn] at hst
          split at hst
          · rename_i c' hf
            simp only [Option.some.injEq] at hst; subst hst
            exact ⟨ρ', _, Fs, w', hle, .one (s_skipped ho hwr hdef hrun), S', hg.mono hle, n, Nat.le_trans hnn hnx, heavy_finish D' hgh' hnx ho hv hn (hk.mono hle) (hd.mono hle) (hro.mono hle) .undef hf, hc.mono hle hxx⟩
          · cases hst
        | enter f args args' ha =>
          simp only [goOn] at hst
          split at hst
          · rename_i c' hf
            simp only [Option.some.injEq] at hst; subst hst
            exact ⟨ρ', _, fr fn R (.inRegion ops (i :: rl) :: k') ds' kd ro' :: Fs, w', hle, .one (s_enter ho hwr hdef hrun), S', hg.mono hle, h.next, Nat.le_refl _, enter_ok hf ha, .cons _ n _ _ _ _ hnn wait (hc.mono hle hxx)⟩
          · cases hst
        | round l args e st pd f t ps aa bb d n2 R' he hol hRr =>
          simp only [goOn] at hst
          rw [hol] at hst
          simp only at hst
          split at hst
          · rename_i tm2 htm
            simp only [Option.some.injEq] at hst; subst hst
            obtain ⟨t1, t2⟩ := hRr tm2 htm
            refine ⟨ρ', _, fr fn R (.inRegion ops (i :: rl) :: k') ds' kd ro' :: Fs, w', hle, .one (s_round ho hwr hdef hrun), S', hg.mono hle, h.next, Nat.le_refl _, ?_, .cons _ n _ _ _ _ hnn wait (hc.mono hle hxx)⟩
            exact FRel.plain (r := false) t1 t2 (.cons _ _ _ _ (.code _) (.cons _ _ _ _ .beginRound (.cons _ _ _ _ (.code _) .nil))) .nil (.some l e he)
          · cases hst
        | defer d d' hdd =>
          cases hro with
          | some l e he => simp only [goOn] at hst; cases hst
          | none =>
            simp only [goOn] at hst
            split at hst
            · rename_i c' hf
              simp only [Option.some.injEq] at hst; subst hst
              exact ⟨ρ', _, Fs, w', hle, .one (s_defer ho hwr hdef hrun), S', hg.mono hle, n, hnn, heavy_finish D' hgh' (Nat.le_refl _) ho hv hn (hk.mono hle) (.cons _ _ _ _ hdd (hd.mono hle)) .none .undef hf, hc.mono hle hxx⟩
            · cases hst
  · rename_i hw
    split at hst
    · rename_i c' hf
      simp only [Option.some.injEq] at hst; subst hst
      have hwr := wantedA_plain hS rfl (o := o) (by rw [hwe]; exact hw)
      exact ⟨ρ, _, Fs, w, Ren.le_refl _, .one (s_op_skip (by simp [ho, hwr])), S, hg, n, hnn, heavy_finish D hgh (Nat.le_refl _) ho hv hn hk hd hro .undef hf, hc⟩
    · cases hst
  · cases hst

theorem isComm_heavy {o : Oper} (h : isComm o = true) : Go.Abs.heavy o = true := by
  unfold isComm at h
  split at h
  · rename_i hop; simp only [Go.Abs.heavy, hop]
  · rename_i hop; simp only [Go.Abs.heavy, hop]
  · rename_i hop; simp only [Go.Abs.heavy, hop]
  · cases h

/-- A step in a region that draws. -/
theorem step_draw (X : XOk P) {n : Nat} {al rl : List Nat} {fn : FuncId} {nt : Nat} {tm : PA Value} {R : Array Value} {G : Ghost} {k : List AItem} {k' : List Item} {ds ds' : List Deferred} {kd : CallKind} {ro ro' : Option Nat}
    {acs : List AFrame} {Fs : List Frame} (S : SRel ρ w0 n0 h w) (hg : GlobOk ρ) (D : DRel P ρ ops al rl tm R G) (hP : PendHeap P h ops tm al rl) (hgh : GhostsOk ρ n h.next ops al rl G) (hn : R.size = nt)
    (hk : ItsRel ρ k k') (hd : DefsRel ρ ds ds') (hro : RoRel ρ ro ro') (hnn : n ≤ h.next) (hc : FsRel P ρ n acs Fs) {S' : AM}
    (hst : astep P ⟨⟨fn, nt, tm, .drawR ops al :: k, ds, false, kd, ro⟩, acs, h⟩ = some S') : StepsTo P w0 n0 bs ρ (fr fn R (.inRegion ops rl :: k') ds' kd ro') Fs w S' := by
  cases al with
  | nil =>
    simp only [astep, cond_false, Option.some.injEq] at hst; subst hst
    have D0 : DRel P ρ ops [] (rl ++ []) tm R G := by simpa using D
    obtain ⟨ρ', w', R', a1, a2, a3, a4, a5, a6, a7, a8⟩ := pend_all X (fn := fn) (k' := k') (ds' := ds') (kd := kd) (ro' := ro') (cs := Fs ++ bs) hnn S hg D0 (fun p _ => by simp) (by simpa using hP) (by simpa using hgh)
    rw [List.append_nil] at a4
    refine ⟨ρ', _, Fs, w', a1, Steps.trans a4 (.one s_region_end), a5, hg.mono a1, n, hnn, ?_, hc.mono a1 a2⟩
    refine FRel.plain (r := false) (by rw [a3]; exact hn) (fun t v hv => ?_) (hk.mono a1) (hd.mono a1) (hro.mono a1)
    refine a6.tmR t v ?_
    rw [a6.tmA t] at hv
    exact hv
  | cons i al =>
    have hop : operA P ⟨fn, nt, tm, .drawR ops (i :: al) :: k, ds, false, kd, ro⟩ acs h ops.toList i = some S' := by simpa only [astep, cond_false] using hst
    have hf := regFacts D.ok
    have hisz := D.lt i (D.sub i List.mem_cons_self)
    obtain ⟨o, ho⟩ : ∃ o, ops[i]? = some o := ⟨ops[i], Array.getElem?_eq_getElem hisz⟩
    cases hv : Go.Abs.heavy o with
    | true =>
      obtain ⟨l, rl', rfl, hl⟩ := D.ahead ho hv
      obtain ⟨ρ', w', R', a1, a2, a3, a4, a5, a6, a7, a8⟩ := pend_all X (fn := fn) (k' := k') (ds' := ds') (kd := kd) (ro' := ro') (cs := Fs ++ bs) hnn S hg D hl hP hgh
      obtain ⟨ρ2, F2, Fs2, w2, b1, b2, b3⟩ := step_heavy (bs := bs) X a5 (hg.mono a1) a6 a8 ho hv (by rw [a3]; exact hn) (hk.mono a1) (hd.mono a1) (hro.mono a1) hnn (hc.mono a1 a2) hop
      exact ⟨ρ2, F2, Fs2, w2, Ren.le_trans a1 b1, Steps.trans a4 b2, b3⟩
    | false =>
      have ho' : lnth ops.toList i = some o := by rw [lnth_eq]; simpa using ho
      have hcm : isComm o = false := by
        cases hcm : isComm o with
        | false => rfl
        | true => rw [isComm_heavy hcm] at hv; cases hv
      unfold operA at hop
      rw [ho'] at hop
      simp only [hcm, cond_false] at hop
      -- the value comes
      have fin : ∀ {v : Value} {h1 : AHeap} {c' : AFrame}, (h1 = h ∨ ∃ ob, ob.fam = none ∧ h1 = (h.new ob).2) → finishA P ⟨fn, nt, tm, .drawR ops (i :: al) :: k, ds, false, kd, ro⟩ h1 v = some c' →
          ((wantedA ops.toList tm o.guard = some false ∧ v = undef) ∨ (wantedA ops.toList tm o.guard = some true ∧ execA P tm h o = some (.value v h1))) →
          (wantedA ops.toList tm o.guard = some false → h1 = h) →
          StepsTo P w0 n0 bs ρ (fr fn R (.inRegion ops rl :: k') ds' kd ro') Fs w ⟨c', acs, h1⟩ := by
        intro v h1 c' hh1 hf2 hcase hund
        simp only [finishA, ho'] at hf2
        split at hf2
        · rename_i tm' hp
          simp only [hv, cond_false] at hf2
          cases hval : (lightFree o || validate P ops.toList tm' h1 (prefixL ops i o)) with
          | false => simp only [hval, cond_false] at hf2; cases hf2
          | true =>
            simp only [hval, cond_true, Option.some.injEq] at hf2; subst hf2
            have hPend : PendHeap P h1 ops tm' al rl := by
              rcases Bool.or_eq_true_iff.1 hval with hfr | hval
              · rcases hcase with ⟨c1, rfl⟩ | ⟨c1, hex⟩
                · have : h1 = h := hund c1
                  subst this
                  exact PendHeap.free D ho hv hp hP (.inl c1)
                · obtain ⟨⟨v2, e1⟩, e2⟩ := lightFree_value hv hfr hex
                  simp only [ANext.value.injEq] at e1
                  obtain ⟨_, rfl⟩ := e1
                  exact PendHeap.free D ho hv hp hP (.inr ⟨hex, e2⟩)
              · exact PendHeap.light D ho hval
            have D2 := D.light ho hv hn hp (hcase.imp id fun hh => ⟨hh.1, h, h1, hh.2⟩)
            have hnx : h.next ≤ h1.next := by
              rcases hh1 with rfl | ⟨ob, _, rfl⟩
              · exact Nat.le_refl _
              · exact new_next _ _
            have S1 : SRel ρ w0 n0 h1 w := by
              rcases hh1 with rfl | ⟨ob, hob, rfl⟩
              · exact S
              · exact S.ghost hob
            have hgh2 : GhostsOk ρ n h1.next ops al rl (G.add i v tm) := hgh.light hnx ho fun hk2 b hb => by
              rcases hcase with ⟨_, rfl⟩ | ⟨_, hex⟩
              · cases hb
              · obtain ⟨e1, e2⟩ := kind2_block hk2 hb hex
                subst e1
                exact ⟨Nat.le_refl _, hnn, by omega, S.next_none (Nat.le_refl _)⟩
            refine ⟨ρ, _, Fs, w, Ren.le_refl _, Steps.refl _ _, S1, hg, n, Nat.le_trans hnn hnx, ?_, hc⟩
            exact .mk fn nt tm' _ ds false kd ro ro' R _ ds' hn (fun _ => .draw ops al rl k k' _ D2 hPend hgh2 hk) (fun hh => by cases hh) hd hro
        · cases hf2
      split at hop
      · rename_i hw
        cases hex : execA P tm h o with
        | none => rw [hex] at hop; cases hop
        | some a =>
          rw [hex] at hop
          obtain ⟨v, h1, rfl, hh1⟩ := light_value hv hex
          simp only [goOn] at hop
          split at hop
          · rename_i c' hf2
            simp only [Option.some.injEq] at hop; subst hop
            exact fin hh1 hf2 (.inr ⟨hw, hex⟩) (fun hh => by rw [hw] at hh; cases hh)
          · cases hop
      · rename_i hw
        split at hop
        · rename_i c' hf2
          simp only [Option.some.injEq] at hop; subst hop
          exact fin (.inl rfl) hf2 (.inl ⟨hw, rfl⟩) (fun _ => rfl)
        · cases hop
      · cases hop

/-- Every abstract step stands for real ones. -/
theorem astep_ok (X : XOk P) (hmix : P.follows .mixedOrders = true) {S S' : AM} {F : Frame} {Fs : List Frame} (M : MRel P ρ w0 n0 S F Fs w) (hst : astep P S = some S') : StepsTo P w0 n0 bs ρ F Fs w S' := by
  obtain ⟨⟨fn, nt, tm, T, ds, r, kd, ro⟩, acs, h⟩ := S
  obtain ⟨hS, hg, n, hnn, hF, hc⟩ := M
  simp only at hS hnn hF hc
  cases hF with
  | mk _ _ _ _ _ _ _ _ ro' R T' ds' hn hT hr hd hro =>
    cases r with
    | true => exact step_returning (finishOk P) hS hg hn (hr rfl) hd hro hnn hc hst
    | false =>
      cases hT rfl with
      | draw ops al rl k k' G D hP hgh hk => exact step_draw X hS hg D hP hgh hn hk hd hro hnn hc hst
      | plain _ _ hs hI =>
        by_cases hnd : ∃ id ops k, T = .code (.region id ops true) :: k
        · obtain ⟨id, ops, k, rfl⟩ := hnd
          obtain ⟨b, k', rfl, hb, hk⟩ := its_code hI
          cases hb
          simp only [astep, cond_false] at hst
          cases hok : regionOk ops with
          | false => simp only [hok, cond_false] at hst; cases hst
          | true =>
            simp only [hok, cond_true, Option.some.injEq] at hst; subst hst
            have hl := lin_facts (regFacts hok) (w.tape w.drawn (.order fn id))
            have hsch : Region.schedule (P.follows .mixedOrders) ops (w.tape w.drawn (.order fn id)) = Region.linearise .any ops (w.tape w.drawn (.order fn id)) := by
              simp [Region.schedule, hmix]
            have hstep := s_region_draw (P := P) (fn := fn) (R := R) (k := k') (D := ds') (kd := kd) (ro := ro') (cs := Fs ++ bs) (w := w) (id := id) (ops := ops)
            rw [hsch] at hstep
            refine ⟨ρ, _, Fs, w.drew, Ren.le_refl _, .one hstep, hS.drew, hg, n, hnn, ?_, hc⟩
            refine .mk fn nt tm _ ds false kd ro ro' R _ ds' hn (fun _ => .draw ops (plan ops) _ k k' _ (DRel.begins hok hl hs) ?_ ?_ hk) (fun hh => by cases hh) hd hro
            · intro i hi hia
              exact absurd ((regFacts hok).all i (hl.lt i hi)) hia
            · intro i hi hia
              exact absurd ((regFacts hok).all i (hl.lt i hi)) hia
        · exact step_plain X (finishOk P) hS hg hn hs hI hd hro hnn hc (fun id ops k hh => hnd ⟨id, ops, k, hh⟩) hst

end
end Go.Abs

/- The next entry of a map's walk: whichever it is. -/

namespace Go.Abs
section
variable {P : Program} {ρ : Ren} {w0 : World} {n0 : Nat} {h : AHeap} {w : World} {bs : List Frame}

theorem run_choose_next (n : Nat) (hn : 0 < n) (w : World) : ∃ j w', (choose (.mapNext n)).run P w = .ok j w' ∧ j < n ∧ (w' = w ∨ w' = w.drew) := by
  by_cases h1 : n ≤ 1
  · refine ⟨0, w, ?_, hn, .inl rfl⟩
    simp [choose, Sem.run, Question.forced, h1]
  · refine ⟨w.tape w.drawn (.mapNext n) % n, w.drew, ?_, Nat.mod_lt _ hn, .inr rfl⟩
    simp [choose, Sem.run, Question.forced, h1, Question.cut]

theorem EsRel.split : ∀ {l : List (Value × Value)} {l' a' b' : List MapEntry} {e : MapEntry}, EsRel ρ l l' → l' = a' ++ e :: b' →
    ∃ a k v b, l = a ++ (k, v) :: b ∧ EsRel ρ a a' ∧ e.key = k ∧ VRel ρ v e.val ∧ EsRel ρ b b'
  | _, _, a', b', e, .nil, h => by cases a' <;> simp at h
  | _, _, a', b', e, .cons k v x l l' hk hv hl, h => by
    cases a' with
    | nil =>
      simp only [List.nil_append, List.cons.injEq] at h
      obtain ⟨rfl, rfl⟩ := h
      exact ⟨[], k, v, l, rfl, .nil, hk, hv, hl⟩
    | cons y a' =>
      simp only [List.cons_append, List.cons.injEq] at h
      obtain ⟨rfl, h⟩ := h
      obtain ⟨a, k2, v2, b, h1, h2, h3, h4, h5⟩ := EsRel.split hl h
      exact ⟨(k, v) :: a, k2, v2, b, by rw [h1]; rfl, .cons k v x a a' hk hv h2, h3, h4, h5⟩

theorem EsRel.append {a b : List (Value × Value)} {a' b' : List MapEntry} (h : EsRel ρ a a') (h' : EsRel ρ b b') : EsRel ρ (a ++ b) (a' ++ b') := by
  induction h with
  | nil => exact h'
  | cons k v e l l' hk hv _ ih => exact .cons k v e _ _ hk hv ih

theorem EsRel.length {a : List (Value × Value)} {a' : List MapEntry} (h : EsRel ρ a a') : a.length = a'.length := by
  induction h with
  | nil => rfl
  | cons k v e l l' hk hv _ ih => simp [ih]

theorem goes_mem {fr : AFrame} {cs : List AFrame} {id m ver : Nat} : ∀ {l seen : List (Value × Value)} {r : List AM}, anext.goes P fr cs h id m ver seen l = some r → ∀ {a : List (Value × Value)} {k v : Value} {b : List (Value × Value)}, l = a ++ (k, v) :: b →
    ∃ fr', plainV.plainS k = true ∧ finishA P fr h (.tuple ⟨[.bool true, k, v]⟩) = some fr' ∧ (⟨fr', cs, h.setObj id (.mapIter m ver (seen ++ a ++ b) (some (k, v)))⟩ : AM) ∈ r
  | [], seen, r, _, a, k, v, b, hl => by cases a <;> simp at hl
  | (k0, v0) :: l, seen, r, hg, a, k, v, b, hl => by
    simp only [anext.goes] at hg
    split at hg
    · rename_i fr' r2 hf hg2
      simp only [Option.some.injEq] at hg; subst hg
      cases a with
      | nil =>
        simp only [List.nil_append, List.cons.injEq, Prod.mk.injEq] at hl
        obtain ⟨⟨rfl, rfl⟩, rfl⟩ := hl
        cases hp : plainV.plainS k0 with
        | false => simp only [hp, cond_false] at hf; cases hf
        | true =>
          simp only [hp, cond_true] at hf
          exact ⟨fr', rfl, hf, by simp⟩
      | cons y a =>
        simp only [List.cons_append, List.cons.injEq] at hl
        obtain ⟨rfl, hl⟩ := hl
        obtain ⟨fr2, h1, h2, h3⟩ := goes_mem hg2 hl
        exact ⟨fr2, h1, h2, List.mem_cons_of_mem _ (by simpa using h3)⟩
    · cases hg

/-- The next entry of a walk over a map that nobody has changed. -/
theorem next_map (S : SRel ρ w0 n0 h w) {id m ver : Nat} {left es : List (Value × Value)} {last : Option (Value × Value)} {e : RE} {ty : TypeId} (he : ρ id = some e) (ho : h.obj id = some (.mapIter m ver left last))
    (hm : h.obj m = some (.map es ver)) :
    (left = [] ∧ ∃ w', (Instr.next (.pointer (some ⟨e.blk, 0, none⟩)) false ty).run P w = .ok (.tuple #[.bool false]) w' ∧ SRel ρ w0 n0 h w') ∨
    ∃ a k v b v' w', left = a ++ (k, v) :: b ∧ VRel ρ v v' ∧ (Instr.next (.pointer (some ⟨e.blk, 0, none⟩)) false ty).run P w = .ok (.tuple #[.bool true, k, v']) w' ∧
      SRel ρ w0 n0 (h.setObj id (.mapIter m ver (a ++ b) (some (k, v)))) w' := by
  obtain ⟨h0, em, since, seen, stepped, h1, h2, es2, v2, h3, h4, h5⟩ := S.other ho rfl he
  rw [obj_get hm] at h3; cases h3
  obtain ⟨res, clock, h6, hM⟩ := S.other hm rfl h1
  obtain ⟨g1, g2, ⟨l, gp, gl⟩, g4⟩ := h5 rfl res clock h6
  have hg := run_getObj_of (P := P) h2 (by intros; simp)
  have hg2 := run_getObj_of (P := P) h6 (by intros; simp)
  subst g1
  have hborn := hM.2.2.1
  -- nothing that is new alone
  have hchk : (!seen.isEmpty && !res.isEmpty && res.all (fun x => decide (x.born ≥ stepped))) = false := by
    rcases g2 with rfl | rfl
    · rfl
    · cases hr : res.isEmpty with
      | true => simp
      | false =>
        have hne : res ≠ #[] := by intro hh; subst hh; cases hr
        have : 0 < res.size := by
          rcases Nat.eq_zero_or_pos res.size with h | h
          · exact absurd (Array.eq_empty_of_size_eq_zero h) hne
          · exact h
        have hx := hborn res[0] (by simp)
        have : res.all (fun x => decide (x.born ≥ stepped)) = false := by
          rw [Bool.eq_false_iff]
          intro hh
          rw [Array.all_eq_true] at hh
          have := hh 0 this
          simp at this
          omega
        rw [this]; simp
  generalize hL : res.filter (fun x => !seen.contains x.born) = L at *
  have hLlist : L.toList = res.toList.filter (fun x => !seen.contains x.born) := by rw [← hL]; simp
  have hLmem : ∀ x ∈ L, x.born < since := by
    intro x hx
    have : x ∈ L.toList := by simpa using hx
    rw [hLlist, List.mem_filter] at this
    exact hborn x this.1
  have hold : L.filter (fun x => decide (x.born < since)) = L := by
    rw [Array.filter_eq_self]
    intro x hx; simpa using hLmem x hx
  have hnew : L.filter (fun x => decide (x.born ≥ since)) = #[] := by
    rw [Array.filter_eq_empty_iff]
    intro x hx; have := hLmem x hx; simp; omega
  rw [← hLlist] at gp
  have hrun : ∀ (k : Nat → Sem Value), True := fun _ => trivial
  by_cases hemp : L = #[]
  · left
    have hl : l = [] := by
      rw [hemp] at gp
      exact List.Perm.eq_nil (by simpa using gp)
    subst hl
    have hleft : left = [] := by cases gl; rfl
    refine ⟨hleft, w, ?_, S⟩
    subst hemp
    simp only [Instr.next, Sem.run_bind, Result.andThen_ok, hg, hg2, hchk, Bool.false_eq_true, if_false, Sem.run_pure, hL, hold, hnew]
    simp [choose, Sem.run, Question.forced]
  · right
    have hpos : 0 < L.size := by
      rcases Nat.eq_zero_or_pos L.size with h | h
      · exact absurd (Array.eq_empty_of_size_eq_zero h) hemp
      · exact h
    have hne : L.isEmpty = false := by
      cases hh : L.isEmpty with
      | false => rfl
      | true => exact absurd (by simpa using hh) hemp
    obtain ⟨j, w1, c1, c2, c3⟩ := run_choose_next (P := P) L.size hpos w
    -- the entry that is drawn
    have hjm : L[j] ∈ l := (gp.symm).subset (by simp)
    obtain ⟨la, lb, hlab⟩ := List.append_of_mem hjm
    obtain ⟨a, k, v, b, q1, q2, q3, q4, q5⟩ := gl.split hlab
    have hS1 : SRel ρ w0 n0 h w1 := by
      rcases c3 with rfl | rfl
      · exact S
      · exact S.drew
    have hheap : w1.heap = w.heap := by rcases c3 with rfl | rfl <;> rfl
    have h2' : w1.heap[e.blk]? = some (.mapIter (some em.blk) since seen stepped) := by rw [hheap]; exact h2
    have hs := fun o => run_setObj_of (P := P) o h2' (by intros; simp)
    have hblk := S.blk id e he
    have hmblk := S.blk m em h1
    have hne2 : em.blk ≠ e.blk := by intro hh; rw [hh, h2] at h6; cases h6
    have hmid : m ≠ id := by intro hh; subst hh; rw [ho] at hm; cases hm
    refine ⟨a, k, v, b, L[j].val, _, q1, q4, ?_, hS1.setO he (obj_get ho) rfl rfl (by intro _ _ hh; cases hh) (ro := .mapIter (some em.blk) since (seen.push L[j].born) since) rfl ?_⟩
    · have hcand : (if L.isEmpty = true then #[none] else #[]) ++ Array.map some (L ++ #[]) = L.map some := by simp [hne]
      simp only [Instr.next, Sem.run_bind, Result.andThen_ok, hg, hg2, hchk, Bool.false_eq_true, if_false, Sem.run_pure, hL, hold, hnew]
      have hc2 : (if L.isEmpty = true then (#[none] : Array (Option MapEntry)) else #[]) ++ Array.map some (L ++ #[]) = L.map some := by simp [hne]
      rw [hc2]
      rw [show (L.map some).size = L.size by simp]
      rw [c1]
      simp only [Result.andThen_ok]
      rw [show ((L.map some)[j]? : Option (Option MapEntry)) = some (some L[j]) by simp [c2]]
      simp only [Sem.run_bind, hs, Result.andThen_ok, Sem.run_pure, q3]
    · obtain ⟨n1, n2, n3⟩ := h.setObj_eq id (.mapIter m ver (a ++ b) (some (k, v)))
      refine ⟨h0, em, since, seen.push L[j].born, since, h1, ?_, es, ver, by rw [n3, if_neg hmid]; exact obj_get hm, Nat.le_refl _, fun _ res' clock' hr => ?_⟩
      · simp [hheap, hblk]
      · have : res' = res ∧ clock' = since := by
          have hr' : w.heap[em.blk]? = some (.map res' clock') := by
            rw [← hheap, ← hr]
            exact (Array.getElem?_setIfInBounds_ne (fun hh => hne2 hh.symm)).symm
          rw [h6] at hr'
          simp only [Option.some.injEq, Obj.map.injEq] at hr'
          exact ⟨hr'.1.symm, hr'.2.symm⟩
        obtain ⟨rfl, rfl⟩ := this
        refine ⟨rfl, .inr rfl, ⟨la ++ lb, ?_, q2.append q5⟩, fun k' v' hk' => ?_⟩
        · -- all but the one that came
          have hnd : (L.toList.map (·.born)).Nodup := by
            rw [hLlist]
            exact (List.Sublist.map _ List.filter_sublist).nodup hM.2.2.2
          have hf : res'.toList.filter (fun x => !(seen.push L[j].born).contains x.born) = L.toList.filter (fun x => !(x.born == L[j].born)) := by
            rw [hLlist, List.filter_filter]
            apply List.filter_congr
            intro x _
            simp only [Array.contains_push]
            cases h1 : seen.contains x.born <;> cases h2 : (x.born == L[j].born) <;> simp_all
          rw [hf]
          have hp2 : (la ++ L[j] :: lb).Perm L.toList := by rw [← hlab]; exact gp
          have hp3 := hp2.filter (fun x => !(x.born == L[j].born))
          refine List.Perm.trans ?_ hp3
          rw [List.filter_append, List.filter_cons]
          simp only [beq_self_eq_true, Bool.not_true, Bool.false_eq_true, if_false]
          have hnd2 : ((la ++ L[j] :: lb).map (·.born)).Nodup := (hp2.map (fun x => x.born)).nodup_iff.2 hnd
          rw [List.map_append, List.map_cons, List.nodup_append, List.nodup_cons] at hnd2
          have hfa : la.filter (fun x => !(x.born == L[j].born)) = la := by
            rw [List.filter_eq_self]
            intro x hx
            have := hnd2.2.2 x.born (List.mem_map.2 ⟨x, hx, rfl⟩) L[j].born List.mem_cons_self
            simpa using this
          have hfb : lb.filter (fun x => !(x.born == L[j].born)) = lb := by
            rw [List.filter_eq_self]
            intro x hx
            have : x.born ≠ L[j].born := by
              intro hh
              exact hnd2.2.1.1 (hh ▸ List.mem_map.2 ⟨x, hx, rfl⟩)
            simpa using this
          rw [hfa, hfb]
        · simp only [Option.some.injEq, Prod.mk.injEq] at hk'
          obtain ⟨rfl, rfl⟩ := hk'
          refine ⟨L[j], L[j].born, by simp, ?_, rfl, q3, q4, rfl⟩
          have : L[j] ∈ L.toList := by simp
          rw [hLlist, List.mem_filter] at this
          exact this.1

/-- Some one of the next ones stands for what the real machine does. -/
theorem anext_ok {S : AM} {l : List AM} {F : Frame} {Fs : List Frame} (M : MRel P ρ w0 n0 S F Fs w) (hst : anext P S = some l) : ∃ S' ∈ l, StepsTo P w0 n0 bs ρ F Fs w S' := by
  obtain ⟨⟨fn, nt, tm, T, ds, r, kd, ro⟩, acs, h⟩ := S
  obtain ⟨hS, hg, n, hnn, hF, hc⟩ := M
  simp only at hS hnn hF hc
  unfold anext at hst
  simp only at hst
  split at hst
  · rename_i ops i rest k
    split at hst
    · rename_i o hlo
      rw [lnth_eq] at hlo
      have ho : ops[i]? = some o := by simpa using hlo
      split at hst
      · rename_i it hop hgd
        split at hst
        · rename_i id hev
          split at hst
          · rename_i m ver left last hob
            split at hst
            · rename_i es ver' hmob
              cases hbv : Nat.beq ver ver' with
              | false => simp only [hbv, cond_false] at hst; cases hst
              | true =>
                have hbv := Nat.eq_of_beq_eq_true hbv
                subst hbv
                simp only [Nat.beq_refl, cond_true] at hst
                cases hF with
                | mk _ _ _ _ _ _ _ _ ro' R T' ds' hn hT hr hd hro =>
                  cases hT rfl with
                  | plain _ _ hs hI =>
                    obtain ⟨b', k', rfl, hb, hk⟩ := its_code hI
                    cases hb
                    have hR := op_rel hg hs (fr fn R (.inRegion ops (i :: rest) :: k') ds' kd ro') rfl
                    obtain ⟨e, he, hx⟩ := (hR it _ hev).ptr_inv
                    have h0 : e.shift = 0 := by
                      obtain ⟨h0, _⟩ := hS.other hob rfl he
                      exact h0
                    rw [h0] at hx
                    have hwr := wantedA_plain (ops := ops) hs hn (o := o) (b := true) (by rw [hgd]; rfl)
                    have hdef : ro' = none ∨ ∀ c, o.op ≠ .defer c := .inr (by intro c hh; rw [hop] at hh; cases hh)
                    have hexec : ∀ {v : Value} {w' : World}, (Instr.next (.pointer (some ⟨e.blk, 0, none⟩)) false o.type).run P w = .ok v w' →
                        (execOp (fr fn R (.inRegion ops (i :: rest) :: k') ds' kd ro').eval o).run P w = .ok (.value v) w' := by
                      intro v w' hrn
                      simp only [execOp, hop, hx]
                      rw [Sem.run_bind]
                      simp only [Nat.zero_add]
                      rw [hrn]
                      rfl
                    rcases next_map (P := P) (ty := o.type) hS he hob hmob with ⟨rfl, w', hrn, hS'⟩ | ⟨a, k2, v, b, v', w', rfl, hv, hrn, hS'⟩
                    · simp only at hst
                      split at hst
                      · rename_i c' hf
                        simp only [Option.some.injEq] at hst; subst hst
                        exact ⟨_, List.mem_singleton.2 rfl, ρ, _, Fs, w', Ren.le_refl _, .one (s_value ho hwr hdef (hexec hrn)), hS', hg, n, hnn,
                          finish_plain (r := false) hn hs (.cons _ _ _ _ (.seqR _ _) hk) hd hro (.tuple _ _ (.cons _ _ _ _ (.bool _) .nil)) hf, hc⟩
                      · cases hst
                    · have hst2 : anext.goes P ⟨fn, nt, tm, .seqR ops (i :: rest) :: k, ds, false, kd, ro⟩ acs h id m ver [] (a ++ (k2, v) :: b) = some l := by
                        cases a with
                        | nil => exact hst
                        | cons x a => exact hst
                      obtain ⟨c', hp, hf, hmem⟩ := goes_mem hst2 rfl
                      refine ⟨_, hmem, ρ, _, Fs, w', Ren.le_refl _, .one (s_value ho hwr hdef (hexec hrn)), ?_, hg, n, ?_, ?_, hc⟩
                      · simpa using hS'
                      · simp only [setObj_next]; exact hnn
                      · refine finish_plain (h := h) (r := false) hn hs (.cons _ _ _ _ (.seqR _ _) hk) hd hro (.tuple _ _ (.cons _ _ _ _ (.bool _) (.cons _ _ _ _ (plainS_rel hp) (.cons _ _ _ _ hv .nil)))) hf
            · cases hst
          · cases hst
        · cases hst
      · cases hst
    · cases hst
  · cases hst

end
end Go.Abs

/- The abstract machine once more, in a form that the kernel runs faster. -/

namespace Go.Abs

noncomputable def x_move (x : Operand) (P : Program) (tm : PA Value) (h : AHeap) : Option ANext :=
  match ev tm x with | some v => some (.value v h) | none => none

noncomputable def x_assign (x : Operand) (P : Program) (tm : PA Value) (h : AHeap) : Option ANext :=
  match ev tm x with | some v => some (.value v h) | none => none

noncomputable def x_pick (c a b : Operand) (P : Program) (tm : PA Value) (h : AHeap) : Option ANext :=
  match ev tm c with
    | some (.bool t) => match ev tm (bif t then a else b) with | some v => some (.value v h) | none => none
    | _ => none

noncomputable def x_alloc (elem : TypeId) (P : Program) (tm : PA Value) (h : AHeap) : Option ANext :=
  match zeroT P elem, sizeT P elem with
    | some z, some k => match newRowA h elem k true (cellsL z) (lengthL (cellsL z)) with | (id, h) => some (.value (.pointer (some ⟨id, 0, none⟩)) h)
    | _, _ => none

noncomputable def x_box (elem : TypeId) (x : Operand) (P : Program) (tm : PA Value) (h : AHeap) : Option ANext :=
  match ev tm x, sizeT P elem with
    | some v, some k => match newRowA h elem k true (cellsL v) (lengthL (cellsL v)) with | (id, h) => some (.value (.pointer (some ⟨id, 0, none⟩)) h)
    | _, _ => none

noncomputable def x_build (t : TypeId) (parts : Array (Nat × Operand)) (P : Program) (tm : PA Value) (h : AHeap) : Option ANext :=
  match parts with | ⟨parts⟩ => match evParts tm parts with
    | some ps => match buildA P t ps with | some v => some (.value v h) | none => none
    | none => none

noncomputable def x_buildSlice (t : TypeId) (len : Nat) (parts : Array (Nat × Operand)) (P : Program) (tm : PA Value) (h : AHeap) : Option ANext :=
  match parts with | ⟨parts⟩ => match evParts tm parts, P.underlying t with
    | some ps, some (.slice elem) => match P.info? elem with
      | some i => match zeroT P elem with
        | some z =>
          bif Nat.ble (Nat.mul len i.size) 65536 && !Nat.beq i.size 0 && Nat.beq (lengthL (cellsL z)) i.size then
            match fillA (fun j => some (Nat.mul j i.size, i.size)) (repL (cellsL z) len) ps with
            | some cs => match newRowA h elem i.size true cs (Nat.mul len i.size) with
              | (id, h) => some (.value (.slice (some ⟨id, 0, none⟩) len len) h)
            | none => none
          else none
        | none => none
      | none => none
    | _, _ => none

noncomputable def x_load (t : TypeId) (a : Operand) (P : Program) (tm : PA Value) (h : AHeap) : Option ANext :=
  match ev tm a, isAggT P t with
    | some (.pointer (some ⟨id, off, none⟩)), some true => match sizeT P t with
      | some n => match h.load id off n with | some l => some (.value (.agg ⟨l⟩) h) | none => none
      | none => none
    | some (.pointer (some ⟨id, off, none⟩)), some false => match h.load id off 1 with
      | some [v] => some (.value v h)
      | _ => none
    | _, _ => none

noncomputable def x_store (t : TypeId) (a x : Operand) (P : Program) (tm : PA Value) (h : AHeap) : Option ANext :=
  match ev tm a, ev tm x, sizeT P t with
    | some (.pointer (some ⟨id, off, none⟩)), some v, some n =>
      bif Nat.beq (lengthL (cellsL v)) n then
        match h.store id off (cellsL v) with | some h => some (.skip h) | none => none
      else none
    | _, _, _ => none

noncomputable def x_nilCheck (x : Operand) (P : Program) (tm : PA Value) (h : AHeap) : Option ANext :=
  match ev tm x with
    | some (.pointer (some a)) => some (.value (.pointer (some a)) h)
    | some (.iface t v) => some (.value (.iface t v) h)
    | some (.func (.func f) a b) => some (.value (.func (.func f) a b) h)
    | _ => none

noncomputable def x_binOp (op : BinOp) (t : TypeId) (x y : Operand) (_ : TypeId) (P : Program) (tm : PA Value) (h : AHeap) : Option ANext :=
  match ev tm x, ev tm y with
    | some v, some w => match abin P op t v w with | some r => some (.value r h) | none => none
    | _, _ => none

noncomputable def x_unOp (op : UnOp) (_ : TypeId) (x : Operand) (P : Program) (tm : PA Value) (h : AHeap) : Option ANext :=
  match ev tm x with
    | some v => match aun P op v with | some r => some (.value r h) | none => none
    | none => none

noncomputable def x_convert (s d : TypeId) (x : Operand) (P : Program) (tm : PA Value) (h : AHeap) : Option ANext :=
  match ev tm x with
    | some v => match convertA P h s d v with | some (r, h) => some (.value r h) | none => none
    | none => none

noncomputable def x_makeInterface (t : TypeId) (x : Operand) (P : Program) (tm : PA Value) (h : AHeap) : Option ANext :=
  match ev tm x, P.underlying t with
    | _, some (.interface _) => none
    | some v, some _ => some (.value (.iface t v) h)
    | _, _ => none

noncomputable def x_makeFunc (fn : Fn) (first captured : Array Operand) (P : Program) (tm : PA Value) (h : AHeap) : Option ANext :=
  match first, captured with | ⟨first⟩, ⟨captured⟩ => match fn with
    | .yield _ => none
    | _ => match evs tm first, evs tm captured with
      | some a, some b => some (.value (.func fn ⟨a⟩ ⟨b⟩) h)
      | _, _ => none

noncomputable def x_makeMap (t : TypeId) (r : Option Operand) (P : Program) (tm : PA Value) (h : AHeap) : Option ANext :=
  match r with
  | none => match h.new (.map [] 0) with | (id, h) => some (.value (.map (some id)) h)
  | some _ => none

noncomputable def x_makeChan (t : TypeId) (s : Operand) (P : Program) (tm : PA Value) (h : AHeap) : Option ANext :=
  match ev tm s, P.underlying t with
    | some (.int _ n), some (.chan _ elem) => match asNat n, P.info? elem with
      | some n, some i => bif Nat.ble n 65536 && Nat.ble i.bytes 65536 then
          match h.new (.chan n [] false) with | (id, h) => some (.value (.chan (some id)) h)
        else none
      | _, _ => none
    | _, _ => none

noncomputable def x_makeSlice (t : TypeId) (l c : Operand) (P : Program) (tm : PA Value) (h : AHeap) : Option ANext :=
  match ev tm l, ev tm c, P.underlying t with
    | some (.int _ l), some (.int _ c), some (.slice elem) => match asNat l, asNat c, P.info? elem with
      | some l, some c, some i => match zeroT P elem with
        | some z =>
          bif Nat.ble l c && Nat.ble c 65536 && Nat.ble i.bytes 65536 && Nat.beq (lengthL (cellsL z)) i.size && !Nat.beq i.size 0 then
            match newRowA h elem i.size true (repL (cellsL z) c) (Nat.mul c i.size) with
            | (id, h) => some (.value (.slice (some ⟨id, 0, none⟩) l c) h)
          else none
        | none => none
      | _, _, _ => none
    | _, _, _ => none

noncomputable def x_slice (t : TypeId) (x : Operand) (lo hi mx : Option Operand) (P : Program) (tm : PA Value) (h : AHeap) : Option ANext :=
  match ev tm x, opt tm lo, opt tm hi, opt tm mx with
    | some v, some lo, some hi, some mx => match sliceA P h t v lo hi mx with | some (r, h) => some (.value r h) | none => none
    | _, _, _, _ => none

noncomputable def x_fieldAddr (s : TypeId) (x : Operand) (f : Nat) (P : Program) (tm : PA Value) (h : AHeap) : Option ANext :=
  match ev tm x, fieldOf P s f with
    | some (.pointer (some ⟨id, off, none⟩)), some fd => match sizeT P fd.type with
      | some n => bif Nat.beq n 0 then none else some (.value (.pointer (some ⟨id, Nat.add off fd.offset, none⟩)) h)
      | none => none
    | _, _ => none

noncomputable def x_field (t : TypeId) (x : Operand) (f : Nat) (P : Program) (tm : PA Value) (h : AHeap) : Option ANext :=
  match ev tm x, fieldOf P t f with
    | some (.agg ⟨l⟩), some fd => match apart P fd.type l fd.offset with | some v => some (.value v h) | none => none
    | _, _ => none

noncomputable def x_indexAddr (t : TypeId) (x ix : Operand) (P : Program) (tm : PA Value) (h : AHeap) : Option ANext :=
  match ev tm x, ev tm ix, P.underlying t with
    | some (.pointer (some ⟨id, off, none⟩)), some (.int _ i), some (.array len elem) => match asNat i, sizeT P elem with
      | some i, some k => bif Nat.ble (Nat.succ i) len then some (.value (.pointer (some ⟨id, Nat.add off (Nat.mul i k), none⟩)) h) else none
      | _, _ => none
    | some (.slice (some ⟨id, off, none⟩) len _), some (.int _ i), some (.slice elem) => match asNat i, sizeT P elem with
      | some i, some k => bif Nat.ble (Nat.succ i) len then some (.value (.pointer (some ⟨id, Nat.add off (Nat.mul i k), none⟩)) h) else none
      | _, _ => none
    | _, _, _ => none

noncomputable def x_index (t : TypeId) (x ix : Operand) (P : Program) (tm : PA Value) (h : AHeap) : Option ANext :=
  match ev tm x, ev tm ix, P.underlying t with
    | some (.agg ⟨l⟩), some (.int _ i), some (.array len elem) => match asNat i, sizeT P elem with
      | some i, some k => bif Nat.ble (Nat.succ i) len then
          match apart P elem l (Nat.mul i k) with | some v => some (.value v h) | none => none
        else none
      | _, _ => none
    | some (.string ⟨⟨l⟩⟩), some (.int _ i), some .string => match asNat i with
      | some i => match lnth l i with | some b => some (.value (.int .u8 b.toNat) h) | none => none
      | none => none
    | _, _, _ => none

noncomputable def x_lookup (t : TypeId) (x ix : Operand) (ok : Bool) (P : Program) (tm : PA Value) (h : AHeap) : Option ANext :=
  match ev tm x, ev tm ix, P.underlying t with
    | some m, some k, some (.map kt et) =>
      bif keyT P kt k then
        match (match m with
          | .map none => some none
          | .map (some r) => match h.obj r with
            | some (.map es _) => findE k es
            | _ => none
          | _ => none : Option (Option Value)) with
        | some (some v) => some (.value (bif ok then .tuple ⟨[v, .bool true]⟩ else v) h)
        | some none => match zeroT P et with
          | some z => some (.value (bif ok then .tuple ⟨[z, .bool false]⟩ else z) h)
          | none => none
        | none => none
      else none
    | _, _, _ => none

noncomputable def x_mapUpdate (t : TypeId) (m k x : Operand) (P : Program) (tm : PA Value) (h : AHeap) : Option ANext :=
  match ev tm m, ev tm k, ev tm x, P.underlying t with
    | some (.map (some r)), some k, some v, some (.map kt _) =>
      bif keyT P kt k then
        match h.obj r with
        | some (.map es ver) => match putE k v es with
          | some es => some (.skip (h.setObj r (.map es (Nat.succ ver))))
          | none => none
        | _ => none
      else none
    | _, _, _, _ => none

noncomputable def x_insert (t : TypeId) (m k x : Operand) (P : Program) (tm : PA Value) (h : AHeap) : Option ANext :=
  match ev tm m, ev tm k, ev tm x, P.underlying t with
    | some (.map (some r)), some k, some v, some (.map kt _) =>
      bif keyT P kt k then
        match h.obj r with
        | some (.map es ver) => match putE k v es with
          | some es => some (.skip (h.setObj r (.map es (Nat.succ ver))))
          | none => none
        | _ => none
      else none
    | _, _, _, _ => none

noncomputable def x_typeAssert (x : Operand) (_ asserted : TypeId) (ok : Bool) (P : Program) (tm : PA Value) (h : AHeap) : Option ANext :=
  match ev tm x, P.underlying asserted with
    | _, some (.interface _) => none
    | some (.iface t v), some _ =>
      bif Nat.beq t asserted then some (.value (bif ok then .tuple ⟨[v, .bool true]⟩ else v) h)
      else bif ok then
        match zeroT P asserted with | some z => some (.value (.tuple ⟨[z, .bool false]⟩) h) | none => none
      else none
    | _, _ => none

noncomputable def x_extract (t : Operand) (ix : Nat) (P : Program) (tm : PA Value) (h : AHeap) : Option ANext :=
  match ev tm t with
    | some (.tuple ⟨l⟩) => match lnth l ix with | some v => some (.value v h) | none => none
    | _ => none

noncomputable def x_call (c : Call) (P : Program) (tm : PA Value) (h : AHeap) : Option ANext :=
  match evs tm c.args.toList with
    | some args => match c.callee with
      | .builtin b => builtinA P h b c.argTypes.toList args
      | .invoke r name => match ev tm r with
        | some v => callMethodA P h name (v :: args)
        | none => none
      | .value f => match ev tm f with
        | some v => callValueA P h v args
        | none => none
    | none => none

noncomputable def x_range (t : TypeId) (x : Operand) (P : Program) (tm : PA Value) (h : AHeap) : Option ANext :=
  match ev tm x, P.underlying t with
    | some (.map (some r)), some (.map _ _) => match h.obj r with
      | some (.map es ver) => match h.new (.mapIter r ver es none) with | (id, h) => some (.value (.pointer (some ⟨id, 0, none⟩)) h)
      | _ => none
    | some (.string s), some .string => match h.new (.strIter s 0) with | (id, h) => some (.value (.pointer (some ⟨id, 0, none⟩)) h)
    | _, _ => none

noncomputable def x_next (it : Operand) (s : Bool) (P : Program) (tm : PA Value) (h : AHeap) : Option ANext :=
  match s with
  | true => match ev tm it with
    | some (.pointer (some ⟨id, 0, none⟩)) => match h.obj id with
      | some (.strIter s pos) =>
        bif Nat.blt pos (sizeB s) then
          match Utf8.decode s pos with
          | (c, width) => some (.value (.tuple ⟨[.bool true, .int .i64 pos, .int .i32 c]⟩) (h.setObj id (.strIter s (Nat.add pos width))))
        else some (.value (.tuple ⟨[.bool false]⟩) h)
      | _ => none
    | _ => none
  | false => none

noncomputable def x_entry (it : Operand) (P : Program) (tm : PA Value) (h : AHeap) : Option ANext :=
  match ev tm it with
    | some (.pointer (some ⟨id, 0, none⟩)) => match h.obj id with
      | some (.mapIter m ver _ (some (k, v))) => match h.obj m with
        | some (.map _ ver') => bif plainV.plainS k && Nat.beq ver ver' then some (.value (.tuple ⟨[k, v]⟩) h) else none
        | _ => none
      | _ => none
    | _ => none

noncomputable def x_defer (c : Call) (P : Program) (tm : PA Value) (h : AHeap) : Option ANext :=
  match evs tm c.args.toList with
    | some args => match c.callee with
      | .value f => match ev tm f with
        | some (.func (.func g) ⟨first⟩ ⟨captured⟩) => some (.defer { target := .fn (.func g) ⟨captured⟩, args := ⟨first ++ args⟩ })
        | _ => none
      | _ => none
    | none => none

noncomputable def x_none (_ : Program) (_ : PA Value) (_ : AHeap) : Option ANext := none

noncomputable def execF : Op → Program → PA Value → AHeap → Option ANext :=
  Op.rec (motive := fun _ => Program → PA Value → AHeap → Option ANext) (move := x_move) (assign := x_assign) (pick := x_pick) (alloc := x_alloc) (box := x_box) (build := x_build) (buildSlice := x_buildSlice) (insert := x_insert) (load := x_load) (store := x_store) (ready := fun _ => x_none) (waits := fun _ => x_none) (nilCheck := x_nilCheck) (binOp := x_binOp) (unOp := x_unOp) (convert := x_convert) (sliceToArrayPointer := fun _ _ => x_none) (makeInterface := x_makeInterface) (makeFunc := x_makeFunc) (makeMap := x_makeMap) (makeChan := x_makeChan) (makeSlice := x_makeSlice) (slice := x_slice) (fieldAddr := x_fieldAddr) (field := x_field) (indexAddr := x_indexAddr) (index := x_index) (lookup := x_lookup) (mapUpdate := x_mapUpdate) (mapEntry := fun _ _ _ => x_none) (entryStore := fun _ _ _ _ => x_none) (range := x_range) (next := x_next) (entry := x_entry) (typeAssert := x_typeAssert) (extract := x_extract) (call := x_call) (go := fun _ => x_none) (defer := x_defer) (panic := fun _ => x_none) (send := fun _ _ => x_none) (recv := fun _ _ _ => x_none) (select := fun _ _ => x_none)

theorem execF_eq (P : Program) (tm : PA Value) (h : AHeap) (o : Oper) : execF o.op P tm h = execA P tm h o := by
  obtain ⟨dst, op, type, pos, after, guard⟩ := o
  cases op <;> first
    | rfl
    | (rename_i r; cases r <;> rfl)
    | (rename_i it s; cases s <;> rfl)
    | skip

/-- The frame is at an operation of a plain region. -/
noncomputable def fSeqV (P : Program) (fn nt : Nat) (tm : PA Value) (ds : List Deferred) (kd : CallKind) (ro : Option Nat) (cs : List AFrame) (ops : Array Oper) (rest : List Nat) (k : List AItem) (d : Option Tmp) (v : Value) (h : AHeap) : Option AM :=
  Option.rec (motive := fun _ => Option AM) (some ⟨⟨fn, nt, tm, .seqR ops rest :: k, ds, false, kd, ro⟩, cs, h⟩)
    (fun d => Bool.rec (motive := fun _ => Option AM) none (Box.rec (motive := fun _ => Option AM) (fun tm => some ⟨⟨fn, nt, tm, .seqR ops rest :: k, ds, false, kd, ro⟩, cs, h⟩) (tm.put d v)) (Nat.blt d nt)) d

noncomputable def fSeqN (P : Program) (fn nt : Nat) (tm : PA Value) (ds : List Deferred) (kd : CallKind) (ro : Option Nat) (cs : List AFrame) (h : AHeap) (ops : Array Oper) (i : Nat) (rest : List Nat) (k : List AItem) (o : Oper) (a : ANext) : Option AM :=
  ANext.rec (motive := fun _ => Option AM) (fun v h => fSeqV P fn nt tm ds kd ro cs ops rest k o.dst v h) (fun h => fSeqV P fn nt tm ds kd ro cs ops rest k o.dst undef h)
    (fun f args => match enterA P f args .normal with | some fr' => some ⟨fr', ⟨fn, nt, tm, .seqR ops (i :: rest) :: k, ds, false, kd, ro⟩ :: cs, h⟩ | none => none)
    (fun l args => goOn P ⟨fn, nt, tm, .seqR ops (i :: rest) :: k, ds, false, kd, ro⟩ cs h (some (.round l args)))
    (fun d => goOn P ⟨fn, nt, tm, .seqR ops (i :: rest) :: k, ds, false, kd, ro⟩ cs h (some (.defer d))) a

noncomputable def fSeqO (P : Program) (fn nt : Nat) (tm : PA Value) (ds : List Deferred) (kd : CallKind) (ro : Option Nat) (cs : List AFrame) (h : AHeap) (ops : Array Oper) (i : Nat) (rest : List Nat) (k : List AItem) (o : Oper) : Option AM :=
  Option.rec (motive := fun _ => Option AM) (operA P ⟨fn, nt, tm, .seqR ops (i :: rest) :: k, ds, false, kd, ro⟩ cs h ops.toList i)
    (fun a => fSeqN P fn nt tm ds kd ro cs h ops i rest k o a) (execF o.op P tm h)

noncomputable def fSeqG (P : Program) (fn nt : Nat) (tm : PA Value) (ds : List Deferred) (kd : CallKind) (ro : Option Nat) (cs : List AFrame) (h : AHeap) (ops : Array Oper) (i : Nat) (rest : List Nat) (k : List AItem) (o : Oper) : Option AM :=
  Option.rec (motive := fun _ => Option AM) (fSeqO P fn nt tm ds kd ro cs h ops i rest k o)
    (fun g => match wantedA ops.toList tm (some g) with
      | some true => fSeqO P fn nt tm ds kd ro cs h ops i rest k o
      | some false => fSeqV P fn nt tm ds kd ro cs ops rest k o.dst undef h
      | none => none) o.guard

abbrev FItem := List AItem → Program → FuncId → Nat → PA Value → List Deferred → CallKind → Option Nat → List AFrame → AHeap → Option AM

noncomputable def fNext : FItem := fun k _ fn nt tm ds kd ro cs h => some ⟨⟨fn, nt, tm, k, ds, false, kd, ro⟩, cs, h⟩

noncomputable def fSeqR (ops : Array Oper) (l : List Nat) : FItem := fun k P fn nt tm ds kd ro cs h =>
  List.rec (motive := fun _ => Option AM) (some ⟨⟨fn, nt, tm, k, ds, false, kd, ro⟩, cs, h⟩)
    (fun i rest _ => Option.rec (motive := fun _ => Option AM) none (fun o => fSeqG P fn nt tm ds kd ro cs h ops i rest k o) (lnth ops.toList i)) l

noncomputable def fOld (it : AItem) : FItem := fun k P fn nt tm ds kd ro cs h => astep P ⟨⟨fn, nt, tm, it :: k, ds, false, kd, ro⟩, cs, h⟩

noncomputable def fCond (x : Operand) (a b : Code) : FItem := fun k P fn nt tm ds kd ro cs h =>
  match ev tm x with
  | some (.bool true) => some ⟨⟨fn, nt, tm, .code a :: k, ds, false, kd, ro⟩, cs, h⟩
  | some (.bool false) => some ⟨⟨fn, nt, tm, .code b :: k, ds, false, kd, ro⟩, cs, h⟩
  | _ => none

noncomputable def fSq (a b : Code) : FItem := fun k _ fn nt tm ds kd ro cs h => some ⟨⟨fn, nt, tm, .code a :: .code b :: k, ds, false, kd, ro⟩, cs, h⟩
noncomputable def fBlock (id : Nat) (b : Code) : FItem := fun k _ fn nt tm ds kd ro cs h => some ⟨⟨fn, nt, tm, .code b :: .inBlock id :: k, ds, false, kd, ro⟩, cs, h⟩
noncomputable def fLoop (b : Code) : FItem := fun k _ fn nt tm ds kd ro cs h => some ⟨⟨fn, nt, tm, .code b :: .inLoop b :: k, ds, false, kd, ro⟩, cs, h⟩
noncomputable def fScope (b : Code) : FItem := fun k _ fn nt tm ds kd ro cs h => some ⟨⟨fn, nt, tm, .code b :: .inScope b :: k, ds, false, kd, ro⟩, cs, h⟩
noncomputable def fExit (id : Nat) : FItem := fun k P fn nt tm ds kd ro cs h =>
  Option.rec (motive := fun _ => Option AM) (leaveA P ⟨fn, nt, tm, .code (.exit id) :: k, ds, false, kd, ro⟩ cs h (some (.exit id))) (fun k => some ⟨⟨fn, nt, tm, k, ds, false, kd, ro⟩, cs, h⟩) (exitToA id k)
noncomputable def fRegion (id : Nat) (ops : Array Oper) (draw : Bool) : FItem := fun k P fn nt tm ds kd ro cs h =>
  Bool.rec (motive := fun _ => Option AM) (some ⟨⟨fn, nt, tm, .seqR ops (List.range ops.size) :: k, ds, false, kd, ro⟩, cs, h⟩) (astep P ⟨⟨fn, nt, tm, .code (.region id ops true) :: k, ds, false, kd, ro⟩, cs, h⟩) draw

noncomputable def fCode : Code → FItem :=
  Code.rec (motive := fun _ => FItem) (skip := fNext) (region := fRegion) (seq := fun a b _ _ => fSq a b) (cond := fun x a b _ _ => fCond x a b) (block := fun id b _ => fBlock id b) (loop := fun b _ => fLoop b)
    (rangeFunc := fun f ps a b _ _ => fOld (.code (.rangeFunc f ps a b))) (exit := fExit) (scope := fun b _ => fScope b) (label := fun _ => fNext) (goto := fun l => fOld (.code (.goto l))) (ret := fOld (.code .ret)) (refuse := fun w => fOld (.code (.refuse w)))

noncomputable def fItem : AItem → FItem :=
  AItem.rec (motive := fun _ => FItem) (code := fCode) (inBlock := fun _ => fNext) (inLoop := fLoop) (inScope := fun _ => fNext) (seqR := fSeqR) (drawR := fun ops l => fOld (.drawR ops l)) (inRangeFunc := fun l => fOld (.inRangeFunc l)) (endRangeFunc := fun l => fOld (.endRangeFunc l)) (beginRound := fOld .beginRound)

noncomputable def fRun (P : Program) (fn nt : Nat) (tm : PA Value) (todo : List AItem) (ds : List Deferred) (kd : CallKind) (ro : Option Nat) (cs : List AFrame) (h : AHeap) : Option AM :=
  List.rec (motive := fun _ => Option AM) (leaveA P ⟨fn, nt, tm, [], ds, false, kd, ro⟩ cs h none) (fun it k _ => fItem it k P fn nt tm ds kd ro cs h) todo

noncomputable def fstep (P : Program) (S : AM) : Option AM :=
  AM.rec (motive := fun _ => Option AM) (fun fr cs h => AFrame.rec (motive := fun _ => Option AM)
    (fun fn nt tm todo ds r kd ro => Bool.rec (motive := fun _ => Option AM) (fRun P fn nt tm todo ds kd ro cs h) (astep P ⟨⟨fn, nt, tm, todo, ds, true, kd, ro⟩, cs, h⟩) r) fr) S

/-- So many steps. -/
noncomputable def frun (P : Program) (n : Nat) (S : AM) : Option AM :=
  Nat.rec (motive := fun _ => AM → Option AM) (fun S => some S) (fun _ g S => Option.rec (motive := fun _ => Option AM) none (fun S => g S) (fstep P S)) n S

theorem fSeqV_eq {P : Program} {fn nt : Nat} {tm : PA Value} {ds : List Deferred} {kd : CallKind} {ro : Option Nat} {cs : List AFrame} {ops : Array Oper} {i : Nat} {rest : List Nat} {k : List AItem} {o : Oper} {v : Value} {h : AHeap} (ho : lnth ops.toList i = some o) :
    fSeqV P fn nt tm ds kd ro cs ops rest k o.dst v h = match finishA P ⟨fn, nt, tm, .seqR ops (i :: rest) :: k, ds, false, kd, ro⟩ h v with | some fr => some ⟨fr, cs, h⟩ | none => none := by
  simp only [finishA, ho]
  unfold fSeqV putDst
  cases o.dst with
  | none => rfl
  | some d =>
    cases hb : Nat.blt d nt with
    | false => simp only [hb]; rfl
    | true =>
      simp only [hb, cond_true]

theorem isComm_none {P : Program} {tm : PA Value} {h : AHeap} {o : Oper} (hc : isComm o = true) : execA P tm h o = none := by
  unfold isComm at hc
  unfold execA
  split at hc
  · rename_i hop; simp only [hop]
  · rename_i hop; simp only [hop]
  · rename_i hop; simp only [hop]
  · cases hc

theorem fSeqO_eq {P : Program} {fn nt : Nat} {tm : PA Value} {ds : List Deferred} {kd : CallKind} {ro : Option Nat} {cs : List AFrame} {ops : Array Oper} {i : Nat} {rest : List Nat} {k : List AItem} {o : Oper} {h : AHeap} (ho : lnth ops.toList i = some o) (hw : wantedA ops.toList tm o.guard = some true) :
    fSeqO P fn nt tm ds kd ro cs h ops i rest k o = operA P ⟨fn, nt, tm, .seqR ops (i :: rest) :: k, ds, false, kd, ro⟩ cs h ops.toList i := by
  unfold fSeqO
  rw [execF_eq]
  cases he : execA P tm h o with
  | none => rfl
  | some a =>
    have hnc : isComm o = false := by
      cases hc : isComm o with
      | false => rfl
      | true => rw [isComm_none hc] at he; cases he
    simp only [operA, ho, hw, hnc, cond_false, he]
    cases a with
    | value v h1 => exact fSeqV_eq ho
    | skip h1 => exact fSeqV_eq ho
    | enter f args => rfl
    | round l args => rfl
    | defer d => rfl

theorem fstep_eq (P : Program) (S : AM) : fstep P S = astep P S := by
  obtain ⟨⟨fn, nt, tm, todo, ds, r, kd, ro⟩, cs, h⟩ := S
  cases r with
  | true => rfl
  | false =>
    cases todo with
    | nil => rfl
    | cons it k =>
      show fItem it k P fn nt tm ds kd ro cs h = _
      cases it with
      | code c =>
        cases c with
        | region id ops draw => cases draw <;> rfl
        | exit id =>
          show fExit id k P fn nt tm ds kd ro cs h = _
          unfold fExit
          simp only [astep, cond_false]
          cases exitToA id k <;> rfl
        | _ => rfl
      | seqR ops l =>
        cases l with
        | nil => rfl
        | cons i rest =>
          show Option.rec (motive := fun _ => Option AM) none (fun o => fSeqG P fn nt tm ds kd ro cs h ops i rest k o) (lnth ops.toList i) = operA P ⟨fn, nt, tm, .seqR ops (i :: rest) :: k, ds, false, kd, ro⟩ cs h ops.toList i
          cases ho : lnth ops.toList i with
          | none => simp only [operA, ho]
          | some o =>
            show fSeqG P fn nt tm ds kd ro cs h ops i rest k o = _
            unfold fSeqG
            cases hg : o.guard with
            | none => exact fSeqO_eq ho (by rw [hg]; rfl)
            | some g =>
              show (match wantedA ops.toList tm (some g) with
                | some true => fSeqO P fn nt tm ds kd ro cs h ops i rest k o
                | some false => fSeqV P fn nt tm ds kd ro cs ops rest k o.dst undef h
                | none => none) = _
              cases hw : wantedA ops.toList tm (some g) with
              | none => simp only [operA, ho, hg, hw]
              | some b =>
                cases b with
                | true => exact fSeqO_eq ho (by rw [hg]; exact hw)
                | false =>
                  simp only [operA, ho, hg, hw]
                  exact fSeqV_eq ho
      | _ => rfl

theorem frun_eq (P : Program) : ∀ (n : Nat) (S : AM), frun P n S = arun P n S
  | 0, S => rfl
  | n + 1, S => by
    show Option.rec (motive := fun _ => Option AM) none (fun S => frun P n S) (fstep P S) = _
    rw [fstep_eq]
    simp only [arun]
    cases astep P S with
    | none => rfl
    | some S => exact frun_eq P n S

end Go.Abs

/- Runs of the abstract machine: what they say of the real one. -/

namespace Go.Abs

structure ProgOk (P : Program) : Prop where
  x : XOk P
  mix : P.follows .mixedOrders = true

section
variable {P : Program} {ρ : Ren} {w0 : World} {n0 : Nat} {h : AHeap} {w : World} {bs : List Frame}

theorem arun_ok (K : ProgOk P) : ∀ (n : Nat) {S S' : AM} {ρ : Ren} {w : World} {F : Frame} {Fs : List Frame}, MRel P ρ w0 n0 S F Fs w → arun P n S = some S' → StepsTo P w0 n0 bs ρ F Fs w S'
  | 0, S, S', ρ, w, F, Fs, M, hr => by
    simp only [arun, Option.some.injEq] at hr; subst hr
    exact ⟨ρ, F, Fs, w, Ren.le_refl _, Steps.refl _ _, M⟩
  | n + 1, S, S', ρ, w, F, Fs, M, hr => by
    simp only [arun] at hr
    split at hr
    · rename_i S1 h1
      obtain ⟨ρ1, F1, Fs1, w1, a1, a2, a3⟩ := astep_ok (bs := bs) K.x K.mix M h1
      obtain ⟨ρ2, F2, Fs2, w2, b1, b2, b3⟩ := arun_ok K n a3 hr
      exact ⟨ρ2, F2, Fs2, w2, Ren.le_trans a1 b1, Steps.trans a2 b2, b3⟩
    · cases hr

/-- From a state on, whatever is open, one comes to a state with a property. -/
structure Goes (P : Program) (S : AM) (Q : AM → Prop) : Prop where
  get : ∀ {ρ : Ren} {w0 : World} {n0 : Nat} {bs : List Frame} {F : Frame} {Fs : List Frame} {w : World}, MRel P ρ w0 n0 S F Fs w →
    ∃ S' ρ' F' Fs' w', Q S' ∧ Steps P (lone F (Fs ++ bs) w) (lone F' (Fs' ++ bs) w') ∧ MRel P ρ' w0 n0 S' F' Fs' w'

theorem Goes.done {S : AM} {Q : AM → Prop} (h : Q S) : Goes P S Q := ⟨fun {ρ} {_} {_} {_} {F} {Fs} {w} M => ⟨S, ρ, F, Fs, w, h, Steps.refl _ _, M⟩⟩

theorem Goes.bind {S : AM} {Q Q' : AM → Prop} (h : Goes P S Q) (h' : ∀ S', Q S' → Goes P S' Q') : Goes P S Q' := by
  refine ⟨fun {ρ w0 n0 bs F Fs w} M => ?_⟩
  obtain ⟨S1, ρ1, F1, Fs1, w1, a1, a2, a3⟩ := h.get (bs := bs) M
  obtain ⟨S2, ρ2, F2, Fs2, w2, b1, b2, b3⟩ := (h' S1 a1).get (bs := bs) a3
  exact ⟨S2, ρ2, F2, Fs2, w2, b1, Steps.trans a2 b2, b3⟩

theorem Goes.mono {S : AM} {Q Q' : AM → Prop} (h : Goes P S Q) (h' : ∀ S', Q S' → Q' S') : Goes P S Q' := h.bind fun S' hq => Goes.done (h' S' hq)

theorem Goes.of_steps {S S' : AM} {Q : AM → Prop} (h : ∀ {ρ : Ren} {w0 : World} {n0 : Nat} {bs : List Frame} {F : Frame} {Fs : List Frame} {w : World}, MRel P ρ w0 n0 S F Fs w → StepsTo P w0 n0 bs ρ F Fs w S') (h' : Goes P S' Q) : Goes P S Q := by
  refine ⟨fun {ρ w0 n0 bs F Fs w} M => ?_⟩
  obtain ⟨ρ1, F1, Fs1, w1, a1, a2, a3⟩ := h (bs := bs) M
  obtain ⟨S2, ρ2, F2, Fs2, w2, b1, b2, b3⟩ := h'.get (bs := bs) a3
  exact ⟨S2, ρ2, F2, Fs2, w2, b1, Steps.trans a2 b2, b3⟩

theorem Goes.run (K : ProgOk P) {n : Nat} {S S' : AM} {Q : AM → Prop} (h : frun P n S = some S') (h' : Goes P S' Q) : Goes P S Q :=
  Goes.of_steps (fun M => arun_ok K n M (by rw [← frun_eq]; exact h)) h'

theorem Goes.next {S : AM} {l : List AM} {Q : AM → Prop} (h : anext P S = some l) (h' : ∀ S' ∈ l, Goes P S' Q) : Goes P S Q := by
  refine ⟨fun {ρ w0 n0 bs F Fs w} M => ?_⟩
  obtain ⟨S1, hm, ρ1, F1, Fs1, w1, a1, a2, a3⟩ := anext_ok (bs := bs) M h
  obtain ⟨S2, ρ2, F2, Fs2, w2, b1, b2, b3⟩ := (h' S1 hm).get (bs := bs) a3
  exact ⟨S2, ρ2, F2, Fs2, w2, b1, Steps.trans a2 b2, b3⟩

/-- A state that says less than another one, of the same real states. -/
structure Weaker (P : Program) (S S' : AM) : Prop where
  get : ∀ {ρ : Ren} {w0 : World} {n0 : Nat} {F : Frame} {Fs : List Frame} {w : World}, MRel P ρ w0 n0 S F Fs w → ∃ ρ', MRel P ρ' w0 n0 S' F Fs w

theorem Goes.weaken {S S' : AM} {Q : AM → Prop} (h : Weaker P S S') (h' : Goes P S' Q) : Goes P S Q := by
  refine ⟨fun {ρ w0 n0 bs F Fs w} M => ?_⟩
  obtain ⟨ρ', M'⟩ := h.get M
  exact h'.get M'

/-! ## A call that is known as a whole -/

/-- Called with these arguments in this memory, a function gives a value and a memory. -/
def CallOk (P : Program) (f : FuncId) (args : List Value) (h : AHeap) (v : Value) (h2 : AHeap) : Prop :=
  h.next ≤ h2.next ∧ ∀ {ρ : Ren} {w0 : World} {n0 : Nat} {w : World} {args' : List Value}, SRel ρ w0 n0 h w → GlobOk ρ → VsRel ρ args args' → ∀ (c : Frame) (cs : List Frame),
    ∃ v' w' ρ', Ren.lx h.next ρ ρ' ∧ Steps P (lone (Frame.enter P f ⟨args'⟩ .normal) (c :: cs) w) (lone (c.finish v') cs w') ∧ VRel ρ' v v' ∧ SRel ρ' w0 n0 h2 w'

/-- The state behind an operation that gives a value. -/
noncomputable def finS (P : Program) (S : AM) (v : Value) (h : AHeap) : Option AM := match finishA P S.frame h v with | some fr => some ⟨fr, S.callers, h⟩ | none => none

/-- What the operation that is next does. -/
noncomputable def opS (P : Program) (S : AM) : Option ANext :=
  match S.frame.ret, S.frame.todo with
  | false, .seqR ops (i :: _) :: _ | false, .drawR ops (i :: _) :: _ => match lnth ops.toList i with
    | some o => match wantedA ops.toList S.frame.tmps o.guard with
      | some true => execF o.op P S.frame.tmps S.heap
      | _ => none
    | none => none
  | _, _ => none

theorem call_steps (K : ProgOk P) {S S' : AM} {f : FuncId} {args : List Value} {v : Value} {h2 : AHeap} (he : opS P S = some (.enter f args)) (hc : CallOk P f args S.heap v h2) (hf : finS P S v h2 = some S')
    {F : Frame} {Fs : List Frame} (M : MRel P ρ w0 n0 S F Fs w) : StepsTo P w0 n0 bs ρ F Fs w S' := by
  obtain ⟨⟨fn, nt, tm, T, ds, r, kd, ro⟩, acs, h⟩ := S
  obtain ⟨hS, hg, n, hnn, hF, hcs⟩ := M
  obtain ⟨hnx, hc⟩ := hc
  simp only at hS hnn hF hcs hc hnx
  unfold opS at he
  simp only at he
  have hop : ∀ {ops : Array Oper} {i : Nat} {o : Oper}, ops[i]? = some o → execF o.op P tm h = some (.enter f args) → ∀ c, o.op ≠ .defer c := by
    intro ops i o _ hex c hdef
    rw [execF_eq] at hex
    simp only [execA, hdef] at hex
    repeat (split at hex <;> try (cases hex; done))
  unfold finS at hf
  simp only at hf
  split at hf
  · rename_i c' hfin
    simp only [Option.some.injEq] at hf; subst hf
    cases hF with
    | mk _ _ _ _ _ _ _ _ ro' R T' ds' hn hT hr hd hro =>
      split at he
      · -- a plain region
        rename_i ops i rest k
        split at he
        · rename_i o hlo
          rw [lnth_eq] at hlo
          have ho : ops[i]? = some o := by simpa using hlo
          split at he
          · rename_i hw
            cases hT rfl with
            | plain _ _ hs hI =>
              obtain ⟨b', k', rfl, hb, hk⟩ := its_code hI
              cases hb
              have hR := op_rel hg hs (fr fn R (.inRegion ops (i :: rest) :: k') ds' kd ro') rfl
              have hwr := wantedA_plain hs hn hw
              have hex := he
              rw [execF_eq] at hex
              obtain ⟨ρ1, w1, nx, hlx, hrun, S1, hN⟩ := exec_ok K.x hS hR hex
              cases hN with
              | enter _ _ args' ha =>
                have S1 : SRel ρ1 w0 n0 h w1 := S1
                obtain ⟨v', w2, ρ2, hlx2, hst, hv, S2⟩ := hc S1 (hg.mono hlx.le) ha (fr fn R (.inRegion ops (i :: rest) :: k') ds' kd ro') (Fs ++ bs)
                have hle := Ren.le_trans hlx.le hlx2.le
                have hxx : ∀ id, id < n → ρ2 id = ρ id := fun id hi => by rw [hlx2.ext id (by omega), hlx.ext id (by omega)]
                refine ⟨ρ2, _, Fs, w2, hle, Steps.trans (.one (s_enter ho hwr (.inr (hop ho he)) hrun)) hst, S2, hg.mono hle, n, Nat.le_trans hnn hnx, ?_, hcs.mono hle hxx⟩
                exact finish_plain (r := false) hn (hs.mono hle) (.cons _ _ _ _ (.seqR _ _) (hk.mono hle)) (hd.mono hle) (hro.mono hle) hv hfin
          · cases he
        · cases he
      · -- a region that draws
        rename_i ops i rest k
        split at he
        · rename_i o hlo
          have hlo' := hlo
          rw [lnth_eq] at hlo
          have ho : ops[i]? = some o := by simpa using hlo
          split at he
          · rename_i hw
            have hhv : Go.Abs.heavy o = true := by
              cases hh : Go.Abs.heavy o with
              | true => rfl
              | false =>
                rw [execF_eq] at he
                obtain ⟨v, h1, e1, _⟩ := light_value hh he
                cases e1
            cases hT rfl with
            | plain _ _ hs hI =>
              obtain ⟨b', k', rfl, hb, hk⟩ := its_code hI
              cases hb
            | draw _ _ rl _ k' G D hP hgh hk =>
              obtain ⟨l, rl', rfl, hl⟩ := D.ahead ho hhv
              obtain ⟨ρ0, wz, R', a1, a2, a3, a4, a5, a6, a7, a8⟩ := pend_all K.x (fn := fn) (k' := k') (ds' := ds') (kd := kd) (ro' := ro') (cs := Fs ++ bs) hnn hS hg D hl hP hgh
              have hSl := a6.heavy_slots ho hhv
              have hR := op_rel (hg.mono a1) hSl (fr fn R' (.inRegion ops (i :: rl') :: k') ds' kd ro') rfl
              have hwe : wantedA ops.toList (only tm (looks ops.toList o)) o.guard = wantedA ops.toList tm o.guard := wantedA_looks (only_looks _ _)
              have hwr := wantedA_plain hSl rfl (o := o) (by rw [hwe]; exact hw)
              have hex := he
              rw [execF_eq, ← execA_congr (ev_looks (only_looks tm (looks ops.toList o)))] at hex
              obtain ⟨ρ1, w1, nx, hlx, hrun, S1, hN⟩ := exec_ok K.x a5 hR hex
              cases hN with
              | enter _ _ args' ha =>
                have S1 : SRel ρ1 w0 n0 h w1 := S1
                have hle0 := Ren.le_trans a1 hlx.le
                obtain ⟨v', w2, ρ2, hlx2, hst, hv, S2⟩ := hc S1 (hg.mono hle0) ha (fr fn R' (.inRegion ops (i :: rl') :: k') ds' kd ro') (Fs ++ bs)
                have hle1 := Ren.le_trans hlx.le hlx2.le
                have hle := Ren.le_trans a1 hle1
                have hxx : ∀ id, id < n → ρ2 id = ρ id := fun id hi => by rw [hlx2.ext id (by omega), hlx.ext id (by omega), a2 id hi]
                refine ⟨ρ2, _, Fs, w2, hle, Steps.trans a4 (Steps.trans (.one (s_enter ho hwr (.inr (hop ho he)) hrun)) hst), S2, hg.mono hle, n, Nat.le_trans hnn hnx, ?_, hcs.mono hle hxx⟩
                refine heavy_finish (a6.mono hle1) (a8.mono (fun id hi => by rw [hlx2.ext id hi, hlx.ext id hi]) (Nat.le_refl _)) hnx ho hhv (by rw [a3]; exact hn) (hk.mono hle) (hd.mono hle) (hro.mono hle) hv hfin
          · cases he
        · cases he
      · cases he
  · cases hf

theorem Goes.call (K : ProgOk P) {S S' : AM} {f : FuncId} {args : List Value} {v : Value} {h2 : AHeap} {Q : AM → Prop} (he : opS P S = some (.enter f args)) (hc : CallOk P f args S.heap v h2) (hf : finS P S v h2 = some S')
    (h' : Goes P S' Q) : Goes P S Q := Goes.of_steps (fun M => call_steps K he hc hf M) h'

end
end Go.Abs

/- A state is made small: what is not needed any more is dropped, the rest gets new numbers. -/

namespace Go.Abs

noncomputable section

/-- The new number of a block. -/
def newId : List (Nat × Bool) → Nat → Nat → Option Nat
  | [], _, _ => none
  | (i, _) :: l, n, id => bif Nat.beq i id then some n else newId l (Nat.succ n) id

mutual
def renV (σ : Nat → Option Nat) : Value → Option Value
  | .bool b => some (.bool b)
  | .int k n => some (.int k n)
  | .string s => some (.string s)
  | .pointer none => some (.pointer none)
  | .pointer (some ⟨id, off, none⟩) => match σ id with | some i => some (.pointer (some ⟨i, off, none⟩)) | none => none
  | .slice none l c => some (.slice none l c)
  | .slice (some ⟨id, off, none⟩) l c => match σ id with | some i => some (.slice (some ⟨i, off, none⟩) l c) | none => none
  | .map none => some (.map none)
  | .map (some id) => match σ id with | some i => some (.map (some i)) | none => none
  | .chan none => some (.chan none)
  | .chan (some id) => match σ id with | some i => some (.chan (some i)) | none => none
  | .nilFunc => some .nilFunc
  | .nilIface => some .nilIface
  | .func (.func f) ⟨a⟩ ⟨b⟩ => match renVs σ a, renVs σ b with | some a, some b => some (.func (.func f) ⟨a⟩ ⟨b⟩) | _, _ => none
  | .func (.method n) ⟨a⟩ ⟨b⟩ => match renVs σ a, renVs σ b with | some a, some b => some (.func (.method n) ⟨a⟩ ⟨b⟩) | _, _ => none
  | .iface t v => match renV σ v with | some v => some (.iface t v) | none => none
  | .agg ⟨l⟩ => match renVs σ l with | some l => some (.agg ⟨l⟩) | none => none
  | .tuple ⟨l⟩ => match renVs σ l with | some l => some (.tuple ⟨l⟩) | none => none
  | _ => none
def renVs (σ : Nat → Option Nat) : List Value → Option (List Value)
  | [] => some []
  | v :: l => match renV σ v with
    | some v => match renVs σ l with
      | some l => some (v :: l)
      | none => none
    | none => none
end

def renP (σ : Nat → Option Nat) : PA Value → Option (PA Value)
  | .nil => some .nil
  | .node v l r => match (match v with | none => some none | some v => match renV σ v with | some v => some (some v) | none => none : Option (Option Value)) with
    | some v => match renP σ l with
      | some l => match renP σ r with
        | some r => some (.node v l r)
        | none => none
      | none => none
    | none => none
  | .lst l => match renVs σ l with | some l => some (.lst l) | none => none
  | .over _ _ _ => none

def renEs (σ : Nat → Option Nat) : List (Value × Value) → Option (List (Value × Value))
  | [] => some []
  | (k, v) :: l => match renV σ v with
    | some v => match renEs σ l with
      | some l => some ((k, v) :: l)
      | none => none
    | none => none

def renO (σ : Nat → Option Nat) (opaq : Bool) : AObj → Option AObj
  | .cells c size e k x wr _ => match (bif opaq then some c else renP σ c) with | some c => some (.cells c size e k x wr none) | none => none
  | .map es ver => match (bif opaq then some es else renEs σ es) with | some es => some (.map es ver) | none => none
  | .chan cap buf cl => match renVs σ buf with | some buf => some (.chan cap buf cl) | none => none
  | .mapIter m ver left _ => match σ m with
    | some m => match (bif opaq then some left else renEs σ left) with | some left => some (.mapIter m ver left none) | none => none
    | none => none
  | _ => none

/-- The kept blocks under their new numbers. -/
def canonH (σ : Nat → Option Nat) (h : AHeap) : List (Nat × Bool) → Nat → PA AObj → Option (PA AObj)
  | [], _, t => some t
  | (id, q) :: l, n, t => match h.objs.get id with
    | some o => bif h.good id o.fam then
        match renO σ q o with
        | some o => match t.put n o with | .box t => canonH σ h l (Nat.succ n) t
        | none => none
      else none
    | none => none

def keepT (σ : Nat → Option Nat) (tm : PA Value) : List Tmp → PA Value → Option (PA Value)
  | [], t => some t
  | x :: l, t => match tm.get x with
    | some v => match renV σ v with
      | some v => match t.put x v with | .box t => keepT σ tm l t
      | none => none
    | none => none

def plainItems : List AItem → Bool
  | [] => true
  | .code _ :: l | .inBlock _ :: l | .inLoop _ :: l | .inScope _ :: l | .seqR _ _ :: l => plainItems l
  | _ :: _ => false

def canonF (σ : Nat → Option Nat) (fr : AFrame) (keep : List Tmp) : Option AFrame :=
  match fr with
  | ⟨fn, nt, tm, todo, [], false, kd, none⟩ => bif plainItems todo then
      match keepT σ tm keep .nil with
      | some tm => some ⟨fn, nt, tm, todo, [], false, kd, none⟩
      | none => none
    else none
  | _ => none

def canonFs (σ : Nat → Option Nat) : List AFrame → List (List Tmp) → Option (List AFrame)
  | [], [] => some []
  | fr :: cs, k :: ks => match canonF σ fr k with
    | some fr => match canonFs σ cs ks with
      | some cs => some (fr :: cs)
      | none => none
    | none => none
  | _, _ => none

def famsOf (h : AHeap) : List (Nat × Bool) → List Nat
  | [] => []
  | (id, _) :: l => match h.objs.get id with
    | some o => match o.fam with | some f => f :: famsOf h l | none => famsOf h l
    | none => famsOf h l

def canonOk (h : AHeap) (keep : List (Nat × Bool)) : Bool :=
  nodupN (keep.map (·.1)) && nodupN (famsOf h keep) && (match keep with | (0, _) :: _ => true | _ => false)

/-- A state, made small: the blocks that are kept, in their new order (and: is a block without addresses, that is kept as it is?); the slots that are kept, frame by frame. -/
def canon (keep : List (Nat × Bool)) (top : List Tmp) (slots : List (List Tmp)) (S : AM) : Option AM :=
  match S with
  | ⟨fr, cs, h⟩ => bif canonOk h keep then
      match canonF (newId keep 0) fr top with
      | some fr => match canonFs (newId keep 0) cs slots with
        | some cs => match canonH (newId keep 0) h keep 0 .nil with
          | some t => some ⟨fr, cs, ⟨t, lengthL keep, .nil⟩⟩
          | none => none
        | none => none
      | none => none
    else none

end

/-! ## What it says -/

section
variable {P : Program} {ρ ρ' : Ren} {σ : Nat → Option Nat} {w0 : World} {n0 : Nat} {h : AHeap} {w : World}

/-- The renamings fit. -/
def Fits (σ : Nat → Option Nat) (ρ ρ' : Ren) : Prop := ∀ id i, σ id = some i → ρ' i = ρ id

mutual
theorem renV_rel (hf : Fits σ ρ ρ') : ∀ {v v' : Value}, VRel ρ v v' → ∀ {u : Value}, renV σ v = some u → VRel ρ' u v'
  | _, _, .bool b, u, hr => by simp only [renV, Option.some.injEq] at hr; subst hr; exact .bool b
  | _, _, .int k n, u, hr => by simp only [renV, Option.some.injEq] at hr; subst hr; exact .int k n
  | _, _, .string s, u, hr => by simp only [renV, Option.some.injEq] at hr; subst hr; exact .string s
  | _, _, .nilptr, u, hr => by simp only [renV, Option.some.injEq] at hr; subst hr; exact .nilptr
  | _, _, .ptr id off e h, u, hr => by
    simp only [renV] at hr
    split at hr
    · rename_i i hi
      simp only [Option.some.injEq] at hr; subst hr
      exact .ptr i off e (by rw [hf _ _ hi]; exact h)
    · cases hr
  | _, _, .nilslice l c, u, hr => by simp only [renV, Option.some.injEq] at hr; subst hr; exact .nilslice l c
  | _, _, .slice id off len cap a' cap' e h hs, u, hr => by
    simp only [renV] at hr
    split at hr
    · rename_i i hi
      simp only [Option.some.injEq] at hr; subst hr
      exact .slice i off len cap a' cap' e (by rw [hf _ _ hi]; exact h) hs
    · cases hr
  | _, _, .nilmap, u, hr => by simp only [renV, Option.some.injEq] at hr; subst hr; exact .nilmap
  | _, _, .map id e h, u, hr => by
    simp only [renV] at hr
    split at hr
    · rename_i i hi
      simp only [Option.some.injEq] at hr; subst hr
      exact .map i e (by rw [hf _ _ hi]; exact h)
    · cases hr
  | _, _, .nilchan, u, hr => by simp only [renV, Option.some.injEq] at hr; subst hr; exact .nilchan
  | _, _, .chan id e h, u, hr => by
    simp only [renV] at hr
    split at hr
    · rename_i i hi
      simp only [Option.some.injEq] at hr; subst hr
      exact .chan i e (by rw [hf _ _ hi]; exact h)
    · cases hr
  | _, _, .nilFunc, u, hr => by simp only [renV, Option.some.injEq] at hr; subst hr; exact .nilFunc
  | _, _, .nilIface, u, hr => by simp only [renV, Option.some.injEq] at hr; subst hr; exact .nilIface
  | _, _, .func fn hfn a b a' b' ha hb, u, hr => by
    cases fn with
    | func f =>
      simp only [renV] at hr
      split at hr
      · rename_i a2 b2 h1 h2
        simp only [Option.some.injEq] at hr; subst hr
        exact .func _ (by intro l hh; cases hh) a2 b2 a' b' (renVs_rel hf ha h1) (renVs_rel hf hb h2)
      · cases hr
    | method n =>
      simp only [renV] at hr
      split at hr
      · rename_i a2 b2 h1 h2
        simp only [Option.some.injEq] at hr; subst hr
        exact .func _ (by intro l hh; cases hh) a2 b2 a' b' (renVs_rel hf ha h1) (renVs_rel hf hb h2)
      · cases hr
    | _ => simp only [renV] at hr; cases hr
  | _, _, .yield l e h, u, hr => by simp only [renV] at hr; cases hr
  | _, _, .iface t v v' h, u, hr => by
    simp only [renV] at hr
    split at hr
    · rename_i v2 h1
      simp only [Option.some.injEq] at hr; subst hr
      exact .iface t v2 v' (renV_rel hf h h1)
    · cases hr
  | _, _, .agg l l' h, u, hr => by
    simp only [renV] at hr
    split at hr
    · rename_i l2 h1
      simp only [Option.some.injEq] at hr; subst hr
      exact .agg l2 l' (renVs_rel hf h h1)
    · cases hr
  | _, _, .tuple l l' h, u, hr => by
    simp only [renV] at hr
    split at hr
    · rename_i l2 h1
      simp only [Option.some.injEq] at hr; subst hr
      exact .tuple l2 l' (renVs_rel hf h h1)
    · cases hr
theorem renVs_rel (hf : Fits σ ρ ρ') : ∀ {l l' : List Value}, VsRel ρ l l' → ∀ {u : List Value}, renVs σ l = some u → VsRel ρ' u l'
  | _, _, .nil, u, hr => by simp only [renVs, Option.some.injEq] at hr; subst hr; exact .nil
  | _, _, .cons v v' l l' h hl, u, hr => by
    simp only [renVs] at hr
    split at hr
    · rename_i v2 h1
      split at hr
      · rename_i l2 h2
        simp only [Option.some.injEq] at hr; subst hr
        exact .cons v2 v' l2 l' (renV_rel hf h h1) (renVs_rel hf hl h2)
      · cases hr
    · cases hr
end

theorem renVs_get : ∀ {l u : List Value}, renVs σ l = some u → ∀ (i : Nat) x, u[i]? = some x → ∃ v, l[i]? = some v ∧ renV σ v = some x
  | [], u, hr, i, x, hx => by simp only [renVs, Option.some.injEq] at hr; subst hr; simp at hx
  | v :: l, u, hr, i, x, hx => by
    simp only [renVs] at hr
    split at hr
    · rename_i v2 h1
      split at hr
      · rename_i l2 h2
        simp only [Option.some.injEq] at hr; subst hr
        cases i with
        | zero => simp at hx; subst hx; exact ⟨v, by simp, h1⟩
        | succ i =>
          obtain ⟨y, h3, h4⟩ := renVs_get h2 i x (by simpa using hx)
          exact ⟨y, by simpa using h3, h4⟩
      · cases hr
    · cases hr

theorem renP_get : ∀ {t u : PA Value}, renP σ t = some u → ∀ (i : Nat) x, u.get i = some x → ∃ v, t.get i = some v ∧ renV σ v = some x
  | .nil, u, hr, i, x, hx => by
    simp only [renP, Option.some.injEq] at hr; subst hr
    rw [PA.get_nil] at hx; cases hx
  | .node v l r, u, hr, i, x, hx => by
    simp only [renP] at hr
    split at hr
    · rename_i v2 hv
      split at hr
      · rename_i l2 hl
        split at hr
        · rename_i r2 hr2
          simp only [Option.some.injEq] at hr; subst hr
          rw [PA.get_node] at hx ⊢
          by_cases h0 : i = 0
          · rw [if_pos h0] at hx ⊢
            cases v with
            | none => simp only [Option.some.injEq] at hv; subst hv; cases hx
            | some v =>
              simp only at hv
              split at hv
              · rename_i v3 h3
                simp only [Option.some.injEq] at hv; subst hv
                simp only [Option.some.injEq] at hx; subst hx
                exact ⟨v, rfl, h3⟩
              · cases hv
          · rw [if_neg h0] at hx ⊢
            by_cases h1 : i % 2 = 1
            · rw [if_pos h1] at hx ⊢; exact renP_get hl _ x hx
            · rw [if_neg h1] at hx ⊢; exact renP_get hr2 _ x hx
        · cases hr
      · cases hr
    · cases hr
  | .lst l, u, hr, i, x, hx => by
    simp only [renP] at hr
    split at hr
    · rename_i l2 hl
      simp only [Option.some.injEq] at hr; subst hr
      rw [PA.get_lst] at hx ⊢
      exact renVs_get hl i x hx
    · cases hr
  | .over m a t, u, hr, i, x, hx => by simp only [renP] at hr; cases hr

theorem renEs_rel (hf : Fits σ ρ ρ') : ∀ {l : List (Value × Value)} {l' : List MapEntry}, EsRel ρ l l' → ∀ {u : List (Value × Value)}, renEs σ l = some u → EsRel ρ' u l'
  | _, _, .nil, u, hr => by simp only [renEs, Option.some.injEq] at hr; subst hr; exact .nil
  | _, _, .cons k v e l l' hk hv hl, u, hr => by
    simp only [renEs] at hr
    split at hr
    · rename_i v2 h1
      split at hr
      · rename_i l2 h2
        simp only [Option.some.injEq] at hr; subst hr
        exact .cons k v2 e l2 l' hk (renV_rel hf hv h1) (renEs_rel hf hl h2)
      · cases hr
    · cases hr

theorem renEs_keys : ∀ {l u : List (Value × Value)}, renEs σ l = some u → u.map (·.1) = l.map (·.1)
  | [], u, hr => by simp only [renEs, Option.some.injEq] at hr; subst hr; rfl
  | (k, v) :: l, u, hr => by
    simp only [renEs] at hr
    split at hr
    · split at hr
      · rename_i l2 h2
        simp only [Option.some.injEq] at hr; subst hr
        simp [renEs_keys h2]
      · cases hr
    · cases hr

theorem keysOk_keys {l u : List (Value × Value)} (hk : u.map (·.1) = l.map (·.1)) (h : KeysOk l) : KeysOk u := by
  have h1 : (l.map (·.1)).Pairwise fun a b => keyEq a b = some false ∧ keyEq b a = some false := List.pairwise_map.2 h
  rw [← hk] at h1
  exact List.pairwise_map.1 h1

/-- The content of a block that is kept as it is has no addresses. -/
def PlainC (c : PA Value) (size : Nat) : Prop := ∀ i v, i < size → c.get i = some v → plainV.plainS v = true

/-- Entries whose values have no addresses. -/
def PlainEs (es : List (Value × Value)) : Prop := ∀ p ∈ es, ∀ σ, renV σ p.2 = some p.2

theorem renEs_plain : ∀ {es : List (Value × Value)}, PlainEs es → renEs σ es = some es
  | [], _ => rfl
  | (k, v) :: l, h => by
    have h1 : renV σ v = some v := h (k, v) List.mem_cons_self σ
    have h2 : renEs σ l = some l := renEs_plain fun p hp => h p (List.mem_cons_of_mem _ hp)
    simp only [renEs, h1, h2]

theorem renEs_bif {q : Bool} {es u : List (Value × Value)} (hq : q = true → PlainEs es) (h : (bif q then some es else renEs σ es) = some u) : renEs σ es = some u := by
  cases q with
  | false => exact h
  | true => rw [renEs_plain (hq rfl)]; exact h

/-- What may be kept as it is. -/
def PlainO : AObj → Prop
  | .cells c size .. => PlainC c size
  | .map es _ => PlainEs es
  | .mapIter _ _ left _ => PlainEs left
  | _ => True

theorem renO_rel {h' : AHeap} (hf : Fits σ ρ ρ') {q : Bool} {o u : AObj} {e : RE} (hr : renO σ q o = some u) (hpl : q = true → PlainO o)
    (hm : ∀ m m' es v, σ m = some m' → h.objs.get m = some (.map es v) → ∃ es2, h'.objs.get m' = some (.map es2 v)) (ho : ORel ρ h w e o) :
    ORel ρ' h' w e u ∧ u.fam = none ∧ u.wr = o.wr ∧ (o.isZ = true → u.isZ = true) := by
  cases o with
  | cells c size el k x wr fam =>
    obtain ⟨h1, h2, h3, rc, rel, fz, h4, h5, h6, h7⟩ := ho
    simp only [renO] at hr
    split at hr
    · rename_i c2 hc
      simp only [Option.some.injEq] at hr; subst hr
      refine ⟨⟨h1, h2, h3, rc, rel, fz, h4, h5, h6, fun i v hi hv => ?_⟩, rfl, rfl, ?_⟩
      · cases q with
        | true =>
          simp only [cond_true, Option.some.injEq] at hc; subst hc
          obtain ⟨v', a, b⟩ := h7 i v hi hv
          have hp := hpl rfl i v hi hv
          refine ⟨v', a, ?_⟩
          have hb := plainS_rel (ρ := ρ') hp
          cases b <;> first | exact hb | (simp [plainV.plainS] at hp)
        | false =>
          simp only [cond_false] at hc
          obtain ⟨y, h8, h9⟩ := renP_get hc i v hv
          obtain ⟨v', a, b⟩ := h7 i y hi h8
          exact ⟨v', a, renV_rel hf b h9⟩
      · intro hz
        unfold AObj.isZ at hz
        split at hz
        · rename_i heq
          cases heq
          rfl
        · cases hz
    · cases hr
  | map es ver =>
    obtain ⟨res, clock, h1, ⟨l, hp, hl⟩, h2, h3⟩ := ho
    simp only [renO] at hr
    split at hr
    · rename_i es2 he
      have he := renEs_bif hpl he
      simp only [Option.some.injEq] at hr; subst hr
      exact ⟨⟨res, clock, h1, ⟨l, hp, renEs_rel hf hl he⟩, keysOk_keys (renEs_keys he) h2, h3⟩, rfl, rfl, fun hz => by cases hz⟩
    · cases hr
  | chan cap buf cl =>
    obtain ⟨rbuf, s, r, h1, h2⟩ := ho
    simp only [renO] at hr
    split at hr
    · rename_i b2 hb
      simp only [Option.some.injEq] at hr; subst hr
      exact ⟨⟨rbuf, s, r, h1, renVs_rel hf h2 hb⟩, rfl, rfl, fun hz => by cases hz⟩
    · cases hr
  | mapIter m ver left last =>
    obtain ⟨h0, em, since, seen, stepped, h1, h2, es, v, h3, h4, h5⟩ := ho
    simp only [renO] at hr
    split at hr
    · rename_i m' hm'
      split at hr
      · rename_i left2 hl2
        have hl2 := renEs_bif hpl hl2
        simp only [Option.some.injEq] at hr; subst hr
        obtain ⟨es2, he2⟩ := hm m m' es v hm' h3
        refine ⟨⟨h0, em, since, seen, stepped, by rw [hf _ _ hm']; exact h1, h2, es2, v, he2, h4, fun hv res clock hr => ?_⟩, rfl, rfl, fun hz => by cases hz⟩
        obtain ⟨g1, g2, ⟨l, g3, g4⟩, g5⟩ := h5 hv res clock hr
        exact ⟨g1, g2, ⟨l, g3, renEs_rel hf g4 hl2⟩, fun k v hh => by cases hh⟩
      · cases hr
    · cases hr
  | _ => simp only [renO] at hr; cases hr

theorem keepT_rel (hf : Fits σ ρ ρ') {tm : PA Value} {R : Array Value} (hs : SlotsRel ρ tm R) : ∀ {l : List Tmp} {t u : PA Value}, keepT σ tm l t = some u → SlotsRel ρ' t R → SlotsRel ρ' u R
  | [], t, u, hk, ht => by simp only [keepT, Option.some.injEq] at hk; subst hk; exact ht
  | x :: l, t, u, hk, ht => by
    simp only [keepT] at hk
    split at hk
    · rename_i v hv
      split at hk
      · rename_i v2 hr
        cases hp : t.put x v2 with
        | box t2 =>
          rw [hp] at hk
          refine keepT_rel hf hs hk fun y z hz => ?_
          rw [PA.put_box hp] at hz
          by_cases hy : y = x
          · subst hy
            rw [if_pos rfl] at hz
            simp only [Option.some.injEq] at hz; subst hz
            exact renV_rel hf (hs y v hv) hr
          · rw [if_neg hy] at hz; exact ht y z hz
      · cases hk
    · cases hk

theorem its_plain : ∀ {k : List AItem} {k' : List Item}, ItsRel ρ k k' → plainItems k = true → ItsRel ρ' k k'
  | _, _, .nil, _ => .nil
  | _, _, .cons a b l l' hab hl, hp => by
    cases hab with
    | code c => exact .cons _ _ _ _ (.code c) (its_plain hl (by simpa [plainItems] using hp))
    | inBlock id => exact .cons _ _ _ _ (.inBlock id) (its_plain hl (by simpa [plainItems] using hp))
    | inLoop b => exact .cons _ _ _ _ (.inLoop b) (its_plain hl (by simpa [plainItems] using hp))
    | inScope b => exact .cons _ _ _ _ (.inScope b) (its_plain hl (by simpa [plainItems] using hp))
    | seqR ops l => exact .cons _ _ _ _ (.seqR ops l) (its_plain hl (by simpa [plainItems] using hp))
    | _ => simp [plainItems] at hp

theorem canonF_rel (hf : Fits σ ρ ρ') {PH PH' : Array Oper → PA Value → List Nat → List Nat → Prop} {lo hi lo' hi' : Nat} {a u : AFrame} {b : Frame} {keep : List Tmp} (hc : canonF σ a keep = some u) (hF : FRel P ρ PH lo hi a b) : FRel P ρ' PH' lo' hi' u b := by
  unfold canonF at hc
  split at hc
  · rename_i fn nt tm todo kd
    cases hp : plainItems todo with
    | false => simp only [hp, cond_false] at hc; cases hc
    | true =>
      simp only [hp, cond_true] at hc
      split at hc
      · rename_i tm2 hk
        simp only [Option.some.injEq] at hc; subst hc
        cases hF with
        | mk _ _ _ _ _ _ _ _ ro' R T' ds' hn hT hr hd hro =>
          cases hT rfl with
          | draw ops al rl k k' G _ _ _ _ => simp [plainItems] at hp
          | plain _ _ hs hI =>
            cases hd
            cases hro
            exact FRel.plain (r := false) hn (keepT_rel hf hs hk fun t v hv => by rw [PA.get_nil] at hv; cases hv) (its_plain hI hp) .nil .none
      · cases hc
  · cases hc

theorem canonFs_rel (hf : Fits σ ρ ρ') : ∀ {a u : List AFrame} {b : List Frame} {ks : List (List Tmp)} {n : Nat}, canonFs σ a ks = some u → FsRel P ρ n a b → FsRel P ρ' 0 u b
  | [], u, b, [], n, hc, hF => by
    simp only [canonFs, Option.some.injEq] at hc; subst hc
    cases hF; exact .nil 0
  | [], u, b, _ :: _, n, hc, hF => by simp only [canonFs] at hc; cases hc
  | _ :: _, u, b, [], n, hc, hF => by simp only [canonFs] at hc; cases hc
  | fr :: cs, u, b, k :: ks, n, hc, hF => by
    simp only [canonFs] at hc
    split at hc
    · rename_i fr2 h1
      split at hc
      · rename_i cs2 h2
        simp only [Option.some.injEq] at hc; subst hc
        cases hF with
        | cons _ m _ b _ l' hm hab hl => exact .cons 0 0 _ _ _ _ (Nat.le_refl _) (canonF_rel hf h1 hab) (canonFs_rel hf h2 hl)
      · cases hc
    · cases hc

theorem newId_some : ∀ {keep : List (Nat × Bool)} {n id i : Nat}, newId keep n id = some i → n ≤ i ∧ ∃ q, keep[i - n]? = some (id, q)
  | [], n, id, i, h => by simp [newId] at h
  | (x, q) :: l, n, id, i, h => by
    simp only [newId] at h
    cases hb : Nat.beq x id with
    | true =>
      simp only [hb, cond_true, Option.some.injEq] at h; subst h
      exact ⟨Nat.le_refl _, q, by rw [Nat.eq_of_beq_eq_true hb]; simp⟩
    | false =>
      simp only [hb, cond_false] at h
      obtain ⟨h1, q2, h2⟩ := newId_some h
      have h1 : n + 1 ≤ i := h1
      refine ⟨by omega, q2, ?_⟩
      rw [show i - n = (i - (n + 1)) + 1 by omega]
      simpa using h2

theorem canonH_get : ∀ {keep : List (Nat × Bool)} {n : Nat} {t u : PA AObj}, canonH σ h keep n t = some u →
    (∀ i, i < n → u.get i = t.get i) ∧ (∀ i, n + keep.length ≤ i → u.get i = t.get i) ∧
    (∀ (j id : Nat) (q : Bool), keep[j]? = some (id, q) → ∃ o o', h.objs.get id = some o ∧ h.good id o.fam = true ∧ renO σ q o = some o' ∧ u.get (n + j) = some o')
  | [], n, t, u, hc => by
    simp only [canonH, Option.some.injEq] at hc; subst hc
    exact ⟨fun _ _ => rfl, fun _ _ => rfl, fun j id q hj => by simp at hj⟩
  | (x, q) :: l, n, t, u, hc => by
    simp only [canonH] at hc
    split at hc
    · rename_i o ho
      cases hg : h.good x o.fam with
      | false => simp only [hg, cond_false] at hc; cases hc
      | true =>
        simp only [hg, cond_true] at hc
        split at hc
        · rename_i o2 hr
          cases hp : t.put n o2 with
          | box t2 =>
            rw [hp] at hc
            obtain ⟨h1, h2, h3⟩ := canonH_get hc
            have hput := PA.put_box hp
            refine ⟨fun i hi => ?_, fun i hi => ?_, fun j id q2 hj => ?_⟩
            · rw [h1 i (by show i < n + 1; omega), hput, if_neg (by omega)]
            · rw [h2 i (by simp at hi; show n + 1 + l.length ≤ i; omega), hput, if_neg (by simp at hi; omega)]
            · cases j with
              | zero =>
                simp at hj
                obtain ⟨rfl, rfl⟩ := hj
                refine ⟨o, o2, ho, hg, hr, ?_⟩
                rw [Nat.add_zero, h1 n (Nat.lt_succ_self n), hput, if_pos rfl]
              | succ j =>
                obtain ⟨a, b, c1, c2, c3, c4⟩ := h3 j id q2 (by simpa using hj)
                exact ⟨a, b, c1, c2, c3, by rw [show n + (j + 1) = n.succ + j by omega]; exact c4⟩
        · cases hc
    · cases hc

theorem famsOf_nodup : ∀ {keep : List (Nat × Bool)}, (famsOf h keep).Nodup → (keep.map (·.1)).Nodup → ∀ {i j id id' : Nat} {q q' : Bool} {o o' : AObj} {f : Nat}, keep[i]? = some (id, q) → keep[j]? = some (id', q') →
    h.objs.get id = some o → h.objs.get id' = some o' → o.fam = some f → o'.fam = some f → i = j
  | [], _, _, i, j, id, id', q, q', o, o', f, hi, _, _, _, _, _ => by simp at hi
  | (x, qx) :: l, hn, hk, i, j, id, id', q, q', o, o', f, hi, hj, ho, ho', hf, hf' => by
    have mem : ∀ {l : List (Nat × Bool)} {j id : Nat} {q : Bool} {o : AObj}, l[j]? = some (id, q) → h.objs.get id = some o → o.fam = some f → f ∈ famsOf h l := by
      intro l
      induction l with
      | nil => intro j id q o hj; simp at hj
      | cons y l ih =>
        obtain ⟨y, qy⟩ := y
        intro j id q o hj ho hf
        cases j with
        | zero =>
          simp at hj
          obtain ⟨rfl, rfl⟩ := hj
          simp [famsOf, ho, hf]
        | succ j =>
          have := ih (by simpa using hj) ho hf
          simp only [famsOf]
          split
          · split
            · exact List.mem_cons_of_mem _ this
            · exact this
          · exact this
    have htail : (famsOf h l).Nodup := by
      simp only [famsOf] at hn
      split at hn
      · split at hn
        · exact (List.nodup_cons.1 hn).2
        · exact hn
      · exact hn
    have hktail : (l.map (·.1)).Nodup := by
      rw [List.map_cons, List.nodup_cons] at hk; exact hk.2
    cases i with
    | zero =>
      simp at hi
      obtain ⟨rfl, rfl⟩ := hi
      cases j with
      | zero => rfl
      | succ j =>
        exfalso
        have hm := mem (by simpa using hj) ho' hf'
        simp only [famsOf, ho, hf] at hn
        exact (List.nodup_cons.1 hn).1 hm
    | succ i =>
      cases j with
      | zero =>
        exfalso
        simp at hj
        obtain ⟨rfl, rfl⟩ := hj
        have hm := mem (by simpa using hi) ho hf
        simp only [famsOf, ho', hf'] at hn
        exact (List.nodup_cons.1 hn).1 hm
      | succ j =>
        have := famsOf_nodup htail hktail (i := i) (j := j) (by simpa using hi) (by simpa using hj) ho ho' hf hf'
        omega

/-- What is kept is as it was. -/
theorem canon_weaker {keep : List (Nat × Bool)} {top : List Tmp} {slots : List (List Tmp)} {S S' : AM} (hc : canon keep top slots S = some S')
    (hpl : ∀ id o, (id, true) ∈ keep → S.heap.objs.get id = some o → PlainO o) : Weaker P S S' := by
  refine ⟨fun {ρ w0 n0 F Fs w} M => ?_⟩
  obtain ⟨fr, cs, h⟩ := S
  obtain ⟨hS, hg, n, hnn, hF, hcs⟩ := M
  simp only at hS hnn hF hcs hpl
  simp only [canon] at hc
  cases hok : canonOk h keep with
  | false => simp only [hok, cond_false] at hc; cases hc
  | true =>
    simp only [hok, cond_true] at hc
    split at hc
    · rename_i fr2 h1
      split at hc
      · rename_i cs2 h2
        split at hc
        · rename_i t h3
          simp only [Option.some.injEq] at hc; subst hc
          simp only [canonOk, Bool.and_eq_true] at hok
          obtain ⟨⟨hn1, hn2⟩, hn3⟩ := hok
          have hn1 := nodupN_iff.1 hn1
          have hn2 := nodupN_iff.1 hn2
          obtain ⟨g1, g2, g3⟩ := canonH_get h3
          let ρ2 : Ren := fun i => match keep[i]? with | some (id, _) => ρ id | none => none
          have hfit : Fits (newId keep 0) ρ ρ2 := by
            intro id i hi
            obtain ⟨_, q, hq⟩ := newId_some hi
            show (match keep[i]? with | some (id, _) => ρ id | none => none) = ρ id
            rw [Nat.sub_zero] at hq
            rw [hq]
          have hρ : ∀ (i : Nat) (e : RE), ρ2 i = some e → ∃ id q, keep[i]? = some (id, q) ∧ ρ id = some e := by
            intro i e hi
            have hi : (match keep[i]? with | some (id, _) => ρ id | none => none) = some e := hi
            cases hk : keep[i]? with
            | none => rw [hk] at hi; cases hi
            | some p =>
              obtain ⟨id, q⟩ := p
              rw [hk] at hi
              exact ⟨id, q, rfl, hi⟩
          have hobj : ∀ (i id : Nat) (q : Bool), keep[i]? = some (id, q) → ∃ o o', h.objs.get id = some o ∧ h.good id o.fam = true ∧ renO (newId keep 0) q o = some o' ∧ t.get i = some o' := by
            intro i id q hk
            obtain ⟨o, o', a, b, c, d⟩ := g3 i id q hk
            exact ⟨o, o', a, b, c, by rw [Nat.zero_add] at d; exact d⟩
          have hrel : ∀ (i : Nat) (e : RE) (id : Nat) (q : Bool) (o o' : AObj), keep[i]? = some (id, q) → ρ id = some e → h.objs.get id = some o → h.good id o.fam = true → renO (newId keep 0) q o = some o' →
              ORel ρ2 ⟨t, lengthL keep, .nil⟩ w e o' ∧ o'.fam = none ∧ o'.wr = o.wr ∧ (o.isZ = true → o'.isZ = true) := by
            intro i e id q o o' hk he ho hgd hr
            obtain ⟨o2, ho2, hor⟩ := hS.obj id e he
            rw [ho] at ho2; cases ho2
            refine renO_rel hfit hr (fun hq => ?_) (fun m m' es v hm hmo => ?_) (hor hgd)
            · subst hq
              exact hpl id o (List.mem_of_getElem? hk) ho
            · obtain ⟨_, q2, hq2⟩ := newId_some hm
              rw [Nat.sub_zero] at hq2
              obtain ⟨om, om', a1, a2, a3, a4⟩ := hobj m' m q2 hq2
              rw [hmo] at a1; cases a1
              simp only [renO] at a3
              split at a3
              · rename_i es2 _
                simp only [Option.some.injEq] at a3; subst a3
                exact ⟨es2, a4⟩
              · cases a3
          refine ⟨ρ2, ⟨?_, ?_, 0, Nat.zero_le _, canonF_rel hfit h1 hF, canonFs_rel hfit h2 hcs⟩⟩
          · refine { obj := ?_, blk := ?_, lt := ?_, sep := ?_, wr := ?_, tip := ?_, tlt := ?_, tipf := ?_, fam := ?_, old := hS.old, size := hS.size, env := hS.env }
            · intro i e hi
              obtain ⟨id, q, hk, he⟩ := hρ i e hi
              obtain ⟨o, o', a, b, c, d⟩ := hobj i id q hk
              exact ⟨o', d, fun _ => (hrel i e id q o o' hk he a b c).1⟩
            · intro i e hi
              obtain ⟨id, q, hk, he⟩ := hρ i e hi
              exact hS.blk id e he
            · intro i hi
              have : lengthL keep ≤ i := hi
              rw [lengthL_eq] at this
              show t.get i = none
              rw [g2 i (by omega), PA.get_nil]
            · intro i j ei ej oi oj hi hj hoi hoj hb
              obtain ⟨id, q, hk, he⟩ := hρ i ei hi
              obtain ⟨id', q', hk', he'⟩ := hρ j ej hj
              obtain ⟨o, o', a, b, c, d⟩ := hobj i id q hk
              obtain ⟨p, p', a', b', c', d'⟩ := hobj j id' q' hk'
              have hoi : t.get i = some oi := hoi
              have hoj : t.get j = some oj := hoj
              rw [d] at hoi
              have hoi := Option.some.inj hoi
              subst hoi
              rw [d'] at hoj
              have hoj := Option.some.inj hoj
              subst hoj
              rcases hS.sep id id' ei ej o p he he' a a' hb with h4 | ⟨f, h4, h5⟩ | h4 | h4
              · left
                subst h4
                have hi1 : i < keep.length := by
                  rcases Nat.lt_or_ge i keep.length with h | h
                  · exact h
                  · rw [List.getElem?_eq_none h] at hk; cases hk
                have e1 : (keep.map (·.1))[i]? = some id := by rw [List.getElem?_map, hk]; rfl
                have e2 : (keep.map (·.1))[j]? = some id := by rw [List.getElem?_map, hk']; rfl
                exact (List.getElem?_inj (by simpa using hi1) hn1).1 (by rw [e1, e2])
              · left
                exact famsOf_nodup hn2 hn1 hk hk' a a' h4 h5
              · right; right; left
                exact (hrel i ei id q o o' hk he a b c).2.2.2 h4
              · right; right; right
                exact (hrel j ej id' q' p p' hk' he' a' b' c').2.2.2 h4
            · intro i e oi hi hoi hw
              obtain ⟨id, q, hk, he⟩ := hρ i e hi
              obtain ⟨o, o', a, b, c, d⟩ := hobj i id q hk
              have hoi : t.get i = some oi := hoi
              rw [d] at hoi
              have hoi := Option.some.inj hoi
              subst hoi
              exact hS.wr id e o he a (by rw [← (hrel i e id q o o' hk he a b c).2.2.1]; exact hw)
            · intro f F hF; have hF : (PA.nil : PA Fam).get f = some F := hF; rw [PA.get_nil] at hF; cases hF
            · intro f F hF; have hF : (PA.nil : PA Fam).get f = some F := hF; rw [PA.get_nil] at hF; cases hF
            · intro f F hF; have hF : (PA.nil : PA Fam).get f = some F := hF; rw [PA.get_nil] at hF; cases hF
            · intro i oi f hoi hof
              exfalso
              have hoi : t.get i = some oi := hoi
              rcases Nat.lt_or_ge i keep.length with hlt | hge
              · obtain ⟨p, hp⟩ : ∃ p, keep[i]? = some p := ⟨keep[i], List.getElem?_eq_getElem hlt⟩
                obtain ⟨id, q⟩ := p
                obtain ⟨o, o', a, b, c, d⟩ := hobj i id q hp
                rw [d] at hoi
                have hoi := Option.some.inj hoi
                subst hoi
                have : o'.fam = none := by
                  cases o <;> simp only [renO] at c
                  · split at c
                    · simp only [Option.some.injEq] at c; subst c; rfl
                    · cases c
                  · split at c
                    · simp only [Option.some.injEq] at c; subst c; rfl
                    · cases c
                  · split at c
                    · simp only [Option.some.injEq] at c; subst c; rfl
                    · cases c
                  · cases c
                  · rename_i m ver left last
                    split at c
                    · split at c
                      · simp only [Option.some.injEq] at c; subst c; rfl
                      · cases c
                    · cases c
                  all_goals cases c
                rw [this] at hof; cases hof
              · rw [g2 i (by omega), PA.get_nil] at hoi; cases hoi
          · obtain ⟨e, h4, h5⟩ := hg
            refine ⟨e, ?_, h5⟩
            show (match keep[0]? with | some (id, _) => ρ id | none => none) = some e
            split at hn3
            · simpa using h4
            · cases hn3
        · cases hc
      · cases hc
    · cases hc

end
end Go.Abs

/- From runs of the abstract machine to calls of the real one, and back. -/

namespace Go.Abs
section
variable {P : Program} {ρ : Ren} {w0 : World} {n0 : Nat} {h : AHeap} {w : World}

/-! ## A call that has returned -/

/-- The frame is about to hand back a value. -/
def Returns (P : Program) (f : FuncId) (v : Value) (h : AHeap) (S : AM) : Prop :=
  S.callers = [] ∧ S.heap = h ∧ S.frame.ret = true ∧ S.frame.defers = [] ∧ S.frame.kind = .normal ∧ S.frame.fn = f ∧ resultA P f S.frame.tmps h = some v

theorem Returns.leaving {f : FuncId} {v : Value} {S : AM} (hr : Returns P f v h S) {F : Frame} {Fs : List Frame} (M : MRel P ρ w0 n0 S F Fs w) :
    Fs = [] ∧ F.fn = f ∧ SRel ρ w0 n0 h w ∧ GlobOk ρ ∧ ∃ v', F.leaving P w (.returned v') ∧ VRel ρ v v' := by
  obtain ⟨⟨fn, nt, tm, T, ds, r, kd, ro⟩, acs, h2⟩ := S
  obtain ⟨h1, h3, h4, h5, h6, h7, h8⟩ := hr
  simp only at h1 h3 h4 h5 h6 h7 h8
  subst h1; subst h3; subst h4; subst h5; subst h6; subst h7
  obtain ⟨hS, hg, n, hnn, hF, hc⟩ := M
  cases hc
  cases hF with
  | mk _ _ _ _ _ _ _ _ ro' R T' ds' hn hT hrr hd hro =>
    cases hd
    obtain ⟨f, v', g1, g2, g3⟩ := resultA_ok hS (hrr rfl) h8
    exact ⟨rfl, rfl, hS, hg, v', ⟨rfl, rfl, rfl, f, g1, g2⟩, g3⟩

/-- A function is entered, with no frame of the abstract machine above it. -/
theorem enter_rel {f : FuncId} {args args' : List Value} {fr0 : AFrame} (he : enterA P f args .normal = some fr0) (S : SRel ρ w0 n0 h w) (hg : GlobOk ρ) (ha : VsRel ρ args args') :
    MRel P ρ w0 n0 ⟨fr0, [], h⟩ (Frame.enter P f ⟨args'⟩ .normal) [] w :=
  ⟨S, hg, 0, Nat.zero_le _, enter_ok he ha, .nil 0⟩

theorem leave_steps {f : FuncId} {v : Value} {S : AM} (hr : Returns P f v h S) {F : Frame} {Fs : List Frame} (M : MRel P ρ w0 n0 S F Fs w) (c : Frame) (cs : List Frame) :
    ∃ v', VRel ρ v v' ∧ SRel ρ w0 n0 h w ∧ GlobOk ρ ∧ step P (lone F (Fs ++ c :: cs) w) = .next (lone (c.finish v') cs w) := by
  obtain ⟨rfl, _, h3, hg, v', h4, h5⟩ := hr.leaving M
  exact ⟨v', h5, h3, hg, step_leave_returned h4⟩

/-- The whole call, for the kit. -/
theorem calls_of_goes {f : FuncId} {args args' : List Value} {fr0 : AFrame} {v : Value} {h2 : AHeap} (he : enterA P f args .normal = some fr0) (S : SRel ρ w w.heap.size h w) (hg : GlobOk ρ) (ha : VsRel ρ args args')
    (hgo : Goes P ⟨fr0, [], h⟩ (Returns P f v h2)) : Calls P f ⟨args'⟩ w fun e w' => ∃ v' ρ', e = .returned v' ∧ VRel ρ' v v' ∧ SRel ρ' w w.heap.size h2 w' := by
  intro cs
  obtain ⟨S', ρ', F', Fs', w', hq, hst, M'⟩ := hgo.get (bs := cs) (enter_rel he S hg ha)
  obtain ⟨rfl, h2, h3, _, v', h4, h5⟩ := hq.leaving M'
  exact ⟨.returned v', w', F', ⟨v', ρ', rfl, h5, h3⟩, hst, h2, h4⟩

/-! ## A function that changes nothing of what was there -/

theorem plainS_eq {v u : Value} (hp : plainV.plainS v = true) (h : VRel ρ v u) : u = v := by
  cases h <;> first | rfl | (simp [plainV.plainS] at hp)

theorem plainL_eq : ∀ {l l' : List Value}, VsRel ρ l l' → l.all plainV.plainS = true → l' = l
  | _, _, .nil, _ => rfl
  | _, _, .cons v v' l l' h hl, hp => by
    simp only [List.all_cons, Bool.and_eq_true] at hp
    rw [plainS_eq hp.1 h, plainL_eq hl hp.2]

theorem plain_eq {v u : Value} (hp : plainV v = true) (h : VRel ρ v u) : u = v := by
  cases h with
  | bool b => rfl
  | int k n => rfl
  | string s => rfl
  | nilptr => rfl
  | nilslice l c => rfl
  | nilmap => rfl
  | nilchan => rfl
  | nilFunc => rfl
  | nilIface => rfl
  | agg l l' h => rw [plainL_eq h (by simpa [plainV] using hp)]
  | tuple l l' h => rw [plainL_eq h (by simpa [plainV] using hp)]
  | func fn hf a b a' b' ha hb =>
    cases fn with
    | func f =>
      simp [plainV] at hp
      obtain ⟨rfl, rfl⟩ := hp
      cases ha; cases hb; rfl
    | _ => simp [plainV] at hp
  | _ => simp [plainV] at hp

mutual
theorem VRel.back {ρ ρ1 : Ren} (hle : ρ.le ρ1) : ∀ {v a b : Value}, VRel ρ v a → VRel ρ1 v b → VRel ρ v b
  | _, _, _, .bool _, h => by cases h; exact .bool _
  | _, _, _, .int _ _, h => by cases h; exact .int _ _
  | _, _, _, .string _, h => by cases h; exact .string _
  | _, _, _, .nilptr, h => by cases h; exact .nilptr
  | _, _, _, .ptr id off e he, h => by
    obtain ⟨e1, h1, rfl⟩ := h.ptr_inv
    rw [hle _ _ he] at h1; cases h1
    exact .ptr id off e he
  | _, _, _, .nilslice _ _, h => by cases h; exact .nilslice _ _
  | _, _, _, .slice id off len cap a' cap' e he hs, h => by
    obtain ⟨e1, a2, c2, h1, rfl, hs2⟩ := h.slice_inv
    rw [hle _ _ he] at h1; cases h1
    exact .slice id off len cap a2 c2 e he hs2
  | _, _, _, .nilmap, h => by cases h; exact .nilmap
  | _, _, _, .map id e he, h => by
    obtain ⟨e1, h1, rfl⟩ := h.map_inv
    rw [hle _ _ he] at h1; cases h1
    exact .map id e he
  | _, _, _, .nilchan, h => by cases h; exact .nilchan
  | _, _, _, .chan id e he, h => by
    obtain ⟨e1, h1, rfl⟩ := h.chan_inv
    rw [hle _ _ he] at h1; cases h1
    exact .chan id e he
  | _, _, _, .nilFunc, h => by cases h; exact .nilFunc
  | _, _, _, .nilIface, h => by cases h; exact .nilIface
  | _, _, _, .func fn hfn a b a' b' ha hb, h => by
    cases h with
    | func _ _ _ _ a2 b2 ha2 hb2 => exact .func fn hfn a b a2 b2 (VsRel.back hle ha ha2) (VsRel.back hle hb hb2)
    | yield l e he => exact absurd rfl (hfn l)
  | _, _, _, .yield l e he, h => by
    generalize hx : Value.func (.yield l) #[] #[] = x at h
    cases h with
    | func fn hfn a b a2 b2 ha2 hb2 =>
      simp only [Value.func.injEq] at hx
      exact absurd hx.1.symm (hfn l)
    | yield l2 e2 he2 =>
      simp only [Value.func.injEq, Fn.yield.injEq] at hx
      obtain ⟨rfl, _⟩ := hx
      rw [hle _ _ he] at he2; cases he2
      exact .yield l e he
    | _ => cases hx
  | _, _, _, .iface t v v' hv, h => by
    obtain ⟨v2, rfl, h2⟩ := h.iface_inv
    exact .iface t v v2 (VRel.back hle hv h2)
  | _, _, _, .agg l l' hl, h => by
    obtain ⟨l2, rfl, h2⟩ := h.agg_inv
    exact .agg l l2 (VsRel.back hle hl h2)
  | _, _, _, .tuple l l' hl, h => by
    obtain ⟨l2, rfl, h2⟩ := h.tuple_inv
    exact .tuple l l2 (VsRel.back hle hl h2)
theorem VsRel.back {ρ ρ1 : Ren} (hle : ρ.le ρ1) : ∀ {v a b : List Value}, VsRel ρ v a → VsRel ρ1 v b → VsRel ρ v b
  | _, _, _, .nil, h => by cases h; exact .nil
  | _, _, _, .cons v v' l l' hv hl, h => by
    cases h with
    | cons _ v2 _ l2 h1 h2 => exact .cons v v2 l l2 (VRel.back hle hv h1) (VsRel.back hle hl h2)
end

theorem EsRel.back {ρ1 : Ren} (hle : ρ.le ρ1) : ∀ {l : List (Value × Value)} {a b : List MapEntry}, EsRel ρ l a → EsRel ρ1 l b → EsRel ρ l b
  | _, _, _, .nil, h => by cases h; exact .nil
  | _, _, _, .cons k v e l l' hk hv hl, h => by
    cases h with
    | cons _ _ e2 _ l2 hk2 hv2 hl2 => exact .cons k v e2 l l2 hk2 (hv.back hle hv2) (EsRel.back hle hl hl2)

/-- Objects that hold no other one's state. -/
def AObj.simple : AObj → Bool
  | .cells _ _ _ _ _ _ _ | .map _ _ | .chan _ _ _ | .strIter _ _ => true
  | _ => false

theorem ORel.back {ρ1 : Ren} (hle : ρ.le ρ1) {h1 : AHeap} {w1 : World} {e : RE} {o : AObj} (hs : o.simple = true) (ho : ORel ρ h w e o) (h' : ORel ρ1 h1 w1 e o) : ORel ρ h w1 e o := by
  cases o with
  | cells c size el k x wr fam =>
    obtain ⟨_, _, _, rc0, el0, fz0, _, _, _, b7⟩ := ho
    obtain ⟨a1, a2, a3, rc, rel, fz, a4, a5, a6, a7⟩ := h'
    refine ⟨a1, a2, a3, rc, rel, fz, a4, a5, a6, fun i v hi hv => ?_⟩
    obtain ⟨v', c1, c2⟩ := a7 i v hi hv
    obtain ⟨v2, d1, d2⟩ := b7 i v hi hv
    exact ⟨v', c1, d2.back hle c2⟩
  | map es ver =>
    obtain ⟨_, _, _, ⟨l0, _, hl0⟩, _⟩ := ho
    obtain ⟨res, clock, a1, ⟨l, hp, hl⟩, a2⟩ := h'
    exact ⟨res, clock, a1, ⟨l, hp, hl0.back hle hl⟩, a2⟩
  | chan cap buf cl =>
    obtain ⟨_, _, _, _, b2⟩ := ho
    obtain ⟨rbuf, s, r, a1, a2⟩ := h'
    exact ⟨rbuf, s, r, a1, b2.back hle a2⟩
  | strIter s pos => exact h'
  | _ => simp [AObj.simple] at hs

/-- What was there is still there, and says what it said. -/
structure Kept (h h1 : AHeap) : Prop where
  obj : ∀ id o, h.objs.get id = some o → h1.objs.get id = some o ∧ (h.good id o.fam = true → h1.good id o.fam = true)
  simple : ∀ id o, h.objs.get id = some o → o.simple = true

theorem SRel.back {ρ1 : Ren} (hle : ρ.le ρ1) {h1 : AHeap} {w1 : World} (hk : Kept h h1) (S : SRel ρ w0 n0 h w) (S1 : SRel ρ1 w0 n0 h1 w1) : SRel ρ w0 n0 h w1 := by
  refine { obj := fun id e he => ?_, blk := fun id e he => S1.blk id e (hle _ _ he), lt := S.lt, sep := S.sep, wr := S.wr, tip := S.tip, tlt := S.tlt, tipf := S.tipf, fam := S.fam, old := S1.old, size := S1.size, env := S1.env }
  obtain ⟨o, ho, hor⟩ := S.obj id e he
  refine ⟨o, ho, fun hg => ?_⟩
  obtain ⟨o1, ho1, hor1⟩ := S1.obj id e (hle _ _ he)
  obtain ⟨k1, k2⟩ := hk.obj id o ho
  rw [k1] at ho1; cases ho1
  exact ORel.back hle (hk.simple id o ho) (hor hg) (hor1 (k2 hg))

/-- A call of a function that makes garbage alone. -/
theorem callOk_pure (K : ProgOk P) {f : FuncId} {args : List Value} {fr0 : AFrame} {v : Value} {n : Nat} {S1 : AM} {h1 : AHeap} (he : enterA P f args .normal = some fr0) (hrun : arun P n ⟨fr0, [], h⟩ = some S1)
    (hr : Returns P f v h1 S1) (hp : plainV v = true) (hk : Kept h h1) : CallOk P f args h v h := by
  refine ⟨Nat.le_refl _, fun {ρ w0 n0 w args'} S hg ha c cs => ?_⟩
  obtain ⟨ρ1, F1, Fs1, w1, a1, a2, a3⟩ := arun_ok (bs := c :: cs) K n (enter_rel he S hg ha) hrun
  obtain ⟨v', b1, b2, _, b3⟩ := leave_steps hr a3 c cs
  have hv : v' = v := by
    have := plainV_rel (ρ := ρ1) hp
    exact plain_eq hp b1
  subst hv
  exact ⟨v', w1, ρ, Ren.lx_refl _ _, Steps.trans a2 (.one b3), plainV_rel hp, S.back a1 hk b2⟩

end
end Go.Abs

/- Stretches of a run, from one small state to the next one. -/

namespace Go.Abs
noncomputable section

/-- A part of a code. -/
def sub : Code → List Nat → Code
  | c, [] => c
  | .seq a b, n :: l => bif Nat.beq n 0 then sub a l else sub b l
  | .cond _ a b, n :: l => bif Nat.beq n 0 then sub a l else sub b l
  | .block _ b, _ :: l => sub b l
  | .loop b, _ :: l => sub b l
  | .scope b, _ :: l => sub b l
  | c, _ :: _ => c

def bodyAt (P : Program) (f : FuncId) (l : List Nat) : Code := match P.funcs[f]? with
  | some fn => match fn.body with | some c => sub c l | none => .skip
  | none => .skip

def opsAt (P : Program) (f : FuncId) (l : List Nat) : Array Oper := match bodyAt P f l with | .region _ ops _ => ops | _ => #[]

def puts (t : PA Value) : List (Nat × Value) → PA Value
  | [] => t
  | (n, v) :: l => match t.put n v with | .box t => puts t l

/-- A great row: zeros, but for some places. -/
def bigP (P : Program) (elem : TypeId) (rep : Nat) (l : List (Nat × Value)) : PA Value :=
  match zeroT P elem with
  | some z => match PA.fill .nil 0 (repL (cellsL z) rep) with | .box t => puts t l
  | none => .nil

/-- Blocks, from number 0 on. -/
def heapF (t : PA AObj) : Nat → List AObj → AHeap
  | n, [] => ⟨t, n, .nil⟩
  | n, o :: l => match t.put n o with | .box t => heapF t (Nat.succ n) l

def heapL (l : List AObj) : AHeap := heapF .nil 0 l

def slotsL (l : List (Nat × Value)) : PA Value := puts .nil l

/-- Bytes out of a number. -/
def bytesN (f n : Nat) (acc : List UInt8) : List UInt8 :=
  Nat.rec (motive := fun _ => Nat → List UInt8 → List UInt8) (fun _ acc => acc)
    (fun _ g n acc => Bool.rec (motive := fun _ => List UInt8) (g (Nat.div n 256) (UInt8.ofNat (Nat.mod n 256) :: acc)) acc (Nat.beq n 0)) f n acc

def vs (n : Nat) : Value := .string ⟨⟨bytesN 400 n []⟩⟩
def sb (l : List Nat) : Value := .string ⟨⟨l.map UInt8.ofNat⟩⟩
def pt (b o : Nat) : Value := .pointer (some ⟨b, o, none⟩)
def sl (b o l c : Nat) : Value := .slice (some ⟨b, o, none⟩) l c
def ag (l : List Value) : Value := .agg ⟨l⟩
def it (n : Int) : Value := .int .i64 n
def by8 (n : Int) : Value := .int .u8 n
/-- A primitive's entry; a register's entry. -/
def pr (n : Nat) : Value × Value := (vs n, ag [it 1, it 0, it 0, it 0, vs n])
def rg (n : Nat) (c k : Int) : Value × Value := (vs n, ag [it 4, it c, it k, it 0, sb []])

/-- Whole numbers at places in even steps. -/
def ints : (at_ step : Nat) → List Int → List (Nat × Value)
  | _, _, [] => []
  | a, s, n :: l => (a, it n) :: ints (Nat.add a s) s l

def runCanon (P : Program) (n : Nat) (keep : List (Nat × Bool)) (top : List Tmp) (slots : List (List Tmp)) (S : AM) : Option AM :=
  match frun P n S with
  | some S => canon keep top slots S
  | none => none

theorem Goes.seg {P : Program} (K : ProgOk P) {n : Nat} {keep : List (Nat × Bool)} {top : List Tmp} {slots : List (List Tmp)} {S S' : AM} (h : runCanon P n keep top slots S = some S') (hk : keep.all (fun x => !x.2) = true) {Q : AM → Prop}
    (h' : Goes P S' Q) : Goes P S Q := by
  unfold runCanon at h
  cases hr : frun P n S with
  | none => rw [hr] at h; cases h
  | some S1 =>
    rw [hr] at h
    refine Goes.run K hr (Goes.weaken (canon_weaker h fun id o hm _ => ?_) h')
    have := List.all_eq_true.1 hk _ hm
    simp at this

end
end Go.Abs

