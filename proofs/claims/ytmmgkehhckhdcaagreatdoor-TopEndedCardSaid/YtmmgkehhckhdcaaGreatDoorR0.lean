/- The law TopEnded of the given program returns true, for every input: R0. Conditions: none. -/
import Derived.Test.YtmmgkehhckhdcaaGreatDoorRows
import Derived.ProofKit
import Derived.LaidMore
import Derived.LaidHandle
import Derived.LaidSub
import Derived.OpenShut
import Derived.Stop.Joined
import Derived.Test.YtmmgkehhckhdcaaGreatDoorB1
import Derived.Test.YtmmgkehhckhdcaaGreatDoorF4

set_option linter.unusedVariables false
set_option linter.unusedSimpArgs false

/- What the small machine asks of the program. -/
namespace Go.Proofs.Gt
open Go Go.Proofs Go.Abs
set_option maxRecDepth 1000000
noncomputable section

theorem ix_all : ((List.range P.funcs.size).all fun g => !isIndexByteString P g || Nat.beq g 692) = true := by kernel_rfl
theorem ix_find : (P.funcs[692]?).map Extern.findNext = some none := by kernel_rfl
theorem ix_find2 : (P.funcs[692]?).map Extern.find = some (some Extern.BytealgIndexByte.indexByte) := by kernel_rfl
theorem mixP : P.follows .mixedOrders = true := by kernel_rfl

theorem progOk : ProgOk P := by
  refine ⟨fun g fn hg hi => ?_, mixP⟩
  have hlt : g < P.funcs.size := by
    rcases Nat.lt_or_ge g P.funcs.size with h | h
    · exact h
    · rw [Array.getElem?_eq_none h] at hg; cases hg
  have h1 := List.all_eq_true.1 ix_all g (List.mem_range.2 hlt)
  rw [hi] at h1
  simp only [Bool.not_true, Bool.false_or] at h1
  have h2 := Nat.eq_of_beq_eq_true h1
  subst h2
  have a := ix_find
  have b := ix_find2
  rw [hg] at a b
  simp only [Option.map_some, Option.some.injEq] at a b
  exact ⟨a, b⟩
end
end Go.Proofs.Gt

/- The row: for every input the law returns true, and each argument reads as it did. -/
namespace Go.Proofs.YtmmgkehhckhdcaaGreatDoor
open Go Go.ChangeShapes Go.WideShapes Go.ChangeAt Go.WideMaps Go.WideElems Go.RowKit Go.Abs
set_option maxRecDepth 1000000

theorem own : ownKnob Tryz.prog.godebug = none := by kernel_rfl
theorem gPow : Tryz.prog.globalNamed "internal/strconv.uint64pow10" = some 0 := by kernel_rfl
theorem tPow : (Tryz.prog.globals[0]?).map (·.type) = some 647 := by kernel_rfl
theorem u647 : Tryz.prog.underlying 647 = some (.array 20 535) := by kernel_rfl
theorem u535 : Tryz.prog.underlying 535 = some (.int .u64) := by kernel_rfl
theorem c535 : Tryz.prog.cellsOf 535 = 1 := by kernel_rfl
theorem u9 : Tryz.prog.underlying 9 = some .string := by kernel_rfl
theorem u4 : Tryz.prog.underlying 4 = some .bool := by kernel_rfl

/-- What is laid of the powers of ten. -/
def powD : List (String × DataW Unit) := [("internal/strconv.uint64pow10", Rows.laid_internal_strconv_uint64pow10)]
def powN : List Int := [1, 10, 100, 1000, 10000, 100000, 1000000, 10000000, 100000000, 1000000000, 10000000000, 100000000000, 1000000000000, 10000000000000, 100000000000000, 1000000000000000, 10000000000000000, 100000000000000000, 1000000000000000000, 10000000000000000000]

theorem pow_plain : (powD.all fun x => x.2.handleName?.isNone) = true := by kernel_rfl
theorem pow_agg : (Rows.laid_internal_strconv_uint64pow10 : DataW Unit) = .agg (powN.map fun n => .lit (.int .u64 n)) := rfl
theorem pow_of {W : World} (h : laidMetH Tryz.prog Rows.topEndedRow.laid W) : laidMetH Tryz.prog powD W := by
  have h1 := h.filter (fun x => x.1 == "internal/strconv.uint64pow10")
  have e : (Rows.topEndedRow.laid.filter fun x => x.1 == "internal/strconv.uint64pow10") = powD := by kernel_rfl
  rwa [e] at h1

theorem pow_cells {W : World} (h : laidMetH Tryz.prog powD W) : ∀ (i : Nat) (n : Int), powN[i]? = some n → W.cell? ⟨0, i, none⟩ = some (.int .u64 n) := by
  rw [MakeChecks.laidMetH_plain _ _ _ pow_plain] at h
  obtain ⟨ps, ⟨g0, t0, cs0, f0, p0, q0, hg0, ht0, hv0, hd0, _, _⟩, _, _⟩ := h
  obtain rfl := Option.some.inj (gPow.symm.trans hg0)
  obtain rfl := Option.some.inj (tPow.symm.trans ht0)
  obtain ⟨xs, m1, rfl, hx1, hlen, hn, hel⟩ := DataW.trod_array u647 hd0
  rw [pow_agg] at hx1
  simp only [Prod.mk.injEq, DataW.agg.injEq] at hx1
  intro i n hi
  have hi20 : i < 20 := by
    have : powN.length = 20 := rfl
    rcases Nat.lt_or_ge i powN.length with h | h
    · omega
    · rw [List.getElem?_eq_none h] at hi; cases hi
  have h0 := hel i hi20
  have hxi : xs[i]? = some xs[i] := List.getElem?_eq_getElem (by omega)
  rw [hxi] at h0
  obtain ⟨k, e1, e2, _⟩ := DataW.trod_int u535 h0
  have hm := congrArg (fun l => l[i]?) hx1.1
  simp only [List.getElem?_map, hi, hxi, Option.map_some, Option.some.injEq, e2, DataW.lit.injEq, Lit.int.injEq, true_and] at hm
  subst hm
  rw [c535, Nat.mul_one] at e1
  rw [World.var?_cell hg0 hv0 i]
  have e3 : (cs0.toList.drop i)[0]? = some (.int .u64 n) := by
    have := congrArg (fun l => l[0]?) e1
    simpa using this
  rw [List.getElem?_drop] at e3
  simpa using e3

theorem powL_eq : Gt.powL = powN.map (.int .u64) := by kernel_rfl
theorem daob0_eq : Gt.daob0 = .cells (.lst Gt.powL) 20 3 1 true false none := by kernel_rfl

def ren0 : Ren := fun i => if i = 0 then some ⟨0, 0, 20, 1, 0⟩ else none

theorem srel_start {W : World} (hp : ∀ (i : Nat) (n : Int), powN[i]? = some n → W.cell? ⟨0, i, none⟩ = some (.int .u64 n)) : SRel ren0 W W.heap.size (heapL [Gt.daob0]) W ∧ GlobOk ren0 := by
  have h0 := hp 0 1 rfl
  unfold World.cell? at h0
  split at h0
  · rename_i rc el fz hb
    have hb : W.heap[0]? = some (.cells rc el fz) := hb
    have hcell : ∀ (i : Nat) (n : Int), powN[i]? = some n → rc[i]? = some (.int .u64 n) := by
      intro i n hi
      have h1 := hp i n hi
      unfold World.cell? at h1
      rw [show (⟨0, i, none⟩ : Addr).block = 0 from rfl, hb] at h1
      simpa using h1
    have h19 := hcell 19 10000000000000000000 rfl
    have hsz : 20 ≤ rc.size := by
      rcases Nat.lt_or_ge 19 rc.size with h | h
      · omega
      · rw [Array.getElem?_eq_none h] at h19; cases h19
    have hlt : 0 < W.heap.size := by
      rcases Nat.lt_or_ge 0 W.heap.size with h | h
      · exact h
      · rw [Array.getElem?_eq_none h] at hb; cases hb
    have hren : ∀ i e, ren0 i = some e → i = 0 ∧ e = ⟨0, 0, 20, 1, 0⟩ := by
      intro i e hi
      unfold ren0 at hi
      by_cases h : i = 0
      · rw [if_pos h] at hi; exact ⟨h, (Option.some.inj hi).symm⟩
      · rw [if_neg h] at hi; cases hi
    have hget : ∀ i, (heapL [Gt.daob0]).objs.get i = [Gt.daob0][i]? := heapL_get _
    have hfm : (heapL [Gt.daob0]).fams = .nil := rfl
    refine ⟨?_, ⟨_, if_pos rfl, rfl, rfl⟩⟩
    refine { obj := ?_, blk := ?_, lt := ?_, sep := ?_, wr := ?_, tip := ?_, tlt := ?_, tipf := ?_, fam := ?_, old := fun _ _ => rfl, size := Nat.le_refl _, env := ⟨rfl, rfl, rfl⟩ }
    · intro i e hi
      obtain ⟨rfl, rfl⟩ := hren i e hi
      refine ⟨Gt.daob0, by rw [hget]; rfl, fun _ => ?_⟩
      rw [daob0_eq]
      refine ⟨rfl, rfl, fun _ => rfl, rc, el, fz, hb, (fun h => by cases h), (by show 0 + 20 + 0 * 1 ≤ rc.size; omega), fun i v hi hv => ?_⟩
      rw [PA.get_lst, powL_eq, List.getElem?_map] at hv
      cases hn : powN[i]? with
      | none => rw [hn] at hv; cases hv
      | some n =>
        rw [hn] at hv
        simp only [Option.map_some, Option.some.injEq] at hv
        subst hv
        refine ⟨.int .u64 n, ?_, .int .u64 n⟩
        rw [show (0 : Nat) + i = i from Nat.zero_add i]
        exact hcell i n hn
    · intro i e hi; obtain ⟨rfl, rfl⟩ := hren i e hi; exact hlt
    · intro i hi
      have hi : 1 ≤ i := hi
      rw [hget, List.getElem?_eq_none (by simpa using hi)]
    · intro i j ei ej oi oj hi hj _ _ _
      left; rw [(hren i ei hi).1, (hren j ej hj).1]
    · intro i e o hi ho hw
      obtain ⟨rfl, rfl⟩ := hren i e hi
      rw [hget] at ho
      simp only [List.getElem?_cons_zero, Option.some.injEq] at ho
      subst ho
      rw [daob0_eq] at hw
      cases hw
    · intro f F hF; rw [hfm, PA.get_nil] at hF; cases hF
    · intro f F hF; rw [hfm, PA.get_nil] at hF; cases hF
    · intro f F hF; rw [hfm, PA.get_nil] at hF; cases hF
    · intro i o f ho hf
      rw [hget] at ho
      cases i with
      | zero =>
        simp only [List.getElem?_cons_zero, Option.some.injEq] at ho
        subst ho
        rw [daob0_eq] at hf
        cases hf
      | succ i => simp at ho
  · cases h0

/-- The law's call, in every world that has the powers of ten. -/
theorem law_calls {W : World} (hL : laidMetH Tryz.prog Rows.topEndedRow.laid W) (a b : ByteArray) :
    Calls Tryz.prog 3 #[.string a, .string b] W fun e W' => e = .returned (.bool true) ∧ (∀ i, i < W.heap.size → W'.heap[i]? = W.heap[i]?) ∧ W'.os = W.os ∧ W'.output = W.output := by
  obtain ⟨S, hg⟩ := srel_start (pow_cells (pow_of hL))
  obtain ⟨⟨la⟩⟩ := a
  obtain ⟨⟨lb⟩⟩ := b
  obtain ⟨h2, hgo⟩ := Gt.lawGoes Gt.progOk la lb
  have ha : VsRel ren0 [Gt.st la, Gt.st lb] [.string ⟨⟨la⟩⟩, .string ⟨⟨lb⟩⟩] := .cons _ _ _ _ (.string _) (.cons _ _ _ _ (.string _) .nil)
  refine (calls_of_goes Gt.enterM S hg ha hgo).mono fun e W' ⟨v', ρ', he, hv, S'⟩ => ?_
  cases hv
  exact ⟨he, fun i hi => S'.old i hi, S'.env.1, S'.env.2.1⟩
end Go.Proofs.YtmmgkehhckhdcaaGreatDoor

