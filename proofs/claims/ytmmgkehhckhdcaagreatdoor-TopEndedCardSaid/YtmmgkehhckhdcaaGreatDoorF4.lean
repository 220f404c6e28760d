/- Part of the proof of the law TopEnded: the run as a whole: F4. Conditions: none. -/
import Derived.Test.YtmmgkehhckhdcaaGreatDoorF3
import Derived.Test.YtmmgkehhckhdcaaGreatDoorK16

set_option linter.unusedVariables false
set_option linter.unusedSimpArgs false

/- The law's run, at every input. -/
namespace Go.Proofs.Gt
open Go Go.Proofs Go.Abs
set_option maxRecDepth 1000000
noncomputable section

def frM (w more : List UInt8) : AFrame := frB 3 58 [st w, st more]
theorem enterM {w more : List UInt8} : enterA P 3 [st w, st more] .normal = some (frM w more) := by kernel_rfl

def same (h : AHeap) : AHeap := ⟨h.objs, h.next + 0, h.fams⟩

variable {w more ms : List UInt8}
def M1 (w more : List UInt8) : AM := run1 P 7 ⟨frM w more, [], heapL [daob0]⟩
def M2 (w more ms : List UInt8) : AM := fin1 P (M1 w more) (st (113 :: ms)) (same (M1 w more).heap)
def evM3 (ms more : List UInt8) : List (Nat × Ev) := [(7, .bin (.bool false)), (6, .bin (st (T1 ++ ms))), (0, .bin (st (txt ms []))), (15, .bin (st (txt ms more)))]
def M3 (w more ms : List UInt8) : AM := orunS P (evM3 ms more) 6 (M2 w more ms)
def stpM (ms : List UInt8) : Int := 99991 - ms.length
def M4 (w more ms : List UInt8) : AM := fin1 P (M3 w more ms) (doV (M3 w more ms).heap.next (stpM ms) (FT ms)) (behindD (M3 w more ms).heap)
def evM5 (ms : List UInt8) : List (Nat × Ev) := [(36, .call (st (113 :: ms))), (1, .bin (.bool true))]
def M5 (w more ms : List UInt8) : AM := orunS P (evM5 ms) 4 (M4 w more ms)
def M6 (w more ms : List UInt8) : AM := fin1 P (M5 w more ms) (.bool true) (same (M5 w more ms).heap)
def M7 (w more ms : List UInt8) : AM := run1 P 2 (M6 w more ms)
def M8 (w more ms : List UInt8) : AM := fin1 P (M7 w more ms) (.bool true) (same (M7 w more ms).heap)
def M9 (w more ms : List UInt8) : AM := run1 P 4 (M8 w more ms)

theorem opM1 : opS P (M1 w more) = some (.enter 4 [st w]) := by kernel_rfl
theorem hbM1 : (M1 w more).heap.objs.get 0 = some daob0 := by kernel_rfl
theorem runM3 : orun P (evM3 ms more) 6 (M2 w more ms) = some (.mk (abin P .gtr 3 (it (Int.ofNat (lengthL more))) (it 5000) = some (.bool false) ∧
    abin P .add 9 (st [92, 104, 114, 117, 108, 101, 32, 92, 109, 101, 115, 115, 97, 103, 101, 123]) (st (113 :: ms)) = some (st (T1 ++ ms)) ∧ abin P .add 9 (st (T1 ++ ms)) (st [125, 92, 101, 110, 100, 32]) = some (st (txt ms [])) ∧
    abin P .add 9 (st (txt ms [])) (st more) = some (st (txt ms more)) ∧ True) (M3 w more ms)) := by kernel_rfl
theorem opM3 : opS P (M3 w more ms) = some (.enter 6 [jobV (txt ms [])]) := by kernel_rfl
theorem hbM3 : (M3 w more ms).heap.objs.get 0 = some daob0 := by kernel_rfl
theorem runM5 : orun P (evM5 ms) 4 (M4 w more ms) = some (.mk (CallV P 8 [st (FT ms)] (st (113 :: ms)) ∧ abin P .eql 9 (st (113 :: ms)) (st (113 :: ms)) = some (.bool true) ∧ True) (M5 w more ms)) := by kernel_rfl
theorem opM5 : opS P (M5 w more ms) = some (.enter 9 (argsB ms [] more)) := by kernel_rfl
theorem hbM5 : (M5 w more ms).heap.objs.get 0 = some daob0 := by kernel_rfl
theorem opM7 : opS P (M7 w more ms) = some (.enter 5 []) := by kernel_rfl
theorem hbM7 : (M7 w more ms).heap.objs.get 0 = some Gn.nwob0 := by kernel_rfl
theorem retM9 : Abs.Returns P 3 (.bool true) (M9 w more ms).heap (M9 w more ms) := ⟨by kernel_rfl, rfl, by kernel_rfl, by kernel_rfl, by kernel_rfl, by kernel_rfl, by kernel_rfl⟩

/-- A long rest of the text: knows() alone. -/
def N3 (w more ms : List UInt8) : AM := orunS P [(7, .bin (.bool true))] 4 (M2 w more ms)
def N4 (w more ms : List UInt8) : AM := fin1 P (N3 w more ms) (.bool true) (same (N3 w more ms).heap)
def N5 (w more ms : List UInt8) : AM := run1 P 3 (N4 w more ms)
theorem runN3 : orun P [(7, .bin (.bool true))] 4 (M2 w more ms) = some (.mk (abin P .gtr 3 (it (Int.ofNat (lengthL more))) (it 5000) = some (.bool true) ∧ True) (N3 w more ms)) := by kernel_rfl
theorem opN3 : opS P (N3 w more ms) = some (.enter 5 []) := by kernel_rfl
theorem hbN3 : (N3 w more ms).heap.objs.get 0 = some Gn.nwob0 := by kernel_rfl
theorem retN5 : Abs.Returns P 3 (.bool true) (N5 w more ms).heap (N5 w more ms) := ⟨by kernel_rfl, rfl, by kernel_rfl, by kernel_rfl, by kernel_rfl, by kernel_rfl, by kernel_rfl⟩

theorem FT_eq (ms : List UInt8) : ∃ b, FT ms = (113 :: ms) ++ 10 :: b := by
  unfold FT LT
  exact ⟨[] ++ U1 ++ [10] ++ U2 ++ [10], by simp⟩

theorem low10 {c : UInt8} (h : isLow c) : c ≠ 10 := low_ne h

/-- The law, at every input. -/
theorem lawGoes (K : ProgOk P) (w more : List UInt8) : ∃ h2, Goes P ⟨frM w more, [], heapL [daob0]⟩ (Abs.Returns P 3 (.bool true) h2) := by
  have hm := lowB_low w
  have hl := lowB_len w
  generalize hms : lowB w = ms at hm hl
  have hcall : CallOk P 4 [st w] (M1 w more).heap (st (113 :: ms)) (same (M1 w more).heap) := by rw [← hms]; exact letterCall K hbM1
  by_cases hlen : more.length ≤ 5000
  · have hF : CallV P 8 [st (FT ms)] (st (113 :: ms)) := by
      obtain ⟨b, hb⟩ := FT_eq ms
      rw [hb]
      refine firstV K (fun c hc => ?_) (by simp; omega)
      rcases List.mem_cons.1 hc with rfl | hc
      · decide
      · exact low10 (hm c hc)
    have e1 : (T1 ++ ms).length ≤ 1000 := by
      rw [List.length_append]
      have : T1.length = 17 := rfl
      omega
    have e2 : (txt ms []).length ≤ 2000 := by
      simp only [txt, List.length_append, List.length_cons, List.length_nil]
      have : T1.length = 17 := rfl
      omega
    refine ⟨(M9 w more ms).heap, ?_⟩
    refine Goes.go K 7 (by kernel_rfl) ?_
    refine Goes.call K opM1 hcall (fin1_eq (by kernel_rfl)) ?_
    refine Goes.trace K runM3 ⟨gtr_f (by rw [lengthL_eq]; simp only [Int.ofNat_eq_natCast]; omega), ?_, ?_, ?_, trivial⟩ ?_
    · refine (str_add ?_).trans rfl
      show 16 + (113 :: ms).length ≤ _
      simp only [List.length_cons]; omega
    · refine (str_add ?_).trans ?_
      · show (T1 ++ ms).length + 6 ≤ _; omega
      · simp only [txt, st, List.append_assoc]; rfl
    · refine (str_add ?_).trans ?_
      · omega
      · simp only [txt, st, List.append_assoc]; rfl
    refine Goes.call K opM3 (doCall K hm hl (by simp) hbM3 (putD_eq _)) (fin1_eq (by kernel_rfl)) ?_
    refine Goes.trace K runM5 ⟨hF, str_eql_t _, trivial⟩ ?_
    refine Goes.call K opM5 (bothCall K hm hl (by simp) (by omega) hbM5) (fin1_eq (by kernel_rfl)) ?_
    refine Goes.go K 2 (by kernel_rfl) ?_
    refine Goes.call K (S := M7 w more ms) opM7 (Gk.knowsCall K hbM7) (fin1_eq (by kernel_rfl)) ?_
    exact Goes.go K 4 (by kernel_rfl) (Goes.done retM9)
  · refine ⟨(N5 w more ms).heap, ?_⟩
    refine Goes.go K 7 (by kernel_rfl) ?_
    refine Goes.call K opM1 hcall (fin1_eq (by kernel_rfl)) ?_
    refine Goes.trace K runN3 ⟨gtr_t (by rw [lengthL_eq]; simp only [Int.ofNat_eq_natCast]; omega), trivial⟩ ?_
    refine Goes.call K opN3 (Gk.knowsCall K hbN3) (fin1_eq (by kernel_rfl)) ?_
    exact Goes.go K 3 (by kernel_rfl) (Goes.done retN5)
end
end Go.Proofs.Gt

