/- Part of the proof of the law TopEnded: the run that knows() makes: K16. Conditions: none. -/
import Derived.Test.YtmmgkehhckhdcaaGreatDoorB5
import Derived.Test.YtmmgkehhckhdcaaGreatDoorK1
import Derived.Test.YtmmgkehhckhdcaaGreatDoorK2
import Derived.Test.YtmmgkehhckhdcaaGreatDoorK3
import Derived.Test.YtmmgkehhckhdcaaGreatDoorK4
import Derived.Test.YtmmgkehhckhdcaaGreatDoorK5
import Derived.Test.YtmmgkehhckhdcaaGreatDoorK6
import Derived.Test.YtmmgkehhckhdcaaGreatDoorK7
import Derived.Test.YtmmgkehhckhdcaaGreatDoorK8
import Derived.Test.YtmmgkehhckhdcaaGreatDoorK9
import Derived.Test.YtmmgkehhckhdcaaGreatDoorK10
import Derived.Test.YtmmgkehhckhdcaaGreatDoorK11
import Derived.Test.YtmmgkehhckhdcaaGreatDoorK12
import Derived.Test.YtmmgkehhckhdcaaGreatDoorK13
import Derived.Test.YtmmgkehhckhdcaaGreatDoorK14
import Derived.Test.YtmmgkehhckhdcaaGreatDoorK15

set_option linter.unusedVariables false
set_option linter.unusedSimpArgs false

/- knows(), as a whole. -/
namespace Go.Proofs.Gk
open Go Go.Proofs Go.Abs Gt
set_option maxRecDepth 1000000
noncomputable section

def frK : AFrame := ⟨5, 27, .nil, [.code (bodyAt P 5 [])], [], false, .normal, none⟩
theorem enterK : enterA P 5 [] .normal = some frK := by kernel_rfl

def K1 : AM := run1 P 109 ⟨frK, [], heapL [Gn.nwob0]⟩
def tK : PA AObj := match canonH (newId Gn.keepN K1.heap.next) (Gn.nxst2 1000).heap Gn.keepN K1.heap.next K1.heap.objs with | some t => t | none => .nil
def hK : AHeap := ⟨tK, K1.heap.next + Gn.keepN.length, K1.heap.fams⟩
def vK : Value := .tuple ⟨[pt 11 0, it 0]⟩

theorem callK (K : ProgOk P) : CallOk P 11 (Gn.argsN 1000) K1.heap vK hK := Gn.newCall K Gn.ok1000 (by kernel_rfl) (by kernel_rfl) (by kernel_rfl)

theorem startK (K : ProgOk P) {Q : AM → Prop} (h : Goes P kst0 Q) : Goes P ⟨frK, [], heapL [Gn.nwob0]⟩ Q := by
  refine Goes.go K 109 (by kernel_rfl) ?_
  refine Goes.call K (S := K1) (S' := fin1 P K1 vK hK) (by kernel_rfl) (callK K) (fin1_eq (by kernel_rfl)) ?_
  refine Goes.go K 26 (by kernel_rfl) ?_
  exact Goes.small (keep := [(0, false), (2, false), (5, false), (6, false), (7, false), (8, false), (9, false), (10, false), (11, false), (12, false), (13, false)]) (top := [0, 1]) (slots := [[2], []]) (by kernel_rfl) (fun id o hm _ => by simp at hm) h

def K2 : AM := run1 P 13 kst30
theorem retK : Abs.Returns P 5 (.bool true) K2.heap K2 := ⟨by kernel_rfl, rfl, by kernel_rfl, by kernel_rfl, by kernel_rfl, by kernel_rfl, by kernel_rfl⟩

theorem knowsGoes (K : ProgOk P) : Goes P ⟨frK, [], heapL [Gn.nwob0]⟩ (Abs.Returns P 5 (.bool true) K2.heap) :=
  startK K (kseg0 K (kseg1 K (kseg2 K (kseg3 K (kseg4 K (kseg5 K (kseg6 K (kseg7 K (kseg8 K (kseg9 K (kseg10 K (kseg11 K (kseg12 K (kseg13 K (kseg14 K (kseg15 K (kseg16 K (kseg17 K (kseg18 K (kseg19 K (kseg20 K (kseg21 K (kseg22 K (kseg23 K (kseg24 K (kseg25 K (kseg26 K (kseg27 K (kseg28 K (kseg29 K (Goes.go K 13 (by kernel_rfl) (Goes.done retK))))))))))))))))))))))))))))))))

theorem knowsCall (K : ProgOk P) {h : AHeap} (hb : h.objs.get 0 = some Gn.nwob0) : CallOk P 5 [] h (.bool true) ⟨h.objs, h.next + 0, h.fams⟩ :=
  callOk_base (b0 := Gn.nwob0) (keep := []) enterK (knowsGoes K) rfl rfl (by kernel_rfl) Gn.objs1 rfl rfl rfl (by kernel_rfl) hb rfl rfl rfl (fun id o hm _ => by cases hm) rfl rfl
end
end Go.Proofs.Gk

