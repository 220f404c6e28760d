/- Part of the proof of the law TopEnded: the run that knows() makes: K15. Conditions: none. -/
import Derived.Test.YtmmgkehhckhdcaaGreatDoorK0

set_option linter.unusedVariables false
set_option linter.unusedSimpArgs false

namespace Go.Proofs.Gk
open Go Go.Proofs Go.Abs Gt
set_option maxRecDepth 1000000
noncomputable section

theorem kseg28 (K : ProgOk P) {Q : AM → Prop} (h : Goes P kst29 Q) : Goes P kst28 Q :=
  Goes.seg K (n := 21985) (keep := [(0, false), (1, false), (2, false), (3, false), (4, false), (5, false), (6, false), (7, false), (8, false), (9, false), (10, false), (11, false), (12, false), (13, false), (14, false), (15, false), (17, false), (18, false), (19, false), (21, false), (22, false), (23, false), (24, false), (26, false), (412, false), (445, false), (453, false), (458, false), (654, false), (656, false), (677, false)]) (top := [0, 1, 6]) (slots := [[7, 8], [0, 5], [], [6, 10], [0, 3, 4, 5], [2], []]) (by kernel_rfl) rfl h
end
end Go.Proofs.Gk

namespace Go.Proofs.Gk
open Go Go.Proofs Go.Abs Gt
set_option maxRecDepth 1000000
noncomputable section

def kst30 : AM :=
  ⟨⟨8, 18, slotsL [(0, vs 0x380a556e64657266756c6c2076626f7820286261646e657373203130303030290a4f7574707574207772697474656e3a20312070616765732c203130382062797465732e0a), (3, it 1)], [.code (bodyAt P 8 [1, 0, 1, 0, 0, 1, 0, 0, 1, 0, 0]), .code .ret, .inBlock 1, .code (bodyAt P 8 [1, 0, 1, 0, 0, 1, 1]), .inLoop (bodyAt P 8 [1, 0, 1, 0, 0]), .inBlock 0, .code (bodyAt P 8 [1, 1])], [], false, .normal, none⟩,
  [⟨5, 27, slotsL [(21, .bool true)], [.seqR (opsAt P 5 [1, 1, 0]) [16, 17, 18, 19], .code .ret], [], false, .normal, none⟩],
  heapL [kob0]⟩

theorem kseg29 (K : ProgOk P) {Q : AM → Prop} (h : Goes P kst30 Q) : Goes P kst29 Q :=
  Goes.seg K (n := 21462) (keep := [(0, false)]) (top := [0, 3]) (slots := [[21]]) (by kernel_rfl) rfl h

end
end Go.Proofs.Gk

