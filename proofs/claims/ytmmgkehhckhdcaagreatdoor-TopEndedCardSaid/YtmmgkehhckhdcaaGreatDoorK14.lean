/- Part of the proof of the law TopEnded: the run that knows() makes: K14. Conditions: none. -/
import Derived.Test.YtmmgkehhckhdcaaGreatDoorK0

set_option linter.unusedVariables false
set_option linter.unusedSimpArgs false

namespace Go.Proofs.Gk
open Go Go.Proofs Go.Abs Gt
set_option maxRecDepth 1000000
noncomputable section

theorem kseg26 (K : ProgOk P) {Q : AM → Prop} (h : Goes P kst27 Q) : Goes P kst26 Q :=
  Goes.seg K (n := 21998) (keep := [(0, false), (1, false), (2, false), (3, false), (4, false), (5, false), (6, false), (7, false), (8, false), (9, false), (10, false), (11, false), (12, false), (13, false), (14, false), (15, false), (16, false), (17, false), (18, false), (19, false), (20, false), (21, false), (22, false), (23, false), (288, false)]) (top := [0, 4]) (slots := [[0], [], [], [0], [0, 3, 4], [2], []]) (by kernel_rfl) rfl h
end
end Go.Proofs.Gk

namespace Go.Proofs.Gk
open Go Go.Proofs Go.Abs Gt
set_option maxRecDepth 1000000
noncomputable section

theorem kseg27 (K : ProgOk P) {Q : AM → Prop} (h : Goes P kst28 Q) : Goes P kst27 Q :=
  Goes.seg K (n := 15465) (keep := [(0, false), (1, false), (2, false), (3, false), (4, false), (5, false), (6, false), (7, false), (8, false), (9, false), (10, false), (11, false), (12, false), (13, false), (14, false), (15, false), (16, false), (17, false), (23, false), (24, false), (40, false), (75, false), (76, false), (77, false), (78, false), (87, false), (256, false)]) (top := [0, 6, 12, 13, 14, 15, 19, 20]) (slots := [[0], [], [], [0], [0, 3, 4], [2], []]) (by kernel_rfl) rfl h
end
end Go.Proofs.Gk

