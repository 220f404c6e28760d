/- Part of the proof of the law TopEnded: the run that knows() makes: K13. Conditions: none. -/
import Derived.Test.YtmmgkehhckhdcaaGreatDoorK0

set_option linter.unusedVariables false
set_option linter.unusedSimpArgs false

namespace Go.Proofs.Gk
open Go Go.Proofs Go.Abs Gt
set_option maxRecDepth 1000000
noncomputable section

theorem kseg24 (K : ProgOk P) {Q : AM → Prop} (h : Goes P kst25 Q) : Goes P kst24 Q :=
  Goes.seg K (n := 21983) (keep := [(0, false), (1, false), (2, false), (3, false), (4, false), (5, false), (6, false), (7, false), (8, false), (9, false), (10, false), (11, false), (12, false), (13, false), (14, false), (15, false), (16, false), (17, false), (18, false), (19, false), (20, false), (21, false), (438, false), (439, false)]) (top := [0]) (slots := [[1, 2], [0, 1, 2, 6], [0, 2, 3, 4, 5, 18], [0, 1], [], [], [], [], [], [0], [0, 3, 4], [2], []]) (by kernel_rfl) rfl h
end
end Go.Proofs.Gk

namespace Go.Proofs.Gk
open Go Go.Proofs Go.Abs Gt
set_option maxRecDepth 1000000
noncomputable section

theorem kseg25 (K : ProgOk P) {Q : AM → Prop} (h : Goes P kst26 Q) : Goes P kst25 Q :=
  Goes.seg K (n := 17450) (keep := [(0, false), (1, false), (2, false), (3, false), (4, false), (5, false), (6, false), (7, false), (8, false), (9, false), (10, false), (11, false), (12, false), (15, false), (16, false), (17, false), (18, false), (306, false), (307, false), (308, false), (309, false), (343, false), (353, false), (359, false), (361, false), (362, false)]) (top := [0, 2, 6]) (slots := [[0, 2], [0], [0, 3, 4], [2], []]) (by kernel_rfl) rfl h
end
end Go.Proofs.Gk

