/- Part of the proof of the law TopEnded: the run that knows() makes: K4. Conditions: none. -/
import Derived.Test.YtmmgkehhckhdcaaGreatDoorK0

set_option linter.unusedVariables false
set_option linter.unusedSimpArgs false

namespace Go.Proofs.Gk
open Go Go.Proofs Go.Abs Gt
set_option maxRecDepth 1000000
noncomputable section

theorem kseg6 (K : ProgOk P) {Q : AM → Prop} (h : Goes P kst7 Q) : Goes P kst6 Q :=
  Goes.seg K (n := 19128) (keep := [(0, false), (1, false), (2, false), (3, false), (4, false), (5, false), (6, false), (7, false), (8, false), (9, false), (10, false), (11, false), (12, false), (13, false), (14, false), (16, false), (333, false), (336, false), (337, false), (338, false), (339, false), (343, false), (391, false), (392, false), (393, false)]) (top := [0, 2, 6]) (slots := [[0, 2], [2], [0, 3], [0], [2], [], [2, 3, 4], [0, 5], [2, 3, 4], [0, 1, 2], [], [], [], [], [0], [0, 3, 4], [2], []]) (by kernel_rfl) rfl h
end
end Go.Proofs.Gk

namespace Go.Proofs.Gk
open Go Go.Proofs Go.Abs Gt
set_option maxRecDepth 1000000
noncomputable section

theorem kseg7 (K : ProgOk P) {Q : AM → Prop} (h : Goes P kst8 Q) : Goes P kst7 Q :=
  Goes.seg K (n := 17071) (keep := [(0, false), (1, false), (2, false), (3, false), (4, false), (5, false), (6, false), (7, false), (8, false), (9, false), (10, false), (11, false), (12, false), (13, false), (14, false), (15, false), (16, false), (17, false), (18, false), (19, false), (20, false), (21, false), (299, false), (323, false), (324, false), (325, false)]) (top := [0, 2, 6]) (slots := [[0, 2], [2], [0, 1, 4, 5], [0], [4], [2], [], [2, 3, 4], [0, 5], [2, 3, 4], [0, 1, 2], [], [], [], [], [0], [0, 3, 4], [2], []]) (by kernel_rfl) rfl h
end
end Go.Proofs.Gk

