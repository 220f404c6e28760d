/- Part of the proof of the law TopEnded: the run that knows() makes: K9. Conditions: none. -/
import Derived.Test.YtmmgkehhckhdcaaGreatDoorK0

set_option linter.unusedVariables false
set_option linter.unusedSimpArgs false

namespace Go.Proofs.Gk
open Go Go.Proofs Go.Abs Gt
set_option maxRecDepth 1000000
noncomputable section

theorem kseg16 (K : ProgOk P) {Q : AM → Prop} (h : Goes P kst17 Q) : Goes P kst16 Q :=
  Goes.seg K (n := 17848) (keep := [(0, false), (1, false), (2, false), (3, false), (4, false), (5, false), (6, false), (7, false), (8, false), (9, false), (10, false), (11, false), (12, false), (13, false), (14, false), (15, false), (16, false), (287, false), (326, false), (327, false), (331, false), (332, false), (333, false), (334, false)]) (top := [0, 2, 6]) (slots := [[0, 2], [2], [0, 3], [0], [], [2], [0, 5], [4], [0], [0, 4], [0, 1, 8, 9], [0, 1], [], [], [0], [0, 3, 4], [2], []]) (by kernel_rfl) rfl h
end
end Go.Proofs.Gk

namespace Go.Proofs.Gk
open Go Go.Proofs Go.Abs Gt
set_option maxRecDepth 1000000
noncomputable section

theorem kseg17 (K : ProgOk P) {Q : AM → Prop} (h : Goes P kst18 Q) : Goes P kst17 Q :=
  Goes.seg K (n := 17763) (keep := [(0, false), (1, false), (2, false), (3, false), (4, false), (5, false), (6, false), (7, false), (8, false), (9, false), (10, false), (11, false), (12, false), (13, false), (14, false), (15, false), (16, false), (17, false), (18, false), (19, false), (20, false), (337, false), (345, false), (346, false), (347, false)]) (top := [0, 2, 6]) (slots := [[0, 2], [2], [0, 3], [0], [2], [0, 4], [], [2], [0, 5], [4], [0], [0, 4], [0, 1, 8, 9], [0, 1], [], [], [0], [0, 3, 4], [2], []]) (by kernel_rfl) rfl h
end
end Go.Proofs.Gk

