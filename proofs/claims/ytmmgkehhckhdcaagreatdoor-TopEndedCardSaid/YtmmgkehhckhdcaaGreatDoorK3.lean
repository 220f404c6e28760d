/- Part of the proof of the law TopEnded: the run that knows() makes: K3. Conditions: none. -/
import Derived.Test.YtmmgkehhckhdcaaGreatDoorK0

set_option linter.unusedVariables false
set_option linter.unusedSimpArgs false

namespace Go.Proofs.Gk
open Go Go.Proofs Go.Abs Gt
set_option maxRecDepth 1000000
noncomputable section

theorem kseg4 (K : ProgOk P) {Q : AM → Prop} (h : Goes P kst5 Q) : Goes P kst4 Q :=
  Goes.seg K (n := 17025) (keep := [(0, false), (1, false), (2, false), (3, false), (4, false), (5, false), (6, false), (7, false), (8, false), (9, false), (10, false), (11, false), (12, false), (13, false), (14, false), (15, false), (16, false), (308, false), (309, false)]) (top := [0, 2, 6]) (slots := [[0, 2], [0], [0, 3, 4], [2], []]) (by kernel_rfl) rfl h
end
end Go.Proofs.Gk

namespace Go.Proofs.Gk
open Go Go.Proofs Go.Abs Gt
set_option maxRecDepth 1000000
noncomputable section

theorem kseg5 (K : ProgOk P) {Q : AM → Prop} (h : Goes P kst6 Q) : Goes P kst5 Q :=
  Goes.seg K (n := 21996) (keep := [(0, false), (1, false), (2, false), (3, false), (4, false), (5, false), (6, false), (7, false), (8, false), (9, false), (10, false), (11, false), (12, false), (13, false), (14, false), (15, false), (16, false), (397, false)]) (top := [0, 3, 4, 7, 12, 13]) (slots := [[], [], [], [0], [0, 3, 4], [2], []]) (by kernel_rfl) rfl h
end
end Go.Proofs.Gk

