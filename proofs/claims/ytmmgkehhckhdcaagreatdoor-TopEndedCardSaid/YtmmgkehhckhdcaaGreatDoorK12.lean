/- Part of the proof of the law TopEnded: the run that knows() makes: K12. Conditions: none. -/
import Derived.Test.YtmmgkehhckhdcaaGreatDoorK0

set_option linter.unusedVariables false
set_option linter.unusedSimpArgs false

namespace Go.Proofs.Gk
open Go Go.Proofs Go.Abs Gt
set_option maxRecDepth 1000000
noncomputable section

theorem kseg22 (K : ProgOk P) {Q : AM → Prop} (h : Goes P kst23 Q) : Goes P kst22 Q :=
  Goes.seg K (n := 21992) (keep := [(0, false), (1, false), (2, false), (3, false), (4, false), (5, false), (6, false), (7, false), (8, false), (9, false), (10, false), (11, false), (12, false), (13, false), (14, false), (15, false), (16, false), (17, false), (18, false), (19, false), (20, false), (470, false)]) (top := [0, 2, 3, 18]) (slots := [[0, 1], [], [], [], [], [], [0], [0, 3, 4], [2], []]) (by kernel_rfl) rfl h
end
end Go.Proofs.Gk

namespace Go.Proofs.Gk
open Go Go.Proofs Go.Abs Gt
set_option maxRecDepth 1000000
noncomputable section

theorem kseg23 (K : ProgOk P) {Q : AM → Prop} (h : Goes P kst24 Q) : Goes P kst23 Q :=
  Goes.seg K (n := 21999) (keep := [(0, false), (1, false), (2, false), (3, false), (4, false), (5, false), (6, false), (7, false), (8, false), (9, false), (10, false), (11, false), (12, false), (13, false), (14, false), (15, false), (16, false), (17, false), (18, false), (19, false), (20, false), (21, false), (436, false)]) (top := [0, 1, 2, 6]) (slots := [[0, 2, 3, 4, 18], [0, 1], [], [], [], [], [], [0], [0, 3, 4], [2], []]) (by kernel_rfl) rfl h
end
end Go.Proofs.Gk

