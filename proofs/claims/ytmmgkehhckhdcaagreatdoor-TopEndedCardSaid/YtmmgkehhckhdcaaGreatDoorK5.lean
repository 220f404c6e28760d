/- Part of the proof of the law TopEnded: the run that knows() makes: K5. Conditions: none. -/
import Derived.Test.YtmmgkehhckhdcaaGreatDoorK0

set_option linter.unusedVariables false
set_option linter.unusedSimpArgs false

namespace Go.Proofs.Gk
open Go Go.Proofs Go.Abs Gt
set_option maxRecDepth 1000000
noncomputable section

theorem kseg8 (K : ProgOk P) {Q : AM → Prop} (h : Goes P kst9 Q) : Goes P kst8 Q :=
  Goes.seg K (n := 17044) (keep := [(0, false), (1, false), (2, false), (3, false), (4, false), (5, false), (6, false), (7, false), (8, false), (9, false), (10, false), (11, false), (12, false), (13, false), (14, false), (15, false), (16, false), (304, false), (305, false), (306, false), (307, false), (308, false)]) (top := [0, 2, 6]) (slots := [[0, 2], [2], [0, 1, 6, 7], [], [2], [0, 5], [6], [0, 1, 2, 8, 9], [], [], [], [], [0], [0, 3, 4], [2], []]) (by kernel_rfl) rfl h
end
end Go.Proofs.Gk

namespace Go.Proofs.Gk
open Go Go.Proofs Go.Abs Gt
set_option maxRecDepth 1000000
noncomputable section

theorem kseg9 (K : ProgOk P) {Q : AM → Prop} (h : Goes P kst10 Q) : Goes P kst9 Q :=
  Goes.seg K (n := 16358) (keep := [(0, false), (1, false), (2, false), (3, false), (4, false), (5, false), (6, false), (7, false), (8, false), (9, false), (10, false), (11, false), (12, false), (13, false), (14, false), (15, false), (16, false), (17, false), (18, false), (292, false), (294, false), (295, false), (296, false)]) (top := [0, 2, 6]) (slots := [[0, 2], [2], [1, 6, 7], [], [2], [0, 5], [6], [0, 1, 2, 8, 9], [], [], [], [], [0], [0, 3, 4], [2], []]) (by kernel_rfl) rfl h
end
end Go.Proofs.Gk

