/- Part of the proof of the law TopEnded: the run that knows() makes: K11. Conditions: none. -/
import Derived.Test.YtmmgkehhckhdcaaGreatDoorK0

set_option linter.unusedVariables false
set_option linter.unusedSimpArgs false

namespace Go.Proofs.Gk
open Go Go.Proofs Go.Abs Gt
set_option maxRecDepth 1000000
noncomputable section

theorem kseg20 (K : ProgOk P) {Q : AM → Prop} (h : Goes P kst21 Q) : Goes P kst20 Q :=
  Goes.seg K (n := 21729) (keep := [(0, false), (1, false), (2, false), (3, false), (4, false), (5, false), (6, false), (7, false), (8, false), (9, false), (10, false), (11, false), (12, false), (13, false), (14, false), (15, false), (16, false), (17, false), (18, false), (396, false), (397, false)]) (top := [0, 1, 6, 7, 8]) (slots := [[], [], [0], [0, 3, 4], [2], []]) (by kernel_rfl) rfl h
end
end Go.Proofs.Gk

namespace Go.Proofs.Gk
open Go Go.Proofs Go.Abs Gt
set_option maxRecDepth 1000000
noncomputable section

theorem kseg21 (K : ProgOk P) {Q : AM → Prop} (h : Goes P kst22 Q) : Goes P kst21 Q :=
  Goes.seg K (n := 21994) (keep := [(0, false), (1, false), (2, false), (3, false), (4, false), (5, false), (6, false), (7, false), (8, false), (9, false), (10, false), (11, false), (12, false), (13, false), (14, false), (15, false), (16, false), (17, false), (18, false), (311, false), (324, false), (325, false), (335, false), (479, false)]) (top := [4, 5, 104, 108, 109, 110]) (slots := [[0], [0, 4], [], [0, 2], [0, 1], [], [], [], [], [], [0], [0, 3, 4], [2], []]) (by kernel_rfl) rfl h
end
end Go.Proofs.Gk

