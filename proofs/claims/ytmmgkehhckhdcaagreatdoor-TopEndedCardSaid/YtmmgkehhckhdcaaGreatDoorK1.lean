/- Part of the proof of the law TopEnded: the run that knows() makes: K1. Conditions: none. -/
import Derived.Test.YtmmgkehhckhdcaaGreatDoorK0

set_option linter.unusedVariables false
set_option linter.unusedSimpArgs false

namespace Go.Proofs.Gk
open Go Go.Proofs Go.Abs Gt
set_option maxRecDepth 1000000
noncomputable section

theorem kseg0 (K : ProgOk P) {Q : AM → Prop} (h : Goes P kst1 Q) : Goes P kst0 Q :=
  Goes.seg K (n := 19339) (keep := [(0, false), (1, false), (2, false), (3, false), (4, false), (5, false), (6, false), (7, false), (8, false), (9, false), (10, false), (11, false), (12, false), (13, false), (15, false), (280, false), (354, false), (355, false), (359, false), (360, false), (361, false), (362, false)]) (top := [0, 2, 6]) (slots := [[0, 2], [2], [0, 3], [0], [], [2], [0, 5], [4], [1], [0, 2, 7], [], [], [], [0], [0, 3, 4], [2], []]) (by kernel_rfl) rfl h
end
end Go.Proofs.Gk

namespace Go.Proofs.Gk
open Go Go.Proofs Go.Abs Gt
set_option maxRecDepth 1000000
noncomputable section

theorem kseg1 (K : ProgOk P) {Q : AM → Prop} (h : Goes P kst2 Q) : Goes P kst1 Q :=
  Goes.seg K (n := 17071) (keep := [(0, false), (1, false), (2, false), (3, false), (4, false), (5, false), (6, false), (7, false), (8, false), (9, false), (10, false), (11, false), (12, false), (13, false), (14, false), (15, false), (16, false), (17, false), (18, false), (296, false), (320, false), (321, false), (322, false)]) (top := [0, 2, 6]) (slots := [[0, 2], [2], [0, 1, 4, 5], [0], [4], [], [2], [0, 5], [4], [1], [0, 2, 7], [], [], [], [0], [0, 3, 4], [2], []]) (by kernel_rfl) rfl h
end
end Go.Proofs.Gk

