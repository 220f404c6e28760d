/- The law TopEnded of the given program returns true, for every input: R3. Conditions: none. -/
import Derived.Test.YtmmgkehhckhdcaaGreatDoorRows
import Derived.JoinedOf
import Derived.ProofKit
import Derived.Test.YtmmgkehhckhdcaaGreatDoorR2

set_option linter.unusedVariables false
set_option linter.unusedSimpArgs false

namespace Go.Proofs.YtmmgkehhckhdcaaGreatDoor
open Go
set_option maxRecDepth 1000000

def part0 : List Nat := [3, 4, 5, 6, 10, 14, 33, 92, 93, 193, 196, 192, 94, 194, 195, 198, 197, 200, 199, 201, 202, 40, 97, 203, 292, 204, 205, 98, 206, 99, 207, 100, 11, 15, 34, 16, 35, 43, 69, 95, 36, 96, 37, 38, 39, 17, 41, 42, 101, 208, 180, 102, 209, 293, 427, 547, 18, 19, 20, 21, 44, 103, 104, 105, 210, 106, 211, 107, 108, 45, 22, 24, 70, 71, 23, 46, 109, 212, 76, 161, 163, 274, 273, 378, 379, 500, 380, 501, 604, 567, 640, 692, 641, 642, 643, 693, 502, 605, 606, 607, 666, 608, 667, 714, 715, 743, 668, 716, 744, 745, 381, 164, 275, 213, 276, 382, 246, 230, 328, 247, 383, 384, 503, 329, 385, 504, 386, 135, 242, 243, 315, 326, 325, 317, 455, 456, 463, 462, 464, 453, 465, 565, 452, 466, 566, 636, 235, 314, 90, 191, 291, 423, 424, 543, 542, 544, 425, 426, 545, 546, 628, 629, 387, 505, 609, 669, 717, 718, 670, 719, 671, 603, 665, 720, 746, 497, 672, 498, 388, 301, 432, 433, 376, 495, 496, 506, 389, 75, 162, 390, 507, 391, 508]
theorem inPlace_0 : part0.filterMap (fun g => (Tryz.prog.funcs[g]?).bind fun fn => if fn.ours || fn.body.isNone || fn.name == "runtime.NumGoroutine" then some fn.name else none) = ["internal/bytealg.IndexByteString", "internal/bytealg.IndexString", "internal/abi.NoEscape", "internal/bytealg.MakeNoZero"] := by kernel_rfl

end Go.Proofs.YtmmgkehhckhdcaaGreatDoor

namespace Go.Proofs.YtmmgkehhckhdcaaGreatDoor
open Go
set_option maxRecDepth 1000000

def part1 : List Nat := [509, 610, 611, 673, 612, 677, 674, 675, 676, 721, 510, 613, 393, 514, 394, 392, 511, 512, 513, 614, 678, 395, 396, 515, 402, 516, 615, 397, 517, 518, 124, 236, 237, 316, 449, 561, 637, 688, 689, 450, 451, 327, 454, 562, 638, 690, 691, 563, 564, 639, 398, 519, 399, 400, 401, 520, 277, 278, 403, 431, 549, 428, 429, 548, 630, 521, 522, 616, 617, 523, 618, 524, 619, 404, 525, 229, 165, 110, 111, 214, 112, 113, 114, 215, 294, 118, 295, 137, 248, 296, 430, 297, 216, 130, 298, 417, 227, 307, 308, 299, 133, 240, 241, 323, 439, 552, 551, 324, 217, 25, 72, 73, 218, 219, 220, 300, 136, 244, 245, 302, 435, 436, 550, 434, 303, 437, 438, 304, 440, 441, 221, 222, 305, 223, 306, 125, 120, 231, 145, 256, 146, 309, 442, 553, 260, 257, 343, 344, 345, 346, 347, 348, 349, 350, 351, 353, 352, 354, 355, 356, 357, 358, 359, 360, 361, 362, 363, 364, 365, 366, 258, 367, 259, 557, 635, 448, 446, 554, 631, 559, 555, 632, 633, 556, 634, 644, 443, 447, 558, 144, 255, 337, 238]
theorem inPlace_1 : part1.filterMap (fun g => (Tryz.prog.funcs[g]?).bind fun fn => if fn.ours || fn.body.isNone || fn.name == "runtime.NumGoroutine" then some fn.name else none) = [] := by kernel_rfl

end Go.Proofs.YtmmgkehhckhdcaaGreatDoor

namespace Go.Proofs.YtmmgkehhckhdcaaGreatDoor
open Go
set_option maxRecDepth 1000000

def part2 : List Nat := [318, 319, 338, 470, 570, 571, 572, 339, 471, 472, 340, 473, 573, 574, 474, 575, 475, 341, 342, 147, 232, 310, 142, 311, 168, 131, 152, 263, 151, 261, 262, 368, 476, 477, 576, 478, 578, 577, 579, 645, 479, 181, 369, 480, 370, 132, 239, 320, 321, 457, 458, 459, 270, 322, 268, 460, 461, 269, 374, 491, 593, 594, 595, 596, 492, 493, 597, 598, 662, 708, 599, 663, 709, 739, 711, 710, 740, 712, 742, 767, 741, 759, 760, 768, 761, 769, 770, 762, 771, 772, 773, 763, 764, 765, 766, 713, 664, 494, 600, 601, 602, 375, 160, 272, 377, 499, 271, 127, 312, 444, 560, 445, 148, 117, 226, 228, 115, 225, 149, 224, 47, 48, 49, 116, 50, 119, 51, 121, 122, 233, 234, 313, 52, 123, 53, 126, 54, 128, 156, 134, 157, 129, 158, 266, 371, 372, 481, 580, 646, 590, 659, 660, 661, 694, 695, 697, 541, 696, 698, 736, 758, 737, 482, 249, 252, 330, 253, 332, 333, 334, 468, 568, 581, 647, 699, 251, 483, 582, 583, 648, 649, 700, 650, 652, 585, 653, 651, 701, 584, 586, 654, 702, 655]
theorem inPlace_2 : part2.filterMap (fun g => (Tryz.prog.funcs[g]?).bind fun fn => if fn.ours || fn.body.isNone || fn.name == "runtime.NumGoroutine" then some fn.name else none) = ["internal/bytealg.abigen_runtime_cmpstring"] := by kernel_rfl

end Go.Proofs.YtmmgkehhckhdcaaGreatDoor

namespace Go.Proofs.YtmmgkehhckhdcaaGreatDoor
open Go
set_option maxRecDepth 1000000

def part3 : List Nat := [484, 587, 588, 656, 703, 658, 705, 707, 591, 706, 738, 704, 657, 589, 373, 485, 486, 487, 488, 592, 489, 490, 267, 55, 56, 57, 58, 59, 60, 138, 140, 250, 331, 467, 139, 141, 254, 335, 336, 469, 569, 61, 143, 62, 150, 153, 264, 63, 154, 64, 155, 265, 65, 66, 67, 159, 68, 12, 26, 74, 77, 166, 167, 169, 170, 279, 406, 405, 408, 528, 529, 407, 526, 527, 533, 409, 531, 530, 620, 679, 722, 723, 680, 724, 725, 726, 621, 622, 623, 681, 727, 682, 728, 748, 747, 729, 730, 683, 731, 684, 732, 685, 733, 734, 749, 750, 752, 751, 753, 754, 755, 756, 686, 410, 532, 411, 412, 280, 413, 414, 534, 415, 416, 171, 281, 282, 172, 27, 78, 79, 80, 83, 173, 284, 283, 174, 175, 176, 177, 81, 178, 82, 179, 285, 286, 287, 182, 418, 419, 535, 624, 536, 625, 626, 627, 687, 735, 757, 537, 538, 420, 539, 540, 421, 183, 85, 184, 186, 185, 288, 422, 289, 187, 290, 28, 29, 84, 30, 32, 31, 86, 87, 88, 188, 189, 190, 89, 91, 7, 8, 9, 13]
theorem inPlace_3 : part3.filterMap (fun g => (Tryz.prog.funcs[g]?).bind fun fn => if fn.ours || fn.body.isNone || fn.name == "runtime.NumGoroutine" then some fn.name else none) = ["slices.overlaps[galley/hyph.exception]"] := by kernel_rfl

end Go.Proofs.YtmmgkehhckhdcaaGreatDoor

namespace Go.Proofs.YtmmgkehhckhdcaaGreatDoor
open Go
set_option maxRecDepth 1000000

theorem globs_0 : part0.flatMap (fun g => ((Tryz.prog.funcs[g]?).bind (·.body)).elim [] Code.globalsNamed) = [1, 1, 1, 6, 7, 0, 2, 3] := by kernel_rfl
theorem reads_0 : part0.filterMap (fun g => (Tryz.prog.funcs[g]?).bind fun fn => if fn.body.isNone then entryReads.lookup fn.name else none) = ["internal/bytealg.MaxLen"] := by kernel_rfl
end Go.Proofs.YtmmgkehhckhdcaaGreatDoor

namespace Go.Proofs.YtmmgkehhckhdcaaGreatDoor
open Go
set_option maxRecDepth 1000000

theorem globs_1 : part1.flatMap (fun g => ((Tryz.prog.funcs[g]?).bind (·.body)).elim [] Code.globalsNamed) = [] := by kernel_rfl
theorem reads_1 : part1.filterMap (fun g => (Tryz.prog.funcs[g]?).bind fun fn => if fn.body.isNone then entryReads.lookup fn.name else none) = [] := by kernel_rfl
end Go.Proofs.YtmmgkehhckhdcaaGreatDoor

namespace Go.Proofs.YtmmgkehhckhdcaaGreatDoor
open Go
set_option maxRecDepth 1000000

theorem globs_2 : part2.flatMap (fun g => ((Tryz.prog.funcs[g]?).bind (·.body)).elim [] Code.globalsNamed) = [] := by kernel_rfl
theorem reads_2 : part2.filterMap (fun g => (Tryz.prog.funcs[g]?).bind fun fn => if fn.body.isNone then entryReads.lookup fn.name else none) = [] := by kernel_rfl
end Go.Proofs.YtmmgkehhckhdcaaGreatDoor

namespace Go.Proofs.YtmmgkehhckhdcaaGreatDoor
open Go
set_option maxRecDepth 1000000

theorem globs_3 : part3.flatMap (fun g => ((Tryz.prog.funcs[g]?).bind (·.body)).elim [] Code.globalsNamed) = [4, 5] := by kernel_rfl
theorem reads_3 : part3.filterMap (fun g => (Tryz.prog.funcs[g]?).bind fun fn => if fn.body.isNone then entryReads.lookup fn.name else none) = [] := by kernel_rfl
end Go.Proofs.YtmmgkehhckhdcaaGreatDoor

namespace Go.Proofs.YtmmgkehhckhdcaaGreatDoor
open Go
set_option maxRecDepth 1000000

theorem reach_parts : reachT.map (·.1) = part0 ++ (part1 ++ (part2 ++ part3)) := by kernel_rfl
theorem inPlace3 : Tryz.prog.inPlace 3 = Rows.topEndedRow.inPlace := by
  unfold Program.inPlace
  rw [closure3, reach_parts, List.filterMap_append, List.filterMap_append, List.filterMap_append, inPlace_0, inPlace_1, inPlace_2, inPlace_3]
  rfl
theorem rf10 : (Rows.topEndedRow.inPlace == Tryz.pinned.checked.prog.inPlace 3) = true := by
  rw [show Tryz.pinned.checked.prog.inPlace 3 = Rows.topEndedRow.inPlace from inPlace3]; exact beq_self_eq_true _
theorem vars3 : Tryz.prog.varsNamed 3 = Rows.topEndedRow.named := by
  unfold Program.varsNamed
  rw [closure3, reach_parts, List.flatMap_append, List.flatMap_append, List.flatMap_append, List.filterMap_append, List.filterMap_append, List.filterMap_append, globs_0, globs_1, globs_2, globs_3, reads_0, reads_1, reads_2, reads_3]
  exact (by kernel_rfl : ((([1, 1, 1, 6, 7, 0, 2, 3, 4, 5] : List Nat).eraseDups.filterMap (fun g => (Tryz.prog.globals[g]?).map (·.name)) ++ (["internal/bytealg.MaxLen"] : List String)).eraseDups) = Rows.topEndedRow.named)
theorem rf13 : (Rows.topEndedRow.named == Tryz.pinned.checked.prog.varsNamed 3) = true := by
  rw [show Tryz.pinned.checked.prog.varsNamed 3 = Rows.topEndedRow.named from vars3]; exact beq_self_eq_true _
end Go.Proofs.YtmmgkehhckhdcaaGreatDoor

