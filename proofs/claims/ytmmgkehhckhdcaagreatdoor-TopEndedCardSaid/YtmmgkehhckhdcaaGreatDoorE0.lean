/- Part of the proof of the law TopEnded: the message and the end: E0. Conditions: none. -/
import Derived.Test.YtmmgkehhckhdcaaGreatDoorD0

set_option linter.unusedVariables false
set_option linter.unusedSimpArgs false

namespace Go.Proofs.Gt
open Go Go.Proofs Go.Abs
set_option maxRecDepth 1000000
noncomputable section

def dc0 : AObj := .cells (bigP P 72 1 ([(0, pt 3 0)] ++ [(1, pt 5 0)] ++ [(2, pt 7 0)] ++ [(261, sl 10 0 1 1)] ++ [(263, pt 19 0)] ++ [(265, sl 25 0 1 1)] ++ [(267, it 32768000)] ++ [(268, it 131072)])) 269 72 269 true true none

def dc1 : AObj := .cells (bigP P 72 1 ([(0, pt 3 0)] ++ [(1, pt 5 0)] ++ [(2, pt 7 0)] ++ [(261, sl 10 0 1 1)] ++ [(263, pt 19 0)] ++ [(265, sl 20 0 1 1)] ++ [(267, it 32768000)] ++ [(268, it 131072)])) 269 72 269 true true none

def dc2 : AObj := .cells (.lst [.slice none 0 0, .bool false, .bool false, it 32768000, it 0, it 0, it 0, it 0, it 0, it 0, it 0, it 0, it 0, it 0, .map (some 23), .map (some 24), .slice none 0 0, it 0, it 0, it 1073741823, .bool false, it 0, it 0, by8 0, it 0, it 0, it 0, it 0, it 0, it 0, it 0, it 0, it 0, it 0, it 0, it 0, it 0, it 0, it 0, sb []]) 40 398 40 true true none

def dc3 : AObj := .cells (.lst [it 5, it 0, by8 0, it 0, it 32768000, it 0, it 0, it 0, it 0, it 0, it 0, it 0, it 0, it 0, it 0, it 0, it 0, it 0, sb [], it 7, it 0, by8 0, it 0, it 0, it 0, it 0, it 629146, it 0, it 0, it 0, it 0, it 0, it 0, it 0, it 0, it 0, it 10, sb [], it 3, it 0, by8 0, it 0, it 26214, it 0, it 0, it 0, it 0, it 0, it 0, it 0, it 0, it 0, it 0, it 0, it 0, it 1, sb [], it 6, it 0, by8 0, it 0, it 0, it 0, it 0, it 0, it 0, it 0, it 0, it 0, it 0, it 0, it 0, it 0, it 0, it 0, sb []]) 76 229 19 false true none

def dc4 : AObj := .cells (bigP P 121 1 ([(0, .map (some 2))] ++ [(1793, it 1)] ++ ints 3193 7 [100, 200, 10, 50, 50, 10000, 10000, 5000] ++ [(3256, it 1)] ++ ints 3270 7 [150, 150, 100, 1000, 1000, 2, 3, 1] ++ [(3333, it 700)] ++ [(3340, it 500)] ++ [(3347, it 901)] ++ ints 4985 7 [19660800, 32768000, 131072, 1310720] ++ [(5027, it 1073741823)] ++ ints 5041 7 [6553, 6553, 1073741823, 32768, 78643, 327680] ++ [(6778, it 786432)] ++ [(6785, it 65536)] ++ [(6793, it 65536)] ++ [(6814, it 65536)] ++ [(6816, it 1)] ++ [(6820, it 655360)] ++ [(6827, it 655360)] ++ [(6841, it 196608)] ++ [(6848, it 262144)] ++ [(6849, it 131072)] ++ [(6850, it 262144)] ++ [(6855, it 327680)] ++ [(6856, it 327680)] ++ ints 8961 7 [9, 8, 12, 12, 12, 12, 12, 12, 12, 10, 12, 7, 13, 5, 12, 12, 12, 12, 12, 12, 12, 12, 12, 12, 12, 12, 12, 12, 12, 12, 12, 12, 10, 12, 12, 6, 3, 14, 4, 12, 12, 12, 12, 12, 12, 12, 12, 12, 12, 12, 12, 12, 12, 12, 12, 12, 12, 12, 12, 12, 12, 12, 12, 12, 12, 11, 11, 11, 11, 11, 11, 11, 11, 11, 11, 11, 11, 11, 11, 11, 11, 11, 11, 11, 11, 11, 11, 11, 11, 11, 11, 12] ++ ints 9612 7 [12, 7, 8, 12, 11, 11, 11, 11, 11, 11, 11, 11, 11, 11, 11, 11, 11, 11, 11, 11, 11, 11, 11, 11, 11, 11, 11, 11, 11, 11, 1, 12, 2, 13, 15, 12, 12, 12, 12, 12, 12, 12, 12, 12, 12, 12, 12, 12, 12, 12, 12, 12, 12, 12, 12, 12, 12, 12, 12, 12, 12, 12, 12, 12, 12, 12, 12, 12, 12, 12, 12, 12, 12, 12, 12, 12, 12, 12, 12, 12, 12, 12, 12, 12, 12, 12, 12, 12, 12, 12, 12, 12, 12, 12, 12, 12, 12, 12, 12, 12, 12, 12, 12, 12, 12, 12, 12, 12, 12, 12, 12, 12, 12, 12, 12, 12, 12, 12, 12, 12, 12, 12, 12, 12, 12, 12, 12, 12, 12, 12, 12, 12, 12, 12, 12, 12, 12, 12, 12, 12, 12, 12, 12, 12, 12, 12, 12, 12, 12, 12, 12, 12, 12, 12, 12, 12, 12, 12, 12, 12, 12, 12, 12])) 10755 121 10755 true true none

def dc5 : AObj := .cells (bigP P 72 1 ([(0, pt 3 0)] ++ [(1, pt 5 0)] ++ [(2, pt 7 0)] ++ [(261, sl 10 0 1 1)] ++ [(263, pt 19 0)] ++ [(264, sl 26 0 1 1)] ++ [(265, sl 25 0 2 2)] ++ [(266, .bool true)] ++ [(267, it 32768000)] ++ [(268, it 131072)])) 269 72 269 true true none

def dc6 : AObj := .cells (.lst [.slice none 0 0, .bool false, .bool false, it 32768000, it 0, it 0, it 0, it 0, it 0, it 0, it 0, it 0, it 0, it 0, .map (some 21), .map (some 22), .slice none 0 0, it 0, it 0, it 1073741823, .bool false, it 0, it 0, by8 0, it 0, it 0, it 0, it 0, it 0, it 0, it 0, it 0, it 0, it 0, it 0, it 0, it 0, it 0, it 0, sb []]) 40 398 40 true true none

def dc7 : AObj := .cells (bigP P 370 1 ([(6, .func (.func 351) ⟨[]⟩ ⟨[]⟩)] ++ [(7, .func (.func 343) ⟨[]⟩ ⟨[]⟩)] ++ [(10, .func (.func 352) ⟨[]⟩ ⟨[]⟩)] ++ [(11, .func (.func 344) ⟨[]⟩ ⟨[pt 31 0]⟩)] ++ [(12, vs 0x72756c65)] ++ [(14, .func (.func 354) ⟨[]⟩ ⟨[]⟩)] ++ [(15, .func (.func 355) ⟨[]⟩ ⟨[]⟩)] ++ [(16, vs 0x68626f78)] ++ [(17, .bool true)] ++ [(18, .func (.func 356) ⟨[]⟩ ⟨[]⟩)] ++ [(19, .func (.func 345) ⟨[]⟩ ⟨[]⟩)] ++ [(20, vs 0x76626f78)] ++ [(21, .bool true)] ++ [(22, .func (.func 356) ⟨[]⟩ ⟨[]⟩)] ++ [(23, .func (.func 345) ⟨[]⟩ ⟨[]⟩)] ++ [(26, .func (.func 357) ⟨[]⟩ ⟨[]⟩)] ++ [(27, .func (.func 358) ⟨[]⟩ ⟨[]⟩)] ++ [(28, vs 0x676c7565)] ++ [(30, .func (.func 359) ⟨[]⟩ ⟨[]⟩)] ++ [(31, .func (.func 360) ⟨[]⟩ ⟨[]⟩)] ++ [(32, vs 0x6b65726e)] ++ [(34, .func (.func 361) ⟨[]⟩ ⟨[]⟩)] ++ [(35, .func (.func 362) ⟨[]⟩ ⟨[]⟩)] ++ [(36, vs 0x70656e616c7479)] ++ [(38, .func (.func 363) ⟨[]⟩ ⟨[]⟩)] ++ [(39, .func (.func 364) ⟨[]⟩ ⟨[]⟩)] ++ [(40, vs 0x64697363726574696f6e617279)] ++ [(41, .bool true)] ++ [(42, .func (.func 357) ⟨[]⟩ ⟨[]⟩)] ++ [(43, .func (.func 358) ⟨[]⟩ ⟨[]⟩)] ++ [(46, .func (.func 357) ⟨[]⟩ ⟨[]⟩)] ++ [(47, .func (.func 358) ⟨[]⟩ ⟨[]⟩)] ++ [(48, vs 0x6d61726b)] ++ [(50, .func (.func 348) ⟨[]⟩ ⟨[]⟩)] ++ [(51, .func (.func 347) ⟨[]⟩ ⟨[]⟩)] ++ [(52, vs 0x696e73657274)] ++ [(53, .bool true)] ++ [(54, .func (.func 365) ⟨[]⟩ ⟨[]⟩)] ++ [(55, .func (.func 366) ⟨[]⟩ ⟨[]⟩)] ++ [(56, vs 0x7370656369616c)] ++ [(58, .func (.func 348) ⟨[]⟩ ⟨[]⟩)] ++ [(59, .func (.func 347) ⟨[]⟩ ⟨[]⟩)] ++ [(60, vs 0x6d6174686f6e)] ++ [(62, .func (.func 349) ⟨[]⟩ ⟨[]⟩)] ++ [(63, .func (.func 346) ⟨[]⟩ ⟨[]⟩)] ++ [(64, vs 0x6d6174686f6666)] ++ [(66, .func (.func 349) ⟨[]⟩ ⟨[]⟩)] ++ [(67, .func (.func 346) ⟨[]⟩ ⟨[]⟩)] ++ [(68, vs 0x61646a757374)] ++ [(69, .bool true)] ++ [(70, .func (.func 357) ⟨[]⟩ ⟨[]⟩)] ++ [(71, .func (.func 358) ⟨[]⟩ ⟨[]⟩)])) 72 370 72 true true none

/-- The file's bytes. -/
def dviC : PA Value := .lst [by8 247, by8 2, by8 1, by8 131, by8 146, by8 192, by8 28, by8 59, by8 0, by8 0, by8 0, by8 0, by8 3, by8 232, by8 6, by8 103, by8 97, by8 108, by8 108, by8 101, by8 121, by8 139, by8 0, by8 0, by8 0, by8 0, by8 0, by8 0, by8 0, by8 0, by8 0, by8 0, by8 0, by8 0, by8 0, by8 0, by8 0, by8 0, by8 0, by8 0, by8 0, by8 0, by8 0, by8 0, by8 0, by8 0, by8 0, by8 0, by8 0, by8 0, by8 0, by8 0, by8 0, by8 0, by8 0, by8 0, by8 0, by8 0, by8 0, by8 0, by8 0, by8 0, by8 255, by8 255, by8 255, by8 255, by8 140, by8 248, by8 0, by8 0, by8 0, by8 21, by8 1, by8 131, by8 146, by8 192, by8 28, by8 59, by8 0, by8 0, by8 0, by8 0, by8 3, by8 232, by8 1, by8 244, by8 0, by8 0, by8 0, by8 0, by8 0, by8 0, by8 0, by8 0, by8 0, by8 1, by8 249, by8 0, by8 0, by8 0, by8 67, by8 2, by8 223, by8 223, by8 223, by8 223, by8 223, by8 223]
def dviW : AObj := .cells dviC 108 5 1 false true none
def dviR : AObj := .cells dviC 108 5 1 false false none

def linesR (ls : List UInt8) : AObj := .cells (.lst [st ls, vs 0x556e64657266756c6c2076626f7820286261646e65737320313030303029]) 2 9 1 false false none

def LH (t R X : List UInt8) (x n at_ : Nat) (stp : Int) (out : List Value) : AM :=
  ⟨⟨137, 96, slotsL [(0, pt 5 0), (1, .bool true), (8, sl 25 0 n n), (9, it 1)], [.code (bodyAt P 137 [1, 1, 1, 1, 1, 1, 1, 0, 0, 0, 0]), .code (bodyAt P 137 [1, 1, 1, 1, 1, 1, 1, 0, 0, 0, 1]), .inBlock 4, .inLoop (bodyAt P 137 [1, 1, 1, 1, 1, 1, 1, 0, 0]), .inBlock 3], [], false, .normal, none⟩,
  [⟨60, 67, slotsL [(0, pt 8 0), (1, vs 0x6d657373616765)], [.seqR (opsAt P 60 [1, 0]) [4, 5, 6, 7, 8, 9], .code (bodyAt P 60 [1, 1])], [], false, .normal, none⟩,
   ⟨172, 41, slotsL [], [.seqR (opsAt P 172 [1, 1, 1, 1, 0]) [4, 5], .code .ret], [], false, .normal, none⟩,
   ⟨77, 103, slotsL [], [.seqR (opsAt P 77 [1, 1, 1, 1, 1, 1, 1, 1, 1, 1, 0]) [3, 4], .code .ret], [], false, .normal, none⟩,
   ⟨26, 52, slotsL [(0, pt 8 0)], [.seqR (opsAt P 26 [1, 1, 1, 1, 0, 0, 0, 1, 0, 1, 1, 0, 1, 0]) [2, 3], .code (bodyAt P 26 [1, 1, 1, 1, 0, 0, 0, 1, 0, 1, 1, 1]), .inBlock 1, .inLoop (bodyAt P 26 [1, 1, 1, 1, 0, 0, 0]), .inBlock 0, .code (bodyAt P 26 [1, 1, 1, 1, 1])], [], false, .normal, none⟩,
   ⟨12, 56, slotsL [(0, pt 8 0), (3, pt 11 0), (4, pt 12 0)], [.seqR (opsAt P 12 [1, 0]) [3, 4], .code (bodyAt P 12 [1, 1])], [], false, .normal, none⟩,
   ⟨6, 18, slotsL [(2, pt 1 0)], [.seqR (opsAt P 6 [1, 1, 1, 0]) [2, 3, 4], .code .ret], [], false, .normal, none⟩],
  heapL [daob0,
   .cells (.lst [it 0, it 0, .slice none 0 0, sb [], it 0, it 0]) 6 31 6 true true none,
   daob1,
   daob2,
   .cells (.lst [.slice none 0 0, it 0, .bool true]) 3 201 3 true true none,
   .cells (.lst [pt 3 0, .slice none 0 0, it stp, sl 18 0 1 4, pt 4 0, .slice none 0 0, it 0, it 0]) 8 134 8 true true none,
   daob3,
   .cells (.lst [sl 6 0 1 1, it 0, .slice none 0 0]) 3 141 3 true true none,
   .cells (bigP P 72 1 ([(0, pt 3 0)] ++ [(1, pt 5 0)] ++ [(2, pt 7 0)] ++ [(261, sl 10 0 1 1)] ++ [(263, pt 19 0)] ++ [(267, it 32768000)] ++ [(268, it 131072)])) 269 72 269 true true none,
   daob4,
   .cells (.lst [pt 9 0]) 1 74 1 true true none,
   (jobO t),
   .cells (.lst [it 0, it 0, .slice none 0 0, sb [], it 0, it 0]) 6 31 6 true true none,
   .cells (.lst [.bool true, .bool false, .bool false, st R, sl 14 0 (Nat.add x 17) (Nat.add x 17), it (Int.ofNat at_), it 1, it 1]) 8 413 8 true true none,
   lineO X x,
   .cells (.lst [it 16, by8 0, vs 0x6d657373616765]) 3 159 3 false true none,
   .cells (.lst [it 16, by8 0, vs 0x6d657373616765]) 3 159 3 false true none,
   .cells (.lst [it 16, by8 0, vs 0x6d657373616765]) 3 159 3 false true none,
   daob7,
   .cells (.lst [it 32768000, it 131072, it 655360, it 0, it 0, it 0, it 0, .slice none 0 0, pt 22 0, sl 23 0 0 0, sb []]) 11 404 11 true true none,
   .map [] 0,
   .map [] 0,
   daob8,
   .cells (.lst [it 3, it 0, by8 0, it 0, it 26214, it 0, it 0, it 0, it 0, it 0, it 0, it 0, it 0, it 0, it 0, it 0, it 0, it 1, sb []]) 19 229 19 false true none,
   daob9,
   .cells (.lst out) (Nat.mul n 3) 159 3 false true none]⟩

def SH (t R X : List UInt8) (x n at_ : Nat) (stp : Int) (out : List Value) (i : Nat) (d : List UInt8) : AM :=
  ⟨⟨138, 31, slotsL [(3, sl 26 0 i i), (6, sl 25 0 n n), (7, it (Int.ofNat n)), (8, it (Int.ofNat i))], [.code (bodyAt P 138 [1, 1, 0, 1, 0, 0, 0]), .code (bodyAt P 138 [1, 1, 0, 1, 0, 0, 1]), .inLoop (bodyAt P 138 [1, 1, 0, 1, 0, 0]), .inBlock 0, .code (bodyAt P 138 [1, 1, 1])], [], false, .normal, none⟩,
  [⟨60, 67, slotsL [(0, pt 8 0), (1, vs 0x6d657373616765)], [.seqR (opsAt P 60 [1, 1, 1, 0]) [1, 2], .code (bodyAt P 60 [1, 1, 1, 1])], [], false, .normal, none⟩,
   ⟨172, 41, slotsL [], [.seqR (opsAt P 172 [1, 1, 1, 1, 0]) [4, 5], .code .ret], [], false, .normal, none⟩,
   ⟨77, 103, slotsL [], [.seqR (opsAt P 77 [1, 1, 1, 1, 1, 1, 1, 1, 1, 1, 0]) [3, 4], .code .ret], [], false, .normal, none⟩,
   ⟨26, 52, slotsL [(0, pt 8 0)], [.seqR (opsAt P 26 [1, 1, 1, 1, 0, 0, 0, 1, 0, 1, 1, 0, 1, 0]) [2, 3], .code (bodyAt P 26 [1, 1, 1, 1, 0, 0, 0, 1, 0, 1, 1, 1]), .inBlock 1, .inLoop (bodyAt P 26 [1, 1, 1, 1, 0, 0, 0]), .inBlock 0, .code (bodyAt P 26 [1, 1, 1, 1, 1])], [], false, .normal, none⟩,
   ⟨12, 56, slotsL [(0, pt 8 0), (3, pt 11 0), (4, pt 12 0)], [.seqR (opsAt P 12 [1, 0]) [3, 4], .code (bodyAt P 12 [1, 1])], [], false, .normal, none⟩,
   ⟨6, 18, slotsL [(2, pt 1 0)], [.seqR (opsAt P 6 [1, 1, 1, 0]) [2, 3, 4], .code .ret], [], false, .normal, none⟩],
  heapL [daob0,
   .cells (.lst [it 0, it 0, .slice none 0 0, sb [], it 0, it 0]) 6 31 6 true true none,
   daob1,
   daob2,
   .cells (.lst [.slice none 0 0, it 0, .bool true]) 3 201 3 true true none,
   .cells (.lst [pt 3 0, .slice none 0 0, it stp, sl 18 0 1 4, pt 4 0, .slice none 0 0, it 0, it 0]) 8 134 8 true true none,
   daob3,
   .cells (.lst [sl 6 0 1 1, it 0, .slice none 0 0]) 3 141 3 true true none,
   .cells (bigP P 72 1 ([(0, pt 3 0)] ++ [(1, pt 5 0)] ++ [(2, pt 7 0)] ++ [(261, sl 10 0 1 1)] ++ [(263, pt 19 0)] ++ [(267, it 32768000)] ++ [(268, it 131072)])) 269 72 269 true true none,
   daob4,
   .cells (.lst [pt 9 0]) 1 74 1 true true none,
   (jobO t),
   .cells (.lst [it 0, it 0, .slice none 0 0, sb [], it 0, it 0]) 6 31 6 true true none,
   .cells (.lst [.bool true, .bool false, .bool false, st R, sl 14 0 (Nat.add x 17) (Nat.add x 17), it (Int.ofNat at_), it 1, it 1]) 8 413 8 true true none,
   lineO X x,
   .cells (.lst [it 16, by8 0, vs 0x6d657373616765]) 3 159 3 false true none,
   .cells (.lst [it 16, by8 0, vs 0x6d657373616765]) 3 159 3 false true none,
   .cells (.lst [it 16, by8 0, vs 0x6d657373616765]) 3 159 3 false true none,
   daob7,
   .cells (.lst [it 32768000, it 131072, it 655360, it 0, it 0, it 0, it 0, .slice none 0 0, pt 22 0, sl 23 0 0 0, sb []]) 11 404 11 true true none,
   .map [] 0,
   .map [] 0,
   daob8,
   .cells (.lst [it 3, it 0, by8 0, it 0, it 26214, it 0, it 0, it 0, it 0, it 0, it 0, it 0, it 0, it 0, it 0, it 0, it 0, it 1, sb []]) 19 229 19 false true none,
   daob9,
   .cells (.lst out) (Nat.mul n 3) 159 3 false true none,
   .cells (.lst (ofBytes d)) (Nat.mul i 1) 5 1 false true none]⟩

def PS1 (t R X : List UInt8) (x at_ : Nat) (stp : Int) (ls : List UInt8) : AM :=
  ⟨⟨76, 38, slotsL [(0, pt 5 0), (2, pt 26 0)], [.code (bodyAt P 76 [1, 1, 0, 0, 0, 0]), .code (bodyAt P 76 [1, 1, 0, 0, 0, 1]), .inBlock 1, .inLoop (bodyAt P 76 [1, 1, 0, 0]), .inBlock 0], [], false, .normal, none⟩,
  [⟨26, 52, slotsL [(0, pt 8 0)], [.seqR (opsAt P 26 [1, 1, 1, 1, 0, 0, 0, 1, 0, 0]) [4, 5, 6, 7, 8, 9, 10], .code (bodyAt P 26 [1, 1, 1, 1, 0, 0, 0, 1, 0, 1]), .inBlock 1, .inLoop (bodyAt P 26 [1, 1, 1, 1, 0, 0, 0]), .inBlock 0, .code (bodyAt P 26 [1, 1, 1, 1, 1])], [], false, .normal, none⟩,
   ⟨12, 56, slotsL [(0, pt 8 0), (3, pt 11 0), (4, pt 12 0)], [.seqR (opsAt P 12 [1, 0]) [3, 4], .code (bodyAt P 12 [1, 1])], [], false, .normal, none⟩,
   ⟨6, 18, slotsL [(2, pt 1 0)], [.seqR (opsAt P 6 [1, 1, 1, 0]) [2, 3, 4], .code .ret], [], false, .normal, none⟩],
  heapL [daob0,
   .cells (.lst [it 0, it 0, .slice none 0 0, sb [], it 0, it 0]) 6 31 6 true true none,
   daob1,
   daob2,
   .cells (.lst [.slice none 0 0, it 0, .bool true]) 3 201 3 true true none,
   .cells (.lst [pt 3 0, .slice none 0 0, it stp, sl 18 0 1 4, pt 4 0, .slice none 0 0, it 0, it 0]) 8 134 8 true true none,
   daob3,
   .cells (.lst [sl 6 0 1 1, it 0, .slice none 0 0]) 3 141 3 true true none,
   dc0,
   daob4,
   .cells (.lst [pt 9 0]) 1 74 1 true true none,
   (jobO t),
   .cells (.lst [it 0, it 0, .slice none 0 0, sb [], it 0, it 0]) 6 31 6 true true none,
   .cells (.lst [.bool true, .bool false, .bool false, st R, sl 14 0 (Nat.add x 17) (Nat.add x 17), it (Int.ofNat at_), it 1, it 1]) 8 413 8 true true none,
   lineO X x,
   .cells (.lst [it 16, by8 0, vs 0x6d657373616765]) 3 159 3 false true none,
   .cells (.lst [it 16, by8 0, vs 0x6d657373616765]) 3 159 3 false true none,
   .cells (.lst [it 16, by8 0, vs 0x6d657373616765]) 3 159 3 false true none,
   daob7,
   .cells (.lst [it 32768000, it 131072, it 655360, it 0, it 0, it 0, it 0, .slice none 0 0, pt 22 0, sl 23 0 0 0, sb []]) 11 404 11 true true none,
   .map [] 0,
   .map [] 0,
   daob8,
   .cells (.lst [it 3, it 0, by8 0, it 0, it 26214, it 0, it 0, it 0, it 0, it 0, it 0, it 0, it 0, it 0, it 0, it 0, it 0, it 1, sb []]) 19 229 19 false true none,
   daob9,
   .cells (.lst [st ls]) 1 9 1 false true none,
   .cells (.lst [it 0, by8 0, sb []]) 3 159 3 true true none]⟩

def PS2 (t R X : List UInt8) (x at_ : Nat) (stp : Int) (ls : List UInt8) : AM :=
  ⟨⟨166, 22, slotsL [(5, pt 27 0)], [.code (bodyAt P 166 [1, 1, 0]), .code .ret], [], false, .normal, none⟩,
  [⟨77, 103, slotsL [(0, pt 8 0), (3, pt 26 0), (6, .bool false), (18, .bool true)], [.seqR (opsAt P 77 [1, 1, 0, 0]) [5, 6], .code (bodyAt P 77 [1, 1, 0, 1]), .code (bodyAt P 77 [1, 1, 1])], [], false, .normal, none⟩,
   ⟨26, 52, slotsL [(0, pt 8 0)], [.seqR (opsAt P 26 [1, 1, 1, 1, 0, 0, 0, 1, 0, 1, 1, 0, 1, 0]) [2, 3], .code (bodyAt P 26 [1, 1, 1, 1, 0, 0, 0, 1, 0, 1, 1, 1]), .inBlock 1, .inLoop (bodyAt P 26 [1, 1, 1, 1, 0, 0, 0]), .inBlock 0, .code (bodyAt P 26 [1, 1, 1, 1, 1])], [], false, .normal, none⟩,
   ⟨12, 56, slotsL [(0, pt 8 0), (3, pt 11 0), (4, pt 12 0)], [.seqR (opsAt P 12 [1, 0]) [3, 4], .code (bodyAt P 12 [1, 1])], [], false, .normal, none⟩,
   ⟨6, 18, slotsL [(2, pt 1 0)], [.seqR (opsAt P 6 [1, 1, 1, 0]) [2, 3, 4], .code .ret], [], false, .normal, none⟩],
  heapL [daob0,
   .cells (.lst [it 0, it 0, .slice none 0 0, sb [], it 0, it 0]) 6 31 6 true true none,
   daob1,
   daob2,
   .cells (.lst [.slice none 0 0, it 0, .bool true]) 3 201 3 true true none,
   .cells (.lst [pt 3 0, .slice none 0 0, it stp, sl 18 0 1 4, pt 4 0, .slice none 0 0, it 0, it 0]) 8 134 8 true true none,
   daob3,
   .cells (.lst [sl 6 0 1 1, it 0, .slice none 0 0]) 3 141 3 true true none,
   dc0,
   daob4,
   .cells (.lst [pt 9 0]) 1 74 1 true true none,
   (jobO t),
   .cells (.lst [it 0, it 0, .slice none 0 0, sb [], it 0, it 0]) 6 31 6 true true none,
   .cells (.lst [.bool true, .bool false, .bool false, st R, sl 14 0 (Nat.add x 17) (Nat.add x 17), it (Int.ofNat at_), it 2, it 1]) 8 413 8 true true none,
   lineO X x,
   .cells (.lst [it 16, by8 0, vs 0x6d657373616765]) 3 159 3 false true none,
   .cells (.lst [it 16, by8 0, vs 0x6d657373616765]) 3 159 3 false true none,
   .cells (.lst [it 16, by8 0, vs 0x6d657373616765]) 3 159 3 false true none,
   daob7,
   .cells (.lst [it 32768000, it 131072, it 655360, it 0, it 0, it 0, it 0, .slice none 0 0, pt 22 0, sl 23 0 0 0, sb []]) 11 404 11 true true none,
   .map [] 0,
   .map [] 0,
   daob8,
   .cells (.lst [it 3, it 0, by8 0, it 0, it 26214, it 0, it 0, it 0, it 0, it 0, it 0, it 0, it 0, it 0, it 0, it 0, it 0, it 1, sb []]) 19 229 19 false true none,
   daob9,
   .cells (.lst [st ls]) 1 9 1 false true none,
   .cells (.lst [it 16, by8 0, vs 0x656e64]) 3 159 3 true true none,
   .cells (.lst [it 1, it 0, it 0, it 0, vs 0x656e64]) 5 98 5 true true none]⟩

def PS3 (t R X : List UInt8) (x at_ : Nat) (stp : Int) (ls : List UInt8) : AM :=
  ⟨⟨160, 114, slotsL [(0, pt 8 0), (6, pt 26 0), (12, sl 27 0 4 4), (13, it 10000), (14, it 0), (15, it 0), (19, it 1), (20, it 0)], [.code (bodyAt P 160 [1, 0, 1, 0, 0, 1, 1, 0, 0, 1, 1, 1, 1, 0, 0]), .code (bodyAt P 160 [1, 0, 1, 0, 0, 1, 1, 0, 0, 1, 1, 1, 1, 0, 1]), .code (bodyAt P 160 [1, 0, 1, 0, 0, 1, 1, 0, 0, 1, 1, 1, 1, 1]), .inBlock 1, .code (bodyAt P 160 [1, 0, 1, 0, 0, 1, 1, 1]), .inLoop (bodyAt P 160 [1, 0, 1, 0, 0]), .inBlock 0, .code (bodyAt P 160 [1, 1])], [], false, .normal, none⟩,
  [⟨67, 52, slotsL [(0, pt 8 0)], [.seqR (opsAt P 67 [1, 1, 0, 1, 0, 1, 1, 0]) [2, 3], .code (bodyAt P 67 [1, 1, 0, 1, 0, 1, 1, 1]), .code (bodyAt P 67 [1, 1, 1])], [], false, .normal, none⟩,
   ⟨172, 41, slotsL [], [.seqR (opsAt P 172 [1, 1, 1, 1, 0]) [4, 5], .code .ret], [], false, .normal, none⟩,
   ⟨77, 103, slotsL [], [.seqR (opsAt P 77 [1, 1, 1, 1, 1, 1, 1, 1, 1, 1, 0]) [3, 4], .code .ret], [], false, .normal, none⟩,
   ⟨26, 52, slotsL [(0, pt 8 0)], [.seqR (opsAt P 26 [1, 1, 1, 1, 0, 0, 0, 1, 0, 1, 1, 0, 1, 0]) [2, 3], .code (bodyAt P 26 [1, 1, 1, 1, 0, 0, 0, 1, 0, 1, 1, 1]), .inBlock 1, .inLoop (bodyAt P 26 [1, 1, 1, 1, 0, 0, 0]), .inBlock 0, .code (bodyAt P 26 [1, 1, 1, 1, 1])], [], false, .normal, none⟩,
   ⟨12, 56, slotsL [(0, pt 8 0), (3, pt 11 0), (4, pt 12 0)], [.seqR (opsAt P 12 [1, 0]) [3, 4], .code (bodyAt P 12 [1, 1])], [], false, .normal, none⟩,
   ⟨6, 18, slotsL [(2, pt 1 0)], [.seqR (opsAt P 6 [1, 1, 1, 0]) [2, 3, 4], .code .ret], [], false, .normal, none⟩],
  heapL [daob0,
   .cells (.lst [it 0, it 0, .slice none 0 0, sb [], it 0, it 0]) 6 31 6 true true none,
   daob1,
   daob2,
   .cells (.lst [.slice none 0 0, it 0, .bool true]) 3 201 3 true true none,
   .cells (.lst [pt 3 0, .slice none 0 0, it stp, sl 18 0 1 4, pt 4 0, .slice none 0 0, it 0, it 0]) 8 134 8 true true none,
   daob3,
   .cells (.lst [sl 6 0 1 1, it 0, .slice none 0 0]) 3 141 3 true true none,
   dc1,
   daob4,
   .cells (.lst [pt 9 0]) 1 74 1 true true none,
   (jobO t),
   .cells (.lst [it 0, it 0, .slice none 0 0, sb [], it 0, it 0]) 6 31 6 true true none,
   .cells (.lst [.bool true, .bool false, .bool false, st R, sl 14 0 (Nat.add x 17) (Nat.add x 17), it (Int.ofNat at_), it 2, it 1]) 8 413 8 true true none,
   lineO X x,
   .cells (.lst [it 16, by8 0, vs 0x6d657373616765]) 3 159 3 false true none,
   .cells (.lst [it 16, by8 0, vs 0x6d657373616765]) 3 159 3 false true none,
   .cells (.lst [it 16, by8 0, vs 0x6d657373616765]) 3 159 3 false true none,
   daob7,
   .cells (.lst [it 32768000, it 131072, it 655360, it 0, it 0, it 0, it 0, .slice none 0 0, pt 25 0, sl 22 0 0 0, sb []]) 11 404 11 true true none,
   .cells (.lst [st ls]) 1 9 1 false true none,
   daob9,
   .cells (.lst [it 9, it 0, by8 0, it 0, it 0, it 0, it 0, it 0, it 0, it 0, it 0, it 0, it 0, it 0, it 0, it 0, it 10000, it 0, sb []]) 19 229 19 false true none,
   .map [] 0,
   .map [] 0,
   dc2,
   .cells (.lst [sl 21 0 2 2, .slice none 0 0, .slice none 0 0, it (-10000), it (-10000), sb [], sb [], sb []]) 8 408 8 true true none,
   dc3]⟩

def PS4 (t R X : List UInt8) (x at_ : Nat) (stp : Int) (ls : List UInt8) : AM :=
  ⟨⟨260, 98, slotsL [(3, pt 32 0), (4, sl 33 0 1 1), (5, it 2), (7, pt 34 0), (14, sl 28 0 4 4), (15, it 4), (16, it 2)], [.code (bodyAt P 260 [1, 1, 1, 1, 1, 0, 1, 0, 0, 1, 1, 0, 0, 1, 1, 0]), .code (bodyAt P 260 [1, 1, 1, 1, 1, 0, 1, 0, 0, 1, 1, 0, 0, 1, 1, 1]), .inBlock 1, .code (bodyAt P 260 [1, 1, 1, 1, 1, 0, 1, 0, 0, 1, 1, 1]), .inLoop (bodyAt P 260 [1, 1, 1, 1, 1, 0, 1, 0, 0]), .inBlock 0, .code (bodyAt P 260 [1, 1, 1, 1, 1, 1])], [], false, .normal, none⟩,
  [⟨179, 57, slotsL [(0, sl 28 0 4 4), (1, it 0), (2, it 32768000)], [.seqR (opsAt P 179 [1, 0, 0]) [1, 2], .code (bodyAt P 179 [1, 0, 1]), .code (bodyAt P 179 [1, 1])], [], false, .normal, none⟩,
   ⟨82, 165, slotsL [(0, pt 27 0), (1, sl 28 0 4 4), (5, pt 30 0)], [.seqR (opsAt P 82 [1, 1, 1, 1, 0]) [2, 3, 4, 5, 6, 7], .code (bodyAt P 82 [1, 1, 1, 1, 1])], [], false, .normal, none⟩,
   ⟨27, 58, slotsL [(6, pt 27 0), (10, .chan (some 29))], [.seqR (opsAt P 27 [1, 0, 1, 1, 1, 1, 1, 0, 0, 0, 0, 1, 1, 0, 0, 1, 1, 0]) [5, 6], .code (bodyAt P 27 [1, 0, 1, 1, 1, 1, 1, 0, 0, 0, 0, 1, 1, 0, 0, 1, 1, 1]), .inBlock 4, .inBlock 3, .inLoop (bodyAt P 27 [1, 0, 1, 1, 1, 1, 1, 0, 0, 0]), .inBlock 2, .code (bodyAt P 27 [1, 0, 1, 1, 1, 1, 1, 1]), .inScope (bodyAt P 27 [1, 0])], [], false, .normal, none⟩,
   ⟨12, 56, slotsL [(0, pt 8 0), (3, pt 11 0), (4, pt 12 0), (5, it 0)], [.seqR (opsAt P 12 [1, 1, 1, 0]) [3, 4, 5, 6, 7, 8], .code (bodyAt P 12 [1, 1, 1, 1])], [], false, .normal, none⟩,
   ⟨6, 18, slotsL [(2, pt 1 0)], [.seqR (opsAt P 6 [1, 1, 1, 0]) [2, 3, 4], .code .ret], [], false, .normal, none⟩],
  heapL [daob0,
   .cells (.lst [it 0, it 0, .slice none 0 0, sb [], it 0, it 0]) 6 31 6 true true none,
   daob1,
   dc4,
   .cells (.lst [.slice none 0 0, it 0, .bool true]) 3 201 3 true true none,
   .cells (.lst [pt 3 0, .slice none 0 0, it stp, sl 18 0 1 4, pt 4 0, .slice none 0 0, it 0, it 0]) 8 134 8 true true none,
   daob3,
   .cells (.lst [sl 6 0 1 1, it 0, .slice none 0 0]) 3 141 3 true true none,
   dc5,
   daob4,
   .cells (.lst [pt 9 0]) 1 74 1 true true none,
   (jobO t),
   .cells (.lst [it 0, it 0, .slice none 0 0, sb [], it 0, it 0]) 6 31 6 true true none,
   .cells (.lst [.bool true, .bool false, .bool false, st R, sl 14 0 (Nat.add x 17) (Nat.add x 17), it (Int.ofNat at_), it 2, it 1]) 8 413 8 true true none,
   lineO X x,
   .cells (.lst [it 16, by8 0, vs 0x6d657373616765]) 3 159 3 false true none,
   .cells (.lst [it 16, by8 0, vs 0x6d657373616765]) 3 159 3 false true none,
   .cells (.lst [it 16, by8 0, vs 0x6d657373616765]) 3 159 3 false true none,
   daob7,
   .cells (.lst [it 32768000, it 131072, it 655360, it 0, it 0, it 0, it 0, .slice none 0 0, pt 23 0, sl 20 0 0 0, sb []]) 11 404 11 true true none,
   .cells (.lst [it 9, it 0, by8 0, it 0, it 0, it 0, it 0, it 0, it 0, it 0, it 0, it 0, it 0, it 0, it 0, it 0, it 10000, it 0, sb []]) 19 229 19 false true none,
   .map [] 0,
   .map [] 0,
   dc6,
   dc3,
   .cells (.lst [st ls, vs 0x556e64657266756c6c2076626f7820286261646e65737320313030303029]) 2 9 1 false true none,
   .cells (.lst [it 0, it 0, it 0, it 0, it 0, it 0, it 0, it 0, it 0, it 0, sl 24 0 4 4, sb [], sb [], sb []]) 14 174 14 false true none,
   .cells (.lst [it 1000, vs 0x67616c6c6579, .slice none 0 0, .slice none 0 0]) 4 180 4 true true none,
   dc3,
   .chan 1 [] true,
   .cells (.lst [it 0, it 0, it 0, it 0, it 0, it 0, it 0, it 0, it 0, it 0]) 10 172 10 true true none,
   .cells (.lst [.func (.func 343) ⟨[]⟩ ⟨[]⟩]) 1 367 1 true true none,
   dc7,
   .cells (.lst [it (-1)]) 1 3 1 false true none,
   .cells (.lst [it 3, it 0, by8 0, it 0, it 26214, it 0, it 0, it 0, it 0, it 0, it 0, it 0, it 0, it 0, it 0, it 0, it 0, it 1, sb []]) 19 229 19 true true none]⟩

def PS5 (t R X : List UInt8) (x at_ : Nat) (stp : Int) (ls : List UInt8) : AM :=
  ⟨⟨12, 56, slotsL [(0, pt 8 0), (3, pt 11 0), (4, pt 12 0), (8, pt 27 0)], [.code (bodyAt P 12 [1, 1, 1, 1, 1, 1, 1, 1, 0]), .code (bodyAt P 12 [1, 1, 1, 1, 1, 1, 1, 1, 1])], [], false, .normal, none⟩,
  [⟨6, 18, slotsL [(2, pt 1 0)], [.seqR (opsAt P 6 [1, 1, 1, 0]) [2, 3, 4], .code .ret], [], false, .normal, none⟩],
  heapL [daob0,
   .cells (.lst [it 0, it 0, .slice none 0 0, sb [], it 0, it 0]) 6 31 6 true true none,
   daob1,
   dc4,
   .cells (.lst [.slice none 0 0, it 0, .bool true]) 3 201 3 true true none,
   .cells (.lst [pt 3 0, .slice none 0 0, it stp, sl 18 0 1 4, pt 4 0, .slice none 0 0, it 0, it 0]) 8 134 8 true true none,
   daob3,
   .cells (.lst [sl 6 0 1 1, it 0, .slice none 0 0]) 3 141 3 true true none,
   dc5,
   daob4,
   .cells (.lst [pt 9 0]) 1 74 1 true true none,
   (jobO t),
   .cells (.lst [it 0, it 0, .slice none 0 0, sb [], it 0, it 0]) 6 31 6 true true none,
   .cells (.lst [.bool true, .bool false, .bool false, st R, sl 14 0 (Nat.add x 17) (Nat.add x 17), it (Int.ofNat at_), it 2, it 1]) 8 413 8 true true none,
   lineO X x,
   .cells (.lst [it 16, by8 0, vs 0x6d657373616765]) 3 159 3 false true none,
   .cells (.lst [it 16, by8 0, vs 0x6d657373616765]) 3 159 3 false true none,
   .cells (.lst [it 16, by8 0, vs 0x6d657373616765]) 3 159 3 false true none,
   daob7,
   .cells (.lst [it 32768000, it 131072, it 655360, it 0, it 0, it 0, it 0, .slice none 0 0, pt 23 0, sl 20 0 0 0, sb []]) 11 404 11 true true none,
   .cells (.lst [it 9, it 0, by8 0, it 0, it 0, it 0, it 0, it 0, it 0, it 0, it 0, it 0, it 0, it 0, it 0, it 0, it 10000, it 0, sb []]) 19 229 19 false true none,
   .map [] 0,
   .map [] 0,
   dc6,
   dc3,
   .cells (.lst [st ls, vs 0x556e64657266756c6c2076626f7820286261646e65737320313030303029]) 2 9 1 false true none,
   .cells (.lst [it 0, it 0, it 0, it 0, it 0, it 0, it 0, it 0, it 0, it 0, sl 24 0 4 4, sb [], sb [], sb []]) 14 174 14 false true none,
   .cells (.lst [it 1, it 0, sl 28 0 108 108, sb [], it 1, it stp]) 6 31 6 true true none,
   dviW]⟩

def GS0 (ls : List UInt8) (stp : Int) : AM :=
  ⟨⟨31, 57, slotsL [(0, sl 2 0 2 2), (1, ag [it 1, it 0, sl 1 0 108 108, sb [], it 1, it stp]), (2, it 1000)], [.code (bodyAt P 31 [])], [], false, .normal, none⟩,
  [],
  heapL [daob0,
   dviR,
   linesR ls]⟩

def GS1 (ls : List UInt8) (stp : Int) (len i : Nat) (d : List UInt8) : AM :=
  ⟨⟨88, 78, slotsL [(0, pt 4 0), (1, st ls), (5, sl 6 0 i i), (6, it (Int.ofNat i)), (17, it (Int.ofNat len)), (18, it (Int.ofNat i))], [.code (bodyAt P 88 [1, 1, 1, 1, 0, 1, 0, 0, 0]), .code (bodyAt P 88 [1, 1, 1, 1, 0, 1, 0, 0, 1]), .inLoop (bodyAt P 88 [1, 1, 1, 1, 0, 1, 0, 0]), .inBlock 0, .code (bodyAt P 88 [1, 1, 1, 1, 1])], [], false, .normal, none⟩,
  [⟨87, 8, slotsL [(1, pt 5 0)], [.seqR (opsAt P 87 [0]) [2], .code (bodyAt P 87 [1])], [], false, .normal, none⟩,
   ⟨31, 57, slotsL [(4, pt 3 0), (7, pt 5 0), (9, .func (.func 87) ⟨[]⟩ ⟨[pt 5 0]⟩), (18, sl 2 0 2 2), (19, it 2), (20, it 0)], [.seqR (opsAt P 31 [1, 1, 1, 0, 1, 0, 0, 1, 1, 0, 0, 1]) [2], .inBlock 1, .code (bodyAt P 31 [1, 1, 1, 0, 1, 0, 0, 1, 1, 1]), .inLoop (bodyAt P 31 [1, 1, 1, 0, 1, 0, 0]), .inBlock 0, .code (bodyAt P 31 [1, 1, 1, 1])], [], false, .normal, none⟩],
  heapL [daob0,
   dviR,
   linesR ls,
   .cells (.lst [it 1, it 0, sl 1 0 108 108, sb [], it 1, it stp]) 6 31 6 true true none,
   .cells (.lst [.slice none 0 0, it 1000, it 0]) 3 316 3 true true none,
   .cells (.lst [pt 4 0]) 1 182 1 true true none,
   .cells (.lst (ofBytes d)) (Nat.mul i 1) 5 1 false true none]⟩

def GS2 (ls : List UInt8) (stp : Int) (n : Nat) (d : List UInt8) : AM :=
  ⟨⟨31, 57, slotsL [(4, pt 3 0), (7, pt 5 0), (9, .func (.func 87) ⟨[]⟩ ⟨[pt 5 0]⟩), (18, sl 2 0 2 2), (19, it 2), (20, it 0)], [.code (bodyAt P 31 [1, 1, 1, 0, 1, 0, 0, 1, 1, 1]), .inLoop (bodyAt P 31 [1, 1, 1, 0, 1, 0, 0]), .inBlock 0, .code (bodyAt P 31 [1, 1, 1, 1])], [], false, .normal, none⟩,
  [],
  heapL [daob0,
   dviR,
   linesR ls,
   .cells (.lst [it 1, it 0, sl 1 0 108 108, sb [], it 1, it stp]) 6 31 6 true true none,
   .cells (.lst [sl 6 0 n n, it 1000, it 0]) 3 316 3 true true none,
   .cells (.lst [pt 4 0]) 1 182 1 true true none,
   .cells (.lst (ofBytes d)) (Nat.mul n 1) 5 1 false true none]⟩

theorem plain_toks {out : List Value} (h : ∀ v ∈ out, plainV.plainS v = true) (n e k : Nat) (x w : Bool) (m : Nat) : PlainO (.cells (.lst out) m e k x w none) := by
  intro i v _ hv
  rw [PA.get_lst] at hv
  exact h v (List.mem_of_getElem? hv)
end
end Go.Proofs.Gt

/- What is to be shown of the operations over the open line, tokens and bytes. -/
namespace Go.Proofs.Gt
open Go Go.Proofs Go.Abs
set_option maxRecDepth 1000000
noncomputable section

/-- The codes of plain text with braces. -/
def codeL : List Value := ([9, 8, 12, 12, 12, 12, 12, 12, 12, 10, 12, 7, 13, 5, 12, 12, 12, 12, 12, 12, 12, 12, 12, 12, 12, 12, 12, 12, 12, 12, 12, 12, 10, 12, 12, 6, 3, 14, 4, 12, 12, 12, 12, 12, 12, 12, 12, 12, 12, 12, 12, 12, 12, 12, 12, 12, 12, 12, 12, 12, 12, 12, 12, 12, 12, 11, 11, 11, 11, 11, 11, 11, 11, 11, 11, 11, 11, 11, 11, 11, 11, 11, 11, 11, 11, 11, 11, 11, 11, 11, 11, 12, 0, 12, 7, 8, 12, 11, 11, 11, 11, 11, 11, 11, 11, 11, 11, 11, 11, 11, 11, 11, 11, 11, 11, 11, 11, 11, 11, 11, 11, 11, 11, 1, 12, 2, 13, 15] : List Int).map it ++ repL [it 12] 128
def codesPA : PA Value := match PA.fill .nil 0 codeL with | .box t => t

theorem codes_tab : (List.range 26).map (fun n => codesPA.loadN (97 + n) 1) = List.replicate 26 (some [it 11]) := by kernel_rfl

theorem codes_letter {n : Nat} (h1 : 97 ≤ n) (h2 : n ≤ 122) : codesPA.loadN n 1 = some [it 11] := by
  have h : ((List.range 26).map (fun n => codesPA.loadN (97 + n) 1))[n - 97]? = some (some [it 11]) := by
    rw [codes_tab, List.getElem?_replicate, if_pos (by omega)]
  rw [List.getElem?_map, List.getElem?_range (by omega)] at h
  simp only [Option.map_some, Option.some.injEq] at h
  have e : 97 + (n - 97) = n := by omega
  rwa [e] at h

/-- A letter's place in the codes, and what stands there. -/
def codeP (c : UInt8) (cat : Int) : Prop := Nat.ble (Nat.add c.toNat 1) 256 = true ∧ codesPA.loadN c.toNat 1 = some [it cat]
def codeP2 (c : UInt8) (cat : Int) : Prop := Nat.ble (Nat.add (Nat.add 0 (Nat.mul c.toNat 1)) 1) 256 = true ∧ codesPA.loadN (Nat.add 0 (Nat.mul c.toNat 1)) 1 = some [it cat]

theorem codeP_2 {c : UInt8} {cat : Int} (h : codeP c cat) : codeP2 c cat := by
  have e : Nat.add 0 (Nat.mul c.toNat 1) = c.toNat := by rw [Nat.add_eq, Nat.mul_eq, Nat.zero_add, Nat.mul_one]
  unfold codeP2
  rw [e]
  exact h

theorem codeP_letter {c : UInt8} (h1 : 97 ≤ c.toNat) (h2 : c.toNat ≤ 122) : codeP c 11 := ⟨ble_t (by show c.toNat + 1 ≤ 256; omega), codes_letter h1 h2⟩

/-- A character of the open line. -/
def lineP (X : List UInt8) (x at_ : Nat) (c : UInt8) : Prop :=
  Int.ofNat at_ = Int.ofNat at_ ∧ at_ < Nat.add x 17 ∧ Nat.add x 17 ≤ Nat.add x 17 ∧ Nat.add x 17 < 2 ^ 63 ∧ (Nat.ble (Nat.add at_ 1) (Nat.mul (Nat.add x 17) 1) = true ∧ (PA.lst (ofBytes (T1 ++ X))).loadN at_ 1 = some [by8 (Int.ofNat c.toNat)])

theorem lineP_ok {X : List UInt8} {x i : Nat} {c : UInt8} (hx : x < 100000) (hl : i < x) (hc : X[i]? = some c) : lineP X x (Nat.add 17 i) c := by
  have e : (T1 ++ X)[17 + i]? = some c := by
    rw [List.getElem?_append_right (by show 17 ≤ 17 + i; omega)]
    have : 17 + i - T1.length = i := by show 17 + i - 17 = i; omega
    rw [this]; exact hc
  refine ⟨rfl, by show 17 + i < x + 17; omega, Nat.le_refl _, by show x + 17 < 2 ^ 63; omega, ble_t (by show 17 + i + 1 ≤ (x + 17) * 1; omega), loadN_lst1 (ofBytes_get e)⟩

theorem ldAll {old : List Value} {len k : Nat} (h : old.length = len * k) : Nat.ble (Nat.add 0 (Nat.mul len k)) (Nat.mul len k) = true ∧ (PA.lst old).loadN 0 (Nat.mul len k) = some old := by
  refine ⟨ble_t (by show 0 + len * k ≤ len * k; omega), loadN_lst (by show 0 + len * k ≤ old.length; omega) ?_⟩
  rw [List.drop_zero]
  have : Nat.mul len k = old.length := h.symm
  rw [this, List.take_length]

theorem beqT (n : Nat) : Nat.beq n n = true := Nat.beq_refl n

/-- A token of a letter. -/
def tokL (c : UInt8) : List Value := [it 11, by8 (Int.ofNat c.toNat), sb []]
def toksL : List UInt8 → List Value
  | [] => []
  | c :: l => tokL c ++ toksL l
theorem toksL_append (a b : List UInt8) : toksL (a ++ b) = toksL a ++ toksL b := by
  induction a with
  | nil => rfl
  | cons c a ih => simp only [List.cons_append, toksL, ih, List.append_assoc]
theorem toksL_length (l : List UInt8) : (toksL l).length = l.length * 3 := by
  induction l with
  | nil => rfl
  | cons c l ih => simp only [toksL, tokL, List.length_append, List.length_cons, List.length_nil, ih]; omega
theorem toksL_plain (l : List UInt8) : ∀ v ∈ toksL l, plainV.plainS v = true := by
  induction l with
  | nil => intro v hv; cases hv
  | cons c l ih =>
    intro v hv
    rcases List.mem_append.1 hv with hv | hv
    · simp only [tokL, List.mem_cons, List.not_mem_nil, or_false] at hv
      rcases hv with rfl | rfl | rfl <;> rfl
    · exact ih v hv
theorem toksL_at : ∀ (a : List UInt8) (c : UInt8) (b : List UInt8), ((toksL (a ++ c :: b)).drop (a.length * 3)).take 3 = tokL c
  | [], c, b => rfl
  | y :: a, c, b => by
    have := toksL_at a c b
    simp only [List.cons_append, toksL, tokL, List.length_cons]
    have e : (a.length + 1) * 3 = 3 + a.length * 3 := by omega
    rw [e, ← List.drop_drop]
    exact this
end
end Go.Proofs.Gt

