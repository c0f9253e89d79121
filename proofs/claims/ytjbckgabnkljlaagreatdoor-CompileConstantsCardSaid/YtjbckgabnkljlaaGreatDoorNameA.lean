/- What CompileConstants reaches. -/
import Derived.Test.YtjbckgabnkljlaaGreatDoorProg
import GoSem.ClaimFn
import Derived.LaidByTextLater
import Derived.SevenTiedAt
import Derived.LaidSub
import Derived.LaidOnce
import Derived.KernelRfl

section
set_option maxRecDepth 100000
namespace Go.Proofs.YtjbckgabnkljlaaGreatDoor
open Go
def cl0 : List Nat := [3, 4, 5, 6, 14, 41, 101, 159, 169, 158, 160, 250, 357, 439, 493, 358, 359, 440, 494, 495, 496, 540, 217, 251, 215, 360, 216, 288, 252, 253, 361, 287, 382, 383, 441, 254, 255, 362, 442, 497, 541, 498, 499, 500, 42, 102, 43, 103, 104, 105, 106, 170, 161, 256, 269, 270, 271, 177, 172, 109, 276, 280, 107, 179, 282, 180, 283, 277, 374, 363, 364, 443, 284, 377, 372, 108, 182, 286, 380, 381, 451, 504, 547, 572, 580, 581, 505, 548, 573, 549, 550, 243, 351, 435, 488, 489, 487]
def cl1 : List Nat := [536, 537, 490, 491, 538, 539, 569, 570, 574, 551, 279, 376, 375, 258, 171, 181, 285, 378, 379, 450, 502, 544, 545, 571, 503, 546, 162, 257, 272, 273, 274, 278, 373, 275, 173, 174, 175, 281, 176, 178, 110, 7, 8, 15, 44, 111, 183, 184, 185, 289, 384, 452, 506, 507, 552, 453, 508, 140, 112, 113, 114, 116, 117, 115, 186, 118, 187, 290, 188, 291, 189, 190, 292, 191, 192, 193, 194, 195, 196, 197, 198, 293, 294, 16, 45, 50, 47, 48, 46, 119, 54, 17, 49, 18, 26, 27, 62]
def cl2 : List Nat := [19, 28, 20, 51, 21, 53, 52, 22, 55, 56, 23, 57, 120, 58, 24, 59, 60, 25, 61, 9, 10, 29, 63, 121, 199, 200, 295, 298, 299, 297, 385, 454, 447, 296, 64, 122, 65, 123, 31, 66, 67, 70, 68, 69, 124, 201, 202, 125, 71, 72, 73, 74, 30, 11, 12, 32, 75, 127, 203, 126, 85, 155, 244, 352, 168, 268, 353, 436, 354, 437, 492, 100, 355, 87, 245, 356, 438, 246, 166, 267, 371, 449, 247, 248, 249, 76, 129, 204, 84, 206, 300, 386, 455, 301, 303, 391, 302]
def cl3 : List Nat := [388, 220, 317, 387, 456, 509, 510, 553, 575, 390, 389, 304, 305, 205, 128, 77, 130, 131, 132, 78, 79, 33, 80, 134, 207, 227, 333, 310, 393, 457, 511, 512, 513, 423, 424, 321, 309, 144, 347, 308, 407, 133, 462, 429, 486, 515, 554, 555, 576, 556, 531, 532, 557, 577, 578, 582, 558, 559, 560, 561, 463, 420, 394, 226, 311, 395, 458, 396, 397, 398, 399, 459, 82, 434, 466, 467, 472, 137, 213, 315, 314, 402, 401, 306, 136, 212, 211, 313, 208, 239, 307, 392, 135, 209, 210, 312, 400]
def cl4 : List Nat := [230, 336, 81, 138, 214, 139, 141, 142, 219, 218, 316, 403, 404, 460, 514, 222, 221, 143, 34, 83, 145, 223, 318, 405, 461, 350, 406, 412, 319, 337, 425, 320, 224, 331, 416, 322, 323, 348, 432, 343, 334, 421, 431, 430, 148, 324, 225, 332, 417, 418, 470, 471, 517, 518, 519, 520, 521, 433, 419, 325, 149, 231, 232, 338, 426, 474, 422, 473, 522, 475, 523, 528, 563, 564, 524, 565, 525, 526, 566, 579, 527, 340, 427, 567, 476, 529, 228, 233, 339, 150, 235, 342, 234, 341, 428, 477, 483]
def cl5 : List Nat := [535, 478, 530, 479, 480, 533, 534, 568, 481, 482, 484, 485, 409, 464, 349, 465, 408, 326, 410, 345, 229, 335, 327, 328, 411, 329, 238, 346, 330, 413, 414, 468, 415, 469, 516, 562, 146, 147, 151, 236, 344, 237, 152, 153, 154, 240, 241, 242, 35, 13, 36, 86, 156, 157, 38, 39, 90, 40, 91, 163, 259, 365, 444, 445, 501, 542, 543, 164, 260, 261, 366, 262, 263, 98, 95, 97, 96, 93, 165, 266, 369, 446, 370, 448, 264, 265, 367, 368, 92, 94, 99, 167, 37, 88, 89]
/-- what CompileConstants reaches -/
def clAll : List Nat := cl0 ++ cl1 ++ cl2 ++ cl3 ++ cl4 ++ cl5
/-- what is reached, with a number's bits for what was met -/
noncomputable def viaM (P : Program) : Nat → List FuncId → List FuncId → Nat → List FuncId
  | 0, _, seen, _ => seen.reverse
  | _, [], seen, _ => seen.reverse
  | n + 1, f :: todo, seen, m => bif m.testBit f then viaM P n todo seen m else viaM P n ((P.funcs[f]?).elim [] P.leadsTo ++ todo) (f :: seen) (m ||| 2 ^ f)
theorem viaM_eq {P : Program} : ∀ (n : Nat) (todo seen : List FuncId) (m : Nat), (∀ g : Nat, m.testBit g = seen.contains g) → viaM P n todo seen m = P.closureVia n todo seen
  | 0, _, _, _, _ => by simp only [viaM, Program.closureVia]
  | n + 1, [], _, _, _ => by simp only [viaM, Program.closureVia]
  | n + 1, f :: todo, seen, m, h => by
    simp only [viaM, Program.closureVia]
    rw [h f]
    cases seen.contains f
    · rw [cond_false, if_neg (by decide)]
      refine viaM_eq n _ _ _ fun g => ?_
      rw [Nat.testBit_or, h g, Nat.testBit_two_pow, List.contains_cons, Bool.or_comm]
      congr 1
      by_cases e : f = g
      · subst e; simp
      · rw [decide_eq_false e]; exact (beq_eq_false_iff_ne.2 (Ne.symm e)).symm
    · rw [cond_true, if_pos rfl]
      exact viaM_eq n _ _ _ h
theorem fuel3 : 1 + (Tryz.prog.funcs.toList.map fun g => (Tryz.prog.leadsTo g).length + 1).sum = 2679 := by kernel_rfl
theorem via3 : viaM Tryz.prog 2679 [3] [] 0 = clAll := by kernel_rfl
theorem closure3 : Tryz.prog.closure 3 = clAll := by
  unfold Program.closure
  rw [fuel3, ← viaM_eq 2679 [3] [] 0 (fun g => by simp)]
  exact via3
end Go.Proofs.YtjbckgabnkljlaaGreatDoor
end
