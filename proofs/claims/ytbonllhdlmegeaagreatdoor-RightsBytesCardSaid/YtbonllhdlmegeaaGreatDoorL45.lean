/- RightsBytes: which variables its functions name, by parts of the list of its functions. -/
import Derived.Test.YtbonllhdlmegeaaGreatDoorRows
import Derived.KernelRfl
noncomputable section
namespace Go.Proofs.YtbonllhdlmegeaaGreatDoor.rightsBytes
open Go
def cl0 : List Nat := [3, 4, 17, 16, 18, 58, 5, 7, 6, 19, 59, 60, 103, 104, 155, 115, 163, 164, 166, 165, 220, 156, 157, 218, 273, 357, 358, 161, 219, 279, 278, 360, 275, 276, 277, 62, 61, 106, 105, 158, 63, 64, 66, 65, 108, 107, 159, 67]
def cl1 : List Nat := [68, 69, 110, 109, 160, 70, 71, 111, 112, 72, 73, 74, 114, 113, 162, 75, 20, 21, 77, 76, 22, 78, 116, 24, 25, 47, 23, 79, 8, 26, 80, 81, 117, 118, 167, 168, 169, 221, 280, 361, 413, 82, 119, 414, 362, 27, 83, 84]
def cl2 : List Nat := [121, 85, 30, 120, 170, 222, 29, 28, 9, 31, 32, 34, 86, 123, 171, 124, 172, 122, 125, 173, 174, 126, 175, 33, 35, 36, 10, 37, 39, 87, 127, 176, 38, 40, 41, 11, 12, 42, 13, 49, 91, 93, 48, 44, 90, 43, 45, 92]
def cl3 : List Nat := [88, 128, 46, 89, 14, 15, 50, 95, 94, 129, 177, 130, 178, 223, 131, 179, 132, 180, 51, 53, 98, 145, 52, 97, 142, 141, 200, 143, 144, 201, 202, 203, 204, 264, 265, 266, 267, 251, 334, 403, 188, 148, 240, 317, 387, 388, 389, 319]
def cl4 : List Nat := [318, 390, 355, 354, 412, 140, 198, 261, 350, 351, 410, 443, 199, 262, 352, 263, 353, 411, 96, 133, 134, 185, 233, 187, 238, 315, 385, 386, 316, 239, 302, 303, 304, 305, 226, 295, 367, 296, 368, 297, 369, 419, 299, 374, 376, 424, 425, 254]
def cl5 : List Nat := [343, 344, 446, 457, 478, 458, 405, 406, 459, 479, 480, 498, 460, 461, 462, 463, 426, 427, 428, 375, 420, 421, 422, 102, 154, 423, 444, 455, 456, 477, 445, 370, 300, 377, 429, 430, 447, 448, 449, 431, 450, 378, 432, 451, 433, 452, 464, 465]
def cl6 : List Nat := [481, 466, 467, 482, 483, 499, 468, 469, 470, 471, 434, 379, 380, 381, 382, 371, 230, 228, 298, 372, 373, 234, 306, 307, 308, 309, 383, 310, 311, 312, 192, 245, 322, 391, 435, 324, 325, 394, 393, 392, 436, 453, 472, 151, 484, 500, 485, 501]
def cl7 : List Nat := [502, 503, 525, 548, 568, 528, 557, 574, 589, 590, 602, 591, 592, 603, 604, 608, 593, 594, 595, 596, 558, 559, 560, 561, 562, 271, 356, 563, 569, 549, 570, 577, 578, 597, 579, 580, 598, 599, 605, 581, 582, 583, 584, 533, 526, 550, 571, 551]
def cl8 : List Nat := [572, 585, 586, 600, 606, 553, 552, 527, 554, 573, 587, 588, 601, 607, 556, 555, 504, 505, 506, 507, 508, 529, 473, 486, 509, 530, 531, 532, 534, 489, 514, 535, 99, 146, 205, 147, 206, 207, 208, 268, 510, 101, 150, 152, 209, 210, 153, 211]
def cl9 : List Nat := [212, 213, 214, 270, 269, 215, 272, 274, 359, 216, 217, 487, 512, 513, 511, 488, 490, 474, 491, 515, 516, 536, 517, 537, 475, 454, 476, 492, 194, 253, 335, 336, 404, 337, 338, 407, 408, 442, 339, 340, 341, 342, 493, 518, 538, 539, 564, 540]
def cl10 : List Nat := [541, 565, 566, 575, 542, 543, 544, 545, 494, 519, 520, 495, 496, 521, 546, 547, 567, 576, 497, 522, 523, 524, 323, 235, 236, 313, 314, 384, 259, 348, 409, 181, 224, 281, 282, 283, 284, 285, 363, 364, 286, 287, 365, 288, 289, 225, 290, 291]
def cl11 : List Nat := [292, 293, 294, 366, 415, 100, 149, 416, 417, 418, 182, 227, 183, 229, 186, 237, 250, 231, 301, 184, 232, 135, 136, 189, 241, 242, 243, 244, 321, 320, 246, 326, 395, 396, 397, 437, 137, 190, 247, 327, 248, 328, 249, 329, 330, 398, 438, 439]
def cl12 : List Nat := [440, 399, 331, 400, 441, 401, 191, 332, 402, 333, 193, 252, 138, 195, 255, 345, 256, 257, 258, 346, 347, 196, 260, 349, 139, 197, 54, 55, 57, 56]
def clA : List Nat := cl0 ++ cl1 ++ cl2 ++ cl3 ++ cl4 ++ cl5 ++ cl6 ++ cl7 ++ cl8 ++ cl9 ++ cl10 ++ cl11 ++ cl12
theorem clos : Tryz.prog.closure 3 = clA := by kernel_rfl
def gNm (g : Nat) : List Nat := ((Tryz.prog.funcs[g]?).bind (·.body)).elim [] Code.globalsNamed
def eRd (g : Nat) : Option String := (Tryz.prog.funcs[g]?).bind fun fn => if fn.body.isNone then entryReads.lookup fn.name else none
theorem gn0 : cl0.flatMap gNm = [] := by kernel_rfl
theorem er0 : cl0.filterMap eRd = [] := by kernel_rfl
theorem gn1 : cl1.flatMap gNm = [] := by kernel_rfl
theorem er1 : cl1.filterMap eRd = [] := by kernel_rfl
theorem gn2 : cl2.flatMap gNm = [] := by kernel_rfl
theorem er2 : cl2.filterMap eRd = [] := by kernel_rfl
theorem gn3 : cl3.flatMap gNm = [0, 0] := by kernel_rfl
theorem er3 : cl3.filterMap eRd = [] := by kernel_rfl
theorem gn4 : cl4.flatMap gNm = [1, 2, 1] := by kernel_rfl
theorem er4 : cl4.filterMap eRd = [] := by kernel_rfl
theorem gn5 : cl5.flatMap gNm = [3] := by kernel_rfl
theorem er5 : cl5.filterMap eRd = [] := by kernel_rfl
theorem gn6 : cl6.flatMap gNm = [] := by kernel_rfl
theorem er6 : cl6.filterMap eRd = [] := by kernel_rfl
theorem gn7 : cl7.flatMap gNm = [] := by kernel_rfl
theorem er7 : cl7.filterMap eRd = [] := by kernel_rfl
theorem gn8 : cl8.flatMap gNm = [] := by kernel_rfl
theorem er8 : cl8.filterMap eRd = [] := by kernel_rfl
theorem gn9 : cl9.flatMap gNm = [] := by kernel_rfl
theorem er9 : cl9.filterMap eRd = [] := by kernel_rfl
theorem gn10 : cl10.flatMap gNm = [] := by kernel_rfl
theorem er10 : cl10.filterMap eRd = [] := by kernel_rfl
theorem gn11 : cl11.flatMap gNm = [] := by kernel_rfl
theorem er11 : cl11.filterMap eRd = [] := by kernel_rfl
theorem gn12 : cl12.flatMap gNm = [] := by kernel_rfl
theorem er12 : cl12.filterMap eRd = [] := by kernel_rfl
theorem gnA : clA.flatMap gNm = [0, 0, 1, 2, 1, 3] := by
  simp only [clA, List.flatMap_append, gn0, gn1, gn2, gn3, gn4, gn5, gn6, gn7, gn8, gn9, gn10, gn11, gn12]
  rfl
theorem erA : clA.filterMap eRd = [] := by
  simp only [clA, List.filterMap_append, er0, er1, er2, er3, er4, er5, er6, er7, er8, er9, er10, er11, er12]
  rfl
theorem named_eq : Tryz.prog.varsNamed 3 = ((([0, 0, 1, 2, 1, 3] : List Nat).eraseDups).filterMap (fun g => (Tryz.prog.globals[g]?).map (·.name)) ++ ([] : List String)).eraseDups := by
  rw [← gnA, ← erA]
  show ((((Tryz.prog.closure 3).flatMap gNm).eraseDups).filterMap (fun g => (Tryz.prog.globals[g]?).map (·.name)) ++ (Tryz.prog.closure 3).filterMap eRd).eraseDups = _
  rw [clos]
theorem named_ok : (Rows.rightsBytesRow.named == Tryz.prog.varsNamed 3) = true := by
  rw [named_eq]
  kernel_rfl
end Go.Proofs.YtbonllhdlmegeaaGreatDoor.rightsBytes
