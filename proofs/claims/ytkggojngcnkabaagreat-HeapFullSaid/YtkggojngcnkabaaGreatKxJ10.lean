/-
  Closed facts on the row of the function HeapFull. Printed by a program of ours.
-/
import Derived.Test.YtkggojngcnkabaaGreatKxJ
set_option linter.unusedVariables false
set_option linter.unusedSimpArgs false
set_option maxRecDepth 100000
namespace Go.Kx
open Go.Proofs Go.ChangeShapes Go.WideShapes Go.ChangeAt Go.RowKit
theorem clo10 : Tryz.prog.closure 10 = [10, 43, 44, 68, 115, 187, 188, 287, 189, 190, 117, 191, 116, 118, 192, 193, 20, 119, 194, 195, 196, 124, 201, 288, 197, 198, 120, 121, 199, 123, 122, 200, 80, 69, 125, 46, 36, 83, 98, 169, 42, 95, 84, 85, 146, 233, 25, 77, 86, 147, 234, 22, 87, 148, 235, 29, 79, 28, 78, 236, 237, 149, 150, 225, 226, 238, 324, 359, 145, 223, 88, 151, 239, 152, 153, 240, 325, 360, 254, 361, 171, 173, 374, 260, 375, 378, 320, 335, 259, 376, 362, 363, 220, 377, 241, 154, 155, 242, 243, 156, 89, 157, 244, 90, 158, 159, 161, 160, 162, 245, 326, 364, 333, 365, 327, 366, 367, 368, 372, 369, 221, 163, 164, 91, 165, 246, 92, 166, 205, 289, 290, 93, 167, 247, 168, 248, 328, 356, 370, 311, 334, 249, 329, 330, 250, 331, 348, 371, 316, 332, 251, 252, 253, 17, 71, 72, 130, 94, 131, 202, 132, 203, 204, 133, 206, 73, 134, 207, 291, 292, 293, 294, 208, 296, 295, 344, 297, 144, 140, 209, 298, 299, 300, 345, 210, 211, 301, 303, 302, 228, 312, 357, 229, 346, 347, 349, 350, 143, 231, 314, 358, 315, 317, 323, 318, 232, 319, 321, 180, 322, 213, 212, 304, 305, 135, 216, 308, 351, 352, 354, 353, 309, 355, 217, 218, 219, 214, 306, 136, 141, 227, 215, 224, 307, 34, 137, 138, 222, 310, 139, 74, 142, 230, 313, 96, 97, 70, 126, 127, 128, 129, 45, 47, 81, 35, 52, 16, 26, 18, 75, 48, 21] := by kernel_rfl
theorem inp10 : Tryz.prog.inPlace 10 = ["math.Float64bits"] := by
  unfold Program.inPlace
  rw [clo10]
  as_aux_lemma => kernel_rfl
theorem unf10 : Tryz.prog.unfollowed 10 = true := by
  unfold Program.unfollowed
  rw [clo10]
  as_aux_lemma => kernel_rfl
theorem rec10 : Tryz.prog.recurses 10 = true := by
  unfold Program.recurses
  rw [unf10, Bool.true_or]
theorem nam10 : Tryz.prog.varsNamed 10 = [] := by
  unfold Program.varsNamed
  rw [clo10]
  as_aux_lemma => kernel_rfl
theorem make10 : (Tryz.prog.make == some YtkggojngcnkabaaGreat.Rows.heapFullRow.make) = true := by kernel_rfl
theorem closed10 : joinedFacts Tryz.prog 10 Tryz.f10 YtkggojngcnkabaaGreat.Rows.heapFullSpec YtkggojngcnkabaaGreat.Rows.heapFullRow = true := by
  unfold joinedFacts
  rw [j_laid, j_maps, inp10, unf10, rec10, nam10, j_plain, j_stops, j_enter, j_lifts, make10]
  as_aux_lemma => kernel_rfl
theorem fn10 : Tryz.prog.funcNamed YtkggojngcnkabaaGreat.Rows.heapFullRow.func = some 10 := by kernel_rfl
end Go.Kx
