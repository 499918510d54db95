/-
  Closed facts on the row of the function ActLeaves. Printed by a program of ours.
-/
import Derived.Test.YtkggojngcnkabaaGreatKxJ
set_option linter.unusedVariables false
set_option linter.unusedSimpArgs false
set_option maxRecDepth 100000
namespace Go.Kx
open Go.Proofs Go.ChangeShapes Go.WideShapes Go.ChangeAt Go.RowKit
theorem clo3 : Tryz.prog.closure 3 = [3, 14, 68, 115, 187, 188, 287, 189, 190, 117, 191, 116, 118, 192, 193, 20, 119, 194, 195, 196, 124, 201, 288, 197, 198, 120, 121, 199, 123, 122, 200, 69, 125, 16, 17, 71, 72, 130, 94, 150, 225, 226, 238, 324, 359, 145, 223, 131, 148, 235, 29, 79, 28, 78, 236, 237, 202, 22, 77, 132, 203, 204, 205, 289, 290, 133, 206, 73, 134, 207, 291, 292, 173, 293, 259, 320, 335, 294, 208, 296, 295, 344, 297, 144, 140, 209, 298, 299, 300, 345, 210, 211, 301, 303, 302, 228, 312, 357, 356, 311, 334, 229, 346, 251, 98, 169, 249, 95, 329, 330, 347, 250, 331, 348, 371, 316, 332, 372, 159, 333, 349, 350, 143, 231, 314, 358, 254, 315, 317, 260, 323, 318, 232, 319, 321, 180, 322, 213, 212, 304, 305, 135, 216, 308, 351, 149, 352, 171, 354, 353, 309, 355, 217, 218, 219, 214, 306, 136, 220, 141, 227, 221, 215, 224, 307, 34, 137, 138, 222, 310, 139, 74, 142, 230, 313, 19, 76, 70, 126, 127, 128, 129, 15, 18, 75, 21] := by kernel_rfl
theorem inp3 : Tryz.prog.inPlace 3 = ["math.Float64bits"] := by
  unfold Program.inPlace
  rw [clo3]
  as_aux_lemma => kernel_rfl
theorem unf3 : Tryz.prog.unfollowed 3 = true := by
  unfold Program.unfollowed
  rw [clo3]
  as_aux_lemma => kernel_rfl
theorem rec3 : Tryz.prog.recurses 3 = true := by
  unfold Program.recurses
  rw [unf3, Bool.true_or]
theorem nam3 : Tryz.prog.varsNamed 3 = [] := by
  unfold Program.varsNamed
  rw [clo3]
  as_aux_lemma => kernel_rfl
theorem make3 : (Tryz.prog.make == some YtkggojngcnkabaaGreat.Rows.actLeavesRow.make) = true := by kernel_rfl
theorem closed3 : joinedFacts Tryz.prog 3 Tryz.f3 YtkggojngcnkabaaGreat.Rows.actLeavesSpec YtkggojngcnkabaaGreat.Rows.actLeavesRow = true := by
  unfold joinedFacts
  rw [j_laid, j_maps, inp3, unf3, rec3, nam3, j_plain, j_stops, j_enter, j_lifts, make3]
  as_aux_lemma => kernel_rfl
theorem fn3 : Tryz.prog.funcNamed YtkggojngcnkabaaGreat.Rows.actLeavesRow.func = some 3 := by kernel_rfl
end Go.Kx
