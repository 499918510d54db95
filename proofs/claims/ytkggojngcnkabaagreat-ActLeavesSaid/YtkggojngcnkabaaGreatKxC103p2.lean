/-
  The function 'ActLeaves': inputs, each run by the kernel.
-/
import Derived.Test.YtkggojngcnkabaaGreatKxQ
set_option linter.unusedVariables false
set_option linter.unusedSimpArgs false
namespace Go.Kx
theorem ActLeaves_f20 : isT (callX kR 100 3 [.b false, .i (.ofNat 20)] s00) = true := by kernel_rfl
theorem ActLeaves_f15 : isT (callX kR 100 3 [.b false, .i (.ofNat 15)] s00) = true := by kernel_rfl
theorem ActLeaves_f14 : isT (callX kR 100 3 [.b false, .i (.ofNat 14)] s00) = true := by kernel_rfl
theorem ActLeaves_f9 : isT (callX kR 100 3 [.b false, .i (.ofNat 9)] s00) = true := by kernel_rfl
theorem ActLeaves_f8 : isT (callX kR 100 3 [.b false, .i (.ofNat 8)] s00) = true := by kernel_rfl
theorem ActLeaves_f3 : isT (callX kR 100 3 [.b false, .i (.ofNat 3)] s00) = true := by kernel_rfl
theorem ActLeaves_f2 : isT (callX kR 100 3 [.b false, .i (.ofNat 2)] s00) = true := by kernel_rfl
end Go.Kx
