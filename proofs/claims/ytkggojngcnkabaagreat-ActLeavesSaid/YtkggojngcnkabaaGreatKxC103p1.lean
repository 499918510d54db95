/-
  The function 'ActLeaves': inputs, each run by the kernel.
-/
import Derived.Test.YtkggojngcnkabaaGreatKxQ
set_option linter.unusedVariables false
set_option linter.unusedSimpArgs false
namespace Go.Kx
theorem ActLeaves_t20 : isT (callX kR 100 3 [.b true, .i (.ofNat 20)] s00) = true := by kernel_rfl
theorem ActLeaves_t15 : isT (callX kR 100 3 [.b true, .i (.ofNat 15)] s00) = true := by kernel_rfl
theorem ActLeaves_t14 : isT (callX kR 100 3 [.b true, .i (.ofNat 14)] s00) = true := by kernel_rfl
theorem ActLeaves_t9 : isT (callX kR 100 3 [.b true, .i (.ofNat 9)] s00) = true := by kernel_rfl
theorem ActLeaves_t8 : isT (callX kR 100 3 [.b true, .i (.ofNat 8)] s00) = true := by kernel_rfl
theorem ActLeaves_t3 : isT (callX kR 100 3 [.b true, .i (.ofNat 3)] s00) = true := by kernel_rfl
theorem ActLeaves_t2 : isT (callX kR 100 3 [.b true, .i (.ofNat 2)] s00) = true := by kernel_rfl
end Go.Kx
