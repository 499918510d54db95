/-
  The function 'ActLeaves': inputs, each run by the kernel.
-/
import Derived.Test.YtkggojngcnkabaaGreatKxQ
set_option linter.unusedVariables false
set_option linter.unusedSimpArgs false
namespace Go.Kx
theorem ActLeaves_t18 : isT (callX kR 100 3 [.b true, .i (.ofNat 18)] s00) = true := by kernel_rfl
theorem ActLeaves_t17 : isT (callX kR 100 3 [.b true, .i (.ofNat 17)] s00) = true := by kernel_rfl
theorem ActLeaves_t12 : isT (callX kR 100 3 [.b true, .i (.ofNat 12)] s00) = true := by kernel_rfl
theorem ActLeaves_t11 : isT (callX kR 100 3 [.b true, .i (.ofNat 11)] s00) = true := by kernel_rfl
theorem ActLeaves_t6 : isT (callX kR 100 3 [.b true, .i (.ofNat 6)] s00) = true := by kernel_rfl
theorem ActLeaves_t5 : isT (callX kR 100 3 [.b true, .i (.ofNat 5)] s00) = true := by kernel_rfl
theorem ActLeaves_t0 : isT (callX kR 100 3 [.b true, .i (.ofNat 0)] s00) = true := by kernel_rfl
end Go.Kx
