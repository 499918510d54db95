/-
  The function 'ActLeaves': inputs, each run by the kernel.
-/
import Derived.Test.YtkggojngcnkabaaGreatKxQ
set_option linter.unusedVariables false
set_option linter.unusedSimpArgs false
namespace Go.Kx
theorem ActLeaves_t19 : isT (callX kR 100 3 [.b true, .i (.ofNat 19)] s00) = true := by kernel_rfl
theorem ActLeaves_t16 : isT (callX kR 100 3 [.b true, .i (.ofNat 16)] s00) = true := by kernel_rfl
theorem ActLeaves_t13 : isT (callX kR 100 3 [.b true, .i (.ofNat 13)] s00) = true := by kernel_rfl
theorem ActLeaves_t10 : isT (callX kR 100 3 [.b true, .i (.ofNat 10)] s00) = true := by kernel_rfl
theorem ActLeaves_t7 : isT (callX kR 100 3 [.b true, .i (.ofNat 7)] s00) = true := by kernel_rfl
theorem ActLeaves_t4 : isT (callX kR 100 3 [.b true, .i (.ofNat 4)] s00) = true := by kernel_rfl
theorem ActLeaves_t1 : isT (callX kR 100 3 [.b true, .i (.ofNat 1)] s00) = true := by kernel_rfl
end Go.Kx
