/-
  The function 'ActLeaves': inputs, each run by the kernel.
-/
import Derived.Test.YtkggojngcnkabaaGreatKxQ
set_option linter.unusedVariables false
set_option linter.unusedSimpArgs false
namespace Go.Kx
theorem ActLeaves_f18 : isT (callX kR 100 3 [.b false, .i (.ofNat 18)] s00) = true := by kernel_rfl
theorem ActLeaves_f17 : isT (callX kR 100 3 [.b false, .i (.ofNat 17)] s00) = true := by kernel_rfl
theorem ActLeaves_f12 : isT (callX kR 100 3 [.b false, .i (.ofNat 12)] s00) = true := by kernel_rfl
theorem ActLeaves_f11 : isT (callX kR 100 3 [.b false, .i (.ofNat 11)] s00) = true := by kernel_rfl
theorem ActLeaves_f6 : isT (callX kR 100 3 [.b false, .i (.ofNat 6)] s00) = true := by kernel_rfl
theorem ActLeaves_f5 : isT (callX kR 100 3 [.b false, .i (.ofNat 5)] s00) = true := by kernel_rfl
theorem ActLeaves_f0 : isT (callX kR 100 3 [.b false, .i (.ofNat 0)] s00) = true := by kernel_rfl
end Go.Kx
