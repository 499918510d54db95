/-
  The function 'ActLeaves': inputs, each run by the kernel.
-/
import Derived.Test.YtkggojngcnkabaaGreatKxQ
set_option linter.unusedVariables false
set_option linter.unusedSimpArgs false
namespace Go.Kx
theorem ActLeaves_f19 : isT (callX kR 100 3 [.b false, .i (.ofNat 19)] s00) = true := by kernel_rfl
theorem ActLeaves_f16 : isT (callX kR 100 3 [.b false, .i (.ofNat 16)] s00) = true := by kernel_rfl
theorem ActLeaves_f13 : isT (callX kR 100 3 [.b false, .i (.ofNat 13)] s00) = true := by kernel_rfl
theorem ActLeaves_f10 : isT (callX kR 100 3 [.b false, .i (.ofNat 10)] s00) = true := by kernel_rfl
theorem ActLeaves_f7 : isT (callX kR 100 3 [.b false, .i (.ofNat 7)] s00) = true := by kernel_rfl
theorem ActLeaves_f4 : isT (callX kR 100 3 [.b false, .i (.ofNat 4)] s00) = true := by kernel_rfl
theorem ActLeaves_f1 : isT (callX kR 100 3 [.b false, .i (.ofNat 1)] s00) = true := by kernel_rfl
end Go.Kx
