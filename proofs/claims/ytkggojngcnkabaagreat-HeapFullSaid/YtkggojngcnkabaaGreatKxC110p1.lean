/-
  The function 'HeapFull': inputs, each run by the kernel.
-/
import Derived.Test.YtkggojngcnkabaaGreatKxQ
set_option linter.unusedVariables false
set_option linter.unusedSimpArgs false
namespace Go.Kx
theorem HeapFull_8 : isT (callX kR 100 10 [.i (.ofNat 8)] s00) = true := by kernel_rfl
theorem HeapFull_1 : isT (callX kR 100 10 [.i (.ofNat 1)] s00) = true := by kernel_rfl
theorem HeapFull_0 : isT (callX kR 100 10 [.i (.ofNat 0)] s00) = true := by kernel_rfl
end Go.Kx
