/-
  The function 'HeapFull': inputs, each run by the kernel.
-/
import Derived.Test.YtkggojngcnkabaaGreatKxQ
set_option linter.unusedVariables false
set_option linter.unusedSimpArgs false
namespace Go.Kx
theorem HeapFull_7 : isT (callX kR 100 10 [.i (.ofNat 7)] s00) = true := by kernel_rfl
theorem HeapFull_2 : isT (callX kR 100 10 [.i (.ofNat 2)] s00) = true := by kernel_rfl
end Go.Kx
