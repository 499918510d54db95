/-
  'CycleWaits': each input's run gives true.
-/
import Derived.Test.YtkggojngcnkabaaGreatKxH
set_option linter.unusedVariables false
set_option linter.unusedSimpArgs false
namespace Go.Kx
theorem CycleWaits_0 : isT (callN kG 100 6 [.i (.ofNat 0)] s00) = true := by kernel_rfl
theorem CycleWaits_1 : isT (callN kG 100 6 [.i (.ofNat 1)] s00) = true := by kernel_rfl
theorem CycleWaits_2 : isT (callN kG 100 6 [.i (.ofNat 2)] s00) = true := by kernel_rfl
theorem CycleWaits_3 : isT (callN kG 100 6 [.i (.ofNat 3)] s00) = true := by kernel_rfl
theorem CycleWaits_4 : isT (callN kG 100 6 [.i (.ofNat 4)] s00) = true := by kernel_rfl
theorem CycleWaits_M (k : Nat) : isT (callN kG 100 6 [.i (.ofNat (k + 5))] s00) = true := by kernel_rfl
theorem CycleWaits_N (k : Nat) : isT (callN kG 100 6 [.i (.negSucc k)] s00) = true := by kernel_rfl
theorem CycleWaits_all : ∀ n : Int, isT (callN kG 100 6 [.i n] s00) = true
  | .ofNat 0 => CycleWaits_0
  | .ofNat 1 => CycleWaits_1
  | .ofNat 2 => CycleWaits_2
  | .ofNat 3 => CycleWaits_3
  | .ofNat 4 => CycleWaits_4
  | .ofNat (k + 5) => CycleWaits_M k
  | .negSucc k => CycleWaits_N k
end Go.Kx
