/-
  'ActBarrier': each input's run gives true.
-/
import Derived.Test.YtkggojngcnkabaaGreatKxH
set_option linter.unusedVariables false
set_option linter.unusedSimpArgs false
namespace Go.Kx
theorem ActBarrier_0 : isT (callN kG 100 4 [.i (.ofNat 0)] s00) = true := by kernel_rfl
theorem ActBarrier_1 : isT (callN kG 100 4 [.i (.ofNat 1)] s00) = true := by kernel_rfl
theorem ActBarrier_2 : isT (callN kG 100 4 [.i (.ofNat 2)] s00) = true := by kernel_rfl
theorem ActBarrier_3 : isT (callN kG 100 4 [.i (.ofNat 3)] s00) = true := by kernel_rfl
theorem ActBarrier_4 : isT (callN kG 100 4 [.i (.ofNat 4)] s00) = true := by kernel_rfl
theorem ActBarrier_M (k : Nat) : isT (callN kG 100 4 [.i (.ofNat (k + 5))] s00) = true := by kernel_rfl
theorem ActBarrier_N (k : Nat) : isT (callN kG 100 4 [.i (.negSucc k)] s00) = true := by kernel_rfl
theorem ActBarrier_all : ∀ n : Int, isT (callN kG 100 4 [.i n] s00) = true
  | .ofNat 0 => ActBarrier_0
  | .ofNat 1 => ActBarrier_1
  | .ofNat 2 => ActBarrier_2
  | .ofNat 3 => ActBarrier_3
  | .ofNat 4 => ActBarrier_4
  | .ofNat (k + 5) => ActBarrier_M k
  | .negSucc k => ActBarrier_N k
end Go.Kx
