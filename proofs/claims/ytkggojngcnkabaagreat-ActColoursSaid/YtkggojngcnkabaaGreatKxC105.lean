/-
  'ActColours': each input's run gives true.
-/
import Derived.Test.YtkggojngcnkabaaGreatKxH
set_option linter.unusedVariables false
set_option linter.unusedSimpArgs false
namespace Go.Kx
theorem ActColours_0 : isT (callN kG 100 5 [.i (.ofNat 0)] s00) = true := by kernel_rfl
theorem ActColours_1 : isT (callN kG 100 5 [.i (.ofNat 1)] s00) = true := by kernel_rfl
theorem ActColours_2 : isT (callN kG 100 5 [.i (.ofNat 2)] s00) = true := by kernel_rfl
theorem ActColours_3 : isT (callN kG 100 5 [.i (.ofNat 3)] s00) = true := by kernel_rfl
theorem ActColours_4 : isT (callN kG 100 5 [.i (.ofNat 4)] s00) = true := by kernel_rfl
theorem ActColours_M (k : Nat) : isT (callN kG 100 5 [.i (.ofNat (k + 5))] s00) = true := by kernel_rfl
theorem ActColours_N (k : Nat) : isT (callN kG 100 5 [.i (.negSucc k)] s00) = true := by kernel_rfl
theorem ActColours_all : ∀ n : Int, isT (callN kG 100 5 [.i n] s00) = true
  | .ofNat 0 => ActColours_0
  | .ofNat 1 => ActColours_1
  | .ofNat 2 => ActColours_2
  | .ofNat 3 => ActColours_3
  | .ofNat 4 => ActColours_4
  | .ofNat (k + 5) => ActColours_M k
  | .negSucc k => ActColours_N k
end Go.Kx
