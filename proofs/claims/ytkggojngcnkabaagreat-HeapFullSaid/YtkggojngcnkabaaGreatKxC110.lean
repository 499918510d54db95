/-
  The function 'HeapFull': each input's run gives true.
-/
import Derived.Test.YtkggojngcnkabaaGreatKxC110p1
import Derived.Test.YtkggojngcnkabaaGreatKxC110p2
import Derived.Test.YtkggojngcnkabaaGreatKxC110p3
import Derived.Test.YtkggojngcnkabaaGreatKxC110p4
set_option linter.unusedVariables false
set_option linter.unusedSimpArgs false
namespace Go.Kx
theorem HeapFull_M (k : Nat) : isT (callX kR 100 10 [.i (.ofNat (k + 9))] s00) = true := by kernel_rfl
theorem HeapFull_N (k : Nat) : isT (callX kR 100 10 [.i (.negSucc k)] s00) = true := by kernel_rfl
theorem HeapFull_fast : ∀ n : Int, isT (callX kR 100 10 [.i n] s00) = true
  | .ofNat 0 => HeapFull_0
  | .ofNat 1 => HeapFull_1
  | .ofNat 2 => HeapFull_2
  | .ofNat 3 => HeapFull_3
  | .ofNat 4 => HeapFull_4
  | .ofNat 5 => HeapFull_5
  | .ofNat 6 => HeapFull_6
  | .ofNat 7 => HeapFull_7
  | .ofNat 8 => HeapFull_8
  | .ofNat (k + 9) => HeapFull_M k
  | .negSucc k => HeapFull_N k
theorem HeapFull_all (n : Int) : isT (callN kG 100 10 [.i n] s00) = true := isT_ref kR_ok 100 10 _ _ (HeapFull_fast n)
end Go.Kx
