/-
  The function 'ActLeaves': each input's run gives true.
-/
import Derived.Test.YtkggojngcnkabaaGreatKxC103p1
import Derived.Test.YtkggojngcnkabaaGreatKxC103p2
import Derived.Test.YtkggojngcnkabaaGreatKxC103p3
import Derived.Test.YtkggojngcnkabaaGreatKxC103p4
import Derived.Test.YtkggojngcnkabaaGreatKxC103p5
import Derived.Test.YtkggojngcnkabaaGreatKxC103p6
set_option linter.unusedVariables false
set_option linter.unusedSimpArgs false
namespace Go.Kx
theorem ActLeaves_M (b : Bool) (k : Nat) : isT (callX kR 100 3 [.b b, .i (.ofNat (k + 21))] s00) = true := by kernel_rfl
theorem ActLeaves_N (b : Bool) (k : Nat) : isT (callX kR 100 3 [.b b, .i (.negSucc k)] s00) = true := by kernel_rfl
theorem ActLeaves_fast : ∀ (b : Bool) (n : Int), isT (callX kR 100 3 [.b b, .i n] s00) = true
  | true, .ofNat 0 => ActLeaves_t0
  | false, .ofNat 0 => ActLeaves_f0
  | true, .ofNat 1 => ActLeaves_t1
  | false, .ofNat 1 => ActLeaves_f1
  | true, .ofNat 2 => ActLeaves_t2
  | false, .ofNat 2 => ActLeaves_f2
  | true, .ofNat 3 => ActLeaves_t3
  | false, .ofNat 3 => ActLeaves_f3
  | true, .ofNat 4 => ActLeaves_t4
  | false, .ofNat 4 => ActLeaves_f4
  | true, .ofNat 5 => ActLeaves_t5
  | false, .ofNat 5 => ActLeaves_f5
  | true, .ofNat 6 => ActLeaves_t6
  | false, .ofNat 6 => ActLeaves_f6
  | true, .ofNat 7 => ActLeaves_t7
  | false, .ofNat 7 => ActLeaves_f7
  | true, .ofNat 8 => ActLeaves_t8
  | false, .ofNat 8 => ActLeaves_f8
  | true, .ofNat 9 => ActLeaves_t9
  | false, .ofNat 9 => ActLeaves_f9
  | true, .ofNat 10 => ActLeaves_t10
  | false, .ofNat 10 => ActLeaves_f10
  | true, .ofNat 11 => ActLeaves_t11
  | false, .ofNat 11 => ActLeaves_f11
  | true, .ofNat 12 => ActLeaves_t12
  | false, .ofNat 12 => ActLeaves_f12
  | true, .ofNat 13 => ActLeaves_t13
  | false, .ofNat 13 => ActLeaves_f13
  | true, .ofNat 14 => ActLeaves_t14
  | false, .ofNat 14 => ActLeaves_f14
  | true, .ofNat 15 => ActLeaves_t15
  | false, .ofNat 15 => ActLeaves_f15
  | true, .ofNat 16 => ActLeaves_t16
  | false, .ofNat 16 => ActLeaves_f16
  | true, .ofNat 17 => ActLeaves_t17
  | false, .ofNat 17 => ActLeaves_f17
  | true, .ofNat 18 => ActLeaves_t18
  | false, .ofNat 18 => ActLeaves_f18
  | true, .ofNat 19 => ActLeaves_t19
  | false, .ofNat 19 => ActLeaves_f19
  | true, .ofNat 20 => ActLeaves_t20
  | false, .ofNat 20 => ActLeaves_f20
  | b, .ofNat (k + 21) => ActLeaves_M b k
  | b, .negSucc k => ActLeaves_N b k
theorem ActLeaves_all (b : Bool) (n : Int) : isT (callN kG 100 3 [.b b, .i n] s00) = true := isT_ref kR_ok 100 3 _ _ (ActLeaves_fast b n)
end Go.Kx
