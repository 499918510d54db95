/-
  Closed facts on the program. Printed by a program of ours.
-/
import Derived.Test.YtkggojngcnkabaaGreatB10
import Derived.Test.YtkggojngcnkabaaGreatRows
set_option linter.unusedVariables false
set_option linter.unusedSimpArgs false
set_option maxRecDepth 100000
namespace Go.Kx
open Go.Proofs Go.ChangeShapes Go.WideShapes Go.ChangeAt Go.RowKit
theorem j_laid : laidOutB Tryz.prog = true := by kernel_rfl
theorem j_maps : mapsRowed Tryz.prog = true := by kernel_rfl
theorem j_plain : Tryz.prog.plainKeys = true := by kernel_rfl
theorem j_stops : Tryz.prog.stopsHeard = true := by kernel_rfl
theorem j_enter : Tryz.prog.mayEnter = true := by kernel_rfl
theorem j_lifts : Tryz.prog.liftsFinal = false := by kernel_rfl
end Go.Kx
