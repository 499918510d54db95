/-
  Facts on the types that the program uses. Printed by a program of ours.
-/
import Derived.Test.YtkggojngcnkabaaGreatB10
import Derived.Test.YtkggojngcnkabaaGreatRows
set_option linter.unusedVariables false
set_option linter.unusedSimpArgs false
set_option maxRecDepth 100000
namespace Go.Kx
open Go.Proofs
def ti3 : TI := ⟨1, 8, false, [.i (.ofNat 0)], (.int .i64)⟩
theorem tok3 : TIok Tryz.prog 3 ti3 := TIok.of1 (v := .int .i64 0) (by kernel_rfl) (by kernel_rfl) (by kernel_rfl) (by kernel_rfl) (by kernel_rfl) (by kernel_rfl) (show Tryz.prog.underlying 3 = some (TypeDesc.int (IntKind.i64)) by kernel_rfl)
def ti4 : TI := ⟨1, 1, false, [.b false], .bool⟩
theorem tok4 : TIok Tryz.prog 4 ti4 := TIok.of1 (v := .bool false) (by kernel_rfl) (by kernel_rfl) (by kernel_rfl) (by kernel_rfl) (by kernel_rfl) (by kernel_rfl) (show Tryz.prog.underlying 4 = some (TypeDesc.bool) by kernel_rfl)
def ti9 : TI := ⟨1, 16, false, [.s []], .str⟩
theorem tok9 : TIok Tryz.prog 9 ti9 := TIok.of1 (v := .string ⟨#[]⟩) (by kernel_rfl) (by kernel_rfl) (by kernel_rfl) (by kernel_rfl) (by kernel_rfl) (by kernel_rfl) (show Tryz.prog.underlying 9 = some (TypeDesc.string) by kernel_rfl)
def ti21 : TI := ⟨1, 4, false, [.k .i32 (.ofNat 0)], (.int .i32)⟩
theorem tok21 : TIok Tryz.prog 21 ti21 := TIok.of1 (v := .int .i32 0) (by kernel_rfl) (by kernel_rfl) (by kernel_rfl) (by kernel_rfl) (by kernel_rfl) (by kernel_rfl) (show Tryz.prog.underlying 21 = some (TypeDesc.int (IntKind.i32)) by kernel_rfl)
def ti23 : TI := ⟨1, 24, false, [.ns], (.slc 26)⟩
theorem tok23 : TIok Tryz.prog 23 ti23 := TIok.of1 (v := .slice none 0 0) (by kernel_rfl) (by kernel_rfl) (by kernel_rfl) (by kernel_rfl) (by kernel_rfl) (by kernel_rfl) (show Tryz.prog.underlying 23 = some (TypeDesc.slice 26) by kernel_rfl)
def ti24 : TI := ⟨1, 16, false, [.z 0 0], .oth⟩
theorem tok24 : TIok Tryz.prog 24 ti24 := TIok.of1 (v := .complex .f64 0 0) (by kernel_rfl) (by kernel_rfl) (by kernel_rfl) (by kernel_rfl) (by kernel_rfl) (by kernel_rfl) (trivial)
def ti26 : TI := ⟨6, 56, true, [.i (.ofNat 0), .i (.ofNat 0), .i (.ofNat 0), .i (.ofNat 0), .i (.ofNat 0), .z 0 0], (.st [(0, 3), (1, 3), (2, 3), (3, 3), (4, 3), (5, 24)] [(0, 1), (1, 1), (2, 1), (3, 1), (4, 1), (5, 1)])⟩
theorem tok26 : TIok Tryz.prog 26 ti26 := TIok.ofN (us := [.int .i64 0, .int .i64 0, .int .i64 0, .int .i64 0, .int .i64 0, .complex .f64 0 0]) (by kernel_rfl) (by kernel_rfl) (by kernel_rfl) (by kernel_rfl) (by kernel_rfl) (by kernel_rfl) (stOk (by kernel_rfl) (by kernel_rfl))
def ti27 : TI := ⟨1, 8, false, [.np], .ptr⟩
theorem tok27 : TIok Tryz.prog 27 ti27 := TIok.of1 (v := .pointer none) (by kernel_rfl) (by kernel_rfl) (by kernel_rfl) (by kernel_rfl) (by kernel_rfl) (by kernel_rfl) (⟨52, by kernel_rfl⟩)
def ti28 : TI := ⟨1, 8, false, [.np], .ptr⟩
theorem tok28 : TIok Tryz.prog 28 ti28 := TIok.of1 (v := .pointer none) (by kernel_rfl) (by kernel_rfl) (by kernel_rfl) (by kernel_rfl) (by kernel_rfl) (by kernel_rfl) (⟨133, by kernel_rfl⟩)
def ti32 : TI := ⟨1, 8, false, [.i (.ofNat 0)], (.int .i64)⟩
theorem tok32 : TIok Tryz.prog 32 ti32 := TIok.of1 (v := .int .i64 0) (by kernel_rfl) (by kernel_rfl) (by kernel_rfl) (by kernel_rfl) (by kernel_rfl) (by kernel_rfl) (show Tryz.prog.underlying 32 = some (TypeDesc.int (IntKind.i64)) by kernel_rfl)
def ti34 : TI := ⟨2, 24, true, [.b false, .z 0 0], (.st [(0, 4), (1, 24)] [(0, 1), (1, 1)])⟩
theorem tok34 : TIok Tryz.prog 34 ti34 := TIok.ofN (us := [.bool false, .complex .f64 0 0]) (by kernel_rfl) (by kernel_rfl) (by kernel_rfl) (by kernel_rfl) (by kernel_rfl) (by kernel_rfl) (stOk (by kernel_rfl) (by kernel_rfl))
def ti36 : TI := ⟨5, 48, true, [.i (.ofNat 0), .i (.ofNat 0), .i (.ofNat 0), .b false, .z 0 0], (.st [(0, 3), (1, 3), (2, 32), (3, 34)] [(0, 1), (1, 1), (2, 1), (3, 2)])⟩
theorem tok36 : TIok Tryz.prog 36 ti36 := TIok.ofN (us := [.int .i64 0, .int .i64 0, .int .i64 0, .bool false, .complex .f64 0 0]) (by kernel_rfl) (by kernel_rfl) (by kernel_rfl) (by kernel_rfl) (by kernel_rfl) (by kernel_rfl) (stOk (by kernel_rfl) (by kernel_rfl))
def ti39 : TI := ⟨1, 24, false, [.ns], (.slc 34)⟩
theorem tok39 : TIok Tryz.prog 39 ti39 := TIok.of1 (v := .slice none 0 0) (by kernel_rfl) (by kernel_rfl) (by kernel_rfl) (by kernel_rfl) (by kernel_rfl) (by kernel_rfl) (show Tryz.prog.underlying 39 = some (TypeDesc.slice 34) by kernel_rfl)
def ti43 : TI := ⟨1, 8, false, [.np], .ptr⟩
theorem tok43 : TIok Tryz.prog 43 ti43 := TIok.of1 (v := .pointer none) (by kernel_rfl) (by kernel_rfl) (by kernel_rfl) (by kernel_rfl) (by kernel_rfl) (by kernel_rfl) (⟨143, by kernel_rfl⟩)
def ti44 : TI := ⟨1, 24, false, [.ns], (.slc 104)⟩
theorem tok44 : TIok Tryz.prog 44 ti44 := TIok.of1 (v := .slice none 0 0) (by kernel_rfl) (by kernel_rfl) (by kernel_rfl) (by kernel_rfl) (by kernel_rfl) (by kernel_rfl) (show Tryz.prog.underlying 44 = some (TypeDesc.slice 104) by kernel_rfl)
def ti46 : TI := ⟨9, 88, true, [.i (.ofNat 0), .i (.ofNat 0), .i (.ofNat 0), .i (.ofNat 0), .i (.ofNat 0), .i (.ofNat 0), .i (.ofNat 0), .i (.ofNat 0), .ns], (.st [(0, 3), (1, 3), (2, 3), (3, 3), (4, 3), (5, 3), (6, 3), (7, 3), (8, 44)] [(0, 1), (1, 1), (2, 1), (3, 1), (4, 1), (5, 1), (6, 1), (7, 1), (8, 1)])⟩
theorem tok46 : TIok Tryz.prog 46 ti46 := TIok.ofN (us := [.int .i64 0, .int .i64 0, .int .i64 0, .int .i64 0, .int .i64 0, .int .i64 0, .int .i64 0, .int .i64 0, .slice none 0 0]) (by kernel_rfl) (by kernel_rfl) (by kernel_rfl) (by kernel_rfl) (by kernel_rfl) (by kernel_rfl) (stOk (by kernel_rfl) (by kernel_rfl))
def ti47 : TI := ⟨1, 8, false, [.np], .ptr⟩
theorem tok47 : TIok Tryz.prog 47 ti47 := TIok.of1 (v := .pointer none) (by kernel_rfl) (by kernel_rfl) (by kernel_rfl) (by kernel_rfl) (by kernel_rfl) (by kernel_rfl) (⟨233, by kernel_rfl⟩)
def ti48 : TI := ⟨1, 8, false, [.np], .ptr⟩
theorem tok48 : TIok Tryz.prog 48 ti48 := TIok.of1 (v := .pointer none) (by kernel_rfl) (by kernel_rfl) (by kernel_rfl) (by kernel_rfl) (by kernel_rfl) (by kernel_rfl) (⟨58, by kernel_rfl⟩)
def ti49 : TI := ⟨1, 8, false, [.np], .ptr⟩
theorem tok49 : TIok Tryz.prog 49 ti49 := TIok.of1 (v := .pointer none) (by kernel_rfl) (by kernel_rfl) (by kernel_rfl) (by kernel_rfl) (by kernel_rfl) (by kernel_rfl) (⟨84, by kernel_rfl⟩)
def ti50 : TI := ⟨1, 8, false, [.np], .ptr⟩
theorem tok50 : TIok Tryz.prog 50 ti50 := TIok.of1 (v := .pointer none) (by kernel_rfl) (by kernel_rfl) (by kernel_rfl) (by kernel_rfl) (by kernel_rfl) (by kernel_rfl) (⟨145, by kernel_rfl⟩)
def ti52 : TI := ⟨13, 120, true, [.i (.ofNat 0), .i (.ofNat 0), .i (.ofNat 0), .i (.ofNat 0), .i (.ofNat 0), .i (.ofNat 0), .i (.ofNat 0), .i (.ofNat 0), .ns, .np, .np, .np, .np], (.st [(0, 46), (9, 47), (10, 48), (11, 49), (12, 50)] [(0, 9), (9, 1), (10, 1), (11, 1), (12, 1)])⟩
theorem tok52 : TIok Tryz.prog 52 ti52 := TIok.ofN (us := [.int .i64 0, .int .i64 0, .int .i64 0, .int .i64 0, .int .i64 0, .int .i64 0, .int .i64 0, .int .i64 0, .slice none 0 0, .pointer none, .pointer none, .pointer none, .pointer none]) (by kernel_rfl) (by kernel_rfl) (by kernel_rfl) (by kernel_rfl) (by kernel_rfl) (by kernel_rfl) (stOk (by kernel_rfl) (by kernel_rfl))
def ti55 : TI := ⟨1, 8, true, [.np], (.st [(0, 43)] [(0, 1)])⟩
theorem tok55 : TIok Tryz.prog 55 ti55 := TIok.ofN (us := [.pointer none]) (by kernel_rfl) (by kernel_rfl) (by kernel_rfl) (by kernel_rfl) (by kernel_rfl) (by kernel_rfl) (stOk (by kernel_rfl) (by kernel_rfl))
def ti56 : TI := ⟨1, 8, false, [.np], .ptr⟩
theorem tok56 : TIok Tryz.prog 56 ti56 := TIok.of1 (v := .pointer none) (by kernel_rfl) (by kernel_rfl) (by kernel_rfl) (by kernel_rfl) (by kernel_rfl) (by kernel_rfl) (⟨315, by kernel_rfl⟩)
def ti58 : TI := ⟨3, 24, true, [.np, .np, .i (.ofNat 0)], (.st [(0, 55), (1, 56), (2, 3)] [(0, 1), (1, 1), (2, 1)])⟩
theorem tok58 : TIok Tryz.prog 58 ti58 := TIok.ofN (us := [.pointer none, .pointer none, .int .i64 0]) (by kernel_rfl) (by kernel_rfl) (by kernel_rfl) (by kernel_rfl) (by kernel_rfl) (by kernel_rfl) (stOk (by kernel_rfl) (by kernel_rfl))
def ti62 : TI := ⟨1, 24, false, [.ns], (.slc 3)⟩
theorem tok62 : TIok Tryz.prog 62 ti62 := TIok.of1 (v := .slice none 0 0) (by kernel_rfl) (by kernel_rfl) (by kernel_rfl) (by kernel_rfl) (by kernel_rfl) (by kernel_rfl) (show Tryz.prog.underlying 62 = some (TypeDesc.slice 3) by kernel_rfl)
def ti69 : TI := ⟨1, 8, false, [.np], .ptr⟩
theorem tok69 : TIok Tryz.prog 69 ti69 := TIok.of1 (v := .pointer none) (by kernel_rfl) (by kernel_rfl) (by kernel_rfl) (by kernel_rfl) (by kernel_rfl) (by kernel_rfl) (⟨152, by kernel_rfl⟩)
def ti77 : TI := ⟨1, 24, false, [.ns], (.slc 245)⟩
theorem tok77 : TIok Tryz.prog 77 ti77 := TIok.of1 (v := .slice none 0 0) (by kernel_rfl) (by kernel_rfl) (by kernel_rfl) (by kernel_rfl) (by kernel_rfl) (by kernel_rfl) (show Tryz.prog.underlying 77 = some (TypeDesc.slice 245) by kernel_rfl)
def ti78 : TI := ⟨1, 8, false, [.np], .ptr⟩
theorem tok78 : TIok Tryz.prog 78 ti78 := TIok.of1 (v := .pointer none) (by kernel_rfl) (by kernel_rfl) (by kernel_rfl) (by kernel_rfl) (by kernel_rfl) (by kernel_rfl) (⟨216, by kernel_rfl⟩)
def ti79 : TI := ⟨1, 8, false, [.np], .ptr⟩
theorem tok79 : TIok Tryz.prog 79 ti79 := TIok.of1 (v := .pointer none) (by kernel_rfl) (by kernel_rfl) (by kernel_rfl) (by kernel_rfl) (by kernel_rfl) (by kernel_rfl) (⟨277, by kernel_rfl⟩)
def ti80 : TI := ⟨1, 8, false, [.np], .ptr⟩
theorem tok80 : TIok Tryz.prog 80 ti80 := TIok.of1 (v := .pointer none) (by kernel_rfl) (by kernel_rfl) (by kernel_rfl) (by kernel_rfl) (by kernel_rfl) (by kernel_rfl) (⟨287, by kernel_rfl⟩)
def ti82 : TI := ⟨12, 112, true, [.i (.ofNat 0), .i (.ofNat 0), .i (.ofNat 0), .i (.ofNat 0), .i (.ofNat 0), .i (.ofNat 0), .i (.ofNat 0), .i (.ofNat 0), .ns, .np, .np, .np], (.st [(0, 46), (9, 78), (10, 79), (11, 80)] [(0, 9), (9, 1), (10, 1), (11, 1)])⟩
theorem tok82 : TIok Tryz.prog 82 ti82 := TIok.ofN (us := [.int .i64 0, .int .i64 0, .int .i64 0, .int .i64 0, .int .i64 0, .int .i64 0, .int .i64 0, .int .i64 0, .slice none 0 0, .pointer none, .pointer none, .pointer none]) (by kernel_rfl) (by kernel_rfl) (by kernel_rfl) (by kernel_rfl) (by kernel_rfl) (by kernel_rfl) (stOk (by kernel_rfl) (by kernel_rfl))
def ti84 : TI := ⟨16, 160, true, [.np, .ns, .b false, .i (.ofNat 0), .i (.ofNat 0), .i (.ofNat 0), .i (.ofNat 0), .i (.ofNat 0), .i (.ofNat 0), .i (.ofNat 0), .i (.ofNat 0), .i (.ofNat 0), .ns, .np, .np, .np], (.st [(0, 43), (1, 77), (2, 4), (3, 3), (4, 82)] [(0, 1), (1, 1), (2, 1), (3, 1), (4, 12)])⟩
theorem tok84 : TIok Tryz.prog 84 ti84 := TIok.ofN (us := [.pointer none, .slice none 0 0, .bool false, .int .i64 0, .int .i64 0, .int .i64 0, .int .i64 0, .int .i64 0, .int .i64 0, .int .i64 0, .int .i64 0, .int .i64 0, .slice none 0 0, .pointer none, .pointer none, .pointer none]) (by kernel_rfl) (by kernel_rfl) (by kernel_rfl) (by kernel_rfl) (by kernel_rfl) (by kernel_rfl) (stOk (by kernel_rfl) (by kernel_rfl))
def ti86 : TI := ⟨1, 24, false, [.ns], (.slc 4)⟩
theorem tok86 : TIok Tryz.prog 86 ti86 := TIok.of1 (v := .slice none 0 0) (by kernel_rfl) (by kernel_rfl) (by kernel_rfl) (by kernel_rfl) (by kernel_rfl) (by kernel_rfl) (show Tryz.prog.underlying 86 = some (TypeDesc.slice 4) by kernel_rfl)
def ti88 : TI := ⟨1, 8, false, [.np], .ptr⟩
theorem tok88 : TIok Tryz.prog 88 ti88 := TIok.of1 (v := .pointer none) (by kernel_rfl) (by kernel_rfl) (by kernel_rfl) (by kernel_rfl) (by kernel_rfl) (by kernel_rfl) (⟨100, by kernel_rfl⟩)
def ti92 : TI := ⟨7, 64, true, [.i (.ofNat 0), .b false, .i (.ofNat 0), .i (.ofNat 0), .i (.ofNat 0), .b false, .z 0 0], (.st [(0, 3), (1, 4), (2, 36)] [(0, 1), (1, 1), (2, 5)])⟩
theorem tok92 : TIok Tryz.prog 92 ti92 := TIok.ofN (us := [.int .i64 0, .bool false, .int .i64 0, .int .i64 0, .int .i64 0, .bool false, .complex .f64 0 0]) (by kernel_rfl) (by kernel_rfl) (by kernel_rfl) (by kernel_rfl) (by kernel_rfl) (by kernel_rfl) (stOk (by kernel_rfl) (by kernel_rfl))
def ti97 : TI := ⟨1, 8, true, [.np], (.st [(0, 69)] [(0, 1)])⟩
theorem tok97 : TIok Tryz.prog 97 ti97 := TIok.ofN (us := [.pointer none]) (by kernel_rfl) (by kernel_rfl) (by kernel_rfl) (by kernel_rfl) (by kernel_rfl) (by kernel_rfl) (stOk (by kernel_rfl) (by kernel_rfl))
def ti98 : TI := ⟨1, 24, false, [.ns], (.slc 28)⟩
theorem tok98 : TIok Tryz.prog 98 ti98 := TIok.of1 (v := .slice none 0 0) (by kernel_rfl) (by kernel_rfl) (by kernel_rfl) (by kernel_rfl) (by kernel_rfl) (by kernel_rfl) (show Tryz.prog.underlying 98 = some (TypeDesc.slice 28) by kernel_rfl)
def ti100 : TI := ⟨4, 48, true, [.np, .np, .ns, .i (.ofNat 0)], (.st [(0, 27), (1, 97), (2, 98), (3, 3)] [(0, 1), (1, 1), (2, 1), (3, 1)])⟩
theorem tok100 : TIok Tryz.prog 100 ti100 := TIok.ofN (us := [.pointer none, .pointer none, .slice none 0 0, .int .i64 0]) (by kernel_rfl) (by kernel_rfl) (by kernel_rfl) (by kernel_rfl) (by kernel_rfl) (by kernel_rfl) (stOk (by kernel_rfl) (by kernel_rfl))
def ti104 : TI := ⟨2, 32, true, [.b false, .ns], (.st [(0, 4), (1, 86)] [(0, 1), (1, 1)])⟩
theorem tok104 : TIok Tryz.prog 104 ti104 := TIok.ofN (us := [.bool false, .slice none 0 0]) (by kernel_rfl) (by kernel_rfl) (by kernel_rfl) (by kernel_rfl) (by kernel_rfl) (by kernel_rfl) (stOk (by kernel_rfl) (by kernel_rfl))
def ti117 : TI := ⟨1, 24, false, [.ns], (.slc 23)⟩
theorem tok117 : TIok Tryz.prog 117 ti117 := TIok.of1 (v := .slice none 0 0) (by kernel_rfl) (by kernel_rfl) (by kernel_rfl) (by kernel_rfl) (by kernel_rfl) (by kernel_rfl) (show Tryz.prog.underlying 117 = some (TypeDesc.slice 23) by kernel_rfl)
def ti128 : TI := ⟨1, 8, false, [.np], .ptr⟩
theorem tok128 : TIok Tryz.prog 128 ti128 := TIok.of1 (v := .pointer none) (by kernel_rfl) (by kernel_rfl) (by kernel_rfl) (by kernel_rfl) (by kernel_rfl) (by kernel_rfl) (⟨333, by kernel_rfl⟩)
def ti129 : TI := ⟨1, 24, false, [.ns], (.slc 262)⟩
theorem tok129 : TIok Tryz.prog 129 ti129 := TIok.of1 (v := .slice none 0 0) (by kernel_rfl) (by kernel_rfl) (by kernel_rfl) (by kernel_rfl) (by kernel_rfl) (by kernel_rfl) (show Tryz.prog.underlying 129 = some (TypeDesc.slice 262) by kernel_rfl)
def ti131 : TI := ⟨9, 120, true, [.i (.ofNat 0), .i (.ofNat 0), .np, .i (.ofNat 0), .b false, .z 0 0, .z 0 0, .ns, .ns], (.st [(0, 3), (1, 3), (2, 128), (3, 3), (4, 4), (5, 24), (6, 24), (7, 62), (8, 129)] [(0, 1), (1, 1), (2, 1), (3, 1), (4, 1), (5, 1), (6, 1), (7, 1), (8, 1)])⟩
theorem tok131 : TIok Tryz.prog 131 ti131 := TIok.ofN (us := [.int .i64 0, .int .i64 0, .pointer none, .int .i64 0, .bool false, .complex .f64 0 0, .complex .f64 0 0, .slice none 0 0, .slice none 0 0]) (by kernel_rfl) (by kernel_rfl) (by kernel_rfl) (by kernel_rfl) (by kernel_rfl) (by kernel_rfl) (stOk (by kernel_rfl) (by kernel_rfl))
def ti133 : TI := ⟨19, 248, true, [.i (.ofNat 0), .ns, .ns, .i (.ofNat 0), .i (.ofNat 0), .b false, .i (.ofNat 0), .i (.ofNat 0), .i (.ofNat 0), .ns, .i (.ofNat 0), .i (.ofNat 0), .np, .i (.ofNat 0), .b false, .z 0 0, .z 0 0, .ns, .ns], (.st [(0, 3), (1, 23), (2, 39), (3, 3), (4, 3), (5, 4), (6, 3), (7, 3), (8, 3), (9, 62), (10, 131)] [(0, 1), (1, 1), (2, 1), (3, 1), (4, 1), (5, 1), (6, 1), (7, 1), (8, 1), (9, 1), (10, 9)])⟩
theorem tok133 : TIok Tryz.prog 133 ti133 := TIok.ofN (us := [.int .i64 0, .slice none 0 0, .slice none 0 0, .int .i64 0, .int .i64 0, .bool false, .int .i64 0, .int .i64 0, .int .i64 0, .slice none 0 0, .int .i64 0, .int .i64 0, .pointer none, .int .i64 0, .bool false, .complex .f64 0 0, .complex .f64 0 0, .slice none 0 0, .slice none 0 0]) (by kernel_rfl) (by kernel_rfl) (by kernel_rfl) (by kernel_rfl) (by kernel_rfl) (by kernel_rfl) (stOk (by kernel_rfl) (by kernel_rfl))
def ti137 : TI := ⟨1, 8, false, [.k .u64 (.ofNat 0)], (.int .u64)⟩
theorem tok137 : TIok Tryz.prog 137 ti137 := TIok.of1 (v := .int .u64 0) (by kernel_rfl) (by kernel_rfl) (by kernel_rfl) (by kernel_rfl) (by kernel_rfl) (by kernel_rfl) (show Tryz.prog.underlying 137 = some (TypeDesc.int (IntKind.u64)) by kernel_rfl)
def ti139 : TI := ⟨1, 8, false, [.f 0], .flt⟩
theorem tok139 : TIok Tryz.prog 139 ti139 := TIok.of1 (v := .float .f64 0) (by kernel_rfl) (by kernel_rfl) (by kernel_rfl) (by kernel_rfl) (by kernel_rfl) (by kernel_rfl) (show Tryz.prog.underlying 139 = some (TypeDesc.float (FloatKind.f64)) by kernel_rfl)
def ti140 : TI := ⟨1, 24, false, [.ns], (.slc 147)⟩
theorem tok140 : TIok Tryz.prog 140 ti140 := TIok.of1 (v := .slice none 0 0) (by kernel_rfl) (by kernel_rfl) (by kernel_rfl) (by kernel_rfl) (by kernel_rfl) (by kernel_rfl) (show Tryz.prog.underlying 140 = some (TypeDesc.slice 147) by kernel_rfl)
def ti141 : TI := ⟨3, 24, true, [.i (.ofNat 0), .i (.ofNat 0), .i (.ofNat 0)], (.arr 3 3)⟩
theorem tok141 : TIok Tryz.prog 141 ti141 := TIok.ofN (us := [.int .i64 0, .int .i64 0, .int .i64 0]) (by kernel_rfl) (by kernel_rfl) (by kernel_rfl) (by kernel_rfl) (by kernel_rfl) (by kernel_rfl) (show Tryz.prog.underlying 141 = some (TypeDesc.array 3 3) by kernel_rfl)
def ti143 : TI := ⟨4, 48, true, [.ns, .i (.ofNat 0), .i (.ofNat 0), .i (.ofNat 0)], (.st [(0, 140), (1, 141)] [(0, 1), (1, 3)])⟩
theorem tok143 : TIok Tryz.prog 143 ti143 := TIok.ofN (us := [.slice none 0 0, .int .i64 0, .int .i64 0, .int .i64 0]) (by kernel_rfl) (by kernel_rfl) (by kernel_rfl) (by kernel_rfl) (by kernel_rfl) (by kernel_rfl) (stOk (by kernel_rfl) (by kernel_rfl))
def ti145 : TI := ⟨4, 48, true, [.i (.ofNat 0), .b false, .ns, .i (.ofNat 0)], (.st [(0, 3), (1, 4), (2, 62), (3, 3)] [(0, 1), (1, 1), (2, 1), (3, 1)])⟩
theorem tok145 : TIok Tryz.prog 145 ti145 := TIok.ofN (us := [.int .i64 0, .bool false, .slice none 0 0, .int .i64 0]) (by kernel_rfl) (by kernel_rfl) (by kernel_rfl) (by kernel_rfl) (by kernel_rfl) (by kernel_rfl) (stOk (by kernel_rfl) (by kernel_rfl))
def ti147 : TI := ⟨3, 16, true, [.i (.ofNat 0), .b false, .b false], (.st [(0, 3), (1, 4), (2, 4)] [(0, 1), (1, 1), (2, 1)])⟩
theorem tok147 : TIok Tryz.prog 147 ti147 := TIok.ofN (us := [.int .i64 0, .bool false, .bool false]) (by kernel_rfl) (by kernel_rfl) (by kernel_rfl) (by kernel_rfl) (by kernel_rfl) (by kernel_rfl) (stOk (by kernel_rfl) (by kernel_rfl))
def ti149 : TI := ⟨1, 8, false, [.np], .ptr⟩
theorem tok149 : TIok Tryz.prog 149 ti149 := TIok.of1 (v := .pointer none) (by kernel_rfl) (by kernel_rfl) (by kernel_rfl) (by kernel_rfl) (by kernel_rfl) (by kernel_rfl) (⟨273, by kernel_rfl⟩)
def ti150 : TI := ⟨1, 8, false, [.np], .ptr⟩
theorem tok150 : TIok Tryz.prog 150 ti150 := TIok.of1 (v := .pointer none) (by kernel_rfl) (by kernel_rfl) (by kernel_rfl) (by kernel_rfl) (by kernel_rfl) (by kernel_rfl) (⟨279, by kernel_rfl⟩)
def ti152 : TI := ⟨14, 112, true, [.i (.ofNat 0), .i (.ofNat 0), .i (.ofNat 0), .i (.ofNat 0), .b false, .np, .np, .b false, .i (.ofNat 0), .i (.ofNat 0), .i (.ofNat 0), .i (.ofNat 0), .i (.ofNat 0), .i (.ofNat 0)], (.st [(0, 3), (1, 3), (2, 3), (3, 3), (4, 4), (5, 149), (6, 150), (7, 4), (8, 3), (9, 3), (10, 3), (11, 3), (12, 3), (13, 32)] [(0, 1), (1, 1), (2, 1), (3, 1), (4, 1), (5, 1), (6, 1), (7, 1), (8, 1), (9, 1), (10, 1), (11, 1), (12, 1), (13, 1)])⟩
theorem tok152 : TIok Tryz.prog 152 ti152 := TIok.ofN (us := [.int .i64 0, .int .i64 0, .int .i64 0, .int .i64 0, .bool false, .pointer none, .pointer none, .bool false, .int .i64 0, .int .i64 0, .int .i64 0, .int .i64 0, .int .i64 0, .int .i64 0]) (by kernel_rfl) (by kernel_rfl) (by kernel_rfl) (by kernel_rfl) (by kernel_rfl) (by kernel_rfl) (stOk (by kernel_rfl) (by kernel_rfl))
def ti163 : TI := ⟨1, 8, false, [.nm], (.mp 3 4)⟩
theorem tok163 : TIok Tryz.prog 163 ti163 := TIok.of1 (v := .map none) (by kernel_rfl) (by kernel_rfl) (by kernel_rfl) (by kernel_rfl) (by kernel_rfl) (by kernel_rfl) (show Tryz.prog.underlying 163 = some (TypeDesc.map 3 4) by kernel_rfl)
def ti179 : TI := ⟨1, 24, false, [.ns], (.slc 24)⟩
theorem tok179 : TIok Tryz.prog 179 ti179 := TIok.of1 (v := .slice none 0 0) (by kernel_rfl) (by kernel_rfl) (by kernel_rfl) (by kernel_rfl) (by kernel_rfl) (by kernel_rfl) (show Tryz.prog.underlying 179 = some (TypeDesc.slice 24) by kernel_rfl)
def ti203 : TI := ⟨3, 40, true, [.i (.ofNat 0), .ns, .i (.ofNat 0)], (.st [(0, 3), (1, 62), (2, 3)] [(0, 1), (1, 1), (2, 1)])⟩
theorem tok203 : TIok Tryz.prog 203 ti203 := TIok.ofN (us := [.int .i64 0, .slice none 0 0, .int .i64 0]) (by kernel_rfl) (by kernel_rfl) (by kernel_rfl) (by kernel_rfl) (by kernel_rfl) (by kernel_rfl) (stOk (by kernel_rfl) (by kernel_rfl))
def ti216 : TI := ⟨2, 32, true, [.ns, .i (.ofNat 0)], (.st [(0, 86), (1, 3)] [(0, 1), (1, 1)])⟩
theorem tok216 : TIok Tryz.prog 216 ti216 := TIok.ofN (us := [.slice none 0 0, .int .i64 0]) (by kernel_rfl) (by kernel_rfl) (by kernel_rfl) (by kernel_rfl) (by kernel_rfl) (by kernel_rfl) (stOk (by kernel_rfl) (by kernel_rfl))
def ti233 : TI := ⟨2, 32, true, [.ns, .i (.ofNat 0)], (.st [(0, 179), (1, 3)] [(0, 1), (1, 1)])⟩
theorem tok233 : TIok Tryz.prog 233 ti233 := TIok.ofN (us := [.slice none 0 0, .int .i64 0]) (by kernel_rfl) (by kernel_rfl) (by kernel_rfl) (by kernel_rfl) (by kernel_rfl) (by kernel_rfl) (stOk (by kernel_rfl) (by kernel_rfl))
def ti234 : TI := ⟨4, 32, true, [.i (.ofNat 0), .i (.ofNat 0), .i (.ofNat 0), .i (.ofNat 0)], (.arr 4 3)⟩
theorem tok234 : TIok Tryz.prog 234 ti234 := TIok.ofN (us := [.int .i64 0, .int .i64 0, .int .i64 0, .int .i64 0]) (by kernel_rfl) (by kernel_rfl) (by kernel_rfl) (by kernel_rfl) (by kernel_rfl) (by kernel_rfl) (show Tryz.prog.underlying 234 = some (TypeDesc.array 4 3) by kernel_rfl)
def ti245 : TI := ⟨1, 8, false, [.np], .ptr⟩
theorem tok245 : TIok Tryz.prog 245 ti245 := TIok.of1 (v := .pointer none) (by kernel_rfl) (by kernel_rfl) (by kernel_rfl) (by kernel_rfl) (by kernel_rfl) (by kernel_rfl) (⟨317, by kernel_rfl⟩)
def ti262 : TI := ⟨2, 24, true, [.i (.ofNat 0), .z 0 0], (.st [(0, 3), (1, 24)] [(0, 1), (1, 1)])⟩
theorem tok262 : TIok Tryz.prog 262 ti262 := TIok.ofN (us := [.int .i64 0, .complex .f64 0 0]) (by kernel_rfl) (by kernel_rfl) (by kernel_rfl) (by kernel_rfl) (by kernel_rfl) (by kernel_rfl) (stOk (by kernel_rfl) (by kernel_rfl))
def ti266 : TI := ⟨7, 72, true, [.i (.ofNat 0), .i (.ofNat 0), .i (.ofNat 0), .i (.ofNat 0), .i (.ofNat 0), .i (.ofNat 0), .ns], (.st [(0, 3), (1, 3), (2, 3), (3, 3), (4, 3), (5, 3), (6, 62)] [(0, 1), (1, 1), (2, 1), (3, 1), (4, 1), (5, 1), (6, 1)])⟩
theorem tok266 : TIok Tryz.prog 266 ti266 := TIok.ofN (us := [.int .i64 0, .int .i64 0, .int .i64 0, .int .i64 0, .int .i64 0, .int .i64 0, .slice none 0 0]) (by kernel_rfl) (by kernel_rfl) (by kernel_rfl) (by kernel_rfl) (by kernel_rfl) (by kernel_rfl) (stOk (by kernel_rfl) (by kernel_rfl))
def ti273 : TI := ⟨23, 232, true, [.i (.ofNat 0), .i (.ofNat 0), .i (.ofNat 0), .i (.ofNat 0), .i (.ofNat 0), .i (.ofNat 0), .i (.ofNat 0), .i (.ofNat 0), .ns, .i (.ofNat 0), .b false, .i (.ofNat 0), .b false, .ns, .i (.ofNat 0), .i (.ofNat 0), .ns, .i (.ofNat 0), .i (.ofNat 0), .i (.ofNat 0), .i (.ofNat 0), .i (.ofNat 0), .i (.ofNat 0)], (.st [(0, 46), (9, 3), (10, 4), (11, 3), (12, 104), (14, 3), (15, 3), (16, 62), (17, 3), (18, 3), (19, 3), (20, 3), (21, 32), (22, 3)] [(0, 9), (9, 1), (10, 1), (11, 1), (12, 2), (14, 1), (15, 1), (16, 1), (17, 1), (18, 1), (19, 1), (20, 1), (21, 1), (22, 1)])⟩
theorem tok273 : TIok Tryz.prog 273 ti273 := TIok.ofN (us := [.int .i64 0, .int .i64 0, .int .i64 0, .int .i64 0, .int .i64 0, .int .i64 0, .int .i64 0, .int .i64 0, .slice none 0 0, .int .i64 0, .bool false, .int .i64 0, .bool false, .slice none 0 0, .int .i64 0, .int .i64 0, .slice none 0 0, .int .i64 0, .int .i64 0, .int .i64 0, .int .i64 0, .int .i64 0, .int .i64 0]) (by kernel_rfl) (by kernel_rfl) (by kernel_rfl) (by kernel_rfl) (by kernel_rfl) (by kernel_rfl) (stOk (by kernel_rfl) (by kernel_rfl))
def ti275 : TI := ⟨2, 16, true, [.i (.ofNat 0), .i (.ofNat 0)], (.arr 2 3)⟩
theorem tok275 : TIok Tryz.prog 275 ti275 := TIok.ofN (us := [.int .i64 0, .int .i64 0]) (by kernel_rfl) (by kernel_rfl) (by kernel_rfl) (by kernel_rfl) (by kernel_rfl) (by kernel_rfl) (show Tryz.prog.underlying 275 = some (TypeDesc.array 2 3) by kernel_rfl)
def ti277 : TI := ⟨5, 40, true, [.i (.ofNat 0), .i (.ofNat 0), .i (.ofNat 0), .i (.ofNat 0), .i (.ofNat 0)], (.st [(0, 3), (1, 3), (2, 275), (4, 3)] [(0, 1), (1, 1), (2, 2), (4, 1)])⟩
theorem tok277 : TIok Tryz.prog 277 ti277 := TIok.ofN (us := [.int .i64 0, .int .i64 0, .int .i64 0, .int .i64 0, .int .i64 0]) (by kernel_rfl) (by kernel_rfl) (by kernel_rfl) (by kernel_rfl) (by kernel_rfl) (by kernel_rfl) (stOk (by kernel_rfl) (by kernel_rfl))
def ti279 : TI := ⟨22, 200, true, [.i (.ofNat 0), .i (.ofNat 0), .i (.ofNat 0), .i (.ofNat 0), .i (.ofNat 0), .i (.ofNat 0), .i (.ofNat 0), .i (.ofNat 0), .ns, .i (.ofNat 0), .i (.ofNat 0), .b false, .i (.ofNat 0), .i (.ofNat 0), .i (.ofNat 0), .i (.ofNat 0), .i (.ofNat 0), .i (.ofNat 0), .z 0 0, .i (.ofNat 0), .i (.ofNat 0), .i (.ofNat 0)], (.st [(0, 46), (9, 3), (10, 3), (11, 4), (12, 3), (13, 3), (14, 3), (15, 3), (16, 3), (17, 3), (18, 24), (19, 32), (20, 3), (21, 3)] [(0, 9), (9, 1), (10, 1), (11, 1), (12, 1), (13, 1), (14, 1), (15, 1), (16, 1), (17, 1), (18, 1), (19, 1), (20, 1), (21, 1)])⟩
theorem tok279 : TIok Tryz.prog 279 ti279 := TIok.ofN (us := [.int .i64 0, .int .i64 0, .int .i64 0, .int .i64 0, .int .i64 0, .int .i64 0, .int .i64 0, .int .i64 0, .slice none 0 0, .int .i64 0, .int .i64 0, .bool false, .int .i64 0, .int .i64 0, .int .i64 0, .int .i64 0, .int .i64 0, .int .i64 0, .complex .f64 0 0, .int .i64 0, .int .i64 0, .int .i64 0]) (by kernel_rfl) (by kernel_rfl) (by kernel_rfl) (by kernel_rfl) (by kernel_rfl) (by kernel_rfl) (stOk (by kernel_rfl) (by kernel_rfl))
def ti285 : TI := ⟨1, 24, false, [.ns], (.slc 289)⟩
theorem tok285 : TIok Tryz.prog 285 ti285 := TIok.of1 (v := .slice none 0 0) (by kernel_rfl) (by kernel_rfl) (by kernel_rfl) (by kernel_rfl) (by kernel_rfl) (by kernel_rfl) (show Tryz.prog.underlying 285 = some (TypeDesc.slice 289) by kernel_rfl)
def ti287 : TI := ⟨1, 24, true, [.ns], (.st [(0, 285)] [(0, 1)])⟩
theorem tok287 : TIok Tryz.prog 287 ti287 := TIok.ofN (us := [.slice none 0 0]) (by kernel_rfl) (by kernel_rfl) (by kernel_rfl) (by kernel_rfl) (by kernel_rfl) (by kernel_rfl) (stOk (by kernel_rfl) (by kernel_rfl))
def ti289 : TI := ⟨8, 80, true, [.i (.ofNat 0), .i (.ofNat 0), .i (.ofNat 0), .i (.ofNat 0), .i (.ofNat 0), .i (.ofNat 0), .ns, .b false], (.st [(0, 266), (7, 4)] [(0, 7), (7, 1)])⟩
theorem tok289 : TIok Tryz.prog 289 ti289 := TIok.ofN (us := [.int .i64 0, .int .i64 0, .int .i64 0, .int .i64 0, .int .i64 0, .int .i64 0, .slice none 0 0, .bool false]) (by kernel_rfl) (by kernel_rfl) (by kernel_rfl) (by kernel_rfl) (by kernel_rfl) (by kernel_rfl) (stOk (by kernel_rfl) (by kernel_rfl))
def ti315 : TI := ⟨3, 40, true, [.ns, .i (.ofNat 0), .b false], (.st [(0, 62), (1, 3), (2, 4)] [(0, 1), (1, 1), (2, 1)])⟩
theorem tok315 : TIok Tryz.prog 315 ti315 := TIok.ofN (us := [.slice none 0 0, .int .i64 0, .bool false]) (by kernel_rfl) (by kernel_rfl) (by kernel_rfl) (by kernel_rfl) (by kernel_rfl) (by kernel_rfl) (stOk (by kernel_rfl) (by kernel_rfl))
def ti317 : TI := ⟨2, 32, true, [.ns, .i (.ofNat 0)], (.st [(0, 62), (1, 3)] [(0, 1), (1, 1)])⟩
theorem tok317 : TIok Tryz.prog 317 ti317 := TIok.ofN (us := [.slice none 0 0, .int .i64 0]) (by kernel_rfl) (by kernel_rfl) (by kernel_rfl) (by kernel_rfl) (by kernel_rfl) (by kernel_rfl) (stOk (by kernel_rfl) (by kernel_rfl))
def ti333 : TI := ⟨23, 200, true, [.i (.ofNat 0), .i (.ofNat 0), .i (.ofNat 0), .i (.ofNat 0), .i (.ofNat 0), .i (.ofNat 0), .i (.ofNat 0), .i (.ofNat 0), .ns, .i (.ofNat 0), .i (.ofNat 0), .b false, .i (.ofNat 0), .i (.ofNat 0), .i (.ofNat 0), .i (.ofNat 0), .i (.ofNat 0), .i (.ofNat 0), .i (.ofNat 0), .i (.ofNat 0), .b false, .i (.ofNat 0), .i (.ofNat 0)], (.st [(0, 46), (9, 3), (10, 3), (11, 4), (12, 3), (13, 3), (14, 3), (15, 3), (16, 3), (17, 3), (18, 3), (19, 3), (20, 4), (21, 32), (22, 3)] [(0, 9), (9, 1), (10, 1), (11, 1), (12, 1), (13, 1), (14, 1), (15, 1), (16, 1), (17, 1), (18, 1), (19, 1), (20, 1), (21, 1), (22, 1)])⟩
theorem tok333 : TIok Tryz.prog 333 ti333 := TIok.ofN (us := [.int .i64 0, .int .i64 0, .int .i64 0, .int .i64 0, .int .i64 0, .int .i64 0, .int .i64 0, .int .i64 0, .slice none 0 0, .int .i64 0, .int .i64 0, .bool false, .int .i64 0, .int .i64 0, .int .i64 0, .int .i64 0, .int .i64 0, .int .i64 0, .int .i64 0, .int .i64 0, .bool false, .int .i64 0, .int .i64 0]) (by kernel_rfl) (by kernel_rfl) (by kernel_rfl) (by kernel_rfl) (by kernel_rfl) (by kernel_rfl) (stOk (by kernel_rfl) (by kernel_rfl))
def ti337 : TI := ⟨8, 128, true, [.z 0 0, .z 0 0, .z 0 0, .z 0 0, .z 0 0, .z 0 0, .z 0 0, .z 0 0], (.arr 8 24)⟩
theorem tok337 : TIok Tryz.prog 337 ti337 := TIok.ofN (us := [.complex .f64 0 0, .complex .f64 0 0, .complex .f64 0 0, .complex .f64 0 0, .complex .f64 0 0, .complex .f64 0 0, .complex .f64 0 0, .complex .f64 0 0]) (by kernel_rfl) (by kernel_rfl) (by kernel_rfl) (by kernel_rfl) (by kernel_rfl) (by kernel_rfl) (show Tryz.prog.underlying 337 = some (TypeDesc.array 8 24) by kernel_rfl)
def ti360 : TI := ⟨2, 32, true, [.s [], .s []], (.arr 2 9)⟩
theorem tok360 : TIok Tryz.prog 360 ti360 := TIok.ofN (us := [.string ⟨#[]⟩, .string ⟨#[]⟩]) (by kernel_rfl) (by kernel_rfl) (by kernel_rfl) (by kernel_rfl) (by kernel_rfl) (by kernel_rfl) (show Tryz.prog.underlying 360 = some (TypeDesc.array 2 9) by kernel_rfl)
def ti361 : TI := ⟨1, 24, false, [.ns], (.slc 360)⟩
theorem tok361 : TIok Tryz.prog 361 ti361 := TIok.of1 (v := .slice none 0 0) (by kernel_rfl) (by kernel_rfl) (by kernel_rfl) (by kernel_rfl) (by kernel_rfl) (by kernel_rfl) (show Tryz.prog.underlying 361 = some (TypeDesc.slice 360) by kernel_rfl)
def tyT : Tab := [(3, ti3), (4, ti4), (9, ti9), (21, ti21), (23, ti23), (24, ti24), (26, ti26), (27, ti27), (28, ti28), (32, ti32), (34, ti34), (36, ti36), (39, ti39), (43, ti43), (44, ti44), (46, ti46), (47, ti47), (48, ti48), (49, ti49), (50, ti50), (52, ti52), (55, ti55), (56, ti56), (58, ti58), (62, ti62), (69, ti69), (77, ti77), (78, ti78), (79, ti79), (80, ti80), (82, ti82), (84, ti84), (86, ti86), (88, ti88), (92, ti92), (97, ti97), (98, ti98), (100, ti100), (104, ti104), (117, ti117), (128, ti128), (129, ti129), (131, ti131), (133, ti133), (137, ti137), (139, ti139), (140, ti140), (141, ti141), (143, ti143), (145, ti145), (147, ti147), (149, ti149), (150, ti150), (152, ti152), (163, ti163), (179, ti179), (203, ti203), (216, ti216), (233, ti233), (234, ti234), (245, ti245), (262, ti262), (266, ti266), (273, ti273), (275, ti275), (277, ti277), (279, ti279), (285, ti285), (287, ti287), (289, ti289), (315, ti315), (317, ti317), (333, ti333), (337, ti337), (360, ti360), (361, ti361)]
theorem tyT_ok : TabOk Tryz.prog tyT := ⟨tok3, ⟨tok4, ⟨tok9, ⟨tok21, ⟨tok23, ⟨tok24, ⟨tok26, ⟨tok27, ⟨tok28, ⟨tok32, ⟨tok34, ⟨tok36, ⟨tok39, ⟨tok43, ⟨tok44, ⟨tok46, ⟨tok47, ⟨tok48, ⟨tok49, ⟨tok50, ⟨tok52, ⟨tok55, ⟨tok56, ⟨tok58, ⟨tok62, ⟨tok69, ⟨tok77, ⟨tok78, ⟨tok79, ⟨tok80, ⟨tok82, ⟨tok84, ⟨tok86, ⟨tok88, ⟨tok92, ⟨tok97, ⟨tok98, ⟨tok100, ⟨tok104, ⟨tok117, ⟨tok128, ⟨tok129, ⟨tok131, ⟨tok133, ⟨tok137, ⟨tok139, ⟨tok140, ⟨tok141, ⟨tok143, ⟨tok145, ⟨tok147, ⟨tok149, ⟨tok150, ⟨tok152, ⟨tok163, ⟨tok179, ⟨tok203, ⟨tok216, ⟨tok233, ⟨tok234, ⟨tok245, ⟨tok262, ⟨tok266, ⟨tok273, ⟨tok275, ⟨tok277, ⟨tok279, ⟨tok285, ⟨tok287, ⟨tok289, ⟨tok315, ⟨tok317, ⟨tok333, ⟨tok337, ⟨tok360, ⟨tok361, trivial⟩⟩⟩⟩⟩⟩⟩⟩⟩⟩⟩⟩⟩⟩⟩⟩⟩⟩⟩⟩⟩⟩⟩⟩⟩⟩⟩⟩⟩⟩⟩⟩⟩⟩⟩⟩⟩⟩⟩⟩⟩⟩⟩⟩⟩⟩⟩⟩⟩⟩⟩⟩⟩⟩⟩⟩⟩⟩⟩⟩⟩⟩⟩⟩⟩⟩⟩⟩⟩⟩⟩⟩⟩⟩⟩⟩
theorem mixed : Tryz.prog.follows .mixedOrders = true := by kernel_rfl
def pureM : Nat := 1175418111835228270023581511235494333918759153870953079268573254846831519202763646666464612017484440302321664
noncomputable def pureS (f : Nat) : Bool := bit pureM f
end Go.Kx

namespace Go.Kx
open Go.Proofs
theorem fb_run (a : Nat) (w : World) : (callFunc 145 #[.float .f64 a]).run Tryz.prog w = .ok (.value (.int .u64 a)) w := by kernel_rfl
theorem fb_ok : Fb Tryz.prog 145 := fun a w => fb_run a w
abbrev FF := FQ Tryz.prog pureS
theorem cf {f em : Nat} {fn : Func} {kf : KFun} (h1 : Tryz.prog.funcs[f]? = some fn) (h : cFun tyT 145 pureS em fn = some kf) (hp : (!pureS f || pureKF pureS kf) = true) : FF f kf := cFun_ok mixed tyT_ok fb_ok h1 h hp
end Go.Kx
