/-
  Functions of the program in the evaluator's form; that this is right. Printed by a program of ours.
-/
import Derived.Test.YtkggojngcnkabaaGreatB11
set_option linter.unusedVariables false
set_option linter.unusedSimpArgs false
set_option maxRecDepth 100000
namespace Go.Kx
open Go.Proofs
def kf3 : KFun := .mk 2 [.t 4] (.seq (.reg [4] [.s 4 (.mv (.c (.b false)))]) (.seq (.seq (.reg [23] [.s 22 (.call 14 []), .s 23 (.not (.t 22))]) (.cond (.t 23) (.seq (.reg [4] [.s
  4 (.mv (.c (.b false)))]) .ret) .skip)) (.seq (.seq (.reg [29] [kM 24 1, .s 25 (.cm .lt (.t 24) (kI 0)), kM 26 25, .gs 26 false 27 (.mv (.t 1)), .gs 26 false
  28 (.cm .gt (.t 27) (kI 20)), .s 29 (.pick (.t 26) (.c (.b true)) (.t 28))]) (.cond (.t 29) (.seq (.reg [4] [.s 30 (.call 14 []), kM 4 30]) .ret) .skip)) (.seq
  (.reg [5] [.s 5 (.mv (.c (.ns)))]) (.seq (.seq (.reg [6] [.s 6 (.mv (kI 0))]) (.blk 0 (.loop (.seq (.seq (.reg [33] [kM 31 6, kM 32 1, .s 33 (.cm .lt (.t 31)
  (.t 32))]) (.cond (.t 33) .skip (.exit 0))) (.seq (.blk 1 (.reg [5] [kM 36 5, kM 37 6, .s 38 (.q (.rem (.t 37) (kI 3))), .s 39 (.bld [.i (.ofNat 0), .i (.ofNat
  0), .i (.ofNat 0), .i (.ofNat 0), .i (.ofNat 0), .z 0 0] (.cons 0 1 (kI 1) (.cons 1 1 (.t 38) .nil))), .s 40 (.bsl [.i (.ofNat 0), .i (.ofNat 0), .i (.ofNat
  0), .i (.ofNat 0), .i (.ofNat 0), .z 0 0] 1 (.cons 0 6 (.t 39) .nil)), .s 41 (.app 6 56 (.t 36) (.t 40)), kM 5 41])) (.reg [6] [kM 34 6, .s 35 (.ar .add (.t
  34) (kI 1)), kM 6 35])))))) (.seq (.seq (.reg [42] [kM 42 0]) (.cond (.t 42) (.reg [5] [kM 43 5, .s 44 (.bld [.i (.ofNat 0), .i (.ofNat 0), .i (.ofNat 0), .i
  (.ofNat 0), .i (.ofNat 0), .z 0 0] (.cons 0 1 (kI 18) .nil)), .s 45 (.bld [.i (.ofNat 0), .i (.ofNat 0), .i (.ofNat 0), .i (.ofNat 0), .i (.ofNat 0), .z 0 0]
  (.cons 0 1 (kI 1) (.cons 1 1 (kI 0) .nil))), .s 46 (.bsl [.i (.ofNat 0), .i (.ofNat 0), .i (.ofNat 0), .i (.ofNat 0), .i (.ofNat 0), .z 0 0] 2 (.cons 0 6 (.t
  44) (.cons 6 6 (.t 45) .nil))), .s 47 (.app 6 56 (.t 43) (.t 46)), kM 5 47]) .skip)) (.seq (.reg [7, 8] [kM 49 5, .s 50 (.call 15 [(.t 49), (.c (.ns))]), kM 48
  50, kE 51 48 0, kE 52 48 1, kE 53 48 2, kM 7 51, kM 8 52, kM 9 53]) (.seq (.seq (.reg [55] [kM 54 7, .s 55 (.nilp true (.t 54))]) (.cond (.t 55) (.seq (.reg
  [4] [.s 4 (.mv (.c (.b false)))]) .ret) .skip)) (.seq (.reg [10] [.s 10 (.mv (kI 0))]) (.seq (.seq (.reg [11] [.s 11 (.mv (kI 0))]) (.blk 2 (.loop (.seq (.seq
  (.reg [62] [kM 56 11, .s 57 (.cm .lt (.t 56) (kI 2000)), kM 58 57, .gs 58 true 59 (.mv (.t 8)), .gs 58 true 60 (.call 16 [(.t 59)]), .gs 58 true 61 (.cm .ne
  (.t 60) (kI 4)), .s 62 (.pick (.t 58) (.t 61) (.c (.b false)))]) (.cond (.t 62) .skip (.exit 2))) (.seq (.blk 3 (.seq (.reg [13] [kM 66 8, kM 67 7, .s 68
  (.call 17 [(.t 66), (.t 67)]), kM 65 68, kE 69 65 0, kE 70 65 1, .s 12 (.new [.i (.ofNat 0), .i (.ofNat 0), .i (.ofNat 0), .b false, .z 0 0]), .n (.stn (.t 12)
  (.t 69) 5), kM 13 70]) (.seq (.reg [71] [kM 71 13]) (.cond (.t 71) (.reg [10] [kM 72 10, .s 73 (.ar .add (.t 72) (kI 1)), kM 10 73]) .skip)))) (.reg [11] [kM
  63 11, .s 64 (.ar .add (.t 63) (kI 1)), kM 11 64])))))) (.seq (.reg [14] [kM 74 8, .s 75 (.call 18 [(.t 74)]), kM 14 75]) (.seq (.seq (.reg [15] [.s 15 (.mv
  (kI 0))]) (.blk 4 (.loop (.seq (.seq (.reg [79] [kM 76 15, kM 77 14, .s 78 (.len (.t 77)), .s 79 (.cm .lt (.t 76) (.t 78))]) (.cond (.t 79) .skip (.exit 4)))
  (.seq (.blk 5 (.seq (.reg [95] [kM 82 14, kM 83 15, .s 84 (.ixp (.t 82) (.t 83) 2), kO 85 84 0, kL 86 85, kM 87 86, .gs 87 false 88 (.mv (.t 14)), .gs 87 false
  89 (.mv (.t 15)), .gs 87 false 90 (.ixp (.t 88) (.t 89) 2), .gs 87 false 91 (.off (.t 90) 1), .gs 87 false 92 (.ld (.t 91)), .gs 87 false 93 (.call 19 [(.t
  92), (.c (.z 0 0))]), .gs 87 false 94 (.not (.t 93)), .s 95 (.pick (.t 87) (.c (.b true)) (.t 94))]) (.cond (.t 95) (.seq (.reg [4] [.s 4 (.mv (.c (.b
  false)))]) .ret) .skip))) (.reg [15] [kM 80 15, .s 81 (.ar .add (.t 80) (kI 1)), kM 15 81])))))) (.seq (.reg [17] [kM 97 8, kM 98 7, .s 99 (.call 17 [(.t 97),
  (.t 98)]), kM 96 99, kE 100 96 0, kE 101 96 1, .s 16 (.new [.i (.ofNat 0), .i (.ofNat 0), .i (.ofNat 0), .b false, .z 0 0]), .n (.stn (.t 16) (.t 100) 5), kM
  17 101]) (.seq (.reg [18] [.s 18 (.mv (kI 0))]) (.seq (.seq (.reg [102] [kM 102 0]) (.cond (.t 102) (.reg [18] [.s 18 (.mv (kI 1))]) .skip)) (.seq (.reg [20,
  21] [kM 104 7, kC 105 104, kO 106 105 10, kL 107 106, kC 108 107, kO 109 108 0, kW 110 109 1, .s 111 (.call 20 [(.t 110)]), .s 112 (.call 21 [(.t 111)]), kM
  103 112, kE 113 103 0, kE 114 103 1, kE 115 103 2, kM 19 113, kM 20 114, kM 21 115]) (.seq (.reg [4] [.s 116 (.call 14 []), kM 117 116, .gs 117 true 118 (.mv
  (.t 8)), .gs 117 true 119 (.call 16 [(.t 118)]), .gs 117 true 120 (.cm .eq (.t 119) (kI 4)), .s 121 (.pick (.t 117) (.t 120) (.c (.b false))), kM 122 121, .gs
  122 true 123 (.mv (.t 10)), .gs 122 true 124 (.mv (.t 1)), .gs 122 true 125 (.mv (.t 18)), .gs 122 true 126 (.ar .add (.t 124) (.t 125)), .gs 122 true 127 (.cm
  .eq (.t 123) (.t 126)), .s 128 (.pick (.t 122) (.t 127) (.c (.b false))), kM 129 128, .gs 129 true 130 (.mv (.t 7)), .gs 129 true 131 (.ck (.t 130)), .gs 129
  true 132 (.off (.t 131) 12), .gs 129 true 133 (.ld (.t 132)), .gs 129 true 134 (.call 22 [(.t 133), (kI 0)]), .gs 129 true 135 (.cm .eq (.t 134) (.c (.i
  (.negSucc 0)))), .s 136 (.pick (.t 129) (.t 135) (.c (.b false))), kM 137 136, .gs 137 true 138 (.mv (.t 20)), .gs 137 true 139 (.cm .eq (.t 138) (kI 0)), .s
  140 (.pick (.t 137) (.t 139) (.c (.b false))), kM 141 140, .gs 141 true 142 (.mv (.t 21)), .gs 141 true 143 (.mv (.t 1)), .gs 141 true 144 (.cm .eq (.t 142)
  (.t 143)), .s 145 (.pick (.t 141) (.t 144) (.c (.b false))), kM 146 145, .gs 146 true 147 (.mv (.t 17)), .gs 146 true 148 (.not (.t 147)), .s 149 (.pick (.t
  146) (.t 148) (.c (.b false))), kM 150 149, .gs 150 true 151 (.mv (.t 14)), .gs 150 true 152 (.len (.t 151)), .gs 150 true 153 (.cm .eq (.t 152) (kI 3)), .s
  154 (.pick (.t 150) (.t 153) (.c (.b false))), kM 4 154]) .ret)))))))))))))))))
theorem fq3 : FF 3 kf3 := cf (em := 5110217088998790542755626413555) Tryz.func3 (by kernel_rfl) (by kernel_rfl)
def kf14 : KFun := .mk 0 [.t 0] (.seq (.reg [0] [.s 0 (.mv (.c (.b false)))]) (.seq (.reg [1, 2] [.s 11 (.bld [.b false, .ns] .nil), .s 12 (.bsl [.b false, .ns] 1 (.cons 0 2 (.t
  11) .nil)), .s 13 (.bld [.i (.ofNat 0), .i (.ofNat 0), .i (.ofNat 0), .i (.ofNat 0), .i (.ofNat 0), .i (.ofNat 0), .i (.ofNat 0), .i (.ofNat 0), .ns] (.cons 0
  1 (kI 4) (.cons 3 1 (kI 1) (.cons 4 1 (kI 1) (.cons 6 1 (kI 1) (.cons 8 1 (.t 12) .nil)))))), .s 14 (.call 68 [(.t 13)]), kM 10 14, kE 15 10 0, kE 16 10 1, kM
  1 15, kM 2 16]) (.seq (.reg [3] [.s 17 (.bld [.i (.ofNat 0), .i (.ofNat 0), .i (.ofNat 0), .i (.ofNat 0), .i (.ofNat 0), .z 0 0] (.cons 0 1 (kI 12) (.cons 5 1
  (.c (.z 4617315517961601024 0)) .nil))), .s 18 (.bsl [.i (.ofNat 0), .i (.ofNat 0), .i (.ofNat 0), .i (.ofNat 0), .i (.ofNat 0), .z 0 0] 1 (.cons 0 6 (.t 17)
  .nil)), .s 19 (.call 69 [(kI 0), (kI 1), (.t 18)]), kM 3 19]) (.seq (.seq (.reg [34] [kM 20 1, .s 21 (.nilp true (.t 20)), kM 22 21, .gs 22 false 23 (.mv (.t
  3)), .gs 22 false 24 (.nilp true (.t 23)), .s 25 (.pick (.t 22) (.c (.b true)) (.t 24)), kM 26 25, .gs 26 false 27 (.mv (.t 2)), .gs 26 false 28 (.cm .ne (.t
  27) (kI 0)), .s 29 (.pick (.t 26) (.c (.b true)) (.t 28)), kM 30 29, .gs 30 false 31 (.mv (.t 3)), .gs 30 false 32 (.call 16 [(.t 31)]), .gs 30 false 33 (.cm
  .ne (.t 32) (kI 0)), .s 34 (.pick (.t 30) (.c (.b true)) (.t 33))]) (.cond (.t 34) (.seq (.reg [0] [.s 0 (.mv (.c (.b false)))]) .ret) .skip)) (.seq (.reg [5]
  [kM 36 3, kM 37 1, .s 38 (.call 17 [(.t 36), (.t 37)]), kM 35 38, kE 39 35 0, kE 40 35 1, .s 4 (.new [.i (.ofNat 0), .i (.ofNat 0), .i (.ofNat 0), .b false, .z
  0 0]), .n (.stn (.t 4) (.t 39) 5), kM 5 40]) (.seq (.reg [7] [kM 42 3, kM 43 1, .s 44 (.call 17 [(.t 42), (.t 43)]), kM 41 44, kE 45 41 0, kE 46 41 1, .s 6
  (.new [.i (.ofNat 0), .i (.ofNat 0), .i (.ofNat 0), .b false, .z 0 0]), .n (.stn (.t 6) (.t 45) 5), kM 7 46]) (.seq (.reg [8, 9] [kM 48 3, kM 49 1, .s 50
  (.call 17 [(.t 48), (.t 49)]), kM 47 50, kE 51 47 0, kE 52 47 1, .s 8 (.new [.i (.ofNat 0), .i (.ofNat 0), .i (.ofNat 0), .b false, .z 0 0]), .n (.stn (.t 8)
  (.t 51) 5), kM 9 52]) (.seq (.reg [0] [kM 53 5, .s 54 (.not (.t 53)), kM 55 54, .gs 55 true 56 (.mv (.t 7)), .gs 55 true 57 (.not (.t 56)), .s 58 (.pick (.t
  55) (.t 57) (.c (.b false))), kM 59 58, .gs 59 true 60 (.mv (.t 9)), .s 61 (.pick (.t 59) (.t 60) (.c (.b false))), kM 62 61, .gs 62 true 63 (.off (.t 8) 1),
  .gs 62 true 64 (.ld (.t 63)), .gs 62 true 65 (.cm .eq (.t 64) (kI 1)), .s 66 (.pick (.t 62) (.t 65) (.c (.b false))), kM 67 66, .gs 67 true 68 (.off (.t 8) 2),
  .gs 67 true 69 (.ld (.t 68)), .gs 67 true 70 (.cm .eq (.t 69) (kI 0)), .s 71 (.pick (.t 67) (.t 70) (.c (.b false))), kM 72 71, .gs 72 true 73 (.off (.t 8) 3),
  .gs 72 true 74 (.off (.t 73) 1), .gs 72 true 75 (.ld (.t 74)), .gs 72 true 76 (.call 19 [(.t 75), (.c (.z 4617315517961601024 0))]), .s 77 (.pick (.t 72) (.t
  76) (.c (.b false))), kM 78 77, .gs 78 true 79 (.mv (.t 1)), .gs 78 true 80 (.call 70 [(.t 79)]), .gs 78 true 81 (.cm .eq (.t 80) (kI 2)), .s 82 (.pick (.t 78)
  (.t 81) (.c (.b false))), kM 0 82]) .ret))))))))
theorem fq14 : FF 14 kf14 := cf (em := 17179870127) Tryz.func14 (by kernel_rfl) (by kernel_rfl)
def kf15 : KFun := .mk 2 [.t 4, .t 5, .t 6] (.seq (.reg [4, 5, 6] [.s 4 (.mv (.c (.np))), .s 5 (.mv (.c (.np))), .s 6 (.mv (.c (.np)))]) (.seq (.reg [7] [.s 12 (.bsl [.b false] 3
  (.cons 0 1 (.c (.b true)) (.cons 1 1 (.c (.b true)) (.cons 2 1 (.c (.b false)) .nil)))), .s 13 (.bld [.b false, .ns] (.cons 1 1 (.t 12) .nil)), .s 14 (.bsl [.b
  false] 1 (.cons 0 1 (.c (.b true)) .nil)), .s 15 (.bld [.b false, .ns] (.cons 0 1 (.c (.b true)) (.cons 1 1 (.t 14) .nil))), .s 16 (.bsl [.b false, .ns] 2
  (.cons 0 2 (.t 13) (.cons 2 2 (.t 15) .nil))), .s 17 (.bld [.i (.ofNat 0), .i (.ofNat 0), .i (.ofNat 0), .i (.ofNat 0), .i (.ofNat 0), .i (.ofNat 0), .i
  (.ofNat 0), .i (.ofNat 0), .ns] (.cons 0 1 (kI 40) (.cons 1 1 (kI 40) (.cons 2 1 (kI 2) (.cons 3 1 (kI 2) (.cons 4 1 (kI 3) (.cons 6 1 (kI 9) (.cons 8 1 (.t
  16) .nil)))))))), .s 7 (.new [.i (.ofNat 0), .i (.ofNat 0), .i (.ofNat 0), .i (.ofNat 0), .i (.ofNat 0), .i (.ofNat 0), .i (.ofNat 0), .i (.ofNat 0), .ns]), .n
  (.stn (.t 7) (.t 17) 9)]) (.seq (.reg [8, 9] [kW 19 7 9, .s 20 (.call 68 [(.t 19)]), kM 18 20, kE 21 18 0, kE 22 18 1, kM 8 21, kM 9 22]) (.seq (.reg [10, 11]
  [kM 23 0, .s 24 (.call 69 [(kI 0), (kI 3), (.t 23)]), kM 25 1, .s 26 (.call 69 [(kI 1), (kI 3), (.t 25)]), kM 10 24, kM 11 26]) (.seq (.seq (.reg [79] [kM 27
  8, .s 28 (.nilp true (.t 27)), kM 29 28, .gs 29 false 30 (.mv (.t 9)), .gs 29 false 31 (.cm .ne (.t 30) (kI 0)), .s 32 (.pick (.t 29) (.c (.b true)) (.t 31)),
  kM 33 32, .gs 33 false 34 (.mv (.t 10)), .gs 33 false 35 (.nilp true (.t 34)), .s 36 (.pick (.t 33) (.c (.b true)) (.t 35)), kM 37 36, .gs 37 false 38 (.mv (.t
  11)), .gs 37 false 39 (.nilp true (.t 38)), .s 40 (.pick (.t 37) (.c (.b true)) (.t 39)), kM 41 40, .gs 41 false 42 (.mv (.t 8)), .gs 41 false 43 (.ck (.t
  42)), .gs 41 false 44 (.off (.t 43) 12), .gs 41 false 45 (.ld (.t 44)), .gs 41 false 46 (.nilp true (.t 45)), .s 47 (.pick (.t 41) (.c (.b true)) (.t 46)), kM
  48 47, .gs 48 false 49 (.mv (.t 8)), .gs 48 false 50 (.ck (.t 49)), .gs 48 false 51 (.off (.t 50) 10), .gs 48 false 52 (.ld (.t 51)), .gs 48 false 53 (.nilp
  true (.t 52)), .s 54 (.pick (.t 48) (.c (.b true)) (.t 53)), kM 55 54, .gs 55 false 56 (.mv (.t 8)), .gs 55 false 57 (.ck (.t 56)), .gs 55 false 58 (.off (.t
  57) 10), .gs 55 false 59 (.ld (.t 58)), .gs 55 false 60 (.ck (.t 59)), .gs 55 false 61 (.off (.t 60) 0), .gs 55 false 62 (.ldn (.t 61) 1), .gs 55 false 63
  (.call 20 [(.t 62)]), .gs 55 false 64 (.nilp true (.t 63)), .s 65 (.pick (.t 55) (.c (.b true)) (.t 64)), kM 66 65, .gs 66 false 67 (.mv (.t 8)), .gs 66 false
  68 (.ck (.t 67)), .gs 66 false 69 (.off (.t 68) 11), .gs 66 false 70 (.ld (.t 69)), .gs 66 false 71 (.nilp true (.t 70)), .s 72 (.pick (.t 66) (.c (.b true))
  (.t 71)), kM 73 72, .gs 73 false 74 (.mv (.t 8)), .gs 73 false 75 (.ck (.t 74)), .gs 73 false 76 (.off (.t 75) 9), .gs 73 false 77 (.ld (.t 76)), .gs 73 false
  78 (.nilp true (.t 77)), .s 79 (.pick (.t 73) (.c (.b true)) (.t 78))]) (.cond (.t 79) (.seq (.reg [4, 5, 6] [.s 4 (.mv (.c (.np))), .s 5 (.mv (.c (.np))), .s
  6 (.mv (.c (.np)))]) .ret) .skip)) (.seq (.reg [4, 5, 6] [kM 80 8, kM 81 10, kM 82 11, kM 4 80, kM 5 81, kM 6 82]) .ret))))))
theorem fq15 : FF 15 kf15 := cf (em := 604462909807314587357171) Tryz.func15 (by kernel_rfl) (by kernel_rfl)
def kf16 : KFun := .mk 1 [.t 2] (.seq (.reg [2] [.s 2 (.mv (kI 0))]) (.seq (.reg [2] [kM 3 0, kC 4 3, kO 5 4 3, kL 6 5, kM 2 6]) .ret))
theorem fq16 : FF 16 kf16 := cf (em := 5) Tryz.func16 (by kernel_rfl) (by kernel_rfl)
def kf17 : KFun := .mk 2 [.cn 4 5, .t 5] (.seq (.reg [4, 5] [.s 4 (.new [.i (.ofNat 0), .i (.ofNat 0), .i (.ofNat 0), .b false, .z 0 0]), .s 5 (.mv (.c (.b false)))]) (.seq (.seq
  (.reg [12] [kM 9 0, kC 10 9, kO 11 10 3, kL 12 11]) (.blk 0 (.seq (.reg [13] [.s 14 (.cm .eq (.t 12) (kI 0)), kM 13 14]) (.cond (.t 13) (.seq (.drw [6, 7, 8]
  [.mk 0 1 true (kM 16 1), .mk 1 3 true (kC 17 16), .mk 2 7 true (kO 18 17 12), .mk 3 15 true (kL 19 18), .mk 4 16 true (kM 20 0), .mk 5 48 true (kC 21 20), .mk
  6 112 true (kO 22 21 0), .mk 7 240 true (kL 23 22), .mk 8 511 false (.s 24 (.call 71 [(.t 19), (.t 23)])), .mk 9 1023 true (kM 15 24), .mk 10 2047 true (kE 25
  15 0), .mk 11 3071 true (kE 26 15 1), .mk 12 5119 true (kE 27 15 2), .mk 13 10239 true (kM 6 25), .mk 14 28671 true (kM 7 26), .mk 15 65535 true (kM 8 27)]
  [.mk 256 511 (.s 24 (.call 71 [(.t 19), (.t 23)]))]) (.seq (.seq (.reg [29] [kM 28 8, .s 29 (.not (.t 28))]) (.cond (.t 29) (.seq (.reg [] [kM 30 0, kC 31 30,
  kO 32 31 3, .n (.st (.t 32) (kI 4))]) (.exit 0)) .skip)) (.seq (.reg [] [kM 33 0, kM 34 0, kM 35 6, kM 36 7, kC 37 33, kO 38 37 4, .n (.st (.t 38) (.t 35)), kC
  39 34, kO 40 39 5, .n (.st (.t 40) (.t 36))]) (.reg [] [kM 41 0, kM 42 0, kC 43 41, kO 44 43 3, .n (.st (.t 44) (kI 1)), kC 45 42, kO 46 45 7, .n (.st (.t 46)
  (kI 0))])))) (.seq (.reg [47] [.s 48 (.cm .eq (.t 12) (kI 1)), kM 47 48]) (.cond (.t 47) (.reg [] [kM 49 0, kM 50 1, .s 51 (.call 72 [(.t 49), (.t 50)])])
  (.seq (.reg [52] [.s 53 (.cm .eq (.t 12) (kI 2)), kM 52 53]) (.cond (.t 52) (.seq (.reg [] [kM 54 0, kC 55 54, kO 56 55 10, kO 57 56 0, kL 58 57, .s 59 (.ar
  .add (.t 58) (kI 1)), kC 60 54, kO 61 60 10, kO 62 61 0, .n (.st (.t 62) (.t 59))]) (.seq (.reg [5] [kM 63 0, kM 64 1, .s 65 (.call 73 [(.t 63), (.t 64)]), kE
  66 65 0, kE 67 65 1, .n (.stn (.t 4) (.t 66) 5), kM 5 67]) .ret)) (.seq (.reg [68] [.s 69 (.cm .eq (.t 12) (kI 3)), kM 68 69]) (.cond (.t 68) (.seq (.reg []
  [kM 70 0, kC 71 70, kO 72 71 10, kO 73 72 0, kL 74 73, .s 75 (.ar .add (.t 74) (kI 1)), kC 76 70, kO 77 76 10, kO 78 77 0, .n (.st (.t 78) (.t 75))]) (.seq
  (.reg [5] [kM 79 0, kM 80 1, .s 81 (.call 74 [(.t 79), (.t 80)]), kE 82 81 0, kE 83 81 1, .n (.stn (.t 4) (.t 82) 5), kM 5 83]) .ret)) .skip)))))))))) (.seq
  (.reg [5] [.s 84 (.bld [.i (.ofNat 0), .i (.ofNat 0), .i (.ofNat 0), .b false, .z 0 0] .nil), .n (.stn (.t 4) (.t 84) 5), .s 5 (.mv (.c (.b false)))]) .ret)))
theorem fq17 : FF 17 kf17 := cf (em := 295152549517005435379) Tryz.func17 (by kernel_rfl) (by kernel_rfl)
def kf18 : KFun := .mk 1 [.t 2] (.seq (.reg [2] [.s 2 (.mv (.c (.ns)))]) (.seq (.reg [2] [kM 3 0, kC 4 3, kO 5 4 2, kL 6 5, .s 7 (.call 75 [(.t 6)]), kM 2 7]) .ret))
theorem fq18 : FF 18 kf18 := cf (em := 5) Tryz.func18 (by kernel_rfl) (by kernel_rfl)
def kf19 : KFun := .mk 2 [.t 4] (.seq (.reg [4] [.s 4 (.mv (.c (.b false)))]) (.seq (.reg [4] [kM 5 0, .s 6 (.re (.t 5)), .s 7 (.call 76 [(.t 6)]), kM 8 1, .s 9 (.re (.t 8)), .s 10
  (.call 76 [(.t 9)]), .s 11 (.cmk .eq (.t 7) (.t 10)), kM 12 11, .gs 12 true 13 (.mv (.t 0)), .gs 12 true 14 (.im (.t 13)), .gs 12 true 15 (.call 76 [(.t 14)]),
  .gs 12 true 16 (.mv (.t 1)), .gs 12 true 17 (.im (.t 16)), .gs 12 true 18 (.call 76 [(.t 17)]), .gs 12 true 19 (.cmk .eq (.t 15) (.t 18)), .s 20 (.pick (.t 12)
  (.t 19) (.c (.b false))), kM 4 20]) .ret))
theorem fq19 : FF 19 kf19 := cf (em := 19) Tryz.func19 (by kernel_rfl) (by kernel_rfl)
def kf20 : KFun := .mk 1 [.t 2] (.seq (.reg [1, 2] [.s 1 (.box (.t 0)), .s 2 (.mv (.c (.np)))]) (.seq (.reg [2] [kO 3 1 0, kL 4 3, kM 2 4]) .ret))
theorem fq20 : FF 20 kf20 := cf (em := 7) Tryz.func20 (by kernel_rfl) (by kernel_rfl)
def kf21 : KFun := .mk 1 [.t 2, .t 3, .t 4] (.seq (.reg [2, 3, 4] [.s 2 (.mv (kI 0)), .s 3 (.mv (kI 0)), .s 4 (.mv (kI 0))]) (.seq (.drw [2, 3, 4] [.mk 0 1 true (kM 5 0), .mk 1 3
  true (kC 6 5), .mk 2 7 true (kO 7 6 1), .mk 3 15 true (.s 8 (.q (.iar (.t 7) (kI 0) 1 3))), .mk 4 31 true (kL 9 8), .mk 5 32 true (kM 10 0), .mk 6 96 true (kC
  11 10), .mk 7 224 true (kO 12 11 1), .mk 8 480 true (.s 13 (.q (.iar (.t 12) (kI 1) 1 3))), .mk 9 992 true (kL 14 13), .mk 10 1024 true (kM 15 0), .mk 11 3072
  true (kC 16 15), .mk 12 7168 true (kO 17 16 1), .mk 13 15360 true (.s 18 (.q (.iar (.t 17) (kI 2) 1 3))), .mk 14 31744 true (kL 19 18), .mk 15 32799 true (kM 2
  9), .mk 16 99327 true (kM 3 14), .mk 17 262143 true (kM 4 19)] []) .ret))
theorem fq21 : FF 21 kf21 := cf (em := 29) Tryz.func21 (by kernel_rfl) (by kernel_rfl)
def kf22 : KFun := .mk 2 [.t 4] (.seq (.reg [4] [.s 4 (.mv (kI 0))]) (.seq (.seq (.reg [15] [kM 5 1, .s 6 (.cm .lt (.t 5) (kI 0)), kM 7 6, .gs 7 false 8 (.mv (.t 1)), .gs 7 false 9
  (.mv (.t 0)), .gs 7 false 10 (.ck (.t 9)), .gs 7 false 11 (.off (.t 10) 2), .gs 7 false 12 (.ld (.t 11)), .gs 7 false 13 (.len (.t 12)), .gs 7 false 14 (.cm
  .ge (.t 8) (.t 13)), .s 15 (.pick (.t 7) (.c (.b true)) (.t 14))]) (.cond (.t 15) (.seq (.reg [4] [.s 4 (.mv (.c (.i (.negSucc 0))))]) .ret) .skip)) (.seq
  (.reg [4] [kM 16 0, kC 17 16, kO 18 17 2, kL 19 18, kM 20 1, .s 21 (.ixp (.t 19) (.t 20) 1), kL 22 21, kM 4 22]) .ret)))
theorem fq22 : FF 22 kf22 := cf (em := 32787) Tryz.func22 (by kernel_rfl) (by kernel_rfl)
def kf68 : KFun := .mk 1 [.t 2, .t 3] (.seq (.reg [1, 2, 3] [.s 1 (.box (.t 0)), .s 2 (.mv (.c (.np))), .s 3 (.mv (kI 0))]) (.seq (.seq (.reg [4] [kW 13 1 9, .s 14 (.call 115 [(.t
  13)]), kM 4 14]) (.seq (.reg [16] [kM 15 4, .s 16 (.cm .ne (.t 15) (kI 0))]) (.cond (.t 16) (.seq (.reg [2, 3] [kM 17 4, .s 2 (.mv (.c (.np))), kM 3 17]) .ret)
  .skip))) (.seq (.reg [5, 6] [kW 19 1 9, .s 20 (.call 117 [(.t 19)]), .s 21 (.call 116 [(.t 20)]), kM 18 21, kE 22 18 0, kE 23 18 1, kM 5 22, kM 6 23]) (.seq
  (.seq (.reg [25] [kM 24 6, .s 25 (.cm .ne (.t 24) (kI 0))]) (.cond (.t 25) (.seq (.reg [2, 3] [kM 26 6, .s 2 (.mv (.c (.np))), kM 3 26]) .ret) .skip)) (.seq
  (.reg [7, 6] [kO 28 1 0, kL 29 28, kO 30 1 6, kL 31 30, .s 32 (.call 118 [(.t 29), (.t 31)]), kM 27 32, kE 33 27 0, kE 34 27 1, kM 7 33, kM 6 34]) (.seq (.seq
  (.reg [36] [kM 35 6, .s 36 (.cm .ne (.t 35) (kI 0))]) (.cond (.t 36) (.seq (.reg [2, 3] [kM 37 6, .s 2 (.mv (.c (.np))), kM 3 37]) .ret) .skip)) (.seq (.drw
  [8, 6] [.mk 0 1 true (kW 39 1 9), .mk 1 2 true (kM 40 7), .mk 2 6 true (kC 41 40), .mk 3 14 true (kO 42 41 0), .mk 4 30 true (kW 43 42 1), .mk 5 62 false (.s
  44 (.call 20 [(.t 43)])), .mk 6 127 false (.s 45 (.call 119 [(.t 39), (.t 44)])), .mk 7 255 true (kM 38 45), .mk 8 511 true (kE 46 38 0), .mk 9 767 true (kE 47
  38 1), .mk 10 1535 true (kM 8 46), .mk 11 4095 true (kM 6 47)] [.mk 96 62 (.s 44 (.call 20 [(.t 43)])), .mk 64 127 (.s 45 (.call 119 [(.t 39), (.t 44)]))])
  (.seq (.seq (.reg [49] [kM 48 6, .s 49 (.cm .ne (.t 48) (kI 0))]) (.cond (.t 49) (.seq (.reg [2, 3] [kM 50 6, .s 2 (.mv (.c (.np))), kM 3 50]) .ret) .skip))
  (.seq (.reg [9, 6] [kO 52 1 3, kL 53 52, .s 54 (.call 120 [(.t 53)]), kM 51 54, kE 55 51 0, kE 56 51 1, kM 9 55, kM 6 56]) (.seq (.seq (.reg [58] [kM 57 6, .s
  58 (.cm .ne (.t 57) (kI 0))]) (.cond (.t 58) (.seq (.reg [2, 3] [kM 59 6, .s 2 (.mv (.c (.np))), kM 3 59]) .ret) .skip)) (.seq (.seq (.reg [61, 62] [kO 60 1 2,
  kL 61 60, .s 62 (.mv (kI 0))]) (.blk 0 (.loop (.seq (.reg [63] [.s 63 (.cm .lt (.t 62) (.t 61))]) (.seq (.cond (.t 63) .skip (.exit 0)) (.seq (.blk 1 (.seq
  (.reg [10] [kM 64 62, kM 10 64]) (.seq (.reg [11] [kW 66 1 9, kM 67 10, .s 68 (.call 121 [(.t 66), (.t 67)]), kM 65 68, kE 69 65 0, kE 70 65 1, kM 11 69, kM 12
  70]) (.reg [] [kM 71 5, kM 72 11, .s 73 (.call 123 []), .s 74 (.call 122 [(.t 71), (.t 72), (.t 73)])])))) (.reg [62] [.s 75 (.ar .add (.t 62) (kI 1)), kM 62
  75]))))))) (.seq (.reg [2, 3] [kW 76 1 9, .s 77 (.call 124 [(.t 76)]), kM 78 5, kM 79 7, kM 80 8, kM 81 9, .s 82 (.bld [.i (.ofNat 0), .i (.ofNat 0), .i
  (.ofNat 0), .i (.ofNat 0), .i (.ofNat 0), .i (.ofNat 0), .i (.ofNat 0), .i (.ofNat 0), .ns, .np, .np, .np, .np] (.cons 0 9 (.t 77) (.cons 9 1 (.t 78) (.cons 10
  1 (.t 79) (.cons 11 1 (.t 80) (.cons 12 1 (.t 81) .nil)))))), .s 83 (.box (.t 82)), kM 2 83, .s 3 (.mv (kI 0))]) .ret))))))))))))
theorem fq68 : FF 68 kf68 := cf (em := 16429694459354091519) Tryz.func68 (by kernel_rfl) (by kernel_rfl)
def kf69 : KFun := .mk 3 [.t 6] (.seq (.reg [6] [.s 6 (.mv (.c (.np)))]) (.seq (.drw [6] [.mk 0 1 true (kM 7 0), .mk 1 2 true (kM 8 2), .mk 2 6 false (.s 9 (.call 125 [(.t 8)])),
  .mk 3 8 true (kM 10 1), .mk 4 24 true (.s 11 (.q (.max (.t 10) (kI 0)))), .mk 5 56 false (.s 12 (.q (.mks [.b false, .z 0 0] 24 (.t 11) (.t 11)))), .mk 6 127
  true (.s 13 (.bld [.i (.ofNat 0), .ns, .ns, .i (.ofNat 0), .i (.ofNat 0), .b false, .i (.ofNat 0), .i (.ofNat 0), .i (.ofNat 0), .ns, .i (.ofNat 0), .i (.ofNat
  0), .np, .i (.ofNat 0), .b false, .z 0 0, .z 0 0, .ns, .ns] (.cons 0 1 (.t 7) (.cons 1 1 (.t 9) (.cons 2 1 (.t 12) .nil))))), .mk 7 255 false (.s 14 (.box (.t
  13))), .mk 8 511 true (kM 6 14)] [.pr 12 9 164 6 160 56 (.call 125 [(.t 8)]) (.q (.mks [.b false, .z 0 0] 24 (.t 11) (.t 11))), .mk 128 255 (.s 14 (.box (.t
  13)))]) .ret))
theorem fq69 : FF 69 kf69 := cf (em := 71) Tryz.func69 (by kernel_rfl) (by kernel_rfl)
def kf70 : KFun := .mk 1 [.t 2] (.seq (.reg [2] [.s 2 (.mv (kI 0))]) (.seq (.drw [2] [.mk 0 1 true (kM 3 0), .mk 1 3 true (kC 4 3), .mk 2 7 true (kO 5 4 9), .mk 3 15 true (kL 6 5),
  .mk 4 31 true (.s 7 (.call 126 [(.t 6)])), .mk 5 32 true (kM 8 0), .mk 6 96 true (kC 9 8), .mk 7 224 true (kO 10 9 10), .mk 8 480 true (kL 11 10), .mk 9 1023
  true (.s 12 (.call 127 [(.t 11)])), .mk 10 2047 true (.s 13 (.ar .add (.t 7) (.t 12))), .mk 11 2048 true (kM 14 0), .mk 12 6144 true (kC 15 14), .mk 13 14336
  true (kO 16 15 11), .mk 14 30720 true (kL 17 16), .mk 15 64511 true (.s 18 (.call 128 [(.t 17)])), .mk 16 131071 true (.s 19 (.ar .add (.t 13) (.t 18))), .mk
  17 131072 true (kM 20 0), .mk 18 393216 true (kC 21 20), .mk 19 917504 true (kO 22 21 12), .mk 20 1966080 true (kL 23 22), .mk 21 4127743 true (.s 24 (.call
  129 [(.t 23)])), .mk 22 8388607 true (.s 25 (.ar .add (.t 19) (.t 24))), .mk 23 16777215 true (kM 2 25)] []) .ret))
theorem fq70 : FF 70 kf70 := cf (em := 5) Tryz.func70 (by kernel_rfl) (by kernel_rfl)
def kf71 : KFun := .mk 2 [.t 4, .t 5, .t 6] (.seq (.reg [4, 5, 6] [.s 4 (.mv (kI 0)), .s 5 (.mv (.c (.b false))), .s 6 (.mv (.c (.b false)))]) (.seq (.reg [] [kM 7 0, kC 8 7, kO 9
  8 3, kL 10 9, .s 11 (.ar .add (.t 10) (kI 1)), kC 12 7, kO 13 12 3, .n (.st (.t 13) (.t 11))]) (.seq (.seq (.reg [34] [kM 14 1, .s 15 (.cm .lt (.t 14) (kI 0)),
  kM 16 15, .gs 16 false 17 (.mv (.t 1)), .gs 16 false 18 (.mv (.t 0)), .gs 16 false 19 (.ck (.t 18)), .gs 16 false 20 (.off (.t 19) 2), .gs 16 false 21 (.ld (.t
  20)), .gs 16 false 22 (.len (.t 21)), .gs 16 false 23 (.cm .ge (.t 17) (.t 22)), .s 24 (.pick (.t 16) (.c (.b true)) (.t 23)), kM 25 24, .gs 25 false 26 (.mv
  (.t 0)), .gs 25 false 27 (.ck (.t 26)), .gs 25 false 28 (.off (.t 27) 2), .gs 25 false 29 (.ld (.t 28)), .gs 25 false 30 (.mv (.t 1)), .gs 25 false 31 (.ixp
  (.t 29) (.t 30) 1), .gs 25 false 32 (.ld (.t 31)), .gs 25 false 33 (.cm .ne (.t 32) (.c (.i (.negSucc 0)))), .s 34 (.pick (.t 25) (.c (.b true)) (.t 33))])
  (.cond (.t 34) (.seq (.reg [4, 5, 6] [.s 4 (.mv (kI 0)), .s 5 (.mv (.c (.b false))), .s 6 (.mv (.c (.b false)))]) .ret) .skip)) (.seq (.drw [] [.mk 0 1 true
  (kM 35 0), .mk 1 3 true (kC 36 35), .mk 2 7 true (kO 37 36 2), .mk 3 15 true (kL 38 37), .mk 4 16 true (kM 39 1), .mk 5 32 true (kM 40 0), .mk 6 96 true (kC 41
  40), .mk 7 224 true (kO 42 41 0), .mk 8 480 true (kL 43 42), .mk 9 1023 true (.s 44 (.ixp (.t 38) (.t 39) 1)), .mk 10 2047 false (.n (.st (.t 44) (.t 43)))]
  [.mk 1024 2047 (.n (.st (.t 44) (.t 43)))]) (.seq (.drw [4, 5, 6] [.mk 0 1 true (kM 45 0), .mk 1 3 true (kC 46 45), .mk 2 7 true (kO 47 46 0), .mk 3 15 true
  (kL 48 47), .mk 4 16 true (kM 49 0), .mk 5 48 true (kC 50 49), .mk 6 112 true (kO 51 50 1), .mk 7 240 true (kL 52 51), .mk 8 271 true (kM 4 48), .mk 9 1023
  true (kM 5 52), .mk 10 2047 true (.s 6 (.mv (.c (.b true))))] []) .ret)))))
theorem fq71 : FF 71 kf71 := cf (em := 17179869299) Tryz.func71 (by kernel_rfl) (by kernel_rfl)
def kf72 : KFun := .mk 2 [] (.seq (.reg [7] [kM 4 0, kC 5 4, kO 6 5 7, kL 7 6]) (.blk 0 (.seq (.reg [8] [.s 9 (.cm .eq (.t 7) (kI 0)), kM 8 9]) (.cond (.t 8) (.blk 1 (.seq (.reg
  [17] [kM 18 0, kM 19 1, .s 20 (.call 130 [(.t 18), (.t 19)]), .s 21 (.not (.t 20)), kM 17 21]) (.cond (.t 17) .skip (.seq (.drw [22] [.mk 0 1 true (kM 23 0),
  .mk 1 3 true (kC 24 23), .mk 2 7 true (kO 25 24 6), .mk 3 15 true (kL 26 25), .mk 4 16 true (kM 27 0), .mk 5 48 true (kC 28 27), .mk 6 112 true (kO 29 28 1),
  .mk 7 240 true (kL 30 29), .mk 8 496 true (.s 31 (.len (.t 30))), .mk 9 1023 true (.s 32 (.cm .ge (.t 26) (.t 31))), .mk 10 2047 true (kM 22 32)] []) (.cond
  (.t 22) (.reg [] [kM 33 0, kC 34 33, kO 35 34 7, .n (.st (.t 35) (kI 3))]) (.reg [] [kM 10 0, kM 11 0, .s 12 (.bld [.i (.ofNat 0), .i (.ofNat 0), .np, .i
  (.ofNat 0), .b false, .z 0 0, .z 0 0, .ns, .ns] .nil), kC 13 10, kO 14 13 3, .n (.st (.t 14) (kI 2)), kC 15 11, kO 16 15 10, .n (.stn (.t 16) (.t 12) 9)]))))))
  (.seq (.seq (.reg [36] [.s 37 (.cm .eq (.t 7) (kI 1)), kM 36 37]) (.cond (.t 36) .skip (.reg [36] [.s 38 (.cm .eq (.t 7) (kI 2)), kM 36 38]))) (.cond (.t 36)
  (.seq (.reg [41] [kM 39 0, kM 40 1, .s 41 (.call 131 [(.t 39), (.t 40)])]) (.cond (.t 41) (.reg [] [kM 42 0, kC 43 42, kO 44 43 7, .n (.st (.t 44) (kI 0))])
  .skip)) (.seq (.reg [45] [.s 46 (.cm .eq (.t 7) (kI 3)), kM 45 46]) (.cond (.t 45) (.seq (.drw [] [.mk 0 1 true (kM 47 1), .mk 1 3 true (kC 48 47), .mk 2 7
  true (kO 49 48 11), .mk 3 15 true (kL 50 49), .mk 4 16 true (kM 51 0), .mk 5 48 true (kC 52 51), .mk 6 112 true (kO 53 52 0), .mk 7 240 true (kL 54 53), .mk 8
  511 false (.s 55 (.call 132 [(.t 50), (.t 54)]))] [.mk 256 511 (.s 55 (.call 132 [(.t 50), (.t 54)]))]) (.reg [] [kM 56 0, kC 57 56, kO 58 57 7, .n (.st (.t
  58) (kI 4))])) (.seq (.reg [59] [.s 60 (.cm .eq (.t 7) (kI 4)), kM 59 60]) (.cond (.t 59) (.reg [] [kM 61 0, kM 62 1, .s 63 (.call 133 [(.t 61), (.t 62)])])
  .skip))))))))))
theorem fq72 : FF 72 kf72 := cf (em := 576498204422570371) Tryz.func72 (by kernel_rfl) (by kernel_rfl)
def kf73 : KFun := .mk 2 [.cn 4 5, .t 5] (.seq (.reg [4, 5] [.s 4 (.new [.i (.ofNat 0), .i (.ofNat 0), .i (.ofNat 0), .b false, .z 0 0]), .s 5 (.mv (.c (.b false)))]) (.seq (.drw
  [6] [.mk 0 1 true (kM 7 0), .mk 1 3 true (kC 8 7), .mk 2 7 true (kO 9 8 1), .mk 3 15 true (kL 10 9), .mk 4 16 true (kM 11 0), .mk 5 48 true (kC 12 11), .mk 6
  112 true (kO 13 12 6), .mk 7 240 true (kL 14 13), .mk 8 511 true (.s 15 (.ixp (.t 10) (.t 14) 6)), .mk 9 1023 true (kW 16 15 6), .mk 10 1024 false (.s 6 (.new
  [.i (.ofNat 0), .i (.ofNat 0), .i (.ofNat 0), .i (.ofNat 0), .i (.ofNat 0), .z 0 0])), .mk 11 4095 false (.n (.stn (.t 6) (.t 16) 6))] [.mk 3072 1024 (.s 6
  (.new [.i (.ofNat 0), .i (.ofNat 0), .i (.ofNat 0), .i (.ofNat 0), .i (.ofNat 0), .z 0 0])), .mk 2048 4095 (.n (.stn (.t 6) (.t 16) 6))]) (.seq (.seq (.reg
  [21] [kM 17 0, kC 18 17, kO 19 18 10, kO 20 19 1, kL 21 20]) (.blk 0 (.seq (.reg [22] [.s 23 (.cm .eq (.t 21) (kI 0)), kM 22 23]) (.cond (.t 22) (.seq (.reg
  [5] [kM 24 0, kM 25 1, kW 26 6 6, .s 27 (.call 134 [(.t 24), (.t 25), (.t 26)]), kE 28 27 0, kE 29 27 1, .n (.stn (.t 4) (.t 28) 5), kM 5 29]) .ret) (.seq
  (.reg [30] [.s 31 (.cm .eq (.t 21) (kI 1)), kM 30 31]) (.cond (.t 30) (.seq (.reg [5] [kM 32 0, kM 33 1, kW 34 6 6, .s 35 (.call 135 [(.t 32), (.t 33), (.t
  34)]), kE 36 35 0, kE 37 35 1, .n (.stn (.t 4) (.t 36) 5), kM 5 37]) .ret) (.seq (.reg [38] [.s 39 (.cm .eq (.t 21) (kI 2)), kM 38 39]) (.cond (.t 38) (.seq
  (.reg [5] [kM 40 0, kM 41 1, kW 42 6 6, .s 43 (.call 136 [(.t 40), (.t 41), (.t 42)]), kE 44 43 0, kE 45 43 1, .n (.stn (.t 4) (.t 44) 5), kM 5 45]) .ret)
  (.seq (.reg [46] [.s 47 (.cm .eq (.t 21) (kI 7)), kM 46 47]) (.cond (.t 46) (.seq (.reg [5] [kM 48 0, kM 49 1, .s 50 (.call 137 [(.t 48), (.t 49)]), kE 51 50
  0, kE 52 50 1, .n (.stn (.t 4) (.t 51) 5), kM 5 52]) .ret) (.seq (.reg [53] [.s 54 (.cm .eq (.t 21) (kI 8)), kM 53 54]) (.cond (.t 53) (.seq (.reg [5] [kM 55
  0, kM 56 1, kW 57 6 6, .s 58 (.call 138 [(.t 55), (.t 56), (.t 57)]), kE 59 58 0, kE 60 58 1, .n (.stn (.t 4) (.t 59) 5), kM 5 60]) .ret) (.seq (.reg [61] [.s
  62 (.cm .eq (.t 21) (kI 9)), kM 61 62]) (.cond (.t 61) (.seq (.reg [5] [kM 63 0, kM 64 1, kW 65 6 6, .s 66 (.call 139 [(.t 63), (.t 64), (.t 65)]), kE 67 66 0,
  kE 68 66 1, .n (.stn (.t 4) (.t 67) 5), kM 5 68]) .ret) (.seq (.reg [69] [.s 70 (.cm .eq (.t 21) (kI 10)), kM 69 70]) (.cond (.t 69) (.seq (.reg [] [kM 71 0,
  kM 72 1, .s 73 (.call 133 [(.t 71), (.t 72)])]) (.seq (.reg [5] [kM 74 0, .s 75 (.bld [.b false, .z 0 0] .nil), .s 76 (.call 140 [(.t 74), (.t 75), (kI 0)]),
  kE 77 76 0, kE 78 76 1, .n (.stn (.t 4) (.t 77) 5), kM 5 78]) .ret)) .skip)))))))))))))))) (.seq (.reg [5] [kM 79 0, kM 80 1, .s 81 (.call 141 [(.t 79), (.t
  80)]), kE 82 81 0, kE 83 81 1, .n (.stn (.t 4) (.t 82) 5), kM 5 83]) .ret))))
theorem fq73 : FF 73 kf73 := cf (em := 592610731211876204659) Tryz.func73 (by kernel_rfl) (by kernel_rfl)
def kf75 : KFun := .mk 1 [.t 2] (.seq (.reg [2] [.s 2 (.mv (.c (.ns)))]) (.seq (.seq (.reg [4] [kM 3 0, .s 4 (.nils true (.t 3))]) (.cond (.t 4) (.seq (.reg [2] [.s 2 (.mv (.c
  (.ns)))]) .ret) .skip)) (.seq (.reg [2] [.s 5 (.bsl [.b false, .z 0 0] 0 .nil), kM 6 0, .s 7 (.app 2 24 (.t 5) (.t 6)), kM 2 7]) .ret)))
theorem fq75 : FF 75 kf75 := cf (em := 21) Tryz.func75 (by kernel_rfl) (by kernel_rfl)
def kf76 : KFun := .mk 1 [.t 2] (.seq (.reg [2] [.s 2 (.mv (.c (.k .u64 (.ofNat 0))))]) (.seq (.reg [3] [kM 4 0, .s 5 (.q (.f64b (.t 4))), kM 3 5]) (.seq (.seq (.reg [8] [kM 6 3,
  .s 7 (.q (.shl (.t 6) (.c (.k .u64 (.ofNat 1))))), .s 8 (.cmk .gt (.t 7) (.c (.k .u64 (.ofNat 18437736874454810624))))]) (.cond (.t 8) (.seq (.reg [2] [.s 2
  (.mv (.c (.k .u64 (.ofNat 9221120237041090560))))]) .ret) .skip)) (.seq (.reg [2] [kM 9 3, kM 2 9]) .ret))))
theorem fq76 : FF 76 kf76 := cf (em := 269) Tryz.func76 (by kernel_rfl) (by kernel_rfl)
def kf78 : KFun := .mk 2 [.t 4] (.seq (.reg [4] [.s 4 (.mv (kI 0))]) (.seq (.seq (.reg [8] [kM 5 0, kM 6 1, .s 7 (.call 79 [(.t 5), (.t 6)]), .s 8 (.not (.t 7))]) (.cond (.t 8)
  (.seq (.reg [4] [.s 4 (.mv (kI 0))]) .ret) .skip)) (.seq (.reg [4] [kM 9 0, kC 10 9, kO 11 10 0, kL 12 11, kM 13 1, .s 14 (.ixp (.t 12) (.t 13) 3), kO 15 14 0,
  kL 16 15, kM 4 16]) .ret)))
theorem fq78 : FF 78 kf78 := cf (em := 275) Tryz.func78 (by kernel_rfl) (by kernel_rfl)
def kf79 : KFun := .mk 2 [.t 4] (.seq (.reg [4] [.s 4 (.mv (.c (.b false)))]) (.seq (.reg [4] [kM 5 1, .s 6 (.cm .ge (.t 5) (kI 0)), kM 7 6, .gs 7 true 8 (.mv (.t 1)), .gs 7 true 9
  (.mv (.t 0)), .gs 7 true 10 (.ck (.t 9)), .gs 7 true 11 (.off (.t 10) 0), .gs 7 true 12 (.ld (.t 11)), .gs 7 true 13 (.len (.t 12)), .gs 7 true 14 (.cm .lt (.t
  8) (.t 13)), .s 15 (.pick (.t 7) (.t 14) (.c (.b false))), kM 4 15]) .ret))
theorem fq79 : FF 79 kf79 := cf (em := 19) Tryz.func79 (by kernel_rfl) (by kernel_rfl)
def kf94 : KFun := .mk 1 [.t 2, .t 3] (.seq (.reg [2, 3] [.s 2 (.mv (kI 0)), .s 3 (.mv (.c (.b false)))]) (.seq (.reg [] [kM 4 0, kC 5 4, kO 6 5 3, kL 7 6, .s 8 (.ar .add (.t 7)
  (kI 1)), kC 9 4, kO 10 9 3, .n (.st (.t 10) (.t 8))]) (.seq (.drw [2, 3] [.mk 0 1 true (kM 11 0), .mk 1 3 true (kC 12 11), .mk 2 7 true (kO 13 12 0), .mk 3 15
  true (kL 14 13), .mk 4 16 true (kM 15 0), .mk 5 48 true (kC 16 15), .mk 6 112 true (kO 17 16 1), .mk 7 240 true (kL 18 17), .mk 8 271 true (kM 2 14), .mk 9
  1023 true (kM 3 18)] []) .ret)))
theorem fq94 : FF 94 kf94 := cf (em := 13) Tryz.func94 (by kernel_rfl) (by kernel_rfl)
def kf95 : KFun := .mk 1 [.t 2] (.seq (.reg [2] [.s 2 (.mv (kI 0))]) (.seq (.reg [2] [kM 3 0, kC 4 3, kO 5 4 1, kL 6 5, kM 2 6]) .ret))
theorem fq95 : FF 95 kf95 := cf (em := 5) Tryz.func95 (by kernel_rfl) (by kernel_rfl)
def kf98 : KFun := .mk 1 [.t 2] (.seq (.reg [1, 2] [.s 1 (.box (.t 0)), .s 2 (.mv (kI 0))]) (.seq (.reg [2] [kO 3 1 11, kL 4 3, .s 5 (.call 169 [(.t 4)]), kM 2 5]) .ret))
theorem fq98 : FF 98 kf98 := cf (em := 7) Tryz.func98 (by kernel_rfl) (by kernel_rfl)
def kf115 : KFun := .mk 1 [.t 2] (.seq (.reg [1, 2] [.s 1 (.box (.t 0)), .s 2 (.mv (kI 0))]) (.seq (.seq (.drw [31, 32, 33] [.mk 0 1 true (kO 5 1 0), .mk 1 3 true (kL 6 5), .mk 2 7
  true (.s 7 (.call 187 [(.t 6), (kI 4), (kI 1024)])), .mk 3 8 true (kO 8 1 1), .mk 4 24 true (kL 9 8), .mk 5 63 true (.s 10 (.call 187 [(.t 9), (kI 0), (kI
  2048)])), .mk 6 64 true (kO 11 1 2), .mk 7 192 true (kL 12 11), .mk 8 511 true (.s 13 (.call 187 [(.t 12), (kI 0), (kI 8)])), .mk 9 512 true (kO 14 1 3), .mk
  10 1536 true (kL 15 14), .mk 11 4095 true (.s 16 (.call 187 [(.t 15), (kI 1), (kI 16)])), .mk 12 4096 true (kO 17 1 4), .mk 13 12288 true (kL 18 17), .mk 14
  32767 true (.s 19 (.call 187 [(.t 18), (kI 1), (kI 8)])), .mk 15 32768 true (kO 20 1 5), .mk 16 98304 true (kL 21 20), .mk 17 262143 true (.s 22 (.call 187
  [(.t 21), (kI 0), (kI 8)])), .mk 18 262144 true (kO 23 1 6), .mk 19 786432 true (kL 24 23), .mk 20 2097151 true (.s 25 (.call 187 [(.t 24), (kI 1), (kI
  256)])), .mk 21 2097152 true (kO 26 1 7), .mk 22 6291456 true (kL 27 26), .mk 23 8388608 true (kO 28 1 0), .mk 24 25165824 true (kL 29 28), .mk 25 67108863
  true (.s 30 (.call 187 [(.t 27), (kI 0), (.t 29)])), .mk 26 134217727 false (.s 31 (.bsl [.b false] 8 (.cons 0 1 (.t 7) (.cons 1 1 (.t 10) (.cons 2 1 (.t 13)
  (.cons 3 1 (.t 16) (.cons 4 1 (.t 19) (.cons 5 1 (.t 22) (.cons 6 1 (.t 25) (.cons 7 1 (.t 30) .nil)))))))))), .mk 27 268435455 true (.s 32 (.len (.t 31))),
  .mk 28 268435456 true (.s 33 (.mv (kI 0)))] [.mk 67108864 134217727 (.s 31 (.bsl [.b false] 8 (.cons 0 1 (.t 7) (.cons 1 1 (.t 10) (.cons 2 1 (.t 13) (.cons 3
  1 (.t 16) (.cons 4 1 (.t 19) (.cons 5 1 (.t 22) (.cons 6 1 (.t 25) (.cons 7 1 (.t 30) .nil))))))))))]) (.blk 0 (.loop (.seq (.reg [34] [.s 34 (.cm .lt (.t 33)
  (.t 32))]) (.seq (.cond (.t 34) .skip (.exit 0)) (.seq (.blk 1 (.seq (.reg [4] [.s 35 (.ixp (.t 31) (.t 33) 1), kL 36 35, kM 4 36]) (.seq (.reg [38] [kM 37 4,
  .s 38 (.not (.t 37))]) (.cond (.t 38) (.seq (.reg [2] [.s 2 (.mv (kI 1))]) .ret) .skip)))) (.reg [33] [.s 39 (.ar .add (.t 33) (kI 1)), kM 33 39]))))))) (.seq
  (.seq (.reg [47] [kO 40 1 3, kL 41 40, kO 42 1 5, kL 43 42, .s 44 (.ar .mul (.t 41) (.t 43)), kO 45 1 0, kL 46 45, .s 47 (.cm .gt (.t 44) (.t 46))]) (.cond (.t
  47) (.seq (.reg [2] [.s 2 (.mv (kI 1))]) .ret) .skip)) (.seq (.seq (.reg [57] [kO 48 1 8, kL 49 48, .s 50 (.len (.t 49)), .s 51 (.call 187 [(.t 50), (kI 1),
  (kI 8)]), .s 52 (.not (.t 51)), kM 53 52, .gs 53 false 54 (.off (.t 1) 8), .gs 53 false 55 (.ld (.t 54)), .gs 53 false 56 (.call 188 [(.t 55), (.c (.fn 189 []
  []))]), .s 57 (.pick (.t 53) (.c (.b true)) (.t 56))]) (.cond (.t 57) (.seq (.reg [2] [.s 2 (.mv (kI 4))]) .ret) .skip)) (.seq (.reg [2] [.s 2 (.mv (kI 0))])
  .ret)))))
theorem fq115 : FF 115 kf115 := cf (em := 144256232654372887) Tryz.func115 (by kernel_rfl) (by kernel_rfl)
def kf116 : KFun := .mk 1 [.t 2, .t 3] (.seq (.reg [2, 3] [.s 2 (.mv (.c (.np))), .s 3 (.mv (kI 0))]) (.seq (.seq (.reg [9] [kM 4 0, .s 5 (.cm .lt (.t 4) (kI 0)), kM 6 5, .gs 6
  false 7 (.mv (.t 0)), .gs 6 false 8 (.cm .gt (.t 7) (kI 1048576)), .s 9 (.pick (.t 6) (.c (.b true)) (.t 8))]) (.cond (.t 9) (.seq (.reg [2, 3] [.s 2 (.mv (.c
  (.np))), .s 3 (.mv (kI 1))]) .ret) .skip)) (.seq (.reg [2, 3] [kM 10 0, .s 11 (.q (.mks [.z 0 0] 16 (.t 10) (.t 10))), .s 12 (.bld [.ns, .i (.ofNat 0)] (.cons
  0 1 (.t 11) .nil)), .s 13 (.box (.t 12)), kM 2 13, .s 3 (.mv (kI 0))]) .ret)))
theorem fq116 : FF 116 kf116 := cf (em := 525) Tryz.func116 (by kernel_rfl) (by kernel_rfl)
def kf117 : KFun := .mk 1 [.t 2] (.seq (.reg [1, 2] [.s 1 (.box (.t 0)), .s 2 (.mv (kI 0))]) (.seq (.reg [3] [.s 3 (.mv (kI 0))]) (.seq (.seq (.reg [7, 8] [kW 6 1 9, .s 7 (.call 191
  [(.t 6)]), .s 8 (.mv (kI 0))]) (.blk 0 (.loop (.seq (.reg [9] [.s 9 (.cm .lt (.t 8) (kI 4))]) (.seq (.cond (.t 9) .skip (.exit 0)) (.seq (.blk 1 (.seq (.reg
  [5] [.s 10 (.q (.ixa (.t 7) (.t 8) 4)), kM 5 10]) (.reg [3] [kM 11 3, kM 12 5, .s 13 (.ar .add (.t 11) (.t 12)), kM 3 13]))) (.reg [8] [.s 14 (.ar .add (.t 8)
  (kI 1)), kM 8 14]))))))) (.seq (.reg [2] [kM 15 3, kM 2 15]) .ret))))
theorem fq117 : FF 117 kf117 := cf (em := 943) Tryz.func117 (by kernel_rfl) (by kernel_rfl)
def kf118 : KFun := .mk 2 [.t 4, .t 5] (.seq (.reg [4, 5] [.s 4 (.mv (.c (.np))), .s 5 (.mv (kI 0))]) (.seq (.reg [6, 7] [kM 10 0, .s 11 (.call 192 [(.t 10)]), kM 9 11, kE 12 9 0,
  kE 13 9 1, kM 6 12, kM 7 13]) (.seq (.seq (.reg [15] [kM 14 7, .s 15 (.cm .ne (.t 14) (kI 0))]) (.cond (.t 15) (.seq (.reg [4, 5] [kM 16 7, .s 4 (.mv (.c
  (.np))), kM 5 16]) .ret) .skip)) (.seq (.reg [8, 7] [kM 18 1, .s 19 (.call 193 [(.t 18)]), kM 17 19, kE 20 17 0, kE 21 17 1, kM 8 20, kM 7 21]) (.seq (.seq
  (.reg [23] [kM 22 7, .s 23 (.cm .ne (.t 22) (kI 0))]) (.cond (.t 23) (.seq (.reg [4, 5] [kM 24 7, .s 4 (.mv (.c (.np))), kM 5 24]) .ret) .skip)) (.seq (.reg
  [4, 5] [kM 25 6, .s 26 (.bld [.np] (.cons 0 1 (.t 25) .nil)), kM 27 8, .s 28 (.bld [.np, .np, .i (.ofNat 0)] (.cons 0 1 (.t 26) (.cons 1 1 (.t 27) .nil))), .s
  29 (.box (.t 28)), kM 4 29, .s 5 (.mv (kI 0))]) .ret))))))
theorem fq118 : FF 118 kf118 := cf (em := 8421875) Tryz.func118 (by kernel_rfl) (by kernel_rfl)
def kf119 : KFun := .mk 2 [.t 4, .t 5] (.seq (.reg [2, 4, 5] [.s 2 (.box (.t 0)), .s 4 (.mv (.c (.np))), .s 5 (.mv (kI 0))]) (.seq (.seq (.reg [6] [kW 13 2 9, .s 14 (.call 115 [(.t
  13)]), kM 6 14]) (.seq (.reg [16] [kM 15 6, .s 16 (.cm .ne (.t 15) (kI 0))]) (.cond (.t 16) (.seq (.reg [4, 5] [kM 17 6, .s 4 (.mv (.c (.np))), kM 5 17]) .ret)
  .skip))) (.seq (.seq (.drw [22] [.mk 0 1 true (kM 18 1), .mk 1 3 true (.s 19 (.call 194 [(.t 18)])), .mk 2 4 true (kO 20 2 0), .mk 3 12 true (kL 21 20), .mk 4
  31 true (.s 22 (.cm .ne (.t 19) (.t 21)))] []) (.cond (.t 22) (.seq (.reg [4, 5] [.s 4 (.mv (.c (.np))), .s 5 (.mv (kI 1))]) .ret) .skip)) (.seq (.reg [7, 8]
  [kO 24 2 0, kL 25 24, .s 26 (.call 195 [(.t 25)]), kM 23 26, kE 27 23 0, kE 28 23 1, kM 7 27, kM 8 28]) (.seq (.seq (.reg [30] [kM 29 8, .s 30 (.cm .ne (.t 29)
  (kI 0))]) (.cond (.t 30) (.seq (.reg [4, 5] [kM 31 8, .s 4 (.mv (.c (.np))), kM 5 31]) .ret) .skip)) (.seq (.reg [9, 8] [kO 33 2 1, kL 34 33, .s 35 (.call 196
  [(.t 34)]), kM 32 35, kE 36 32 0, kE 37 32 1, kM 9 36, kM 8 37]) (.seq (.seq (.reg [39] [kM 38 8, .s 39 (.cm .ne (.t 38) (kI 0))]) (.cond (.t 39) (.seq (.reg
  [4, 5] [kM 40 8, .s 4 (.mv (.c (.np))), kM 5 40]) .ret) .skip)) (.seq (.reg [10] [kM 41 1, kW 42 2 9, .s 43 (.call 124 [(.t 42)]), kM 44 7, kM 45 9, .s 46
  (.call 197 []), .s 47 (.bld [.i (.ofNat 0), .i (.ofNat 0), .i (.ofNat 0), .i (.ofNat 0), .i (.ofNat 0), .i (.ofNat 0), .i (.ofNat 0), .i (.ofNat 0), .ns, .np,
  .np, .np] (.cons 0 9 (.t 43) (.cons 9 1 (.t 44) (.cons 10 1 (.t 45) (.cons 11 1 (.t 46) .nil))))), .s 48 (.bld [.np, .ns, .b false, .i (.ofNat 0), .i (.ofNat
  0), .i (.ofNat 0), .i (.ofNat 0), .i (.ofNat 0), .i (.ofNat 0), .i (.ofNat 0), .i (.ofNat 0), .i (.ofNat 0), .ns, .np, .np, .np] (.cons 0 1 (.t 41) (.cons 4 12
  (.t 47) .nil))), .s 49 (.box (.t 48)), kM 10 49]) (.seq (.seq (.reg [51, 52] [kO 50 2 3, kL 51 50, .s 52 (.mv (kI 0))]) (.blk 0 (.loop (.seq (.reg [53] [.s 53
  (.cm .lt (.t 52) (.t 51))]) (.seq (.cond (.t 53) .skip (.exit 0)) (.seq (.blk 1 (.seq (.reg [11, 12] [kO 55 2 5, kL 56 55, .s 57 (.call 198 [(.t 56)]), kM 54
  57, kE 58 54 0, kE 59 54 1, kM 11 58, kM 12 59]) (.seq (.seq (.reg [61] [kM 60 12, .s 61 (.cm .ne (.t 60) (kI 0))]) (.cond (.t 61) (.seq (.reg [4, 5] [kM 62
  12, .s 4 (.mv (.c (.np))), kM 5 62]) .ret) .skip)) (.reg [] [kM 63 10, kM 64 10, kC 65 64, kO 66 65 1, kL 67 66, kM 68 11, .s 69 (.bsl [.np] 1 (.cons 0 1 (.t
  68) .nil)), .s 70 (.app 1 8 (.t 67) (.t 69)), kC 71 63, kO 72 71 1, .n (.st (.t 72) (.t 70))])))) (.reg [52] [.s 73 (.ar .add (.t 52) (kI 1)), kM 52 73])))))))
  (.seq (.reg [4, 5] [kM 74 10, kM 4 74, .s 5 (.mv (kI 0))]) .ret))))))))))
theorem fq119 : FF 119 kf119 := cf (em := 2321606158743314423) Tryz.func119 (by kernel_rfl) (by kernel_rfl)
def kf120 : KFun := .mk 1 [.t 2, .t 3] (.seq (.reg [2, 3] [.s 2 (.mv (.c (.np))), .s 3 (.mv (kI 0))]) (.seq (.seq (.reg [11] [kM 6 0, .s 7 (.cm .lt (.t 6) (kI 1)), kM 8 7, .gs 8
  false 9 (.mv (.t 0)), .gs 8 false 10 (.cm .gt (.t 9) (kI 16)), .s 11 (.pick (.t 8) (.c (.b true)) (.t 10))]) (.cond (.t 11) (.seq (.reg [2, 3] [.s 2 (.mv (.c
  (.np))), .s 3 (.mv (kI 1))]) .ret) .skip)) (.seq (.reg [4] [kM 12 0, .s 13 (.q (.mks [.i (.ofNat 0)] 8 (.t 12) (.t 12))), .s 14 (.bld [.i (.ofNat 0), .b false,
  .ns, .i (.ofNat 0)] (.cons 2 1 (.t 13) .nil)), .s 15 (.box (.t 14)), kM 4 15]) (.seq (.seq (.reg [20, 21] [kM 16 4, kC 17 16, kO 18 17 2, kL 19 18, .s 20 (.len
  (.t 19)), .s 21 (.mv (kI 0))]) (.blk 0 (.loop (.seq (.reg [22] [.s 22 (.cm .lt (.t 21) (.t 20))]) (.seq (.cond (.t 22) .skip (.exit 0)) (.seq (.blk 1 (.seq
  (.reg [5] [kM 23 21, kM 5 23]) (.reg [] [kM 24 4, kC 25 24, kO 26 25 2, kL 27 26, kM 28 5, .s 29 (.ixp (.t 27) (.t 28) 1), .n (.st (.t 29) (.c (.i (.negSucc
  0))))]))) (.reg [21] [.s 30 (.ar .add (.t 21) (kI 1)), kM 21 30]))))))) (.seq (.reg [2, 3] [kM 31 4, kM 2 31, .s 3 (.mv (kI 0))]) .ret)))))
theorem fq120 : FF 120 kf120 := cf (em := 7342141) Tryz.func120 (by kernel_rfl) (by kernel_rfl)
def kf121 : KFun := .mk 2 [.t 4, .t 5] (.seq (.reg [2, 4, 5] [.s 2 (.box (.t 0)), .s 4 (.mv (kI 0)), .s 5 (.mv (kI 0))]) (.seq (.reg [4, 5] [kW 6 2 9, kM 7 1, .s 8 (.call 199 [(.t
  6), (kI 4), (.t 7)]), kE 9 8 0, kE 10 8 1, kM 4 9, kM 5 10]) .ret))
theorem fq121 : FF 121 kf121 := cf (em := 55) Tryz.func121 (by kernel_rfl) (by kernel_rfl)
def kf122 : KFun := .mk 3 [] (.seq (.reg [8] [kM 6 0, kM 7 1, .s 8 (.call 200 [(.t 6), (.t 7)])]) (.cond (.t 8) (.reg [] [kM 9 0, kC 10 9, kO 11 10 0, kL 12 11, kM 13 1, kM 14 2, .s
  15 (.ixp (.t 12) (.t 13) 1), .n (.st (.t 15) (.t 14))]) .skip))
theorem fq122 : FF 122 kf122 := cf (em := 263) Tryz.func122 (by kernel_rfl) (by kernel_rfl)
def kf123 : KFun := .mk 0 [.t 0] (.seq (.reg [0] [.s 0 (.mv (.c (.z 0 0)))]) (.seq (.reg [0] [.s 0 (.mv (.c (.z 0 4607182418800017408)))]) .ret))
theorem fq123 : FF 123 kf123 := cf (em := 1) Tryz.func123 (by kernel_rfl) (by kernel_rfl)
def kf124 : KFun := .mk 1 [.cn 2 9] (.seq (.reg [1, 2] [.s 1 (.box (.t 0)), .s 2 (.new [.i (.ofNat 0), .i (.ofNat 0), .i (.ofNat 0), .i (.ofNat 0), .i (.ofNat 0), .i (.ofNat 0), .i
  (.ofNat 0), .i (.ofNat 0), .ns])]) (.seq (.reg [3] [.s 3 (.mv (.c (.ns)))]) (.seq (.seq (.reg [7, 8, 9] [kO 6 1 8, kL 7 6, .s 8 (.len (.t 7)), .s 9 (.mv (kI
  0))]) (.blk 0 (.loop (.seq (.reg [10] [.s 10 (.cm .lt (.t 9) (.t 8))]) (.seq (.cond (.t 10) .skip (.exit 0)) (.seq (.blk 1 (.seq (.reg [5] [.s 11 (.ixp (.t 7)
  (.t 9) 2), kW 12 11 2, .s 5 (.new [.b false, .ns]), .n (.stn (.t 5) (.t 12) 2)]) (.reg [3] [kM 13 3, kW 14 5 2, .s 15 (.call 201 [(.t 14)]), .s 16 (.bsl [.b
  false, .ns] 1 (.cons 0 2 (.t 15) .nil)), .s 17 (.app 2 32 (.t 13) (.t 16)), kM 3 17]))) (.reg [9] [.s 18 (.ar .add (.t 9) (kI 1)), kM 9 18]))))))) (.seq (.reg
  [] [kM 19 3, kO 20 1 8, .n (.st (.t 20) (.t 19))]) (.seq (.reg [] [kW 21 1 9, .n (.stn (.t 2) (.t 21) 9)]) .ret)))))
theorem fq124 : FF 124 kf124 := cf (em := 1967) Tryz.func124 (by kernel_rfl) (by kernel_rfl)
def kf125 : KFun := .mk 1 [.t 2] (.seq (.reg [2] [.s 2 (.mv (.c (.ns)))]) (.seq (.seq (.reg [4] [kM 3 0, .s 4 (.nils true (.t 3))]) (.cond (.t 4) (.seq (.reg [2] [.s 2 (.mv (.c
  (.ns)))]) .ret) .skip)) (.seq (.reg [2] [.s 5 (.bsl [.i (.ofNat 0), .i (.ofNat 0), .i (.ofNat 0), .i (.ofNat 0), .i (.ofNat 0), .z 0 0] 0 .nil), kM 6 0, .s 7
  (.app 6 56 (.t 5) (.t 6)), kM 2 7]) .ret)))
theorem fq125 : FF 125 kf125 := cf (em := 21) Tryz.func125 (by kernel_rfl) (by kernel_rfl)
def kf126 : KFun := .mk 1 [.t 2] (.seq (.reg [2] [.s 2 (.mv (kI 0))]) (.seq (.reg [2] [kM 3 0, kC 4 3, kO 5 4 1, kL 6 5, kM 2 6]) .ret))
theorem fq126 : FF 126 kf126 := cf (em := 5) Tryz.func126 (by kernel_rfl) (by kernel_rfl)
def kf127 : KFun := .mk 1 [.t 2] (.seq (.reg [2] [.s 2 (.mv (kI 0))]) (.seq (.reg [2] [kM 3 0, kC 4 3, kO 5 4 2, kL 6 5, kM 2 6]) .ret))
theorem fq127 : FF 127 kf127 := cf (em := 5) Tryz.func127 (by kernel_rfl) (by kernel_rfl)
def kf128 : KFun := .mk 1 [.t 2] (.seq (.reg [2] [.s 2 (.mv (kI 0))]) (.seq (.reg [2] [kM 3 0, kC 4 3, kO 5 4 3, kL 6 5, kM 2 6]) .ret))
theorem fq128 : FF 128 kf128 := cf (em := 5) Tryz.func128 (by kernel_rfl) (by kernel_rfl)
def kf129 : KFun := .mk 1 [.t 2] (.seq (.reg [2] [.s 2 (.mv (kI 0))]) (.seq (.reg [2] [kM 3 0, kC 4 3, kO 5 4 3, kL 6 5, kM 2 6]) .ret))
theorem fq129 : FF 129 kf129 := cf (em := 5) Tryz.func129 (by kernel_rfl) (by kernel_rfl)
def kf130 : KFun := .mk 2 [.t 4] (.seq (.reg [4] [.s 4 (.mv (.c (.b false)))]) (.seq (.reg [5, 6] [kM 12 1, kC 13 12, kO 14 13 12, kL 15 14, .s 16 (.call 94 [(.t 15)]), kM 11 16, kE
  17 11 0, kE 18 11 1, kM 5 17, kM 6 18]) (.seq (.seq (.reg [24] [kM 19 5, kM 20 0, kC 21 20, kO 22 21 4, kL 23 22, .s 24 (.cm .eq (.t 19) (.t 23))]) (.cond (.t
  24) (.seq (.reg [4] [.s 4 (.mv (.c (.b true)))]) .ret) .skip)) (.seq (.reg [] [kM 25 0, kM 26 0, kM 27 0, kM 28 5, kC 29 25, kO 30 29 8, .n (.st (.t 30) (.t
  28)), kC 31 26, kO 32 31 9, .n (.st (.t 32) (.c (.ns))), kC 33 27, kO 34 33 7, .n (.st (.t 34) (kI 2))]) (.seq (.seq (.reg [35] [kM 35 5]) (.blk 0 (.seq (.reg
  [36] [.s 37 (.cm .eq (.t 35) (kI 1)), kM 36 37]) (.cond (.t 36) (.reg [] [kM 38 0, kM 39 6, kC 40 38, kO 41 40 5, .n (.st (.t 41) (.t 39))]) (.seq (.reg [42]
  [.s 43 (.cm .eq (.t 35) (kI 3)), kM 42 43]) (.cond (.t 42) (.seq (.reg [47, 48, 49] [kM 44 0, kC 45 44, kO 46 45 2, kL 47 46, .s 48 (.len (.t 47)), .s 49 (.mv
  (kI 0))]) (.blk 1 (.loop (.seq (.reg [50] [.s 50 (.cm .lt (.t 49) (.t 48))]) (.seq (.cond (.t 50) .skip (.exit 1)) (.seq (.blk 2 (.seq (.reg [8] [.s 51 (.ixp
  (.t 47) (.t 49) 2), kW 52 51 2, .s 8 (.new [.b false, .z 0 0]), .n (.stn (.t 8) (.t 52) 2)]) (.seq (.reg [9, 10] [kO 54 8 1, kL 55 54, .s 56 (.call 150 [(.t
  55)]), kM 53 56, kE 57 53 0, kE 58 53 1, kM 9 57, kM 10 58]) (.seq (.reg [63] [kO 59 8 0, kL 60 59, kM 61 60, .gs 61 true 62 (.mv (.t 10)), .s 63 (.pick (.t
  61) (.t 62) (.c (.b false)))]) (.cond (.t 63) (.seq (.reg [] [kM 64 0, kM 65 0, kC 66 65, kO 67 66 9, kL 68 67, kM 69 9, .s 70 (.bsl [.i (.ofNat 0)] 1 (.cons 0
  1 (.t 69) .nil)), .s 71 (.app 1 8 (.t 68) (.t 70)), kC 72 64, kO 73 72 9, .n (.st (.t 73) (.t 71))]) (.reg [] [kM 74 0, kC 75 74, kO 76 75 7, .n (.st (.t 76)
  (kI 1))])) .skip))))) (.reg [49] [.s 77 (.ar .add (.t 49) (kI 1)), kM 49 77]))))))) .skip)))))) (.seq (.reg [4] [.s 4 (.mv (.c (.b false)))]) .ret))))))
theorem fq130 : FF 130 kf130 := cf (em := 9225487600322611059) Tryz.func130 (by kernel_rfl) (by kernel_rfl)
def kf132 : KFun := .mk 2 [.t 4] (.seq (.reg [4] [.s 4 (.mv (kI 0))]) (.seq (.reg [] [kM 9 0, kC 10 9, kO 11 10 3, kL 12 11, .s 13 (.ar .add (.t 12) (kI 1)), kC 14 9, kO 15 14 3, .n
  (.st (.t 15) (.t 13))]) (.seq (.reg [5] [kM 16 0, kM 17 1, .s 18 (.call 203 [(.t 16), (.t 17)]), kM 5 18]) (.seq (.seq (.reg [20] [kM 19 5, .s 20 (.nilp true
  (.t 19))]) (.cond (.t 20) (.seq (.reg [4] [.s 4 (.mv (kI 0))]) .ret) .skip)) (.seq (.reg [6] [kM 21 5, .s 22 (.call 204 [(.t 21)]), kM 6 22]) (.seq (.seq (.reg
  [23, 24, 25] [kM 23 6, .s 24 (.len (.t 23)), .s 25 (.mv (kI 0))]) (.blk 0 (.loop (.seq (.reg [26] [.s 26 (.cm .lt (.t 25) (.t 24))]) (.seq (.cond (.t 26) .skip
  (.exit 0)) (.seq (.blk 1 (.seq (.reg [8] [.s 27 (.ixp (.t 23) (.t 25) 1), kL 28 27, kM 8 28]) (.reg [] [kM 29 0, kM 30 8, .s 31 (.call 205 [(.t 29), (.t
  30)])]))) (.reg [25] [.s 32 (.ar .add (.t 25) (kI 1)), kM 25 32]))))))) (.seq (.reg [4] [kM 33 6, .s 34 (.len (.t 33)), kM 4 34]) .ret)))))))
theorem fq132 : FF 132 kf132 := cf (em := 126878067) Tryz.func132 (by kernel_rfl) (by kernel_rfl)
def kf133 : KFun := .mk 2 [] (.seq (.drw [] [.mk 0 1 true (kM 4 1), .mk 1 3 true (kC 5 4), .mk 2 7 true (kO 6 5 12), .mk 3 15 true (kL 7 6), .mk 4 16 true (kM 8 0), .mk 5 48 true
  (kC 9 8), .mk 6 112 true (kO 10 9 0), .mk 7 240 true (kL 11 10), .mk 8 511 false (.s 12 (.call 206 [(.t 7), (.t 11)]))] [.mk 256 511 (.s 12 (.call 206 [(.t 7),
  (.t 11)]))]) (.seq (.reg [] [kM 13 0, kC 14 13, kO 15 14 3, .n (.st (.t 15) (kI 4))]) (.reg [] [kM 16 0, kC 17 16, kO 18 17 2, kL 19 18, .n (.q (.clr [.b
  false, .z 0 0] (.t 19)))])))
theorem fq133 : FF 133 kf133 := cf (em := 3) Tryz.func133 (by kernel_rfl) (by kernel_rfl)
def kf134 : KFun := .mk 3 [.cn 6 5, .t 7] (.seq (.reg [5, 6, 7] [.s 5 (.box (.t 2)), .s 6 (.new [.i (.ofNat 0), .i (.ofNat 0), .i (.ofNat 0), .b false, .z 0 0]), .s 7 (.mv (.c (.b
  false)))]) (.seq (.drw [8] [.mk 0 1 true (kM 11 1), .mk 1 3 true (kC 12 11), .mk 2 7 true (kO 13 12 0), .mk 3 15 true (kW 14 13 9), .mk 4 16 true (kW 15 5 6),
  .mk 5 63 false (.s 16 (.call 207 [(.t 14), (.t 15)])), .mk 6 127 true (kM 8 16)] [.mk 32 63 (.s 16 (.call 207 [(.t 14), (.t 15)]))]) (.seq (.seq (.reg [18] [kM
  17 8, .s 18 (.cm .eq (.t 17) (kI 0))]) (.cond (.t 18) (.reg [8] [kM 19 0, kW 20 5 6, .s 21 (.call 208 [(.t 19), (.t 20)]), kM 8 21]) .skip)) (.seq (.seq (.reg
  [23] [kM 22 8, .s 23 (.cm .ne (.t 22) (kI 0))]) (.cond (.t 23) (.seq (.reg [7] [kM 24 0, kM 25 8, .s 26 (.call 144 [(.t 24), (.t 25)]), kE 27 26 0, kE 28 26 1,
  .n (.stn (.t 6) (.t 27) 5), kM 7 28]) .ret) .skip)) (.seq (.seq (.reg [9, 10] [kM 30 0, kW 31 5 6, .s 32 (.call 209 [(.t 30), (.t 31)]), kM 29 32, kE 33 29 0,
  kE 34 29 1, .s 9 (.new [.b false, .z 0 0]), .n (.stn (.t 9) (.t 33) 2), kM 10 34]) (.seq (.reg [35] [kM 35 10]) (.cond (.t 35) (.seq (.reg [7] [kM 36 0, kO 37
  5 1, kL 38 37, kW 39 9 2, .s 40 (.call 210 [(.t 36), (.t 38), (.t 39)]), kE 41 40 0, kE 42 40 1, .n (.stn (.t 6) (.t 41) 5), kM 7 42]) .ret) .skip))) (.seq
  (.seq (.reg [44] [kO 43 5 0, kL 44 43]) (.blk 0 (.seq (.seq (.reg [45] [.s 46 (.cm .eq (.t 44) (kI 1)), kM 45 46]) (.cond (.t 45) .skip (.reg [45] [.s 47 (.cm
  .eq (.t 44) (kI 2)), kM 45 47]))) (.cond (.t 45) (.seq (.reg [7] [kM 48 0, kM 49 1, kW 50 5 6, .s 51 (.call 211 [(.t 48), (.t 49), (.t 50)]), kE 52 51 0, kE 53
  51 1, .n (.stn (.t 6) (.t 52) 5), kM 7 53]) .ret) (.seq (.seq (.reg [54] [.s 55 (.cm .eq (.t 44) (kI 3)), kM 54 55]) (.cond (.t 54) .skip (.seq (.reg [54] [.s
  56 (.cm .eq (.t 44) (kI 4)), kM 54 56]) (.cond (.t 54) .skip (.seq (.reg [54] [.s 57 (.cm .eq (.t 44) (kI 5)), kM 54 57]) (.cond (.t 54) .skip (.reg [54] [.s
  58 (.cm .eq (.t 44) (kI 6)), kM 54 58]))))))) (.cond (.t 54) (.seq (.reg [] [kM 59 0, kM 60 1, kW 61 5 6, kM 62 0, .s 63 (.q (.mkf 213 [(.t 62)] [])), .s 64
  (.call 212 [(.t 60), (.t 61), (.t 63)]), kC 65 59, kO 66 65 10, kO 67 66 2, .n (.st (.t 67) (.t 64))]) (.seq (.reg [7] [kM 68 0, kM 69 1, kW 70 5 6, .s 71
  (.call 135 [(.t 68), (.t 69), (.t 70)]), kE 72 71 0, kE 73 71 1, .n (.stn (.t 6) (.t 72) 5), kM 7 73]) .ret)) (.seq (.seq (.reg [74] [.s 75 (.cm .eq (.t 44)
  (kI 7)), kM 74 75]) (.cond (.t 74) .skip (.reg [74] [.s 76 (.cm .eq (.t 44) (kI 8)), kM 74 76]))) (.cond (.t 74) (.seq (.drw [] [.mk 0 1 true (kM 78 0), .mk 1
  2 true (kM 79 1), .mk 2 6 true (kC 80 79), .mk 3 14 true (kO 81 80 0), .mk 4 30 true (kW 82 81 9), .mk 5 32 true (kO 83 5 4), .mk 6 96 true (kL 84 83), .mk 7
  254 false (.s 85 (.call 121 [(.t 82), (.t 84)])), .mk 8 510 true (kM 77 85), .mk 9 1022 true (kE 86 77 0), .mk 10 1534 true (kE 87 77 1), .mk 11 3071 true (kC
  88 78), .mk 12 7167 true (kO 89 88 10), .mk 13 15359 true (kO 90 89 3), .mk 14 31743 false (.n (.st (.t 90) (.t 86)))] [.mk 16512 254 (.s 85 (.call 121 [(.t
  82), (.t 84)])), .mk 16384 31743 (.n (.st (.t 90) (.t 86)))]) (.seq (.seq (.reg [] [kM 91 0, kC 92 91, kO 93 92 10, kO 94 93 4, .n (.st (.t 94) (.c (.b
  true)))]) (.seq (.reg [97] [kO 95 5 0, kL 96 95, .s 97 (.cm .eq (.t 96) (kI 7))]) (.cond (.t 97) (.seq (.reg [7] [kM 98 0, kM 99 1, kW 100 5 6, .s 101 (.call
  136 [(.t 98), (.t 99), (.t 100)]), kE 102 101 0, kE 103 101 1, .n (.stn (.t 6) (.t 102) 5), kM 7 103]) .ret) .skip))) (.seq (.reg [] [kM 104 0, kW 105 5 6, .s
  106 (.call 214 [(.t 104), (.t 105)])]) (.seq (.reg [7] [kM 107 0, kM 108 1, .s 109 (.call 141 [(.t 107), (.t 108)]), kE 110 109 0, kE 111 109 1, .n (.stn (.t
  6) (.t 110) 5), kM 7 111]) .ret)))) (.seq (.seq (.reg [112] [.s 113 (.cm .eq (.t 44) (kI 10)), kM 112 113]) (.cond (.t 112) .skip (.reg [112] [.s 114 (.cm .eq
  (.t 44) (kI 11)), kM 112 114]))) (.cond (.t 112) (.seq (.reg [7] [kM 115 0, kM 116 1, kW 117 5 6, .s 118 (.call 215 [(.t 115), (.t 116), (.t 117)]), kE 119 118
  0, kE 120 118 1, .n (.stn (.t 6) (.t 119) 5), kM 7 120]) .ret) (.seq (.reg [121] [.s 122 (.cm .eq (.t 44) (kI 17)), kM 121 122]) (.cond (.t 121) (.seq (.reg []
  [kM 123 1, kC 124 123, kO 125 124 11, kL 126 125, .s 127 (.call 34 [(.t 126)])]) (.seq (.reg [7] [kM 128 0, .s 129 (.bld [.b false, .z 0 0] .nil), .s 130
  (.call 140 [(.t 128), (.t 129), (kI 0)]), kE 131 130 0, kE 132 130 1, .n (.stn (.t 6) (.t 131) 5), kM 7 132]) .ret)) .skip)))))))))))) (.seq (.drw [] [.mk 0 1
  true (kM 133 1), .mk 1 3 true (kC 134 133), .mk 2 7 true (kO 135 134 11), .mk 3 15 true (kL 136 135), .mk 4 16 true (kM 137 0), .mk 5 48 true (kC 138 137), .mk
  6 112 true (kO 139 138 0), .mk 7 240 true (kL 140 139), .mk 8 511 false (.s 141 (.call 132 [(.t 136), (.t 140)]))] [.mk 256 511 (.s 141 (.call 132 [(.t 136),
  (.t 140)]))]) (.seq (.reg [] [kM 142 0, kC 143 142, kO 144 143 10, kO 145 144 1, .n (.st (.t 145) (kI 10))]) (.seq (.reg [7] [.s 146 (.bld [.i (.ofNat 0), .i
  (.ofNat 0), .i (.ofNat 0), .b false, .z 0 0] .nil), .n (.stn (.t 6) (.t 146) 5), .s 7 (.mv (.c (.b false)))]) .ret)))))))))
theorem fq134 : FF 134 kf134 := cf (em := 2663648446884710491448818491994671079) Tryz.func134 (by kernel_rfl) (by kernel_rfl)
def kf137 : KFun := .mk 2 [.cn 4 5, .t 5] (.seq (.reg [4, 5] [.s 4 (.new [.i (.ofNat 0), .i (.ofNat 0), .i (.ofNat 0), .b false, .z 0 0]), .s 5 (.mv (.c (.b false)))]) (.seq (.seq
  (.drw [27] [.mk 0 1 true (kM 6 1), .mk 1 3 true (kC 7 6), .mk 2 7 true (kO 8 7 9), .mk 3 15 true (kL 9 8), .mk 4 16 true (kM 10 0), .mk 5 48 true (kC 11 10),
  .mk 6 112 true (kO 12 11 10), .mk 7 240 true (kO 13 12 8), .mk 8 496 true (kL 14 13), .mk 9 1008 true (.s 15 (.ixp (.t 14) (kI 0) 2)), .mk 10 2032 true (kO 16
  15 0), .mk 11 4080 true (kL 17 16), .mk 12 4096 true (kM 18 0), .mk 13 12288 true (kC 19 18), .mk 14 28672 true (kO 20 19 10), .mk 15 61440 true (kO 21 20 8),
  .mk 16 126976 true (kL 22 21), .mk 17 258048 true (.s 23 (.ixp (.t 22) (kI 0) 2)), .mk 18 520192 true (kO 24 23 1), .mk 19 1044480 true (kL 25 24), .mk 20
  2097151 false (.s 26 (.call 221 [(.t 9), (.t 17), (.t 25)])), .mk 21 4194303 true (.s 27 (.cm .ne (.t 26) (kI 0)))] [.mk 1048576 2097151 (.s 26 (.call 221 [(.t
  9), (.t 17), (.t 25)]))]) (.cond (.t 27) (.seq (.reg [5] [kM 28 0, .s 29 (.call 144 [(.t 28), (kI 10)]), kE 30 29 0, kE 31 29 1, .n (.stn (.t 4) (.t 30) 5), kM
  5 31]) .ret) .skip)) (.seq (.seq (.reg [] [kM 32 0, kM 33 0, kC 34 33, kO 35 34 10, kO 36 35 8, kL 37 36, .s 38 (.q (.sli (.t 37) 2 (.ok (kI 1)) .no)), kC 39
  32, kO 40 39 10, kO 41 40 8, .n (.st (.t 41) (.t 38))]) (.seq (.reg [48] [kM 42 0, kC 43 42, kO 44 43 10, kO 45 44 8, kL 46 45, .s 47 (.len (.t 46)), .s 48
  (.cm .eq (.t 47) (kI 0))]) (.cond (.t 48) (.reg [] [kM 49 0, kC 50 49, kO 51 50 10, kO 52 51 1, .n (.st (.t 52) (kI 8))]) .skip))) (.seq (.reg [5] [.s 53 (.bld
  [.i (.ofNat 0), .i (.ofNat 0), .i (.ofNat 0), .b false, .z 0 0] .nil), .n (.stn (.t 4) (.t 53) 5), .s 5 (.mv (.c (.b false)))]) .ret))))
theorem fq137 : FF 137 kf137 := cf (em := 281475110928435) Tryz.func137 (by kernel_rfl) (by kernel_rfl)
def kf138 : KFun := .mk 3 [.cn 6 5, .t 7] (.seq (.reg [5, 6, 7] [.s 5 (.box (.t 2)), .s 6 (.new [.i (.ofNat 0), .i (.ofNat 0), .i (.ofNat 0), .b false, .z 0 0]), .s 7 (.mv (.c (.b
  false)))]) (.seq (.seq (.drw [20] [.mk 0 1 true (kM 8 1), .mk 1 3 true (kC 9 8), .mk 2 7 true (kO 10 9 11), .mk 3 15 true (kL 11 10), .mk 4 16 true (kM 12 0),
  .mk 5 48 true (kC 13 12), .mk 6 112 true (kO 14 13 10), .mk 7 240 true (kO 15 14 7), .mk 8 496 true (kL 16 15), .mk 9 1008 true (.s 17 (.ixp (.t 16) (kI 0)
  1)), .mk 10 2032 true (kL 18 17), .mk 11 4095 false (.s 19 (.call 222 [(.t 11), (.t 18)])), .mk 12 8191 true (.s 20 (.not (.t 19)))] [.mk 2048 4095 (.s 19
  (.call 222 [(.t 11), (.t 18)]))]) (.cond (.t 20) (.seq (.reg [7] [kM 21 0, .s 22 (.call 144 [(.t 21), (kI 10)]), kE 23 22 0, kE 24 22 1, .n (.stn (.t 6) (.t
  23) 5), kM 7 24]) .ret) .skip)) (.seq (.drw [7] [.mk 0 1 true (kM 25 0), .mk 1 2 true (kO 26 5 1), .mk 2 6 true (kL 27 26), .mk 3 8 true (kM 28 0), .mk 4 24
  true (kC 29 28), .mk 5 56 true (kO 30 29 10), .mk 6 120 true (kO 31 30 7), .mk 7 248 true (kL 32 31), .mk 8 504 true (.s 33 (.ixp (.t 32) (kI 0) 1)), .mk 9
  1016 true (kL 34 33), .mk 10 2040 true (.s 35 (.call 223 [(.t 34)])), .mk 11 4088 true (.s 36 (.bld [.b false, .z 0 0] (.cons 0 1 (.c (.b true)) (.cons 1 1 (.t
  35) .nil)))), .mk 12 8191 false (.s 37 (.call 210 [(.t 25), (.t 27), (.t 36)])), .mk 13 16383 true (kE 38 37 0), .mk 14 24575 true (kE 39 37 1), .mk 15 65535
  false (.n (.stn (.t 6) (.t 38) 5)), .mk 16 131071 true (kM 7 39)] [.mk 36864 8191 (.s 37 (.call 210 [(.t 25), (.t 27), (.t 36)])), .mk 32768 65535 (.n (.stn
  (.t 6) (.t 38) 5))]) .ret)))
theorem fq138 : FF 138 kf138 := cf (em := 1048807) Tryz.func138 (by kernel_rfl) (by kernel_rfl)
def kf140 : KFun := .mk 3 [.cn 6 5, .t 7] (.seq (.reg [4, 6, 7] [.s 4 (.box (.t 1)), .s 6 (.new [.i (.ofNat 0), .i (.ofNat 0), .i (.ofNat 0), .b false, .z 0 0]), .s 7 (.mv (.c (.b
  false)))]) (.seq (.drw [8] [.mk 0 1 true (kM 9 0), .mk 1 3 true (kC 10 9), .mk 2 7 true (kO 11 10 6), .mk 3 15 true (kL 12 11), .mk 4 16 true (kM 13 0), .mk 5
  48 true (kC 14 13), .mk 6 112 true (kO 15 14 10), .mk 7 240 true (kO 16 15 0), .mk 8 496 true (kL 17 16), .mk 9 512 true (kM 18 2), .mk 10 2047 true (.s 19
  (.bld [.i (.ofNat 0), .i (.ofNat 0), .i (.ofNat 0), .b false, .z 0 0] (.cons 0 1 (.t 12) (.cons 1 1 (.t 17) (.cons 2 1 (.t 18) .nil))))), .mk 11 2048 false (.s
  8 (.new [.i (.ofNat 0), .i (.ofNat 0), .i (.ofNat 0), .b false, .z 0 0])), .mk 12 8191 false (.n (.stn (.t 8) (.t 19) 5))] [.mk 6144 2048 (.s 8 (.new [.i
  (.ofNat 0), .i (.ofNat 0), .i (.ofNat 0), .b false, .z 0 0])), .mk 4096 8191 (.n (.stn (.t 8) (.t 19) 5))]) (.seq (.seq (.reg [21] [kM 20 2, .s 21 (.cm .eq (.t
  20) (kI 0))]) (.cond (.t 21) (.reg [] [kW 22 4 2, kO 23 8 3, .n (.stn (.t 23) (.t 22) 2)]) .skip)) (.seq (.reg [] [kM 24 0, kC 25 24, kO 26 25 6, kL 27 26, .s
  28 (.ar .add (.t 27) (kI 1)), kC 29 24, kO 30 29 6, .n (.st (.t 30) (.t 28))]) (.seq (.seq (.reg [35] [kM 31 0, kC 32 31, kO 33 32 3, kL 34 33, .s 35 (.cm .ne
  (.t 34) (kI 4))]) (.cond (.t 35) (.reg [] [kM 36 0, kM 37 0, kC 38 36, kO 39 38 3, .n (.st (.t 39) (kI 1)), kC 40 37, kO 41 40 7, .n (.st (.t 41) (kI 0))])
  .skip)) (.seq (.reg [7] [kW 42 8 5, .n (.stn (.t 6) (.t 42) 5), .s 7 (.mv (.c (.b true)))]) .ret))))))
theorem fq140 : FF 140 kf140 := cf (em := 34361835991) Tryz.func140 (by kernel_rfl) (by kernel_rfl)
end Go.Kx
