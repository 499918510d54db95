/-
  Functions of the program in the evaluator's form; that this is right. Printed by a program of ours.
-/
import Derived.Test.YtkggojngcnkabaaGreatB11
set_option linter.unusedVariables false
set_option linter.unusedSimpArgs false
set_option maxRecDepth 100000
namespace Go.Kx
open Go.Proofs
def kf314 : KFun := .mk 5 [.cn 10 2, .t 11] (.seq (.reg [5, 10, 11] [.s 5 (.box (.t 0)), .s 10 (.new [.b false, .ns]), .s 11 (.mv (kI 0))]) (.scope (.seq (.reg [12, 13] [kW 18 5 9,
  kM 19 4, .s 20 (.call 358 [(.t 18), (.t 19)]), kM 17 20, kE 21 17 0, kE 22 17 1, kM 12 21, kM 13 22]) (.seq (.reg [14, 15] [kW 24 5 9, kM 25 1, .s 26 (.call
  173 [(.t 24), (.t 25)]), kM 23 26, kE 27 23 0, kE 28 23 1, .s 14 (.new [.b false, .ns]), .n (.stn (.t 14) (.t 27) 2), kM 15 28]) (.seq (.reg [16] [.s 16 (.mv
  (kI 0))]) (.seq (.seq (.reg [34] [kW 29 5 9, .s 30 (.call 115 [(.t 29)]), .s 31 (.cm .ne (.t 30) (kI 0)), kM 32 31, .gs 32 false 33 (.mv (.t 12)), .s 34 (.pick
  (.t 32) (.c (.b true)) (.t 33))]) (.cond (.t 34) (.seq (.reg [16] [.s 16 (.mv (kI 1))]) (.goto 0)) .skip)) (.seq (.seq (.reg [42] [kM 35 15, .s 36 (.not (.t
  35)), kM 37 36, .gs 37 false 38 (.off (.t 14) 0), .gs 37 false 39 (.ld (.t 38)), .gs 37 false 40 (.mv (.t 3)), .gs 37 false 41 (.bne (.t 39) (.t 40)), .s 42
  (.pick (.t 37) (.c (.b true)) (.t 41))]) (.cond (.t 42) (.seq (.reg [16] [.s 16 (.mv (kI 4))]) (.goto 0)) .skip)) (.seq (.seq (.reg [46] [kW 43 14 2, kM 44 2,
  .s 45 (.call 259 [(.t 43), (.t 44)]), .s 46 (.cm .lt (.t 45) (kI 0))]) (.cond (.t 46) (.seq (.reg [16] [.s 16 (.mv (kI 5))]) (.goto 0)) .skip)) (.seq (.seq
  (.reg [55] [kM 47 4, .s 48 (.len (.t 47)), kW 49 14 2, kM 50 2, .s 51 (.call 259 [(.t 49), (.t 50)]), .s 52 (.cm .ne (.t 48) (.t 51)), kM 53 52, .gs 53 false
  54 (.mv (.t 13)), .s 55 (.pick (.t 53) (.c (.b true)) (.t 54))]) (.cond (.t 55) (.reg [16] [.s 16 (.mv (kI 2))]) .skip)) (.seq (.label 0) (.seq (.reg [11] [kW
  56 14 2, kM 57 16, .n (.stn (.t 10) (.t 56) 2), kM 11 57]) .ret)))))))))))
theorem fq314 : FF 314 kf314 := cf (em := 36103580989652031) Tryz.func314 (by kernel_rfl) (by kernel_rfl)
def kf315 : KFun := .mk 2 [.t 4] (.seq (.reg [4] [.s 4 (.mv (.c (.z 0 0)))]) (.seq (.seq (.reg [18] [kM 5 0, .s 6 (.cm .lt (.t 5) (kI 0)), kM 7 6, .gs 7 false 8 (.mv (.t 0)), .gs 7
  false 9 (.cm .gt (.t 8) (kI 1099511627776)), .s 10 (.pick (.t 7) (.c (.b true)) (.t 9)), kM 11 10, .gs 11 false 12 (.mv (.t 1)), .gs 11 false 13 (.cm .lt (.t
  12) (kI 0)), .s 14 (.pick (.t 11) (.c (.b true)) (.t 13)), kM 15 14, .gs 15 false 16 (.mv (.t 1)), .gs 15 false 17 (.cm .gt (.t 16) (kI 1099511627776)), .s 18
  (.pick (.t 15) (.c (.b true)) (.t 17))]) (.cond (.t 18) (.seq (.reg [4] [.s 4 (.mv (.c (.z 0 0)))]) .ret) .skip)) (.seq (.reg [4] [kM 19 0, .s 20 (.q (.cif (.t
  19))), kM 21 1, .s 22 (.q (.cif (.t 21))), .s 23 (.q (.cplx (.t 20) (.t 22))), kM 4 23]) .ret)))
theorem fq315 : FF 315 kf315 := cf (em := 262163) Tryz.func315 (by kernel_rfl) (by kernel_rfl)
def kf316 : KFun := .mk 1 [.t 2] (.seq (.reg [2] [.s 2 (.mv (.c (.b false)))]) (.seq (.seq (.reg [3] [.s 3 (.mv (kI 1))]) (.blk 0 (.loop (.seq (.seq (.reg [7] [kM 4 3, kM 5 0, .s 6
  (.len (.t 5)), .s 7 (.cm .lt (.t 4) (.t 6))]) (.cond (.t 7) .skip (.exit 0))) (.seq (.blk 1 (.seq (.drw [28] [.mk 0 1 true (kM 10 0), .mk 1 2 true (kM 11 3),
  .mk 2 6 true (.s 12 (.ar .sub (.t 11) (kI 1))), .mk 3 15 true (.s 13 (.ixp (.t 10) (.t 12) 1)), .mk 4 31 true (kL 14 13), .mk 5 63 true (.s 15 (.cm .eq (.t 14)
  (kI 9223372036854775807))), .mk 6 127 true (kM 16 15), .mk 7 255 true (.gs 16 false 17 (.mv (.t 0))), .mk 8 383 true (.gs 16 false 18 (.mv (.t 3))), .mk 9 1023
  true (.gs 16 false 19 (.ixp (.t 17) (.t 18) 1)), .mk 10 2047 true (.gs 16 false 20 (.ld (.t 19))), .mk 11 2175 true (.gs 16 false 21 (.mv (.t 0))), .mk 12 4223
  true (.gs 16 false 22 (.mv (.t 3))), .mk 13 12415 true (.gs 16 false 23 (.ar .sub (.t 22) (kI 1))), .mk 14 30847 true (.gs 16 false 24 (.ixp (.t 21) (.t 23)
  1)), .mk 15 63615 true (.gs 16 false 25 (.ld (.t 24))), .mk 16 129151 true (.gs 16 false 26 (.ar .add (.t 25) (kI 1))), .mk 17 262143 true (.gs 16 false 27
  (.cm .ne (.t 20) (.t 26))), .mk 18 524287 true (.s 28 (.pick (.t 16) (.c (.b true)) (.t 27)))] []) (.cond (.t 28) (.seq (.reg [2] [.s 2 (.mv (.c (.b false)))])
  .ret) .skip))) (.reg [3] [kM 8 3, .s 9 (.ar .add (.t 8) (kI 1)), kM 3 9])))))) (.seq (.reg [2] [.s 2 (.mv (.c (.b true)))]) .ret)))
theorem fq316 : FF 316 kf316 := cf (em := 268435597) Tryz.func316 (by kernel_rfl) (by kernel_rfl)
def kf317 : KFun := .mk 3 [] (.seq (.reg [3] [.s 3 (.box (.t 0))]) (.seq (.reg [12, 13, 14] [kO 11 3 1, kL 12 11, .s 13 (.len (.t 12)), .s 14 (.mv (kI 0))]) (.blk 0 (.loop (.seq
  (.reg [15] [.s 15 (.cm .lt (.t 14) (.t 13))]) (.seq (.cond (.t 15) .skip (.exit 0)) (.seq (.blk 1 (.seq (.reg [6, 7] [kM 16 14, .s 17 (.ixp (.t 12) (.t 14) 1),
  kL 18 17, kM 6 16, kM 7 18]) (.seq (.reg [8, 9, 10] [kW 20 3 2, kM 21 6, .s 22 (.call 260 [(.t 20), (.t 21)]), kM 19 22, kE 23 19 0, kE 24 19 1, kE 25 19 2, kM
  8 23, kM 9 24, kM 10 25]) (.seq (.reg [31] [kM 26 10, kM 27 26, .gs 27 true 28 (.mv (.t 8)), .gs 27 true 29 (.mv (.t 1)), .gs 27 true 30 (.cm .eq (.t 28) (.t
  29)), .s 31 (.pick (.t 27) (.t 30) (.c (.b false)))]) (.cond (.t 31) (.drw [] [.mk 0 1 true (kM 32 2), .mk 1 2 true (kM 33 9), .mk 2 4 true (kM 34 7), .mk 3 12
  true (.s 35 (.call 323 [(.t 34)])), .mk 4 17 true (kC 36 32), .mk 5 63 true (.s 37 (.q (.iar (.t 36) (.t 33) 1 8))), .mk 6 127 false (.n (.st (.t 37) (.t
  35)))] [.mk 64 127 (.n (.st (.t 37) (.t 35)))]) .skip))))) (.reg [14] [.s 38 (.ar .add (.t 14) (kI 1)), kM 14 38]))))))))
theorem fq317 : FF 317 kf317 := cf (em := 2147547087) Tryz.func317 (by kernel_rfl) (by kernel_rfl)
def kf318 : KFun := .mk 4 [.t 8] (.seq (.reg [4, 7, 8] [.s 4 (.box (.t 0)), .s 7 (.box (.t 3)), .s 8 (.mv (.c (.ns)))]) (.seq (.seq (.reg [13, 14] [kW 13 7 8, .s 14 (.mv (kI 0))])
  (.blk 0 (.loop (.seq (.reg [15] [.s 15 (.cm .lt (.t 14) (kI 8))]) (.seq (.cond (.t 15) .skip (.exit 0)) (.seq (.blk 1 (.seq (.reg [9, 10] [kM 16 14, .s 17 (.q
  (.ixa (.t 13) (.t 14) 8)), kM 9 16, kM 10 17]) (.seq (.reg [11] [kW 19 4 9, kM 20 2, kM 21 9, .s 22 (.call 254 [(.t 19), (.t 20), (.t 21)]), kM 18 22, kE 23 18
  0, kE 24 18 1, kM 11 23, kM 12 24]) (.reg [1] [kM 25 1, kM 26 11, kM 27 10, .s 28 (.bld [.i (.ofNat 0), .z 0 0] (.cons 0 1 (.t 26) (.cons 1 1 (.t 27) .nil))),
  .s 29 (.bsl [.i (.ofNat 0), .z 0 0] 1 (.cons 0 2 (.t 28) .nil)), .s 30 (.app 2 24 (.t 25) (.t 29)), kM 1 30])))) (.reg [14] [.s 31 (.ar .add (.t 14) (kI 1)),
  kM 14 31]))))))) (.seq (.reg [8] [kM 32 1, kM 8 32]) .ret)))
theorem fq318 : FF 318 kf318 := cf (em := 61343) Tryz.func318 (by kernel_rfl) (by kernel_rfl)
def kf323 : KFun := .mk 1 [.t 2] (.seq (.reg [2] [.s 2 (.mv (.c (.z 0 0)))]) (.seq (.seq (.reg [3] [kM 3 0]) (.cond (.t 3) (.seq (.reg [2] [.s 4 (.call 123 []), kM 2 4]) .ret)
  .skip)) (.seq (.reg [2] [.s 5 (.call 226 [(kI 0)]), kM 2 5]) .ret)))
theorem fq323 : FF 323 kf323 := cf (em := 13) Tryz.func323 (by kernel_rfl) (by kernel_rfl)
def kf329 : KFun := .mk 2 [.t 4, .t 5] (.seq (.reg [4, 5] [.s 4 (.mv (kI 0)), .s 5 (.mv (.c (.b false)))]) (.seq (.seq (.reg [9] [kM 8 1, .s 9 (.cm .lt (.t 8) (kI 1))]) (.cond (.t
  9) (.seq (.reg [4, 5] [.s 4 (.mv (kI 0)), .s 5 (.mv (.c (.b false)))]) .ret) .skip)) (.seq (.reg [6] [.s 6 (.mv (kI 0))]) (.seq (.seq (.reg [7] [kM 10 0, kC 11
  10, kO 12 11 0, kL 13 12, .s 14 (.len (.t 13)), .s 15 (.ar .sub (.t 14) (kI 1)), kM 7 15]) (.blk 0 (.loop (.seq (.seq (.reg [17] [kM 16 7, .s 17 (.cm .ge (.t
  16) (kI 0))]) (.cond (.t 17) .skip (.exit 0))) (.seq (.blk 1 (.seq (.seq (.reg [27] [kM 20 0, kC 21 20, kO 22 21 0, kL 23 22, kM 24 7, .s 25 (.ixp (.t 23) (.t
  24) 1), kL 26 25, .s 27 (.not (.t 26))]) (.cond (.t 27) (.seq (.reg [6] [.s 6 (.mv (kI 0))]) (.exit 1)) .skip)) (.seq (.reg [6] [kM 28 6, .s 29 (.ar .add (.t
  28) (kI 1)), kM 6 29]) (.seq (.reg [32] [kM 30 6, kM 31 1, .s 32 (.cm .eq (.t 30) (.t 31))]) (.cond (.t 32) (.seq (.reg [4, 5] [kM 33 7, kM 4 33, .s 5 (.mv (.c
  (.b true)))]) .ret) .skip))))) (.reg [7] [kM 18 7, .s 19 (.ar .sub (.t 18) (kI 1)), kM 7 19])))))) (.seq (.reg [4, 5] [.s 4 (.mv (kI 0)), .s 5 (.mv (.c (.b
  false)))]) .ret)))))
theorem fq329 : FF 329 kf329 := cf (em := 4429316851) Tryz.func329 (by kernel_rfl) (by kernel_rfl)
def kf331 : KFun := .mk 2 [.t 4, .t 5] (.seq (.reg [4, 5] [.s 4 (.mv (.c (.ns))), .s 5 (.mv (.c (.b false)))]) (.seq (.seq (.reg [19] [kM 10 1, .s 11 (.cm .lt (.t 10) (kI 1)), kM 12
  11, .gs 12 false 13 (.mv (.t 1)), .gs 12 false 14 (.mv (.t 0)), .gs 12 false 15 (.ck (.t 14)), .gs 12 false 16 (.off (.t 15) 1), .gs 12 false 17 (.ld (.t 16)),
  .gs 12 false 18 (.cm .gt (.t 13) (.t 17)), .s 19 (.pick (.t 12) (.c (.b true)) (.t 18))]) (.cond (.t 19) (.seq (.reg [4, 5] [.s 4 (.mv (.c (.ns))), .s 5 (.mv
  (.c (.b false)))]) .ret) .skip)) (.seq (.reg [6, 7] [kM 21 0, kM 22 1, .s 23 (.call 329 [(.t 21), (.t 22)]), kM 20 23, kE 24 20 0, kE 25 20 1, kM 6 24, kM 7
  25]) (.seq (.seq (.reg [27] [kM 26 7, .s 27 (.not (.t 26))]) (.cond (.t 27) (.seq (.reg [4, 5] [kM 28 0, kM 29 1, .s 30 (.call 348 [(.t 28), (.t 29)]), kM 4
  30, .s 5 (.mv (.c (.b true)))]) .ret) .skip)) (.seq (.reg [8] [.s 8 (.mv (.c (.ns)))]) (.seq (.seq (.reg [9] [kM 31 6, kM 9 31]) (.blk 0 (.loop (.seq (.seq
  (.reg [36] [kM 32 9, kM 33 6, kM 34 1, .s 35 (.ar .add (.t 33) (.t 34)), .s 36 (.cm .lt (.t 32) (.t 35))]) (.cond (.t 36) .skip (.exit 0))) (.seq (.blk 1 (.seq
  (.reg [] [kM 39 0, kM 40 9, .s 41 (.call 371 [(.t 39), (.t 40)])]) (.reg [8] [kM 42 8, kM 43 9, .s 44 (.bsl [.i (.ofNat 0)] 1 (.cons 0 1 (.t 43) .nil)), .s 45
  (.app 1 8 (.t 42) (.t 44)), kM 8 45]))) (.reg [9] [kM 37 9, .s 38 (.ar .add (.t 37) (kI 1)), kM 9 38])))))) (.seq (.reg [4, 5] [kM 46 8, kM 4 46, .s 5 (.mv (.c
  (.b true)))]) .ret)))))))
theorem fq331 : FF 331 kf331 := cf (em := 68854219763) Tryz.func331 (by kernel_rfl) (by kernel_rfl)
def kf344 : KFun := .mk 2 [.t 4] (.seq (.reg [4] [.s 4 (.mv (kI 0))]) (.seq (.seq (.reg [7, 8] [kM 6 0, .s 7 (.len (.t 6)), .s 8 (.mv (kI 0))]) (.blk 0 (.loop (.seq (.reg [9] [.s 9
  (.cm .lt (.t 8) (.t 7))]) (.seq (.cond (.t 9) .skip (.exit 0)) (.seq (.blk 1 (.seq (.reg [5] [kM 10 8, kM 5 10]) (.seq (.reg [16] [kM 11 1, kM 12 0, kM 13 5,
  .s 14 (.ixp (.t 12) (.t 13) 2), kW 15 14 2, .s 16 (.callv (.t 11) [(.t 15)])]) (.cond (.t 16) (.seq (.reg [4] [kM 17 5, kM 4 17]) .ret) .skip)))) (.reg [8] [.s
  18 (.ar .add (.t 8) (kI 1)), kM 8 18]))))))) (.seq (.reg [4] [.s 4 (.mv (.c (.i (.negSucc 0))))]) .ret)))
theorem fq344 : FF 344 kf344 := cf (em := 66483) Tryz.func344 (by kernel_rfl) (by kernel_rfl)
def kf346 : KFun := .mk 2 [.t 4, .t 5] (.seq (.reg [4, 5] [.s 4 (.mv (.c (.ns))), .s 5 (.mv (.c (.b false)))]) (.seq (.seq (.reg [17] [kM 7 1, .s 8 (.cm .lt (.t 7) (kI 1)), kM 9 8,
  .gs 9 false 10 (.mv (.t 1)), .gs 9 false 11 (.mv (.t 0)), .gs 9 false 12 (.ck (.t 11)), .gs 9 false 13 (.off (.t 12) 0), .gs 9 false 14 (.ld (.t 13)), .gs 9
  false 15 (.len (.t 14)), .gs 9 false 16 (.cm .gt (.t 10) (.t 15)), .s 17 (.pick (.t 9) (.c (.b true)) (.t 16))]) (.cond (.t 17) (.seq (.reg [4, 5] [.s 4 (.mv
  (.c (.ns))), .s 5 (.mv (.c (.b false)))]) .ret) .skip)) (.seq (.reg [6] [kM 18 0, kC 19 18, kO 20 19 0, kL 21 20, kM 22 1, .s 23 (.q (.sli (.t 21) 1 .no (.ok
  (.t 22)))), .s 24 (.call 334 [(.t 23)]), kM 6 24]) (.seq (.reg [] [kM 25 0, kM 26 0, kC 27 26, kO 28 27 0, kL 29 28, kM 30 1, .s 31 (.q (.sli (.t 29) 1 (.ok
  (.t 30)) .no)), .s 32 (.call 334 [(.t 31)]), kC 33 25, kO 34 33 0, .n (.st (.t 34) (.t 32))]) (.seq (.reg [4, 5] [kM 35 6, kM 4 35, .s 5 (.mv (.c (.b true)))])
  .ret)))))
theorem fq346 : FF 346 kf346 := cf (em := 131187) Tryz.func346 (by kernel_rfl) (by kernel_rfl)
def kf348 : KFun := .mk 2 [.t 4] (.seq (.reg [4] [.s 4 (.mv (.c (.ns)))]) (.seq (.reg [5] [.s 5 (.mv (.c (.ns)))]) (.seq (.seq (.reg [6] [.s 6 (.mv (kI 0))]) (.blk 0 (.loop (.seq
  (.seq (.reg [19] [kM 7 6, kM 8 0, kC 9 8, kO 10 9 0, kL 11 10, .s 12 (.len (.t 11)), .s 13 (.cm .lt (.t 7) (.t 12)), kM 14 13, .gs 14 true 15 (.mv (.t 5)), .gs
  14 true 16 (.len (.t 15)), .gs 14 true 17 (.mv (.t 1)), .gs 14 true 18 (.cm .lt (.t 16) (.t 17)), .s 19 (.pick (.t 14) (.t 18) (.c (.b false)))]) (.cond (.t
  19) .skip (.exit 0))) (.seq (.blk 1 (.seq (.reg [28] [kM 22 0, kC 23 22, kO 24 23 0, kL 25 24, kM 26 6, .s 27 (.ixp (.t 25) (.t 26) 1), kL 28 27]) (.cond (.t
  28) (.seq (.reg [] [kM 29 0, kM 30 6, .s 31 (.call 371 [(.t 29), (.t 30)])]) (.reg [5] [kM 32 5, kM 33 6, .s 34 (.bsl [.i (.ofNat 0)] 1 (.cons 0 1 (.t 33)
  .nil)), .s 35 (.app 1 8 (.t 32) (.t 34)), kM 5 35])) .skip))) (.reg [6] [kM 20 6, .s 21 (.ar .add (.t 20) (kI 1)), kM 6 21])))))) (.seq (.reg [4] [kM 36 5, kM
  4 36]) .ret))))
theorem fq348 : FF 348 kf348 := cf (em := 268959859) Tryz.func348 (by kernel_rfl) (by kernel_rfl)
def kf349 : KFun := .mk 1 [.t 2] (.seq (.reg [2] [.s 2 (.mv (kI 0))]) (.seq (.drw [2] [.mk 0 1 true (kM 3 0), .mk 1 3 true (kC 4 3), .mk 2 7 true (kO 5 4 1), .mk 3 15 true (kL 6 5),
  .mk 4 16 true (kM 7 0), .mk 5 48 true (kC 8 7), .mk 6 112 true (kO 9 8 0), .mk 7 240 true (kL 10 9), .mk 8 496 true (.s 11 (.len (.t 10))), .mk 9 1023 true (.s
  12 (.ar .sub (.t 6) (.t 11))), .mk 10 2047 true (kM 2 12)] []) .ret))
theorem fq349 : FF 349 kf349 := cf (em := 5) Tryz.func349 (by kernel_rfl) (by kernel_rfl)
def kf350 : KFun := .mk 2 [.t 4] (.seq (.reg [4] [.s 4 (.mv (.c (.b false)))]) (.seq (.seq (.reg [9] [kM 5 1, .s 6 (.len (.t 5)), kM 7 0, .s 8 (.call 349 [(.t 7)]), .s 9 (.cm .gt
  (.t 6) (.t 8))]) (.cond (.t 9) (.seq (.reg [4] [.s 4 (.mv (.c (.b false)))]) .ret) .skip)) (.seq (.reg [] [kM 10 0, kM 11 0, kC 12 11, kO 13 12 0, kL 14 13, kM
  15 1, .s 16 (.app 1 8 (.t 14) (.t 15)), kC 17 10, kO 18 17 0, .n (.st (.t 18) (.t 16))]) (.seq (.reg [4] [.s 4 (.mv (.c (.b true)))]) .ret))))
theorem fq350 : FF 350 kf350 := cf (em := 531) Tryz.func350 (by kernel_rfl) (by kernel_rfl)
def kf356 : KFun := .mk 2 [.t 4] (.seq (.reg [4] [.s 4 (.mv (kI 0))]) (.seq (.seq (.reg [7, 8] [kM 6 0, .s 7 (.len (.t 6)), .s 8 (.mv (kI 0))]) (.blk 0 (.loop (.seq (.reg [9] [.s 9
  (.cm .lt (.t 8) (.t 7))]) (.seq (.cond (.t 9) .skip (.exit 0)) (.seq (.blk 1 (.seq (.reg [5] [kM 10 8, kM 5 10]) (.seq (.reg [16] [kM 11 1, kM 12 0, kM 13 5,
  .s 14 (.ixp (.t 12) (.t 13) 8), kW 15 14 8, .s 16 (.callv (.t 11) [(.t 15)])]) (.cond (.t 16) (.seq (.reg [4] [kM 17 5, kM 4 17]) .ret) .skip)))) (.reg [8] [.s
  18 (.ar .add (.t 8) (kI 1)), kM 8 18]))))))) (.seq (.reg [4] [.s 4 (.mv (.c (.i (.negSucc 0))))]) .ret)))
theorem fq356 : FF 356 kf356 := cf (em := 66483) Tryz.func356 (by kernel_rfl) (by kernel_rfl)
def kf358 : KFun := .mk 2 [.t 4, .t 5] (.seq (.reg [2, 4, 5] [.s 2 (.box (.t 0)), .s 4 (.mv (.c (.b false))), .s 5 (.mv (.c (.b false)))]) (.seq (.reg [6] [.s 11 (.q .mkm), kM 6
  11]) (.seq (.seq (.reg [12, 13, 14] [kM 12 1, .s 13 (.len (.t 12)), .s 14 (.mv (kI 0))]) (.blk 0 (.loop (.seq (.reg [15] [.s 15 (.cm .lt (.t 14) (.t 13))])
  (.seq (.cond (.t 15) .skip (.exit 0)) (.seq (.blk 1 (.seq (.reg [8] [.s 16 (.ixp (.t 12) (.t 14) 1), kL 17 16, kM 8 17]) (.seq (.seq (.reg [10] [kW 19 2 9, kM
  20 8, .s 21 (.call 254 [(.t 19), (.t 20), (kI 0)]), kM 18 21, kE 22 18 0, kE 23 18 1, kM 9 22, kM 10 23]) (.seq (.reg [25] [kM 24 10, .s 25 (.cm .ne (.t 24)
  (kI 0))]) (.cond (.t 25) (.seq (.reg [4, 5] [.s 4 (.mv (.c (.b true))), .s 5 (.mv (.c (.b false)))]) .ret) .skip))) (.reg [] [kM 26 6, kM 27 8, .n (.q (.mup
  (.t 26) (.t 27) (.c (.b true))))])))) (.reg [14] [.s 28 (.ar .add (.t 14) (kI 1)), kM 14 28]))))))) (.seq (.reg [4, 5] [kM 29 6, .s 30 (.q (.lenm (.t 29))), kM
  31 1, .s 32 (.len (.t 31)), .s 33 (.cm .lt (.t 30) (.t 32)), .s 4 (.mv (.c (.b false))), kM 5 33]) .ret))))
theorem fq358 : FF 358 kf358 := cf (em := 33617271) Tryz.func358 (by kernel_rfl) (by kernel_rfl)
def kf371 : KFun := .mk 2 [] (.seq (.reg [] [kM 4 0, kC 5 4, kO 6 5 0, kL 7 6, kM 8 1, .s 9 (.ixp (.t 7) (.t 8) 1), .n (.st (.t 9) (.c (.b false)))]) (.reg [] [kM 10 0, kC 11 10, kO
  12 11 1, kL 13 12, .s 14 (.ar .sub (.t 13) (kI 1)), kC 15 10, kO 16 15 1, .n (.st (.t 16) (.t 14))]))
theorem fq371 : FF 371 kf371 := cf (em := 3) Tryz.func371 (by kernel_rfl) (by kernel_rfl)
end Go.Kx
