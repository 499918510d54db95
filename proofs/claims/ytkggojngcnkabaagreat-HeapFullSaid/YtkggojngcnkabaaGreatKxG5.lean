/-
  Functions of the program in the evaluator's form; that this is right. Printed by a program of ours.
-/
import Derived.Test.YtkggojngcnkabaaGreatB11
set_option linter.unusedVariables false
set_option linter.unusedSimpArgs false
set_option maxRecDepth 100000
namespace Go.Kx
open Go.Proofs
def kf346 : KFun := .mk 2 [.t 4,.t 5] (.seq (.reg [4,5] [.s 4 (.mv (.c (.ns))),.s 5 (.mv (.c (.b false)))]) (.seq (.seq (.reg [17] [kM 7 1,.s 8 (.cm .lt (.t 7) (kI 1)),kM 9 8,
  .gs 9 false 10 (.mv (.t 1)),.gs 9 false 11 (.mv (.t 0)),.gs 9 false 12 (.ck (.t 11)),.gs 9 false 13 (.off (.t 12) 0),.gs 9 false 14 (.ld (.t 13)),.gs 9
  false 15 (.len (.t 14)),.gs 9 false 16 (.cm .gt (.t 10) (.t 15)),.s 17 (.pick (.t 9) (.c (.b true)) (.t 16))]) (.cond (.t 17) (.seq (.reg [4,5] [.s 4 (.mv
  (.c (.ns))),.s 5 (.mv (.c (.b false)))]) .ret) .skip)) (.seq (.reg [6] [kM 18 0,kC 19 18,kO 20 19 0,kL 21 20,kM 22 1,.s 23 (.q (.sli (.t 21) 1 .no (.ok
  (.t 22)))),.s 24 (.call 334 [(.t 23)]),kM 6 24]) (.seq (.reg [] [kM 25 0,kM 26 0,kC 27 26,kO 28 27 0,kL 29 28,kM 30 1,.s 31 (.q (.sli (.t 29) 1 (.ok
  (.t 30)) .no)),.s 32 (.call 334 [(.t 31)]),kC 33 25,kO 34 33 0,.n (.st (.t 34) (.t 32))]) (.seq (.reg [4,5] [kM 35 6,kM 4 35,.s 5 (.mv (.c (.b true)))])
  .ret)))))
theorem fq346 : FF 346 kf346 := cf (em := 131187) Tryz.func346 (by kernel_rfl) (by kernel_rfl)
def kf347 : KFun := .mk 2 [.t 4] (.seq (.reg [3,4] [.s 3 (.box (.t 1)),.s 4 (.mv (.c (.b false)))]) (.seq (.seq (.reg [9] [kM 5 0,kO 6 3 0,kL 7 6,.s 8 (.call 312 [(.t 5),(.t
  7)]),.s 9 (.cm .ge (.t 8) (kI 0))]) (.cond (.t 9) (.seq (.reg [4] [.s 4 (.mv (.c (.b false)))]) .ret) .skip)) (.seq (.reg [] [kO 10 3 3,.n (.st (.t 10) (kI
  0)),kO 11 3 4,.n (.st (.t 11) (kI 0)),kO 12 3 5,.n (.st (.t 12) (.c (.i (.negSucc 0)))),kO 13 3 6,.n (.st (.t 13) (.c (.ns)))]) (.seq (.drw [] [.mk 0 1
  true (kM 14 0),.mk 1 2 true (kM 15 0),.mk 2 6 true (kC 16 15),.mk 3 14 true (kO 17 16 0),.mk 4 30 true (kL 18 17),.mk 5 32 true (kW 19 3 7),.mk 6 96 true
  (.s 20 (.bld [.i (.ofNat 0),.i (.ofNat 0),.i (.ofNat 0),.i (.ofNat 0),.i (.ofNat 0),.i (.ofNat 0),.ns,.b false] (.cons 0 7 (.t 19) .nil))),.mk 7 224
  false (.s 21 (.bsl [.i (.ofNat 0),.i (.ofNat 0),.i (.ofNat 0),.i (.ofNat 0),.i (.ofNat 0),.i (.ofNat 0),.ns,.b false] 1 (.cons 0 8 (.t 20) .nil))),.mk
  8 510 false (.s 22 (.app 8 80 (.t 18) (.t 21))),.mk 9 1023 true (kC 23 14),.mk 10 2047 true (kO 24 23 0),.mk 11 4095 false (.n (.st (.t 24) (.t 22)))] [.mk
  2432 224 (.s 21 (.bsl [.i (.ofNat 0),.i (.ofNat 0),.i (.ofNat 0),.i (.ofNat 0),.i (.ofNat 0),.i (.ofNat 0),.ns,.b false] 1 (.cons 0 8 (.t 20) .nil))),
  .mk 2304 510 (.s 22 (.app 8 80 (.t 18) (.t 21))),.mk 2048 4095 (.n (.st (.t 24) (.t 22)))]) (.seq (.reg [4] [.s 4 (.mv (.c (.b true)))]) .ret)))))
theorem fq347 : FF 347 kf347 := cf (em := 539) Tryz.func347 (by kernel_rfl) (by kernel_rfl)
def kf348 : KFun := .mk 2 [.t 4] (.seq (.reg [4] [.s 4 (.mv (.c (.ns)))]) (.seq (.reg [5] [.s 5 (.mv (.c (.ns)))]) (.seq (.seq (.reg [6] [.s 6 (.mv (kI 0))]) (.blk 0 (.loop (.seq
  (.seq (.reg [19] [kM 7 6,kM 8 0,kC 9 8,kO 10 9 0,kL 11 10,.s 12 (.len (.t 11)),.s 13 (.cm .lt (.t 7) (.t 12)),kM 14 13,.gs 14 true 15 (.mv (.t 5)),.gs
  14 true 16 (.len (.t 15)),.gs 14 true 17 (.mv (.t 1)),.gs 14 true 18 (.cm .lt (.t 16) (.t 17)),.s 19 (.pick (.t 14) (.t 18) (.c (.b false)))]) (.cond (.t
  19) .skip (.exit 0))) (.seq (.blk 1 (.seq (.reg [28] [kM 22 0,kC 23 22,kO 24 23 0,kL 25 24,kM 26 6,.s 27 (.ixp (.t 25) (.t 26) 1),kL 28 27]) (.cond (.t
  28) (.seq (.reg [] [kM 29 0,kM 30 6,.s 31 (.call 371 [(.t 29),(.t 30)])]) (.reg [5] [kM 32 5,kM 33 6,.s 34 (.bsl [.i (.ofNat 0)] 1 (.cons 0 1 (.t 33)
  .nil)),.s 35 (.app 1 8 (.t 32) (.t 34)),kM 5 35])) .skip))) (.reg [6] [kM 20 6,.s 21 (.ar .add (.t 20) (kI 1)),kM 6 21])))))) (.seq (.reg [4] [kM 36 5,kM
  4 36]) .ret))))
theorem fq348 : FF 348 kf348 := cf (em := 268959859) Tryz.func348 (by kernel_rfl) (by kernel_rfl)
def kf349 : KFun := .mk 1 [.t 2] (.seq (.reg [2] [.s 2 (.mv (kI 0))]) (.seq (.drw [2] [.mk 0 1 true (kM 3 0),.mk 1 3 true (kC 4 3),.mk 2 7 true (kO 5 4 1),.mk 3 15 true (kL 6 5),
  .mk 4 16 true (kM 7 0),.mk 5 48 true (kC 8 7),.mk 6 112 true (kO 9 8 0),.mk 7 240 true (kL 10 9),.mk 8 496 true (.s 11 (.len (.t 10))),.mk 9 1023 true (.s
  12 (.ar .sub (.t 6) (.t 11))),.mk 10 2047 true (kM 2 12)] []) .ret))
theorem fq349 : FF 349 kf349 := cf (em := 5) Tryz.func349 (by kernel_rfl) (by kernel_rfl)
def kf350 : KFun := .mk 2 [.t 4] (.seq (.reg [4] [.s 4 (.mv (.c (.b false)))]) (.seq (.seq (.reg [9] [kM 5 1,.s 6 (.len (.t 5)),kM 7 0,.s 8 (.call 349 [(.t 7)]),.s 9 (.cm .gt
  (.t 6) (.t 8))]) (.cond (.t 9) (.seq (.reg [4] [.s 4 (.mv (.c (.b false)))]) .ret) .skip)) (.seq (.reg [] [kM 10 0,kM 11 0,kC 12 11,kO 13 12 0,kL 14 13,kM
  15 1,.s 16 (.app 1 8 (.t 14) (.t 15)),kC 17 10,kO 18 17 0,.n (.st (.t 18) (.t 16))]) (.seq (.reg [4] [.s 4 (.mv (.c (.b true)))]) .ret))))
theorem fq350 : FF 350 kf350 := cf (em := 531) Tryz.func350 (by kernel_rfl) (by kernel_rfl)
def kf351 : KFun := .mk 4 [.t 8,.t 9] (.seq (.reg [8,9] [.s 8 (.mv (.c (.z 0 0))),.s 9 (.mv (.c (.b false)))]) (.seq (.reg [10,11] [kM 14 0,kC 15 14,kO 16 15 0,kW 17 16 9,kM
  18 2,kM 19 3,.s 20 (.call 254 [(.t 17),(.t 18),(.t 19)]),kM 13 20,kE 21 13 0,kE 22 13 1,kM 10 21,kM 11 22]) (.seq (.seq (.reg [24] [kM 23 11,.s 24
  (.cm .ne (.t 23) (kI 0))]) (.cond (.t 24) (.seq (.reg [8,9] [.s 8 (.mv (.c (.z 0 0))),.s 9 (.mv (.c (.b false)))]) .ret) .skip)) (.seq (.reg [12,11] [kM 26
  1,kM 27 10,.s 28 (.call 149 [(.t 26),(.t 27)]),kM 25 28,kE 29 25 0,kE 30 25 1,kM 12 29,kM 11 30]) (.seq (.reg [8,9] [kM 31 12,kM 32 11,.s 33 (.cm
  .eq (.t 32) (kI 0)),kM 8 31,kM 9 33]) .ret)))))
theorem fq351 : FF 351 kf351 := cf (em := 16785167) Tryz.func351 (by kernel_rfl) (by kernel_rfl)
def kf352 : KFun := .mk 2 [.t 4] (.seq (.reg [4] [.s 4 (.mv (.c (.b false)))]) (.seq (.reg [5,6,7] [kM 13 1,.s 14 (.call 171 [(.t 13)]),kM 12 14,kE 15 12 0,kE 16 12 1,kE 17
  12 2,kM 5 15,kM 6 16,kM 7 17]) (.seq (.reg [8,9] [kM 19 0,kC 20 19,kO 21 20 0,kW 22 21 9,kM 23 5,.s 24 (.call 173 [(.t 22),(.t 23)]),kM 18 24,kE 25
  18 0,kE 26 18 1,.s 8 (.new [.b false,.ns]),.n (.stn (.t 8) (.t 25) 2),kM 9 26]) (.seq (.blk 0 (.seq (.reg [27] [kM 28 7,.s 29 (.not (.t 28)),kM 30 29,
  .gs 30 false 31 (.mv (.t 9)),.gs 30 false 32 (.not (.t 31)),.s 33 (.pick (.t 30) (.c (.b true)) (.t 32)),kM 27 33]) (.cond (.t 27) (.seq (.reg [4] [kM 34 0,
  .s 35 (.call 354 [(.t 34),(kI 10)]),.s 36 (.not (.t 35)),kM 4 36]) .ret) (.seq (.drw [37] [.mk 0 1 true (kO 38 8 0),.mk 1 3 true (kL 39 38),.mk 2 4 true
  (kM 40 0),.mk 3 12 true (kC 41 40),.mk 4 28 true (kO 42 41 11),.mk 5 60 true (kL 43 42),.mk 6 127 true (.s 44 (.bne (.t 39) (.t 43))),.mk 7 255 true (kM
  37 44)] []) (.cond (.t 37) (.seq (.reg [4] [kM 45 0,.s 46 (.call 354 [(.t 45),(kI 4)]),.s 47 (.not (.t 46)),kM 4 47]) .ret) (.seq (.reg [48] [kM 49 6,.s
  50 (.cm .ne (.t 49) (kI 0)),kM 51 50,.gs 51 true 52 (.mv (.t 0)),.gs 51 true 53 (.ck (.t 52)),.gs 51 true 54 (.off (.t 53) 11),.gs 51 true 55 (.ld (.t
  54)),.gs 51 true 56 (.mv (.t 55)),.gs 56 false 57 (.mv (.t 6)),.gs 56 false 58 (.cm .ne (.t 57) (kI 1)),.gs 51 true 59 (.pick (.t 56) (.c (.b true)) (.t
  58)),.s 60 (.pick (.t 51) (.t 59) (.c (.b false))),kM 48 60]) (.cond (.t 48) (.seq (.reg [4] [kM 61 0,.s 62 (.call 354 [(.t 61),(kI 10)]),.s 63 (.not (.t
  62)),kM 4 63]) .ret) (.seq (.reg [64] [kM 65 0,kC 66 65,kO 67 66 11,kL 68 67,kM 64 68]) (.cond (.t 64) (.seq (.reg [] [kM 69 0,kM 70 0,kO 71 8 1,kL 72
  71,.s 73 (.ixp (.t 72) (kI 0) 1),kL 74 73,kC 75 69,kO 76 75 20,.n (.st (.t 76) (.t 74)),kC 77 70,kO 78 77 12,.n (.st (.t 78) (kI 2))]) (.seq (.reg [4]
  [.s 4 (.mv (.c (.b true)))]) .ret)) .skip))))))))) (.seq (.drw [10,11,7] [.mk 0 1 true (kW 80 8 2),.mk 1 2 true (kM 81 0),.mk 2 6 true (kC 82 81),.mk 3 14
  true (kO 83 82 10),.mk 4 30 true (kL 84 83),.mk 5 63 false (.s 85 (.call 260 [(.t 80),(.t 84)])),.mk 6 127 true (kM 79 85),.mk 7 255 true (kE 86 79 0),
  .mk 8 383 true (kE 87 79 1),.mk 9 639 true (kE 88 79 2),.mk 10 1279 true (kM 10 86),.mk 11 3583 true (kM 11 87),.mk 12 8191 true (kM 7 88)] [.mk 32 63 (.s
  85 (.call 260 [(.t 80),(.t 84)]))]) (.seq (.blk 1 (.seq (.reg [89] [kM 90 7,.s 91 (.not (.t 90)),kM 89 91]) (.cond (.t 89) (.seq (.reg [4] [kM 92 0,.s 93
  (.call 354 [(.t 92),(kI 5)]),.s 94 (.not (.t 93)),kM 4 94]) .ret) (.seq (.reg [95] [kM 96 6,.s 97 (.cm .eq (.t 96) (kI 1)),kM 98 97,.gs 98 false 99 (.mv
  (.t 10)),.gs 98 false 100 (.cm .eq (.t 99) (kI 0)),.s 101 (.pick (.t 98) (.c (.b true)) (.t 100)),kM 95 101]) (.cond (.t 95) (.seq (.drw [] [.mk 0 1 true
  (kM 102 0),.mk 1 2 true (kO 103 8 1),.mk 2 6 true (kL 104 103),.mk 3 8 true (kM 105 0),.mk 4 24 true (kC 106 105),.mk 5 56 true (kO 107 106 10),.mk 6 120
  true (kL 108 107),.mk 7 254 true (.s 109 (.ixp (.t 104) (.t 108) 1)),.mk 8 510 true (kL 110 109),.mk 9 1023 true (kC 111 102),.mk 10 2047 true (kO 112 111
  20),.mk 11 4095 false (.n (.st (.t 112) (.t 110)))] [.mk 2048 4095 (.n (.st (.t 112) (.t 110)))]) (.seq (.reg [4] [kM 113 0,kM 114 0,kC 115 114,kO 116 115
  9,kL 117 116,kM 118 10,.s 119 (.ar .add (.t 117) (.t 118)),kM 120 11,.s 121 (.call 353 [(.t 113),(.t 119),(.t 120)]),.s 122 (.not (.t 121)),kM 4 122])
  .ret)) .skip))))) (.seq (.drw [] [.mk 0 1 true (kM 123 0),.mk 1 2 true (kM 124 0),.mk 2 4 true (kM 125 0),.mk 3 8 true (kM 126 0),.mk 4 16 true (kO 127 8
  1),.mk 5 48 true (kL 128 127),.mk 6 64 true (kM 129 0),.mk 7 192 true (kC 130 129),.mk 8 448 true (kO 131 130 10),.mk 9 960 true (kL 132 131),.mk 10 2032
  true (.s 133 (.ixp (.t 128) (.t 132) 1)),.mk 11 4080 true (kL 134 133),.mk 12 4096 true (kM 135 10),.mk 13 8192 true (kM 136 11),.mk 14 20465 true (kC 137
  123),.mk 15 53233 true (kO 138 137 20),.mk 16 118769 false (.n (.st (.t 138) (.t 134))),.mk 17 253939 true (kC 139 124),.mk 18 516083 true (kO 140 139 14),
  .mk 19 1040371 false (.n (.st (.t 140) (.t 135))),.mk 20 2097143 true (kC 141 125),.mk 21 4194295 true (kO 142 141 15),.mk 22 8388599 false (.n (.st (.t
  142) (.t 136))),.mk 23 16777215 true (kC 143 126),.mk 24 33554431 true (kO 144 143 12),.mk 25 67108863 false (.n (.st (.t 144) (kI 1)))] [.mk 38338560
  118769 (.n (.st (.t 138) (.t 134))),.mk 38273024 1040371 (.n (.st (.t 140) (.t 135))),.mk 37748736 8388599 (.n (.st (.t 142) (.t 136))),.mk 33554432
  67108863 (.n (.st (.t 144) (kI 1)))]) (.seq (.reg [4] [.s 4 (.mv (.c (.b true)))]) .ret))))))))
theorem fq352 : FF 352 kf352 := cf (em := 40233051295221884620480974835) Tryz.func352 (by kernel_rfl) (by kernel_rfl)
def kf353 : KFun := .mk 3 [.t 6] (.seq (.reg [6] [.s 6 (.mv (.c (.b false)))]) (.seq (.reg [7,8] [kM 10 0,kC 11 10,kO 12 11 0,kW 13 12 9,kM 14 1,kM 15 2,.s 16 (.call 254 [(.t
  13),(.t 14),(.t 15)]),kM 9 16,kE 17 9 0,kE 18 9 1,kM 7 17,kM 8 18]) (.seq (.seq (.reg [20] [kM 19 8,.s 20 (.cm .ne (.t 19) (kI 0))]) (.cond (.t 20)
  (.seq (.reg [6] [kM 21 0,.s 22 (.call 354 [(.t 21),(kI 10)]),kM 6 22]) .ret) .skip)) (.seq (.reg [] [kM 23 0,kM 24 0,kM 25 7,kC 26 23,kO 27 26 12,.n
  (.st (.t 27) (kI 6)),kC 28 24,kO 29 28 19,.n (.st (.t 29) (.t 25))]) (.seq (.reg [6] [.s 6 (.mv (.c (.b true)))]) .ret)))))
theorem fq353 : FF 353 kf353 := cf (em := 1049031) Tryz.func353 (by kernel_rfl) (by kernel_rfl)
def kf356 : KFun := .mk 2 [.t 4] (.seq (.reg [4] [.s 4 (.mv (kI 0))]) (.seq (.seq (.reg [7,8] [kM 6 0,.s 7 (.len (.t 6)),.s 8 (.mv (kI 0))]) (.blk 0 (.loop (.seq (.reg [9] [.s 9
  (.cm .lt (.t 8) (.t 7))]) (.seq (.cond (.t 9) .skip (.exit 0)) (.seq (.blk 1 (.seq (.reg [5] [kM 10 8,kM 5 10]) (.seq (.reg [16] [kM 11 1,kM 12 0,kM 13 5,
  .s 14 (.ixp (.t 12) (.t 13) 8),kW 15 14 8,.s 16 (.callv (.t 11) [(.t 15)])]) (.cond (.t 16) (.seq (.reg [4] [kM 17 5,kM 4 17]) .ret) .skip)))) (.reg [8] [.s
  18 (.ar .add (.t 8) (kI 1)),kM 8 18]))))))) (.seq (.reg [4] [.s 4 (.mv (.c (.i (.negSucc 0))))]) .ret)))
theorem fq356 : FF 356 kf356 := cf (em := 66483) Tryz.func356 (by kernel_rfl) (by kernel_rfl)
def kf357 : KFun := .mk 2 [.t 3] (.seq (.reg [2,3] [.s 2 (.box (.t 0)),.s 3 (.mv (.c (.b false)))]) (.seq (.reg [3] [kO 4 2 0,kO 5 4 0,kL 6 5,kL 7 1,.s 8 (.cm .eq (.t 6) (.t
  7)),kM 3 8]) .ret))
theorem fq357 : FF 357 kf357 := cf (em := 15) Tryz.func357 (by kernel_rfl) (by kernel_rfl)
def kf358 : KFun := .mk 2 [.t 4,.t 5] (.seq (.reg [2,4,5] [.s 2 (.box (.t 0)),.s 4 (.mv (.c (.b false))),.s 5 (.mv (.c (.b false)))]) (.seq (.reg [6] [.s 11 (.q .mkm),kM 6
  11]) (.seq (.seq (.reg [12,13,14] [kM 12 1,.s 13 (.len (.t 12)),.s 14 (.mv (kI 0))]) (.blk 0 (.loop (.seq (.reg [15] [.s 15 (.cm .lt (.t 14) (.t 13))])
  (.seq (.cond (.t 15) .skip (.exit 0)) (.seq (.blk 1 (.seq (.reg [8] [.s 16 (.ixp (.t 12) (.t 14) 1),kL 17 16,kM 8 17]) (.seq (.seq (.reg [10] [kW 19 2 9,kM
  20 8,.s 21 (.call 254 [(.t 19),(.t 20),(kI 0)]),kM 18 21,kE 22 18 0,kE 23 18 1,kM 9 22,kM 10 23]) (.seq (.reg [25] [kM 24 10,.s 25 (.cm .ne (.t 24)
  (kI 0))]) (.cond (.t 25) (.seq (.reg [4,5] [.s 4 (.mv (.c (.b true))),.s 5 (.mv (.c (.b false)))]) .ret) .skip))) (.reg [] [kM 26 6,kM 27 8,.n (.q (.mup
  (.t 26) (.t 27) (.c (.b true))))])))) (.reg [14] [.s 28 (.ar .add (.t 14) (kI 1)),kM 14 28]))))))) (.seq (.reg [4,5] [kM 29 6,.s 30 (.q (.lenm (.t 29))),kM
  31 1,.s 32 (.len (.t 31)),.s 33 (.cm .lt (.t 30) (.t 32)),.s 4 (.mv (.c (.b false))),kM 5 33]) .ret))))
theorem fq358 : FF 358 kf358 := cf (em := 33617271) Tryz.func358 (by kernel_rfl) (by kernel_rfl)
def kf359 : KFun := .mk 1 [.t 2] (.seq (.reg [2] [.s 2 (.mv (.c (.k .u64 (.ofNat 0))))]) (.seq (.seq (.reg [5] [kM 3 0,kM 4 0,.s 5 (.q (.fcm .ne (.t 3) (.t 4)))]) (.cond (.t 5)
  (.seq (.reg [2] [.s 2 (.mv (.c (.k .u64 (.ofNat 9221120237041090560))))]) .ret) .skip)) (.seq (.reg [2] [kM 6 0,.s 7 (.q (.f64b (.t 6))),kM 2 7]) .ret)))
theorem fq359 : FF 359 kf359 := cf (em := 37) Tryz.func359 (by kernel_rfl) (by kernel_rfl)
def kf360 : KFun := .mk 4 [.t 8,.t 9] (.seq (.reg [8,9] [.s 8 (.mv (.c (.z 0 0))),.s 9 (.mv (.c (.b false)))]) (.seq (.reg [10,11] [kM 14 0,kC 15 14,kO 16 15 0,kW 17 16 9,kM
  18 2,kM 19 3,.s 20 (.call 254 [(.t 17),(.t 18),(.t 19)]),kM 13 20,kE 21 13 0,kE 22 13 1,kM 10 21,kM 11 22]) (.seq (.seq (.reg [24] [kM 23 11,.s 24
  (.cm .ne (.t 23) (kI 0))]) (.cond (.t 24) (.seq (.reg [8,9] [.s 8 (.mv (.c (.z 0 0))),.s 9 (.mv (.c (.b false)))]) .ret) .skip)) (.seq (.reg [12,11] [kM 26
  1,kM 27 10,.s 28 (.call 149 [(.t 26),(.t 27)]),kM 25 28,kE 29 25 0,kE 30 25 1,kM 12 29,kM 11 30]) (.seq (.reg [8,9] [kM 31 12,kM 32 11,.s 33 (.cm
  .eq (.t 32) (kI 0)),kM 8 31,kM 9 33]) .ret)))))
theorem fq360 : FF 360 kf360 := cf (em := 16785167) Tryz.func360 (by kernel_rfl) (by kernel_rfl)
def kf361 : KFun := .mk 2 [.t 4] (.seq (.reg [4] [.s 4 (.mv (.c (.b false)))]) (.seq (.reg [5,6,7] [kM 11 1,.s 12 (.call 171 [(.t 11)]),kM 10 12,kE 13 10 0,kE 14 10 1,kE 15
  10 2,kM 5 13,kM 6 14,kM 7 15]) (.seq (.reg [8,9] [kM 17 0,kC 18 17,kO 19 18 0,kW 20 19 9,kM 21 5,.s 22 (.call 173 [(.t 20),(.t 21)]),kM 16 22,kE 23
  16 0,kE 24 16 1,.s 8 (.new [.b false,.ns]),.n (.stn (.t 8) (.t 23) 2),kM 9 24]) (.seq (.seq (.reg [42] [kM 25 7,.s 26 (.not (.t 25)),kM 27 26,.gs 27
  false 28 (.mv (.t 9)),.gs 27 false 29 (.not (.t 28)),.s 30 (.pick (.t 27) (.c (.b true)) (.t 29)),kM 31 30,.gs 31 false 32 (.mv (.t 6)),.gs 31 false 33
  (.cm .gt (.t 32) (kI 1)),.s 34 (.pick (.t 31) (.c (.b true)) (.t 33)),kM 35 34,.gs 35 false 36 (.off (.t 8) 0),.gs 35 false 37 (.ld (.t 36)),.gs 35 false
  38 (.mv (.t 37)),.gs 38 true 39 (.mv (.t 6)),.gs 38 true 40 (.cm .gt (.t 39) (kI 0)),.gs 35 false 41 (.pick (.t 38) (.t 40) (.c (.b false))),.s 42 (.pick
  (.t 35) (.c (.b true)) (.t 41))]) (.cond (.t 42) (.seq (.reg [4] [.s 4 (.mv (.c (.b false)))]) .ret) .skip)) (.seq (.reg [] [kM 43 0,kW 44 8 2,kC 45 43,kO
  46 45 12,.n (.stn (.t 46) (.t 44) 2)]) (.seq (.seq (.reg [48] [kO 47 8 0,kL 48 47]) (.cond (.t 48) (.seq (.reg [] [kM 49 0,kC 50 49,kO 51 50 11,.n (.st
  (.t 51) (kI 5))]) (.seq (.reg [4] [.s 4 (.mv (.c (.b true)))]) .ret)) .skip)) (.seq (.reg [] [kM 52 0,kM 53 0,.s 54 (.call 374 [(.t 53)]),kC 55 52,kO 56 55
  16,.n (.st (.t 56) (.t 54))]) (.seq (.reg [] [kM 57 0,kM 58 0,.s 59 (.call 375 [(.t 58)]),kC 60 57,kO 61 60 11,.n (.st (.t 61) (.t 59))]) (.seq (.reg [4]
  [.s 4 (.mv (.c (.b true)))]) .ret)))))))))
theorem fq361 : FF 361 kf361 := cf (em := 285873023222771) Tryz.func361 (by kernel_rfl) (by kernel_rfl)
def kf363 : KFun := .mk 3 [.t 6] (.seq (.reg [6] [.s 6 (.mv (.c (.b false)))]) (.scope (.seq (.reg [7] [.s 7 (.mv (.c (.z 0 0)))]) (.seq (.reg [8,9] [.s 8 (.mv (kI 0)),.s 9 (.mv
  (.c (.b true)))]) (.seq (.seq (.reg [13] [kM 10 0,kC 11 10,kO 12 11 11,kL 13 12]) (.blk 0 (.seq (.reg [14] [.s 15 (.cm .eq (.t 13) (kI 2)),kM 14 15])
  (.cond (.t 14) (.goto 0) (.seq (.reg [16] [.s 17 (.cm .eq (.t 13) (kI 3)),kM 16 17]) (.cond (.t 16) (.goto 1) (.seq (.reg [18] [.s 19 (.cm .eq (.t 13) (kI
  4)),kM 18 19]) (.cond (.t 18) (.goto 2) .skip)))))))) (.seq (.seq (.drw [7,9] [.mk 0 1 true (kM 21 0),.mk 1 2 true (kM 22 1),.mk 2 4 true (kM 23 0),.mk 3
  12 true (kC 24 23),.mk 4 28 true (kO 25 24 14),.mk 5 60 true (kL 26 25),.mk 6 64 true (kM 27 0),.mk 7 192 true (kC 28 27),.mk 8 448 true (kO 29 28 16),
  .mk 9 960 true (kL 30 29),.mk 10 1984 true (.s 31 (.ixp (.t 30) (kI 0) 1)),.mk 11 4032 true (kL 32 31),.mk 12 8191 false (.s 33 (.call 360 [(.t 21),(.t
  22),(.t 26),(.t 32)])),.mk 13 16383 true (kM 20 33),.mk 14 32767 true (kE 34 20 0),.mk 15 49151 true (kE 35 20 1),.mk 16 98303 true (kM 7 34),.mk 17
  262143 true (kM 9 35)] [.mk 4096 8191 (.s 33 (.call 360 [(.t 21),(.t 22),(.t 26),(.t 32)]))]) (.seq (.reg [42] [kM 36 9,.s 37 (.not (.t 36)),kM 38 37,.gs
  38 false 39 (.mv (.t 7)),.gs 38 false 40 (.call 220 [(.t 39)]),.gs 38 false 41 (.not (.t 40)),.s 42 (.pick (.t 38) (.c (.b true)) (.t 41))]) (.cond (.t 42)
  (.seq (.reg [6] [.s 6 (.mv (.c (.b false)))]) .ret) .skip))) (.seq (.reg [] [kM 43 0,kM 44 0,kC 45 44,kO 46 45 16,kL 47 46,.s 48 (.q (.sli (.t 47) 1 (.ok
  (kI 1)) .no)),kC 49 43,kO 50 49 16,.n (.st (.t 50) (.t 48))]) (.seq (.seq (.reg [9] [kM 52 0,kM 53 7,.s 54 (.call 150 [(.t 53)]),kM 51 54,kE 55 51 0,kE
  56 51 1,kC 57 52,kO 58 57 17,.n (.st (.t 58) (.t 55)),kM 9 56]) (.seq (.reg [59] [kM 59 9]) (.cond (.t 59) (.seq (.reg [] [kM 60 0,kC 61 60,kO 62 61 11,
  .n (.st (.t 62) (kI 2))]) (.seq (.reg [6] [.s 6 (.mv (.c (.b true)))]) .ret)) .skip))) (.seq (.goto 3) (.seq (.label 0) (.seq (.drw [] [.mk 0 1 true (kM 63 2),
  .mk 1 2 true (kM 64 0),.mk 2 6 true (kC 65 64),.mk 3 14 true (kO 66 65 17),.mk 4 30 true (kL 67 66),.mk 5 32 true (kM 68 0),.mk 6 96 true (kC 69 68),.mk
  7 224 true (kO 70 69 10),.mk 8 480 true (kL 71 70),.mk 9 1023 false (.s 72 (.call 148 [(.t 63),(.t 67),(.t 71)]))] [.mk 512 1023 (.s 72 (.call 148 [(.t
  63),(.t 67),(.t 71)]))]) (.seq (.goto 3) (.seq (.label 1) (.seq (.seq (.reg [7,9] [kM 74 0,kM 75 1,kM 76 0,kC 77 76,kO 78 77 14,kL 79 78,.s 80 (.call
  360 [(.t 74),(.t 75),(.t 79),(kI 0)]),kM 73 80,kE 81 73 0,kE 82 73 1,kM 7 81,kM 9 82]) (.seq (.reg [84] [kM 83 9,.s 84 (.not (.t 83))]) (.cond (.t 84)
  (.seq (.reg [6] [.s 6 (.mv (.c (.b false)))]) .ret) .skip))) (.seq (.seq (.reg [8,9] [kM 86 7,.s 87 (.call 150 [(.t 86)]),kM 85 87,kE 88 85 0,kE 89 85 1,
  kM 8 88,kM 9 89]) (.seq (.reg [100] [kM 90 9,.s 91 (.not (.t 90)),kM 92 91,.gs 92 false 93 (.mv (.t 8)),.gs 92 false 94 (.mv (.t 0)),.gs 92 false 95 (.ck
  (.t 94)),.gs 92 false 96 (.off (.t 95) 0),.gs 92 false 97 (.off (.t 96) 0),.gs 92 false 98 (.ld (.t 97)),.gs 92 false 99 (.cm .ge (.t 93) (.t 98)),.s 100
  (.pick (.t 92) (.c (.b true)) (.t 99))]) (.cond (.t 100) (.seq (.reg [6] [.s 6 (.mv (.c (.b false)))]) .ret) .skip))) (.seq (.reg [] [kM 101 0,kM 102 0,kM
  103 8,kC 104 101,kO 105 104 14,.n (.st (.t 105) (.t 103)),kC 106 102,kO 107 106 11,.n (.st (.t 107) (kI 4))]) (.seq (.reg [] [kM 108 0,kC 109 108,kO
  110 109 15,kL 111 110,.s 112 (.ar .add (.t 111) (kI 1)),kC 113 108,kO 114 113 15,.n (.st (.t 114) (.t 112))]) (.seq (.seq (.reg [6] [.s 6 (.mv (.c (.b
  true)))]) .ret) (.seq (.label 2) (.seq (.drw [] [.mk 0 1 true (kM 115 2),.mk 1 2 true (kM 116 0),.mk 2 6 true (kC 117 116),.mk 3 14 true (kO 118 117 14),
  .mk 4 30 true (kL 119 118),.mk 5 32 true (kM 120 0),.mk 6 96 true (kC 121 120),.mk 7 224 true (kO 122 121 10),.mk 8 480 true (kL 123 122),.mk 9 1023 false
  (.s 124 (.call 377 [(.t 115),(.t 119),(.t 123)]))] [.mk 512 1023 (.s 124 (.call 377 [(.t 115),(.t 119),(.t 123)]))]) (.seq (.reg [] [kM 125 0,kM 126 0,.s
  127 (.call 374 [(.t 126)]),kC 128 125,kO 129 128 16,.n (.st (.t 129) (.t 127))]) (.seq (.label 3) (.seq (.reg [] [kM 130 0,kM 131 0,.s 132 (.call 375 [(.t
  131)]),kC 133 130,kO 134 133 11,.n (.st (.t 134) (.t 132))]) (.seq (.reg [6] [.s 6 (.mv (.c (.b true)))]) .ret))))))))))))))))))))))))
theorem fq363 : FF 363 kf363 := cf (em := 1267669943041919700713848792007) Tryz.func363 (by kernel_rfl) (by kernel_rfl)
def kf370 : KFun := .mk 1 [.t 2] (.seq (.reg [1,2] [.s 1 (.box (.t 0)),.s 2 (.mv (.c (.b false)))]) (.seq (.reg [2] [kO 3 1 0,kO 4 3 3,kL 5 4,.s 6 (.cm .eq (.t 5) (kI 0)),kM 2
  6]) .ret))
theorem fq370 : FF 370 kf370 := cf (em := 7) Tryz.func370 (by kernel_rfl) (by kernel_rfl)
def kf371 : KFun := .mk 2 [] (.seq (.reg [] [kM 4 0,kC 5 4,kO 6 5 0,kL 7 6,kM 8 1,.s 9 (.ixp (.t 7) (.t 8) 1),.n (.st (.t 9) (.c (.b false)))]) (.reg [] [kM 10 0,kC 11 10,kO
  12 11 1,kL 13 12,.s 14 (.ar .sub (.t 13) (kI 1)),kC 15 10,kO 16 15 1,.n (.st (.t 16) (.t 14))]))
theorem fq371 : FF 371 kf371 := cf (em := 3) Tryz.func371 (by kernel_rfl) (by kernel_rfl)
def kf374 : KFun := .mk 1 [.t 2] (.seq (.reg [2] [.s 2 (.mv (.c (.ns)))]) (.seq (.reg [3] [.s 3 (.mv (.c (.ns)))]) (.seq (.seq (.reg [14] [kM 10 0,kC 11 10,kO 12 11 12,kO 13 12
  0,kL 14 13]) (.cond (.t 14) (.seq (.seq (.reg [4] [kM 15 0,kC 16 15,kO 17 16 15,kL 18 17,.s 19 (.ar .mul (.t 18) (kI 8)),kM 4 19]) (.blk 0 (.loop (.seq
  (.seq (.drw [41] [.mk 0 1 true (kM 20 0),.mk 1 3 true (kC 21 20),.mk 2 7 true (kO 22 21 12),.mk 3 15 true (kO 23 22 1),.mk 4 31 true (kL 24 23),.mk 5 63
  true (.s 25 (.ixp (.t 24) (kI 0) 1)),.mk 6 127 true (kL 26 25),.mk 7 255 true (kM 27 26),.mk 8 511 true (.gs 27 true 28 (.mv (.t 4))),.mk 9 767 true (.gs
  27 true 29 (.mv (.t 0))),.mk 10 1791 true (.gs 27 true 30 (.ck (.t 29))),.mk 11 3839 true (.gs 27 true 31 (.off (.t 30) 18)),.mk 12 7935 true (.gs 27 true
  32 (.ld (.t 31))),.mk 13 8447 true (.gs 27 true 33 (.mv (.t 0))),.mk 14 24831 true (.gs 27 true 34 (.ck (.t 33))),.mk 15 57599 true (.gs 27 true 35 (.off
  (.t 34) 15)),.mk 16 123135 true (.gs 27 true 36 (.ld (.t 35))),.mk 17 254207 true (.gs 27 true 37 (.ar .add (.t 36) (kI 1))),.mk 18 516351 true (.gs 27 true
  38 (.ar .mul (.t 37) (kI 8))),.mk 19 1048319 true (.gs 27 true 39 (.q (.min (.t 32) (.t 38)))),.mk 20 2097151 true (.gs 27 true 40 (.cm .lt (.t 28) (.t
  39))),.mk 21 4194303 true (.s 41 (.pick (.t 27) (.t 40) (.c (.b false))))] []) (.cond (.t 41) .skip (.exit 0))) (.seq (.blk 1 (.reg [3] [kM 44 3,kM 45 4,.s
  46 (.q (.rem (.t 45) (kI 8))),.s 47 (.bsl [.i (.ofNat 0)] 1 (.cons 0 1 (.t 46) .nil)),.s 48 (.app 1 8 (.t 44) (.t 47)),kM 3 48])) (.reg [4] [kM 42 4,.s 43
  (.ar .add (.t 42) (kI 1)),kM 4 43])))))) (.seq (.reg [2] [kM 49 3,kM 2 49]) .ret)) .skip)) (.seq (.seq (.reg [54,55,56] [kM 50 0,kC 51 50,kO 52 51 12,kO
  53 52 1,kL 54 53,.s 55 (.len (.t 54)),.s 56 (.mv (kI 0))]) (.blk 2 (.loop (.seq (.reg [57] [.s 57 (.cm .lt (.t 56) (.t 55))]) (.seq (.cond (.t 57) .skip
  (.exit 2)) (.seq (.blk 3 (.seq (.reg [5,6] [kM 58 56,.s 59 (.ixp (.t 54) (.t 56) 1),kL 60 59,kM 5 58,kM 6 60]) (.seq (.reg [7,8] [kM 62 0,kC 63 62,kO
  64 63 12,kW 65 64 2,kM 66 5,.s 67 (.call 260 [(.t 65),(.t 66)]),kM 61 67,kE 68 61 0,kE 69 61 1,kE 70 61 2,kM 7 68,kM 8 69,kM 9 70]) (.seq (.reg [79]
  [kM 71 6,kM 72 71,.gs 72 true 73 (.mv (.t 7)),.gs 72 true 74 (.mv (.t 0)),.gs 72 true 75 (.ck (.t 74)),.gs 72 true 76 (.off (.t 75) 15),.gs 72 true 77
  (.ld (.t 76)),.gs 72 true 78 (.cm .eq (.t 73) (.t 77)),.s 79 (.pick (.t 72) (.t 78) (.c (.b false)))]) (.cond (.t 79) (.reg [3] [kM 80 3,kM 81 8,.s 82
  (.bsl [.i (.ofNat 0)] 1 (.cons 0 1 (.t 81) .nil)),.s 83 (.app 1 8 (.t 80) (.t 82)),kM 3 83]) .skip))))) (.reg [56] [.s 84 (.ar .add (.t 56) (kI 1)),kM 56
  84]))))))) (.seq (.reg [2] [kM 85 3,kM 2 85]) .ret)))))
theorem fq374 : FF 374 kf374 := cf (em := 604463180025491252855293) Tryz.func374 (by kernel_rfl) (by kernel_rfl)
def kf375 : KFun := .mk 1 [.t 2] (.seq (.reg [2] [.s 2 (.mv (kI 0))]) (.seq (.blk 0 (.seq (.reg [3] [kM 4 0,kC 5 4,kO 6 5 16,kL 7 6,.s 8 (.len (.t 7)),.s 9 (.cm .gt (.t 8) (kI
  0)),kM 3 9]) (.cond (.t 3) (.seq (.reg [2] [.s 2 (.mv (kI 1))]) .ret) (.seq (.drw [10] [.mk 0 1 true (kM 11 0),.mk 1 3 true (kC 12 11),.mk 2 7 true (kO 13
  12 15),.mk 3 15 true (kL 14 13),.mk 4 31 true (.s 15 (.ar .add (.t 14) (kI 1))),.mk 5 32 true (kM 16 0),.mk 6 96 false (.s 17 (.call 378 [(.t 16)])),.mk 7
  255 true (.s 18 (.cm .ge (.t 15) (.t 17))),.mk 8 511 true (kM 10 18)] [.mk 64 96 (.s 17 (.call 378 [(.t 16)]))]) (.cond (.t 10) (.seq (.reg [2] [.s 2 (.mv (kI
  9))]) .ret) (.seq (.reg [19] [kM 20 0,kC 21 20,kO 22 21 12,kO 23 22 0,kL 24 23,.s 25 (.not (.t 24)),kM 19 25]) (.cond (.t 19) (.seq (.reg [2] [.s 2 (.mv
  (kI 3))]) .ret) .skip))))))) (.seq (.reg [] [kM 26 0,kC 27 26,kO 28 27 15,kL 29 28,.s 30 (.ar .add (.t 29) (kI 1)),kC 31 26,kO 32 31 15,.n (.st (.t 32)
  (.t 30))]) (.seq (.reg [2] [kM 33 0,.s 34 (.call 376 [(.t 33)]),kM 2 34]) .ret))))
theorem fq375 : FF 375 kf375 := cf (em := 525325) Tryz.func375 (by kernel_rfl) (by kernel_rfl)
def kf378 : KFun := .mk 1 [.t 2] (.seq (.reg [2] [.s 2 (.mv (kI 0))]) (.seq (.seq (.reg [7] [kM 3 0,kC 4 3,kO 5 4 12,kO 6 5 0,kL 7 6]) (.cond (.t 7) (.seq (.reg [2] [kM 8 0,kC
  9 8,kO 10 9 18,kL 11 10,.s 12 (.call 320 [(.t 11)]),kM 2 12]) .ret) .skip)) (.seq (.reg [2] [kM 13 0,kC 14 13,kO 15 14 12,kW 16 15 2,.s 17 (.call 259
  [(.t 16),(kI 0)]),kM 2 17]) .ret)))
theorem fq378 : FF 378 kf378 := cf (em := 133) Tryz.func378 (by kernel_rfl) (by kernel_rfl)
end Go.Kx
