/-
  Functions of the program in the evaluator's form; that this is right. Printed by a program of ours.
-/
import Derived.Test.YtkggojngcnkabaaGreatB11
set_option linter.unusedVariables false
set_option linter.unusedSimpArgs false
set_option maxRecDepth 100000
namespace Go.Kx
open Go.Proofs
def kf10 : KFun := .mk 1 [.t 2] (.seq (.reg [2] [.s 2 (.mv (.c (.b false)))]) (.seq (.seq (.reg [20] [.s 19 (.call 43 []),.s 20 (.not (.t 19))]) (.cond (.t 20) (.seq (.reg [2] [.s
  2 (.mv (.c (.b false)))]) .ret) .skip)) (.seq (.seq (.reg [26] [kM 21 0,.s 22 (.cm .lt (.t 21) (kI 2)),kM 23 22,.gs 23 false 24 (.mv (.t 0)),.gs 23 false
  25 (.cm .gt (.t 24) (kI 8)),.s 26 (.pick (.t 23) (.c (.b true)) (.t 25))]) (.cond (.t 26) (.seq (.reg [2] [.s 27 (.call 43 []),kM 2 27]) .ret) .skip)) (.seq
  (.reg [3] [.s 3 (.mv (.c (.ns)))]) (.seq (.seq (.reg [4] [.s 4 (.mv (kI 0))]) (.blk 0 (.loop (.seq (.seq (.reg [30] [kM 28 4,kM 29 0,.s 30 (.cm .lt (.t 28)
  (.t 29))]) (.cond (.t 30) .skip (.exit 0))) (.seq (.blk 1 (.reg [3] [kM 33 3,.s 34 (.bld [.i (.ofNat 0),.i (.ofNat 0),.i (.ofNat 0),.i (.ofNat 0),.i
  (.ofNat 0),.z 0 0] (.cons 0 1 (kI 1) (.cons 1 1 (kI 0) .nil))),.s 35 (.bld [.i (.ofNat 0),.i (.ofNat 0),.i (.ofNat 0),.i (.ofNat 0),.i (.ofNat 0),.z 0
  0] (.cons 0 1 (kI 7) (.cons 1 1 (kI 1) .nil))),.s 36 (.bld [.i (.ofNat 0),.i (.ofNat 0),.i (.ofNat 0),.i (.ofNat 0),.i (.ofNat 0),.z 0 0] (.cons 0 1 (kI
  4) (.cons 1 1 (kI 0) (.cons 2 1 (kI 1) .nil)))),.s 37 (.bld [.i (.ofNat 0),.i (.ofNat 0),.i (.ofNat 0),.i (.ofNat 0),.i (.ofNat 0),.z 0 0] (.cons 0 1 (kI
  8) (.cons 2 1 (kI 0) .nil))),.s 38 (.bsl [.i (.ofNat 0),.i (.ofNat 0),.i (.ofNat 0),.i (.ofNat 0),.i (.ofNat 0),.z 0 0] 4 (.cons 0 6 (.t 34) (.cons 6 6
  (.t 35) (.cons 12 6 (.t 36) (.cons 18 6 (.t 37) .nil))))),.s 39 (.app 6 56 (.t 33) (.t 38)),kM 3 39])) (.reg [4] [kM 31 4,.s 32 (.ar .add (.t 31) (kI 1)),
  kM 4 32])))))) (.seq (.reg [3] [kM 40 3,kM 41 0,.s 42 (.ar .sub (kI 9) (.t 41)),.s 43 (.ar .mul (kI 8) (.t 42)),.s 44 (.bld [.i (.ofNat 0),.i (.ofNat 0),
  .i (.ofNat 0),.i (.ofNat 0),.i (.ofNat 0),.z 0 0] (.cons 0 1 (kI 2) (.cons 1 1 (kI 2) (.cons 2 1 (kI 2) (.cons 4 1 (.t 43) .nil))))),.s 45 (.bld [.i
  (.ofNat 0),.i (.ofNat 0),.i (.ofNat 0),.i (.ofNat 0),.i (.ofNat 0),.z 0 0] (.cons 0 1 (kI 13) (.cons 1 1 (kI 0) .nil))),.s 46 (.bld [.i (.ofNat 0),.i
  (.ofNat 0),.i (.ofNat 0),.i (.ofNat 0),.i (.ofNat 0),.z 0 0] (.cons 0 1 (kI 13) (.cons 1 1 (kI 1) .nil))),.s 47 (.bld [.i (.ofNat 0),.i (.ofNat 0),.i
  (.ofNat 0),.i (.ofNat 0),.i (.ofNat 0),.z 0 0] (.cons 0 1 (kI 8) (.cons 2 1 (kI 1) .nil))),kM 48 0,.s 49 (.ar .sub (kI 9) (.t 48)),.s 50 (.ar .mul (kI 8)
  (.t 49)),.s 51 (.bld [.i (.ofNat 0),.i (.ofNat 0),.i (.ofNat 0),.i (.ofNat 0),.i (.ofNat 0),.z 0 0] (.cons 0 1 (kI 2) (.cons 1 1 (kI 2) (.cons 2 1 (kI 2)
  (.cons 4 1 (.t 50) .nil))))),.s 52 (.bsl [.i (.ofNat 0),.i (.ofNat 0),.i (.ofNat 0),.i (.ofNat 0),.i (.ofNat 0),.z 0 0] 5 (.cons 0 6 (.t 44) (.cons 6 6
  (.t 45) (.cons 12 6 (.t 46) (.cons 18 6 (.t 47) (.cons 24 6 (.t 51) .nil)))))),.s 53 (.app 6 56 (.t 40) (.t 52)),kM 3 53]) (.seq (.reg [5,6] [.s 55 (.call
  45 [(kI 9),(kI 0)]),kM 56 3,.s 57 (.bsl [.ns] 1 (.cons 0 1 (.t 56) .nil)),.s 58 (.call 44 [(.t 55),(.t 57)]),kM 54 58,kE 59 54 0,kE 60 54 1,kM 5 59,
  kM 6 60]) (.seq (.seq (.reg [66] [kM 61 5,.s 62 (.nilp true (.t 61)),kM 63 62,.gs 63 false 64 (.mv (.t 6)),.gs 63 false 65 (.cm .ne (.t 64) (kI 0)),.s 66
  (.pick (.t 63) (.c (.b true)) (.t 65))]) (.cond (.t 66) (.seq (.reg [2] [.s 2 (.mv (.c (.b false)))]) .ret) .skip)) (.seq (.reg [7] [kM 67 0,.s 68 (.ar .mul
  (kI 4) (.t 67)),kM 7 68]) (.seq (.seq (.reg [8] [.s 8 (.mv (kI 0))]) (.blk 2 (.loop (.seq (.seq (.reg [70] [kM 69 8,.s 70 (.cm .lt (.t 69) (kI 60000))])
  (.cond (.t 70) .skip (.exit 2))) (.seq (.blk 3 (.seq (.reg [9] [kM 73 5,kM 74 8,.s 75 (.q (.bits .and (.t 74) (kI 1))),.s 76 (.call 46 [(.t 73),(.t 75)]),
  .s 9 (.new [.i (.ofNat 0),.b false,.i (.ofNat 0),.i (.ofNat 0),.i (.ofNat 0),.b false,.z 0 0]),.n (.stn (.t 9) (.t 76) 7)]) (.seq (.seq (.reg [79] [kO
  77 9 1,kL 78 77,.s 79 (.not (.t 78))]) (.cond (.t 79) (.exit 3) .skip)) (.seq (.reg [10] [kO 80 9 2,kW 81 80 5,.s 10 (.new [.i (.ofNat 0),.i (.ofNat 0),
  .i (.ofNat 0),.b false,.z 0 0]),.n (.stn (.t 10) (.t 81) 5)]) (.seq (.seq (.reg [85] [kO 82 10 0,kL 83 82,kM 84 7,.s 85 (.cm .eq (.t 83) (.t 84))])
  (.cond (.t 85) (.seq (.reg [11,12] [kM 87 5,kC 88 87,kO 89 88 1,kW 90 89 1,.s 91 (.call 47 [(.t 90)]),kM 86 91,kE 92 86 0,kE 93 86 1,kM 11 92,kM 12
  93]) (.seq (.reg [15] [kM 95 5,.s 96 (.call 52 [(.t 95),(kI 0)]),kM 94 96,kE 97 94 0,kE 98 94 1,kE 99 94 2,kM 13 97,kM 14 98,kM 15 99]) (.seq (.seq
  (.reg [121] [kO 100 10 2,kL 101 100,.s 102 (.cm .ne (.t 101) (kI 6)),kM 103 102,.gs 103 false 104 (.mv (.t 11)),.gs 103 false 105 (.cm .lt (.t 104) (kI
  2)),.s 106 (.pick (.t 103) (.c (.b true)) (.t 105)),kM 107 106,.gs 107 false 108 (.mv (.t 12)),.gs 107 false 109 (.cm .lt (.t 108) (kI 1)),.s 110 (.pick
  (.t 107) (.c (.b true)) (.t 109)),kM 111 110,.gs 111 false 112 (.mv (.t 15)),.gs 111 false 113 (.len (.t 112)),.gs 111 false 114 (.cm .ne (.t 113) (kI 3)),
  .s 115 (.pick (.t 111) (.c (.b true)) (.t 114)),kM 116 115,.gs 116 false 117 (.mv (.t 15)),.gs 116 false 118 (.ixp (.t 117) (kI 2) 2),.gs 116 false 119
  (.off (.t 118) 0),.gs 116 false 120 (.ld (.t 119)),.s 121 (.pick (.t 116) (.c (.b true)) (.t 120))]) (.cond (.t 121) (.seq (.reg [2] [.s 2 (.mv (.c (.b
  false)))]) .ret) .skip)) (.exit 3)))) .skip)) (.seq (.seq (.reg [124] [kO 122 10 2,kL 123 122,.s 124 (.cm .ne (.t 123) (kI 0))]) (.cond (.t 124) (.seq (.reg
  [2] [.s 2 (.mv (.c (.b false)))]) .ret) .skip)) (.seq (.reg [129] [kO 125 10 0,kL 126 125,kM 127 7,.s 128 (.ar .add (.t 127) (kI 4)),.s 129 (.cm .eq (.t
  126) (.t 128))]) (.cond (.t 129) (.seq (.reg [18] [kM 131 5,.s 132 (.call 48 [(.t 131)]),kM 130 132,kE 133 130 0,kE 134 130 1,kE 135 130 2,kM 16 133,kM
  17 134,kM 18 135]) (.seq (.reg [2] [.s 136 (.call 43 []),kM 137 136,.gs 137 true 138 (.mv (.t 18)),.gs 137 true 139 (.mv (.t 0)),.gs 137 true 140 (.ar
  .sub (kI 10) (.t 139)),.gs 137 true 141 (.cm .eq (.t 138) (.t 140)),.s 142 (.pick (.t 137) (.t 141) (.c (.b false))),kM 2 142]) .ret)) .skip)))))))) (.reg
  [8] [kM 71 8,.s 72 (.ar .add (.t 71) (kI 1)),kM 8 72])))))) (.seq (.reg [2] [.s 2 (.mv (.c (.b false)))]) .ret)))))))))))
theorem fq10 : FF 10 kf10 := cf (em := 704490837766044703982533814410152288253) Tryz.func10 (by kernel_rfl) (by kernel_rfl)
def kf16 : KFun := .mk 1 [.t 2] (.seq (.reg [2] [.s 2 (.mv (kI 0))]) (.seq (.reg [2] [kM 3 0,kC 4 3,kO 5 4 3,kL 6 5,kM 2 6]) .ret))
theorem fq16 : FF 16 kf16 := cf (em := 5) Tryz.func16 (by kernel_rfl) (by kernel_rfl)
def kf17 : KFun := .mk 2 [.cn 4 5,.t 5] (.seq (.reg [4,5] [.s 4 (.new [.i (.ofNat 0),.i (.ofNat 0),.i (.ofNat 0),.b false,.z 0 0]),.s 5 (.mv (.c (.b false)))]) (.seq (.seq
  (.reg [12] [kM 9 0,kC 10 9,kO 11 10 3,kL 12 11]) (.blk 0 (.seq (.reg [13] [.s 14 (.cm .eq (.t 12) (kI 0)),kM 13 14]) (.cond (.t 13) (.seq (.drw [6,7,8]
  [.mk 0 1 true (kM 16 1),.mk 1 3 true (kC 17 16),.mk 2 7 true (kO 18 17 12),.mk 3 15 true (kL 19 18),.mk 4 16 true (kM 20 0),.mk 5 48 true (kC 21 20),.mk
  6 112 true (kO 22 21 0),.mk 7 240 true (kL 23 22),.mk 8 511 false (.s 24 (.call 71 [(.t 19),(.t 23)])),.mk 9 1023 true (kM 15 24),.mk 10 2047 true (kE 25
  15 0),.mk 11 3071 true (kE 26 15 1),.mk 12 5119 true (kE 27 15 2),.mk 13 10239 true (kM 6 25),.mk 14 28671 true (kM 7 26),.mk 15 65535 true (kM 8 27)]
  [.mk 256 511 (.s 24 (.call 71 [(.t 19),(.t 23)]))]) (.seq (.seq (.reg [29] [kM 28 8,.s 29 (.not (.t 28))]) (.cond (.t 29) (.seq (.reg [] [kM 30 0,kC 31 30,
  kO 32 31 3,.n (.st (.t 32) (kI 4))]) (.exit 0)) .skip)) (.seq (.reg [] [kM 33 0,kM 34 0,kM 35 6,kM 36 7,kC 37 33,kO 38 37 4,.n (.st (.t 38) (.t 35)),kC
  39 34,kO 40 39 5,.n (.st (.t 40) (.t 36))]) (.reg [] [kM 41 0,kM 42 0,kC 43 41,kO 44 43 3,.n (.st (.t 44) (kI 1)),kC 45 42,kO 46 45 7,.n (.st (.t 46)
  (kI 0))])))) (.seq (.reg [47] [.s 48 (.cm .eq (.t 12) (kI 1)),kM 47 48]) (.cond (.t 47) (.reg [] [kM 49 0,kM 50 1,.s 51 (.call 72 [(.t 49),(.t 50)])])
  (.seq (.reg [52] [.s 53 (.cm .eq (.t 12) (kI 2)),kM 52 53]) (.cond (.t 52) (.seq (.reg [] [kM 54 0,kC 55 54,kO 56 55 10,kO 57 56 0,kL 58 57,.s 59 (.ar
  .add (.t 58) (kI 1)),kC 60 54,kO 61 60 10,kO 62 61 0,.n (.st (.t 62) (.t 59))]) (.seq (.reg [5] [kM 63 0,kM 64 1,.s 65 (.call 73 [(.t 63),(.t 64)]),kE
  66 65 0,kE 67 65 1,.n (.stn (.t 4) (.t 66) 5),kM 5 67]) .ret)) (.seq (.reg [68] [.s 69 (.cm .eq (.t 12) (kI 3)),kM 68 69]) (.cond (.t 68) (.seq (.reg []
  [kM 70 0,kC 71 70,kO 72 71 10,kO 73 72 0,kL 74 73,.s 75 (.ar .add (.t 74) (kI 1)),kC 76 70,kO 77 76 10,kO 78 77 0,.n (.st (.t 78) (.t 75))]) (.seq
  (.reg [5] [kM 79 0,kM 80 1,.s 81 (.call 74 [(.t 79),(.t 80)]),kE 82 81 0,kE 83 81 1,.n (.stn (.t 4) (.t 82) 5),kM 5 83]) .ret)) .skip)))))))))) (.seq
  (.reg [5] [.s 84 (.bld [.i (.ofNat 0),.i (.ofNat 0),.i (.ofNat 0),.b false,.z 0 0] .nil),.n (.stn (.t 4) (.t 84) 5),.s 5 (.mv (.c (.b false)))]) .ret)))
theorem fq17 : FF 17 kf17 := cf (em := 295152549517005435379) Tryz.func17 (by kernel_rfl) (by kernel_rfl)
def kf18 : KFun := .mk 1 [.t 2] (.seq (.reg [2] [.s 2 (.mv (.c (.ns)))]) (.seq (.reg [2] [kM 3 0,kC 4 3,kO 5 4 2,kL 6 5,.s 7 (.call 75 [(.t 6)]),kM 2 7]) .ret))
theorem fq18 : FF 18 kf18 := cf (em := 5) Tryz.func18 (by kernel_rfl) (by kernel_rfl)
def kf20 : KFun := .mk 1 [.t 2] (.seq (.reg [1,2] [.s 1 (.box (.t 0)),.s 2 (.mv (.c (.np)))]) (.seq (.reg [2] [kO 3 1 0,kL 4 3,kM 2 4]) .ret))
theorem fq20 : FF 20 kf20 := cf (em := 7) Tryz.func20 (by kernel_rfl) (by kernel_rfl)
def kf21 : KFun := .mk 1 [.t 2,.t 3,.t 4] (.seq (.reg [2,3,4] [.s 2 (.mv (kI 0)),.s 3 (.mv (kI 0)),.s 4 (.mv (kI 0))]) (.seq (.drw [2,3,4] [.mk 0 1 true (kM 5 0),.mk 1 3
  true (kC 6 5),.mk 2 7 true (kO 7 6 1),.mk 3 15 true (.s 8 (.q (.iar (.t 7) (kI 0) 1 3))),.mk 4 31 true (kL 9 8),.mk 5 32 true (kM 10 0),.mk 6 96 true (kC
  11 10),.mk 7 224 true (kO 12 11 1),.mk 8 480 true (.s 13 (.q (.iar (.t 12) (kI 1) 1 3))),.mk 9 992 true (kL 14 13),.mk 10 1024 true (kM 15 0),.mk 11 3072
  true (kC 16 15),.mk 12 7168 true (kO 17 16 1),.mk 13 15360 true (.s 18 (.q (.iar (.t 17) (kI 2) 1 3))),.mk 14 31744 true (kL 19 18),.mk 15 32799 true (kM 2
  9),.mk 16 99327 true (kM 3 14),.mk 17 262143 true (kM 4 19)] []) .ret))
theorem fq21 : FF 21 kf21 := cf (em := 29) Tryz.func21 (by kernel_rfl) (by kernel_rfl)
def kf22 : KFun := .mk 2 [.t 4] (.seq (.reg [4] [.s 4 (.mv (kI 0))]) (.seq (.seq (.reg [15] [kM 5 1,.s 6 (.cm .lt (.t 5) (kI 0)),kM 7 6,.gs 7 false 8 (.mv (.t 1)),.gs 7 false 9
  (.mv (.t 0)),.gs 7 false 10 (.ck (.t 9)),.gs 7 false 11 (.off (.t 10) 2),.gs 7 false 12 (.ld (.t 11)),.gs 7 false 13 (.len (.t 12)),.gs 7 false 14 (.cm
  .ge (.t 8) (.t 13)),.s 15 (.pick (.t 7) (.c (.b true)) (.t 14))]) (.cond (.t 15) (.seq (.reg [4] [.s 4 (.mv (.c (.i (.negSucc 0))))]) .ret) .skip)) (.seq
  (.reg [4] [kM 16 0,kC 17 16,kO 18 17 2,kL 19 18,kM 20 1,.s 21 (.ixp (.t 19) (.t 20) 1),kL 22 21,kM 4 22]) .ret)))
theorem fq22 : FF 22 kf22 := cf (em := 32787) Tryz.func22 (by kernel_rfl) (by kernel_rfl)
def kf25 : KFun := .mk 3 [.t 6] (.seq (.reg [6] [.s 6 (.mv (.c (.b false)))]) (.seq (.reg [] [kM 7 0,kC 8 7,kO 9 8 3,kL 10 9,.s 11 (.ar .add (.t 10) (kI 1)),kC 12 7,kO 13 12
  3,.n (.st (.t 13) (.t 11))]) (.seq (.seq (.reg [16] [kM 14 1,.s 15 (.call 77 [(.t 14)]),.s 16 (.not (.t 15))]) (.cond (.t 16) (.seq (.reg [6] [.s 6 (.mv (.c
  (.b false)))]) .ret) .skip)) (.seq (.reg [] [kM 17 0,kM 18 1,kC 19 17,kO 20 19 0,.n (.st (.t 20) (.t 18))]) (.seq (.reg [] [kM 21 0,kM 22 0,kC 23 22,kO
  24 23 1,kL 25 24,kM 26 2,.s 27 (.bne (.t 25) (.t 26)),kC 28 21,kO 29 28 1,.n (.st (.t 29) (.t 27))]) (.seq (.reg [6] [.s 6 (.mv (.c (.b true)))])
  .ret))))))
theorem fq25 : FF 25 kf25 := cf (em := 65607) Tryz.func25 (by kernel_rfl) (by kernel_rfl)
def kf26 : KFun := .mk 1 [.t 2] (.seq (.reg [2] [.s 2 (.mv (kI 0))]) (.seq (.reg [2] [kM 3 0,kC 4 3,kO 5 4 4,kL 6 5,kM 2 6]) .ret))
theorem fq26 : FF 26 kf26 := cf (em := 5) Tryz.func26 (by kernel_rfl) (by kernel_rfl)
def kf28 : KFun := .mk 3 [.t 6] (.seq (.reg [6] [.s 6 (.mv (.c (.b false)))]) (.seq (.reg [6] [kM 7 0,kM 8 1,.s 9 (.call 78 [(.t 7),(.t 8)]),.s 10 (.cm .eq (.t 9) (kI 2)),kM
  11 10,.gs 11 true 12 (.mv (.t 0)),.gs 11 true 13 (.ck (.t 12)),.gs 11 true 14 (.off (.t 13) 0),.gs 11 true 15 (.ld (.t 14)),.gs 11 true 16 (.mv (.t 1)),
  .gs 11 true 17 (.ixp (.t 15) (.t 16) 3),.gs 11 true 18 (.off (.t 17) 2),.gs 11 true 19 (.ld (.t 18)),.gs 11 true 20 (.mv (.t 2)),.gs 11 true 21 (.beq (.t
  19) (.t 20)),.s 22 (.pick (.t 11) (.t 21) (.c (.b false))),kM 6 22]) .ret))
theorem fq28 : FF 28 kf28 := cf (em := 71) Tryz.func28 (by kernel_rfl) (by kernel_rfl)
def kf29 : KFun := .mk 2 [.t 4] (.seq (.reg [4] [.s 4 (.mv (.c (.b false)))]) (.seq (.reg [4] [kM 5 0,kM 6 1,.s 7 (.call 79 [(.t 5),(.t 6)]),kM 8 7,.gs 8 true 9 (.mv (.t 0)),
  .gs 8 true 10 (.ck (.t 9)),.gs 8 true 11 (.off (.t 10) 0),.gs 8 true 12 (.ld (.t 11)),.gs 8 true 13 (.mv (.t 1)),.gs 8 true 14 (.ixp (.t 12) (.t 13) 3),
  .gs 8 true 15 (.off (.t 14) 1),.gs 8 true 16 (.ld (.t 15)),.s 17 (.pick (.t 8) (.t 16) (.c (.b false))),kM 4 17]) .ret))
theorem fq29 : FF 29 kf29 := cf (em := 19) Tryz.func29 (by kernel_rfl) (by kernel_rfl)
def kf35 : KFun := .mk 1 [.t 2] (.seq (.reg [2] [.s 2 (.mv (kI 0))]) (.seq (.reg [2] [kM 3 0,kC 4 3,kO 5 4 9,kL 6 5,kM 2 6]) .ret))
theorem fq35 : FF 35 kf35 := cf (em := 5) Tryz.func35 (by kernel_rfl) (by kernel_rfl)
def kf36 : KFun := .mk 2 [] (.seq (.seq (.reg [8] [kM 4 0,kC 5 4,kO 6 5 13,kL 7 6,.s 8 (.cm .ne (.t 7) (kI 0))]) (.cond (.t 8) .ret .skip)) (.seq (.seq (.reg [13] [kM 9 0,kC
  10 9,kO 11 10 8,kL 12 11,.s 13 (.cm .gt (.t 12) (kI 0))]) (.cond (.t 13) (.reg [] [kM 14 0,kC 15 14,kO 16 15 12,kL 17 16,.s 18 (.ar .add (.t 17) (kI
  1)),kC 19 14,kO 20 19 12,.n (.st (.t 20) (.t 18))]) .skip)) (.seq (.reg [24] [kM 21 0,kC 22 21,kO 23 22 0,kL 24 23]) (.blk 0 (.seq (.reg [28] [.s 29 (.cm
  .eq (.t 24) (kI 0)),kM 28 29]) (.cond (.t 28) (.seq (.reg [34] [kM 30 1,kC 31 30,kO 32 31 11,kL 33 32,.s 34 (.call 83 [(.t 33)])]) (.cond (.t 34) (.reg []
  [kM 35 0,.s 36 (.call 84 [(.t 35),(kI 1)])]) .skip)) (.seq (.reg [37] [.s 38 (.cm .eq (.t 24) (kI 1)),kM 37 38]) (.cond (.t 37) (.reg [] [kM 39 0,kM 40 1,
  .s 41 (.call 85 [(.t 39),(.t 40)])]) (.seq (.reg [42] [.s 43 (.cm .eq (.t 24) (kI 2)),kM 42 43]) (.cond (.t 42) (.reg [] [kM 44 0,kM 45 1,.s 46 (.call 86
  [(.t 44),(.t 45),(kI 2),(kI 3)])]) (.seq (.reg [47] [.s 48 (.cm .eq (.t 24) (kI 3)),kM 47 48]) (.cond (.t 47) (.reg [] [kM 49 0,kM 50 1,.s 51 (.call 86
  [(.t 49),(.t 50),(kI 3),(kI 4)])]) (.seq (.reg [52] [.s 53 (.cm .eq (.t 24) (kI 4)),kM 52 53]) (.cond (.t 52) (.reg [] [kM 54 0,kM 55 1,.s 56 (.call 87
  [(.t 54),(.t 55)])]) (.seq (.reg [57] [.s 58 (.cm .eq (.t 24) (kI 5)),kM 57 58]) (.cond (.t 57) (.reg [] [kM 59 0,kM 60 1,.s 61 (.call 88 [(.t 59),(.t
  60)])]) (.seq (.reg [62] [.s 63 (.cm .eq (.t 24) (kI 6)),kM 62 63]) (.cond (.t 62) (.reg [] [kM 64 0,kM 65 1,.s 66 (.call 89 [(.t 64),(.t 65)])]) (.seq
  (.reg [67] [.s 68 (.cm .eq (.t 24) (kI 7)),kM 67 68]) (.cond (.t 67) (.reg [] [kM 69 0,kM 70 1,.s 71 (.call 90 [(.t 69),(.t 70)])]) (.seq (.reg [72] [.s 73
  (.cm .eq (.t 24) (kI 8)),kM 72 73]) (.cond (.t 72) (.reg [] [kM 74 0,kM 75 1,.s 76 (.call 91 [(.t 74),(.t 75)])]) (.seq (.reg [77] [.s 78 (.cm .eq (.t 24)
  (kI 9)),kM 77 78]) (.cond (.t 77) (.reg [] [kM 79 0,kM 80 1,.s 81 (.call 92 [(.t 79),(.t 80)])]) (.reg [] [kM 25 0,kM 26 1,.s 27 (.call 93 [(.t 25),(.t
  26)])])))))))))))))))))))))))))
theorem fq36 : FF 36 kf36 := cf (em := 155990428337384537989379) Tryz.func36 (by kernel_rfl) (by kernel_rfl)
def kf42 : KFun := .mk 1 [.t 2] (.seq (.reg [1,2] [.s 1 (.box (.t 0)),.s 2 (.mv (kI 0))]) (.seq (.reg [2] [kO 3 1 9,kL 4 3,.s 5 (.call 95 [(.t 4)]),kM 2 5]) .ret))
theorem fq42 : FF 42 kf42 := cf (em := 7) Tryz.func42 (by kernel_rfl) (by kernel_rfl)
def kf43 : KFun := .mk 0 [.t 0] (.seq (.reg [0] [.s 0 (.mv (.c (.b false)))]) (.seq (.reg [1,2] [.s 5 (.bld [.b false,.ns] .nil),.s 6 (.bsl [.b false,.ns] 1 (.cons 0 2 (.t 5)
  .nil)),.s 7 (.bld [.i (.ofNat 0),.i (.ofNat 0),.i (.ofNat 0),.i (.ofNat 0),.i (.ofNat 0),.i (.ofNat 0),.i (.ofNat 0),.i (.ofNat 0),.ns] (.cons 0 1 (kI
  4) (.cons 3 1 (kI 1) (.cons 4 1 (kI 1) (.cons 6 1 (kI 1) (.cons 8 1 (.t 6) .nil)))))),.s 8 (.call 44 [(.t 7),(.c (.ns))]),kM 4 8,kE 9 4 0,kE 10 4 1,kM 1
  9,kM 2 10]) (.seq (.seq (.reg [16] [kM 11 1,.s 12 (.nilp true (.t 11)),kM 13 12,.gs 13 false 14 (.mv (.t 2)),.gs 13 false 15 (.cm .ne (.t 14) (kI 0)),.s
  16 (.pick (.t 13) (.c (.b true)) (.t 15))]) (.cond (.t 16) (.seq (.reg [0] [.s 0 (.mv (.c (.b false)))]) .ret) .skip)) (.seq (.reg [3] [kM 17 1,.s 18 (.call
  46 [(.t 17),(kI 1)]),.s 3 (.new [.i (.ofNat 0),.b false,.i (.ofNat 0),.i (.ofNat 0),.i (.ofNat 0),.b false,.z 0 0]),.n (.stn (.t 3) (.t 18) 7)]) (.seq
  (.reg [0] [kO 19 3 0,kL 20 19,.s 21 (.cm .eq (.t 20) (kI 1)),kM 22 21,.gs 22 true 23 (.off (.t 3) 1),.gs 22 true 24 (.ld (.t 23)),.gs 22 true 25 (.not
  (.t 24)),.s 26 (.pick (.t 22) (.t 25) (.c (.b false))),kM 27 26,.gs 27 true 28 (.mv (.t 1)),.gs 27 true 29 (.call 96 [(.t 28)]),.gs 27 true 30 (.cm .eq
  (.t 29) (kI 0)),.s 31 (.pick (.t 27) (.t 30) (.c (.b false))),kM 32 31,.gs 32 true 33 (.mv (.t 1)),.gs 32 true 34 (.call 97 [(.t 33)]),.gs 32 true 35 (.cm
  .eq (.t 34) (kI 0)),.s 36 (.pick (.t 32) (.t 35) (.c (.b false))),kM 37 36,.gs 37 true 38 (.mv (.t 1)),.gs 37 true 39 (.call 46 [(.t 38),(kI 0)]),.gs 37
  true 40 (.q (.fld (.t 39) 0)),.gs 37 true 41 (.cm .eq (.t 40) (kI 0)),.s 42 (.pick (.t 37) (.t 41) (.c (.b false))),kM 43 42,.gs 43 true 44 (.mv (.t 1)),
  .gs 43 true 45 (.call 96 [(.t 44)]),.gs 43 true 46 (.cm .eq (.t 45) (kI 1)),.s 47 (.pick (.t 43) (.t 46) (.c (.b false))),kM 0 47]) .ret)))))
theorem fq43 : FF 43 kf43 := cf (em := 65551) Tryz.func43 (by kernel_rfl) (by kernel_rfl)
def kf44 : KFun := .mk 2 [.t 4,.t 5] (.seq (.reg [2,4,5] [.s 2 (.box (.t 0)),.s 4 (.mv (.c (.np))),.s 5 (.mv (kI 0))]) (.seq (.reg [6,7] [kW 12 2 9,.s 13 (.call 68 [(.t
  12)]),kM 11 13,kE 14 11 0,kE 15 11 1,kM 6 14,kM 7 15]) (.seq (.seq (.reg [17] [kM 16 7,.s 17 (.cm .ne (.t 16) (kI 0))]) (.cond (.t 17) (.seq (.reg [4,5]
  [kM 18 7,.s 4 (.mv (.c (.np))),kM 5 18]) .ret) .skip)) (.seq (.seq (.reg [23] [kM 19 1,.s 20 (.len (.t 19)),kO 21 2 3,kL 22 21,.s 23 (.cm .gt (.t 20) (.t
  22))]) (.cond (.t 23) (.seq (.reg [4,5] [.s 4 (.mv (.c (.np))),.s 5 (.mv (kI 1))]) .ret) .skip)) (.seq (.reg [8] [kM 24 6,.s 25 (.call 80 []),.s 26 (.bld
  [.np] (.cons 0 1 (.t 25) .nil)),.s 27 (.bld [.np,.np,.ns,.i (.ofNat 0)] (.cons 0 1 (.t 24) (.cons 1 1 (.t 26) .nil))),.s 28 (.box (.t 27)),kM 8 28])
  (.seq (.seq (.reg [29,30,31] [kM 29 1,.s 30 (.len (.t 29)),.s 31 (.mv (kI 0))]) (.blk 0 (.loop (.seq (.reg [32] [.s 32 (.cm .lt (.t 31) (.t 30))]) (.seq
  (.cond (.t 32) .skip (.exit 0)) (.seq (.blk 1 (.seq (.reg [9,10] [kM 33 31,.s 34 (.ixp (.t 29) (.t 31) 1),kL 35 34,kM 9 33,kM 10 35]) (.seq (.seq (.reg
  [38] [kM 36 10,.s 37 (.len (.t 36)),.s 38 (.cm .gt (.t 37) (kI 1000))]) (.cond (.t 38) (.seq (.reg [4,5] [.s 4 (.mv (.c (.np))),.s 5 (.mv (kI 1))]) .ret)
  .skip)) (.drw [] [.mk 0 1 true (kM 39 8),.mk 1 2 true (kM 40 8),.mk 2 6 true (kC 41 40),.mk 3 14 true (kO 42 41 2),.mk 4 30 true (kL 43 42),.mk 5 32 true
  (kM 44 9),.mk 6 64 true (kO 45 2 4),.mk 7 192 true (kL 46 45),.mk 8 256 true (kM 47 10),.mk 9 992 false (.s 48 (.call 69 [(.t 44),(.t 46),(.t 47)])),.mk
  10 2016 false (.s 49 (.bsl [.np] 1 (.cons 0 1 (.t 48) .nil))),.mk 11 4094 false (.s 50 (.app 1 8 (.t 43) (.t 49))),.mk 12 8191 true (kC 51 39),.mk 13 16383
  true (kO 52 51 2),.mk 14 32767 false (.n (.st (.t 52) (.t 50)))] [.mk 19968 992 (.s 48 (.call 69 [(.t 44),(.t 46),(.t 47)])),.mk 19456 2016 (.s 49 (.bsl
  [.np] 1 (.cons 0 1 (.t 48) .nil))),.mk 18432 4094 (.s 50 (.app 1 8 (.t 43) (.t 49))),.mk 16384 32767 (.n (.st (.t 52) (.t 50)))])))) (.reg [31] [.s 53 (.ar
  .add (.t 31) (kI 1)),kM 31 53]))))))) (.seq (.reg [4,5] [kM 54 8,kM 4 54,.s 5 (.mv (kI 0))]) .ret)))))))
theorem fq44 : FF 44 kf44 := cf (em := 282939492343) Tryz.func44 (by kernel_rfl) (by kernel_rfl)
def kf45 : KFun := .mk 2 [.cn 4 9] (.seq (.reg [4] [.s 4 (.new [.i (.ofNat 0),.i (.ofNat 0),.i (.ofNat 0),.i (.ofNat 0),.i (.ofNat 0),.i (.ofNat 0),.i (.ofNat 0),.i (.ofNat
  0),.ns])]) (.seq (.reg [] [kM 5 0,kM 6 1,.s 7 (.bsl [.b false] 3 (.cons 0 1 (.c (.b true)) (.cons 1 1 (.c (.b true)) (.cons 2 1 (.c (.b false)) .nil)))),.s
  8 (.bld [.b false,.ns] (.cons 1 1 (.t 7) .nil)),.s 9 (.bsl [.b false] 1 (.cons 0 1 (.c (.b true)) .nil)),.s 10 (.bld [.b false,.ns] (.cons 0 1 (.c (.b
  true)) (.cons 1 1 (.t 9) .nil))),.s 11 (.bsl [.b false] 1 (.cons 0 1 (.c (.b false)) .nil)),.s 12 (.bld [.b false,.ns] (.cons 0 1 (.c (.b true)) (.cons 1 1
  (.t 11) .nil))),.s 13 (.bsl [.b false,.ns] 3 (.cons 0 2 (.t 8) (.cons 2 2 (.t 10) (.cons 4 2 (.t 12) .nil)))),.s 14 (.bld [.i (.ofNat 0),.i (.ofNat 0),.i
  (.ofNat 0),.i (.ofNat 0),.i (.ofNat 0),.i (.ofNat 0),.i (.ofNat 0),.i (.ofNat 0),.ns] (.cons 0 1 (.t 5) (.cons 1 1 (kI 40) (.cons 2 1 (kI 2) (.cons 3 1
  (kI 2) (.cons 4 1 (kI 3) (.cons 6 1 (kI 3) (.cons 7 1 (.t 6) (.cons 8 1 (.t 13) .nil))))))))),.n (.stn (.t 4) (.t 14) 9)]) .ret))
theorem fq45 : FF 45 kf45 := cf (em := 19) Tryz.func45 (by kernel_rfl) (by kernel_rfl)
def kf46 : KFun := .mk 2 [.cn 4 7] (.seq (.reg [4] [.s 4 (.new [.i (.ofNat 0),.b false,.i (.ofNat 0),.i (.ofNat 0),.i (.ofNat 0),.b false,.z 0 0])]) (.seq (.reg [5] [kM 6 1,
  .s 7 (.bld [.i (.ofNat 0),.b false,.i (.ofNat 0),.i (.ofNat 0),.i (.ofNat 0),.b false,.z 0 0] (.cons 0 1 (.t 6) .nil)),.s 5 (.new [.i (.ofNat 0),.b
  false,.i (.ofNat 0),.i (.ofNat 0),.i (.ofNat 0),.b false,.z 0 0]),.n (.stn (.t 5) (.t 7) 7)]) (.seq (.seq (.reg [18] [kM 8 1,.s 9 (.cm .lt (.t 8) (kI
  0)),kM 10 9,.gs 10 false 11 (.mv (.t 1)),.gs 10 false 12 (.mv (.t 0)),.gs 10 false 13 (.ck (.t 12)),.gs 10 false 14 (.off (.t 13) 2),.gs 10 false 15 (.ld
  (.t 14)),.gs 10 false 16 (.len (.t 15)),.gs 10 false 17 (.cm .gt (.t 11) (.t 16)),.s 18 (.pick (.t 10) (.c (.b true)) (.t 17))]) (.cond (.t 18) (.seq (.reg
  [] [kW 19 5 7,.n (.stn (.t 4) (.t 19) 7)]) .ret) .skip)) (.seq (.reg [] [kM 20 0,kC 21 20,kO 22 21 3,kL 23 22,.s 24 (.ar .add (.t 23) (kI 1)),kC 25 20,
  kO 26 25 3,.n (.st (.t 26) (.t 24))]) (.seq (.seq (.reg [28] [kM 27 1,.s 28 (.cm .eq (.t 27) (kI 0))]) (.cond (.t 28) (.seq (.drw [] [.mk 0 1 true (kM 29 0),
  .mk 1 3 true (kC 30 29),.mk 2 7 true (kO 31 30 1),.mk 3 15 true (kO 32 31 0),.mk 4 31 true (kL 33 32),.mk 5 32 true (kM 34 0),.mk 6 96 true (kC 35 34),
  .mk 7 224 true (kO 36 35 0),.mk 8 480 true (kL 37 36),.mk 9 1023 false (.s 38 (.call 36 [(.t 33),(.t 37)]))] [.mk 512 1023 (.s 38 (.call 36 [(.t 33),(.t
  37)]))]) (.seq (.reg [] [kW 39 5 7,.n (.stn (.t 4) (.t 39) 7)]) .ret)) .skip)) (.seq (.drw [] [.mk 0 1 true (kM 41 0),.mk 1 3 true (kC 42 41),.mk 2 7 true
  (kO 43 42 2),.mk 3 15 true (kL 44 43),.mk 4 16 true (kM 45 1),.mk 5 48 true (.s 46 (.ar .sub (.t 45) (kI 1))),.mk 6 127 true (.s 47 (.ixp (.t 44) (.t 46)
  1)),.mk 7 255 true (kL 48 47),.mk 8 256 true (kM 49 0),.mk 9 768 true (kC 50 49),.mk 10 1792 true (kO 51 50 0),.mk 11 3840 true (kL 52 51),.mk 12 8191
  false (.s 53 (.call 17 [(.t 48),(.t 52)])),.mk 13 16383 true (kM 40 53),.mk 14 32767 true (kE 54 40 0),.mk 15 49151 true (kE 55 40 1),.mk 16 98303 true
  (kO 56 5 2),.mk 17 229375 false (.n (.stn (.t 56) (.t 54) 5)),.mk 18 524287 true (kO 57 5 1),.mk 19 1048575 false (.n (.st (.t 57) (.t 55)))] [.mk 659456
  8191 (.s 53 (.call 17 [(.t 48),(.t 52)])),.mk 655360 229375 (.n (.stn (.t 56) (.t 54) 5)),.mk 524288 1048575 (.n (.st (.t 57) (.t 55)))]) (.seq (.reg [] [kW
  58 5 7,.n (.stn (.t 4) (.t 58) 7)]) .ret)))))))
theorem fq46 : FF 46 kf46 := cf (em := 268697651) Tryz.func46 (by kernel_rfl) (by kernel_rfl)
def kf47 : KFun := .mk 1 [.t 2,.t 3] (.seq (.reg [1,2,3] [.s 1 (.box (.t 0)),.s 2 (.mv (kI 0)),.s 3 (.mv (kI 0))]) (.seq (.drw [2,3] [.mk 0 1 true (kO 4 1 0),.mk 1 3 true
  (kL 5 4),.mk 2 7 true (.s 6 (.call 81 [(.t 5)])),.mk 3 8 true (kO 7 1 0),.mk 4 24 true (kL 8 7),.mk 5 63 true (.s 9 (.call 35 [(.t 8)])),.mk 6 127 true
  (kM 2 6),.mk 7 255 true (kM 3 9)] []) .ret))
theorem fq47 : FF 47 kf47 := cf (em := 15) Tryz.func47 (by kernel_rfl) (by kernel_rfl)
def kf48 : KFun := .mk 1 [.t 2,.t 3,.t 4] (.seq (.reg [2,3,4] [.s 2 (.mv (kI 0)),.s 3 (.mv (kI 0)),.s 4 (.mv (kI 0))]) (.seq (.reg [2,3,4] [kM 5 0,kC 6 5,kO 7 6 0,kL 8
  7,kC 9 8,kO 10 9 10,kL 11 10,kC 12 11,kO 13 12 0,kW 14 13 1,.s 15 (.call 20 [(.t 14)]),.s 16 (.call 21 [(.t 15)]),kE 17 16 0,kE 18 16 1,kE 19 16 2,
  kM 2 17,kM 3 18,kM 4 19]) .ret))
theorem fq48 : FF 48 kf48 := cf (em := 29) Tryz.func48 (by kernel_rfl) (by kernel_rfl)
def kf52 : KFun := .mk 2 [.t 4,.t 5,.t 6] (.seq (.reg [4,5,6] [.s 4 (.mv (kI 0)),.s 5 (.mv (kI 0)),.s 6 (.mv (.c (.ns)))]) (.seq (.seq (.reg [18] [kM 8 1,.s 9 (.cm .lt (.t
  8) (kI 0)),kM 10 9,.gs 10 false 11 (.mv (.t 1)),.gs 10 false 12 (.mv (.t 0)),.gs 10 false 13 (.ck (.t 12)),.gs 10 false 14 (.off (.t 13) 2),.gs 10 false
  15 (.ld (.t 14)),.gs 10 false 16 (.len (.t 15)),.gs 10 false 17 (.cm .ge (.t 11) (.t 16)),.s 18 (.pick (.t 10) (.c (.b true)) (.t 17))]) (.cond (.t 18)
  (.seq (.reg [4,5,6] [.s 4 (.mv (.c (.i (.negSucc 0)))),.s 5 (.mv (.c (.i (.negSucc 0)))),.s 6 (.mv (.c (.ns)))]) .ret) .skip)) (.seq (.reg [7] [kM 19 0,kC
  20 19,kO 21 20 2,kL 22 21,kM 23 1,.s 24 (.ixp (.t 22) (.t 23) 1),kL 25 24,kM 7 25]) (.seq (.reg [4,5,6] [kM 26 7,.s 27 (.call 16 [(.t 26)]),kM 28 7,
  .s 29 (.call 26 [(.t 28)]),kM 30 7,.s 31 (.call 18 [(.t 30)]),kM 4 27,kM 5 29,kM 6 31]) .ret))))
theorem fq52 : FF 52 kf52 := cf (em := 262387) Tryz.func52 (by kernel_rfl) (by kernel_rfl)
def kf68 : KFun := .mk 1 [.t 2,.t 3] (.seq (.reg [1,2,3] [.s 1 (.box (.t 0)),.s 2 (.mv (.c (.np))),.s 3 (.mv (kI 0))]) (.seq (.seq (.reg [4] [kW 13 1 9,.s 14 (.call 115 [(.t
  13)]),kM 4 14]) (.seq (.reg [16] [kM 15 4,.s 16 (.cm .ne (.t 15) (kI 0))]) (.cond (.t 16) (.seq (.reg [2,3] [kM 17 4,.s 2 (.mv (.c (.np))),kM 3 17]) .ret)
  .skip))) (.seq (.reg [5,6] [kW 19 1 9,.s 20 (.call 117 [(.t 19)]),.s 21 (.call 116 [(.t 20)]),kM 18 21,kE 22 18 0,kE 23 18 1,kM 5 22,kM 6 23]) (.seq
  (.seq (.reg [25] [kM 24 6,.s 25 (.cm .ne (.t 24) (kI 0))]) (.cond (.t 25) (.seq (.reg [2,3] [kM 26 6,.s 2 (.mv (.c (.np))),kM 3 26]) .ret) .skip)) (.seq
  (.reg [7,6] [kO 28 1 0,kL 29 28,kO 30 1 6,kL 31 30,.s 32 (.call 118 [(.t 29),(.t 31)]),kM 27 32,kE 33 27 0,kE 34 27 1,kM 7 33,kM 6 34]) (.seq (.seq
  (.reg [36] [kM 35 6,.s 36 (.cm .ne (.t 35) (kI 0))]) (.cond (.t 36) (.seq (.reg [2,3] [kM 37 6,.s 2 (.mv (.c (.np))),kM 3 37]) .ret) .skip)) (.seq (.drw
  [8,6] [.mk 0 1 true (kW 39 1 9),.mk 1 2 true (kM 40 7),.mk 2 6 true (kC 41 40),.mk 3 14 true (kO 42 41 0),.mk 4 30 true (kW 43 42 1),.mk 5 62 false (.s
  44 (.call 20 [(.t 43)])),.mk 6 127 false (.s 45 (.call 119 [(.t 39),(.t 44)])),.mk 7 255 true (kM 38 45),.mk 8 511 true (kE 46 38 0),.mk 9 767 true (kE 47
  38 1),.mk 10 1535 true (kM 8 46),.mk 11 4095 true (kM 6 47)] [.mk 96 62 (.s 44 (.call 20 [(.t 43)])),.mk 64 127 (.s 45 (.call 119 [(.t 39),(.t 44)]))])
  (.seq (.seq (.reg [49] [kM 48 6,.s 49 (.cm .ne (.t 48) (kI 0))]) (.cond (.t 49) (.seq (.reg [2,3] [kM 50 6,.s 2 (.mv (.c (.np))),kM 3 50]) .ret) .skip))
  (.seq (.reg [9,6] [kO 52 1 3,kL 53 52,.s 54 (.call 120 [(.t 53)]),kM 51 54,kE 55 51 0,kE 56 51 1,kM 9 55,kM 6 56]) (.seq (.seq (.reg [58] [kM 57 6,.s
  58 (.cm .ne (.t 57) (kI 0))]) (.cond (.t 58) (.seq (.reg [2,3] [kM 59 6,.s 2 (.mv (.c (.np))),kM 3 59]) .ret) .skip)) (.seq (.seq (.reg [61,62] [kO 60 1 2,
  kL 61 60,.s 62 (.mv (kI 0))]) (.blk 0 (.loop (.seq (.reg [63] [.s 63 (.cm .lt (.t 62) (.t 61))]) (.seq (.cond (.t 63) .skip (.exit 0)) (.seq (.blk 1 (.seq
  (.reg [10] [kM 64 62,kM 10 64]) (.seq (.reg [11] [kW 66 1 9,kM 67 10,.s 68 (.call 121 [(.t 66),(.t 67)]),kM 65 68,kE 69 65 0,kE 70 65 1,kM 11 69,kM 12
  70]) (.reg [] [kM 71 5,kM 72 11,.s 73 (.call 123 []),.s 74 (.call 122 [(.t 71),(.t 72),(.t 73)])])))) (.reg [62] [.s 75 (.ar .add (.t 62) (kI 1)),kM 62
  75]))))))) (.seq (.reg [2,3] [kW 76 1 9,.s 77 (.call 124 [(.t 76)]),kM 78 5,kM 79 7,kM 80 8,kM 81 9,.s 82 (.bld [.i (.ofNat 0),.i (.ofNat 0),.i
  (.ofNat 0),.i (.ofNat 0),.i (.ofNat 0),.i (.ofNat 0),.i (.ofNat 0),.i (.ofNat 0),.ns,.np,.np,.np,.np] (.cons 0 9 (.t 77) (.cons 9 1 (.t 78) (.cons 10
  1 (.t 79) (.cons 11 1 (.t 80) (.cons 12 1 (.t 81) .nil)))))),.s 83 (.box (.t 82)),kM 2 83,.s 3 (.mv (kI 0))]) .ret))))))))))))
theorem fq68 : FF 68 kf68 := cf (em := 16429694459354091519) Tryz.func68 (by kernel_rfl) (by kernel_rfl)
def kf69 : KFun := .mk 3 [.t 6] (.seq (.reg [6] [.s 6 (.mv (.c (.np)))]) (.seq (.drw [6] [.mk 0 1 true (kM 7 0),.mk 1 2 true (kM 8 2),.mk 2 6 false (.s 9 (.call 125 [(.t 8)])),
  .mk 3 8 true (kM 10 1),.mk 4 24 true (.s 11 (.q (.max (.t 10) (kI 0)))),.mk 5 56 false (.s 12 (.q (.mks [.b false,.z 0 0] 24 (.t 11) (.t 11)))),.mk 6 127
  true (.s 13 (.bld [.i (.ofNat 0),.ns,.ns,.i (.ofNat 0),.i (.ofNat 0),.b false,.i (.ofNat 0),.i (.ofNat 0),.i (.ofNat 0),.ns,.i (.ofNat 0),.i (.ofNat
  0),.np,.i (.ofNat 0),.b false,.z 0 0,.z 0 0,.ns,.ns] (.cons 0 1 (.t 7) (.cons 1 1 (.t 9) (.cons 2 1 (.t 12) .nil))))),.mk 7 255 false (.s 14 (.box (.t
  13))),.mk 8 511 true (kM 6 14)] [.pr 12 9 164 6 160 56 (.call 125 [(.t 8)]) (.q (.mks [.b false,.z 0 0] 24 (.t 11) (.t 11))),.mk 128 255 (.s 14 (.box (.t
  13)))]) .ret))
theorem fq69 : FF 69 kf69 := cf (em := 71) Tryz.func69 (by kernel_rfl) (by kernel_rfl)
def kf70 : KFun := .mk 1 [.t 2] (.seq (.reg [2] [.s 2 (.mv (kI 0))]) (.seq (.drw [2] [.mk 0 1 true (kM 3 0),.mk 1 3 true (kC 4 3),.mk 2 7 true (kO 5 4 9),.mk 3 15 true (kL 6 5),
  .mk 4 31 true (.s 7 (.call 126 [(.t 6)])),.mk 5 32 true (kM 8 0),.mk 6 96 true (kC 9 8),.mk 7 224 true (kO 10 9 10),.mk 8 480 true (kL 11 10),.mk 9 1023
  true (.s 12 (.call 127 [(.t 11)])),.mk 10 2047 true (.s 13 (.ar .add (.t 7) (.t 12))),.mk 11 2048 true (kM 14 0),.mk 12 6144 true (kC 15 14),.mk 13 14336
  true (kO 16 15 11),.mk 14 30720 true (kL 17 16),.mk 15 64511 true (.s 18 (.call 128 [(.t 17)])),.mk 16 131071 true (.s 19 (.ar .add (.t 13) (.t 18))),.mk
  17 131072 true (kM 20 0),.mk 18 393216 true (kC 21 20),.mk 19 917504 true (kO 22 21 12),.mk 20 1966080 true (kL 23 22),.mk 21 4127743 true (.s 24 (.call
  129 [(.t 23)])),.mk 22 8388607 true (.s 25 (.ar .add (.t 19) (.t 24))),.mk 23 16777215 true (kM 2 25)] []) .ret))
theorem fq70 : FF 70 kf70 := cf (em := 5) Tryz.func70 (by kernel_rfl) (by kernel_rfl)
def kf71 : KFun := .mk 2 [.t 4,.t 5,.t 6] (.seq (.reg [4,5,6] [.s 4 (.mv (kI 0)),.s 5 (.mv (.c (.b false))),.s 6 (.mv (.c (.b false)))]) (.seq (.reg [] [kM 7 0,kC 8 7,kO 9
  8 3,kL 10 9,.s 11 (.ar .add (.t 10) (kI 1)),kC 12 7,kO 13 12 3,.n (.st (.t 13) (.t 11))]) (.seq (.seq (.reg [34] [kM 14 1,.s 15 (.cm .lt (.t 14) (kI 0)),
  kM 16 15,.gs 16 false 17 (.mv (.t 1)),.gs 16 false 18 (.mv (.t 0)),.gs 16 false 19 (.ck (.t 18)),.gs 16 false 20 (.off (.t 19) 2),.gs 16 false 21 (.ld (.t
  20)),.gs 16 false 22 (.len (.t 21)),.gs 16 false 23 (.cm .ge (.t 17) (.t 22)),.s 24 (.pick (.t 16) (.c (.b true)) (.t 23)),kM 25 24,.gs 25 false 26 (.mv
  (.t 0)),.gs 25 false 27 (.ck (.t 26)),.gs 25 false 28 (.off (.t 27) 2),.gs 25 false 29 (.ld (.t 28)),.gs 25 false 30 (.mv (.t 1)),.gs 25 false 31 (.ixp
  (.t 29) (.t 30) 1),.gs 25 false 32 (.ld (.t 31)),.gs 25 false 33 (.cm .ne (.t 32) (.c (.i (.negSucc 0)))),.s 34 (.pick (.t 25) (.c (.b true)) (.t 33))])
  (.cond (.t 34) (.seq (.reg [4,5,6] [.s 4 (.mv (kI 0)),.s 5 (.mv (.c (.b false))),.s 6 (.mv (.c (.b false)))]) .ret) .skip)) (.seq (.drw [] [.mk 0 1 true
  (kM 35 0),.mk 1 3 true (kC 36 35),.mk 2 7 true (kO 37 36 2),.mk 3 15 true (kL 38 37),.mk 4 16 true (kM 39 1),.mk 5 32 true (kM 40 0),.mk 6 96 true (kC 41
  40),.mk 7 224 true (kO 42 41 0),.mk 8 480 true (kL 43 42),.mk 9 1023 true (.s 44 (.ixp (.t 38) (.t 39) 1)),.mk 10 2047 false (.n (.st (.t 44) (.t 43)))]
  [.mk 1024 2047 (.n (.st (.t 44) (.t 43)))]) (.seq (.drw [4,5,6] [.mk 0 1 true (kM 45 0),.mk 1 3 true (kC 46 45),.mk 2 7 true (kO 47 46 0),.mk 3 15 true
  (kL 48 47),.mk 4 16 true (kM 49 0),.mk 5 48 true (kC 50 49),.mk 6 112 true (kO 51 50 1),.mk 7 240 true (kL 52 51),.mk 8 271 true (kM 4 48),.mk 9 1023
  true (kM 5 52),.mk 10 2047 true (.s 6 (.mv (.c (.b true))))] []) .ret)))))
theorem fq71 : FF 71 kf71 := cf (em := 17179869299) Tryz.func71 (by kernel_rfl) (by kernel_rfl)
def kf72 : KFun := .mk 2 [] (.seq (.reg [7] [kM 4 0,kC 5 4,kO 6 5 7,kL 7 6]) (.blk 0 (.seq (.reg [8] [.s 9 (.cm .eq (.t 7) (kI 0)),kM 8 9]) (.cond (.t 8) (.blk 1 (.seq (.reg
  [17] [kM 18 0,kM 19 1,.s 20 (.call 130 [(.t 18),(.t 19)]),.s 21 (.not (.t 20)),kM 17 21]) (.cond (.t 17) .skip (.seq (.drw [22] [.mk 0 1 true (kM 23 0),
  .mk 1 3 true (kC 24 23),.mk 2 7 true (kO 25 24 6),.mk 3 15 true (kL 26 25),.mk 4 16 true (kM 27 0),.mk 5 48 true (kC 28 27),.mk 6 112 true (kO 29 28 1),
  .mk 7 240 true (kL 30 29),.mk 8 496 true (.s 31 (.len (.t 30))),.mk 9 1023 true (.s 32 (.cm .ge (.t 26) (.t 31))),.mk 10 2047 true (kM 22 32)] []) (.cond
  (.t 22) (.reg [] [kM 33 0,kC 34 33,kO 35 34 7,.n (.st (.t 35) (kI 3))]) (.reg [] [kM 10 0,kM 11 0,.s 12 (.bld [.i (.ofNat 0),.i (.ofNat 0),.np,.i
  (.ofNat 0),.b false,.z 0 0,.z 0 0,.ns,.ns] .nil),kC 13 10,kO 14 13 3,.n (.st (.t 14) (kI 2)),kC 15 11,kO 16 15 10,.n (.stn (.t 16) (.t 12) 9)]))))))
  (.seq (.seq (.reg [36] [.s 37 (.cm .eq (.t 7) (kI 1)),kM 36 37]) (.cond (.t 36) .skip (.reg [36] [.s 38 (.cm .eq (.t 7) (kI 2)),kM 36 38]))) (.cond (.t 36)
  (.seq (.reg [41] [kM 39 0,kM 40 1,.s 41 (.call 131 [(.t 39),(.t 40)])]) (.cond (.t 41) (.reg [] [kM 42 0,kC 43 42,kO 44 43 7,.n (.st (.t 44) (kI 0))])
  .skip)) (.seq (.reg [45] [.s 46 (.cm .eq (.t 7) (kI 3)),kM 45 46]) (.cond (.t 45) (.seq (.drw [] [.mk 0 1 true (kM 47 1),.mk 1 3 true (kC 48 47),.mk 2 7
  true (kO 49 48 11),.mk 3 15 true (kL 50 49),.mk 4 16 true (kM 51 0),.mk 5 48 true (kC 52 51),.mk 6 112 true (kO 53 52 0),.mk 7 240 true (kL 54 53),.mk 8
  511 false (.s 55 (.call 132 [(.t 50),(.t 54)]))] [.mk 256 511 (.s 55 (.call 132 [(.t 50),(.t 54)]))]) (.reg [] [kM 56 0,kC 57 56,kO 58 57 7,.n (.st (.t
  58) (kI 4))])) (.seq (.reg [59] [.s 60 (.cm .eq (.t 7) (kI 4)),kM 59 60]) (.cond (.t 59) (.reg [] [kM 61 0,kM 62 1,.s 63 (.call 133 [(.t 61),(.t 62)])])
  .skip))))))))))
theorem fq72 : FF 72 kf72 := cf (em := 576498204422570371) Tryz.func72 (by kernel_rfl) (by kernel_rfl)
def kf73 : KFun := .mk 2 [.cn 4 5,.t 5] (.seq (.reg [4,5] [.s 4 (.new [.i (.ofNat 0),.i (.ofNat 0),.i (.ofNat 0),.b false,.z 0 0]),.s 5 (.mv (.c (.b false)))]) (.seq (.drw
  [6] [.mk 0 1 true (kM 7 0),.mk 1 3 true (kC 8 7),.mk 2 7 true (kO 9 8 1),.mk 3 15 true (kL 10 9),.mk 4 16 true (kM 11 0),.mk 5 48 true (kC 12 11),.mk 6
  112 true (kO 13 12 6),.mk 7 240 true (kL 14 13),.mk 8 511 true (.s 15 (.ixp (.t 10) (.t 14) 6)),.mk 9 1023 true (kW 16 15 6),.mk 10 1024 false (.s 6 (.new
  [.i (.ofNat 0),.i (.ofNat 0),.i (.ofNat 0),.i (.ofNat 0),.i (.ofNat 0),.z 0 0])),.mk 11 4095 false (.n (.stn (.t 6) (.t 16) 6))] [.mk 3072 1024 (.s 6
  (.new [.i (.ofNat 0),.i (.ofNat 0),.i (.ofNat 0),.i (.ofNat 0),.i (.ofNat 0),.z 0 0])),.mk 2048 4095 (.n (.stn (.t 6) (.t 16) 6))]) (.seq (.seq (.reg
  [21] [kM 17 0,kC 18 17,kO 19 18 10,kO 20 19 1,kL 21 20]) (.blk 0 (.seq (.reg [22] [.s 23 (.cm .eq (.t 21) (kI 0)),kM 22 23]) (.cond (.t 22) (.seq (.reg
  [5] [kM 24 0,kM 25 1,kW 26 6 6,.s 27 (.call 134 [(.t 24),(.t 25),(.t 26)]),kE 28 27 0,kE 29 27 1,.n (.stn (.t 4) (.t 28) 5),kM 5 29]) .ret) (.seq
  (.reg [30] [.s 31 (.cm .eq (.t 21) (kI 1)),kM 30 31]) (.cond (.t 30) (.seq (.reg [5] [kM 32 0,kM 33 1,kW 34 6 6,.s 35 (.call 135 [(.t 32),(.t 33),(.t
  34)]),kE 36 35 0,kE 37 35 1,.n (.stn (.t 4) (.t 36) 5),kM 5 37]) .ret) (.seq (.reg [38] [.s 39 (.cm .eq (.t 21) (kI 2)),kM 38 39]) (.cond (.t 38) (.seq
  (.reg [5] [kM 40 0,kM 41 1,kW 42 6 6,.s 43 (.call 136 [(.t 40),(.t 41),(.t 42)]),kE 44 43 0,kE 45 43 1,.n (.stn (.t 4) (.t 44) 5),kM 5 45]) .ret)
  (.seq (.reg [46] [.s 47 (.cm .eq (.t 21) (kI 7)),kM 46 47]) (.cond (.t 46) (.seq (.reg [5] [kM 48 0,kM 49 1,.s 50 (.call 137 [(.t 48),(.t 49)]),kE 51 50
  0,kE 52 50 1,.n (.stn (.t 4) (.t 51) 5),kM 5 52]) .ret) (.seq (.reg [53] [.s 54 (.cm .eq (.t 21) (kI 8)),kM 53 54]) (.cond (.t 53) (.seq (.reg [5] [kM 55
  0,kM 56 1,kW 57 6 6,.s 58 (.call 138 [(.t 55),(.t 56),(.t 57)]),kE 59 58 0,kE 60 58 1,.n (.stn (.t 4) (.t 59) 5),kM 5 60]) .ret) (.seq (.reg [61] [.s
  62 (.cm .eq (.t 21) (kI 9)),kM 61 62]) (.cond (.t 61) (.seq (.reg [5] [kM 63 0,kM 64 1,kW 65 6 6,.s 66 (.call 139 [(.t 63),(.t 64),(.t 65)]),kE 67 66 0,
  kE 68 66 1,.n (.stn (.t 4) (.t 67) 5),kM 5 68]) .ret) (.seq (.reg [69] [.s 70 (.cm .eq (.t 21) (kI 10)),kM 69 70]) (.cond (.t 69) (.seq (.reg [] [kM 71 0,
  kM 72 1,.s 73 (.call 133 [(.t 71),(.t 72)])]) (.seq (.reg [5] [kM 74 0,.s 75 (.bld [.b false,.z 0 0] .nil),.s 76 (.call 140 [(.t 74),(.t 75),(kI 0)]),
  kE 77 76 0,kE 78 76 1,.n (.stn (.t 4) (.t 77) 5),kM 5 78]) .ret)) .skip)))))))))))))))) (.seq (.reg [5] [kM 79 0,kM 80 1,.s 81 (.call 141 [(.t 79),(.t
  80)]),kE 82 81 0,kE 83 81 1,.n (.stn (.t 4) (.t 82) 5),kM 5 83]) .ret))))
theorem fq73 : FF 73 kf73 := cf (em := 592610731211876204659) Tryz.func73 (by kernel_rfl) (by kernel_rfl)
def kf74 : KFun := .mk 2 [.cn 4 5,.t 5] (.seq (.reg [4,5] [.s 4 (.new [.i (.ofNat 0),.i (.ofNat 0),.i (.ofNat 0),.b false,.z 0 0]),.s 5 (.mv (.c (.b false)))]) (.seq (.seq
  (.reg [10] [kM 7 0,kC 8 7,kO 9 8 7,kL 10 9]) (.blk 0 (.seq (.reg [17] [.s 18 (.cm .eq (.t 10) (kI 5)),kM 17 18]) (.cond (.t 17) (.seq (.drw [6] [.mk 0 1
  true (kM 19 1),.mk 1 3 true (kC 20 19),.mk 2 7 true (kO 21 20 11),.mk 3 15 true (kL 22 21),.mk 4 16 true (kM 23 0),.mk 5 48 true (kC 24 23),.mk 6 112
  true (kO 25 24 0),.mk 7 240 true (kL 26 25),.mk 8 511 false (.s 27 (.call 142 [(.t 22),(.t 26)])),.mk 9 512 false (.s 6 (.new [.i (.ofNat 0),.ns,.i
  (.ofNat 0)])),.mk 10 2047 false (.n (.stn (.t 6) (.t 27) 3))] [.pr 6 27 1792 511 1536 512 (.call 142 [(.t 22),(.t 26)]) (.new [.i (.ofNat 0),.ns,.i (.ofNat
  0)]),.mk 1024 2047 (.n (.stn (.t 6) (.t 27) 3))]) (.seq (.reg [29] [kO 28 6 0,kL 29 28]) (.blk 1 (.seq (.reg [34] [.s 35 (.cm .eq (.t 29) (kI 0)),kM 34 35])
  (.cond (.t 34) (.reg [] [kM 36 0,kC 37 36,kO 38 37 7,.n (.st (.t 38) (kI 0))]) (.seq (.reg [39] [.s 40 (.cm .eq (.t 29) (kI 1)),kM 39 40]) (.cond (.t 39)
  (.seq (.drw [55] [.mk 0 1 true (kM 41 0),.mk 1 2 true (kM 42 1),.mk 2 4 true (kM 43 0),.mk 3 12 true (kC 44 43),.mk 4 28 true (kO 45 44 1),.mk 5 60 true
  (kL 46 45),.mk 6 64 true (kM 47 0),.mk 7 192 true (kC 48 47),.mk 8 448 true (kO 49 48 6),.mk 9 960 true (kL 50 49),.mk 10 2044 true (.s 51 (.ixp (.t 46)
  (.t 50) 6)),.mk 11 4092 true (kW 52 51 6),.mk 12 4096 true (kW 53 6 3),.mk 13 16383 false (.s 54 (.call 143 [(.t 41),(.t 42),(.t 52),(.t 53)])),.mk 14
  32767 true (.s 55 (.not (.t 54)))] [.mk 8192 16383 (.s 54 (.call 143 [(.t 41),(.t 42),(.t 52),(.t 53)]))]) (.cond (.t 55) (.seq (.reg [5] [kM 56 0,.s 57
  (.call 144 [(.t 56),(kI 10)]),kE 58 57 0,kE 59 57 1,.n (.stn (.t 4) (.t 58) 5),kM 5 59]) .ret) .skip)) (.seq (.reg [60] [.s 61 (.cm .eq (.t 29) (kI 2)),
  kM 60 61]) (.cond (.t 60) (.seq (.reg [5] [kM 62 0,.s 63 (.call 144 [(.t 62),(kI 6)]),kE 64 63 0,kE 65 63 1,.n (.stn (.t 4) (.t 64) 5),kM 5 65]) .ret)
  (.seq (.reg [5] [kM 30 0,.s 31 (.call 144 [(.t 30),(kI 10)]),kE 32 31 0,kE 33 31 1,.n (.stn (.t 4) (.t 32) 5),kM 5 33]) .ret)))))))))) (.seq (.reg [66]
  [.s 67 (.cm .eq (.t 10) (kI 0)),kM 66 67]) (.cond (.t 66) (.seq (.reg [70] [kM 68 0,kM 69 1,.s 70 (.call 130 [(.t 68),(.t 69)])]) (.cond (.t 70) (.reg []
  [kM 71 0,kC 72 71,kO 73 72 7,.n (.st (.t 73) (kI 5))]) .skip)) (.seq (.reg [13] [kM 11 0,kM 12 1,.s 13 (.call 131 [(.t 11),(.t 12)])]) (.cond (.t 13)
  (.reg [] [kM 14 0,kC 15 14,kO 16 15 7,.n (.st (.t 16) (kI 5))]) .skip)))))))) (.seq (.reg [5] [.s 74 (.bld [.i (.ofNat 0),.i (.ofNat 0),.i (.ofNat 0),.b
  false,.z 0 0] .nil),.n (.stn (.t 4) (.t 74) 5),.s 5 (.mv (.c (.b false)))]) .ret)))
theorem fq74 : FF 74 kf74 := cf (em := 1255567547881348015219) Tryz.func74 (by kernel_rfl) (by kernel_rfl)
def kf75 : KFun := .mk 1 [.t 2] (.seq (.reg [2] [.s 2 (.mv (.c (.ns)))]) (.seq (.seq (.reg [4] [kM 3 0,.s 4 (.nils true (.t 3))]) (.cond (.t 4) (.seq (.reg [2] [.s 2 (.mv (.c
  (.ns)))]) .ret) .skip)) (.seq (.reg [2] [.s 5 (.bsl [.b false,.z 0 0] 0 .nil),kM 6 0,.s 7 (.app 2 24 (.t 5) (.t 6)),kM 2 7]) .ret)))
theorem fq75 : FF 75 kf75 := cf (em := 21) Tryz.func75 (by kernel_rfl) (by kernel_rfl)
def kf77 : KFun := .mk 1 [.t 2] (.seq (.reg [2] [.s 2 (.mv (.c (.b false)))]) (.seq (.reg [2] [kM 3 0,.s 4 (.cm .ge (.t 3) (kI 0)),kM 5 4,.gs 5 true 6 (.mv (.t 0)),.gs 5 true 7
  (.cm .le (.t 6) (kI 4)),.s 8 (.pick (.t 5) (.t 7) (.c (.b false))),kM 2 8]) .ret))
theorem fq77 : FF 77 kf77 := cf (em := 5) Tryz.func77 (by kernel_rfl) (by kernel_rfl)
def kf78 : KFun := .mk 2 [.t 4] (.seq (.reg [4] [.s 4 (.mv (kI 0))]) (.seq (.seq (.reg [8] [kM 5 0,kM 6 1,.s 7 (.call 79 [(.t 5),(.t 6)]),.s 8 (.not (.t 7))]) (.cond (.t 8)
  (.seq (.reg [4] [.s 4 (.mv (kI 0))]) .ret) .skip)) (.seq (.reg [4] [kM 9 0,kC 10 9,kO 11 10 0,kL 12 11,kM 13 1,.s 14 (.ixp (.t 12) (.t 13) 3),kO 15 14 0,
  kL 16 15,kM 4 16]) .ret)))
theorem fq78 : FF 78 kf78 := cf (em := 275) Tryz.func78 (by kernel_rfl) (by kernel_rfl)
def kf79 : KFun := .mk 2 [.t 4] (.seq (.reg [4] [.s 4 (.mv (.c (.b false)))]) (.seq (.reg [4] [kM 5 1,.s 6 (.cm .ge (.t 5) (kI 0)),kM 7 6,.gs 7 true 8 (.mv (.t 1)),.gs 7 true 9
  (.mv (.t 0)),.gs 7 true 10 (.ck (.t 9)),.gs 7 true 11 (.off (.t 10) 0),.gs 7 true 12 (.ld (.t 11)),.gs 7 true 13 (.len (.t 12)),.gs 7 true 14 (.cm .lt (.t
  8) (.t 13)),.s 15 (.pick (.t 7) (.t 14) (.c (.b false))),kM 4 15]) .ret))
theorem fq79 : FF 79 kf79 := cf (em := 19) Tryz.func79 (by kernel_rfl) (by kernel_rfl)
def kf80 : KFun := .mk 0 [.t 0] (.seq (.reg [0] [.s 0 (.mv (.c (.np)))]) (.seq (.reg [0] [.s 1 (.bld [.i (.ofNat 0),.i (.ofNat 0),.i (.ofNat 0),.i (.ofNat 0),.b false,.np,
  .np,.b false,.i (.ofNat 0),.i (.ofNat 0),.i (.ofNat 0),.i (.ofNat 0),.i (.ofNat 0),.i (.ofNat 0)] .nil),.s 2 (.box (.t 1)),kM 0 2]) .ret))
theorem fq80 : FF 80 kf80 := cf (em := 1) Tryz.func80 (by kernel_rfl) (by kernel_rfl)
def kf81 : KFun := .mk 1 [.t 2] (.seq (.reg [2] [.s 2 (.mv (kI 0))]) (.seq (.reg [2] [kM 3 0,kC 4 3,kO 5 4 8,kL 6 5,kM 2 6]) .ret))
theorem fq81 : FF 81 kf81 := cf (em := 5) Tryz.func81 (by kernel_rfl) (by kernel_rfl)
def kf83 : KFun := .mk 1 [.t 2] (.seq (.reg [2] [.s 2 (.mv (.c (.b false)))]) (.seq (.reg [] [kM 3 0,kC 4 3,kO 5 4 3,kL 6 5,.s 7 (.ar .add (.t 6) (kI 1)),kC 8 3,kO 9 8 3,.n
  (.st (.t 9) (.t 7))]) (.seq (.drw [2] [.mk 0 1 true (kM 10 0),.mk 1 3 true (kC 11 10),.mk 2 7 true (kO 12 11 4),.mk 3 15 true (kW 13 12 12),.mk 4 31 false
  (.s 14 (.call 98 [(.t 13)])),.mk 5 63 true (.s 15 (.cm .gt (.t 14) (kI 0))),.mk 6 127 true (kM 16 15),.mk 7 255 true (.gs 16 false 17 (.mv (.t 0))),.mk 8
  511 true (.gs 16 false 18 (.ck (.t 17))),.mk 9 1023 true (.gs 16 false 19 (.off (.t 18) 4)),.mk 10 2047 true (.gs 16 false 20 (.ldn (.t 19) 12)),.mk 11 4095
  false (.gs 16 false 21 (.call 42 [(.t 20)])),.mk 12 4223 true (.gs 16 false 22 (.mv (.t 0))),.mk 13 12415 true (.gs 16 false 23 (.ck (.t 22))),.mk 14 28799
  true (.gs 16 false 24 (.off (.t 23) 4)),.mk 15 61567 true (.gs 16 false 25 (.off (.t 24) 0)),.mk 16 127103 true (.gs 16 false 26 (.off (.t 25) 7)),.mk 17
  258175 true (.gs 16 false 27 (.ld (.t 26))),.mk 18 524287 true (.gs 16 false 28 (.cm .lt (.t 21) (.t 27))),.mk 19 1048575 true (.s 29 (.pick (.t 16) (.c (.b
  true)) (.t 28))),.mk 20 2097151 true (kM 30 29),.mk 21 4194303 true (.gs 30 false 31 (.mv (.t 0))),.mk 22 8388607 true (.gs 30 false 32 (.ck (.t 31))),.mk
  23 16777215 true (.gs 30 false 33 (.off (.t 32) 2)),.mk 24 33554431 true (.gs 30 false 34 (.ld (.t 33))),.mk 25 67108863 true (.s 35 (.pick (.t 30) (.c (.b
  true)) (.t 34))),.mk 26 134217727 true (kM 2 35)] [.mk 2064 31 (.s 14 (.call 98 [(.t 13)])),.mk 2048 4095 (.gs 16 false 21 (.call 42 [(.t 20)]))]) .ret)))
theorem fq83 : FF 83 kf83 := cf (em := 5) Tryz.func83 (by kernel_rfl) (by kernel_rfl)
def kf84 : KFun := .mk 2 [] (.reg [] [kM 4 0,kM 5 0,kM 6 0,kM 7 1,kC 8 4,kO 9 8 0,.n (.st (.t 9) (.t 7)),kC 10 5,kO 11 10 1,.n (.st (.t 11) (kI 0)),kC 12 6,kO 13 12 2,
  .n (.st (.t 13) (kI 0))])
theorem fq84 : FF 84 kf84 := cf (em := 3) Tryz.func84 (by kernel_rfl) (by kernel_rfl)
def kf85 : KFun := .mk 2 [] (.seq (.seq (.reg [8] [kM 4 0,kC 5 4,kO 6 5 1,kL 7 6,.s 8 (.cm .eq (.t 7) (kI 0))]) (.cond (.t 8) (.seq (.reg [] [kM 9 1,kC 10 9,kO 11 10 11,kL
  12 11,.s 13 (.call 146 [(.t 12)])]) (.seq (.reg [] [kM 14 0,kC 15 14,kO 16 15 1,.n (.st (.t 16) (kI 2))]) .ret)) .skip)) (.seq (.reg [] [kM 17 1,kC 18 17,
  kO 19 18 12,kL 20 19,.s 21 (.call 25 [(.t 20),(kI 1),(.c (.b true))])]) (.seq (.reg [] [kM 22 0,kC 23 22,kO 24 23 8,kL 25 24,.s 26 (.ar .add (.t 25)
  (kI 1)),kC 27 22,kO 28 27 8,.n (.st (.t 28) (.t 26))]) (.seq (.reg [] [kM 29 0,kM 30 0,kM 31 0,kC 32 31,kO 33 32 7,kL 34 33,.s 35 (.not (.t 34)),kC
  36 29,kO 37 36 7,.n (.st (.t 37) (.t 35)),kC 38 30,kO 39 38 12,.n (.st (.t 39) (kI 0))]) (.reg [] [kM 40 0,.s 41 (.call 84 [(.t 40),(kI 2)])])))))
theorem fq85 : FF 85 kf85 := cf (em := 259) Tryz.func85 (by kernel_rfl) (by kernel_rfl)
def kf86 : KFun := .mk 4 [] (.seq (.seq (.reg [12] [kM 8 0,kC 9 8,kO 10 9 1,kL 11 10,.s 12 (.cm .eq (.t 11) (kI 0))]) (.cond (.t 12) (.seq (.seq (.reg [15] [kM 13 0,kM 14 1,
  .s 15 (.call 147 [(.t 13),(.t 14)])]) (.cond (.t 15) (.reg [] [kM 16 0,kC 17 16,kO 18 17 1,.n (.st (.t 18) (kI 2))]) .skip)) .ret) .skip)) (.seq (.reg []
  [kM 19 1,kC 20 19,kO 21 20 12,kL 22 21,kM 23 2,.s 24 (.call 25 [(.t 22),(.t 23),(.c (.b false))])]) (.reg [] [kM 25 0,kM 26 3,.s 27 (.call 84 [(.t
  25),(.t 26)])])))
theorem fq86 : FF 86 kf86 := cf (em := 36879) Tryz.func86 (by kernel_rfl) (by kernel_rfl)
def kf87 : KFun := .mk 2 [] (.scope (.seq (.reg [4] [.s 4 (.mv (.c (.z 0 0)))]) (.seq (.reg [5] [.s 5 (.mv (kI 0))]) (.seq (.reg [6] [.s 6 (.mv (.c (.b false)))]) (.seq (.seq (.reg
  [11] [kM 7 0,kC 8 7,kO 9 8 1,kL 10 9,.s 11 (.cm .eq (.t 10) (kI 3))]) (.cond (.t 11) (.seq (.drw [] [.mk 0 1 true (kM 12 1),.mk 1 3 true (kC 13 12),.mk 2
  7 true (kO 14 13 10),.mk 3 15 true (kL 15 14),.mk 4 16 true (kM 16 0),.mk 5 48 true (kC 17 16),.mk 6 112 true (kO 18 17 3),.mk 7 240 true (kL 19 18),.mk
  8 256 true (kM 20 0),.mk 9 768 true (kC 21 20),.mk 10 1792 true (kO 22 21 7),.mk 11 3840 true (kL 23 22),.mk 12 8191 false (.s 24 (.call 148 [(.t 15),(.t
  19),(.t 23)]))] [.mk 4096 8191 (.s 24 (.call 148 [(.t 15),(.t 19),(.t 23)]))]) (.goto 0)) .skip)) (.seq (.seq (.drw [41] [.mk 0 1 true (kM 25 0),.mk 1 3
  true (kC 26 25),.mk 2 7 true (kO 27 26 2),.mk 3 15 true (kL 28 27),.mk 4 16 true (kM 29 1),.mk 5 48 true (kC 30 29),.mk 6 112 true (kO 31 30 0),.mk 7 240
  true (kO 32 31 2),.mk 8 496 true (kL 33 32),.mk 9 1023 true (.s 34 (.cm .ge (.t 28) (.t 33))),.mk 10 2047 true (kM 35 34),.mk 11 4095 true (.gs 35 false 36
  (.mv (.t 0))),.mk 12 8191 true (.gs 35 false 37 (.ck (.t 36))),.mk 13 16383 true (.gs 35 false 38 (.off (.t 37) 1)),.mk 14 32767 true (.gs 35 false 39 (.ld
  (.t 38))),.mk 15 65535 true (.gs 35 false 40 (.cm .eq (.t 39) (kI 1))),.mk 16 131071 true (.s 41 (.pick (.t 35) (.c (.b true)) (.t 40)))] []) (.cond (.t 41)
  (.goto 1) .skip)) (.seq (.drw [5] [.mk 0 1 true (kM 43 0),.mk 1 2 true (kM 44 1),.mk 2 6 true (kC 45 44),.mk 3 14 true (kO 46 45 0),.mk 4 30 true (kW 47 46
  9),.mk 5 32 true (kM 48 0),.mk 6 96 true (kC 49 48),.mk 7 224 true (kO 50 49 2),.mk 8 480 true (kL 51 50),.mk 9 1022 false (.s 52 (.call 121 [(.t 47),(.t
  51)])),.mk 10 2046 true (kM 42 52),.mk 11 4094 true (kE 53 42 0),.mk 12 6142 true (kE 54 42 1),.mk 13 12287 true (kC 55 43),.mk 14 28671 true (kO 56 55
  3),.mk 15 61439 false (.n (.st (.t 56) (.t 53))),.mk 16 131071 true (kM 5 54)] [.mk 33280 1022 (.s 52 (.call 121 [(.t 47),(.t 51)])),.mk 32768 61439 (.n
  (.st (.t 56) (.t 53)))]) (.seq (.seq (.reg [58] [kM 57 5,.s 58 (.cm .eq (.t 57) (kI 0))]) (.cond (.t 58) (.drw [4,5] [.mk 0 1 true (kM 60 1),.mk 1 3 true
  (kC 61 60),.mk 2 7 true (kO 62 61 9),.mk 3 15 true (kL 63 62),.mk 4 16 true (kM 64 0),.mk 5 48 true (kC 65 64),.mk 6 112 true (kO 66 65 3),.mk 7 240 true
  (kL 67 66),.mk 8 511 false (.s 68 (.call 149 [(.t 63),(.t 67)])),.mk 9 1023 true (kM 59 68),.mk 10 2047 true (kE 69 59 0),.mk 11 3071 true (kE 70 59 1),
  .mk 12 6143 true (kM 4 69),.mk 13 16383 true (kM 5 70)] [.mk 256 511 (.s 68 (.call 149 [(.t 63),(.t 67)]))]) .skip)) (.seq (.seq (.reg [72] [kM 71 5,.s 72
  (.cm .ne (.t 71) (kI 0))]) (.cond (.t 72) (.seq (.reg [] [kM 73 0,kC 74 73,kO 75 74 13,.n (.st (.t 75) (kI 10))]) .ret) .skip)) (.seq (.seq (.reg [6] [kM 77
  0,kM 78 4,.s 79 (.call 150 [(.t 78)]),kM 76 79,kE 80 76 0,kE 81 76 1,kC 82 77,kO 83 82 3,.n (.st (.t 83) (.t 80)),kM 6 81]) (.seq (.reg [84] [kM 84
  6]) (.cond (.t 84) (.seq (.reg [] [kM 85 0,kC 86 85,kO 87 86 1,.n (.st (.t 87) (kI 3))]) .ret) .skip))) (.seq (.label 0) (.seq (.reg [] [kM 88 0,kC 89 88,
  kO 90 89 1,.n (.st (.t 90) (kI 0))]) (.seq (.reg [] [kM 91 0,kC 92 91,kO 93 92 2,kL 94 93,.s 95 (.ar .add (.t 94) (kI 1)),kC 96 91,kO 97 96 2,.n (.st
  (.t 97) (.t 95))]) (.seq .ret (.seq (.label 1) (.seq (.seq (.reg [102] [kM 98 0,kC 99 98,kO 100 99 1,kL 101 100,.s 102 (.cm .eq (.t 101) (kI 0))]) (.cond
  (.t 102) (.reg [] [kM 103 0,kM 104 0,kC 105 103,kO 106 105 1,.n (.st (.t 106) (kI 1)),kC 107 104,kO 108 107 2,.n (.st (.t 108) (kI 0))]) .skip)) (.seq
  (.reg [111] [kM 109 0,kM 110 1,.s 111 (.call 147 [(.t 109),(.t 110)])]) (.cond (.t 111) (.reg [] [kM 112 0,.s 113 (.call 84 [(.t 112),(kI 5)])])
  .skip))))))))))))))))))
theorem fq87 : FF 87 kf87 := cf (em := 2601219051015862500420746592913523) Tryz.func87 (by kernel_rfl) (by kernel_rfl)
def kf88 : KFun := .mk 2 [] (.scope (.seq (.reg [4] [.s 4 (.mv (.c (.b false)))]) (.seq (.seq (.reg [8] [kM 5 0,kC 6 5,kO 7 6 1,kL 8 7]) (.blk 0 (.seq (.reg [9] [.s 10 (.cm .eq
  (.t 8) (kI 4)),kM 9 10]) (.cond (.t 9) (.goto 0) (.seq (.reg [11] [.s 12 (.cm .eq (.t 8) (kI 5)),kM 11 12]) (.cond (.t 11) (.goto 1) (.seq (.reg [13] [.s 14
  (.cm .eq (.t 8) (kI 6)),kM 13 14]) (.cond (.t 13) (.goto 2) .skip)))))))) (.seq (.reg [4] [kM 16 0,kM 17 1,kC 18 17,kO 19 18 10,kL 20 19,.s 21 (.call 151
  [(.t 20)]),kM 15 21,kE 22 15 0,kE 23 15 1,kC 24 16,kO 25 24 3,.n (.st (.t 25) (.t 22)),kM 4 23]) (.seq (.reg [] [kM 26 0,kM 27 0,kC 28 26,kO 29 28 1,
  .n (.st (.t 29) (kI 5)),kC 30 27,kO 31 30 4,.n (.st (.t 31) (.c (.b false)))]) (.seq (.seq (.reg [32] [kM 32 4]) (.cond (.t 32) (.drw [] [.mk 0 1 true (kM
  33 0),.mk 1 2 true (kM 34 0),.mk 2 4 true (kM 35 1),.mk 3 12 true (kC 36 35),.mk 4 28 true (kO 37 36 0),.mk 5 60 true (kW 38 37 9),.mk 6 64 true (kM 39
  0),.mk 7 192 true (kC 40 39),.mk 8 448 true (kO 41 40 3),.mk 9 960 true (kL 42 41),.mk 10 1024 true (kM 43 0),.mk 11 3072 true (kC 44 43),.mk 12 7168
  true (kO 45 44 7),.mk 13 15360 true (kL 46 45),.mk 14 32764 false (.s 47 (.call 152 [(.t 38),(.t 42),(.t 46)])),.mk 15 65533 true (kC 48 33),.mk 16
  131069 true (kO 49 48 5),.mk 17 262141 false (.n (.st (.t 49) (.t 47))),.mk 18 524287 true (kC 50 34),.mk 19 1048575 true (kO 51 50 1),.mk 20 2097151 false
  (.n (.st (.t 51) (kI 4)))] [.mk 1196032 32764 (.s 47 (.call 152 [(.t 38),(.t 42),(.t 46)])),.mk 1179648 262141 (.n (.st (.t 49) (.t 47))),.mk 1048576
  2097151 (.n (.st (.t 51) (kI 4)))]) .skip)) (.seq .ret (.seq (.label 0) (.seq (.seq (.reg [55] [kM 52 0,kM 53 1,.s 54 (.call 153 [(.t 52),(.t 53)]),.s 55
  (.not (.t 54))]) (.cond (.t 55) .ret .skip)) (.seq (.reg [] [kM 56 0,kC 57 56,kO 58 57 1,.n (.st (.t 58) (kI 0))]) (.seq (.seq (.reg [62] [kM 59 0,kC 60
  59,kO 61 60 4,kL 62 61]) (.cond (.t 62) (.reg [] [kM 63 0,kM 64 1,.s 65 (.call 154 [(.t 63),(.t 64)])]) .skip)) (.seq .ret (.seq (.label 1) (.seq (.seq
  (.reg [71] [kM 66 1,kC 67 66,kO 68 67 10,kL 69 68,.s 70 (.call 155 [(.t 69)]),.s 71 (.not (.t 70))]) (.cond (.t 71) (.seq (.reg [] [kM 72 0,.s 73 (.call
  84 [(.t 72),(kI 6)])]) .ret) .skip)) (.seq (.reg [] [kM 74 0,kM 75 0,kC 76 74,kO 77 76 1,.n (.st (.t 77) (kI 6)),kC 78 75,kO 79 78 2,.n (.st (.t 79)
  (kI 0))]) (.seq .ret (.seq (.label 2) (.seq (.seq (.drw [92] [.mk 0 1 true (kM 80 1),.mk 1 3 true (kC 81 80),.mk 2 7 true (kO 82 81 10),.mk 3 15 true (kL 83
  82),.mk 4 16 true (kM 84 0),.mk 5 48 true (kC 85 84),.mk 6 112 true (kO 86 85 2),.mk 7 240 true (kL 87 86),.mk 8 256 true (kM 88 0),.mk 9 768 true (kC 89
  88),.mk 10 1792 true (kO 90 89 7),.mk 11 3840 true (kL 91 90),.mk 12 8191 false (.s 92 (.call 156 [(.t 83),(.t 87),(.t 91)]))] [.mk 4096 8191 (.s 92
  (.call 156 [(.t 83),(.t 87),(.t 91)]))]) (.cond (.t 92) (.seq (.drw [] [.mk 0 1 true (kM 93 0),.mk 1 2 true (kM 94 0),.mk 2 4 true (kM 95 0),.mk 3 8 true
  (kM 96 1),.mk 4 24 true (kC 97 96),.mk 5 56 true (kO 98 97 0),.mk 6 120 true (kW 99 98 9),.mk 7 128 true (kM 100 0),.mk 8 384 true (kC 101 100),.mk 9 896
  true (kO 102 101 2),.mk 10 1920 true (kL 103 102),.mk 11 2048 true (kM 104 0),.mk 12 6144 true (kC 105 104),.mk 13 14336 true (kO 106 105 7),.mk 14 30720
  true (kL 107 106),.mk 15 65528 false (.s 108 (.call 152 [(.t 99),(.t 103),(.t 107)])),.mk 16 131065 true (kC 109 93),.mk 17 262137 true (kO 110 109 5),
  .mk 18 524281 false (.n (.st (.t 110) (.t 108))),.mk 19 1048571 true (kC 111 94),.mk 20 2097147 true (kO 112 111 1),.mk 21 4194299 false (.n (.st (.t 112)
  (kI 4))),.mk 22 8388607 true (kC 113 95),.mk 23 16777215 true (kO 114 113 4),.mk 24 33554431 false (.n (.st (.t 114) (.c (.b true))))] [.mk 19169280 65528
  (.s 108 (.call 152 [(.t 99),(.t 103),(.t 107)])),.mk 19136512 524281 (.n (.st (.t 110) (.t 108))),.mk 18874368 4194299 (.n (.st (.t 112) (kI 4))),.mk
  16777216 33554431 (.n (.st (.t 114) (.c (.b true))))]) .ret) .skip)) (.reg [] [kM 115 0,kM 116 1,.s 117 (.call 154 [(.t 115),(.t 116)])])))))))))))))))))))
theorem fq88 : FF 88 kf88 := cf (em := 4951762522972477354160433939) Tryz.func88 (by kernel_rfl) (by kernel_rfl)
def kf89 : KFun := .mk 2 [] (.seq (.reg [7] [kM 4 0,kC 5 4,kO 6 5 1,kL 7 6]) (.blk 0 (.seq (.reg [16] [.s 17 (.cm .eq (.t 7) (kI 0)),kM 16 17]) (.cond (.t 16) (.seq (.reg []
  [kM 18 1,kC 19 18,kO 20 19 11,kL 21 20,.s 22 (.call 157 [(.t 21)])]) (.reg [] [kM 23 0,kC 24 23,kO 25 24 1,.n (.st (.t 25) (kI 2))])) (.seq (.reg [26]
  [.s 27 (.cm .eq (.t 7) (kI 2)),kM 26 27]) (.cond (.t 26) (.seq (.reg [] [kM 28 1,kC 29 28,kO 30 29 12,kL 31 30,.s 32 (.call 25 [(.t 31),(kI 4),(.c (.b
  false))])]) (.reg [] [kM 33 0,kC 34 33,kO 35 34 1,.n (.st (.t 35) (kI 1))])) (.seq (.reg [10] [kM 8 0,kM 9 1,.s 10 (.call 147 [(.t 8),(.t 9)])]) (.cond
  (.t 10) (.seq (.reg [] [kM 11 0,.s 12 (.call 84 [(.t 11),(kI 7)])]) (.reg [] [kM 13 0,kC 14 13,kO 15 14 6,.n (.st (.t 15) (.c (.np)))])) .skip))))))))
theorem fq89 : FF 89 kf89 := cf (em := 67175555) Tryz.func89 (by kernel_rfl) (by kernel_rfl)
def kf90 : KFun := .mk 2 [] (.seq (.seq (.reg [9] [kM 5 0,kC 6 5,kO 7 6 1,kL 8 7,.s 9 (.cm .eq (.t 8) (kI 2))]) (.cond (.t 9) (.seq (.reg [] [kM 10 1,kC 11 10,kO 12 11 12,kL
  13 12,.s 14 (.call 25 [(.t 13),(kI 0),(.c (.b false))])]) (.seq (.reg [] [kM 15 0,.s 16 (.call 84 [(.t 15),(kI 8)])]) .ret)) .skip)) (.seq (.seq (.reg
  [21] [kM 17 0,kC 18 17,kO 19 18 6,kL 20 19,.s 21 (.nilp true (.t 20))]) (.cond (.t 21) (.seq (.reg [4] [kM 22 1,kC 23 22,kO 24 23 11,kL 25 24,kC 26 25,
  kO 27 26 4,kW 28 27 12,.s 29 (.call 158 [(.t 28)]),.s 30 (.call 159 [(.t 29)]),.s 31 (.ar .sub (kI 1) (.t 30)),kM 4 31]) (.drw [] [.mk 0 1 true (kM 32 0),
  .mk 1 2 true (kM 33 1),.mk 2 6 true (kC 34 33),.mk 3 14 true (kO 35 34 0),.mk 4 30 true (kW 36 35 9),.mk 5 32 true (kM 37 4),.mk 6 64 true (kM 38 1),.mk
  7 192 true (kC 39 38),.mk 8 448 true (kO 40 39 11),.mk 9 960 true (kL 41 40),.mk 10 1984 true (kC 42 41),.mk 11 4032 true (kO 43 42 4),.mk 12 8128 true
  (kW 44 43 12),.mk 13 16320 false (.s 45 (.call 158 [(.t 44)])),.mk 14 16384 true (kM 46 4),.mk 15 65472 true (.s 47 (.call 161 [(.t 45),(.t 46)])),.mk 16
  65536 true (kM 48 0),.mk 17 196608 true (kC 49 48),.mk 18 458752 true (kO 50 49 7),.mk 19 983040 true (kL 51 50),.mk 20 2097150 false (.s 52 (.call 160
  [(.t 36),(.t 37),(.t 47),(.t 51)])),.mk 21 4194303 true (kC 53 32),.mk 22 8388607 true (kO 54 53 6),.mk 23 16777215 false (.n (.st (.t 54) (.t 52)))]
  [.mk 9445376 16320 (.s 45 (.call 158 [(.t 44)])),.mk 9437184 2097150 (.s 52 (.call 160 [(.t 36),(.t 37),(.t 47),(.t 51)])),.mk 8388608 16777215 (.n (.st
  (.t 54) (.t 52)))])) .skip)) (.seq (.drw [75] [.mk 0 1 true (kM 55 0),.mk 1 3 true (kC 56 55),.mk 2 7 true (kO 57 56 6),.mk 3 15 true (kL 58 57),.mk 4 16
  true (kM 59 1),.mk 5 48 true (kC 60 59),.mk 6 112 true (kO 61 60 9),.mk 7 240 true (kL 62 61),.mk 8 256 true (kM 63 1),.mk 9 768 true (kC 64 63),.mk 10
  1792 true (kO 65 64 10),.mk 11 3840 true (kL 66 65),.mk 12 4096 true (kM 67 1),.mk 13 12288 true (kC 68 67),.mk 14 28672 true (kO 69 68 11),.mk 15 61440
  true (kL 70 69),.mk 16 126976 true (kC 71 70),.mk 17 258048 true (kO 72 71 4),.mk 18 520192 true (kW 73 72 12),.mk 19 1044480 false (.s 74 (.call 158 [(.t
  73)])),.mk 20 2097151 false (.s 75 (.call 162 [(.t 58),(.t 62),(.t 66),(.t 74)]))] [.mk 1572864 1044480 (.s 74 (.call 158 [(.t 73)])),.mk 1048576 2097151
  (.s 75 (.call 162 [(.t 58),(.t 62),(.t 66),(.t 74)]))]) (.cond (.t 75) (.seq (.reg [] [kM 76 0,kM 77 0,kC 78 77,kO 79 78 6,kL 80 79,.s 81 (.call 163
  [(.t 80)]),kC 82 76,kO 83 82 13,.n (.st (.t 83) (.t 81))]) (.seq (.drw [] [.mk 0 1 true (kM 84 0),.mk 1 3 true (kC 85 84),.mk 2 7 true (kO 86 85 11),.mk
  3 15 true (kL 87 86),.mk 4 16 true (kM 88 0),.mk 5 48 true (kC 89 88),.mk 6 112 true (kO 90 89 6),.mk 7 240 true (kL 91 90),.mk 8 496 true (.s 92 (.call
  164 [(.t 91)])),.mk 9 1023 true (.s 93 (.ar .add (.t 87) (.t 92))),.mk 10 2047 true (kC 94 84),.mk 11 4095 true (kO 95 94 11),.mk 12 8191 false (.n (.st
  (.t 95) (.t 93)))] [.mk 4096 8191 (.n (.st (.t 95) (.t 93)))]) (.reg [] [kM 96 0,kC 97 96,kO 98 97 1,.n (.st (.t 98) (kI 2))]))) .skip))))
theorem fq90 : FF 90 kf90 := cf (em := 37778931862957163807251) Tryz.func90 (by kernel_rfl) (by kernel_rfl)
def kf91 : KFun := .mk 2 [] (.seq (.seq (.reg [8] [kM 4 0,kC 5 4,kO 6 5 1,kL 7 6,.s 8 (.cm .eq (.t 7) (kI 0))]) (.cond (.t 8) (.seq (.seq (.reg [11] [kM 9 0,kM 10 1,.s 11
  (.call 147 [(.t 9),(.t 10)])]) (.cond (.t 11) (.reg [] [kM 12 0,kC 13 12,kO 14 13 1,.n (.st (.t 14) (kI 7))]) .skip)) .ret) .skip)) (.seq (.reg [] [kM 15
  1,kC 16 15,kO 17 16 11,kL 18 17,.s 19 (.call 165 [(.t 18)])]) (.reg [] [kM 20 0,.s 21 (.call 84 [(.t 20),(kI 9)])])))
theorem fq91 : FF 91 kf91 := cf (em := 2307) Tryz.func91 (by kernel_rfl) (by kernel_rfl)
end Go.Kx
