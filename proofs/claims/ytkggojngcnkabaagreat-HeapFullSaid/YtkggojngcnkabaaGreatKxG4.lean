/-
  Functions of the program in the evaluator's form; that this is right. Printed by a program of ours.
-/
import Derived.Test.YtkggojngcnkabaaGreatB11
set_option linter.unusedVariables false
set_option linter.unusedSimpArgs false
set_option maxRecDepth 100000
namespace Go.Kx
open Go.Proofs
def kf245 : KFun := .mk 4 [.t 8] (.seq (.reg [8] [.s 8 (.mv (.c (.b false)))]) (.seq (.blk 0 (.seq (.drw [9] [.mk 0 1 true (kM 10 0),.mk 1 3 true (kC 11 10),.mk 2 7 true (kO 12 11
  0),.mk 3 15 true (kW 13 12 9),.mk 4 31 false (.s 14 (.call 115 [(.t 13)])),.mk 5 63 true (.s 15 (.cm .ne (.t 14) (kI 0))),.mk 6 127 true (kM 16 15),.mk 7
  255 true (.gs 16 false 17 (.mv (.t 0))),.mk 8 511 true (.gs 16 false 18 (.ck (.t 17))),.mk 9 1023 true (.gs 16 false 19 (.off (.t 18) 9)),.mk 10 2047 true
  (.gs 16 false 20 (.ld (.t 19))),.mk 11 4095 true (.gs 16 false 21 (.cm .ne (.t 20) (kI 0))),.mk 12 8191 true (.gs 16 false 22 (.mv (.t 21))),.mk 13 16383
  true (.gs 22 true 23 (.mv (.t 0))),.mk 14 32767 true (.gs 22 true 24 (.ck (.t 23))),.mk 15 65535 true (.gs 22 true 25 (.off (.t 24) 9)),.mk 16 131071 true
  (.gs 22 true 26 (.ld (.t 25))),.mk 17 262143 true (.gs 22 true 27 (.cm .ne (.t 26) (kI 1))),.mk 18 524287 true (.gs 16 false 28 (.pick (.t 22) (.t 27) (.c
  (.b false)))),.mk 19 1048575 true (.s 29 (.pick (.t 16) (.c (.b true)) (.t 28))),.mk 20 2097151 true (kM 30 29),.mk 21 4194303 true (.gs 30 false 31 (.mv
  (.t 0))),.mk 22 8388607 true (.gs 30 false 32 (.ck (.t 31))),.mk 23 16777215 true (.gs 30 false 33 (.off (.t 32) 10)),.mk 24 33554431 true (.gs 30 false 34
  (.ld (.t 33))),.mk 25 67108863 true (.gs 30 false 35 (.cm .lt (.t 34) (kI 0))),.mk 26 134217727 true (.s 36 (.pick (.t 30) (.c (.b true)) (.t 35))),.mk 27
  268435455 true (kM 37 36),.mk 28 536870911 true (.gs 37 false 38 (.mv (.t 0))),.mk 29 1073741823 true (.gs 37 false 39 (.ck (.t 38))),.mk 30 2147483647 true
  (.gs 37 false 40 (.off (.t 39) 10)),.mk 31 4294967295 true (.gs 37 false 41 (.ld (.t 40))),.mk 32 4563402751 true (.gs 37 false 42 (.mv (.t 0))),.mk 33
  13153337343 true (.gs 37 false 43 (.ck (.t 42))),.mk 34 30333206527 true (.gs 37 false 44 (.off (.t 43) 0)),.mk 35 64692944895 true (.gs 37 false 45 (.off
  (.t 44) 1)),.mk 36 133412421631 true (.gs 37 false 46 (.ld (.t 45))),.mk 37 274877906943 true (.gs 37 false 47 (.cm .gt (.t 41) (.t 46))),.mk 38
  549755813887 true (.s 48 (.pick (.t 37) (.c (.b true)) (.t 47))),.mk 39 1099511627775 true (kM 9 48)] [.mk 16 31 (.s 14 (.call 115 [(.t 13)]))]) (.cond (.t 9)
  (.seq (.reg [8] [.s 8 (.mv (.c (.b false)))]) .ret) (.seq (.reg [49] [kM 50 0,kC 51 50,kO 52 51 12,kL 53 52,.s 54 (.cm .lt (.t 53) (kI 4)),kM 49 54])
  (.cond (.t 49) (.seq (.reg [8] [kM 55 0,kM 56 1,kM 57 2,.s 58 (.call 326 [(.t 55),(.t 56),(.t 57)]),kM 8 58]) .ret) .skip))))) (.seq (.reg [8] [kM 59 0,
  kM 60 1,kM 61 3,.s 62 (.call 327 [(.t 59),(.t 60),(.t 61)]),kM 8 62]) .ret)))
theorem fq245 : FF 245 kf245 := cf (em := 562949953422095) Tryz.func245 (by kernel_rfl) (by kernel_rfl)
def kf246 : KFun := .mk 1 [.t 2] (.seq (.reg [2] [.s 2 (.mv (.c (.b false)))]) (.seq (.seq (.reg [7] [kM 3 0,kC 4 3,kO 5 4 4,kL 6 5,.s 7 (.cm .gt (.t 6) (kI 0))]) (.cond (.t 7)
  (.seq (.reg [2] [.s 2 (.mv (.c (.b false)))]) .ret) .skip)) (.seq (.drw [] [.mk 0 1 true (kM 8 0),.mk 1 2 true (kM 9 0),.mk 2 6 true (kC 10 9),.mk 3 14 true
  (kO 11 10 1),.mk 4 30 true (kL 12 11),.mk 5 62 true (.s 13 (.ar .sub (kI 1) (.t 12))),.mk 6 65 true (kC 14 8),.mk 7 193 true (kO 15 14 2),.mk 8 511 true
  (.s 16 (.q (.iar (.t 15) (.t 13) 1 2))),.mk 9 1023 false (.n (.st (.t 16) (kI 0)))] [.mk 512 1023 (.n (.st (.t 16) (kI 0)))]) (.seq (.reg [2] [.s 2 (.mv (.c
  (.b true)))]) .ret))))
theorem fq246 : FF 246 kf246 := cf (em := 133) Tryz.func246 (by kernel_rfl) (by kernel_rfl)
def kf247 : KFun := .mk 1 [] (.seq (.reg [8,9] [kM 4 0,kC 5 4,kO 6 5 0,kL 7 6,.s 8 (.len (.t 7)),.s 9 (.mv (kI 0))]) (.blk 0 (.loop (.seq (.reg [10] [.s 10 (.cm .lt (.t 9) (.t
  8))]) (.seq (.cond (.t 10) .skip (.exit 0)) (.seq (.blk 1 (.seq (.reg [2] [kM 11 9,kM 2 11]) (.seq (.reg [3] [kM 12 0,kC 13 12,kO 14 13 0,kL 15 14,kM 16
  2,.s 17 (.ixp (.t 15) (.t 16) 8),kM 3 17]) (.seq (.seq (.reg [29] [kM 18 3,kC 19 18,kO 20 19 7,kL 21 20,kM 22 21,.gs 22 true 23 (.mv (.t 3)),.gs 22
  true 24 (.ck (.t 23)),.gs 22 true 25 (.off (.t 24) 0),.gs 22 true 26 (.off (.t 25) 3),.gs 22 true 27 (.ld (.t 26)),.gs 22 true 28 (.cm .eq (.t 27) (kI 0)),
  .s 29 (.pick (.t 22) (.t 28) (.c (.b false)))]) (.cond (.t 29) (.reg [] [kM 30 3,kC 31 30,kO 32 31 0,kO 33 32 4,kL 34 33,.s 35 (.ar .add (.t 34) (kI 1)),
  kC 36 30,kO 37 36 0,kO 38 37 4,.n (.st (.t 38) (.t 35))]) .skip)) (.reg [] [kM 39 3,kC 40 39,kO 41 40 7,.n (.st (.t 41) (.c (.b false)))]))))) (.reg [9]
  [.s 42 (.ar .add (.t 9) (kI 1)),kM 9 42])))))))
theorem fq247 : FF 247 kf247 := cf (em := 536872717) Tryz.func247 (by kernel_rfl) (by kernel_rfl)
def kf248 : KFun := .mk 1 [.cn 2 7,.t 3] (.seq (.reg [2,3] [.s 2 (.new [.i (.ofNat 0),.i (.ofNat 0),.i (.ofNat 0),.i (.ofNat 0),.i (.ofNat 0),.i (.ofNat 0),.ns]),.s 3 (.mv
  (.c (.b false)))]) (.seq (.reg [3] [kM 4 0,kM 5 0,.s 6 (.call 328 [(.t 5)]),.s 7 (.call 311 [(.t 4),(.t 6)]),kE 8 7 0,kE 9 7 1,.n (.stn (.t 2) (.t 8)
  7),kM 3 9]) .ret))
theorem fq248 : FF 248 kf248 := cf (em := 13) Tryz.func248 (by kernel_rfl) (by kernel_rfl)
def kf249 : KFun := .mk 3 [.t 6] (.seq (.reg [3,6] [.s 3 (.box (.t 0)),.s 6 (.mv (.c (.b false)))]) (.seq (.seq (.reg [13] [kO 9 3 9,kL 10 9,.s 11 (.call 95 [(.t 10)]),kM 12 1,
  .s 13 (.cm .lt (.t 11) (.t 12))]) (.cond (.t 13) (.seq (.reg [6] [.s 6 (.mv (.c (.b false)))]) .ret) .skip)) (.seq (.reg [8] [kO 15 3 9,kL 16 15,kM 17 1,.s
  18 (.call 329 [(.t 16),(.t 17)]),kM 14 18,kE 19 14 0,kE 20 14 1,kM 7 19,kM 8 20]) (.seq (.reg [6] [kM 21 2,.s 22 (.cm .eq (.t 21) (kI 0)),kM 23 22,.gs
  23 false 24 (.mv (.t 8)),.s 25 (.pick (.t 23) (.c (.b true)) (.t 24)),kM 26 25,.gs 26 false 27 (.off (.t 3) 10),.gs 26 false 28 (.ld (.t 27)),.gs 26 false
  29 (.call 330 [(.t 28)]),.gs 26 false 30 (.mv (.t 2)),.gs 26 false 31 (.cm .ge (.t 29) (.t 30)),.s 32 (.pick (.t 26) (.c (.b true)) (.t 31)),kM 6 32])
  .ret))))
theorem fq249 : FF 249 kf249 := cf (em := 8527) Tryz.func249 (by kernel_rfl) (by kernel_rfl)
def kf250 : KFun := .mk 3 [.t 6,.t 7] (.seq (.reg [3,6,7] [.s 3 (.box (.t 0)),.s 6 (.mv (.c (.ns))),.s 7 (.mv (kI 0))]) (.seq (.reg [8] [kO 15 3 9,kL 16 15,kM 17 1,.s 18
  (.call 331 [(.t 16),(.t 17)]),kM 14 18,kE 19 14 0,kE 20 14 1,kM 8 19,kM 9 20]) (.seq (.seq (.reg [26] [kM 21 2,.s 22 (.cm .eq (.t 21) (kI 0)),kM 23 22,
  .gs 23 false 24 (.mv (.t 8)),.gs 23 false 25 (.call 316 [(.t 24)]),.s 26 (.pick (.t 23) (.c (.b true)) (.t 25))]) (.cond (.t 26) (.seq (.reg [6,7] [kM 27 8,
  kM 6 27,.s 7 (.mv (.c (.i (.negSucc 0))))]) .ret) .skip)) (.seq (.reg [10] [kO 29 3 10,kL 30 29,kM 31 2,.s 32 (.call 332 [(.t 30),(.t 31)]),kM 28 32,kE
  33 28 0,kE 34 28 1,kM 10 33,kM 11 34]) (.seq (.drw [12] [.mk 0 1 true (kO 36 3 0),.mk 1 3 true (kW 37 36 9),.mk 2 4 true (kO 38 3 10),.mk 3 12 true (kL
  39 38),.mk 4 28 true (.s 40 (.call 159 [(.t 39)])),.mk 5 32 true (kM 41 10),.mk 6 127 false (.s 42 (.call 333 [(.t 37),(.t 40),(.t 41)])),.mk 7 255 true
  (kM 35 42),.mk 8 511 true (kE 43 35 0),.mk 9 767 true (kE 44 35 1),.mk 10 1535 true (kM 12 43),.mk 11 4095 true (kM 13 44)] [.mk 64 127 (.s 42 (.call 333
  [(.t 37),(.t 40),(.t 41)]))]) (.seq (.reg [6,7] [kM 45 8,kM 46 12,kM 6 45,kM 7 46]) .ret))))))
theorem fq250 : FF 250 kf250 := cf (em := 67114447) Tryz.func250 (by kernel_rfl) (by kernel_rfl)
def kf251 : KFun := .mk 4 [] (.seq (.reg [10,11,12] [kM 10 1,.s 11 (.len (.t 10)),.s 12 (.mv (kI 0))]) (.blk 0 (.loop (.seq (.reg [13] [.s 13 (.cm .lt (.t 12) (.t 11))]) (.seq
  (.cond (.t 13) .skip (.exit 0)) (.seq (.blk 1 (.seq (.reg [9] [.s 14 (.ixp (.t 10) (.t 12) 1),kL 15 14,kM 9 15]) (.reg [] [kM 16 0,kC 17 16,kO 18 17 0,kL
  19 18,kM 20 9,kM 21 2,kM 22 3,.s 23 (.call 289 [(.t 19),(.t 20),(.t 21),(.c (.b false)),(.t 22)])]))) (.reg [12] [.s 24 (.ar .add (.t 12) (kI 1)),kM
  12 24])))))))
theorem fq251 : FF 251 kf251 := cf (em := 15887) Tryz.func251 (by kernel_rfl) (by kernel_rfl)
def kf252 : KFun := .mk 3 [.t 6] (.seq (.reg [6] [.s 6 (.mv (.c (.b false)))]) (.seq (.reg [7] [kM 9 0,.s 10 (.call 328 [(.t 9)]),kM 7 10]) (.seq (.seq (.reg [12] [kM 11 7,.s 12
  (.cm .lt (.t 11) (kI 0))]) (.cond (.t 12) (.seq (.reg [6] [.s 6 (.mv (.c (.b false)))]) .ret) .skip)) (.seq (.reg [8] [kM 13 0,kC 14 13,kO 15 14 0,kL 16 15,
  kM 17 7,.s 18 (.ixp (.t 16) (.t 17) 8),kO 19 18 0,kM 8 19]) (.seq (.reg [] [kM 20 8,kM 21 8,kM 22 8,kM 23 1,.s 24 (.call 334 [(.t 23)]),kM 25 2,kC 26
  20,kO 27 26 3,.n (.st (.t 27) (kI 1)),kC 28 21,kO 29 28 6,.n (.st (.t 29) (.t 24)),kC 30 22,kO 31 30 5,.n (.st (.t 31) (.t 25))]) (.seq (.reg [6] [.s 6
  (.mv (.c (.b true)))]) .ret))))))
theorem fq252 : FF 252 kf252 := cf (em := 4551) Tryz.func252 (by kernel_rfl) (by kernel_rfl)
def kf253 : KFun := .mk 1 [.t 2] (.seq (.reg [2] [.s 2 (.mv (.c (.b false)))]) (.seq (.reg [3] [kM 4 0,.s 5 (.call 328 [(.t 4)]),kM 3 5]) (.seq (.seq (.reg [7] [kM 6 3,.s 7 (.cm
  .lt (.t 6) (kI 0))]) (.cond (.t 7) (.seq (.reg [2] [.s 2 (.mv (.c (.b false)))]) .ret) .skip)) (.seq (.reg [] [kM 8 0,kC 9 8,kO 10 9 0,kL 11 10,kM 12 3,.s
  13 (.ixp (.t 11) (.t 12) 8),kO 14 13 0,kO 15 14 3,.n (.st (.t 15) (kI 2))]) (.seq (.reg [2] [.s 2 (.mv (.c (.b true)))]) .ret)))))
theorem fq253 : FF 253 kf253 := cf (em := 141) Tryz.func253 (by kernel_rfl) (by kernel_rfl)
def kf254 : KFun := .mk 3 [.t 6,.t 7] (.seq (.reg [3,6,7] [.s 3 (.box (.t 0)),.s 6 (.mv (kI 0)),.s 7 (.mv (kI 0))]) (.seq (.seq (.reg [28] [kM 8 1,.s 9 (.cm .lt (.t 8) (kI
  0)),kM 10 9,.gs 10 false 11 (.mv (.t 1)),.gs 10 false 12 (.off (.t 3) 0),.gs 10 false 13 (.ld (.t 12)),.gs 10 false 14 (.cm .ge (.t 11) (.t 13)),.s 15
  (.pick (.t 10) (.c (.b true)) (.t 14)),kM 16 15,.gs 16 false 17 (.mv (.t 2)),.gs 16 false 18 (.cm .lt (.t 17) (kI 0)),.s 19 (.pick (.t 16) (.c (.b true))
  (.t 18)),kM 20 19,.gs 20 false 21 (.mv (.t 2)),.gs 20 false 22 (.cm .ge (.t 21) (kI 8)),.s 23 (.pick (.t 20) (.c (.b true)) (.t 22)),kM 24 23,.gs 24
  false 25 (.ldn (.t 3) 9),.gs 24 false 26 (.call 115 [(.t 25)]),.gs 24 false 27 (.cm .ne (.t 26) (kI 0)),.s 28 (.pick (.t 24) (.c (.b true)) (.t 27))])
  (.cond (.t 28) (.seq (.reg [6,7] [.s 6 (.mv (kI 0)),.s 7 (.mv (kI 1))]) .ret) .skip)) (.seq (.reg [6,7] [kW 29 3 9,kM 30 1,.s 31 (.ar .mul (.t 30) (kI
  8)),kM 32 2,.s 33 (.ar .add (.t 31) (.t 32)),.s 34 (.call 199 [(.t 29),(kI 1),(.t 33)]),kE 35 34 0,kE 36 34 1,kM 6 35,kM 7 36]) .ret)))
theorem fq254 : FF 254 kf254 := cf (em := 268435663) Tryz.func254 (by kernel_rfl) (by kernel_rfl)
def kf259 : KFun := .mk 2 [.t 4] (.seq (.reg [2,4] [.s 2 (.box (.t 0)),.s 4 (.mv (kI 0))]) (.seq (.reg [5] [kO 6 2 1,kL 7 6,.s 8 (.len (.t 7)),kM 5 8]) (.seq (.blk 0 (.seq
  (.reg [9] [kW 10 2 2,.s 11 (.call 190 [(.t 10)]),.s 12 (.not (.t 11)),kM 13 12,.gs 13 false 14 (.mv (.t 1)),.gs 13 false 15 (.cm .lt (.t 14) (kI 0)),.s
  16 (.pick (.t 13) (.c (.b true)) (.t 15)),kM 17 16,.gs 17 false 18 (.mv (.t 1)),.gs 17 false 19 (.cm .gt (.t 18) (kI 512)),.s 20 (.pick (.t 17) (.c (.b
  true)) (.t 19)),kM 21 20,.gs 21 false 22 (.off (.t 2) 0),.gs 21 false 23 (.ld (.t 22)),.gs 21 false 24 (.not (.t 23)),.gs 21 false 25 (.mv (.t 24)),.gs
  25 true 26 (.mv (.t 1)),.gs 25 true 27 (.cm .gt (.t 26) (kI 0)),.gs 21 false 28 (.pick (.t 25) (.t 27) (.c (.b false))),.s 29 (.pick (.t 21) (.c (.b true))
  (.t 28)),kM 9 29]) (.cond (.t 9) (.seq (.reg [4] [.s 4 (.mv (.c (.i (.negSucc 0))))]) .ret) (.seq (.reg [30] [kO 31 2 0,kL 32 31,kM 30 32]) (.cond (.t 30)
  (.seq (.reg [4] [kM 33 1,.s 34 (.call 320 [(.t 33)]),.s 35 (.ar .add (kI 1) (.t 34)),kM 4 35]) .ret) (.seq (.reg [36] [kM 37 5,.s 38 (.cm .le (.t 37) (kI
  6)),kM 36 38]) (.cond (.t 36) (.seq (.reg [4] [.s 4 (.mv (kI 1))]) .ret) .skip))))))) (.seq (.reg [4] [kM 39 5,.s 40 (.ar .sub (.t 39) (kI 6)),.s 41 (.call
  335 [(.t 40),(kI 7)]),.s 42 (.ar .add (kI 1) (.t 41)),kM 4 42]) .ret))))
theorem fq259 : FF 259 kf259 := cf (em := 69793219127) Tryz.func259 (by kernel_rfl) (by kernel_rfl)
def kf260 : KFun := .mk 2 [.t 4,.t 5,.t 6] (.seq (.reg [2,4,5,6] [.s 2 (.box (.t 0)),.s 4 (.mv (kI 0)),.s 5 (.mv (kI 0)),.s 6 (.mv (.c (.b false)))]) (.seq (.blk 0 (.seq
  (.reg [7] [kW 8 2 2,.s 9 (.call 190 [(.t 8)]),.s 10 (.not (.t 9)),kM 11 10,.gs 11 false 12 (.off (.t 2) 0),.gs 11 false 13 (.ld (.t 12)),.s 14 (.pick (.t
  11) (.c (.b true)) (.t 13)),kM 15 14,.gs 15 false 16 (.mv (.t 1)),.gs 15 false 17 (.cm .lt (.t 16) (kI 0)),.s 18 (.pick (.t 15) (.c (.b true)) (.t 17)),kM
  19 18,.gs 19 false 20 (.mv (.t 1)),.gs 19 false 21 (.off (.t 2) 1),.gs 19 false 22 (.ld (.t 21)),.gs 19 false 23 (.len (.t 22)),.gs 19 false 24 (.cm .ge
  (.t 20) (.t 23)),.s 25 (.pick (.t 19) (.c (.b true)) (.t 24)),kM 7 25]) (.cond (.t 7) (.seq (.reg [4,5,6] [.s 4 (.mv (kI 0)),.s 5 (.mv (kI 0)),.s 6 (.mv
  (.c (.b false)))]) .ret) (.seq (.reg [26] [kM 27 1,.s 28 (.cm .lt (.t 27) (kI 6)),kM 26 28]) (.cond (.t 26) (.seq (.reg [4,5,6] [kM 29 1,.s 30 (.ar .add
  (kI 2) (.t 29)),.s 4 (.mv (kI 0)),kM 5 30,.s 6 (.mv (.c (.b true)))]) .ret) .skip))))) (.seq (.reg [4,5,6] [kM 31 1,.s 32 (.ar .sub (.t 31) (kI 6)),.s
  33 (.q (.quo (.t 32) (kI 7))),.s 34 (.ar .add (kI 1) (.t 33)),kM 35 1,.s 36 (.ar .sub (.t 35) (kI 6)),.s 37 (.q (.rem (.t 36) (kI 7))),.s 38 (.ar .add (kI
  1) (.t 37)),kM 4 34,kM 5 38,.s 6 (.mv (.c (.b true)))]) .ret)))
theorem fq260 : FF 260 kf260 := cf (em := 67109111) Tryz.func260 (by kernel_rfl) (by kernel_rfl)
def kf287 : KFun := .mk 2 [.t 4] (.seq (.reg [4] [.s 4 (.mv (kI 0))]) (.seq (.seq (.reg [7,8] [kM 6 0,.s 7 (.len (.t 6)),.s 8 (.mv (kI 0))]) (.blk 0 (.loop (.seq (.reg [9] [.s 9
  (.cm .lt (.t 8) (.t 7))]) (.seq (.cond (.t 9) .skip (.exit 0)) (.seq (.blk 1 (.seq (.reg [5] [kM 10 8,kM 5 10]) (.seq (.reg [16] [kM 11 1,kM 12 0,kM 13 5,
  .s 14 (.ixp (.t 12) (.t 13) 2),kW 15 14 2,.s 16 (.callv (.t 11) [(.t 15)])]) (.cond (.t 16) (.seq (.reg [4] [kM 17 5,kM 4 17]) .ret) .skip)))) (.reg [8] [.s
  18 (.ar .add (.t 8) (kI 1)),kM 8 18]))))))) (.seq (.reg [4] [.s 4 (.mv (.c (.i (.negSucc 0))))]) .ret)))
theorem fq287 : FF 287 kf287 := cf (em := 66483) Tryz.func287 (by kernel_rfl) (by kernel_rfl)
def kf288 : KFun := .mk 1 [.t 2] (.seq (.reg [2] [.s 2 (.mv (.c (.ns)))]) (.seq (.seq (.reg [4] [kM 3 0,.s 4 (.nils true (.t 3))]) (.cond (.t 4) (.seq (.reg [2] [.s 2 (.mv (.c
  (.ns)))]) .ret) .skip)) (.seq (.reg [2] [.s 5 (.bsl [.b false] 0 .nil),kM 6 0,.s 7 (.app 1 1 (.t 5) (.t 6)),kM 2 7]) .ret)))
theorem fq288 : FF 288 kf288 := cf (em := 21) Tryz.func288 (by kernel_rfl) (by kernel_rfl)
def kf289 : KFun := .mk 5 [.t 10] (.seq (.reg [10] [.s 10 (.mv (.c (.b false)))]) (.seq (.seq (.reg [22] [kM 11 0,kM 12 1,.s 13 (.call 79 [(.t 11),(.t 12)]),.s 14 (.not (.t
  13)),kM 15 14,.gs 15 false 16 (.mv (.t 2)),.gs 15 false 17 (.cm .lt (.t 16) (kI 0)),.s 18 (.pick (.t 15) (.c (.b true)) (.t 17)),kM 19 18,.gs 19 false 20
  (.mv (.t 2)),.gs 19 false 21 (.cm .gt (.t 20) (kI 2)),.s 22 (.pick (.t 19) (.c (.b true)) (.t 21))]) (.cond (.t 22) (.seq (.reg [10] [.s 10 (.mv (.c (.b
  false)))]) .ret) .skip)) (.seq (.drw [] [.mk 0 1 true (kM 23 0),.mk 1 2 true (kM 24 0),.mk 2 6 true (kC 25 24),.mk 3 14 true (kO 26 25 0),.mk 4 30 true (kL
  27 26),.mk 5 32 true (kM 28 1),.mk 6 126 true (.s 29 (.ixp (.t 27) (.t 28) 3)),.mk 7 254 true (kO 30 29 0),.mk 8 510 true (kL 31 30),.mk 9 513 true (kC 32
  23),.mk 10 1537 true (kO 33 32 1),.mk 11 4095 true (.s 34 (.q (.iar (.t 33) (.t 31) 1 3))),.mk 12 8191 true (kL 35 34),.mk 13 16383 true (.s 36 (.ar .sub
  (.t 35) (kI 1))),.mk 14 16385 true (kC 37 23),.mk 15 49153 true (kO 38 37 1),.mk 16 131071 true (.s 39 (.q (.iar (.t 38) (.t 31) 1 3))),.mk 17 262143 false
  (.n (.st (.t 39) (.t 36)))] [.mk 131072 262143 (.n (.st (.t 39) (.t 36)))]) (.seq (.drw [] [.mk 0 1 true (kM 40 0),.mk 1 2 true (kM 41 2),.mk 2 5 true (kC 42
  40),.mk 3 13 true (kO 43 42 1),.mk 4 31 true (.s 44 (.q (.iar (.t 43) (.t 41) 1 3))),.mk 5 63 true (kL 45 44),.mk 6 127 true (.s 46 (.ar .add (.t 45) (kI
  1))),.mk 7 129 true (kC 47 40),.mk 8 385 true (kO 48 47 1),.mk 9 1023 true (.s 49 (.q (.iar (.t 48) (.t 41) 1 3))),.mk 10 2047 false (.n (.st (.t 49) (.t
  46)))] [.mk 1024 2047 (.n (.st (.t 49) (.t 46)))]) (.seq (.reg [] [kM 50 0,kC 51 50,kO 52 51 0,kL 53 52,kM 54 1,kM 55 2,kM 56 3,kM 57 56,.gs 57 true 58
  (.mv (.t 2)),.gs 57 true 59 (.cm .eq (.t 58) (kI 2)),.s 60 (.pick (.t 57) (.t 59) (.c (.b false))),kM 61 4,.s 62 (.bld [.i (.ofNat 0),.b false,.b false]
  (.cons 0 1 (.t 55) (.cons 1 1 (.t 60) (.cons 2 1 (.t 61) .nil)))),.s 63 (.ixp (.t 53) (.t 54) 3),.n (.stn (.t 63) (.t 62) 3)]) (.seq (.reg [10] [.s 10 (.mv
  (.c (.b true)))]) .ret))))))
theorem fq289 : FF 289 kf289 := cf (em := 4195359) Tryz.func289 (by kernel_rfl) (by kernel_rfl)
def kf290 : KFun := .mk 2 [.t 4] (.seq (.reg [4] [.s 4 (.mv (.c (.b false)))]) (.seq (.seq (.reg [24] [kM 5 1,.s 6 (.cm .lt (.t 5) (kI 0)),kM 7 6,.gs 7 false 8 (.mv (.t 1)),.gs
  7 false 9 (.mv (.t 0)),.gs 7 false 10 (.ck (.t 9)),.gs 7 false 11 (.off (.t 10) 0),.gs 7 false 12 (.ld (.t 11)),.gs 7 false 13 (.len (.t 12)),.gs 7 false
  14 (.cm .ge (.t 8) (.t 13)),.s 15 (.pick (.t 7) (.c (.b true)) (.t 14)),kM 16 15,.gs 16 false 17 (.mv (.t 0)),.gs 16 false 18 (.ck (.t 17)),.gs 16 false
  19 (.off (.t 18) 0),.gs 16 false 20 (.ld (.t 19)),.gs 16 false 21 (.mv (.t 1)),.gs 16 false 22 (.ixp (.t 20) (.t 21) 1),.gs 16 false 23 (.ld (.t 22)),.s
  24 (.pick (.t 16) (.c (.b true)) (.t 23))]) (.cond (.t 24) (.seq (.reg [4] [.s 4 (.mv (.c (.b false)))]) .ret) .skip)) (.seq (.reg [] [kM 25 0,kC 26 25,kO 27
  26 0,kL 28 27,kM 29 1,.s 30 (.ixp (.t 28) (.t 29) 1),.n (.st (.t 30) (.c (.b true)))]) (.seq (.reg [] [kM 31 0,kC 32 31,kO 33 32 1,kL 34 33,.s 35 (.ar
  .add (.t 34) (kI 1)),kC 36 31,kO 37 36 1,.n (.st (.t 37) (.t 35))]) (.seq (.reg [4] [.s 4 (.mv (.c (.b true)))]) .ret)))))
theorem fq290 : FF 290 kf290 := cf (em := 16777235) Tryz.func290 (by kernel_rfl) (by kernel_rfl)
def kf291 : KFun := .mk 1 [.t 2,.t 3] (.seq (.reg [2,3] [.s 2 (.mv (.c (.s []))),.s 3 (.mv (.c (.s [])))]) (.seq (.reg [4] [.s 5 (.bld [.s [],.s []] (.cons 0 1 (.c (.s []))
  (.cons 1 1 (.c (.s [])) .nil))),.s 6 (.bld [.s [],.s []] (.cons 0 1 (.c (.s [110,101,119])) (.cons 1 1 (.c (.s [97,107])) .nil))),.s 7 (.bld [.s [],.s
  []] (.cons 0 1 (.c (.s [97,114,114,97,121])) (.cons 1 1 (.c (.s [97,107,110])) .nil))),.s 8 (.bld [.s [],.s []] (.cons 0 1 (.c (.s [108,111,97,
  100])) (.cons 1 1 (.c (.s [97,98,110])) .nil))),.s 9 (.bld [.s [],.s []] (.cons 0 1 (.c (.s [115,116,111,114,101])) (.cons 1 1 (.c (.s [97,110,98]))
  .nil))),.s 10 (.bld [.s [],.s []] (.cons 0 1 (.c (.s [103,101,116])) (.cons 1 1 (.c (.s [97,98,110])) .nil))),.s 11 (.bld [.s [],.s []] (.cons 0 1 (.c
  (.s [112,117,116])) (.cons 1 1 (.c (.s [97,110,98])) .nil))),.s 12 (.bld [.s [],.s []] (.cons 0 1 (.c (.s [108,111,111,107])) (.cons 1 1 (.c (.s [97,
  103])) .nil))),.s 13 (.bld [.s [],.s []] (.cons 0 1 (.c (.s [115,101,116])) (.cons 1 1 (.c (.s [103,98])) .nil))),.s 14 (.bld [.s [],.s []] (.cons 0 1
  (.c (.s [115,97,109,101])) (.cons 1 1 (.c (.s [97,98,99])) .nil))),.s 15 (.bld [.s [],.s []] (.cons 0 1 (.c (.s [108,101,110,103,116,104])) (.cons
  1 1 (.c (.s [97,98])) .nil))),.s 16 (.bld [.s [],.s []] (.cons 0 1 (.c (.s [107,105,110,100])) (.cons 1 1 (.c (.s [97,98])) .nil))),.s 17 (.bld [.s [],
  .s []] (.cons 0 1 (.c (.s [110,117,109,98,101,114])) (.cons 1 1 (.c (.s [97,122])) .nil))),.s 18 (.bld [.s [],.s []] (.cons 0 1 (.c (.s [99,108,101,
  97,114])) (.cons 1 1 (.c (.s [97])) .nil))),.s 19 (.bld [.s [],.s []] (.cons 0 1 (.c (.s [99,111,112,121])) (.cons 1 1 (.c (.s [97,98])) .nil))),.s 20
  (.bld [.s [],.s []] (.cons 0 1 (.c (.s [97,100,100])) (.cons 1 1 (.c (.s [97,98,99])) .nil))),.s 21 (.bld [.s [],.s []] (.cons 0 1 (.c (.s [109,117,
  108])) (.cons 1 1 (.c (.s [97,98,99])) .nil))),.s 22 (.bld [.s [],.s []] (.cons 0 1 (.c (.s [99,111,108,108,101,99,116])) (.cons 1 1 (.c (.s []))
  .nil))),.s 23 (.bld [.s [],.s []] (.cons 0 1 (.c (.s [108,101,97,118,101])) (.cons 1 1 (.c (.s [])) .nil))),.s 24 (.bsl [.s [],.s []] 19 (.cons 0 2 (.t
  5) (.cons 2 2 (.t 6) (.cons 4 2 (.t 7) (.cons 6 2 (.t 8) (.cons 8 2 (.t 9) (.cons 10 2 (.t 10) (.cons 12 2 (.t 11) (.cons 14 2 (.t 12) (.cons 16 2 (.t 13)
  (.cons 18 2 (.t 14) (.cons 20 2 (.t 15) (.cons 22 2 (.t 16) (.cons 24 2 (.t 17) (.cons 26 2 (.t 18) (.cons 28 2 (.t 19) (.cons 30 2 (.t 20) (.cons 32 2 (.t 21)
  (.cons 34 2 (.t 22) (.cons 36 2 (.t 23) .nil)))))))))))))))))))),kM 4 24]) (.seq (.seq (.reg [32] [kM 25 0,.s 26 (.cm .lt (.t 25) (kI 0)),kM 27 26,.gs 27
  false 28 (.mv (.t 0)),.gs 27 false 29 (.mv (.t 4)),.gs 27 false 30 (.len (.t 29)),.gs 27 false 31 (.cm .ge (.t 28) (.t 30)),.s 32 (.pick (.t 27) (.c (.b
  true)) (.t 31))]) (.cond (.t 32) (.seq (.reg [2,3] [.s 2 (.mv (.c (.s []))),.s 3 (.mv (.c (.s [])))]) .ret) .skip)) (.seq (.drw [2,3] [.mk 0 1 true (kM 33
  4),.mk 1 2 true (kM 34 0),.mk 2 7 true (.s 35 (.ixp (.t 33) (.t 34) 2)),.mk 3 15 true (.s 36 (.q (.iar (.t 35) (kI 0) 1 2))),.mk 4 31 true (kL 37 36),.mk
  5 32 true (kM 38 4),.mk 6 64 true (kM 39 0),.mk 7 224 true (.s 40 (.ixp (.t 38) (.t 39) 2)),.mk 8 480 true (.s 41 (.q (.iar (.t 40) (kI 1) 1 2))),.mk 9 992
  true (kL 42 41),.mk 10 1055 true (kM 2 37),.mk 11 4095 true (kM 3 42)] []) .ret))))
theorem fq291 : FF 291 kf291 := cf (em := 4294967325) Tryz.func291 (by kernel_rfl) (by kernel_rfl)
def kf292 : KFun := .mk 2 [.t 4] (.seq (.reg [4] [.s 4 (.mv (.c (.np)))]) (.seq (.seq (.reg [5] [kM 5 1]) (.blk 0 (.seq (.reg [6] [.s 7 (.cmk .eq (.t 5) (.c (.k .i32 (.ofNat 97)))),
  kM 6 7]) (.cond (.t 6) (.seq (.reg [4] [kM 8 0,kC 9 8,kO 10 9 1,kM 4 10]) .ret) (.seq (.seq (.reg [11] [.s 12 (.cmk .eq (.t 5) (.c (.k .i32 (.ofNat 98)))),
  kM 11 12]) (.cond (.t 11) .skip (.reg [11] [.s 13 (.cmk .eq (.t 5) (.c (.k .i32 (.ofNat 107)))),kM 11 13]))) (.cond (.t 11) (.seq (.reg [4] [kM 14 0,kC 15
  14,kO 16 15 2,kM 4 16]) .ret) (.seq (.reg [17] [.s 18 (.cmk .eq (.t 5) (.c (.k .i32 (.ofNat 99)))),kM 17 18]) (.cond (.t 17) (.seq (.reg [4] [kM 19 0,kC 20
  19,kO 21 20 3,kM 4 21]) .ret) .skip)))))))) (.seq (.reg [4] [kM 22 0,kC 23 22,kO 24 23 4,kM 4 24]) .ret)))
theorem fq292 : FF 292 kf292 := cf (em := 133235) Tryz.func292 (by kernel_rfl) (by kernel_rfl)
def kf293 : KFun := .mk 2 [.t 4] (.seq (.reg [2,3,4] [.s 2 (.box (.t 0)),.s 3 (.box (.t 1)),.s 4 (.mv (kI 0))]) (.seq (.seq (.reg [7] [kO 5 3 0,kL 6 5,.s 7 (.cm .eq (.t 6) (kI
  2))]) (.cond (.t 7) (.seq (.reg [4] [kW 8 2 2,kO 9 3 4,kL 10 9,.s 11 (.call 259 [(.t 8),(.t 10)]),kM 4 11]) .ret) .skip)) (.seq (.reg [4] [kW 12 2 2,.s
  13 (.call 259 [(.t 12),(kI 0)]),kM 4 13]) .ret)))
theorem fq293 : FF 293 kf293 := cf (em := 159) Tryz.func293 (by kernel_rfl) (by kernel_rfl)
def kf294 : KFun := .mk 2 [.t 4] (.seq (.reg [2,4] [.s 2 (.box (.t 0)),.s 4 (.mv (kI 0))]) (.seq (.seq (.reg [17] [kW 5 2 2,.s 6 (.call 190 [(.t 5)]),.s 7 (.not (.t 6)),kM 8 7,
  .gs 8 false 9 (.off (.t 2) 0),.gs 8 false 10 (.ld (.t 9)),.gs 8 false 11 (.not (.t 10)),.s 12 (.pick (.t 8) (.c (.b true)) (.t 11)),kM 13 12,.gs 13 false
  14 (.mv (.t 1)),.gs 13 false 15 (.call 320 [(.t 14)]),.gs 13 false 16 (.cm .le (.t 15) (kI 4)),.s 17 (.pick (.t 13) (.c (.b true)) (.t 16))]) (.cond (.t 17)
  (.seq (.reg [4] [.s 4 (.mv (kI 0))]) .ret) .skip)) (.seq (.reg [4] [kM 18 1,.s 19 (.call 320 [(.t 18)]),.s 20 (.ar .add (.t 19) (kI 2)),kM 4 20]) .ret)))
theorem fq294 : FF 294 kf294 := cf (em := 131095) Tryz.func294 (by kernel_rfl) (by kernel_rfl)
def kf295 : KFun := .mk 2 [.t 4] (.seq (.reg [4] [.s 4 (.mv (.c (.b false)))]) (.seq (.reg [4] [kM 5 0,kM 6 1,.s 7 (.call 344 [(.t 5),(.t 6)]),.s 8 (.cm .ge (.t 7) (kI 0)),kM 4
  8]) .ret))
theorem fq295 : FF 295 kf295 := cf (em := 19) Tryz.func295 (by kernel_rfl) (by kernel_rfl)
def kf296 : KFun := .mk 2 [.t 3] (.seq (.reg [2,3] [.s 2 (.box (.t 0)),.s 3 (.mv (.c (.b false)))]) (.seq (.reg [3] [kO 4 2 0,kL 5 4,kL 6 1,.s 7 (.bne (.t 5) (.t 6)),kM 3 7])
  .ret))
theorem fq296 : FF 296 kf296 := cf (em := 15) Tryz.func296 (by kernel_rfl) (by kernel_rfl)
def kf297 : KFun := .mk 1 [.t 2] (.seq (.reg [1,2] [.s 1 (.box (.t 0)),.s 2 (.mv (.c (.b false)))]) (.seq (.drw [2] [.mk 0 1 true (kO 3 1 1),.mk 1 3 true (kL 4 3),.mk 2 4 true
  (.s 5 (.call 123 [])),.mk 3 15 true (.s 6 (.call 238 [(.t 4),(.t 5)])),.mk 4 31 true (kM 2 6)] []) .ret))
theorem fq297 : FF 297 kf297 := cf (em := 7) Tryz.func297 (by kernel_rfl) (by kernel_rfl)
def kf301 : KFun := .mk 2 [.t 4,.t 5] (.seq (.reg [2,3,4,5] [.s 2 (.box (.t 0)),.s 3 (.box (.t 1)),.s 4 (.mv (kI 0)),.s 5 (.mv (kI 0))]) (.seq (.seq (.reg [21] [kO 8 3 0,kL
  9 8,.s 10 (.cm .ne (.t 9) (kI 1)),kM 11 10,.gs 11 true 12 (.off (.t 3) 0),.gs 11 true 13 (.ld (.t 12)),.gs 11 true 14 (.cm .ne (.t 13) (kI 2)),.s 15
  (.pick (.t 11) (.t 14) (.c (.b false))),kM 16 15,.gs 16 false 17 (.ldn (.t 2) 9),.gs 16 false 18 (.ldn (.t 3) 6),.gs 16 false 19 (.call 207 [(.t 17),(.t
  18)]),.gs 16 false 20 (.cm .ne (.t 19) (kI 0)),.s 21 (.pick (.t 16) (.c (.b true)) (.t 20))]) (.cond (.t 21) (.seq (.reg [4,5] [.s 4 (.mv (kI 0)),.s 5 (.mv
  (kI 0))]) .ret) .skip)) (.seq (.reg [6] [kW 23 2 9,kO 24 3 2,kL 25 24,.s 26 (.call 173 [(.t 23),(.t 25)]),kM 22 26,kE 27 22 0,kE 28 22 1,.s 6 (.new [.b
  false,.ns]),.n (.stn (.t 6) (.t 27) 2),kM 7 28]) (.seq (.drw [4,5] [.mk 0 1 true (kW 29 6 2),.mk 1 2 true (kW 30 3 6),.mk 2 7 false (.s 31 (.call 293
  [(.t 29),(.t 30)])),.mk 3 8 true (kW 32 6 2),.mk 4 16 true (kO 33 3 4),.mk 5 48 true (kL 34 33),.mk 6 127 false (.s 35 (.call 294 [(.t 32),(.t 34)])),
  .mk 7 255 true (kM 4 31),.mk 8 511 true (kM 5 35)] [.mk 68 7 (.s 31 (.call 293 [(.t 29),(.t 30)])),.mk 64 127 (.s 35 (.call 294 [(.t 32),(.t 34)]))])
  .ret))))
theorem fq301 : FF 301 kf301 := cf (em := 2097279) Tryz.func301 (by kernel_rfl) (by kernel_rfl)
def kf302 : KFun := .mk 5 [.cn 10 3] (.seq (.reg [10] [.s 10 (.new [.i (.ofNat 0),.ns,.i (.ofNat 0)])]) (.seq (.reg [] [kM 19 0,kC 20 19,kO 21 20 3,kL 22 21,.s 23 (.ar .add
  (.t 22) (kI 1)),kC 24 19,kO 25 24 3,.n (.st (.t 25) (.t 23))]) (.seq (.reg [11] [kM 26 0,kM 27 1,.s 28 (.call 203 [(.t 26),(.t 27)]),kM 11 28]) (.seq
  (.seq (.reg [13] [kM 30 0,kC 31 30,kO 32 31 4,kO 33 32 11,kL 34 33,kM 35 1,.s 36 (.call 228 [(.t 34),(.t 35)]),kM 29 36,kE 37 29 0,kE 38 29 1,.s 12
  (.new [.i (.ofNat 0),.i (.ofNat 0),.i (.ofNat 0),.i (.ofNat 0),.i (.ofNat 0),.i (.ofNat 0),.ns]),.n (.stn (.t 12) (.t 37) 7),kM 13 38]) (.seq (.reg
  [51] [kM 39 11,.s 40 (.nilp true (.t 39)),kM 41 40,.gs 41 false 42 (.mv (.t 2)),.gs 41 false 43 (.cm .lt (.t 42) (kI 1)),.s 44 (.pick (.t 41) (.c (.b
  true)) (.t 43)),kM 45 44,.gs 45 false 46 (.mv (.t 3)),.gs 45 false 47 (.cm .lt (.t 46) (kI 0)),.s 48 (.pick (.t 45) (.c (.b true)) (.t 47)),kM 49 48,.gs
  49 false 50 (.mv (.t 13)),.s 51 (.pick (.t 49) (.c (.b true)) (.t 50))]) (.cond (.t 51) (.seq (.reg [] [.s 52 (.call 229 [(kI 3)]),.n (.stn (.t 10) (.t 52)
  3)]) .ret) .skip))) (.seq (.seq (.reg [54] [kM 53 3,.s 54 (.cm .eq (.t 53) (kI 0))]) (.cond (.t 54) (.seq (.reg [14,15] [kM 56 11,kM 57 2,.s 58 (.call 346
  [(.t 56),(.t 57)]),kM 55 58,kE 59 55 0,kE 60 55 1,kM 14 59,kM 15 60]) (.seq (.reg [61] [kM 61 15]) (.cond (.t 61) (.seq (.reg [] [kM 62 0,kM 63 14,kM
  64 4,.s 65 (.call 251 [(.t 62),(.t 63),(kI 2),(.t 64)])]) (.seq (.reg [] [kM 66 14,.s 67 (.bld [.i (.ofNat 0),.ns,.i (.ofNat 0)] (.cons 0 1 (kI 1)
  (.cons 1 1 (.t 66) (.cons 2 1 (.c (.i (.negSucc 0))) .nil)))),.n (.stn (.t 10) (.t 67) 3)]) .ret)) .skip))) .skip)) (.seq (.seq (.reg [83] [kM 68 0,kC 69 68,
  kO 70 69 4,kW 71 70 12,.s 72 (.call 98 [(.t 71)]),.s 73 (.cm .gt (.t 72) (kI 0)),kM 74 73,.gs 74 false 75 (.mv (.t 0)),.gs 74 false 76 (.ck (.t 75)),.gs
  74 false 77 (.off (.t 76) 4),.gs 74 false 78 (.ldn (.t 77) 12),.gs 74 false 79 (.mv (.t 2)),.gs 74 false 80 (.mv (.t 3)),.gs 74 false 81 (.call 249 [(.t
  78),(.t 79),(.t 80)]),.gs 74 false 82 (.not (.t 81)),.s 83 (.pick (.t 74) (.c (.b true)) (.t 82))]) (.cond (.t 83) (.seq (.reg [] [kM 84 0,kC 85 84,kO 86
  85 4,kO 87 86 11,kL 88 87,kM 89 1,kM 90 2,kM 91 3,.s 92 (.bld [.i (.ofNat 0),.i (.ofNat 0),.i (.ofNat 0),.i (.ofNat 0),.i (.ofNat 0),.i (.ofNat 0),
  .ns] (.cons 0 1 (.t 89) (.cons 1 1 (.t 90) (.cons 2 1 (.t 91) .nil)))),.s 93 (.call 347 [(.t 88),(.t 92)])]) (.seq (.reg [] [.s 94 (.call 229 [(kI 0)]),.n
  (.stn (.t 10) (.t 94) 3)]) .ret)) .skip)) (.seq (.reg [16,17] [kM 96 0,kC 97 96,kO 98 97 4,kW 99 98 12,kM 100 2,kM 101 3,.s 102 (.call 250 [(.t 99),(.t
  100),(.t 101)]),kM 95 102,kE 103 95 0,kE 104 95 1,kM 16 103,kM 17 104]) (.seq (.reg [] [kM 105 0,kM 106 16,kM 107 4,.s 108 (.call 251 [(.t 105),(.t
  106),(kI 2),(.t 107)])]) (.seq (.drw [18] [.mk 0 1 true (kM 109 0),.mk 1 3 true (kC 110 109),.mk 2 7 true (kO 111 110 4),.mk 3 15 true (kO 112 111 9),.mk
  4 31 true (kL 113 112),.mk 5 32 true (kM 114 11),.mk 6 96 true (.s 115 (.call 349 [(.t 114)])),.mk 7 255 false (.s 116 (.call 348 [(.t 113),(.t 115)])),
  .mk 8 511 true (kM 18 116)] [.mk 128 255 (.s 116 (.call 348 [(.t 113),(.t 115)]))]) (.seq (.reg [] [kM 117 0,kM 118 18,kM 119 4,.s 120 (.call 251 [(.t
  117),(.t 118),(kI 1),(.t 119)])]) (.seq (.reg [] [kM 121 11,kM 122 18,.s 123 (.call 350 [(.t 121),(.t 122)])]) (.seq (.reg [] [kM 124 16,kM 125 17,.s
  126 (.bld [.i (.ofNat 0),.ns,.i (.ofNat 0)] (.cons 0 1 (kI 1) (.cons 1 1 (.t 124) (.cons 2 1 (.t 125) .nil)))),.n (.stn (.t 10) (.t 126) 3)])
  .ret))))))))))))
theorem fq302 : FF 302 kf302 := cf (em := 9671408883026240935029791) Tryz.func302 (by kernel_rfl) (by kernel_rfl)
def kf303 : KFun := .mk 1 [.t 2] (.seq (.reg [2] [.s 2 (.mv (.c (.b false)))]) (.seq (.reg [2] [kM 3 0,kC 4 3,kO 5 4 4,kL 6 5,.s 7 (.cm .eq (.t 6) (kI 1)),kM 8 7,.gs 8 false 9
  (.mv (.t 0)),.gs 8 false 10 (.ck (.t 9)),.gs 8 false 11 (.off (.t 10) 4),.gs 8 false 12 (.ld (.t 11)),.gs 8 false 13 (.cm .eq (.t 12) (kI 2)),.s 14 (.pick
  (.t 8) (.c (.b true)) (.t 13)),kM 2 14]) .ret))
theorem fq303 : FF 303 kf303 := cf (em := 5) Tryz.func303 (by kernel_rfl) (by kernel_rfl)
def kf304 : KFun := .mk 3 [.t 6] (.seq (.reg [3,6] [.s 3 (.box (.t 0)),.s 6 (.mv (.c (.np)))]) (.seq (.reg [6] [kW 7 3 9,.s 8 (.call 124 [(.t 7)]),kM 9 1,kM 10 2,kM 11 1,.s
  12 (.bld [.i (.ofNat 0),.i (.ofNat 0),.i (.ofNat 0),.i (.ofNat 0),.i (.ofNat 0),.i (.ofNat 0),.i (.ofNat 0),.i (.ofNat 0),.ns,.i (.ofNat 0),.i
  (.ofNat 0),.b false,.i (.ofNat 0),.i (.ofNat 0),.i (.ofNat 0),.i (.ofNat 0),.i (.ofNat 0),.i (.ofNat 0),.i (.ofNat 0),.i (.ofNat 0),.b false,.i
  (.ofNat 0),.i (.ofNat 0)] (.cons 0 9 (.t 8) (.cons 9 1 (.t 9) (.cons 10 1 (.t 10) (.cons 13 1 (.t 11) (.cons 19 1 (.c (.i (.negSucc 0))) .nil)))))),.s 13
  (.box (.t 12)),kM 6 13]) .ret))
theorem fq304 : FF 304 kf304 := cf (em := 79) Tryz.func304 (by kernel_rfl) (by kernel_rfl)
def kf306 : KFun := .mk 1 [.t 2] (.seq (.reg [2] [.s 2 (.mv (.c (.b false)))]) (.seq (.reg [2] [kM 3 0,kC 4 3,kO 5 4 4,kL 6 5,.s 7 (.cm .eq (.t 6) (kI 1)),kM 8 7,.gs 8 false 9
  (.mv (.t 0)),.gs 8 false 10 (.ck (.t 9)),.gs 8 false 11 (.off (.t 10) 4),.gs 8 false 12 (.ld (.t 11)),.gs 8 false 13 (.cm .eq (.t 12) (kI 2)),.s 14 (.pick
  (.t 8) (.c (.b true)) (.t 13)),kM 15 14,.gs 15 false 16 (.mv (.t 0)),.gs 15 false 17 (.ck (.t 16)),.gs 15 false 18 (.off (.t 17) 4),.gs 15 false 19 (.ld
  (.t 18)),.gs 15 false 20 (.cm .eq (.t 19) (kI 3)),.s 21 (.pick (.t 15) (.c (.b true)) (.t 20)),kM 2 21]) .ret))
theorem fq306 : FF 306 kf306 := cf (em := 5) Tryz.func306 (by kernel_rfl) (by kernel_rfl)
def kf308 : KFun := .mk 2 [.t 4] (.seq (.reg [4] [.s 4 (.mv (.c (.b false)))]) (.scope (.seq (.reg [5] [.s 5 (.mv (.c (.z 0 0)))]) (.seq (.reg [6,7] [.s 6 (.mv (kI 0)),.s 7 (.mv
  (.c (.b true)))]) (.seq (.seq (.reg [12] [kM 8 0,kC 9 8,kO 10 9 12,kL 11 10,.s 12 (.cm .eq (.t 11) (kI 1))]) (.cond (.t 12) (.goto 0) .skip)) (.seq (.seq
  (.reg [5,7] [kM 14 0,kM 15 1,kM 16 0,kC 17 16,kO 18 17 9,kL 19 18,.s 20 (.call 351 [(.t 14),(.t 15),(.t 19),(kI 1)]),kM 13 20,kE 21 13 0,kE 22 13
  1,kM 5 21,kM 7 22]) (.seq (.reg [24] [kM 23 7,.s 24 (.not (.t 23))]) (.cond (.t 24) (.goto 1) .skip))) (.seq (.seq (.reg [4] [kM 25 0,kM 26 5,.s 27 (.call
  352 [(.t 25),(.t 26)]),.s 28 (.not (.t 27)),kM 4 28]) .ret) (.seq (.label 0) (.seq (.seq (.reg [5,7] [kM 30 0,kM 31 1,kM 32 0,kC 33 32,kO 34 33 13,kL
  35 34,.s 36 (.call 351 [(.t 30),(.t 31),(.t 35),(kI 0)]),kM 29 36,kE 37 29 0,kE 38 29 1,kM 5 37,kM 7 38]) (.seq (.reg [40] [kM 39 7,.s 40 (.not (.t
  39))]) (.cond (.t 40) (.goto 1) .skip))) (.seq (.seq (.reg [6,7] [kM 42 5,.s 43 (.call 150 [(.t 42)]),kM 41 43,kE 44 41 0,kE 45 41 1,kM 6 44,kM 7 45])
  (.seq (.reg [56] [kM 46 7,.s 47 (.not (.t 46)),kM 48 47,.gs 48 false 49 (.mv (.t 6)),.gs 48 false 50 (.mv (.t 0)),.gs 48 false 51 (.ck (.t 50)),.gs 48
  false 52 (.off (.t 51) 0),.gs 48 false 53 (.off (.t 52) 0),.gs 48 false 54 (.ld (.t 53)),.gs 48 false 55 (.cm .ge (.t 49) (.t 54)),.s 56 (.pick (.t 48) (.c
  (.b true)) (.t 55))]) (.cond (.t 56) (.goto 1) .skip))) (.seq (.reg [] [kM 57 0,kM 58 6,kC 59 57,kO 60 59 13,.n (.st (.t 60) (.t 58))]) (.seq (.seq (.reg
  [] [kM 61 0,kC 62 61,kO 63 62 14,kL 64 63,.s 65 (.ar .sub (.t 64) (kI 1)),kC 66 61,kO 67 66 14,.n (.st (.t 67) (.t 65))]) (.seq (.reg [72] [kM 68 0,kC
  69 68,kO 70 69 14,kL 71 70,.s 72 (.cm .eq (.t 71) (kI 0))]) (.cond (.t 72) (.seq (.reg [4] [kM 73 0,kM 74 6,kM 75 0,kC 76 75,kO 77 76 15,kL 78 77,.s
  79 (.call 353 [(.t 73),(.t 74),(.t 78)]),kM 4 79]) .ret) .skip))) (.seq (.seq (.reg [4] [.s 4 (.mv (.c (.b false)))]) .ret) (.seq (.label 1) (.seq (.reg [4]
  [kM 80 0,.s 81 (.call 354 [(.t 80),(kI 10)]),kM 4 81]) .ret)))))))))))))))
theorem fq308 : FF 308 kf308 := cf (em := 4722438541563211550963) Tryz.func308 (by kernel_rfl) (by kernel_rfl)
def kf310 : KFun := .mk 2 [.t 4] (.seq (.reg [4] [.s 4 (.mv (.c (.b false)))]) (.seq (.seq (.reg [18] [kM 5 0,kM 6 1,.s 7 (.call 78 [(.t 5),(.t 6)]),.s 8 (.cm .ne (.t 7) (kI
  2)),kM 9 8,.gs 9 false 10 (.mv (.t 0)),.gs 9 false 11 (.ck (.t 10)),.gs 9 false 12 (.off (.t 11) 0),.gs 9 false 13 (.ld (.t 12)),.gs 9 false 14 (.mv (.t
  1)),.gs 9 false 15 (.ixp (.t 13) (.t 14) 3),.gs 9 false 16 (.off (.t 15) 1),.gs 9 false 17 (.ld (.t 16)),.s 18 (.pick (.t 9) (.c (.b true)) (.t 17))])
  (.cond (.t 18) (.seq (.reg [4] [.s 4 (.mv (.c (.b false)))]) .ret) .skip)) (.seq (.reg [] [kM 19 0,kC 20 19,kO 21 20 0,kL 22 21,kM 23 1,.s 24 (.ixp (.t
  22) (.t 23) 3),kO 25 24 1,.n (.st (.t 25) (.c (.b true)))]) (.seq (.reg [4] [.s 4 (.mv (.c (.b true)))]) .ret))))
theorem fq310 : FF 310 kf310 := cf (em := 262163) Tryz.func310 (by kernel_rfl) (by kernel_rfl)
def kf311 : KFun := .mk 2 [.cn 4 7,.t 5] (.seq (.reg [4,5] [.s 4 (.new [.i (.ofNat 0),.i (.ofNat 0),.i (.ofNat 0),.i (.ofNat 0),.i (.ofNat 0),.i (.ofNat 0),.ns]),.s 5 (.mv
  (.c (.b false)))]) (.seq (.seq (.reg [8] [kM 7 1,.s 8 (.cm .lt (.t 7) (kI 0))]) (.cond (.t 8) (.seq (.reg [5] [.s 9 (.bld [.i (.ofNat 0),.i (.ofNat 0),.i
  (.ofNat 0),.i (.ofNat 0),.i (.ofNat 0),.i (.ofNat 0),.ns] .nil),.n (.stn (.t 4) (.t 9) 7),.s 5 (.mv (.c (.b false)))]) .ret) .skip)) (.seq (.reg [6] [kM
  10 0,kC 11 10,kO 12 11 0,kL 13 12,kM 14 1,.s 15 (.ixp (.t 13) (.t 14) 8),kO 16 15 0,kW 17 16 7,.s 6 (.new [.i (.ofNat 0),.i (.ofNat 0),.i (.ofNat 0),
  .i (.ofNat 0),.i (.ofNat 0),.i (.ofNat 0),.ns]),.n (.stn (.t 6) (.t 17) 7)]) (.seq (.reg [] [kO 18 6 6,kL 19 18,.s 20 (.call 334 [(.t 19)]),kO 21 6 6,
  .n (.st (.t 21) (.t 20))]) (.seq (.reg [5] [kW 22 6 7,.n (.stn (.t 4) (.t 22) 7),.s 5 (.mv (.c (.b true)))]) .ret)))))
theorem fq311 : FF 311 kf311 := cf (em := 371) Tryz.func311 (by kernel_rfl) (by kernel_rfl)
def kf312 : KFun := .mk 2 [.t 4] (.seq (.reg [3,4] [.s 3 (.box (.t 1)),.s 4 (.mv (kI 0))]) (.seq (.reg [4] [kM 5 0,kC 6 5,kO 7 6 0,kL 8 7,.s 9 (.q (.mkf 357 [] [(.t 3)])),.s
  10 (.call 356 [(.t 8),(.t 9)]),kM 4 10]) .ret))
theorem fq312 : FF 312 kf312 := cf (em := 27) Tryz.func312 (by kernel_rfl) (by kernel_rfl)
def kf313 : KFun := .mk 3 [.t 6] (.seq (.reg [6] [.s 6 (.mv (.c (.ns)))]) (.seq (.reg [] [kM 8 0,kM 9 1,kM 10 2,kM 11 0,.s 12 (.len (.t 11)),.s 13 (.q (.sl3 (.t 8) 8 (.t 9) (.t
  10) (.t 12)))]) (.seq (.seq (.reg [16] [kM 14 1,kM 15 2,.s 16 (.cm .eq (.t 14) (.t 15))]) (.cond (.t 16) (.seq (.reg [6] [kM 17 0,kM 6 17]) .ret) .skip))
  (.seq (.reg [7] [kM 18 0,.s 19 (.len (.t 18)),kM 7 19]) (.seq (.drw [0] [.mk 0 1 true (kM 20 0),.mk 1 2 true (kM 21 1),.mk 2 7 true (.s 22 (.q (.sli (.t
  20) 8 .no (.ok (.t 21))))),.mk 3 8 true (kM 23 0),.mk 4 16 true (kM 24 2),.mk 5 56 true (.s 25 (.q (.sli (.t 23) 8 (.ok (.t 24)) .no))),.mk 6 127 false (.s
  26 (.app 8 80 (.t 22) (.t 25))),.mk 7 255 true (kM 0 26)] [.mk 64 127 (.s 26 (.app 8 80 (.t 22) (.t 25)))]) (.seq (.reg [] [kM 27 0,kM 28 0,.s 29 (.len (.t
  28)),kM 30 7,.s 31 (.q (.sli (.t 27) 8 (.ok (.t 29)) (.ok (.t 30)))),.n (.q (.clr [.i (.ofNat 0),.i (.ofNat 0),.i (.ofNat 0),.i (.ofNat 0),.i (.ofNat
  0),.i (.ofNat 0),.ns,.b false] (.t 31)))]) (.seq (.reg [6] [kM 32 0,kM 6 32]) .ret)))))))
theorem fq313 : FF 313 kf313 := cf (em := 65735) Tryz.func313 (by kernel_rfl) (by kernel_rfl)
def kf314 : KFun := .mk 5 [.cn 10 2,.t 11] (.seq (.reg [5,10,11] [.s 5 (.box (.t 0)),.s 10 (.new [.b false,.ns]),.s 11 (.mv (kI 0))]) (.scope (.seq (.reg [12,13] [kW 18 5 9,
  kM 19 4,.s 20 (.call 358 [(.t 18),(.t 19)]),kM 17 20,kE 21 17 0,kE 22 17 1,kM 12 21,kM 13 22]) (.seq (.reg [14,15] [kW 24 5 9,kM 25 1,.s 26 (.call
  173 [(.t 24),(.t 25)]),kM 23 26,kE 27 23 0,kE 28 23 1,.s 14 (.new [.b false,.ns]),.n (.stn (.t 14) (.t 27) 2),kM 15 28]) (.seq (.reg [16] [.s 16 (.mv
  (kI 0))]) (.seq (.seq (.reg [34] [kW 29 5 9,.s 30 (.call 115 [(.t 29)]),.s 31 (.cm .ne (.t 30) (kI 0)),kM 32 31,.gs 32 false 33 (.mv (.t 12)),.s 34 (.pick
  (.t 32) (.c (.b true)) (.t 33))]) (.cond (.t 34) (.seq (.reg [16] [.s 16 (.mv (kI 1))]) (.goto 0)) .skip)) (.seq (.seq (.reg [42] [kM 35 15,.s 36 (.not (.t
  35)),kM 37 36,.gs 37 false 38 (.off (.t 14) 0),.gs 37 false 39 (.ld (.t 38)),.gs 37 false 40 (.mv (.t 3)),.gs 37 false 41 (.bne (.t 39) (.t 40)),.s 42
  (.pick (.t 37) (.c (.b true)) (.t 41))]) (.cond (.t 42) (.seq (.reg [16] [.s 16 (.mv (kI 4))]) (.goto 0)) .skip)) (.seq (.seq (.reg [46] [kW 43 14 2,kM 44 2,
  .s 45 (.call 259 [(.t 43),(.t 44)]),.s 46 (.cm .lt (.t 45) (kI 0))]) (.cond (.t 46) (.seq (.reg [16] [.s 16 (.mv (kI 5))]) (.goto 0)) .skip)) (.seq (.seq
  (.reg [55] [kM 47 4,.s 48 (.len (.t 47)),kW 49 14 2,kM 50 2,.s 51 (.call 259 [(.t 49),(.t 50)]),.s 52 (.cm .ne (.t 48) (.t 51)),kM 53 52,.gs 53 false
  54 (.mv (.t 13)),.s 55 (.pick (.t 53) (.c (.b true)) (.t 54))]) (.cond (.t 55) (.reg [16] [.s 16 (.mv (kI 2))]) .skip)) (.seq (.label 0) (.seq (.reg [11] [kW
  56 14 2,kM 57 16,.n (.stn (.t 10) (.t 56) 2),kM 11 57]) .ret)))))))))))
theorem fq314 : FF 314 kf314 := cf (em := 36103580989652031) Tryz.func314 (by kernel_rfl) (by kernel_rfl)
def kf315 : KFun := .mk 2 [.t 4] (.seq (.reg [4] [.s 4 (.mv (.c (.z 0 0)))]) (.seq (.seq (.reg [18] [kM 5 0,.s 6 (.cm .lt (.t 5) (kI 0)),kM 7 6,.gs 7 false 8 (.mv (.t 0)),.gs 7
  false 9 (.cm .gt (.t 8) (kI 1099511627776)),.s 10 (.pick (.t 7) (.c (.b true)) (.t 9)),kM 11 10,.gs 11 false 12 (.mv (.t 1)),.gs 11 false 13 (.cm .lt (.t
  12) (kI 0)),.s 14 (.pick (.t 11) (.c (.b true)) (.t 13)),kM 15 14,.gs 15 false 16 (.mv (.t 1)),.gs 15 false 17 (.cm .gt (.t 16) (kI 1099511627776)),.s 18
  (.pick (.t 15) (.c (.b true)) (.t 17))]) (.cond (.t 18) (.seq (.reg [4] [.s 4 (.mv (.c (.z 0 0)))]) .ret) .skip)) (.seq (.reg [4] [kM 19 0,.s 20 (.q (.cif (.t
  19))),kM 21 1,.s 22 (.q (.cif (.t 21))),.s 23 (.q (.cplx (.t 20) (.t 22))),kM 4 23]) .ret)))
theorem fq315 : FF 315 kf315 := cf (em := 262163) Tryz.func315 (by kernel_rfl) (by kernel_rfl)
def kf316 : KFun := .mk 1 [.t 2] (.seq (.reg [2] [.s 2 (.mv (.c (.b false)))]) (.seq (.seq (.reg [3] [.s 3 (.mv (kI 1))]) (.blk 0 (.loop (.seq (.seq (.reg [7] [kM 4 3,kM 5 0,.s 6
  (.len (.t 5)),.s 7 (.cm .lt (.t 4) (.t 6))]) (.cond (.t 7) .skip (.exit 0))) (.seq (.blk 1 (.seq (.drw [28] [.mk 0 1 true (kM 10 0),.mk 1 2 true (kM 11 3),
  .mk 2 6 true (.s 12 (.ar .sub (.t 11) (kI 1))),.mk 3 15 true (.s 13 (.ixp (.t 10) (.t 12) 1)),.mk 4 31 true (kL 14 13),.mk 5 63 true (.s 15 (.cm .eq (.t 14)
  (kI 9223372036854775807))),.mk 6 127 true (kM 16 15),.mk 7 255 true (.gs 16 false 17 (.mv (.t 0))),.mk 8 383 true (.gs 16 false 18 (.mv (.t 3))),.mk 9 1023
  true (.gs 16 false 19 (.ixp (.t 17) (.t 18) 1)),.mk 10 2047 true (.gs 16 false 20 (.ld (.t 19))),.mk 11 2175 true (.gs 16 false 21 (.mv (.t 0))),.mk 12 4223
  true (.gs 16 false 22 (.mv (.t 3))),.mk 13 12415 true (.gs 16 false 23 (.ar .sub (.t 22) (kI 1))),.mk 14 30847 true (.gs 16 false 24 (.ixp (.t 21) (.t 23)
  1)),.mk 15 63615 true (.gs 16 false 25 (.ld (.t 24))),.mk 16 129151 true (.gs 16 false 26 (.ar .add (.t 25) (kI 1))),.mk 17 262143 true (.gs 16 false 27
  (.cm .ne (.t 20) (.t 26))),.mk 18 524287 true (.s 28 (.pick (.t 16) (.c (.b true)) (.t 27)))] []) (.cond (.t 28) (.seq (.reg [2] [.s 2 (.mv (.c (.b false)))])
  .ret) .skip))) (.reg [3] [kM 8 3,.s 9 (.ar .add (.t 8) (kI 1)),kM 3 9])))))) (.seq (.reg [2] [.s 2 (.mv (.c (.b true)))]) .ret)))
theorem fq316 : FF 316 kf316 := cf (em := 268435597) Tryz.func316 (by kernel_rfl) (by kernel_rfl)
def kf317 : KFun := .mk 3 [] (.seq (.reg [3] [.s 3 (.box (.t 0))]) (.seq (.reg [12,13,14] [kO 11 3 1,kL 12 11,.s 13 (.len (.t 12)),.s 14 (.mv (kI 0))]) (.blk 0 (.loop (.seq
  (.reg [15] [.s 15 (.cm .lt (.t 14) (.t 13))]) (.seq (.cond (.t 15) .skip (.exit 0)) (.seq (.blk 1 (.seq (.reg [6,7] [kM 16 14,.s 17 (.ixp (.t 12) (.t 14) 1),
  kL 18 17,kM 6 16,kM 7 18]) (.seq (.reg [8,9,10] [kW 20 3 2,kM 21 6,.s 22 (.call 260 [(.t 20),(.t 21)]),kM 19 22,kE 23 19 0,kE 24 19 1,kE 25 19 2,kM
  8 23,kM 9 24,kM 10 25]) (.seq (.reg [31] [kM 26 10,kM 27 26,.gs 27 true 28 (.mv (.t 8)),.gs 27 true 29 (.mv (.t 1)),.gs 27 true 30 (.cm .eq (.t 28) (.t
  29)),.s 31 (.pick (.t 27) (.t 30) (.c (.b false)))]) (.cond (.t 31) (.drw [] [.mk 0 1 true (kM 32 2),.mk 1 2 true (kM 33 9),.mk 2 4 true (kM 34 7),.mk 3 12
  true (.s 35 (.call 323 [(.t 34)])),.mk 4 17 true (kC 36 32),.mk 5 63 true (.s 37 (.q (.iar (.t 36) (.t 33) 1 8))),.mk 6 127 false (.n (.st (.t 37) (.t
  35)))] [.mk 64 127 (.n (.st (.t 37) (.t 35)))]) .skip))))) (.reg [14] [.s 38 (.ar .add (.t 14) (kI 1)),kM 14 38]))))))))
theorem fq317 : FF 317 kf317 := cf (em := 2147547087) Tryz.func317 (by kernel_rfl) (by kernel_rfl)
def kf318 : KFun := .mk 4 [.t 8] (.seq (.reg [4,7,8] [.s 4 (.box (.t 0)),.s 7 (.box (.t 3)),.s 8 (.mv (.c (.ns)))]) (.seq (.seq (.reg [13,14] [kW 13 7 8,.s 14 (.mv (kI 0))])
  (.blk 0 (.loop (.seq (.reg [15] [.s 15 (.cm .lt (.t 14) (kI 8))]) (.seq (.cond (.t 15) .skip (.exit 0)) (.seq (.blk 1 (.seq (.reg [9,10] [kM 16 14,.s 17 (.q
  (.ixa (.t 13) (.t 14) 8)),kM 9 16,kM 10 17]) (.seq (.reg [11] [kW 19 4 9,kM 20 2,kM 21 9,.s 22 (.call 254 [(.t 19),(.t 20),(.t 21)]),kM 18 22,kE 23 18
  0,kE 24 18 1,kM 11 23,kM 12 24]) (.reg [1] [kM 25 1,kM 26 11,kM 27 10,.s 28 (.bld [.i (.ofNat 0),.z 0 0] (.cons 0 1 (.t 26) (.cons 1 1 (.t 27) .nil))),
  .s 29 (.bsl [.i (.ofNat 0),.z 0 0] 1 (.cons 0 2 (.t 28) .nil)),.s 30 (.app 2 24 (.t 25) (.t 29)),kM 1 30])))) (.reg [14] [.s 31 (.ar .add (.t 14) (kI 1)),
  kM 14 31]))))))) (.seq (.reg [8] [kM 32 1,kM 8 32]) .ret)))
theorem fq318 : FF 318 kf318 := cf (em := 61343) Tryz.func318 (by kernel_rfl) (by kernel_rfl)
def kf319 : KFun := .mk 2 [.t 4] (.seq (.reg [4] [.s 4 (.mv (kI 0))]) (.seq (.blk 0 (.seq (.reg [5] [kM 6 0,.s 7 (.cm .le (.t 6) (kI 4)),kM 5 7]) (.cond (.t 5) (.seq (.reg [4] [.s
  4 (.mv (kI 0))]) .ret) (.seq (.reg [8] [kM 9 1,.s 10 (.call 316 [(.t 9)]),kM 8 10]) (.cond (.t 8) (.seq (.reg [4] [.s 4 (.mv (kI 2))]) .ret) .skip))))) (.seq
  (.reg [4] [.s 4 (.mv (kI 1))]) .ret)))
theorem fq319 : FF 319 kf319 := cf (em := 307) Tryz.func319 (by kernel_rfl) (by kernel_rfl)
def kf320 : KFun := .mk 1 [.t 2] (.seq (.reg [2] [.s 2 (.mv (kI 0))]) (.seq (.seq (.reg [8] [kM 3 0,.s 4 (.cm .lt (.t 3) (kI 1)),kM 5 4,.gs 5 false 6 (.mv (.t 0)),.gs 5 false 7
  (.cm .gt (.t 6) (kI 512)),.s 8 (.pick (.t 5) (.c (.b true)) (.t 7))]) (.cond (.t 8) (.seq (.reg [2] [.s 2 (.mv (kI 0))]) .ret) .skip)) (.seq (.reg [2] [kM 9
  0,.s 10 (.call 335 [(.t 9),(kI 8)]),kM 2 10]) .ret)))
theorem fq320 : FF 320 kf320 := cf (em := 261) Tryz.func320 (by kernel_rfl) (by kernel_rfl)
def kf322 : KFun := .mk 5 [.cn 10 8] (.seq (.reg [10] [.s 10 (.new [.z 0 0,.z 0 0,.z 0 0,.z 0 0,.z 0 0,.z 0 0,.z 0 0,.z 0 0])]) (.seq (.reg [11] [.s 13 (.call 123 []),kM 14
  0,.s 15 (.call 315 [(.t 14),(kI 0)]),kM 16 1,.s 17 (.call 226 [(.t 16)]),kM 18 2,.s 19 (.call 226 [(.t 18)]),.s 20 (.bld [.z 0 0,.z 0 0,.z 0 0,.z 0
  0,.z 0 0,.z 0 0,.z 0 0,.z 0 0] (.cons 0 1 (.t 13) (.cons 1 1 (.t 15) (.cons 2 1 (.t 17) (.cons 3 1 (.t 19) .nil))))),.s 11 (.new [.z 0 0,.z 0 0,.z 0 0,
  .z 0 0,.z 0 0,.z 0 0,.z 0 0,.z 0 0]),.n (.stn (.t 11) (.t 20) 8)]) (.seq (.seq (.reg [21] [kM 21 2]) (.blk 0 (.seq (.reg [22] [.s 23 (.cm .eq (.t 21) (kI
  0)),kM 22 23]) (.cond (.t 22) (.seq (.reg [24] [.s 24 (.mv (kI 0))]) (.blk 1 (.loop (.seq (.reg [25] [.s 25 (.cm .lt (.t 24) (kI 4))]) (.seq (.cond (.t 25)
  .skip (.exit 1)) (.seq (.blk 2 (.seq (.reg [12] [kM 26 24,kM 12 26]) (.seq (.reg [] [kM 27 12,.s 28 (.ar .add (kI 4) (.t 27)),.s 29 (.call 123 []),.s 30
  (.q (.iar (.t 11) (.t 28) 1 8)),.n (.st (.t 30) (.t 29))]) (.seq (.reg [35] [kM 31 12,.s 32 (.ar .add (.t 31) (kI 1)),kM 33 3,.s 34 (.len (.t 33)),.s 35
  (.cm .lt (.t 32) (.t 34))]) (.cond (.t 35) (.reg [] [kM 36 12,.s 37 (.ar .add (kI 4) (.t 36)),kM 38 3,kM 39 12,.s 40 (.ar .add (.t 39) (kI 1)),.s 41 (.ixp
  (.t 38) (.t 40) 1),kL 42 41,.s 43 (.call 223 [(.t 42)]),.s 44 (.q (.iar (.t 11) (.t 37) 1 8)),.n (.st (.t 44) (.t 43))]) .skip))))) (.reg [24] [.s 45 (.ar
  .add (.t 24) (kI 1)),kM 24 45]))))))) (.seq (.reg [46] [.s 47 (.cm .eq (.t 21) (kI 1)),kM 46 47]) (.cond (.t 46) (.reg [] [kM 48 4,.s 49 (.call 226 [(.t
  48)]),.s 50 (.q (.iar (.t 11) (kI 4) 1 8)),.n (.st (.t 50) (.t 49))]) (.seq (.reg [51] [.s 52 (.cm .eq (.t 21) (kI 2)),kM 51 52]) (.cond (.t 51) (.reg []
  [kM 53 3,.s 54 (.ixp (.t 53) (kI 1) 1),kL 55 54,.s 56 (.call 223 [(.t 55)]),.s 57 (.q (.iar (.t 11) (kI 4) 1 8)),.n (.st (.t 57) (.t 56))]) .skip))))))))
  (.seq (.reg [] [kW 58 11 8,.n (.stn (.t 10) (.t 58) 8)]) .ret))))
theorem fq322 : FF 322 kf322 := cf (em := 2322202974231583) Tryz.func322 (by kernel_rfl) (by kernel_rfl)
def kf323 : KFun := .mk 1 [.t 2] (.seq (.reg [2] [.s 2 (.mv (.c (.z 0 0)))]) (.seq (.seq (.reg [3] [kM 3 0]) (.cond (.t 3) (.seq (.reg [2] [.s 4 (.call 123 []),kM 2 4]) .ret)
  .skip)) (.seq (.reg [2] [.s 5 (.call 226 [(kI 0)]),kM 2 5]) .ret)))
theorem fq323 : FF 323 kf323 := cf (em := 13) Tryz.func323 (by kernel_rfl) (by kernel_rfl)
def kf324 : KFun := .mk 1 [.t 2,.t 3] (.seq (.reg [2,3] [.s 2 (.mv (.c (.k .u64 (.ofNat 0)))),.s 3 (.mv (.c (.k .u64 (.ofNat 0))))]) (.seq (.reg [2,3] [kM 4 0,.s 5 (.re (.t
  4)),.s 6 (.call 359 [(.t 5)]),kM 7 0,.s 8 (.im (.t 7)),.s 9 (.call 359 [(.t 8)]),kM 2 6,kM 3 9]) .ret))
theorem fq324 : FF 324 kf324 := cf (em := 13) Tryz.func324 (by kernel_rfl) (by kernel_rfl)
def kf325 : KFun := .mk 3 [.t 6] (.seq (.reg [6] [.s 6 (.mv (.c (.b false)))]) (.seq (.blk 0 (.seq (.reg [9] [kM 10 0,kC 11 10,kO 12 11 11,kL 13 12,.s 14 (.cm .eq (.t 13) (kI
  0)),kM 9 14]) (.cond (.t 9) (.seq (.reg [7,8] [kM 16 0,kM 17 1,kM 18 0,kC 19 18,kO 20 19 9,kL 21 20,.s 22 (.call 360 [(.t 16),(.t 17),(.t 21),(kI
  1)]),kM 15 22,kE 23 15 0,kE 24 15 1,kM 7 23,kM 8 24]) (.seq (.reg [6] [kM 25 8,kM 26 25,.gs 26 true 27 (.mv (.t 0)),.gs 26 true 28 (.mv (.t 7)),.gs 26
  true 29 (.call 361 [(.t 27),(.t 28)]),.s 30 (.pick (.t 26) (.t 29) (.c (.b false))),kM 6 30]) .ret)) (.seq (.reg [31] [kM 32 0,kC 33 32,kO 34 33 11,kL 35
  34,.s 36 (.cm .ge (.t 35) (kI 5)),kM 31 36]) (.cond (.t 31) (.seq (.reg [6] [kM 37 0,kM 38 1,.s 39 (.call 362 [(.t 37),(.t 38)]),kM 6 39]) .ret)
  .skip))))) (.seq (.reg [6] [kM 40 0,kM 41 1,kM 42 2,.s 43 (.call 363 [(.t 40),(.t 41),(.t 42)]),kM 6 43]) .ret)))
theorem fq325 : FF 325 kf325 := cf (em := 2147484615) Tryz.func325 (by kernel_rfl) (by kernel_rfl)
def kf326 : KFun := .mk 3 [.t 6] (.seq (.reg [6] [.s 6 (.mv (.c (.b false)))]) (.scope (.seq (.reg [7] [.s 7 (.mv (.c (.z 0 0)))]) (.seq (.reg [8] [.s 8 (.mv (kI 0))]) (.seq (.reg
  [9,10] [.s 9 (.mv (kI 0)),.s 10 (.mv (.c (.b true)))]) (.seq (.seq (.reg [14] [kM 11 0,kC 12 11,kO 13 12 12,kL 14 13]) (.blk 0 (.seq (.reg [15] [.s 16
  (.cm .eq (.t 14) (kI 1)),kM 15 16]) (.cond (.t 15) (.goto 0) (.seq (.reg [17] [.s 18 (.cm .eq (.t 14) (kI 2)),kM 17 18]) (.cond (.t 17) (.goto 1) (.seq (.reg
  [19] [.s 20 (.cm .eq (.t 14) (kI 3)),kM 19 20]) (.cond (.t 19) (.goto 2) .skip)))))))) (.seq (.seq (.reg [25] [kM 21 0,kC 22 21,kO 23 22 10,kL 24 23,.s 25
  (.cm .eq (.t 24) (kI 0))]) (.cond (.t 25) (.seq (.reg [] [kM 26 0,kC 27 26,kO 28 27 12,.n (.st (.t 28) (kI 11))]) (.seq (.reg [6] [.s 6 (.mv (.c (.b
  true)))]) .ret)) .skip)) (.seq (.seq (.reg [7,10] [kM 30 0,kM 31 1,kM 32 0,kC 33 32,kO 34 33 13,kL 35 34,.s 36 (.call 364 [(.t 30),(.t 31),(.t 35)]),
  kM 29 36,kE 37 29 0,kE 38 29 1,kM 7 37,kM 10 38]) (.seq (.reg [40] [kM 39 10,.s 40 (.not (.t 39))]) (.cond (.t 40) (.seq (.reg [6] [.s 6 (.mv (.c (.b
  false)))]) .ret) .skip))) (.seq (.reg [10] [kM 42 0,kM 43 7,.s 44 (.call 150 [(.t 43)]),kM 41 44,kE 45 41 0,kE 46 41 1,kC 47 42,kO 48 47 15,.n (.st (.t
  48) (.t 45)),kM 10 46]) (.seq (.reg [] [kM 49 0,kC 50 49,kO 51 50 12,.n (.st (.t 51) (kI 1))]) (.seq (.seq (.drw [6] [.mk 0 1 true (kM 52 10),.mk 1 3 true
  (kM 53 52),.mk 2 7 true (.gs 53 true 54 (.mv (.t 0))),.mk 3 15 true (.gs 53 true 55 (.ck (.t 54))),.mk 4 31 true (.gs 53 true 56 (.off (.t 55) 15)),.mk 5
  63 true (.gs 53 true 57 (.ld (.t 56))),.mk 6 67 true (.gs 53 true 58 (.mv (.t 0))),.mk 7 195 true (.gs 53 true 59 (.ck (.t 58))),.mk 8 451 true (.gs 53 true
  60 (.off (.t 59) 0)),.mk 9 963 true (.gs 53 true 61 (.off (.t 60) 0)),.mk 10 1987 true (.gs 53 true 62 (.ld (.t 61))),.mk 11 4095 true (.gs 53 true 63 (.cm
  .lt (.t 57) (.t 62))),.mk 12 8191 true (.s 64 (.pick (.t 53) (.t 63) (.c (.b false)))),.mk 13 16383 true (kM 6 64)] []) .ret) (.seq (.label 0) (.seq (.seq
  (.reg [7,10] [kM 66 0,kM 67 1,kM 68 0,kC 69 68,kO 70 69 13,kL 71 70,.s 72 (.ar .add (.t 71) (kI 1)),.s 73 (.call 364 [(.t 66),(.t 67),(.t 72)]),kM
  65 73,kE 74 65 0,kE 75 65 1,kM 7 74,kM 10 75]) (.seq (.reg [77] [kM 76 10,.s 77 (.not (.t 76))]) (.cond (.t 77) (.seq (.reg [6] [.s 6 (.mv (.c (.b
  false)))]) .ret) .skip))) (.seq (.reg [10] [kM 79 0,kM 80 7,.s 81 (.call 225 [(.t 80)]),kM 78 81,kE 82 78 0,kE 83 78 1,kC 84 79,kO 85 84 16,.n (.st (.t
  85) (.t 82)),kM 10 83]) (.seq (.reg [] [kM 86 0,kC 87 86,kO 88 87 12,.n (.st (.t 88) (kI 2))]) (.seq (.seq (.drw [6] [.mk 0 1 true (kM 89 10),.mk 1 3 true
  (kM 90 89),.mk 2 7 true (.gs 90 true 91 (.mv (.t 0))),.mk 3 15 true (.gs 90 true 92 (.ck (.t 91))),.mk 4 31 true (.gs 90 true 93 (.off (.t 92) 16)),.mk 5
  63 true (.gs 90 true 94 (.ld (.t 93))),.mk 6 127 true (.gs 90 true 95 (.cm .ge (.t 94) (kI 0))),.mk 7 255 true (.s 96 (.pick (.t 90) (.t 95) (.c (.b
  false)))),.mk 8 511 true (kM 97 96),.mk 9 1023 true (.gs 97 true 98 (.mv (.t 0))),.mk 10 2047 true (.gs 97 true 99 (.ck (.t 98))),.mk 11 4095 true (.gs 97
  true 100 (.off (.t 99) 16)),.mk 12 8191 true (.gs 97 true 101 (.ld (.t 100))),.mk 13 8703 true (.gs 97 true 102 (.mv (.t 0))),.mk 14 25087 true (.gs 97 true
  103 (.ck (.t 102))),.mk 15 57855 true (.gs 97 true 104 (.off (.t 103) 10)),.mk 16 123391 true (.gs 97 true 105 (.ld (.t 104))),.mk 17 131583 true (.gs 97
  true 106 (.mv (.t 0))),.mk 18 393727 true (.gs 97 true 107 (.ck (.t 106))),.mk 19 918015 true (.gs 97 true 108 (.off (.t 107) 13)),.mk 20 1966591 true (.gs
  97 true 109 (.ld (.t 108))),.mk 21 4186623 true (.gs 97 true 110 (.ar .sub (.t 105) (.t 109))),.mk 22 8380927 true (.gs 97 true 111 (.ar .sub (.t 110) (kI
  2))),.mk 23 16777215 true (.gs 97 true 112 (.cm .le (.t 101) (.t 111))),.mk 24 33554431 true (.s 113 (.pick (.t 97) (.t 112) (.c (.b false)))),.mk 25
  67108863 true (kM 6 113)] []) .ret) (.seq (.label 1) (.seq (.reg [] [kM 114 0,kC 115 114,kO 116 115 12,.n (.st (.t 116) (kI 3))]) (.seq (.seq (.drw [127]
  [.mk 0 1 true (kM 117 2),.mk 1 2 true (kM 118 0),.mk 2 6 true (kC 119 118),.mk 3 14 true (kO 120 119 15),.mk 4 30 true (kL 121 120),.mk 5 32 true (kM 122
  0),.mk 6 96 true (kC 123 122),.mk 7 224 true (kO 124 123 11),.mk 8 480 true (kL 125 124),.mk 9 1023 false (.s 126 (.call 156 [(.t 117),(.t 121),(.t
  125)])),.mk 10 2047 true (.s 127 (.not (.t 126)))] [.mk 512 1023 (.s 126 (.call 156 [(.t 117),(.t 121),(.t 125)]))]) (.cond (.t 127) (.reg [] [kM 128 0,kC
  129 128,kO 130 129 12,.n (.st (.t 130) (kI 4))]) .skip)) (.seq (.seq (.reg [6] [.s 6 (.mv (.c (.b true)))]) .ret) (.seq (.label 2) (.seq (.reg [7,8] [kM 132
  1,kM 133 0,.s 134 (.call 365 [(.t 133)]),.s 135 (.call 149 [(.t 132),(.t 134)]),kM 131 135,kE 136 131 0,kE 137 131 1,kM 7 136,kM 8 137]) (.seq (.drw
  [9] [.mk 0 1 true (kM 139 0),.mk 1 3 true (kC 140 139),.mk 2 7 true (kO 141 140 0),.mk 3 15 true (kW 142 141 9),.mk 4 16 true (kM 143 0),.mk 5 48 true (kC
  144 143),.mk 6 112 true (kO 145 144 9),.mk 7 240 true (kL 146 145),.mk 8 256 true (kM 147 0),.mk 9 768 true (kC 148 147),.mk 10 1792 true (kO 149 148 13),
  .mk 11 3840 true (kL 150 149),.mk 12 8191 false (.s 151 (.call 333 [(.t 142),(.t 146),(.t 150)])),.mk 13 16383 true (kM 138 151),.mk 14 32767 true (kE 152
  138 0),.mk 15 49151 true (kE 153 138 1),.mk 16 98303 true (kM 9 152)] [.mk 4096 8191 (.s 151 (.call 333 [(.t 142),(.t 146),(.t 150)]))]) (.seq (.reg [] [kM
  154 0,kC 155 154,kO 156 155 12,.n (.st (.t 156) (kI 5))]) (.seq (.seq (.reg [161] [kM 157 7,kM 158 9,.s 159 (.call 226 [(.t 158)]),.s 160 (.call 238 [(.t
  157),(.t 159)]),.s 161 (.not (.t 160))]) (.cond (.t 161) (.reg [] [kM 162 0,kC 163 162,kO 164 163 12,.n (.st (.t 164) (kI 4))]) .skip)) (.seq (.reg [6]
  [kM 165 8,.s 166 (.cm .eq (.t 165) (kI 0)),kM 6 166]) .ret))))))))))))))))))))))))))
theorem fq326 : FF 326 kf326 := cf (em := 2923003274831947019867839048279980795955941918663) Tryz.func326 (by kernel_rfl) (by kernel_rfl)
def kf328 : KFun := .mk 1 [.t 2] (.seq (.reg [2] [.s 2 (.mv (kI 0))]) (.seq (.reg [2] [kM 3 0,kC 4 3,kO 5 4 0,kL 6 5,.s 7 (.call 356 [(.t 6),(.c (.fn 370 [] []))]),kM 2 7])
  .ret))
theorem fq328 : FF 328 kf328 := cf (em := 5) Tryz.func328 (by kernel_rfl) (by kernel_rfl)
def kf329 : KFun := .mk 2 [.t 4,.t 5] (.seq (.reg [4,5] [.s 4 (.mv (kI 0)),.s 5 (.mv (.c (.b false)))]) (.seq (.seq (.reg [9] [kM 8 1,.s 9 (.cm .lt (.t 8) (kI 1))]) (.cond (.t
  9) (.seq (.reg [4,5] [.s 4 (.mv (kI 0)),.s 5 (.mv (.c (.b false)))]) .ret) .skip)) (.seq (.reg [6] [.s 6 (.mv (kI 0))]) (.seq (.seq (.reg [7] [kM 10 0,kC 11
  10,kO 12 11 0,kL 13 12,.s 14 (.len (.t 13)),.s 15 (.ar .sub (.t 14) (kI 1)),kM 7 15]) (.blk 0 (.loop (.seq (.seq (.reg [17] [kM 16 7,.s 17 (.cm .ge (.t
  16) (kI 0))]) (.cond (.t 17) .skip (.exit 0))) (.seq (.blk 1 (.seq (.seq (.reg [27] [kM 20 0,kC 21 20,kO 22 21 0,kL 23 22,kM 24 7,.s 25 (.ixp (.t 23) (.t
  24) 1),kL 26 25,.s 27 (.not (.t 26))]) (.cond (.t 27) (.seq (.reg [6] [.s 6 (.mv (kI 0))]) (.exit 1)) .skip)) (.seq (.reg [6] [kM 28 6,.s 29 (.ar .add (.t
  28) (kI 1)),kM 6 29]) (.seq (.reg [32] [kM 30 6,kM 31 1,.s 32 (.cm .eq (.t 30) (.t 31))]) (.cond (.t 32) (.seq (.reg [4,5] [kM 33 7,kM 4 33,.s 5 (.mv (.c
  (.b true)))]) .ret) .skip))))) (.reg [7] [kM 18 7,.s 19 (.ar .sub (.t 18) (kI 1)),kM 7 19])))))) (.seq (.reg [4,5] [.s 4 (.mv (kI 0)),.s 5 (.mv (.c (.b
  false)))]) .ret)))))
theorem fq329 : FF 329 kf329 := cf (em := 4429316851) Tryz.func329 (by kernel_rfl) (by kernel_rfl)
def kf331 : KFun := .mk 2 [.t 4,.t 5] (.seq (.reg [4,5] [.s 4 (.mv (.c (.ns))),.s 5 (.mv (.c (.b false)))]) (.seq (.seq (.reg [19] [kM 10 1,.s 11 (.cm .lt (.t 10) (kI 1)),kM 12
  11,.gs 12 false 13 (.mv (.t 1)),.gs 12 false 14 (.mv (.t 0)),.gs 12 false 15 (.ck (.t 14)),.gs 12 false 16 (.off (.t 15) 1),.gs 12 false 17 (.ld (.t 16)),
  .gs 12 false 18 (.cm .gt (.t 13) (.t 17)),.s 19 (.pick (.t 12) (.c (.b true)) (.t 18))]) (.cond (.t 19) (.seq (.reg [4,5] [.s 4 (.mv (.c (.ns))),.s 5 (.mv
  (.c (.b false)))]) .ret) .skip)) (.seq (.reg [6,7] [kM 21 0,kM 22 1,.s 23 (.call 329 [(.t 21),(.t 22)]),kM 20 23,kE 24 20 0,kE 25 20 1,kM 6 24,kM 7
  25]) (.seq (.seq (.reg [27] [kM 26 7,.s 27 (.not (.t 26))]) (.cond (.t 27) (.seq (.reg [4,5] [kM 28 0,kM 29 1,.s 30 (.call 348 [(.t 28),(.t 29)]),kM 4
  30,.s 5 (.mv (.c (.b true)))]) .ret) .skip)) (.seq (.reg [8] [.s 8 (.mv (.c (.ns)))]) (.seq (.seq (.reg [9] [kM 31 6,kM 9 31]) (.blk 0 (.loop (.seq (.seq
  (.reg [36] [kM 32 9,kM 33 6,kM 34 1,.s 35 (.ar .add (.t 33) (.t 34)),.s 36 (.cm .lt (.t 32) (.t 35))]) (.cond (.t 36) .skip (.exit 0))) (.seq (.blk 1 (.seq
  (.reg [] [kM 39 0,kM 40 9,.s 41 (.call 371 [(.t 39),(.t 40)])]) (.reg [8] [kM 42 8,kM 43 9,.s 44 (.bsl [.i (.ofNat 0)] 1 (.cons 0 1 (.t 43) .nil)),.s 45
  (.app 1 8 (.t 42) (.t 44)),kM 8 45]))) (.reg [9] [kM 37 9,.s 38 (.ar .add (.t 37) (kI 1)),kM 9 38])))))) (.seq (.reg [4,5] [kM 46 8,kM 4 46,.s 5 (.mv (.c
  (.b true)))]) .ret)))))))
theorem fq331 : FF 331 kf331 := cf (em := 68854219763) Tryz.func331 (by kernel_rfl) (by kernel_rfl)
def kf334 : KFun := .mk 1 [.t 2] (.seq (.reg [2] [.s 2 (.mv (.c (.ns)))]) (.seq (.seq (.reg [4] [kM 3 0,.s 4 (.nils true (.t 3))]) (.cond (.t 4) (.seq (.reg [2] [.s 2 (.mv (.c
  (.ns)))]) .ret) .skip)) (.seq (.reg [2] [.s 5 (.bsl [.i (.ofNat 0)] 0 .nil),kM 6 0,.s 7 (.app 1 8 (.t 5) (.t 6)),kM 2 7]) .ret)))
theorem fq334 : FF 334 kf334 := cf (em := 21) Tryz.func334 (by kernel_rfl) (by kernel_rfl)
def kf335 : KFun := .mk 2 [.t 4] (.seq (.reg [4] [.s 4 (.mv (kI 0))]) (.seq (.reg [4] [kM 5 0,kM 6 1,.s 7 (.ar .add (.t 5) (.t 6)),.s 8 (.ar .sub (.t 7) (kI 1)),kM 9 1,.s 10
  (.q (.quo (.t 8) (.t 9))),kM 4 10]) .ret))
theorem fq335 : FF 335 kf335 := cf (em := 19) Tryz.func335 (by kernel_rfl) (by kernel_rfl)
def kf344 : KFun := .mk 2 [.t 4] (.seq (.reg [4] [.s 4 (.mv (kI 0))]) (.seq (.seq (.reg [7,8] [kM 6 0,.s 7 (.len (.t 6)),.s 8 (.mv (kI 0))]) (.blk 0 (.loop (.seq (.reg [9] [.s 9
  (.cm .lt (.t 8) (.t 7))]) (.seq (.cond (.t 9) .skip (.exit 0)) (.seq (.blk 1 (.seq (.reg [5] [kM 10 8,kM 5 10]) (.seq (.reg [16] [kM 11 1,kM 12 0,kM 13 5,
  .s 14 (.ixp (.t 12) (.t 13) 2),kW 15 14 2,.s 16 (.callv (.t 11) [(.t 15)])]) (.cond (.t 16) (.seq (.reg [4] [kM 17 5,kM 4 17]) .ret) .skip)))) (.reg [8] [.s
  18 (.ar .add (.t 8) (kI 1)),kM 8 18]))))))) (.seq (.reg [4] [.s 4 (.mv (.c (.i (.negSucc 0))))]) .ret)))
theorem fq344 : FF 344 kf344 := cf (em := 66483) Tryz.func344 (by kernel_rfl) (by kernel_rfl)
end Go.Kx
