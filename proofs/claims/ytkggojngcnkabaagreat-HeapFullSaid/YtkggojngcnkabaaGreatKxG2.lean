/-
  Functions of the program in the evaluator's form; that this is right. Printed by a program of ours.
-/
import Derived.Test.YtkggojngcnkabaaGreatB11
set_option linter.unusedVariables false
set_option linter.unusedSimpArgs false
set_option maxRecDepth 100000
namespace Go.Kx
open Go.Proofs
def kf92 : KFun := .mk 2 [] (.seq (.seq (.drw [16] [.mk 0 1 true (kM 4 1),.mk 1 3 true (kC 5 4),.mk 2 7 true (kO 6 5 11),.mk 3 15 true (kL 7 6),.mk 4 16 true (kM 8 0),.mk 5 48
  true (kC 9 8),.mk 6 112 true (kO 10 9 2),.mk 7 240 true (kL 11 10),.mk 8 256 true (kM 12 0),.mk 9 768 true (kC 13 12),.mk 10 1792 true (kO 14 13 7),.mk
  11 3840 true (kL 15 14),.mk 12 8191 false (.s 16 (.call 166 [(.t 7),(.t 11),(.t 15)]))] [.mk 4096 8191 (.s 16 (.call 166 [(.t 7),(.t 11),(.t 15)]))])
  (.cond (.t 16) (.reg [] [kM 17 0,kC 18 17,kO 19 18 10,kL 20 19,.s 21 (.ar .add (.t 20) (kI 1)),kC 22 17,kO 23 22 10,.n (.st (.t 23) (.t 21))]) .skip))
  (.seq (.reg [] [kM 24 0,kC 25 24,kO 26 25 2,kL 27 26,.s 28 (.ar .add (.t 27) (kI 1)),kC 29 24,kO 30 29 2,.n (.st (.t 30) (.t 28))]) (.seq (.drw [40]
  [.mk 0 1 true (kM 31 0),.mk 1 3 true (kC 32 31),.mk 2 7 true (kO 33 32 2),.mk 3 15 true (kL 34 33),.mk 4 16 true (kM 35 1),.mk 5 48 true (kC 36 35),.mk 6
  112 true (kO 37 36 0),.mk 7 240 true (kO 38 37 0),.mk 8 496 true (kL 39 38),.mk 9 1023 true (.s 40 (.cm .eq (.t 34) (.t 39)))] []) (.cond (.t 40) (.reg []
  [kM 41 0,.s 42 (.call 84 [(.t 41),(kI 10)])]) .skip))))
theorem fq92 : FF 92 kf92 := cf (em := 1099511693315) Tryz.func92 (by kernel_rfl) (by kernel_rfl)
def kf93 : KFun := .mk 2 [] (.seq (.seq (.reg [8] [kM 4 0,kC 5 4,kO 6 5 1,kL 7 6,.s 8 (.cm .eq (.t 7) (kI 0))]) (.cond (.t 8) (.seq (.reg [] [kM 9 1,kC 10 9,kO 11 10 11,kL
  12 11,.s 13 (.call 167 [(.t 12)])]) (.seq (.reg [] [kM 14 0,kC 15 14,kO 16 15 1,.n (.st (.t 16) (kI 7))]) .ret)) .skip)) (.seq (.drw [26] [.mk 0 1 true (kM
  17 1),.mk 1 3 true (kC 18 17),.mk 2 7 true (kO 19 18 11),.mk 3 15 true (kL 20 19),.mk 4 16 true (kM 21 0),.mk 5 48 true (kC 22 21),.mk 6 112 true (kO 23
  22 7),.mk 7 240 true (kL 24 23),.mk 8 511 false (.s 25 (.call 168 [(.t 20),(.t 24)])),.mk 9 1023 true (.s 26 (.not (.t 25)))] [.mk 256 511 (.s 25 (.call
  168 [(.t 20),(.t 24)]))]) (.cond (.t 26) (.seq (.reg [] [kM 27 0,kC 28 27,kO 29 28 9,kL 30 29,.s 31 (.ar .add (.t 30) (kI 1)),kC 32 27,kO 33 32 9,.n
  (.st (.t 33) (.t 31))]) (.reg [] [kM 34 0,.s 35 (.call 84 [(.t 34),(kI 0)])])) .skip)))
theorem fq93 : FF 93 kf93 := cf (em := 67109123) Tryz.func93 (by kernel_rfl) (by kernel_rfl)
def kf94 : KFun := .mk 1 [.t 2,.t 3] (.seq (.reg [2,3] [.s 2 (.mv (kI 0)),.s 3 (.mv (.c (.b false)))]) (.seq (.reg [] [kM 4 0,kC 5 4,kO 6 5 3,kL 7 6,.s 8 (.ar .add (.t 7)
  (kI 1)),kC 9 4,kO 10 9 3,.n (.st (.t 10) (.t 8))]) (.seq (.drw [2,3] [.mk 0 1 true (kM 11 0),.mk 1 3 true (kC 12 11),.mk 2 7 true (kO 13 12 0),.mk 3 15
  true (kL 14 13),.mk 4 16 true (kM 15 0),.mk 5 48 true (kC 16 15),.mk 6 112 true (kO 17 16 1),.mk 7 240 true (kL 18 17),.mk 8 271 true (kM 2 14),.mk 9
  1023 true (kM 3 18)] []) .ret)))
theorem fq94 : FF 94 kf94 := cf (em := 13) Tryz.func94 (by kernel_rfl) (by kernel_rfl)
def kf95 : KFun := .mk 1 [.t 2] (.seq (.reg [2] [.s 2 (.mv (kI 0))]) (.seq (.reg [2] [kM 3 0,kC 4 3,kO 5 4 1,kL 6 5,kM 2 6]) .ret))
theorem fq95 : FF 95 kf95 := cf (em := 5) Tryz.func95 (by kernel_rfl) (by kernel_rfl)
def kf96 : KFun := .mk 1 [.t 2] (.seq (.reg [2] [.s 2 (.mv (kI 0))]) (.seq (.reg [2] [kM 3 0,kC 4 3,kO 5 4 3,kL 6 5,kM 2 6]) .ret))
theorem fq96 : FF 96 kf96 := cf (em := 5) Tryz.func96 (by kernel_rfl) (by kernel_rfl)
def kf97 : KFun := .mk 1 [.t 2] (.seq (.reg [2] [.s 2 (.mv (kI 0))]) (.seq (.reg [2] [kM 3 0,kC 4 3,kO 5 4 0,kL 6 5,.s 7 (.call 70 [(.t 6)]),kM 2 7]) .ret))
theorem fq97 : FF 97 kf97 := cf (em := 5) Tryz.func97 (by kernel_rfl) (by kernel_rfl)
def kf98 : KFun := .mk 1 [.t 2] (.seq (.reg [1,2] [.s 1 (.box (.t 0)),.s 2 (.mv (kI 0))]) (.seq (.reg [2] [kO 3 1 11,kL 4 3,.s 5 (.call 169 [(.t 4)]),kM 2 5]) .ret))
theorem fq98 : FF 98 kf98 := cf (em := 7) Tryz.func98 (by kernel_rfl) (by kernel_rfl)
def kf115 : KFun := .mk 1 [.t 2] (.seq (.reg [1,2] [.s 1 (.box (.t 0)),.s 2 (.mv (kI 0))]) (.seq (.seq (.drw [31,32,33] [.mk 0 1 true (kO 5 1 0),.mk 1 3 true (kL 6 5),.mk 2 7
  true (.s 7 (.call 187 [(.t 6),(kI 4),(kI 1024)])),.mk 3 8 true (kO 8 1 1),.mk 4 24 true (kL 9 8),.mk 5 63 true (.s 10 (.call 187 [(.t 9),(kI 0),(kI
  2048)])),.mk 6 64 true (kO 11 1 2),.mk 7 192 true (kL 12 11),.mk 8 511 true (.s 13 (.call 187 [(.t 12),(kI 0),(kI 8)])),.mk 9 512 true (kO 14 1 3),.mk
  10 1536 true (kL 15 14),.mk 11 4095 true (.s 16 (.call 187 [(.t 15),(kI 1),(kI 16)])),.mk 12 4096 true (kO 17 1 4),.mk 13 12288 true (kL 18 17),.mk 14
  32767 true (.s 19 (.call 187 [(.t 18),(kI 1),(kI 8)])),.mk 15 32768 true (kO 20 1 5),.mk 16 98304 true (kL 21 20),.mk 17 262143 true (.s 22 (.call 187
  [(.t 21),(kI 0),(kI 8)])),.mk 18 262144 true (kO 23 1 6),.mk 19 786432 true (kL 24 23),.mk 20 2097151 true (.s 25 (.call 187 [(.t 24),(kI 1),(kI
  256)])),.mk 21 2097152 true (kO 26 1 7),.mk 22 6291456 true (kL 27 26),.mk 23 8388608 true (kO 28 1 0),.mk 24 25165824 true (kL 29 28),.mk 25 67108863
  true (.s 30 (.call 187 [(.t 27),(kI 0),(.t 29)])),.mk 26 134217727 false (.s 31 (.bsl [.b false] 8 (.cons 0 1 (.t 7) (.cons 1 1 (.t 10) (.cons 2 1 (.t 13)
  (.cons 3 1 (.t 16) (.cons 4 1 (.t 19) (.cons 5 1 (.t 22) (.cons 6 1 (.t 25) (.cons 7 1 (.t 30) .nil)))))))))),.mk 27 268435455 true (.s 32 (.len (.t 31))),
  .mk 28 268435456 true (.s 33 (.mv (kI 0)))] [.mk 67108864 134217727 (.s 31 (.bsl [.b false] 8 (.cons 0 1 (.t 7) (.cons 1 1 (.t 10) (.cons 2 1 (.t 13) (.cons 3
  1 (.t 16) (.cons 4 1 (.t 19) (.cons 5 1 (.t 22) (.cons 6 1 (.t 25) (.cons 7 1 (.t 30) .nil))))))))))]) (.blk 0 (.loop (.seq (.reg [34] [.s 34 (.cm .lt (.t 33)
  (.t 32))]) (.seq (.cond (.t 34) .skip (.exit 0)) (.seq (.blk 1 (.seq (.reg [4] [.s 35 (.ixp (.t 31) (.t 33) 1),kL 36 35,kM 4 36]) (.seq (.reg [38] [kM 37 4,
  .s 38 (.not (.t 37))]) (.cond (.t 38) (.seq (.reg [2] [.s 2 (.mv (kI 1))]) .ret) .skip)))) (.reg [33] [.s 39 (.ar .add (.t 33) (kI 1)),kM 33 39]))))))) (.seq
  (.seq (.reg [47] [kO 40 1 3,kL 41 40,kO 42 1 5,kL 43 42,.s 44 (.ar .mul (.t 41) (.t 43)),kO 45 1 0,kL 46 45,.s 47 (.cm .gt (.t 44) (.t 46))]) (.cond (.t
  47) (.seq (.reg [2] [.s 2 (.mv (kI 1))]) .ret) .skip)) (.seq (.seq (.reg [57] [kO 48 1 8,kL 49 48,.s 50 (.len (.t 49)),.s 51 (.call 187 [(.t 50),(kI 1),
  (kI 8)]),.s 52 (.not (.t 51)),kM 53 52,.gs 53 false 54 (.off (.t 1) 8),.gs 53 false 55 (.ld (.t 54)),.gs 53 false 56 (.call 188 [(.t 55),(.c (.fn 189 []
  []))]),.s 57 (.pick (.t 53) (.c (.b true)) (.t 56))]) (.cond (.t 57) (.seq (.reg [2] [.s 2 (.mv (kI 4))]) .ret) .skip)) (.seq (.reg [2] [.s 2 (.mv (kI 0))])
  .ret)))))
theorem fq115 : FF 115 kf115 := cf (em := 144256232654372887) Tryz.func115 (by kernel_rfl) (by kernel_rfl)
def kf116 : KFun := .mk 1 [.t 2,.t 3] (.seq (.reg [2,3] [.s 2 (.mv (.c (.np))),.s 3 (.mv (kI 0))]) (.seq (.seq (.reg [9] [kM 4 0,.s 5 (.cm .lt (.t 4) (kI 0)),kM 6 5,.gs 6
  false 7 (.mv (.t 0)),.gs 6 false 8 (.cm .gt (.t 7) (kI 1048576)),.s 9 (.pick (.t 6) (.c (.b true)) (.t 8))]) (.cond (.t 9) (.seq (.reg [2,3] [.s 2 (.mv (.c
  (.np))),.s 3 (.mv (kI 1))]) .ret) .skip)) (.seq (.reg [2,3] [kM 10 0,.s 11 (.q (.mks [.z 0 0] 16 (.t 10) (.t 10))),.s 12 (.bld [.ns,.i (.ofNat 0)] (.cons
  0 1 (.t 11) .nil)),.s 13 (.box (.t 12)),kM 2 13,.s 3 (.mv (kI 0))]) .ret)))
theorem fq116 : FF 116 kf116 := cf (em := 525) Tryz.func116 (by kernel_rfl) (by kernel_rfl)
def kf117 : KFun := .mk 1 [.t 2] (.seq (.reg [1,2] [.s 1 (.box (.t 0)),.s 2 (.mv (kI 0))]) (.seq (.reg [3] [.s 3 (.mv (kI 0))]) (.seq (.seq (.reg [7,8] [kW 6 1 9,.s 7 (.call 191
  [(.t 6)]),.s 8 (.mv (kI 0))]) (.blk 0 (.loop (.seq (.reg [9] [.s 9 (.cm .lt (.t 8) (kI 4))]) (.seq (.cond (.t 9) .skip (.exit 0)) (.seq (.blk 1 (.seq (.reg
  [5] [.s 10 (.q (.ixa (.t 7) (.t 8) 4)),kM 5 10]) (.reg [3] [kM 11 3,kM 12 5,.s 13 (.ar .add (.t 11) (.t 12)),kM 3 13]))) (.reg [8] [.s 14 (.ar .add (.t 8)
  (kI 1)),kM 8 14]))))))) (.seq (.reg [2] [kM 15 3,kM 2 15]) .ret))))
theorem fq117 : FF 117 kf117 := cf (em := 943) Tryz.func117 (by kernel_rfl) (by kernel_rfl)
def kf118 : KFun := .mk 2 [.t 4,.t 5] (.seq (.reg [4,5] [.s 4 (.mv (.c (.np))),.s 5 (.mv (kI 0))]) (.seq (.reg [6,7] [kM 10 0,.s 11 (.call 192 [(.t 10)]),kM 9 11,kE 12 9 0,
  kE 13 9 1,kM 6 12,kM 7 13]) (.seq (.seq (.reg [15] [kM 14 7,.s 15 (.cm .ne (.t 14) (kI 0))]) (.cond (.t 15) (.seq (.reg [4,5] [kM 16 7,.s 4 (.mv (.c
  (.np))),kM 5 16]) .ret) .skip)) (.seq (.reg [8,7] [kM 18 1,.s 19 (.call 193 [(.t 18)]),kM 17 19,kE 20 17 0,kE 21 17 1,kM 8 20,kM 7 21]) (.seq (.seq
  (.reg [23] [kM 22 7,.s 23 (.cm .ne (.t 22) (kI 0))]) (.cond (.t 23) (.seq (.reg [4,5] [kM 24 7,.s 4 (.mv (.c (.np))),kM 5 24]) .ret) .skip)) (.seq (.reg
  [4,5] [kM 25 6,.s 26 (.bld [.np] (.cons 0 1 (.t 25) .nil)),kM 27 8,.s 28 (.bld [.np,.np,.i (.ofNat 0)] (.cons 0 1 (.t 26) (.cons 1 1 (.t 27) .nil))),.s
  29 (.box (.t 28)),kM 4 29,.s 5 (.mv (kI 0))]) .ret))))))
theorem fq118 : FF 118 kf118 := cf (em := 8421875) Tryz.func118 (by kernel_rfl) (by kernel_rfl)
def kf119 : KFun := .mk 2 [.t 4,.t 5] (.seq (.reg [2,4,5] [.s 2 (.box (.t 0)),.s 4 (.mv (.c (.np))),.s 5 (.mv (kI 0))]) (.seq (.seq (.reg [6] [kW 13 2 9,.s 14 (.call 115 [(.t
  13)]),kM 6 14]) (.seq (.reg [16] [kM 15 6,.s 16 (.cm .ne (.t 15) (kI 0))]) (.cond (.t 16) (.seq (.reg [4,5] [kM 17 6,.s 4 (.mv (.c (.np))),kM 5 17]) .ret)
  .skip))) (.seq (.seq (.drw [22] [.mk 0 1 true (kM 18 1),.mk 1 3 true (.s 19 (.call 194 [(.t 18)])),.mk 2 4 true (kO 20 2 0),.mk 3 12 true (kL 21 20),.mk 4
  31 true (.s 22 (.cm .ne (.t 19) (.t 21)))] []) (.cond (.t 22) (.seq (.reg [4,5] [.s 4 (.mv (.c (.np))),.s 5 (.mv (kI 1))]) .ret) .skip)) (.seq (.reg [7,8]
  [kO 24 2 0,kL 25 24,.s 26 (.call 195 [(.t 25)]),kM 23 26,kE 27 23 0,kE 28 23 1,kM 7 27,kM 8 28]) (.seq (.seq (.reg [30] [kM 29 8,.s 30 (.cm .ne (.t 29)
  (kI 0))]) (.cond (.t 30) (.seq (.reg [4,5] [kM 31 8,.s 4 (.mv (.c (.np))),kM 5 31]) .ret) .skip)) (.seq (.reg [9,8] [kO 33 2 1,kL 34 33,.s 35 (.call 196
  [(.t 34)]),kM 32 35,kE 36 32 0,kE 37 32 1,kM 9 36,kM 8 37]) (.seq (.seq (.reg [39] [kM 38 8,.s 39 (.cm .ne (.t 38) (kI 0))]) (.cond (.t 39) (.seq (.reg
  [4,5] [kM 40 8,.s 4 (.mv (.c (.np))),kM 5 40]) .ret) .skip)) (.seq (.reg [10] [kM 41 1,kW 42 2 9,.s 43 (.call 124 [(.t 42)]),kM 44 7,kM 45 9,.s 46
  (.call 197 []),.s 47 (.bld [.i (.ofNat 0),.i (.ofNat 0),.i (.ofNat 0),.i (.ofNat 0),.i (.ofNat 0),.i (.ofNat 0),.i (.ofNat 0),.i (.ofNat 0),.ns,.np,
  .np,.np] (.cons 0 9 (.t 43) (.cons 9 1 (.t 44) (.cons 10 1 (.t 45) (.cons 11 1 (.t 46) .nil))))),.s 48 (.bld [.np,.ns,.b false,.i (.ofNat 0),.i (.ofNat
  0),.i (.ofNat 0),.i (.ofNat 0),.i (.ofNat 0),.i (.ofNat 0),.i (.ofNat 0),.i (.ofNat 0),.i (.ofNat 0),.ns,.np,.np,.np] (.cons 0 1 (.t 41) (.cons 4 12
  (.t 47) .nil))),.s 49 (.box (.t 48)),kM 10 49]) (.seq (.seq (.reg [51,52] [kO 50 2 3,kL 51 50,.s 52 (.mv (kI 0))]) (.blk 0 (.loop (.seq (.reg [53] [.s 53
  (.cm .lt (.t 52) (.t 51))]) (.seq (.cond (.t 53) .skip (.exit 0)) (.seq (.blk 1 (.seq (.reg [11,12] [kO 55 2 5,kL 56 55,.s 57 (.call 198 [(.t 56)]),kM 54
  57,kE 58 54 0,kE 59 54 1,kM 11 58,kM 12 59]) (.seq (.seq (.reg [61] [kM 60 12,.s 61 (.cm .ne (.t 60) (kI 0))]) (.cond (.t 61) (.seq (.reg [4,5] [kM 62
  12,.s 4 (.mv (.c (.np))),kM 5 62]) .ret) .skip)) (.reg [] [kM 63 10,kM 64 10,kC 65 64,kO 66 65 1,kL 67 66,kM 68 11,.s 69 (.bsl [.np] 1 (.cons 0 1 (.t
  68) .nil)),.s 70 (.app 1 8 (.t 67) (.t 69)),kC 71 63,kO 72 71 1,.n (.st (.t 72) (.t 70))])))) (.reg [52] [.s 73 (.ar .add (.t 52) (kI 1)),kM 52 73])))))))
  (.seq (.reg [4,5] [kM 74 10,kM 4 74,.s 5 (.mv (kI 0))]) .ret))))))))))
theorem fq119 : FF 119 kf119 := cf (em := 2321606158743314423) Tryz.func119 (by kernel_rfl) (by kernel_rfl)
def kf120 : KFun := .mk 1 [.t 2,.t 3] (.seq (.reg [2,3] [.s 2 (.mv (.c (.np))),.s 3 (.mv (kI 0))]) (.seq (.seq (.reg [11] [kM 6 0,.s 7 (.cm .lt (.t 6) (kI 1)),kM 8 7,.gs 8
  false 9 (.mv (.t 0)),.gs 8 false 10 (.cm .gt (.t 9) (kI 16)),.s 11 (.pick (.t 8) (.c (.b true)) (.t 10))]) (.cond (.t 11) (.seq (.reg [2,3] [.s 2 (.mv (.c
  (.np))),.s 3 (.mv (kI 1))]) .ret) .skip)) (.seq (.reg [4] [kM 12 0,.s 13 (.q (.mks [.i (.ofNat 0)] 8 (.t 12) (.t 12))),.s 14 (.bld [.i (.ofNat 0),.b false,
  .ns,.i (.ofNat 0)] (.cons 2 1 (.t 13) .nil)),.s 15 (.box (.t 14)),kM 4 15]) (.seq (.seq (.reg [20,21] [kM 16 4,kC 17 16,kO 18 17 2,kL 19 18,.s 20 (.len
  (.t 19)),.s 21 (.mv (kI 0))]) (.blk 0 (.loop (.seq (.reg [22] [.s 22 (.cm .lt (.t 21) (.t 20))]) (.seq (.cond (.t 22) .skip (.exit 0)) (.seq (.blk 1 (.seq
  (.reg [5] [kM 23 21,kM 5 23]) (.reg [] [kM 24 4,kC 25 24,kO 26 25 2,kL 27 26,kM 28 5,.s 29 (.ixp (.t 27) (.t 28) 1),.n (.st (.t 29) (.c (.i (.negSucc
  0))))]))) (.reg [21] [.s 30 (.ar .add (.t 21) (kI 1)),kM 21 30]))))))) (.seq (.reg [2,3] [kM 31 4,kM 2 31,.s 3 (.mv (kI 0))]) .ret)))))
theorem fq120 : FF 120 kf120 := cf (em := 7342141) Tryz.func120 (by kernel_rfl) (by kernel_rfl)
def kf121 : KFun := .mk 2 [.t 4,.t 5] (.seq (.reg [2,4,5] [.s 2 (.box (.t 0)),.s 4 (.mv (kI 0)),.s 5 (.mv (kI 0))]) (.seq (.reg [4,5] [kW 6 2 9,kM 7 1,.s 8 (.call 199 [(.t
  6),(kI 4),(.t 7)]),kE 9 8 0,kE 10 8 1,kM 4 9,kM 5 10]) .ret))
theorem fq121 : FF 121 kf121 := cf (em := 55) Tryz.func121 (by kernel_rfl) (by kernel_rfl)
def kf122 : KFun := .mk 3 [] (.seq (.reg [8] [kM 6 0,kM 7 1,.s 8 (.call 200 [(.t 6),(.t 7)])]) (.cond (.t 8) (.reg [] [kM 9 0,kC 10 9,kO 11 10 0,kL 12 11,kM 13 1,kM 14 2,.s
  15 (.ixp (.t 12) (.t 13) 1),.n (.st (.t 15) (.t 14))]) .skip))
theorem fq122 : FF 122 kf122 := cf (em := 263) Tryz.func122 (by kernel_rfl) (by kernel_rfl)
def kf123 : KFun := .mk 0 [.t 0] (.seq (.reg [0] [.s 0 (.mv (.c (.z 0 0)))]) (.seq (.reg [0] [.s 0 (.mv (.c (.z 0 4607182418800017408)))]) .ret))
theorem fq123 : FF 123 kf123 := cf (em := 1) Tryz.func123 (by kernel_rfl) (by kernel_rfl)
def kf124 : KFun := .mk 1 [.cn 2 9] (.seq (.reg [1,2] [.s 1 (.box (.t 0)),.s 2 (.new [.i (.ofNat 0),.i (.ofNat 0),.i (.ofNat 0),.i (.ofNat 0),.i (.ofNat 0),.i (.ofNat 0),.i
  (.ofNat 0),.i (.ofNat 0),.ns])]) (.seq (.reg [3] [.s 3 (.mv (.c (.ns)))]) (.seq (.seq (.reg [7,8,9] [kO 6 1 8,kL 7 6,.s 8 (.len (.t 7)),.s 9 (.mv (kI
  0))]) (.blk 0 (.loop (.seq (.reg [10] [.s 10 (.cm .lt (.t 9) (.t 8))]) (.seq (.cond (.t 10) .skip (.exit 0)) (.seq (.blk 1 (.seq (.reg [5] [.s 11 (.ixp (.t 7)
  (.t 9) 2),kW 12 11 2,.s 5 (.new [.b false,.ns]),.n (.stn (.t 5) (.t 12) 2)]) (.reg [3] [kM 13 3,kW 14 5 2,.s 15 (.call 201 [(.t 14)]),.s 16 (.bsl [.b
  false,.ns] 1 (.cons 0 2 (.t 15) .nil)),.s 17 (.app 2 32 (.t 13) (.t 16)),kM 3 17]))) (.reg [9] [.s 18 (.ar .add (.t 9) (kI 1)),kM 9 18]))))))) (.seq (.reg
  [] [kM 19 3,kO 20 1 8,.n (.st (.t 20) (.t 19))]) (.seq (.reg [] [kW 21 1 9,.n (.stn (.t 2) (.t 21) 9)]) .ret)))))
theorem fq124 : FF 124 kf124 := cf (em := 1967) Tryz.func124 (by kernel_rfl) (by kernel_rfl)
def kf125 : KFun := .mk 1 [.t 2] (.seq (.reg [2] [.s 2 (.mv (.c (.ns)))]) (.seq (.seq (.reg [4] [kM 3 0,.s 4 (.nils true (.t 3))]) (.cond (.t 4) (.seq (.reg [2] [.s 2 (.mv (.c
  (.ns)))]) .ret) .skip)) (.seq (.reg [2] [.s 5 (.bsl [.i (.ofNat 0),.i (.ofNat 0),.i (.ofNat 0),.i (.ofNat 0),.i (.ofNat 0),.z 0 0] 0 .nil),kM 6 0,.s 7
  (.app 6 56 (.t 5) (.t 6)),kM 2 7]) .ret)))
theorem fq125 : FF 125 kf125 := cf (em := 21) Tryz.func125 (by kernel_rfl) (by kernel_rfl)
def kf126 : KFun := .mk 1 [.t 2] (.seq (.reg [2] [.s 2 (.mv (kI 0))]) (.seq (.reg [2] [kM 3 0,kC 4 3,kO 5 4 1,kL 6 5,kM 2 6]) .ret))
theorem fq126 : FF 126 kf126 := cf (em := 5) Tryz.func126 (by kernel_rfl) (by kernel_rfl)
def kf127 : KFun := .mk 1 [.t 2] (.seq (.reg [2] [.s 2 (.mv (kI 0))]) (.seq (.reg [2] [kM 3 0,kC 4 3,kO 5 4 2,kL 6 5,kM 2 6]) .ret))
theorem fq127 : FF 127 kf127 := cf (em := 5) Tryz.func127 (by kernel_rfl) (by kernel_rfl)
def kf128 : KFun := .mk 1 [.t 2] (.seq (.reg [2] [.s 2 (.mv (kI 0))]) (.seq (.reg [2] [kM 3 0,kC 4 3,kO 5 4 3,kL 6 5,kM 2 6]) .ret))
theorem fq128 : FF 128 kf128 := cf (em := 5) Tryz.func128 (by kernel_rfl) (by kernel_rfl)
def kf129 : KFun := .mk 1 [.t 2] (.seq (.reg [2] [.s 2 (.mv (kI 0))]) (.seq (.reg [2] [kM 3 0,kC 4 3,kO 5 4 3,kL 6 5,kM 2 6]) .ret))
theorem fq129 : FF 129 kf129 := cf (em := 5) Tryz.func129 (by kernel_rfl) (by kernel_rfl)
def kf130 : KFun := .mk 2 [.t 4] (.seq (.reg [4] [.s 4 (.mv (.c (.b false)))]) (.seq (.reg [5,6] [kM 12 1,kC 13 12,kO 14 13 12,kL 15 14,.s 16 (.call 94 [(.t 15)]),kM 11 16,kE
  17 11 0,kE 18 11 1,kM 5 17,kM 6 18]) (.seq (.seq (.reg [24] [kM 19 5,kM 20 0,kC 21 20,kO 22 21 4,kL 23 22,.s 24 (.cm .eq (.t 19) (.t 23))]) (.cond (.t
  24) (.seq (.reg [4] [.s 4 (.mv (.c (.b true)))]) .ret) .skip)) (.seq (.reg [] [kM 25 0,kM 26 0,kM 27 0,kM 28 5,kC 29 25,kO 30 29 8,.n (.st (.t 30) (.t
  28)),kC 31 26,kO 32 31 9,.n (.st (.t 32) (.c (.ns))),kC 33 27,kO 34 33 7,.n (.st (.t 34) (kI 2))]) (.seq (.seq (.reg [35] [kM 35 5]) (.blk 0 (.seq (.reg
  [36] [.s 37 (.cm .eq (.t 35) (kI 1)),kM 36 37]) (.cond (.t 36) (.reg [] [kM 38 0,kM 39 6,kC 40 38,kO 41 40 5,.n (.st (.t 41) (.t 39))]) (.seq (.reg [42]
  [.s 43 (.cm .eq (.t 35) (kI 3)),kM 42 43]) (.cond (.t 42) (.seq (.reg [47,48,49] [kM 44 0,kC 45 44,kO 46 45 2,kL 47 46,.s 48 (.len (.t 47)),.s 49 (.mv
  (kI 0))]) (.blk 1 (.loop (.seq (.reg [50] [.s 50 (.cm .lt (.t 49) (.t 48))]) (.seq (.cond (.t 50) .skip (.exit 1)) (.seq (.blk 2 (.seq (.reg [8] [.s 51 (.ixp
  (.t 47) (.t 49) 2),kW 52 51 2,.s 8 (.new [.b false,.z 0 0]),.n (.stn (.t 8) (.t 52) 2)]) (.seq (.reg [9,10] [kO 54 8 1,kL 55 54,.s 56 (.call 150 [(.t
  55)]),kM 53 56,kE 57 53 0,kE 58 53 1,kM 9 57,kM 10 58]) (.seq (.reg [63] [kO 59 8 0,kL 60 59,kM 61 60,.gs 61 true 62 (.mv (.t 10)),.s 63 (.pick (.t
  61) (.t 62) (.c (.b false)))]) (.cond (.t 63) (.seq (.reg [] [kM 64 0,kM 65 0,kC 66 65,kO 67 66 9,kL 68 67,kM 69 9,.s 70 (.bsl [.i (.ofNat 0)] 1 (.cons 0
  1 (.t 69) .nil)),.s 71 (.app 1 8 (.t 68) (.t 70)),kC 72 64,kO 73 72 9,.n (.st (.t 73) (.t 71))]) (.reg [] [kM 74 0,kC 75 74,kO 76 75 7,.n (.st (.t 76)
  (kI 1))])) .skip))))) (.reg [49] [.s 77 (.ar .add (.t 49) (kI 1)),kM 49 77]))))))) .skip)))))) (.seq (.reg [4] [.s 4 (.mv (.c (.b false)))]) .ret))))))
theorem fq130 : FF 130 kf130 := cf (em := 9225487600322611059) Tryz.func130 (by kernel_rfl) (by kernel_rfl)
def kf131 : KFun := .mk 2 [.t 4] (.seq (.reg [4] [.s 4 (.mv (.c (.b false)))]) (.seq (.seq (.reg [9] [kM 5 0,kC 6 5,kO 7 6 7,kL 8 7,.s 9 (.cm .eq (.t 8) (kI 1))]) (.cond (.t 9)
  (.seq (.drw [] [.mk 0 1 true (kM 10 1),.mk 1 3 true (kC 11 10),.mk 2 7 true (kO 12 11 10),.mk 3 15 true (kL 13 12),.mk 4 16 true (kM 14 0),.mk 5 48 true
  (kC 15 14),.mk 6 112 true (kO 16 15 9),.mk 7 240 true (kL 17 16),.mk 8 496 true (.s 18 (.ixp (.t 17) (kI 0) 1)),.mk 9 1008 true (kL 19 18),.mk 10 1024
  true (kM 20 0),.mk 11 3072 true (kC 21 20),.mk 12 7168 true (kO 22 21 5),.mk 13 15360 true (kL 23 22),.mk 14 32767 false (.s 24 (.call 148 [(.t 13),(.t
  19),(.t 23)]))] [.mk 16384 32767 (.s 24 (.call 148 [(.t 13),(.t 19),(.t 23)]))]) (.seq (.seq (.reg [] [kM 25 0,kM 26 0,kC 27 26,kO 28 27 9,kL 29 28,.s
  30 (.q (.sli (.t 29) 1 (.ok (kI 1)) .no)),kC 31 25,kO 32 31 9,.n (.st (.t 32) (.t 30))]) (.seq (.reg [38] [kM 33 0,kC 34 33,kO 35 34 9,kL 36 35,.s 37
  (.len (.t 36)),.s 38 (.cm .eq (.t 37) (kI 0))]) (.cond (.t 38) (.reg [] [kM 39 0,kC 40 39,kO 41 40 7,.n (.st (.t 41) (kI 2))]) .skip))) (.seq (.reg [4] [.s
  4 (.mv (.c (.b false)))]) .ret))) .skip)) (.seq (.drw [] [.mk 0 1 true (kM 42 1),.mk 1 3 true (kC 43 42),.mk 2 7 true (kO 44 43 12),.mk 3 15 true (kL 45
  44),.mk 4 16 true (kM 46 0),.mk 5 48 true (kC 47 46),.mk 6 112 true (kO 48 47 0),.mk 7 240 true (kL 49 48),.mk 8 256 true (kM 50 0),.mk 9 768 true (kC 51
  50),.mk 10 1792 true (kO 52 51 8),.mk 11 3840 true (kL 53 52),.mk 12 8191 false (.s 54 (.call 202 [(.t 45),(.t 49),(.t 53)]))] [.mk 4096 8191 (.s 54
  (.call 202 [(.t 45),(.t 49),(.t 53)]))]) (.seq (.reg [] [kM 55 0,kM 56 0,kC 57 56,kO 58 57 8,kL 59 58,kC 60 55,kO 61 60 4,.n (.st (.t 61) (.t 59))])
  (.seq (.reg [4] [.s 4 (.mv (.c (.b true)))]) .ret)))))
theorem fq131 : FF 131 kf131 := cf (em := 274877907475) Tryz.func131 (by kernel_rfl) (by kernel_rfl)
def kf134 : KFun := .mk 3 [.cn 6 5,.t 7] (.seq (.reg [5,6,7] [.s 5 (.box (.t 2)),.s 6 (.new [.i (.ofNat 0),.i (.ofNat 0),.i (.ofNat 0),.b false,.z 0 0]),.s 7 (.mv (.c (.b
  false)))]) (.seq (.drw [8] [.mk 0 1 true (kM 11 1),.mk 1 3 true (kC 12 11),.mk 2 7 true (kO 13 12 0),.mk 3 15 true (kW 14 13 9),.mk 4 16 true (kW 15 5 6),
  .mk 5 63 false (.s 16 (.call 207 [(.t 14),(.t 15)])),.mk 6 127 true (kM 8 16)] [.mk 32 63 (.s 16 (.call 207 [(.t 14),(.t 15)]))]) (.seq (.seq (.reg [18] [kM
  17 8,.s 18 (.cm .eq (.t 17) (kI 0))]) (.cond (.t 18) (.reg [8] [kM 19 0,kW 20 5 6,.s 21 (.call 208 [(.t 19),(.t 20)]),kM 8 21]) .skip)) (.seq (.seq (.reg
  [23] [kM 22 8,.s 23 (.cm .ne (.t 22) (kI 0))]) (.cond (.t 23) (.seq (.reg [7] [kM 24 0,kM 25 8,.s 26 (.call 144 [(.t 24),(.t 25)]),kE 27 26 0,kE 28 26 1,
  .n (.stn (.t 6) (.t 27) 5),kM 7 28]) .ret) .skip)) (.seq (.seq (.reg [9,10] [kM 30 0,kW 31 5 6,.s 32 (.call 209 [(.t 30),(.t 31)]),kM 29 32,kE 33 29 0,
  kE 34 29 1,.s 9 (.new [.b false,.z 0 0]),.n (.stn (.t 9) (.t 33) 2),kM 10 34]) (.seq (.reg [35] [kM 35 10]) (.cond (.t 35) (.seq (.reg [7] [kM 36 0,kO 37
  5 1,kL 38 37,kW 39 9 2,.s 40 (.call 210 [(.t 36),(.t 38),(.t 39)]),kE 41 40 0,kE 42 40 1,.n (.stn (.t 6) (.t 41) 5),kM 7 42]) .ret) .skip))) (.seq
  (.seq (.reg [44] [kO 43 5 0,kL 44 43]) (.blk 0 (.seq (.seq (.reg [45] [.s 46 (.cm .eq (.t 44) (kI 1)),kM 45 46]) (.cond (.t 45) .skip (.reg [45] [.s 47 (.cm
  .eq (.t 44) (kI 2)),kM 45 47]))) (.cond (.t 45) (.seq (.reg [7] [kM 48 0,kM 49 1,kW 50 5 6,.s 51 (.call 211 [(.t 48),(.t 49),(.t 50)]),kE 52 51 0,kE 53
  51 1,.n (.stn (.t 6) (.t 52) 5),kM 7 53]) .ret) (.seq (.seq (.reg [54] [.s 55 (.cm .eq (.t 44) (kI 3)),kM 54 55]) (.cond (.t 54) .skip (.seq (.reg [54] [.s
  56 (.cm .eq (.t 44) (kI 4)),kM 54 56]) (.cond (.t 54) .skip (.seq (.reg [54] [.s 57 (.cm .eq (.t 44) (kI 5)),kM 54 57]) (.cond (.t 54) .skip (.reg [54] [.s
  58 (.cm .eq (.t 44) (kI 6)),kM 54 58]))))))) (.cond (.t 54) (.seq (.reg [] [kM 59 0,kM 60 1,kW 61 5 6,kM 62 0,.s 63 (.q (.mkf 213 [(.t 62)] [])),.s 64
  (.call 212 [(.t 60),(.t 61),(.t 63)]),kC 65 59,kO 66 65 10,kO 67 66 2,.n (.st (.t 67) (.t 64))]) (.seq (.reg [7] [kM 68 0,kM 69 1,kW 70 5 6,.s 71
  (.call 135 [(.t 68),(.t 69),(.t 70)]),kE 72 71 0,kE 73 71 1,.n (.stn (.t 6) (.t 72) 5),kM 7 73]) .ret)) (.seq (.seq (.reg [74] [.s 75 (.cm .eq (.t 44)
  (kI 7)),kM 74 75]) (.cond (.t 74) .skip (.reg [74] [.s 76 (.cm .eq (.t 44) (kI 8)),kM 74 76]))) (.cond (.t 74) (.seq (.drw [] [.mk 0 1 true (kM 78 0),.mk 1
  2 true (kM 79 1),.mk 2 6 true (kC 80 79),.mk 3 14 true (kO 81 80 0),.mk 4 30 true (kW 82 81 9),.mk 5 32 true (kO 83 5 4),.mk 6 96 true (kL 84 83),.mk 7
  254 false (.s 85 (.call 121 [(.t 82),(.t 84)])),.mk 8 510 true (kM 77 85),.mk 9 1022 true (kE 86 77 0),.mk 10 1534 true (kE 87 77 1),.mk 11 3071 true (kC
  88 78),.mk 12 7167 true (kO 89 88 10),.mk 13 15359 true (kO 90 89 3),.mk 14 31743 false (.n (.st (.t 90) (.t 86)))] [.mk 16512 254 (.s 85 (.call 121 [(.t
  82),(.t 84)])),.mk 16384 31743 (.n (.st (.t 90) (.t 86)))]) (.seq (.seq (.reg [] [kM 91 0,kC 92 91,kO 93 92 10,kO 94 93 4,.n (.st (.t 94) (.c (.b
  true)))]) (.seq (.reg [97] [kO 95 5 0,kL 96 95,.s 97 (.cm .eq (.t 96) (kI 7))]) (.cond (.t 97) (.seq (.reg [7] [kM 98 0,kM 99 1,kW 100 5 6,.s 101 (.call
  136 [(.t 98),(.t 99),(.t 100)]),kE 102 101 0,kE 103 101 1,.n (.stn (.t 6) (.t 102) 5),kM 7 103]) .ret) .skip))) (.seq (.reg [] [kM 104 0,kW 105 5 6,.s
  106 (.call 214 [(.t 104),(.t 105)])]) (.seq (.reg [7] [kM 107 0,kM 108 1,.s 109 (.call 141 [(.t 107),(.t 108)]),kE 110 109 0,kE 111 109 1,.n (.stn (.t
  6) (.t 110) 5),kM 7 111]) .ret)))) (.seq (.seq (.reg [112] [.s 113 (.cm .eq (.t 44) (kI 10)),kM 112 113]) (.cond (.t 112) .skip (.reg [112] [.s 114 (.cm .eq
  (.t 44) (kI 11)),kM 112 114]))) (.cond (.t 112) (.seq (.reg [7] [kM 115 0,kM 116 1,kW 117 5 6,.s 118 (.call 215 [(.t 115),(.t 116),(.t 117)]),kE 119 118
  0,kE 120 118 1,.n (.stn (.t 6) (.t 119) 5),kM 7 120]) .ret) (.seq (.reg [121] [.s 122 (.cm .eq (.t 44) (kI 17)),kM 121 122]) (.cond (.t 121) (.seq (.reg []
  [kM 123 1,kC 124 123,kO 125 124 11,kL 126 125,.s 127 (.call 34 [(.t 126)])]) (.seq (.reg [7] [kM 128 0,.s 129 (.bld [.b false,.z 0 0] .nil),.s 130
  (.call 140 [(.t 128),(.t 129),(kI 0)]),kE 131 130 0,kE 132 130 1,.n (.stn (.t 6) (.t 131) 5),kM 7 132]) .ret)) .skip)))))))))))) (.seq (.drw [] [.mk 0 1
  true (kM 133 1),.mk 1 3 true (kC 134 133),.mk 2 7 true (kO 135 134 11),.mk 3 15 true (kL 136 135),.mk 4 16 true (kM 137 0),.mk 5 48 true (kC 138 137),.mk
  6 112 true (kO 139 138 0),.mk 7 240 true (kL 140 139),.mk 8 511 false (.s 141 (.call 132 [(.t 136),(.t 140)]))] [.mk 256 511 (.s 141 (.call 132 [(.t 136),
  (.t 140)]))]) (.seq (.reg [] [kM 142 0,kC 143 142,kO 144 143 10,kO 145 144 1,.n (.st (.t 145) (kI 10))]) (.seq (.reg [7] [.s 146 (.bld [.i (.ofNat 0),.i
  (.ofNat 0),.i (.ofNat 0),.b false,.z 0 0] .nil),.n (.stn (.t 6) (.t 146) 5),.s 7 (.mv (.c (.b false)))]) .ret)))))))))
theorem fq134 : FF 134 kf134 := cf (em := 2663648446884710491448818491994671079) Tryz.func134 (by kernel_rfl) (by kernel_rfl)
def kf135 : KFun := .mk 3 [.cn 6 5,.t 7] (.seq (.reg [5,6,7] [.s 5 (.box (.t 2)),.s 6 (.new [.i (.ofNat 0),.i (.ofNat 0),.i (.ofNat 0),.b false,.z 0 0]),.s 7 (.mv (.c (.b
  false)))]) (.seq (.reg [] [kM 9 0,kC 10 9,kO 11 10 10,kO 12 11 1,.n (.st (.t 12) (kI 1))]) (.seq (.seq (.drw [23] [.mk 0 1 true (kM 13 0),.mk 1 3 true (kC
  14 13),.mk 2 7 true (kO 15 14 10),.mk 3 15 true (kO 16 15 2),.mk 4 31 true (kL 17 16),.mk 5 32 true (kM 18 1),.mk 6 96 true (kC 19 18),.mk 7 224 true (kO
  20 19 9),.mk 8 480 true (kL 21 20),.mk 9 1023 false (.s 22 (.call 216 [(.t 17),(.t 21)])),.mk 10 2047 true (.s 23 (.not (.t 22)))] [.mk 512 1023 (.s 22
  (.call 216 [(.t 17),(.t 21)]))]) (.cond (.t 23) (.seq (.reg [7] [.s 24 (.bld [.i (.ofNat 0),.i (.ofNat 0),.i (.ofNat 0),.b false,.z 0 0] .nil),.n (.stn
  (.t 6) (.t 24) 5),.s 7 (.mv (.c (.b false)))]) .ret) .skip)) (.seq (.seq (.reg [8] [kM 25 0,kC 26 25,kO 27 26 10,kO 28 27 2,kL 29 28,.s 30 (.call 217
  [(.t 29)]),kM 8 30]) (.seq (.reg [32] [kM 31 8,.s 32 (.cm .ne (.t 31) (kI 0))]) (.cond (.t 32) (.seq (.reg [7] [kM 33 0,kM 34 8,.s 35 (.call 144 [(.t 33),
  (.t 34)]),kE 36 35 0,kE 37 35 1,.n (.stn (.t 6) (.t 36) 5),kM 7 37]) .ret) .skip))) (.seq (.drw [] [.mk 0 1 true (kM 38 0),.mk 1 2 true (kM 39 0),.mk 2 4
  true (kM 40 0),.mk 3 8 true (kM 41 0),.mk 4 24 true (kC 42 41),.mk 5 56 true (kO 43 42 10),.mk 6 120 true (kO 44 43 2),.mk 7 248 true (kL 45 44),.mk 8
  504 true (.s 46 (.call 218 [(.t 45)])),.mk 9 512 true (kM 47 0),.mk 10 1536 true (kC 48 47),.mk 11 3584 true (kO 49 48 10),.mk 12 7680 true (kO 50 49 2),
  .mk 13 15872 true (kL 51 50),.mk 14 32760 true (.s 52 (.call 219 [(.t 51)])),.mk 15 65529 true (kC 53 38),.mk 16 131065 true (kO 54 53 10),.mk 17 262137
  true (kO 55 54 3),.mk 18 524281 false (.n (.st (.t 55) (.t 46))),.mk 19 1048571 true (kC 56 39),.mk 20 2097147 true (kO 57 56 10),.mk 21 4194299 true (kO
  58 57 4),.mk 22 8388603 false (.n (.st (.t 58) (.t 52))),.mk 23 16777215 true (kC 59 40),.mk 24 33554431 true (kO 60 59 10),.mk 25 67108863 true (kO 61 60
  1),.mk 26 134217727 false (.n (.st (.t 61) (kI 2)))] [.mk 71565312 524281 (.n (.st (.t 55) (.t 46))),.mk 71303168 8388603 (.n (.st (.t 58) (.t 52))),.mk
  67108864 134217727 (.n (.st (.t 61) (kI 2)))]) (.seq (.seq (.reg [69] [kO 62 5 0,kL 63 62,.s 64 (.cm .eq (.t 63) (kI 3)),kM 65 64,.gs 65 false 66 (.off (.t
  5) 0),.gs 65 false 67 (.ld (.t 66)),.gs 65 false 68 (.cm .eq (.t 67) (kI 5)),.s 69 (.pick (.t 65) (.c (.b true)) (.t 68))]) (.cond (.t 69) (.seq (.reg [7]
  [.s 70 (.bld [.i (.ofNat 0),.i (.ofNat 0),.i (.ofNat 0),.b false,.z 0 0] .nil),.n (.stn (.t 6) (.t 70) 5),.s 7 (.mv (.c (.b false)))]) .ret) .skip))
  (.seq (.seq (.drw [85] [.mk 0 1 true (kM 71 0),.mk 1 3 true (kC 72 71),.mk 2 7 true (kO 73 72 2),.mk 3 15 true (kL 74 73),.mk 4 16 true (kO 75 5 2),.mk 5
  48 true (kL 76 75),.mk 6 127 true (.s 77 (.ixp (.t 74) (.t 76) 2)),.mk 7 255 true (kO 78 77 0),.mk 8 511 true (kL 79 78),.mk 9 512 true (kM 80 0),.mk 10
  1536 true (kC 81 80),.mk 11 3584 true (kO 82 81 10),.mk 12 7680 true (kO 83 82 4),.mk 13 15872 true (kL 84 83),.mk 14 32767 true (.s 85 (.bne (.t 79) (.t
  84)))] []) (.cond (.t 85) (.seq (.reg [7] [kM 86 0,.s 87 (.call 144 [(.t 86),(kI 4)]),kE 88 87 0,kE 89 87 1,.n (.stn (.t 6) (.t 88) 5),kM 7 89]) .ret)
  .skip)) (.seq (.reg [] [kM 90 0,kW 91 5 6,.s 92 (.call 214 [(.t 90),(.t 91)])]) (.seq (.reg [7] [.s 93 (.bld [.i (.ofNat 0),.i (.ofNat 0),.i (.ofNat 0),
  .b false,.z 0 0] .nil),.n (.stn (.t 6) (.t 93) 5),.s 7 (.mv (.c (.b false)))]) .ret)))))))))
theorem fq135 : FF 135 kf135 := cf (em := 38686216523478496599605735) Tryz.func135 (by kernel_rfl) (by kernel_rfl)
def kf136 : KFun := .mk 3 [.cn 6 5,.t 7] (.seq (.reg [5,6,7] [.s 5 (.box (.t 2)),.s 6 (.new [.i (.ofNat 0),.i (.ofNat 0),.i (.ofNat 0),.b false,.z 0 0]),.s 7 (.mv (.c (.b
  false)))]) (.seq (.drw [8,9] [.mk 0 1 true (kM 11 1),.mk 1 3 true (kC 12 11),.mk 2 7 true (kO 13 12 9),.mk 3 15 true (kL 14 13),.mk 4 16 true (kM 15 0),
  .mk 5 48 true (kC 16 15),.mk 6 112 true (kO 17 16 10),.mk 7 240 true (kO 18 17 3),.mk 8 496 true (kL 19 18),.mk 9 1023 false (.s 20 (.call 149 [(.t 14),
  (.t 19)])),.mk 10 2047 true (kM 10 20),.mk 11 4095 true (kE 21 10 0),.mk 12 6143 true (kE 22 10 1),.mk 13 12287 true (kM 8 21),.mk 14 32767 true (kM 9
  22)] [.mk 512 1023 (.s 20 (.call 149 [(.t 14),(.t 19)]))]) (.seq (.seq (.reg [36] [kM 23 9,.s 24 (.cm .ne (.t 23) (kI 0)),kM 25 24,.gs 25 false 26 (.mv (.t
  0)),.gs 25 false 27 (.ck (.t 26)),.gs 25 false 28 (.off (.t 27) 10),.gs 25 false 29 (.off (.t 28) 4),.gs 25 false 30 (.ld (.t 29)),.gs 25 false 31 (.mv
  (.t 30)),.gs 31 true 32 (.mv (.t 8)),.gs 31 true 33 (.call 220 [(.t 32)]),.gs 31 true 34 (.not (.t 33)),.gs 25 false 35 (.pick (.t 31) (.t 34) (.c (.b
  false))),.s 36 (.pick (.t 25) (.c (.b true)) (.t 35))]) (.cond (.t 36) (.seq (.reg [7] [kM 37 0,.s 38 (.call 144 [(.t 37),(kI 10)]),kE 39 38 0,kE 40 38 1,
  .n (.stn (.t 6) (.t 39) 5),kM 7 40]) .ret) .skip)) (.seq (.drw [7] [.mk 0 1 true (kM 41 0),.mk 1 2 true (kO 42 5 1),.mk 2 6 true (kL 43 42),.mk 3 8 true
  (kM 44 0),.mk 4 24 true (kC 45 44),.mk 5 56 true (kO 46 45 10),.mk 6 120 true (kO 47 46 4),.mk 7 248 true (kL 48 47),.mk 8 256 true (kM 49 8),.mk 9 1016
  true (.s 50 (.bld [.b false,.z 0 0] (.cons 0 1 (.t 48) (.cons 1 1 (.t 49) .nil)))),.mk 10 2047 false (.s 51 (.call 210 [(.t 41),(.t 43),(.t 50)])),.mk 11
  4095 true (kE 52 51 0),.mk 12 6143 true (kE 53 51 1),.mk 13 16383 false (.n (.stn (.t 6) (.t 52) 5)),.mk 14 32767 true (kM 7 53)] [.mk 9216 2047 (.s 51
  (.call 210 [(.t 41),(.t 43),(.t 50)])),.mk 8192 16383 (.n (.stn (.t 6) (.t 52) 5))]) .ret))))
theorem fq136 : FF 136 kf136 := cf (em := 68719477735) Tryz.func136 (by kernel_rfl) (by kernel_rfl)
def kf137 : KFun := .mk 2 [.cn 4 5,.t 5] (.seq (.reg [4,5] [.s 4 (.new [.i (.ofNat 0),.i (.ofNat 0),.i (.ofNat 0),.b false,.z 0 0]),.s 5 (.mv (.c (.b false)))]) (.seq (.seq
  (.drw [27] [.mk 0 1 true (kM 6 1),.mk 1 3 true (kC 7 6),.mk 2 7 true (kO 8 7 9),.mk 3 15 true (kL 9 8),.mk 4 16 true (kM 10 0),.mk 5 48 true (kC 11 10),
  .mk 6 112 true (kO 12 11 10),.mk 7 240 true (kO 13 12 8),.mk 8 496 true (kL 14 13),.mk 9 1008 true (.s 15 (.ixp (.t 14) (kI 0) 2)),.mk 10 2032 true (kO 16
  15 0),.mk 11 4080 true (kL 17 16),.mk 12 4096 true (kM 18 0),.mk 13 12288 true (kC 19 18),.mk 14 28672 true (kO 20 19 10),.mk 15 61440 true (kO 21 20 8),
  .mk 16 126976 true (kL 22 21),.mk 17 258048 true (.s 23 (.ixp (.t 22) (kI 0) 2)),.mk 18 520192 true (kO 24 23 1),.mk 19 1044480 true (kL 25 24),.mk 20
  2097151 false (.s 26 (.call 221 [(.t 9),(.t 17),(.t 25)])),.mk 21 4194303 true (.s 27 (.cm .ne (.t 26) (kI 0)))] [.mk 1048576 2097151 (.s 26 (.call 221 [(.t
  9),(.t 17),(.t 25)]))]) (.cond (.t 27) (.seq (.reg [5] [kM 28 0,.s 29 (.call 144 [(.t 28),(kI 10)]),kE 30 29 0,kE 31 29 1,.n (.stn (.t 4) (.t 30) 5),kM
  5 31]) .ret) .skip)) (.seq (.seq (.reg [] [kM 32 0,kM 33 0,kC 34 33,kO 35 34 10,kO 36 35 8,kL 37 36,.s 38 (.q (.sli (.t 37) 2 (.ok (kI 1)) .no)),kC 39
  32,kO 40 39 10,kO 41 40 8,.n (.st (.t 41) (.t 38))]) (.seq (.reg [48] [kM 42 0,kC 43 42,kO 44 43 10,kO 45 44 8,kL 46 45,.s 47 (.len (.t 46)),.s 48
  (.cm .eq (.t 47) (kI 0))]) (.cond (.t 48) (.reg [] [kM 49 0,kC 50 49,kO 51 50 10,kO 52 51 1,.n (.st (.t 52) (kI 8))]) .skip))) (.seq (.reg [5] [.s 53 (.bld
  [.i (.ofNat 0),.i (.ofNat 0),.i (.ofNat 0),.b false,.z 0 0] .nil),.n (.stn (.t 4) (.t 53) 5),.s 5 (.mv (.c (.b false)))]) .ret))))
theorem fq137 : FF 137 kf137 := cf (em := 281475110928435) Tryz.func137 (by kernel_rfl) (by kernel_rfl)
def kf138 : KFun := .mk 3 [.cn 6 5,.t 7] (.seq (.reg [5,6,7] [.s 5 (.box (.t 2)),.s 6 (.new [.i (.ofNat 0),.i (.ofNat 0),.i (.ofNat 0),.b false,.z 0 0]),.s 7 (.mv (.c (.b
  false)))]) (.seq (.seq (.drw [20] [.mk 0 1 true (kM 8 1),.mk 1 3 true (kC 9 8),.mk 2 7 true (kO 10 9 11),.mk 3 15 true (kL 11 10),.mk 4 16 true (kM 12 0),
  .mk 5 48 true (kC 13 12),.mk 6 112 true (kO 14 13 10),.mk 7 240 true (kO 15 14 7),.mk 8 496 true (kL 16 15),.mk 9 1008 true (.s 17 (.ixp (.t 16) (kI 0)
  1)),.mk 10 2032 true (kL 18 17),.mk 11 4095 false (.s 19 (.call 222 [(.t 11),(.t 18)])),.mk 12 8191 true (.s 20 (.not (.t 19)))] [.mk 2048 4095 (.s 19
  (.call 222 [(.t 11),(.t 18)]))]) (.cond (.t 20) (.seq (.reg [7] [kM 21 0,.s 22 (.call 144 [(.t 21),(kI 10)]),kE 23 22 0,kE 24 22 1,.n (.stn (.t 6) (.t
  23) 5),kM 7 24]) .ret) .skip)) (.seq (.drw [7] [.mk 0 1 true (kM 25 0),.mk 1 2 true (kO 26 5 1),.mk 2 6 true (kL 27 26),.mk 3 8 true (kM 28 0),.mk 4 24
  true (kC 29 28),.mk 5 56 true (kO 30 29 10),.mk 6 120 true (kO 31 30 7),.mk 7 248 true (kL 32 31),.mk 8 504 true (.s 33 (.ixp (.t 32) (kI 0) 1)),.mk 9
  1016 true (kL 34 33),.mk 10 2040 true (.s 35 (.call 223 [(.t 34)])),.mk 11 4088 true (.s 36 (.bld [.b false,.z 0 0] (.cons 0 1 (.c (.b true)) (.cons 1 1 (.t
  35) .nil)))),.mk 12 8191 false (.s 37 (.call 210 [(.t 25),(.t 27),(.t 36)])),.mk 13 16383 true (kE 38 37 0),.mk 14 24575 true (kE 39 37 1),.mk 15 65535
  false (.n (.stn (.t 6) (.t 38) 5)),.mk 16 131071 true (kM 7 39)] [.mk 36864 8191 (.s 37 (.call 210 [(.t 25),(.t 27),(.t 36)])),.mk 32768 65535 (.n (.stn
  (.t 6) (.t 38) 5))]) .ret)))
theorem fq138 : FF 138 kf138 := cf (em := 1048807) Tryz.func138 (by kernel_rfl) (by kernel_rfl)
def kf140 : KFun := .mk 3 [.cn 6 5,.t 7] (.seq (.reg [4,6,7] [.s 4 (.box (.t 1)),.s 6 (.new [.i (.ofNat 0),.i (.ofNat 0),.i (.ofNat 0),.b false,.z 0 0]),.s 7 (.mv (.c (.b
  false)))]) (.seq (.drw [8] [.mk 0 1 true (kM 9 0),.mk 1 3 true (kC 10 9),.mk 2 7 true (kO 11 10 6),.mk 3 15 true (kL 12 11),.mk 4 16 true (kM 13 0),.mk 5
  48 true (kC 14 13),.mk 6 112 true (kO 15 14 10),.mk 7 240 true (kO 16 15 0),.mk 8 496 true (kL 17 16),.mk 9 512 true (kM 18 2),.mk 10 2047 true (.s 19
  (.bld [.i (.ofNat 0),.i (.ofNat 0),.i (.ofNat 0),.b false,.z 0 0] (.cons 0 1 (.t 12) (.cons 1 1 (.t 17) (.cons 2 1 (.t 18) .nil))))),.mk 11 2048 false (.s
  8 (.new [.i (.ofNat 0),.i (.ofNat 0),.i (.ofNat 0),.b false,.z 0 0])),.mk 12 8191 false (.n (.stn (.t 8) (.t 19) 5))] [.mk 6144 2048 (.s 8 (.new [.i
  (.ofNat 0),.i (.ofNat 0),.i (.ofNat 0),.b false,.z 0 0])),.mk 4096 8191 (.n (.stn (.t 8) (.t 19) 5))]) (.seq (.seq (.reg [21] [kM 20 2,.s 21 (.cm .eq (.t
  20) (kI 0))]) (.cond (.t 21) (.reg [] [kW 22 4 2,kO 23 8 3,.n (.stn (.t 23) (.t 22) 2)]) .skip)) (.seq (.reg [] [kM 24 0,kC 25 24,kO 26 25 6,kL 27 26,.s
  28 (.ar .add (.t 27) (kI 1)),kC 29 24,kO 30 29 6,.n (.st (.t 30) (.t 28))]) (.seq (.seq (.reg [35] [kM 31 0,kC 32 31,kO 33 32 3,kL 34 33,.s 35 (.cm .ne
  (.t 34) (kI 4))]) (.cond (.t 35) (.reg [] [kM 36 0,kM 37 0,kC 38 36,kO 39 38 3,.n (.st (.t 39) (kI 1)),kC 40 37,kO 41 40 7,.n (.st (.t 41) (kI 0))])
  .skip)) (.seq (.reg [7] [kW 42 8 5,.n (.stn (.t 6) (.t 42) 5),.s 7 (.mv (.c (.b true)))]) .ret))))))
theorem fq140 : FF 140 kf140 := cf (em := 34361835991) Tryz.func140 (by kernel_rfl) (by kernel_rfl)
def kf141 : KFun := .mk 2 [.cn 4 5,.t 5] (.seq (.reg [4,5] [.s 4 (.new [.i (.ofNat 0),.i (.ofNat 0),.i (.ofNat 0),.b false,.z 0 0]),.s 5 (.mv (.c (.b false)))]) (.scope (.seq
  (.reg [6] [.s 6 (.mv (kI 0))]) (.seq (.reg [7,8] [.s 7 (.mv (kI 0)),.s 8 (.mv (.c (.b true)))]) (.seq (.seq (.reg [13] [kM 9 0,kC 10 9,kO 11 10 10,kO 12
  11 1,kL 13 12]) (.blk 0 (.seq (.reg [14] [.s 15 (.cm .eq (.t 13) (kI 4)),kM 14 15]) (.cond (.t 14) (.goto 0) (.seq (.reg [16] [.s 17 (.cm .eq (.t 13) (kI
  5)),kM 16 17]) (.cond (.t 16) (.goto 1) (.seq (.reg [18] [.s 19 (.cm .eq (.t 13) (kI 6)),kM 18 19]) (.cond (.t 18) (.goto 2) .skip)))))))) (.seq (.seq (.drw
  [6] [.mk 0 1 true (kM 21 0),.mk 1 2 true (kM 22 1),.mk 2 6 true (kC 23 22),.mk 3 14 true (kO 24 23 9),.mk 4 30 true (kL 25 24),.mk 5 32 true (kM 26 0),
  .mk 6 96 true (kC 27 26),.mk 7 224 true (kO 28 27 10),.mk 8 480 true (kO 29 28 3),.mk 9 992 true (kL 30 29),.mk 10 2046 false (.s 31 (.call 149 [(.t 25),
  (.t 30)])),.mk 11 4094 true (kM 20 31),.mk 12 8190 true (kE 32 20 0),.mk 13 12286 true (kE 33 20 1),.mk 14 24575 true (kC 34 21),.mk 15 57343 true (kO 35
  34 10),.mk 16 122879 true (kO 36 35 5),.mk 17 253951 false (.n (.st (.t 36) (.t 32))),.mk 18 524287 true (kM 6 33)] [.mk 132096 2046 (.s 31 (.call 149 [(.t
  25),(.t 30)])),.mk 131072 253951 (.n (.st (.t 36) (.t 32)))]) (.seq (.reg [47] [kM 37 6,.s 38 (.cm .ne (.t 37) (kI 0)),kM 39 38,.gs 39 false 40 (.mv (.t
  0)),.gs 39 false 41 (.ck (.t 40)),.gs 39 false 42 (.off (.t 41) 10),.gs 39 false 43 (.off (.t 42) 5),.gs 39 false 44 (.ld (.t 43)),.gs 39 false 45 (.call
  220 [(.t 44)]),.gs 39 false 46 (.not (.t 45)),.s 47 (.pick (.t 39) (.c (.b true)) (.t 46))]) (.cond (.t 47) (.goto 3) .skip))) (.seq (.seq (.reg [8] [kM 49
  0,kC 50 49,kO 51 50 10,kO 52 51 5,kL 53 52,.s 54 (.call 150 [(.t 53)]),kM 48 54,kE 55 48 0,kE 56 48 1,kM 8 56]) (.seq (.reg [57] [kM 57 8]) (.cond (.t
  57) (.seq (.reg [] [kM 58 0,kC 59 58,kO 60 59 10,kO 61 60 1,.n (.st (.t 61) (kI 4))]) (.goto 4)) .skip))) (.seq (.goto 5) (.seq (.label 0) (.seq (.reg [7]
  [kM 63 0,kC 64 63,kO 65 64 10,kO 66 65 5,kL 67 66,.s 68 (.call 150 [(.t 67)]),kM 62 68,kE 69 62 0,kE 70 62 1,kM 7 69]) (.seq (.drw [] [.mk 0 1 true
  (kM 71 1),.mk 1 3 true (kC 72 71),.mk 2 7 true (kO 73 72 10),.mk 3 15 true (kL 74 73),.mk 4 16 true (kM 75 7),.mk 5 32 true (kM 76 0),.mk 6 96 true (kC
  77 76),.mk 7 224 true (kO 78 77 5),.mk 8 480 true (kL 79 78),.mk 9 1023 false (.s 80 (.call 148 [(.t 74),(.t 75),(.t 79)]))] [.mk 512 1023 (.s 80 (.call
  148 [(.t 74),(.t 75),(.t 79)]))]) (.seq (.label 5) (.seq (.reg [] [kM 81 0,kM 82 0,.s 83 (.call 227 [(.t 82)]),kC 84 81,kO 85 84 10,kO 86 85 1,.n (.st
  (.t 86) (.t 83))]) (.seq (.goto 4) (.seq (.label 1) (.seq (.reg [7] [kM 88 0,kC 89 88,kO 90 89 10,kO 91 90 6,kL 92 91,.s 93 (.call 150 [(.t 92)]),kM 87
  93,kE 94 87 0,kE 95 87 1,kM 7 94]) (.seq (.drw [] [.mk 0 1 true (kM 96 1),.mk 1 3 true (kC 97 96),.mk 2 7 true (kO 98 97 10),.mk 3 15 true (kL 99 98),
  .mk 4 16 true (kM 100 7),.mk 5 32 true (kM 101 0),.mk 6 96 true (kC 102 101),.mk 7 224 true (kO 103 102 5),.mk 8 480 true (kL 104 103),.mk 9 1023 false
  (.s 105 (.call 148 [(.t 99),(.t 100),(.t 104)]))] [.mk 512 1023 (.s 105 (.call 148 [(.t 99),(.t 100),(.t 104)]))]) (.seq (.reg [] [kM 106 0,kC 107 106,kO
  108 107 10,kO 109 108 1,.n (.st (.t 109) (kI 6))]) (.seq (.goto 4) (.seq (.label 2) (.seq (.seq (.drw [125] [.mk 0 1 true (kM 110 1),.mk 1 3 true (kC 111
  110),.mk 2 7 true (kO 112 111 9),.mk 3 15 true (kL 113 112),.mk 4 16 true (kM 114 0),.mk 5 48 true (kC 115 114),.mk 6 112 true (kO 116 115 10),.mk 7 240
  true (kO 117 116 3),.mk 8 496 true (kL 118 117),.mk 9 512 true (kM 119 0),.mk 10 1536 true (kC 120 119),.mk 11 3584 true (kO 121 120 10),.mk 12 7680 true
  (kO 122 121 6),.mk 13 15872 true (kL 123 122),.mk 14 32767 false (.s 124 (.call 221 [(.t 113),(.t 118),(.t 123)])),.mk 15 65535 true (.s 125 (.cm .eq (.t
  124) (kI 0)))] [.mk 16384 32767 (.s 124 (.call 221 [(.t 113),(.t 118),(.t 123)]))]) (.cond (.t 125) (.seq (.reg [5] [kM 126 0,.s 127 (.bld [.b false,.z 0
  0] .nil),.s 128 (.call 140 [(.t 126),(.t 127),(kI 0)]),kE 129 128 0,kE 130 128 1,.n (.stn (.t 4) (.t 129) 5),kM 5 130]) .ret) .skip)) (.seq (.label 3)
  (.seq (.seq (.reg [5] [kM 131 0,.s 132 (.call 144 [(.t 131),(kI 10)]),kE 133 132 0,kE 134 132 1,.n (.stn (.t 4) (.t 133) 5),kM 5 134]) .ret) (.seq
  (.label 4) (.seq (.reg [5] [.s 135 (.bld [.i (.ofNat 0),.i (.ofNat 0),.i (.ofNat 0),.b false,.z 0 0] .nil),.n (.stn (.t 4) (.t 135) 5),.s 5 (.mv (.c (.b
  false)))]) .ret)))))))))))))))))))))))))
theorem fq141 : FF 141 kf141 := cf (em := 42535295865117307933066081854535590387) Tryz.func141 (by kernel_rfl) (by kernel_rfl)
def kf142 : KFun := .mk 2 [.cn 4 3] (.seq (.reg [4] [.s 4 (.new [.i (.ofNat 0),.ns,.i (.ofNat 0)])]) (.seq (.reg [] [kM 7 0,kC 8 7,kO 9 8 3,kL 10 9,.s 11 (.ar .add (.t 10) (kI
  1)),kC 12 7,kO 13 12 3,.n (.st (.t 13) (.t 11))]) (.seq (.reg [5,6] [kM 15 0,kC 16 15,kO 17 16 4,kO 18 17 11,kL 19 18,kM 20 1,.s 21 (.call 228 [(.t
  19),(.t 20)]),kM 14 21,kE 22 14 0,kE 23 14 1,.s 5 (.new [.i (.ofNat 0),.i (.ofNat 0),.i (.ofNat 0),.i (.ofNat 0),.i (.ofNat 0),.i (.ofNat 0),.ns]),
  .n (.stn (.t 5) (.t 22) 7),kM 6 23]) (.seq (.blk 0 (.seq (.reg [24] [kM 25 6,.s 26 (.not (.t 25)),kM 24 26]) (.cond (.t 24) (.seq (.reg [] [.s 27 (.call 229
  [(kI 3)]),.n (.stn (.t 4) (.t 27) 3)]) .ret) (.seq (.reg [28] [kO 29 5 3,kL 30 29,.s 31 (.cm .eq (.t 30) (kI 0)),kM 28 31]) (.cond (.t 28) (.seq (.reg []
  [.s 32 (.call 229 [(kI 0)]),.n (.stn (.t 4) (.t 32) 3)]) .ret) .skip))))) (.seq (.reg [] [kM 33 0,kC 34 33,kO 35 34 4,kO 36 35 11,kL 37 36,kM 38 1,.s 39
  (.call 230 [(.t 37),(.t 38)])]) (.seq (.seq (.reg [42] [kO 40 5 3,kL 41 40,.s 42 (.cm .eq (.t 41) (kI 2))]) (.cond (.t 42) (.seq (.reg [] [.s 43 (.call 229
  [(kI 2)]),.n (.stn (.t 4) (.t 43) 3)]) .ret) .skip)) (.seq (.reg [] [kO 44 5 6,kL 45 44,kO 46 5 5,kL 47 46,.s 48 (.bld [.i (.ofNat 0),.ns,.i (.ofNat 0)]
  (.cons 0 1 (kI 1) (.cons 1 1 (.t 45) (.cons 2 1 (.t 47) .nil)))),.n (.stn (.t 4) (.t 48) 3)]) .ret)))))))
theorem fq142 : FF 142 kf142 := cf (em := 4398331723891) Tryz.func142 (by kernel_rfl) (by kernel_rfl)
def kf143 : KFun := .mk 4 [.t 8] (.seq (.reg [6,7,8] [.s 6 (.box (.t 2)),.s 7 (.box (.t 3)),.s 8 (.mv (.c (.b false)))]) (.seq (.reg [9] [.s 9 (.mv (kI 0))]) (.seq (.seq (.reg
  [12] [kO 10 6 0,kL 11 10,.s 12 (.cm .eq (.t 11) (kI 1))]) (.cond (.t 12) (.drw [9] [.mk 0 1 true (kM 14 0),.mk 1 2 true (kM 15 1),.mk 2 6 true (kC 16 15),
  .mk 3 14 true (kO 17 16 0),.mk 4 30 true (kW 18 17 9),.mk 5 32 true (kO 19 6 2),.mk 6 96 true (kL 20 19),.mk 7 128 true (kO 21 7 1),.mk 8 384 true (kL 22
  21),.mk 9 1022 false (.s 23 (.call 231 [(.t 18),(.t 20),(.t 22)])),.mk 10 2046 true (kM 13 23),.mk 11 4094 true (kE 24 13 0),.mk 12 6142 true (kE 25 13
  1),.mk 13 12287 true (kC 26 14),.mk 14 28671 true (kO 27 26 10),.mk 15 61439 true (kO 28 27 8),.mk 16 126975 false (.n (.st (.t 28) (.t 24))),.mk 17
  262143 true (kM 9 25)] [.mk 66048 1022 (.s 23 (.call 231 [(.t 18),(.t 20),(.t 22)])),.mk 65536 126975 (.n (.st (.t 28) (.t 24)))]) (.drw [9] [.mk 0 1 true
  (kM 30 0),.mk 1 2 true (kM 31 1),.mk 2 6 true (kC 32 31),.mk 3 14 true (kO 33 32 0),.mk 4 30 true (kW 34 33 9),.mk 5 32 true (kO 35 6 2),.mk 6 96 true
  (kL 36 35),.mk 7 128 true (kO 37 6 4),.mk 8 384 true (kL 38 37),.mk 9 512 true (kO 39 7 1),.mk 10 1536 true (kL 40 39),.mk 11 2048 true (kO 41 7 2),.mk
  12 6144 true (kL 42 41),.mk 13 16382 false (.s 43 (.call 232 [(.t 34),(.t 36),(.t 38),(.t 40),(.t 42)])),.mk 14 32766 true (kM 29 43),.mk 15 65534 true
  (kE 44 29 0),.mk 16 98302 true (kE 45 29 1),.mk 17 196607 true (kC 46 30),.mk 18 458751 true (kO 47 46 10),.mk 19 983039 true (kO 48 47 8),.mk 20 2031615
  false (.n (.st (.t 48) (.t 44))),.mk 21 4194303 true (kM 9 45)] [.mk 1056768 16382 (.s 43 (.call 232 [(.t 34),(.t 36),(.t 38),(.t 40),(.t 42)])),.mk
  1048576 2031615 (.n (.st (.t 48) (.t 44)))]))) (.seq (.reg [] [kM 49 0,kO 50 7 1,kL 51 50,kC 52 49,kO 53 52 10,kO 54 53 7,.n (.st (.t 54) (.t 51))])
  (.seq (.reg [] [kM 55 0,kM 56 0,kC 57 55,kO 58 57 3,.n (.st (.t 58) (kI 2)),kC 59 56,kO 60 59 10,kO 61 60 1,.n (.st (.t 61) (kI 7))]) (.seq (.reg [8]
  [kM 62 9,.s 63 (.cm .eq (.t 62) (kI 0)),kM 8 63]) .ret))))))
theorem fq143 : FF 143 kf143 := cf (em := 5071) Tryz.func143 (by kernel_rfl) (by kernel_rfl)
def kf144 : KFun := .mk 2 [.cn 4 5,.t 5] (.seq (.reg [4,5] [.s 4 (.new [.i (.ofNat 0),.i (.ofNat 0),.i (.ofNat 0),.b false,.z 0 0]),.s 5 (.mv (.c (.b false)))]) (.seq (.reg
  [5] [kM 6 0,.s 7 (.bld [.b false,.z 0 0] .nil),kM 8 1,.s 9 (.call 140 [(.t 6),(.t 7),(.t 8)]),kE 10 9 0,kE 11 9 1,.n (.stn (.t 4) (.t 10) 5),kM 5
  11]) .ret))
theorem fq144 : FF 144 kf144 := cf (em := 51) Tryz.func144 (by kernel_rfl) (by kernel_rfl)
def kf146 : KFun := .mk 1 [] (.seq (.reg [] [kM 2 0,kC 3 2,kO 4 3 3,kL 5 4,.s 6 (.ar .add (.t 5) (kI 1)),kC 7 2,kO 8 7 3,.n (.st (.t 8) (.t 6))]) (.seq (.reg [] [kM 9 0,kC
  10 9,kO 11 10 2,.n (.st (.t 11) (.c (.b false)))]) (.reg [] [kM 12 0,kC 13 12,kO 14 13 4,kO 15 14 11,kL 16 15,.s 17 (.call 233 [(.t 16)])])))
theorem fq146 : FF 146 kf146 := cf (em := 1) Tryz.func146 (by kernel_rfl) (by kernel_rfl)
def kf147 : KFun := .mk 2 [.t 4] (.seq (.reg [4] [.s 4 (.mv (.c (.b false)))]) (.seq (.seq (.drw [13] [.mk 0 1 true (kM 5 1),.mk 1 3 true (kC 6 5),.mk 2 7 true (kO 7 6 12),.mk 3
  15 true (kL 8 7),.mk 4 16 true (kM 9 0),.mk 5 48 true (kC 10 9),.mk 6 112 true (kO 11 10 2),.mk 7 240 true (kL 12 11),.mk 8 511 false (.s 13 (.call 234
  [(.t 8),(.t 12)]))] [.mk 256 511 (.s 13 (.call 234 [(.t 8),(.t 12)]))]) (.cond (.t 13) (.reg [] [kM 14 0,kC 15 14,kO 16 15 2,kL 17 16,.s 18 (.ar .add (.t
  17) (kI 1)),kC 19 14,kO 20 19 2,.n (.st (.t 20) (.t 18))]) .skip)) (.seq (.drw [4] [.mk 0 1 true (kM 21 0),.mk 1 3 true (kC 22 21),.mk 2 7 true (kO 23 22
  2),.mk 3 15 true (kL 24 23),.mk 4 16 true (kM 25 1),.mk 5 48 true (kC 26 25),.mk 6 112 true (kO 27 26 0),.mk 7 240 true (kO 28 27 3),.mk 8 496 true (kL
  29 28),.mk 9 1023 true (.s 30 (.cm .eq (.t 24) (.t 29))),.mk 10 2047 true (kM 4 30)] []) .ret)))
theorem fq147 : FF 147 kf147 := cf (em := 8211) Tryz.func147 (by kernel_rfl) (by kernel_rfl)
def kf148 : KFun := .mk 3 [.t 6] (.seq (.reg [6] [.s 6 (.mv (.c (.b false)))]) (.seq (.reg [] [kM 7 0,kC 8 7,kO 9 8 2,kL 10 9,.s 11 (.ar .add (.t 10) (kI 1)),kC 12 7,kO 13 12
  2,.n (.st (.t 13) (.t 11))]) (.seq (.seq (.reg [21] [kM 14 0,kC 15 14,kO 16 15 0,kW 17 16 1,kM 18 1,kM 19 2,.s 20 (.call 235 [(.t 17),(.t 18),(.t
  19)]),.s 21 (.not (.t 20))]) (.cond (.t 21) (.seq (.reg [6] [.s 6 (.mv (.c (.b false)))]) .ret) .skip)) (.seq (.reg [] [kM 22 0,kC 23 22,kO 24 23 0,kO 25
  24 0,kL 26 25,kM 27 1,kM 28 2,.s 29 (.call 236 [(.t 26),(.t 27),(.t 28)])]) (.seq (.reg [] [kM 30 0,kC 31 30,kO 32 31 1,kL 33 32,kM 34 1,.s 35
  (.call 237 [(.t 33),(.t 34)])]) (.seq (.reg [6] [.s 6 (.mv (.c (.b true)))]) .ret))))))
theorem fq148 : FF 148 kf148 := cf (em := 2097223) Tryz.func148 (by kernel_rfl) (by kernel_rfl)
def kf149 : KFun := .mk 2 [.t 4,.t 5] (.seq (.reg [4,5] [.s 4 (.mv (.c (.z 0 0))),.s 5 (.mv (kI 0))]) (.seq (.reg [] [kM 6 0,kC 7 6,kO 8 7 1,kL 9 8,.s 10 (.ar .add (.t 9) (kI
  1)),kC 11 6,kO 12 11 1,.n (.st (.t 12) (.t 10))]) (.seq (.seq (.reg [16] [kM 13 0,kM 14 1,.s 15 (.call 200 [(.t 13),(.t 14)]),.s 16 (.not (.t 15))])
  (.cond (.t 16) (.seq (.reg [4,5] [.s 4 (.mv (.c (.z 0 0))),.s 5 (.mv (kI 1))]) .ret) .skip)) (.seq (.reg [4,5] [kM 17 0,kC 18 17,kO 19 18 0,kL 20 19,kM
  21 1,.s 22 (.ixp (.t 20) (.t 21) 1),kL 23 22,kM 4 23,.s 5 (.mv (kI 0))]) .ret))))
theorem fq149 : FF 149 kf149 := cf (em := 65587) Tryz.func149 (by kernel_rfl) (by kernel_rfl)
def kf150 : KFun := .mk 1 [.t 2,.t 3] (.seq (.reg [2,3] [.s 2 (.mv (kI 0)),.s 3 (.mv (.c (.b false)))]) (.seq (.reg [4,5] [kM 7 0,.s 8 (.re (.t 7)),.s 9 (.q (.cplx (.t 8) (.c
  (.f 0)))),.s 10 (.call 225 [(.t 9)]),kM 6 10,kE 11 6 0,kE 12 6 1,kM 4 11,kM 5 12]) (.seq (.seq (.reg [30] [kM 13 5,.s 14 (.not (.t 13)),kM 15 14,.gs
  15 false 16 (.mv (.t 4)),.gs 15 false 17 (.cm .lt (.t 16) (kI 1)),.s 18 (.pick (.t 15) (.c (.b true)) (.t 17)),kM 19 18,.gs 19 false 20 (.mv (.t 4)),.gs
  19 false 21 (.cm .gt (.t 20) (kI 1099511627777)),.s 22 (.pick (.t 19) (.c (.b true)) (.t 21)),kM 23 22,.gs 23 false 24 (.mv (.t 0)),.gs 23 false 25 (.mv
  (.t 4)),.gs 23 false 26 (.ar .sub (.t 25) (kI 1)),.gs 23 false 27 (.call 223 [(.t 26)]),.gs 23 false 28 (.call 238 [(.t 24),(.t 27)]),.gs 23 false 29
  (.not (.t 28)),.s 30 (.pick (.t 23) (.c (.b true)) (.t 29))]) (.cond (.t 30) (.seq (.reg [2,3] [.s 2 (.mv (kI 0)),.s 3 (.mv (.c (.b false)))]) .ret) .skip))
  (.seq (.reg [2,3] [kM 31 4,.s 32 (.ar .sub (.t 31) (kI 1)),kM 2 32,.s 3 (.mv (.c (.b true)))]) .ret))))
theorem fq150 : FF 150 kf150 := cf (em := 1073741885) Tryz.func150 (by kernel_rfl) (by kernel_rfl)
def kf151 : KFun := .mk 1 [.t 2,.t 3] (.seq (.reg [2,3] [.s 2 (.mv (kI 0)),.s 3 (.mv (.c (.b false)))]) (.seq (.reg [] [kM 4 0,kC 5 4,kO 6 5 2,kL 7 6,.s 8 (.ar .add (.t 7)
  (kI 1)),kC 9 4,kO 10 9 2,.n (.st (.t 10) (.t 8))]) (.seq (.reg [2,3] [kM 11 0,kC 12 11,kO 13 12 1,kL 14 13,.s 15 (.call 239 [(.t 14)]),kE 16 15 0,kE
  17 15 1,kM 2 16,kM 3 17]) .ret)))
theorem fq151 : FF 151 kf151 := cf (em := 13) Tryz.func151 (by kernel_rfl) (by kernel_rfl)
def kf152 : KFun := .mk 3 [.t 6] (.seq (.reg [3,6] [.s 3 (.box (.t 0)),.s 6 (.mv (.c (.np)))]) (.seq (.reg [6] [kW 7 3 9,.s 8 (.call 124 [(.t 7)]),kM 9 1,kM 10 2,kM 11 1,.s
  12 (.bld [.i (.ofNat 0),.i (.ofNat 0),.i (.ofNat 0),.i (.ofNat 0),.i (.ofNat 0),.i (.ofNat 0),.i (.ofNat 0),.i (.ofNat 0),.ns,.i (.ofNat 0),.b false,
  .i (.ofNat 0),.b false,.ns,.i (.ofNat 0),.i (.ofNat 0),.ns,.i (.ofNat 0),.i (.ofNat 0),.i (.ofNat 0),.i (.ofNat 0),.i (.ofNat 0),.i (.ofNat 0)]
  (.cons 0 9 (.t 8) (.cons 9 1 (.t 9) (.cons 10 1 (.t 10) (.cons 14 1 (.t 11) .nil))))),.s 13 (.box (.t 12)),kM 6 13]) .ret))
theorem fq152 : FF 152 kf152 := cf (em := 79) Tryz.func152 (by kernel_rfl) (by kernel_rfl)
def kf153 : KFun := .mk 2 [.t 4] (.seq (.reg [4] [.s 4 (.mv (.c (.b false)))]) (.seq (.seq (.drw [18] [.mk 0 1 true (kM 5 0),.mk 1 3 true (kC 6 5),.mk 2 7 true (kO 7 6 5),.mk 3
  15 true (kL 8 7),.mk 4 16 true (kM 9 1),.mk 5 48 true (kC 10 9),.mk 6 112 true (kO 11 10 9),.mk 7 240 true (kL 12 11),.mk 8 256 true (kM 13 1),.mk 9 768
  true (kC 14 13),.mk 10 1792 true (kO 15 14 10),.mk 11 3840 true (kL 16 15),.mk 12 8191 false (.s 17 (.call 240 [(.t 8),(.t 12),(.t 16)])),.mk 13 16383
  true (.s 18 (.not (.t 17)))] [.mk 4096 8191 (.s 17 (.call 240 [(.t 8),(.t 12),(.t 16)]))]) (.cond (.t 18) (.seq (.reg [4] [.s 4 (.mv (.c (.b false)))]) .ret)
  .skip)) (.seq (.reg [] [kM 19 0,kM 20 0,kC 21 20,kO 22 21 5,kL 23 22,.s 24 (.call 241 [(.t 23)]),kC 25 19,kO 26 25 13,.n (.st (.t 26) (.t 24))]) (.seq
  (.reg [4] [.s 4 (.mv (.c (.b true)))]) .ret))))
theorem fq153 : FF 153 kf153 := cf (em := 262163) Tryz.func153 (by kernel_rfl) (by kernel_rfl)
def kf155 : KFun := .mk 1 [.t 2] (.seq (.reg [2] [.s 2 (.mv (.c (.b false)))]) (.seq (.reg [] [kM 4 0,kC 5 4,kO 6 5 2,kL 7 6,.s 8 (.ar .add (.t 7) (kI 1)),kC 9 4,kO 10 9 2,.n
  (.st (.t 10) (.t 8))]) (.seq (.reg [3] [kM 11 0,kC 12 11,kO 13 12 1,kL 14 13,.s 15 (.call 242 [(.t 14)]),kM 3 15]) (.seq (.reg [] [kM 16 0,kC 17 16,kO
  18 17 1,kL 19 18,.s 20 (.call 243 [(.t 19)])]) (.seq (.reg [2] [kM 21 3,kM 2 21]) .ret)))))
theorem fq155 : FF 155 kf155 := cf (em := 13) Tryz.func155 (by kernel_rfl) (by kernel_rfl)
def kf157 : KFun := .mk 1 [.t 2] (.seq (.reg [2] [.s 2 (.mv (.c (.b false)))]) (.seq (.reg [] [kM 3 0,kC 4 3,kO 5 4 3,kL 6 5,.s 7 (.ar .add (.t 6) (kI 1)),kC 8 3,kO 9 8 3,.n
  (.st (.t 9) (.t 7))]) (.seq (.reg [2] [kM 10 0,kC 11 10,kO 12 11 4,kO 13 12 10,kL 14 13,.s 15 (.call 244 [(.t 14)]),kM 2 15]) .ret)))
theorem fq157 : FF 157 kf157 := cf (em := 5) Tryz.func157 (by kernel_rfl) (by kernel_rfl)
def kf158 : KFun := .mk 1 [.t 2] (.seq (.reg [1,2] [.s 1 (.box (.t 0)),.s 2 (.mv (.c (.np)))]) (.seq (.reg [2] [kO 3 1 10,kL 4 3,kM 2 4]) .ret))
theorem fq158 : FF 158 kf158 := cf (em := 7) Tryz.func158 (by kernel_rfl) (by kernel_rfl)
def kf159 : KFun := .mk 1 [.t 2] (.seq (.reg [2] [.s 2 (.mv (kI 0))]) (.seq (.reg [2] [kM 3 0,kC 4 3,kO 5 4 1,kL 6 5,kM 2 6]) .ret))
theorem fq159 : FF 159 kf159 := cf (em := 5) Tryz.func159 (by kernel_rfl) (by kernel_rfl)
def kf160 : KFun := .mk 4 [.t 8] (.seq (.reg [4,8] [.s 4 (.box (.t 0)),.s 8 (.mv (.c (.np)))]) (.seq (.reg [8] [kW 9 4 9,.s 10 (.call 124 [(.t 9)]),kM 11 1,kM 12 2,kM 13 3,.s
  14 (.bld [.i (.ofNat 0),.i (.ofNat 0),.i (.ofNat 0),.i (.ofNat 0),.i (.ofNat 0),.i (.ofNat 0),.i (.ofNat 0),.i (.ofNat 0),.ns,.i (.ofNat 0),.i
  (.ofNat 0),.b false,.i (.ofNat 0),.i (.ofNat 0),.i (.ofNat 0),.i (.ofNat 0),.i (.ofNat 0),.i (.ofNat 0),.z 0 0,.i (.ofNat 0),.i (.ofNat 0),.i
  (.ofNat 0)] (.cons 0 9 (.t 10) (.cons 9 1 (.t 11) (.cons 10 1 (.t 12) (.cons 11 1 (.t 13) .nil))))),.s 15 (.box (.t 14)),kM 8 15]) .ret))
theorem fq160 : FF 160 kf160 := cf (em := 287) Tryz.func160 (by kernel_rfl) (by kernel_rfl)
def kf161 : KFun := .mk 2 [.t 4] (.seq (.reg [4] [.s 4 (.mv (kI 0))]) (.seq (.seq (.reg [10] [kM 5 1,.s 6 (.cm .ne (.t 5) (kI 0)),kM 7 6,.gs 7 true 8 (.mv (.t 1)),.gs 7 true 9
  (.cm .ne (.t 8) (kI 1)),.s 10 (.pick (.t 7) (.t 9) (.c (.b false)))]) (.cond (.t 10) (.seq (.reg [4] [.s 4 (.mv (kI 0))]) .ret) .skip)) (.seq (.reg [4] [kM 11
  0,kM 12 1,kC 13 11,kO 14 13 2,.s 15 (.q (.iar (.t 14) (.t 12) 1 2)),kL 16 15,kM 4 16]) .ret)))
theorem fq161 : FF 161 kf161 := cf (em := 1043) Tryz.func161 (by kernel_rfl) (by kernel_rfl)
def kf162 : KFun := .mk 4 [.t 8] (.seq (.reg [8] [.s 8 (.mv (.c (.b false)))]) (.seq (.seq (.reg [13] [kM 9 0,kC 10 9,kO 11 10 12,kL 12 11,.s 13 (.cm .eq (.t 12) (kI 11))])
  (.cond (.t 13) (.seq (.reg [8] [.s 8 (.mv (.c (.b true)))]) .ret) .skip)) (.seq (.reg [] [kM 14 0,kC 15 14,kO 16 15 21,kL 17 16,.s 18 (.ar .add (.t 17) (kI
  1)),kC 19 14,kO 20 19 21,.n (.st (.t 20) (.t 18))]) (.seq (.seq (.reg [26] [kM 21 0,kM 22 1,kM 23 2,kM 24 3,.s 25 (.call 245 [(.t 21),(.t 22),(.t 23),
  (.t 24)]),.s 26 (.not (.t 25))]) (.cond (.t 26) (.reg [] [kM 27 0,kM 28 0,kC 29 27,kO 30 29 12,.n (.st (.t 30) (kI 11)),kC 31 28,kO 32 31 19,.n (.st
  (.t 32) (kI 10))]) .skip)) (.seq (.reg [8] [kM 33 0,kC 34 33,kO 35 34 12,kL 36 35,.s 37 (.cm .eq (.t 36) (kI 11)),kM 8 37]) .ret)))))
theorem fq162 : FF 162 kf162 := cf (em := 67117327) Tryz.func162 (by kernel_rfl) (by kernel_rfl)
def kf163 : KFun := .mk 1 [.t 2] (.seq (.reg [2] [.s 2 (.mv (kI 0))]) (.seq (.reg [2] [kM 3 0,kC 4 3,kO 5 4 19,kL 6 5,kM 2 6]) .ret))
theorem fq163 : FF 163 kf163 := cf (em := 5) Tryz.func163 (by kernel_rfl) (by kernel_rfl)
def kf164 : KFun := .mk 1 [.t 2] (.seq (.reg [2] [.s 2 (.mv (kI 0))]) (.seq (.reg [2] [kM 3 0,kC 4 3,kO 5 4 20,kL 6 5,kM 2 6]) .ret))
theorem fq164 : FF 164 kf164 := cf (em := 5) Tryz.func164 (by kernel_rfl) (by kernel_rfl)
def kf165 : KFun := .mk 1 [.t 2] (.seq (.reg [2] [.s 2 (.mv (.c (.b false)))]) (.seq (.reg [] [kM 3 0,kC 4 3,kO 5 4 3,kL 6 5,.s 7 (.ar .add (.t 6) (kI 1)),kC 8 3,kO 9 8 3,.n
  (.st (.t 9) (.t 7))]) (.seq (.reg [2] [kM 10 0,kC 11 10,kO 12 11 4,kO 13 12 10,kL 14 13,.s 15 (.call 246 [(.t 14)]),kM 2 15]) .ret)))
theorem fq165 : FF 165 kf165 := cf (em := 5) Tryz.func165 (by kernel_rfl) (by kernel_rfl)
def kf166 : KFun := .mk 3 [.t 6] (.seq (.reg [6] [.s 6 (.mv (.c (.b false)))]) (.seq (.reg [] [kM 7 0,kC 8 7,kO 9 8 3,kL 10 9,.s 11 (.ar .add (.t 10) (kI 1)),kC 12 7,kO 13 12
  3,.n (.st (.t 13) (.t 11))]) (.seq (.seq (.reg [29] [kM 14 0,kC 15 14,kO 16 15 0,kL 17 16,kM 18 1,.s 19 (.call 78 [(.t 17),(.t 18)]),.s 20 (.cm .ne (.t
  19) (kI 2)),kM 21 20,.gs 21 false 22 (.mv (.t 0)),.gs 21 false 23 (.ck (.t 22)),.gs 21 false 24 (.off (.t 23) 0),.gs 21 false 25 (.ld (.t 24)),.gs 21
  false 26 (.mv (.t 1)),.gs 21 false 27 (.mv (.t 2)),.gs 21 false 28 (.call 28 [(.t 25),(.t 26),(.t 27)]),.s 29 (.pick (.t 21) (.c (.b true)) (.t 28))])
  (.cond (.t 29) (.seq (.reg [6] [.s 6 (.mv (.c (.b false)))]) .ret) .skip)) (.seq (.reg [] [kM 30 0,kM 31 1,.s 32 (.call 205 [(.t 30),(.t 31)])]) (.seq (.reg
  [6] [.s 6 (.mv (.c (.b true)))]) .ret)))))
theorem fq166 : FF 166 kf166 := cf (em := 536870983) Tryz.func166 (by kernel_rfl) (by kernel_rfl)
def kf167 : KFun := .mk 1 [] (.seq (.reg [] [kM 2 0,kC 3 2,kO 4 3 3,kL 5 4,.s 6 (.ar .add (.t 5) (kI 1)),kC 7 2,kO 8 7 3,.n (.st (.t 8) (.t 6))]) (.reg [] [kM 9 0,kC 10 9,
  kO 11 10 4,kO 12 11 11,kL 13 12,.s 14 (.call 247 [(.t 13)])]))
theorem fq167 : FF 167 kf167 := cf (em := 1) Tryz.func167 (by kernel_rfl) (by kernel_rfl)
end Go.Kx
