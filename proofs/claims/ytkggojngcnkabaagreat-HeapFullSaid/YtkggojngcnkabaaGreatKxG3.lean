/-
  Functions of the program in the evaluator's form; that this is right. Printed by a program of ours.
-/
import Derived.Test.YtkggojngcnkabaaGreatB11
set_option linter.unusedVariables false
set_option linter.unusedSimpArgs false
set_option maxRecDepth 100000
namespace Go.Kx
open Go.Proofs
def kf168 : KFun := .mk 2 [.t 4] (.seq (.reg [4] [.s 4 (.mv (.c (.b false)))]) (.seq (.reg [] [kM 9 0,kC 10 9,kO 11 10 3,kL 12 11,.s 13 (.ar .add (.t 12) (kI 1)),kC 14 9,kO 15
  14 3,.n (.st (.t 15) (.t 13))]) (.seq (.reg [5,6] [kM 17 0,kC 18 17,kO 19 18 4,kO 20 19 11,kL 21 20,.s 22 (.call 248 [(.t 21)]),kM 16 22,kE 23 16 0,
  kE 24 16 1,.s 5 (.new [.i (.ofNat 0),.i (.ofNat 0),.i (.ofNat 0),.i (.ofNat 0),.i (.ofNat 0),.i (.ofNat 0),.ns]),.n (.stn (.t 5) (.t 23) 7),kM 6 24])
  (.seq (.blk 0 (.seq (.reg [25] [kM 26 6,.s 27 (.not (.t 26)),kM 25 27]) (.cond (.t 25) (.seq (.reg [4] [.s 4 (.mv (.c (.b false)))]) .ret) (.seq (.drw [28]
  [.mk 0 1 true (kM 29 0),.mk 1 3 true (kC 30 29),.mk 2 7 true (kO 31 30 4),.mk 3 15 true (kW 32 31 12),.mk 4 16 true (kO 33 5 1),.mk 5 48 true (kL 34 33),
  .mk 6 64 true (kO 35 5 2),.mk 7 192 true (kL 36 35),.mk 8 511 false (.s 37 (.call 249 [(.t 32),(.t 34),(.t 36)])),.mk 9 1023 true (kM 28 37)] [.mk 256 511
  (.s 37 (.call 249 [(.t 32),(.t 34),(.t 36)]))]) (.cond (.t 28) (.seq (.drw [7,8] [.mk 0 1 true (kM 39 0),.mk 1 3 true (kC 40 39),.mk 2 7 true (kO 41 40
  4),.mk 3 15 true (kW 42 41 12),.mk 4 16 true (kO 43 5 1),.mk 5 48 true (kL 44 43),.mk 6 64 true (kO 45 5 2),.mk 7 192 true (kL 46 45),.mk 8 511 false (.s
  47 (.call 250 [(.t 42),(.t 44),(.t 46)])),.mk 9 1023 true (kM 38 47),.mk 10 2047 true (kE 48 38 0),.mk 11 3071 true (kE 49 38 1),.mk 12 6143 true (kM 7
  48),.mk 13 16383 true (kM 8 49)] [.mk 256 511 (.s 47 (.call 250 [(.t 42),(.t 44),(.t 46)]))]) (.seq (.reg [] [kM 50 0,kM 51 7,kM 52 1,.s 53 (.call 251
  [(.t 50),(.t 51),(kI 2),(.t 52)])]) (.seq (.reg [4] [kM 54 0,kC 55 54,kO 56 55 4,kO 57 56 11,kL 58 57,kM 59 7,kM 60 8,.s 61 (.call 252 [(.t 58),(.t
  59),(.t 60)]),kM 4 61]) .ret))) (.seq (.reg [62] [kO 63 5 4,kL 64 63,.s 65 (.cm .ge (.t 64) (kI 2)),kM 62 65]) (.cond (.t 62) (.seq (.reg [4] [kM 66 0,kC
  67 66,kO 68 67 4,kO 69 68 11,kL 70 69,.s 71 (.call 253 [(.t 70)]),kM 4 71]) .ret) .skip))))))) (.seq (.reg [4] [.s 4 (.mv (.c (.b false)))]) .ret)))))
theorem fq168 : FF 168 kf168 := cf (em := 4611686018729378291) Tryz.func168 (by kernel_rfl) (by kernel_rfl)
def kf169 : KFun := .mk 1 [.t 2] (.seq (.reg [2] [.s 2 (.mv (kI 0))]) (.seq (.reg [3] [.s 3 (.mv (kI 0))]) (.seq (.seq (.reg [9,10,11] [kM 6 0,kC 7 6,kO 8 7 0,kL 9 8,.s 10
  (.len (.t 9)),.s 11 (.mv (kI 0))]) (.blk 0 (.loop (.seq (.reg [12] [.s 12 (.cm .lt (.t 11) (.t 10))]) (.seq (.cond (.t 12) .skip (.exit 0)) (.seq (.blk 1
  (.seq (.reg [5] [.s 13 (.ixp (.t 9) (.t 11) 8),kW 14 13 8,.s 5 (.new [.i (.ofNat 0),.i (.ofNat 0),.i (.ofNat 0),.i (.ofNat 0),.i (.ofNat 0),.i (.ofNat
  0),.ns,.b false]),.n (.stn (.t 5) (.t 14) 8)]) (.seq (.reg [18] [kO 15 5 0,kO 16 15 3,kL 17 16,.s 18 (.cm .eq (.t 17) (kI 0))]) (.cond (.t 18) (.reg [3]
  [kM 19 3,.s 20 (.ar .add (.t 19) (kI 1)),kM 3 20]) .skip)))) (.reg [11] [.s 21 (.ar .add (.t 11) (kI 1)),kM 11 21]))))))) (.seq (.reg [2] [kM 22 3,kM 2
  22]) .ret))))
theorem fq169 : FF 169 kf169 := cf (em := 269869) Tryz.func169 (by kernel_rfl) (by kernel_rfl)
def kf171 : KFun := .mk 1 [.t 2,.t 3,.t 4] (.seq (.reg [2,3,4] [.s 2 (.mv (kI 0)),.s 3 (.mv (kI 0)),.s 4 (.mv (.c (.b false)))]) (.seq (.reg [5,6] [kM 10 0,.s 11 (.re (.t
  10)),.s 12 (.q (.cplx (.t 11) (.c (.f 0)))),.s 13 (.call 225 [(.t 12)]),kM 9 13,kE 14 9 0,kE 15 9 1,kM 5 14,kM 6 15]) (.seq (.reg [7,8] [kM 17 0,.s 18
  (.im (.t 17)),.s 19 (.q (.cplx (.t 18) (.c (.f 0)))),.s 20 (.call 225 [(.t 19)]),kM 16 20,kE 21 16 0,kE 22 16 1,kM 7 21,kM 8 22]) (.seq (.seq (.reg [44]
  [kM 23 6,.s 24 (.not (.t 23)),kM 25 24,.gs 25 false 26 (.mv (.t 8)),.gs 25 false 27 (.not (.t 26)),.s 28 (.pick (.t 25) (.c (.b true)) (.t 27)),kM 29 28,
  .gs 29 false 30 (.mv (.t 5)),.gs 29 false 31 (.cm .lt (.t 30) (kI 0)),.s 32 (.pick (.t 29) (.c (.b true)) (.t 31)),kM 33 32,.gs 33 false 34 (.mv (.t 5)),
  .gs 33 false 35 (.cm .gt (.t 34) (kI 1099511627776)),.s 36 (.pick (.t 33) (.c (.b true)) (.t 35)),kM 37 36,.gs 37 false 38 (.mv (.t 7)),.gs 37 false 39
  (.cm .lt (.t 38) (kI 0)),.s 40 (.pick (.t 37) (.c (.b true)) (.t 39)),kM 41 40,.gs 41 false 42 (.mv (.t 7)),.gs 41 false 43 (.cm .gt (.t 42) (kI
  1099511627776)),.s 44 (.pick (.t 41) (.c (.b true)) (.t 43))]) (.cond (.t 44) (.seq (.reg [2,3,4] [.s 2 (.mv (kI 0)),.s 3 (.mv (kI 0)),.s 4 (.mv (.c (.b
  false)))]) .ret) .skip)) (.seq (.reg [2,3,4] [kM 45 5,kM 46 7,kM 2 45,kM 3 46,.s 4 (.mv (.c (.b true)))]) .ret)))))
theorem fq171 : FF 171 kf171 := cf (em := 17592186044925) Tryz.func171 (by kernel_rfl) (by kernel_rfl)
def kf173 : KFun := .mk 2 [.cn 4 2,.t 5] (.seq (.reg [2,4,5] [.s 2 (.box (.t 0)),.s 4 (.new [.b false,.ns]),.s 5 (.mv (.c (.b false)))]) (.seq (.seq (.reg [14] [kM 6 1,.s 7
  (.cm .lt (.t 6) (kI 0)),kM 8 7,.gs 8 false 9 (.mv (.t 1)),.gs 8 false 10 (.off (.t 2) 8),.gs 8 false 11 (.ld (.t 10)),.gs 8 false 12 (.len (.t 11)),.gs 8
  false 13 (.cm .ge (.t 9) (.t 12)),.s 14 (.pick (.t 8) (.c (.b true)) (.t 13))]) (.cond (.t 14) (.seq (.reg [5] [.s 15 (.bld [.b false,.ns] .nil),.n (.stn
  (.t 4) (.t 15) 2),.s 5 (.mv (.c (.b false)))]) .ret) .skip)) (.seq (.reg [5] [kO 16 2 8,kL 17 16,kM 18 1,.s 19 (.ixp (.t 17) (.t 18) 2),kW 20 19 2,.s 21
  (.call 201 [(.t 20)]),.n (.stn (.t 4) (.t 21) 2),.s 5 (.mv (.c (.b true)))]) .ret)))
theorem fq173 : FF 173 kf173 := cf (em := 16439) Tryz.func173 (by kernel_rfl) (by kernel_rfl)
def kf187 : KFun := .mk 3 [.t 6] (.seq (.reg [6] [.s 6 (.mv (.c (.b false)))]) (.seq (.reg [6] [kM 7 0,kM 8 1,.s 9 (.cm .ge (.t 7) (.t 8)),kM 10 9,.gs 10 true 11 (.mv (.t 0)),
  .gs 10 true 12 (.mv (.t 2)),.gs 10 true 13 (.cm .le (.t 11) (.t 12)),.s 14 (.pick (.t 10) (.t 13) (.c (.b false))),kM 6 14]) .ret))
theorem fq187 : FF 187 kf187 := cf (em := 71) Tryz.func187 (by kernel_rfl) (by kernel_rfl)
def kf188 : KFun := .mk 2 [.t 4] (.seq (.reg [4] [.s 4 (.mv (.c (.b false)))]) (.seq (.reg [4] [kM 5 0,kM 6 1,.s 7 (.call 287 [(.t 5),(.t 6)]),.s 8 (.cm .ge (.t 7) (kI 0)),kM 4
  8]) .ret))
theorem fq188 : FF 188 kf188 := cf (em := 19) Tryz.func188 (by kernel_rfl) (by kernel_rfl)
def kf189 : KFun := .mk 1 [.t 2] (.seq (.reg [1,2] [.s 1 (.box (.t 0)),.s 2 (.mv (.c (.b false)))]) (.seq (.reg [2] [kW 3 1 2,.s 4 (.call 190 [(.t 3)]),.s 5 (.not (.t 4)),kM 2
  5]) .ret))
theorem fq189 : FF 189 kf189 := cf (em := 7) Tryz.func189 (by kernel_rfl) (by kernel_rfl)
def kf190 : KFun := .mk 1 [.t 2] (.seq (.reg [1,2] [.s 1 (.box (.t 0)),.s 2 (.mv (.c (.b false)))]) (.seq (.reg [2] [kO 3 1 1,kL 4 3,.s 5 (.len (.t 4)),.s 6 (.cm .le (.t 5) (kI
  40)),kM 7 6,.gs 7 true 8 (.off (.t 1) 0),.gs 7 true 9 (.ld (.t 8)),.gs 7 true 10 (.not (.t 9)),.gs 7 true 11 (.mv (.t 10)),.gs 11 false 12 (.off (.t 1)
  1),.gs 11 false 13 (.ld (.t 12)),.gs 11 false 14 (.len (.t 13)),.gs 11 false 15 (.cm .eq (.t 14) (kI 1)),.gs 7 true 16 (.pick (.t 11) (.c (.b true)) (.t
  15)),.s 17 (.pick (.t 7) (.t 16) (.c (.b false))),kM 2 17]) .ret))
theorem fq190 : FF 190 kf190 := cf (em := 7) Tryz.func190 (by kernel_rfl) (by kernel_rfl)
def kf191 : KFun := .mk 1 [.cn 2 4] (.seq (.reg [1,2] [.s 1 (.box (.t 0)),.s 2 (.new [.i (.ofNat 0),.i (.ofNat 0),.i (.ofNat 0),.i (.ofNat 0)])]) (.seq (.seq (.reg [5] [kW 3 1
  9,.s 4 (.call 115 [(.t 3)]),.s 5 (.cm .ne (.t 4) (kI 0))]) (.cond (.t 5) (.seq (.reg [] [.s 6 (.bld [.i (.ofNat 0),.i (.ofNat 0),.i (.ofNat 0),.i (.ofNat
  0)] .nil),.n (.stn (.t 2) (.t 6) 4)]) .ret) .skip)) (.seq (.reg [] [kO 7 1 0,kL 8 7,.s 9 (.ar .mul (.t 8) (kI 8)),kO 10 1 1,kL 11 10,kO 12 1 1,kL 13 12,
  kO 14 1 2,kL 15 14,.s 16 (.bld [.i (.ofNat 0),.i (.ofNat 0),.i (.ofNat 0),.i (.ofNat 0)] (.cons 0 1 (.t 9) (.cons 1 1 (.t 11) (.cons 2 1 (.t 13) (.cons 3
  1 (.t 15) .nil))))),.n (.stn (.t 2) (.t 16) 4)]) .ret)))
theorem fq191 : FF 191 kf191 := cf (em := 39) Tryz.func191 (by kernel_rfl) (by kernel_rfl)
def kf192 : KFun := .mk 1 [.t 2,.t 3] (.seq (.reg [2,3] [.s 2 (.mv (.c (.np))),.s 3 (.mv (kI 0))]) (.seq (.seq (.reg [9] [kM 4 0,.s 5 (.cm .lt (.t 4) (kI 0)),kM 6 5,.gs 6
  false 7 (.mv (.t 0)),.gs 6 false 8 (.cm .gt (.t 7) (kI 1024)),.s 9 (.pick (.t 6) (.c (.b true)) (.t 8))]) (.cond (.t 9) (.seq (.reg [2,3] [.s 2 (.mv (.c
  (.np))),.s 3 (.mv (kI 1))]) .ret) .skip)) (.seq (.reg [2,3] [kM 10 0,.s 11 (.q (.mks [.i (.ofNat 0),.b false,.b false] 16 (.t 10) (.t 10))),kM 12 0,.s
  13 (.bld [.i (.ofNat 0),.i (.ofNat 0),.i (.ofNat 0)] (.cons 0 1 (.t 12) .nil)),.s 14 (.bld [.ns,.i (.ofNat 0),.i (.ofNat 0),.i (.ofNat 0)] (.cons 0 1 (.t
  11) (.cons 1 3 (.t 13) .nil))),.s 15 (.box (.t 14)),kM 2 15,.s 3 (.mv (kI 0))]) .ret)))
theorem fq192 : FF 192 kf192 := cf (em := 525) Tryz.func192 (by kernel_rfl) (by kernel_rfl)
def kf193 : KFun := .mk 1 [.t 2,.t 3] (.seq (.reg [2,3] [.s 2 (.mv (.c (.np))),.s 3 (.mv (kI 0))]) (.seq (.seq (.reg [9] [kM 4 0,.s 5 (.cm .lt (.t 4) (kI 1)),kM 6 5,.gs 6
  false 7 (.mv (.t 0)),.gs 6 false 8 (.cm .gt (.t 7) (kI 256)),.s 9 (.pick (.t 6) (.c (.b true)) (.t 8))]) (.cond (.t 9) (.seq (.reg [2,3] [.s 2 (.mv (.c
  (.np))),.s 3 (.mv (kI 1))]) .ret) .skip)) (.seq (.reg [2,3] [kM 10 0,.s 11 (.bld [.ns,.i (.ofNat 0),.b false] (.cons 1 1 (.t 10) .nil)),.s 12 (.box (.t
  11)),kM 2 12,.s 3 (.mv (kI 0))]) .ret)))
theorem fq193 : FF 193 kf193 := cf (em := 525) Tryz.func193 (by kernel_rfl) (by kernel_rfl)
def kf194 : KFun := .mk 1 [.t 2] (.seq (.reg [2] [.s 2 (.mv (kI 0))]) (.seq (.reg [2] [kM 3 0,kC 4 3,kO 5 4 0,kL 6 5,.s 7 (.len (.t 6)),kM 2 7]) .ret))
theorem fq194 : FF 194 kf194 := cf (em := 5) Tryz.func194 (by kernel_rfl) (by kernel_rfl)
def kf195 : KFun := .mk 1 [.t 2,.t 3] (.seq (.reg [2,3] [.s 2 (.mv (.c (.np))),.s 3 (.mv (kI 0))]) (.seq (.seq (.reg [11] [kM 6 0,.s 7 (.cm .lt (.t 6) (kI 0)),kM 8 7,.gs 8
  false 9 (.mv (.t 0)),.gs 8 false 10 (.cm .gt (.t 9) (kI 1024)),.s 11 (.pick (.t 8) (.c (.b true)) (.t 10))]) (.cond (.t 11) (.seq (.reg [2,3] [.s 2 (.mv (.c
  (.np))),.s 3 (.mv (kI 1))]) .ret) .skip)) (.seq (.reg [4] [kM 12 0,.s 13 (.q (.mks [.b false] 1 (.t 12) (.t 12))),kM 14 0,.s 15 (.bld [.ns,.i (.ofNat 0)]
  (.cons 0 1 (.t 13) (.cons 1 1 (.t 14) .nil))),.s 16 (.box (.t 15)),kM 4 16]) (.seq (.seq (.reg [21,22] [kM 17 4,kC 18 17,kO 19 18 0,kL 20 19,.s 21 (.len
  (.t 20)),.s 22 (.mv (kI 0))]) (.blk 0 (.loop (.seq (.reg [23] [.s 23 (.cm .lt (.t 22) (.t 21))]) (.seq (.cond (.t 23) .skip (.exit 0)) (.seq (.blk 1 (.seq
  (.reg [5] [kM 24 22,kM 5 24]) (.reg [] [kM 25 4,kC 26 25,kO 27 26 0,kL 28 27,kM 29 5,.s 30 (.ixp (.t 28) (.t 29) 1),.n (.st (.t 30) (.c (.b true)))])))
  (.reg [22] [.s 31 (.ar .add (.t 22) (kI 1)),kM 22 31]))))))) (.seq (.reg [2,3] [kM 32 4,kM 2 32,.s 3 (.mv (kI 0))]) .ret)))))
theorem fq195 : FF 195 kf195 := cf (em := 14682173) Tryz.func195 (by kernel_rfl) (by kernel_rfl)
def kf196 : KFun := .mk 1 [.t 2,.t 3] (.seq (.reg [2,3] [.s 2 (.mv (.c (.np))),.s 3 (.mv (kI 0))]) (.seq (.seq (.reg [9] [kM 4 0,.s 5 (.cm .lt (.t 4) (kI 0)),kM 6 5,.gs 6
  false 7 (.mv (.t 0)),.gs 6 false 8 (.cm .gt (.t 7) (kI 2048)),.s 9 (.pick (.t 6) (.c (.b true)) (.t 8))]) (.cond (.t 9) (.seq (.reg [2,3] [.s 2 (.mv (.c
  (.np))),.s 3 (.mv (kI 1))]) .ret) .skip)) (.seq (.reg [2,3] [kM 10 0,.s 11 (.bld [.i (.ofNat 0),.i (.ofNat 0),.i (.ofNat 0),.i (.ofNat 0),.i (.ofNat 0)]
  (.cons 0 1 (.t 10) .nil)),.s 12 (.box (.t 11)),kM 2 12,.s 3 (.mv (kI 0))]) .ret)))
theorem fq196 : FF 196 kf196 := cf (em := 525) Tryz.func196 (by kernel_rfl) (by kernel_rfl)
def kf197 : KFun := .mk 0 [.t 0] (.seq (.reg [0] [.s 0 (.mv (.c (.np)))]) (.seq (.reg [0] [.s 1 (.bld [.ns] .nil),.s 2 (.box (.t 1)),kM 0 2]) .ret))
theorem fq197 : FF 197 kf197 := cf (em := 1) Tryz.func197 (by kernel_rfl) (by kernel_rfl)
def kf198 : KFun := .mk 1 [.t 2,.t 3] (.seq (.reg [2,3] [.s 2 (.mv (.c (.np))),.s 3 (.mv (kI 0))]) (.seq (.seq (.reg [9] [kM 4 0,.s 5 (.cm .lt (.t 4) (kI 0)),kM 6 5,.gs 6
  false 7 (.mv (.t 0)),.gs 6 false 8 (.cm .gt (.t 7) (kI 8)),.s 9 (.pick (.t 6) (.c (.b true)) (.t 8))]) (.cond (.t 9) (.seq (.reg [2,3] [.s 2 (.mv (.c
  (.np))),.s 3 (.mv (kI 1))]) .ret) .skip)) (.seq (.reg [2,3] [kM 10 0,.s 11 (.bld [.ns,.i (.ofNat 0)] (.cons 1 1 (.t 10) .nil)),.s 12 (.box (.t 11)),kM 2
  12,.s 3 (.mv (kI 0))]) .ret)))
theorem fq198 : FF 198 kf198 := cf (em := 525) Tryz.func198 (by kernel_rfl) (by kernel_rfl)
def kf199 : KFun := .mk 3 [.t 6,.t 7] (.seq (.reg [3,6,7] [.s 3 (.box (.t 0)),.s 6 (.mv (kI 0)),.s 7 (.mv (kI 0))]) (.seq (.reg [8] [kW 11 3 9,.s 12 (.call 191 [(.t 11)]),.s
  8 (.new [.i (.ofNat 0),.i (.ofNat 0),.i (.ofNat 0),.i (.ofNat 0)]),.n (.stn (.t 8) (.t 12) 4)]) (.seq (.seq (.reg [22] [kM 13 2,.s 14 (.cm .lt (.t 13) (kI
  0)),kM 15 14,.gs 15 false 16 (.mv (.t 2)),.gs 15 false 17 (.mv (.t 1)),.gs 15 false 18 (.ar .sub (.t 17) (kI 1)),.gs 15 false 19 (.q (.iar (.t 8) (.t 18)
  1 4)),.gs 15 false 20 (.ld (.t 19)),.gs 15 false 21 (.cm .ge (.t 16) (.t 20)),.s 22 (.pick (.t 15) (.c (.b true)) (.t 21))]) (.cond (.t 22) (.seq (.reg [6,
  7] [.s 6 (.mv (kI 0)),.s 7 (.mv (kI 1))]) .ret) .skip)) (.seq (.seq (.reg [25,26,27] [kM 23 1,.s 24 (.ar .sub (.t 23) (kI 1)),.s 25 (.q (.sla (.t 8) 1 4
  .no (.ok (.t 24)))),.s 26 (.len (.t 25)),.s 27 (.mv (kI 0))]) (.blk 0 (.loop (.seq (.reg [28] [.s 28 (.cm .lt (.t 27) (.t 26))]) (.seq (.cond (.t 28) .skip
  (.exit 0)) (.seq (.blk 1 (.seq (.reg [10] [.s 29 (.ixp (.t 25) (.t 27) 1),kL 30 29,kM 10 30]) (.reg [2] [kM 31 2,kM 32 10,.s 33 (.ar .add (.t 31) (.t 32)),
  kM 2 33]))) (.reg [27] [.s 34 (.ar .add (.t 27) (kI 1)),kM 27 34]))))))) (.seq (.reg [6,7] [kM 35 2,kM 6 35,.s 7 (.mv (kI 0))]) .ret)))))
theorem fq199 : FF 199 kf199 := cf (em := 507512271) Tryz.func199 (by kernel_rfl) (by kernel_rfl)
def kf200 : KFun := .mk 2 [.t 4] (.seq (.reg [4] [.s 4 (.mv (.c (.b false)))]) (.seq (.reg [4] [kM 5 1,.s 6 (.cm .ge (.t 5) (kI 0)),kM 7 6,.gs 7 true 8 (.mv (.t 1)),.gs 7 true 9
  (.mv (.t 0)),.gs 7 true 10 (.ck (.t 9)),.gs 7 true 11 (.off (.t 10) 0),.gs 7 true 12 (.ld (.t 11)),.gs 7 true 13 (.len (.t 12)),.gs 7 true 14 (.cm .lt (.t
  8) (.t 13)),.s 15 (.pick (.t 7) (.t 14) (.c (.b false))),kM 4 15]) .ret))
theorem fq200 : FF 200 kf200 := cf (em := 19) Tryz.func200 (by kernel_rfl) (by kernel_rfl)
def kf201 : KFun := .mk 1 [.cn 2 2] (.seq (.reg [1,2] [.s 1 (.box (.t 0)),.s 2 (.new [.b false,.ns])]) (.seq (.drw [] [.mk 0 1 true (kO 3 1 0),.mk 1 3 true (kL 4 3),.mk 2 4
  true (kO 5 1 1),.mk 3 12 true (kL 6 5),.mk 4 28 false (.s 7 (.call 288 [(.t 6)])),.mk 5 63 true (.s 8 (.bld [.b false,.ns] (.cons 0 1 (.t 4) (.cons 1 1 (.t
  7) .nil)))),.mk 6 127 false (.n (.stn (.t 2) (.t 8) 2))] [.mk 80 28 (.s 7 (.call 288 [(.t 6)])),.mk 64 127 (.n (.stn (.t 2) (.t 8) 2))]) .ret))
theorem fq201 : FF 201 kf201 := cf (em := 7) Tryz.func201 (by kernel_rfl) (by kernel_rfl)
def kf202 : KFun := .mk 3 [.t 6] (.seq (.reg [6] [.s 6 (.mv (.c (.b false)))]) (.seq (.reg [] [kM 7 0,kC 8 7,kO 9 8 3,kL 10 9,.s 11 (.ar .add (.t 10) (kI 1)),kC 12 7,kO 13 12
  3,.n (.st (.t 13) (.t 11))]) (.seq (.seq (.reg [22] [kM 14 0,kM 15 1,.s 16 (.call 22 [(.t 14),(.t 15)]),.s 17 (.cm .eq (.t 16) (.c (.i (.negSucc 0)))),kM
  18 17,.gs 18 false 19 (.mv (.t 2)),.gs 18 false 20 (.call 77 [(.t 19)]),.gs 18 false 21 (.not (.t 20)),.s 22 (.pick (.t 18) (.c (.b true)) (.t 21))])
  (.cond (.t 22) (.seq (.reg [6] [.s 6 (.mv (.c (.b false)))]) .ret) .skip)) (.seq (.reg [] [kM 23 0,kC 24 23,kO 25 24 2,kL 26 25,kM 27 1,kM 28 2,.s 29
  (.ixp (.t 26) (.t 27) 1),.n (.st (.t 29) (.t 28))]) (.seq (.reg [6] [.s 6 (.mv (.c (.b true)))]) .ret)))))
theorem fq202 : FF 202 kf202 := cf (em := 4194375) Tryz.func202 (by kernel_rfl) (by kernel_rfl)
def kf203 : KFun := .mk 2 [.t 4] (.seq (.reg [4] [.s 4 (.mv (.c (.np)))]) (.seq (.seq (.reg [15] [kM 5 1,.s 6 (.cm .lt (.t 5) (kI 0)),kM 7 6,.gs 7 false 8 (.mv (.t 1)),.gs 7
  false 9 (.mv (.t 0)),.gs 7 false 10 (.ck (.t 9)),.gs 7 false 11 (.off (.t 10) 1),.gs 7 false 12 (.ld (.t 11)),.gs 7 false 13 (.len (.t 12)),.gs 7 false 14
  (.cm .ge (.t 8) (.t 13)),.s 15 (.pick (.t 7) (.c (.b true)) (.t 14))]) (.cond (.t 15) (.seq (.reg [4] [.s 4 (.mv (.c (.np)))]) .ret) .skip)) (.seq (.reg [4]
  [kM 16 0,kC 17 16,kO 18 17 1,kL 19 18,kM 20 1,.s 21 (.ixp (.t 19) (.t 20) 1),kL 22 21,kM 4 22]) .ret)))
theorem fq203 : FF 203 kf203 := cf (em := 32787) Tryz.func203 (by kernel_rfl) (by kernel_rfl)
def kf205 : KFun := .mk 2 [] (.seq (.reg [] [kM 4 0,kC 5 4,kO 6 5 0,kL 7 6,kM 8 1,.s 9 (.call 289 [(.t 7),(.t 8),(kI 0),(.c (.b false)),(.c (.b false))])]) (.reg [] [kM 10
  0,kC 11 10,kO 12 11 4,kO 13 12 9,kL 14 13,kM 15 1,.s 16 (.call 290 [(.t 14),(.t 15)])]))
theorem fq205 : FF 205 kf205 := cf (em := 3) Tryz.func205 (by kernel_rfl) (by kernel_rfl)
def kf207 : KFun := .mk 2 [.t 4] (.seq (.reg [2,3,4] [.s 2 (.box (.t 0)),.s 3 (.box (.t 1)),.s 4 (.mv (kI 0))]) (.seq (.reg [5,6] [kO 14 3 0,kL 15 14,.s 16 (.call 291 [(.t
  15)]),kM 13 16,kE 17 13 0,kE 18 13 1,kM 5 17,kM 6 18]) (.seq (.seq (.reg [25] [kW 19 2 9,.s 20 (.call 115 [(.t 19)]),.s 21 (.cm .ne (.t 20) (kI 0)),kM
  22 21,.gs 22 false 23 (.mv (.t 5)),.gs 22 false 24 (.q (.seq (.t 23) (.c (.s [])))),.s 25 (.pick (.t 22) (.c (.b true)) (.t 24))]) (.cond (.t 25) (.seq
  (.reg [4] [.s 4 (.mv (kI 1))]) .ret) .skip)) (.seq (.seq (.reg [27] [kM 26 6,.s 27 (.q (.rng (.t 26)))]) (.blk 0 (.loop (.seq (.reg [28,29] [.s 28 (.q (.nxt
  (.t 27))),kE 29 28 0]) (.seq (.cond (.t 29) .skip (.exit 0)) (.blk 1 (.seq (.reg [8] [kE 30 28 2,kM 8 30]) (.seq (.reg [9] [.s 9 (.mv (kI
  9223372036854775807))]) (.seq (.seq (.reg [31] [kM 31 8]) (.blk 2 (.seq (.seq (.reg [32] [.s 33 (.cmk .eq (.t 31) (.c (.k .i32 (.ofNat 97)))),kM 32 33])
  (.cond (.t 32) .skip (.seq (.reg [32] [.s 34 (.cmk .eq (.t 31) (.c (.k .i32 (.ofNat 98)))),kM 32 34]) (.cond (.t 32) .skip (.reg [32] [.s 35 (.cmk .eq (.t 31)
  (.c (.k .i32 (.ofNat 99)))),kM 32 35]))))) (.cond (.t 32) (.reg [9] [kO 36 2 4,kL 37 36,kM 9 37]) (.seq (.reg [38] [.s 39 (.cmk .eq (.t 31) (.c (.k .i32
  (.ofNat 103)))),kM 38 39]) (.cond (.t 38) (.reg [9] [kO 40 2 2,kL 41 40,kM 9 41]) (.exit 1))))))) (.seq (.reg [10] [kM 42 8,.s 43 (.call 292 [(.t 3),(.t
  42)]),kC 44 43,kL 45 44,kM 10 45]) (.seq (.reg [52] [kM 46 10,.s 47 (.cm .lt (.t 46) (kI 0)),kM 48 47,.gs 48 false 49 (.mv (.t 10)),.gs 48 false 50 (.mv
  (.t 9)),.gs 48 false 51 (.cm .ge (.t 49) (.t 50)),.s 52 (.pick (.t 48) (.c (.b true)) (.t 51))]) (.cond (.t 52) (.seq (.reg [4] [.s 4 (.mv (kI 1))]) .ret)
  .skip)))))))))))) (.seq (.seq (.reg [60] [kO 53 3 0,kL 54 53,.s 55 (.cm .ne (.t 54) (kI 1)),kM 56 55,.gs 56 true 57 (.off (.t 3) 0),.gs 56 true 58 (.ld
  (.t 57)),.gs 56 true 59 (.cm .ne (.t 58) (kI 2)),.s 60 (.pick (.t 56) (.t 59) (.c (.b false)))]) (.cond (.t 60) (.seq (.reg [4] [.s 4 (.mv (kI 0))]) .ret)
  .skip)) (.seq (.reg [11,12] [kW 62 2 9,kO 63 3 2,kL 64 63,.s 65 (.call 173 [(.t 62),(.t 64)]),kM 61 65,kE 66 61 0,kE 67 61 1,.s 11 (.new [.b false,
  .ns]),.n (.stn (.t 11) (.t 66) 2),kM 12 67]) (.seq (.blk 3 (.seq (.reg [68] [kM 69 12,.s 70 (.not (.t 69)),kM 71 70,.gs 71 false 72 (.off (.t 11) 0),.gs
  71 false 73 (.ld (.t 72)),.gs 71 false 74 (.off (.t 3) 0),.gs 71 false 75 (.ld (.t 74)),.gs 71 false 76 (.cm .eq (.t 75) (kI 2)),.gs 71 false 77 (.bne (.t
  73) (.t 76)),.s 78 (.pick (.t 71) (.c (.b true)) (.t 77)),kM 68 78]) (.cond (.t 68) (.seq (.reg [4] [.s 4 (.mv (kI 4))]) .ret) (.seq (.reg [79] [kW 80 11 2,
  kW 81 3 6,.s 82 (.call 293 [(.t 80),(.t 81)]),.s 83 (.cm .lt (.t 82) (kI 0)),kM 79 83]) (.cond (.t 79) (.seq (.reg [4] [.s 4 (.mv (kI 5))]) .ret) (.seq
  (.drw [84] [.mk 0 1 true (kW 85 11 2),.mk 1 2 true (kW 86 3 6),.mk 2 7 false (.s 87 (.call 293 [(.t 85),(.t 86)])),.mk 3 8 true (kO 88 2 0),.mk 4 24 true
  (kL 89 88),.mk 5 63 true (.s 90 (.cm .gt (.t 87) (.t 89))),.mk 6 127 true (kM 91 90),.mk 7 255 true (.gs 91 false 92 (.ldn (.t 11) 2)),.mk 8 383 true (.gs
  91 false 93 (.off (.t 3) 4)),.mk 9 895 true (.gs 91 false 94 (.ld (.t 93))),.mk 10 2047 false (.gs 91 false 95 (.call 294 [(.t 92),(.t 94)])),.mk 11 2175
  true (.gs 91 false 96 (.off (.t 2) 1)),.mk 12 6271 true (.gs 91 false 97 (.ld (.t 96))),.mk 13 16383 true (.gs 91 false 98 (.cm .gt (.t 95) (.t 97))),.mk 14
  32767 true (.s 99 (.pick (.t 91) (.c (.b true)) (.t 98))),.mk 15 65535 true (kM 84 99)] [.mk 1028 7 (.s 87 (.call 293 [(.t 85),(.t 86)])),.mk 1024 2047 (.gs
  91 false 95 (.call 294 [(.t 92),(.t 94)]))]) (.cond (.t 84) (.seq (.reg [4] [.s 4 (.mv (kI 7))]) .ret) .skip))))))) (.seq (.reg [4] [.s 4 (.mv (kI 0))])
  .ret))))))))
theorem fq207 : FF 207 kf207 := cf (em := 19947572328971947263139711) Tryz.func207 (by kernel_rfl) (by kernel_rfl)
def kf208 : KFun := .mk 2 [.t 4] (.seq (.reg [3,4] [.s 3 (.box (.t 1)),.s 4 (.mv (kI 0))]) (.seq (.reg [5] [kM 9 0,kC 10 9,kO 11 10 2,kL 12 11,kM 5 12]) (.seq (.reg [6] [.s 6
  (.mv (.c (.ns)))]) (.seq (.reg [7,8] [.s 7 (.new [.b false]),.n (.st (.t 7) (.c (.b true))),.s 8 (.mv (.c (.b true)))]) (.seq (.seq (.reg [14] [kO 13 3 0,
  kL 14 13]) (.blk 0 (.seq (.reg [15] [.s 16 (.cm .eq (.t 14) (kI 9)),kM 15 16]) (.cond (.t 15) (.drw [6,8] [.mk 0 1 true (kM 17 5),.mk 1 2 true (kO 18 3 2),
  .mk 2 6 true (kL 19 18),.mk 3 15 true (.s 20 (.ixp (.t 17) (.t 19) 2)),.mk 4 31 true (kW 21 20 2),.mk 5 32 true (kM 22 5),.mk 6 64 true (kO 23 3 3),.mk 7
  192 true (kL 24 23),.mk 8 480 true (.s 25 (.ixp (.t 22) (.t 24) 2)),.mk 9 992 true (kW 26 25 2),.mk 10 2047 false (.s 27 (.bsl [.b false,.z 0 0] 2 (.cons 0
  2 (.t 21) (.cons 2 2 (.t 26) .nil)))),.mk 11 4095 true (kM 6 27),.mk 12 8191 true (.s 8 (.mv (.c (.b false))))] [.mk 1024 2047 (.s 27 (.bsl [.b false,.z 0
  0] 2 (.cons 0 2 (.t 21) (.cons 2 2 (.t 26) .nil))))]) (.seq (.seq (.reg [28] [.s 29 (.cm .eq (.t 14) (kI 15)),kM 28 29]) (.cond (.t 28) .skip (.reg [28] [.s
  30 (.cm .eq (.t 14) (kI 16)),kM 28 30]))) (.cond (.t 28) (.drw [6,8] [.mk 0 1 true (kM 31 5),.mk 1 2 true (kO 32 3 2),.mk 2 6 true (kL 33 32),.mk 3 15
  true (.s 34 (.ixp (.t 31) (.t 33) 2)),.mk 4 31 true (kW 35 34 2),.mk 5 32 true (kM 36 5),.mk 6 64 true (kO 37 3 3),.mk 7 192 true (kL 38 37),.mk 8 480
  true (.s 39 (.ixp (.t 36) (.t 38) 2)),.mk 9 992 true (kW 40 39 2),.mk 10 2047 false (.s 41 (.bsl [.b false,.z 0 0] 2 (.cons 0 2 (.t 35) (.cons 2 2 (.t 40)
  .nil)))),.mk 11 4095 true (kM 6 41),.mk 12 8191 false (.n (.st (.t 7) (.c (.b false)))),.mk 13 16383 true (.s 8 (.mv (.c (.b false))))] [.mk 5120 2047 (.s
  41 (.bsl [.b false,.z 0 0] 2 (.cons 0 2 (.t 35) (.cons 2 2 (.t 40) .nil)))),.mk 4096 8191 (.n (.st (.t 7) (.c (.b false))))]) (.seq (.seq (.reg [42] [.s 43
  (.cm .eq (.t 14) (kI 3)),kM 42 43]) (.cond (.t 42) .skip (.seq (.reg [42] [.s 44 (.cm .eq (.t 14) (kI 5)),kM 42 44]) (.cond (.t 42) .skip (.seq (.reg [42]
  [.s 45 (.cm .eq (.t 14) (kI 10)),kM 42 45]) (.cond (.t 42) .skip (.reg [42] [.s 46 (.cm .eq (.t 14) (kI 11)),kM 42 46]))))))) (.cond (.t 42) (.reg [6] [kM 47
  5,kO 48 3 2,kL 49 48,.s 50 (.ixp (.t 47) (.t 49) 2),kW 51 50 2,.s 52 (.bsl [.b false,.z 0 0] 1 (.cons 0 2 (.t 51) .nil)),kM 6 52]) (.seq (.seq (.reg
  [53] [.s 54 (.cm .eq (.t 14) (kI 4)),kM 53 54]) (.cond (.t 53) .skip (.reg [53] [.s 55 (.cm .eq (.t 14) (kI 6)),kM 53 55]))) (.cond (.t 53) (.reg [6] [kM 56
  5,kO 57 3 1,kL 58 57,.s 59 (.ixp (.t 56) (.t 58) 2),kW 60 59 2,.s 61 (.bsl [.b false,.z 0 0] 1 (.cons 0 2 (.t 60) .nil)),kM 6 61]) (.seq (.reg [62] [.s
  63 (.cm .eq (.t 14) (kI 8)),kM 62 63]) (.cond (.t 62) (.reg [6,8] [kM 64 5,kO 65 3 2,kL 66 65,.s 67 (.ixp (.t 64) (.t 66) 2),kW 68 67 2,.s 69 (.bsl [.b
  false,.z 0 0] 1 (.cons 0 2 (.t 68) .nil)),kM 6 69,.s 8 (.mv (.c (.b false)))]) .skip)))))))))))) (.seq (.seq (.reg [72] [kM 70 6,.s 71 (.q (.mkf 296 []
  [(.t 7)])),.s 72 (.call 295 [(.t 70),(.t 71)])]) (.cond (.t 72) (.seq (.reg [4] [.s 4 (.mv (kI 4))]) .ret) .skip)) (.seq (.seq (.reg [77] [kM 73 8,kM 74 73,
  .gs 74 true 75 (.mv (.t 6)),.gs 74 true 76 (.call 295 [(.t 75),(.c (.fn 297 [] []))]),.s 77 (.pick (.t 74) (.t 76) (.c (.b false)))]) (.cond (.t 77) (.seq
  (.reg [4] [.s 4 (.mv (kI 3))]) .ret) .skip)) (.seq (.reg [4] [.s 4 (.mv (kI 0))]) .ret))))))))
theorem fq208 : FF 208 kf208 := cf (em := 155842714632314289177083) Tryz.func208 (by kernel_rfl) (by kernel_rfl)
def kf209 : KFun := .mk 2 [.cn 4 2,.t 5] (.seq (.reg [3,4,5] [.s 3 (.box (.t 1)),.s 4 (.new [.b false,.z 0 0]),.s 5 (.mv (.c (.b false)))]) (.seq (.reg [6] [kM 7 0,kC 8 7,kO
  9 8 2,kL 10 9,kM 6 10]) (.seq (.seq (.reg [12] [kO 11 3 0,kL 12 11]) (.blk 0 (.seq (.reg [13] [.s 14 (.cm .eq (.t 12) (kI 9)),kM 13 14]) (.cond (.t 13)
  (.seq (.drw [5] [.mk 0 1 true (kM 15 6),.mk 1 2 true (kO 16 3 2),.mk 2 6 true (kL 17 16),.mk 3 15 true (.s 18 (.ixp (.t 15) (.t 17) 2)),.mk 4 31 true (kO
  19 18 1),.mk 5 63 true (kL 20 19),.mk 6 64 true (kM 21 6),.mk 7 128 true (kO 22 3 3),.mk 8 384 true (kL 23 22),.mk 9 960 true (.s 24 (.ixp (.t 21) (.t 23)
  2)),.mk 10 1984 true (kO 25 24 1),.mk 11 4032 true (kL 26 25),.mk 12 8191 true (.s 27 (.call 238 [(.t 20),(.t 26)])),.mk 13 16383 false (.s 28 (.call 298
  [(.t 27)])),.mk 14 32767 false (.n (.stn (.t 4) (.t 28) 2)),.mk 15 65535 true (.s 5 (.mv (.c (.b true))))] [.mk 24576 16383 (.s 28 (.call 298 [(.t 27)])),
  .mk 16384 32767 (.n (.stn (.t 4) (.t 28) 2))]) .ret) (.seq (.reg [29] [.s 30 (.cm .eq (.t 12) (kI 12)),kM 29 30]) (.cond (.t 29) (.seq (.reg [5] [kO 31 3 5,
  kL 32 31,.s 33 (.bld [.b false,.z 0 0] (.cons 1 1 (.t 32) .nil)),.n (.stn (.t 4) (.t 33) 2),.s 5 (.mv (.c (.b true)))]) .ret) (.seq (.reg [34] [.s 35 (.cm
  .eq (.t 12) (kI 13)),kM 34 35]) (.cond (.t 34) (.seq (.reg [5] [.s 36 (.call 123 []),.s 37 (.bld [.b false,.z 0 0] (.cons 0 1 (.c (.b true)) (.cons 1 1 (.t
  36) .nil))),.n (.stn (.t 4) (.t 37) 2),.s 5 (.mv (.c (.b true)))]) .ret) (.seq (.reg [38] [.s 39 (.cm .eq (.t 12) (kI 14)),kM 38 39]) (.cond (.t 38) (.seq
  (.reg [5] [kM 40 6,kO 41 3 2,kL 42 41,.s 43 (.ixp (.t 40) (.t 42) 2),kW 44 43 2,.n (.stn (.t 4) (.t 44) 2),.s 5 (.mv (.c (.b true)))]) .ret) (.seq (.reg
  [45] [.s 46 (.cm .eq (.t 12) (kI 15)),kM 45 46]) (.cond (.t 45) (.seq (.drw [5] [.mk 0 1 true (kM 47 6),.mk 1 2 true (kO 48 3 2),.mk 2 6 true (kL 49 48),
  .mk 3 15 true (.s 50 (.ixp (.t 47) (.t 49) 2)),.mk 4 31 true (kO 51 50 1),.mk 5 63 true (kL 52 51),.mk 6 64 true (kM 53 6),.mk 7 128 true (kO 54 3 3),.mk
  8 384 true (kL 55 54),.mk 9 960 true (.s 56 (.ixp (.t 53) (.t 55) 2)),.mk 10 1984 true (kO 57 56 1),.mk 11 4032 true (kL 58 57),.mk 12 8191 false (.s 59
  (.call 299 [(.t 52),(.t 58)])),.mk 13 16383 true (.s 60 (.bld [.b false,.z 0 0] (.cons 1 1 (.t 59) .nil))),.mk 14 32767 false (.n (.stn (.t 4) (.t 60) 2)),
  .mk 15 65535 true (.s 5 (.mv (.c (.b true))))] [.mk 20480 8191 (.s 59 (.call 299 [(.t 52),(.t 58)])),.mk 16384 32767 (.n (.stn (.t 4) (.t 60) 2))]) .ret)
  (.seq (.reg [61] [.s 62 (.cm .eq (.t 12) (kI 16)),kM 61 62]) (.cond (.t 61) (.seq (.drw [5] [.mk 0 1 true (kM 63 6),.mk 1 2 true (kO 64 3 2),.mk 2 6 true
  (kL 65 64),.mk 3 15 true (.s 66 (.ixp (.t 63) (.t 65) 2)),.mk 4 31 true (kO 67 66 1),.mk 5 63 true (kL 68 67),.mk 6 64 true (kM 69 6),.mk 7 128 true (kO
  70 3 3),.mk 8 384 true (kL 71 70),.mk 9 960 true (.s 72 (.ixp (.t 69) (.t 71) 2)),.mk 10 1984 true (kO 73 72 1),.mk 11 4032 true (kL 74 73),.mk 12 8191
  false (.s 75 (.call 300 [(.t 68),(.t 74)])),.mk 13 16383 true (.s 76 (.bld [.b false,.z 0 0] (.cons 1 1 (.t 75) .nil))),.mk 14 32767 false (.n (.stn (.t 4)
  (.t 76) 2)),.mk 15 65535 true (.s 5 (.mv (.c (.b true))))] [.mk 20480 8191 (.s 75 (.call 300 [(.t 68),(.t 74)])),.mk 16384 32767 (.n (.stn (.t 4) (.t 76)
  2))]) .ret) .skip)))))))))))))) (.seq (.reg [5] [.s 77 (.bld [.b false,.z 0 0] .nil),.n (.stn (.t 4) (.t 77) 2),.s 5 (.mv (.c (.b false)))]) .ret))))
theorem fq209 : FF 209 kf209 := cf (em := 2305878486180442235) Tryz.func209 (by kernel_rfl) (by kernel_rfl)
def kf210 : KFun := .mk 3 [.cn 6 5,.t 7] (.seq (.reg [5,6,7] [.s 5 (.box (.t 2)),.s 6 (.new [.i (.ofNat 0),.i (.ofNat 0),.i (.ofNat 0),.b false,.z 0 0]),.s 7 (.mv (.c (.b
  false)))]) (.seq (.drw [] [.mk 0 1 true (kM 8 0),.mk 1 3 true (kC 9 8),.mk 2 7 true (kO 10 9 2),.mk 3 15 true (kL 11 10),.mk 4 16 true (kM 12 1),.mk 5 32
  true (kW 13 5 2),.mk 6 127 true (.s 14 (.ixp (.t 11) (.t 12) 2)),.mk 7 255 false (.n (.stn (.t 14) (.t 13) 2))] [.mk 128 255 (.n (.stn (.t 14) (.t 13) 2))])
  (.seq (.reg [7] [kM 15 0,kW 16 5 2,.s 17 (.call 140 [(.t 15),(.t 16),(kI 0)]),kE 18 17 0,kE 19 17 1,.n (.stn (.t 6) (.t 18) 5),kM 7 19]) .ret)))
theorem fq210 : FF 210 kf210 := cf (em := 231) Tryz.func210 (by kernel_rfl) (by kernel_rfl)
def kf211 : KFun := .mk 3 [.cn 6 5,.t 7] (.seq (.reg [5,6,7] [.s 5 (.box (.t 2)),.s 6 (.new [.i (.ofNat 0),.i (.ofNat 0),.i (.ofNat 0),.b false,.z 0 0]),.s 7 (.mv (.c (.b
  false)))]) (.seq (.drw [8,9] [.mk 0 1 true (kM 12 1),.mk 1 3 true (kC 13 12),.mk 2 7 true (kO 14 13 0),.mk 3 15 true (kW 15 14 9),.mk 4 16 true (kW 16 5
  6),.mk 5 63 false (.s 17 (.call 301 [(.t 15),(.t 16)])),.mk 6 127 true (kM 11 17),.mk 7 255 true (kE 18 11 0),.mk 8 383 true (kE 19 11 1),.mk 9 767 true
  (kM 8 18),.mk 10 2047 true (kM 9 19)] [.mk 32 63 (.s 17 (.call 301 [(.t 15),(.t 16)]))]) (.seq (.drw [10] [.mk 0 1 true (kM 20 1),.mk 1 3 true (kC 21 20),
  .mk 2 7 true (kO 22 21 11),.mk 3 15 true (kL 23 22),.mk 4 16 true (kM 24 0),.mk 5 48 true (kC 25 24),.mk 6 112 true (kO 26 25 0),.mk 7 240 true (kL 27
  26),.mk 8 256 true (kM 28 8),.mk 9 512 true (kM 29 9),.mk 10 1024 true (kM 30 0),.mk 11 3072 true (kC 31 30),.mk 12 7168 true (kO 32 31 5),.mk 13 15360
  true (kL 33 32),.mk 14 16384 true (kM 34 0),.mk 15 49152 true (.s 35 (.call 303 [(.t 34)])),.mk 16 130048 true (.s 36 (.bne (.t 33) (.t 35))),.mk 17 262143
  false (.s 37 (.call 302 [(.t 23),(.t 27),(.t 28),(.t 29),(.t 36)])),.mk 18 262144 false (.s 10 (.new [.i (.ofNat 0),.ns,.i (.ofNat 0)])),.mk 19 1048575
  false (.n (.stn (.t 10) (.t 37) 3))] [.pr 10 37 917504 262143 786432 262144 (.call 302 [(.t 23),(.t 27),(.t 28),(.t 29),(.t 36)]) (.new [.i (.ofNat 0),
  .ns,.i (.ofNat 0)]),.mk 524288 1048575 (.n (.stn (.t 10) (.t 37) 3))]) (.seq (.blk 0 (.seq (.reg [38] [kO 39 10 0,kL 40 39,.s 41 (.cm .eq (.t 40) (kI 0)),
  kM 38 41]) (.cond (.t 38) (.reg [] [kM 42 0,kM 43 0,kC 44 42,kO 45 44 3,.n (.st (.t 45) (kI 3)),kC 46 43,kO 47 46 7,.n (.st (.t 47) (kI 5))]) (.seq
  (.reg [48] [kO 49 10 0,kL 50 49,.s 51 (.cm .ne (.t 50) (kI 1)),kM 52 51,.gs 52 false 53 (.mv (.t 0)),.gs 52 false 54 (.mv (.t 1)),.gs 52 false 55 (.ldn
  (.t 5) 6),.gs 52 false 56 (.ldn (.t 10) 3),.gs 52 false 57 (.call 143 [(.t 53),(.t 54),(.t 55),(.t 56)]),.gs 52 false 58 (.not (.t 57)),.s 59 (.pick (.t
  52) (.c (.b true)) (.t 58)),kM 48 59]) (.cond (.t 48) (.seq (.reg [7] [kM 60 0,.s 61 (.call 144 [(.t 60),(kI 10)]),kE 62 61 0,kE 63 61 1,.n (.stn (.t 6)
  (.t 62) 5),kM 7 63]) .ret) .skip))))) (.seq (.reg [7] [.s 64 (.bld [.i (.ofNat 0),.i (.ofNat 0),.i (.ofNat 0),.b false,.z 0 0] .nil),.n (.stn (.t 6) (.t
  64) 5),.s 7 (.mv (.c (.b false)))]) .ret)))))
theorem fq211 : FF 211 kf211 := cf (em := 281749854619623) Tryz.func211 (by kernel_rfl) (by kernel_rfl)
def kf212 : KFun := .mk 3 [.t 6] (.seq (.reg [4,6] [.s 4 (.box (.t 1)),.s 6 (.mv (.c (.np)))]) (.seq (.seq (.reg [8] [kO 7 4 0,kL 8 7]) (.blk 0 (.seq (.reg [9] [.s 10 (.cm .eq
  (.t 8) (kI 3)),kM 9 10]) (.cond (.t 9) (.seq (.drw [6] [.mk 0 1 true (kM 11 0),.mk 1 3 true (kC 12 11),.mk 2 7 true (kO 13 12 0),.mk 3 15 true (kW 14 13
  9),.mk 4 16 true (kM 15 2),.mk 5 32 true (kO 16 4 2),.mk 6 96 true (kL 17 16),.mk 7 240 false (.s 18 (.callv (.t 15) [(.t 17)])),.mk 8 256 true (kO 19 4
  4),.mk 9 768 true (kL 20 19),.mk 10 2047 false (.s 21 (.call 304 [(.t 14),(.t 18),(.t 20)])),.mk 11 4095 true (kM 6 21)] [.mk 1152 240 (.s 18 (.callv (.t
  15) [(.t 17)])),.mk 1024 2047 (.s 21 (.call 304 [(.t 14),(.t 18),(.t 20)]))]) .ret) (.seq (.reg [22] [.s 23 (.cm .eq (.t 8) (kI 4)),kM 22 23]) (.cond (.t
  22) (.seq (.drw [6] [.mk 0 1 true (kM 24 0),.mk 1 3 true (kC 25 24),.mk 2 7 true (kO 26 25 0),.mk 3 15 true (kW 27 26 9),.mk 4 16 true (kM 28 2),.mk 5 32
  true (kO 29 4 1),.mk 6 96 true (kL 30 29),.mk 7 240 false (.s 31 (.callv (.t 28) [(.t 30)])),.mk 8 256 true (kO 32 4 4),.mk 9 768 true (kL 33 32),.mk 10
  2047 false (.s 34 (.call 304 [(.t 27),(.t 31),(.t 33)])),.mk 11 4095 true (kM 6 34)] [.mk 1152 240 (.s 31 (.callv (.t 28) [(.t 30)])),.mk 1024 2047 (.s 34
  (.call 304 [(.t 27),(.t 31),(.t 33)]))]) .ret) (.seq (.reg [35] [.s 36 (.cm .eq (.t 8) (kI 5)),kM 35 36]) (.cond (.t 35) (.seq (.drw [6] [.mk 0 1 true (kM
  37 0),.mk 1 3 true (kC 38 37),.mk 2 7 true (kO 39 38 0),.mk 3 15 true (kW 40 39 9),.mk 4 16 true (kM 41 2),.mk 5 32 true (kO 42 4 2),.mk 6 96 true (kL 43
  42),.mk 7 240 false (.s 44 (.callv (.t 41) [(.t 43)])),.mk 8 256 true (kO 45 4 4),.mk 9 768 true (kL 46 45),.mk 10 2047 false (.s 47 (.call 305 [(.t 40),
  (.t 44),(.t 46)])),.mk 11 4095 true (kM 6 47)] [.mk 1152 240 (.s 44 (.callv (.t 41) [(.t 43)])),.mk 1024 2047 (.s 47 (.call 305 [(.t 40),(.t 44),(.t
  46)]))]) .ret) .skip)))))))) (.seq (.drw [6] [.mk 0 1 true (kM 48 0),.mk 1 3 true (kC 49 48),.mk 2 7 true (kO 50 49 0),.mk 3 15 true (kW 51 50 9),.mk 4 16
  true (kM 52 2),.mk 5 32 true (kO 53 4 1),.mk 6 96 true (kL 54 53),.mk 7 240 false (.s 55 (.callv (.t 52) [(.t 54)])),.mk 8 256 true (kO 56 4 4),.mk 9 768
  true (kL 57 56),.mk 10 2047 false (.s 58 (.call 305 [(.t 51),(.t 55),(.t 57)])),.mk 11 4095 true (kM 6 58)] [.mk 1152 240 (.s 55 (.callv (.t 52) [(.t
  54)])),.mk 1024 2047 (.s 58 (.call 305 [(.t 51),(.t 55),(.t 57)]))]) .ret)))
theorem fq212 : FF 212 kf212 := cf (em := 34363933527) Tryz.func212 (by kernel_rfl) (by kernel_rfl)
def kf213 : KFun := .mk 2 [.t 4] (.seq (.reg [4] [.s 4 (.mv (kI 0))]) (.seq (.reg [5] [kM 8 0,kC 9 8,kO 10 9 2,kL 11 10,kM 12 1,.s 13 (.ixp (.t 11) (.t 12) 2),kO 14 13 1,kL
  15 14,.s 16 (.call 150 [(.t 15)]),kM 7 16,kE 17 7 0,kE 18 7 1,kM 5 17,kM 6 18]) (.seq (.reg [4] [kM 19 5,kM 4 19]) .ret)))
theorem fq213 : FF 213 kf213 := cf (em := 51) Tryz.func213 (by kernel_rfl) (by kernel_rfl)
def kf214 : KFun := .mk 2 [] (.seq (.reg [3] [.s 3 (.box (.t 1))]) (.seq (.drw [] [.mk 0 1 true (kM 4 0),.mk 1 2 true (kM 5 0),.mk 2 4 true (kM 6 0),.mk 3 12 true (kC 7 6),.mk 4
  28 true (kO 8 7 2),.mk 5 60 true (kL 9 8),.mk 6 64 true (kO 10 3 2),.mk 7 192 true (kL 11 10),.mk 8 508 true (.s 12 (.ixp (.t 9) (.t 11) 2)),.mk 9 1020
  true (kO 13 12 1),.mk 10 2044 true (kL 14 13),.mk 11 4093 true (kC 15 4),.mk 12 8189 true (kO 16 15 10),.mk 13 16381 true (kO 17 16 6),.mk 14 32765 false
  (.n (.st (.t 17) (.t 14))),.mk 15 65535 true (kC 18 5),.mk 16 131071 true (kO 19 18 10),.mk 17 262143 true (kO 20 19 1),.mk 18 524287 false (.n (.st (.t
  20) (kI 6)))] [.mk 278528 32765 (.n (.st (.t 17) (.t 14))),.mk 262144 524287 (.n (.st (.t 20) (kI 6)))]) (.seq (.reg [29] [kM 21 0,kC 22 21,kO 23 22 10,kO
  24 23 4,kL 25 24,kM 26 25,.gs 26 true 27 (.mv (.t 0)),.gs 26 true 28 (.call 306 [(.t 27)]),.s 29 (.pick (.t 26) (.t 28) (.c (.b false)))]) (.cond (.t 29)
  (.reg [] [kM 30 0,kC 31 30,kO 32 31 10,kO 33 32 1,.n (.st (.t 33) (kI 3))]) .skip))))
theorem fq214 : FF 214 kf214 := cf (em := 536870923) Tryz.func214 (by kernel_rfl) (by kernel_rfl)
def kf216 : KFun := .mk 2 [.t 4] (.seq (.reg [4] [.s 4 (.mv (.c (.b false)))]) (.seq (.seq (.reg [9] [kM 5 0,kC 6 5,kO 7 6 12,kL 8 7,.s 9 (.cm .eq (.t 8) (kI 6))]) (.cond (.t 9)
  (.seq (.reg [4] [.s 4 (.mv (.c (.b true)))]) .ret) .skip)) (.seq (.reg [] [kM 10 0,kC 11 10,kO 12 11 22,kL 13 12,.s 14 (.ar .add (.t 13) (kI 1)),kC 15 10,
  kO 16 15 22,.n (.st (.t 16) (.t 14))]) (.seq (.seq (.reg [20] [kM 17 0,kC 18 17,kO 19 18 12,kL 20 19]) (.blk 0 (.seq (.seq (.reg [21] [.s 22 (.cm .eq (.t
  20) (kI 0)),kM 21 22]) (.cond (.t 21) .skip (.reg [21] [.s 23 (.cm .eq (.t 20) (kI 1)),kM 21 23]))) (.cond (.t 21) (.seq (.reg [4] [kM 24 0,kM 25 1,.s 26
  (.call 308 [(.t 24),(.t 25)]),kM 4 26]) .ret) .skip)))) (.seq (.reg [4] [kM 27 0,kM 28 1,.s 29 (.call 309 [(.t 27),(.t 28)]),kM 4 29]) .ret)))))
theorem fq216 : FF 216 kf216 := cf (em := 3146259) Tryz.func216 (by kernel_rfl) (by kernel_rfl)
def kf217 : KFun := .mk 1 [.t 2] (.seq (.reg [2] [.s 2 (.mv (kI 0))]) (.seq (.reg [2] [kM 3 0,kC 4 3,kO 5 4 21,kL 6 5,kM 2 6]) .ret))
theorem fq217 : FF 217 kf217 := cf (em := 5) Tryz.func217 (by kernel_rfl) (by kernel_rfl)
def kf218 : KFun := .mk 1 [.t 2] (.seq (.reg [2] [.s 2 (.mv (kI 0))]) (.seq (.reg [2] [kM 3 0,kC 4 3,kO 5 4 19,kL 6 5,kM 2 6]) .ret))
theorem fq218 : FF 218 kf218 := cf (em := 5) Tryz.func218 (by kernel_rfl) (by kernel_rfl)
def kf219 : KFun := .mk 1 [.t 2] (.seq (.reg [2] [.s 2 (.mv (.c (.b false)))]) (.seq (.reg [2] [kM 3 0,kC 4 3,kO 5 4 19,kL 6 5,.s 7 (.cm .ge (.t 6) (kI 0)),kM 8 7,.gs 8 true 9
  (.mv (.t 0)),.gs 8 true 10 (.ck (.t 9)),.gs 8 true 11 (.off (.t 10) 20),.gs 8 true 12 (.ld (.t 11)),.s 13 (.pick (.t 8) (.t 12) (.c (.b false))),kM 2 13])
  .ret))
theorem fq219 : FF 219 kf219 := cf (em := 5) Tryz.func219 (by kernel_rfl) (by kernel_rfl)
def kf220 : KFun := .mk 1 [.t 2] (.seq (.reg [2] [.s 2 (.mv (.c (.b false)))]) (.seq (.reg [4] [kM 6 0,.s 7 (.call 150 [(.t 6)]),kM 5 7,kE 8 5 0,kE 9 5 1,kM 3 8,kM 4 9]) (.seq
  (.reg [2] [kM 10 4,kM 11 10,.gs 11 false 12 (.mv (.t 0)),.gs 11 false 13 (.call 123 []),.gs 11 false 14 (.call 238 [(.t 12),(.t 13)]),.s 15 (.pick (.t
  11) (.c (.b true)) (.t 14)),kM 2 15]) .ret)))
theorem fq220 : FF 220 kf220 := cf (em := 21) Tryz.func220 (by kernel_rfl) (by kernel_rfl)
def kf221 : KFun := .mk 3 [.t 6] (.seq (.reg [6] [.s 6 (.mv (kI 0))]) (.seq (.reg [] [kM 7 0,kC 8 7,kO 9 8 1,kL 10 9,.s 11 (.ar .add (.t 10) (kI 1)),kC 12 7,kO 13 12 1,.n
  (.st (.t 13) (.t 11))]) (.seq (.seq (.reg [17] [kM 14 0,kM 15 1,.s 16 (.call 200 [(.t 14),(.t 15)]),.s 17 (.not (.t 16))]) (.cond (.t 17) (.seq (.reg [6]
  [.s 6 (.mv (kI 1))]) .ret) .skip)) (.seq (.reg [] [kM 18 0,kC 19 18,kO 20 19 0,kL 21 20,kM 22 1,kM 23 2,.s 24 (.ixp (.t 21) (.t 22) 1),.n (.st (.t 24)
  (.t 23))]) (.seq (.reg [6] [.s 6 (.mv (kI 0))]) .ret)))))
theorem fq221 : FF 221 kf221 := cf (em := 131143) Tryz.func221 (by kernel_rfl) (by kernel_rfl)
def kf222 : KFun := .mk 2 [.t 4] (.seq (.reg [4] [.s 4 (.mv (.c (.b false)))]) (.seq (.reg [] [kM 5 0,kC 6 5,kO 7 6 3,kL 8 7,.s 9 (.ar .add (.t 8) (kI 1)),kC 10 5,kO 11 10 3,
  .n (.st (.t 11) (.t 9))]) (.seq (.reg [4] [kM 12 0,kC 13 12,kO 14 13 0,kL 15 14,kM 16 1,.s 17 (.call 310 [(.t 15),(.t 16)]),kM 4 17]) .ret)))
theorem fq222 : FF 222 kf222 := cf (em := 19) Tryz.func222 (by kernel_rfl) (by kernel_rfl)
def kf223 : KFun := .mk 1 [.t 2] (.seq (.reg [2] [.s 2 (.mv (.c (.z 0 0)))]) (.seq (.seq (.reg [8] [kM 3 0,.s 4 (.cm .lt (.t 3) (kI 0)),kM 5 4,.gs 5 false 6 (.mv (.t 0)),.gs 5
  false 7 (.cm .gt (.t 6) (kI 1099511627776)),.s 8 (.pick (.t 5) (.c (.b true)) (.t 7))]) (.cond (.t 8) (.seq (.reg [2] [.s 9 (.call 123 []),kM 2 9]) .ret)
  .skip)) (.seq (.reg [2] [kM 10 0,.s 11 (.ar .add (.t 10) (kI 1)),.s 12 (.q (.cif (.t 11))),.s 13 (.q (.cplx (.t 12) (.c (.f 4607182418800017408)))),kM 2
  13]) .ret)))
theorem fq223 : FF 223 kf223 := cf (em := 261) Tryz.func223 (by kernel_rfl) (by kernel_rfl)
def kf225 : KFun := .mk 1 [.t 2,.t 3] (.seq (.reg [2,3] [.s 2 (.mv (kI 0)),.s 3 (.mv (.c (.b false)))]) (.seq (.reg [4] [kM 6 0,.s 7 (.re (.t 6)),kM 4 7]) (.seq (.seq (.reg
  [14] [kM 8 4,.s 9 (.q (.fcm .ge (.t 8) (.c (.f 14069245235905429504)))),kM 10 9,.gs 10 true 11 (.mv (.t 4)),.gs 10 true 12 (.q (.fcm .le (.t 11) (.c (.f
  4845873199050653696)))),.s 13 (.pick (.t 10) (.t 12) (.c (.b false))),.s 14 (.not (.t 13))]) (.cond (.t 14) (.seq (.reg [2,3] [.s 2 (.mv (kI 0)),.s 3 (.mv
  (.c (.b false)))]) .ret) .skip)) (.seq (.reg [5] [kM 15 4,.s 16 (.q (.cfi .i64 (.t 15))),kM 5 16]) (.seq (.seq (.reg [21] [kM 17 0,kM 18 5,.s 19 (.call 226
  [(.t 18)]),.s 20 (.call 238 [(.t 17),(.t 19)]),.s 21 (.not (.t 20))]) (.cond (.t 21) (.seq (.reg [2,3] [.s 2 (.mv (kI 0)),.s 3 (.mv (.c (.b false)))])
  .ret) .skip)) (.seq (.reg [2,3] [kM 22 5,kM 2 22,.s 3 (.mv (.c (.b true)))]) .ret))))))
theorem fq225 : FF 225 kf225 := cf (em := 2113597) Tryz.func225 (by kernel_rfl) (by kernel_rfl)
def kf226 : KFun := .mk 1 [.t 2] (.seq (.reg [2] [.s 2 (.mv (.c (.z 0 0)))]) (.seq (.seq (.reg [8] [kM 3 0,.s 4 (.cm .lt (.t 3) (.c (.i (.negSucc 9007199254740991)))),kM 5 4,.gs
  5 false 6 (.mv (.t 0)),.gs 5 false 7 (.cm .gt (.t 6) (kI 9007199254740992)),.s 8 (.pick (.t 5) (.c (.b true)) (.t 7))]) (.cond (.t 8) (.seq (.reg [2] [.s 2
  (.mv (.c (.z 0 0)))]) .ret) .skip)) (.seq (.reg [2] [kM 9 0,.s 10 (.q (.cif (.t 9))),.s 11 (.q (.cplx (.t 10) (.c (.f 0)))),kM 2 11]) .ret)))
theorem fq226 : FF 226 kf226 := cf (em := 261) Tryz.func226 (by kernel_rfl) (by kernel_rfl)
def kf228 : KFun := .mk 2 [.cn 4 7,.t 5] (.seq (.reg [4,5] [.s 4 (.new [.i (.ofNat 0),.i (.ofNat 0),.i (.ofNat 0),.i (.ofNat 0),.i (.ofNat 0),.i (.ofNat 0),.ns]),.s 5 (.mv
  (.c (.b false)))]) (.seq (.reg [5] [kM 6 0,kM 7 0,kM 8 1,.s 9 (.call 312 [(.t 7),(.t 8)]),.s 10 (.call 311 [(.t 6),(.t 9)]),kE 11 10 0,kE 12 10 1,.n
  (.stn (.t 4) (.t 11) 7),kM 5 12]) .ret))
theorem fq228 : FF 228 kf228 := cf (em := 51) Tryz.func228 (by kernel_rfl) (by kernel_rfl)
def kf229 : KFun := .mk 1 [.cn 2 3] (.seq (.reg [2] [.s 2 (.new [.i (.ofNat 0),.ns,.i (.ofNat 0)])]) (.seq (.reg [] [kM 3 0,.s 4 (.bld [.i (.ofNat 0),.ns,.i (.ofNat 0)] (.cons
  0 1 (.t 3) (.cons 2 1 (.c (.i (.negSucc 0))) .nil))),.n (.stn (.t 2) (.t 4) 3)]) .ret))
theorem fq229 : FF 229 kf229 := cf (em := 5) Tryz.func229 (by kernel_rfl) (by kernel_rfl)
def kf230 : KFun := .mk 2 [.t 4] (.seq (.reg [4] [.s 4 (.mv (.c (.b false)))]) (.seq (.reg [5] [kM 6 0,kM 7 1,.s 8 (.call 312 [(.t 6),(.t 7)]),kM 5 8]) (.seq (.seq (.reg [10]
  [kM 9 5,.s 10 (.cm .lt (.t 9) (kI 0))]) (.cond (.t 10) (.seq (.reg [4] [.s 4 (.mv (.c (.b false)))]) .ret) .skip)) (.seq (.reg [] [kM 11 0,kM 12 0,kC 13 12,
  kO 14 13 0,kL 15 14,kM 16 5,kM 17 5,.s 18 (.ar .add (.t 17) (kI 1)),.s 19 (.call 313 [(.t 15),(.t 16),(.t 18)]),kC 20 11,kO 21 20 0,.n (.st (.t 21)
  (.t 19))]) (.seq (.reg [4] [.s 4 (.mv (.c (.b true)))]) .ret)))))
theorem fq230 : FF 230 kf230 := cf (em := 1075) Tryz.func230 (by kernel_rfl) (by kernel_rfl)
def kf231 : KFun := .mk 3 [.t 6,.t 7] (.seq (.reg [3,6,7] [.s 3 (.box (.t 0)),.s 6 (.mv (.c (.ns))),.s 7 (.mv (kI 0))]) (.scope (.seq (.reg [8,9] [kW 14 3 9,kM 15 1,kM 16 2,
  .s 17 (.call 314 [(.t 14),(.t 15),(kI 0),(.c (.b false)),(.t 16)]),kM 13 17,kE 18 13 0,kE 19 13 1,.s 8 (.new [.b false,.ns]),.n (.stn (.t 8) (.t 18)
  2),kM 9 19]) (.seq (.seq (.reg [21] [kM 20 9,.s 21 (.cm .ne (.t 20) (kI 0))]) (.cond (.t 21) (.seq (.reg [6,7] [kM 22 9,.s 6 (.mv (.c (.ns))),kM 7 22])
  .ret) .skip)) (.seq (.reg [10] [.s 10 (.mv (.c (.ns)))]) (.seq (.reg [11] [.s 11 (.new [.z 0 0,.z 0 0,.z 0 0,.z 0 0,.z 0 0,.z 0 0,.z 0 0,.z 0 0])])
  (.seq (.reg [12] [.s 12 (.mv (kI 0))]) (.seq (.label 0) (.seq (.reg [] [.s 23 (.call 123 []),.s 24 (.bld [.z 0 0,.z 0 0,.z 0 0,.z 0 0,.z 0 0,.z 0 0,.z 0
  0,.z 0 0] (.cons 0 1 (.t 23) .nil)),.n (.stn (.t 11) (.t 24) 8)]) (.seq (.seq (.reg [26] [kM 25 12,.s 26 (.cm .eq (.t 25) (kI 0))]) (.cond (.t 26) (.seq
  (.reg [] [kM 27 1,.s 28 (.call 315 [(.t 27),(kI 0)]),.s 29 (.q (.iar (.t 11) (kI 1) 1 8)),.n (.st (.t 29) (.t 28))]) (.seq (.reg [31] [kM 30 2,.s 31
  (.call 316 [(.t 30)])]) (.cond (.t 31) (.reg [] [kM 32 1,.s 33 (.call 315 [(.t 32),(kI 1)]),.s 34 (.q (.iar (.t 11) (kI 1) 1 8)),.n (.st (.t 34) (.t 33))])
  .skip))) .skip)) (.seq (.seq (.reg [39] [kM 35 12,.s 36 (.ar .add (.t 35) (kI 1)),kM 37 2,.s 38 (.len (.t 37)),.s 39 (.cm .lt (.t 36) (.t 38))]) (.cond (.t
  39) (.reg [] [kM 40 2,kM 41 12,.s 42 (.ar .add (.t 41) (kI 1)),.s 43 (.ixp (.t 40) (.t 42) 1),kL 44 43,.s 45 (.call 223 [(.t 44)]),.s 46 (.q (.iar (.t
  11) (kI 0) 1 8)),.n (.st (.t 46) (.t 45))]) .skip)) (.seq (.reg [] [kW 47 8 2,kM 48 12,.s 49 (.call 317 [(.t 47),(.t 48),(.t 11)])]) (.seq (.drw [10] [.mk
  0 1 true (kW 50 3 9),.mk 1 2 true (kM 51 10),.mk 2 4 true (kM 52 2),.mk 3 8 true (kM 53 12),.mk 4 28 true (.s 54 (.ixp (.t 52) (.t 53) 1)),.mk 5 60 true
  (kL 55 54),.mk 6 64 true (kW 56 11 8),.mk 7 255 false (.s 57 (.call 318 [(.t 50),(.t 51),(.t 55),(.t 56)])),.mk 8 511 true (kM 10 57)] [.mk 128 255 (.s
  57 (.call 318 [(.t 50),(.t 51),(.t 55),(.t 56)]))]) (.seq (.seq (.reg [12] [kM 58 12,.s 59 (.ar .add (.t 58) (kI 1)),kM 12 59]) (.seq (.reg [63] [kM 60
  12,kM 61 2,.s 62 (.len (.t 61)),.s 63 (.cm .lt (.t 60) (.t 62))]) (.cond (.t 63) (.goto 0) .skip))) (.seq (.reg [6,7] [kM 64 10,kM 6 64,.s 7 (.mv (kI
  0))]) .ret)))))))))))))))
theorem fq231 : FF 231 kf231 := cf (em := 9223372588827287503) Tryz.func231 (by kernel_rfl) (by kernel_rfl)
def kf232 : KFun := .mk 5 [.t 10,.t 11] (.seq (.reg [5,10,11] [.s 5 (.box (.t 0)),.s 10 (.mv (.c (.ns))),.s 11 (.mv (kI 0))]) (.scope (.seq (.reg [12] [.s 12 (.mv (.c (.ns)))])
  (.seq (.reg [13] [.s 13 (.new [.z 0 0,.z 0 0,.z 0 0,.z 0 0,.z 0 0,.z 0 0,.z 0 0,.z 0 0])]) (.seq (.reg [14,15] [.s 14 (.mv (kI 0)),.s 15 (.mv (kI
  1))]) (.seq (.reg [16,17] [kW 22 5 9,kM 23 1,kM 24 2,kM 25 3,.s 26 (.call 314 [(.t 22),(.t 23),(.t 24),(.c (.b true)),(.t 25)]),kM 21 26,kE 27 21 0,
  kE 28 21 1,.s 16 (.new [.b false,.ns]),.n (.stn (.t 16) (.t 27) 2),kM 17 28]) (.seq (.seq (.reg [30] [kM 29 17,.s 30 (.cm .ne (.t 29) (kI 0))]) (.cond (.t
  30) (.goto 0) .skip)) (.seq (.reg [14] [kM 31 2,.s 32 (.call 320 [(.t 31)]),kM 33 3,.s 34 (.call 319 [(.t 32),(.t 33)]),kM 14 34]) (.seq (.seq (.drw [45]
  [.mk 0 1 true (kM 35 14),.mk 1 3 true (.s 36 (.cm .eq (.t 35) (kI 1))),.mk 2 7 true (kM 37 36),.mk 3 15 true (.gs 37 true 38 (.ldn (.t 5) 9)),.mk 4 23 true
  (.gs 37 true 39 (.mv (.t 4))),.mk 5 39 true (.gs 37 true 40 (.ldn (.t 16) 2)),.mk 6 71 true (.gs 37 true 41 (.mv (.t 2))),.mk 7 231 false (.gs 37 true 42
  (.call 294 [(.t 40),(.t 41)])),.mk 8 511 false (.gs 37 true 43 (.call 321 [(.t 38),(.t 39),(.t 42)])),.mk 9 1023 true (.gs 37 true 44 (.not (.t 43))),.mk
  10 2047 true (.s 45 (.pick (.t 37) (.t 44) (.c (.b false))))] [.mk 384 231 (.gs 37 true 42 (.call 294 [(.t 40),(.t 41)])),.mk 256 511 (.gs 37 true 43 (.call
  321 [(.t 38),(.t 39),(.t 42)]))]) (.cond (.t 45) (.seq (.reg [17] [.s 17 (.mv (kI 2))]) (.goto 0)) .skip)) (.seq (.drw [12] [.mk 0 1 true (kW 46 5 9),.mk 1
  2 true (kM 47 12),.mk 2 4 true (kM 48 3),.mk 3 12 true (.s 49 (.ixp (.t 48) (kI 0) 1)),.mk 4 28 true (kL 50 49),.mk 5 32 true (kM 51 1),.mk 6 64 true (kM
  52 2),.mk 7 128 true (kM 53 14),.mk 8 256 true (kM 54 3),.mk 9 512 true (kM 55 4),.mk 10 2016 false (.s 56 (.call 322 [(.t 51),(.t 52),(.t 53),(.t 54),
  (.t 55)])),.mk 11 4095 false (.s 57 (.call 318 [(.t 46),(.t 47),(.t 50),(.t 56)])),.mk 12 8191 true (kM 12 57)] [.mk 3072 2016 (.s 56 (.call 322 [(.t 51),
  (.t 52),(.t 53),(.t 54),(.t 55)])),.mk 2048 4095 (.s 57 (.call 318 [(.t 46),(.t 47),(.t 50),(.t 56)]))]) (.seq (.seq (.reg [58] [.s 58 (.mv (kI 0))])
  (.blk 0 (.loop (.seq (.reg [59] [.s 59 (.cm .lt (.t 58) (kI 8))]) (.seq (.cond (.t 59) .skip (.exit 0)) (.seq (.blk 1 (.seq (.reg [18] [kM 60 58,kM 18 60])
  (.reg [] [kM 61 18,kO 62 16 1,kL 63 62,.s 64 (.ixp (.t 63) (kI 0) 1),kL 65 64,.s 66 (.call 323 [(.t 65)]),.s 67 (.q (.iar (.t 13) (.t 61) 1 8)),.n (.st
  (.t 67) (.t 66))]))) (.reg [58] [.s 68 (.ar .add (.t 58) (kI 1)),kM 58 68]))))))) (.seq (.label 1) (.seq (.seq (.reg [72] [kM 69 15,kM 70 3,.s 71 (.len (.t
  70)),.s 72 (.cm .lt (.t 69) (.t 71))]) (.cond (.t 72) (.seq (.drw [12] [.mk 0 1 true (kW 73 5 9),.mk 1 2 true (kM 74 12),.mk 2 4 true (kM 75 3),.mk 3 8
  true (kM 76 15),.mk 4 28 true (.s 77 (.ixp (.t 75) (.t 76) 1)),.mk 5 60 true (kL 78 77),.mk 6 64 true (kW 79 13 8),.mk 7 255 false (.s 80 (.call 318 [(.t
  73),(.t 74),(.t 78),(.t 79)])),.mk 8 511 true (kM 12 80)] [.mk 128 255 (.s 80 (.call 318 [(.t 73),(.t 74),(.t 78),(.t 79)]))]) (.seq (.reg [15] [kM 81
  15,.s 82 (.ar .add (.t 81) (kI 1)),kM 15 82]) (.goto 1))) .skip)) (.seq (.seq (.reg [84] [kM 83 14,.s 84 (.cm .eq (.t 83) (kI 1))]) (.cond (.t 84) (.seq
  (.reg [12] [kM 85 12,kM 86 4,kM 87 3,.s 88 (.ixp (.t 87) (kI 0) 1),kL 89 88,.s 90 (.call 223 [(.t 89)]),.s 91 (.bld [.i (.ofNat 0),.z 0 0] (.cons 0 1
  (.t 86) (.cons 1 1 (.t 90) .nil))),kM 92 4,.s 93 (.ar .add (.t 92) (kI 1)),kM 94 3,.s 95 (.len (.t 94)),.s 96 (.ar .sub (.t 95) (kI 1)),.s 97 (.call 226
  [(.t 96)]),.s 98 (.bld [.i (.ofNat 0),.z 0 0] (.cons 0 1 (.t 93) (.cons 1 1 (.t 97) .nil))),.s 99 (.bsl [.i (.ofNat 0),.z 0 0] 2 (.cons 0 2 (.t 91) (.cons
  2 2 (.t 98) .nil))),.s 100 (.app 2 24 (.t 85) (.t 99)),kM 12 100]) (.seq (.reg [102,103,104] [kM 101 3,.s 102 (.q (.sli (.t 101) 1 (.ok (kI 1)) .no)),.s
  103 (.len (.t 102)),.s 104 (.mv (kI 0))]) (.blk 2 (.loop (.seq (.reg [105] [.s 105 (.cm .lt (.t 104) (.t 103))]) (.seq (.cond (.t 105) .skip (.exit 2)) (.seq
  (.blk 3 (.seq (.reg [19,20] [kM 106 104,.s 107 (.ixp (.t 102) (.t 104) 1),kL 108 107,kM 19 106,kM 20 108]) (.reg [12] [kM 109 12,kM 110 4,.s 111 (.ar
  .add (.t 110) (kI 2)),kM 112 19,.s 113 (.ar .add (.t 111) (.t 112)),kM 114 20,.s 115 (.call 223 [(.t 114)]),.s 116 (.bld [.i (.ofNat 0),.z 0 0] (.cons 0
  1 (.t 113) (.cons 1 1 (.t 115) .nil))),.s 117 (.bsl [.i (.ofNat 0),.z 0 0] 1 (.cons 0 2 (.t 116) .nil)),.s 118 (.app 2 24 (.t 109) (.t 117)),kM 12 118])))
  (.reg [104] [.s 119 (.ar .add (.t 104) (kI 1)),kM 104 119])))))))) .skip)) (.seq (.label 0) (.seq (.reg [10,11] [kM 120 12,kM 121 17,kM 10 120,kM 11 121])
  .ret))))))))))))))))
theorem fq232 : FF 232 kf232 := cf (em := 76059055361230109133052535897151) Tryz.func232 (by kernel_rfl) (by kernel_rfl)
def kf233 : KFun := .mk 1 [] (.seq (.reg [7,8] [kM 3 0,kC 4 3,kO 5 4 0,kL 6 5,.s 7 (.len (.t 6)),.s 8 (.mv (kI 0))]) (.blk 0 (.loop (.seq (.reg [9] [.s 9 (.cm .lt (.t 8) (.t
  7))]) (.seq (.cond (.t 9) .skip (.exit 0)) (.seq (.blk 1 (.seq (.reg [2] [kM 10 8,kM 2 10]) (.drw [] [.mk 0 1 true (kM 11 0),.mk 1 3 true (kC 12 11),.mk 2 7
  true (kO 13 12 0),.mk 3 15 true (kL 14 13),.mk 4 16 true (kM 15 2),.mk 5 32 true (kM 16 0),.mk 6 96 true (kC 17 16),.mk 7 224 true (kO 18 17 0),.mk 8 480
  true (kL 19 18),.mk 9 512 true (kM 20 2),.mk 10 2016 true (.s 21 (.ixp (.t 19) (.t 20) 8)),.mk 11 4064 true (kO 22 21 0),.mk 12 8160 true (kO 23 22 3),.mk
  13 16352 true (kL 24 23),.mk 14 32736 true (.s 25 (.cm .eq (.t 24) (kI 0))),.mk 15 65535 true (.s 26 (.ixp (.t 14) (.t 15) 8)),.mk 16 131071 true (kO 27 26
  7),.mk 17 262143 false (.n (.st (.t 27) (.t 25)))] [.mk 131072 262143 (.n (.st (.t 27) (.t 25)))]))) (.reg [8] [.s 28 (.ar .add (.t 8) (kI 1)),kM 8
  28])))))))
theorem fq233 : FF 233 kf233 := cf (em := 901) Tryz.func233 (by kernel_rfl) (by kernel_rfl)
def kf234 : KFun := .mk 2 [.t 4] (.seq (.reg [4] [.s 4 (.mv (.c (.b false)))]) (.seq (.reg [] [kM 6 0,kC 7 6,kO 8 7 3,kL 9 8,.s 10 (.ar .add (.t 9) (kI 1)),kC 11 6,kO 12 11 3,
  .n (.st (.t 12) (.t 10))]) (.seq (.reg [5] [kM 13 0,kM 14 1,.s 15 (.call 22 [(.t 13),(.t 14)]),kM 5 15]) (.seq (.reg [4] [kM 16 5,.s 17 (.cm .eq (.t 16)
  (.c (.i (.negSucc 0)))),kM 18 17,.gs 18 false 19 (.mv (.t 5)),.gs 18 false 20 (.mv (.t 0)),.gs 18 false 21 (.ck (.t 20)),.gs 18 false 22 (.off (.t 21) 0),
  .gs 18 false 23 (.ld (.t 22)),.gs 18 false 24 (.cm .eq (.t 19) (.t 23)),.s 25 (.pick (.t 18) (.c (.b true)) (.t 24)),kM 4 25]) .ret))))
theorem fq234 : FF 234 kf234 := cf (em := 51) Tryz.func234 (by kernel_rfl) (by kernel_rfl)
def kf235 : KFun := .mk 3 [.t 6] (.seq (.reg [3,6] [.s 3 (.box (.t 0)),.s 6 (.mv (.c (.b false)))]) (.seq (.reg [6] [kO 7 3 0,kL 8 7,kM 9 1,.s 10 (.call 29 [(.t 8),(.t 9)]),
  kM 11 10,.gs 11 true 12 (.off (.t 3) 0),.gs 11 true 13 (.ld (.t 12)),.gs 11 true 14 (.mv (.t 1)),.gs 11 true 15 (.mv (.t 2)),.gs 11 true 16 (.call 28 [(.t
  13),(.t 14),(.t 15)]),.gs 11 true 17 (.not (.t 16)),.s 18 (.pick (.t 11) (.t 17) (.c (.b false))),kM 6 18]) .ret))
theorem fq235 : FF 235 kf235 := cf (em := 79) Tryz.func235 (by kernel_rfl) (by kernel_rfl)
def kf236 : KFun := .mk 3 [.t 6] (.seq (.reg [6] [.s 6 (.mv (.c (.b false)))]) (.seq (.seq (.reg [16] [kM 7 0,kM 8 1,.s 9 (.call 78 [(.t 7),(.t 8)]),.s 10 (.cm .ne (.t 9) (kI
  2)),kM 11 10,.gs 11 false 12 (.mv (.t 0)),.gs 11 false 13 (.mv (.t 1)),.gs 11 false 14 (.mv (.t 2)),.gs 11 false 15 (.call 28 [(.t 12),(.t 13),(.t
  14)]),.s 16 (.pick (.t 11) (.c (.b true)) (.t 15))]) (.cond (.t 16) (.seq (.reg [6] [.s 6 (.mv (.c (.b false)))]) .ret) .skip)) (.seq (.reg [] [kM 17 0,kC 18
  17,kO 19 18 0,kL 20 19,kM 21 1,kM 22 2,.s 23 (.ixp (.t 20) (.t 21) 3),kO 24 23 2,.n (.st (.t 24) (.t 22))]) (.seq (.reg [6] [.s 6 (.mv (.c (.b true)))])
  .ret))))
theorem fq236 : FF 236 kf236 := cf (em := 65607) Tryz.func236 (by kernel_rfl) (by kernel_rfl)
def kf237 : KFun := .mk 2 [.t 4] (.seq (.reg [4] [.s 4 (.mv (.c (.b false)))]) (.seq (.seq (.drw [14] [.mk 0 1 true (kM 5 0),.mk 1 3 true (kC 6 5),.mk 2 7 true (kO 7 6 0),.mk 3
  15 true (kL 8 7),.mk 4 31 true (.s 9 (.len (.t 8))),.mk 5 32 true (kM 10 0),.mk 6 96 true (kC 11 10),.mk 7 224 true (kO 12 11 1),.mk 8 480 true (kL 13
  12),.mk 9 1023 true (.s 14 (.cm .eq (.t 9) (.t 13)))] []) (.cond (.t 14) (.seq (.reg [] [kM 15 0,kC 16 15,kO 17 16 2,.n (.st (.t 17) (.c (.b true)))])
  (.seq (.reg [4] [.s 4 (.mv (.c (.b false)))]) .ret)) .skip)) (.seq (.reg [] [kM 18 0,kM 19 0,kC 20 19,kO 21 20 0,kL 22 21,kM 23 1,.s 24 (.bsl [.i (.ofNat
  0)] 1 (.cons 0 1 (.t 23) .nil)),.s 25 (.app 1 8 (.t 22) (.t 24)),kC 26 18,kO 27 26 0,.n (.st (.t 27) (.t 25))]) (.seq (.reg [4] [.s 4 (.mv (.c (.b
  true)))]) .ret))))
theorem fq237 : FF 237 kf237 := cf (em := 16403) Tryz.func237 (by kernel_rfl) (by kernel_rfl)
def kf238 : KFun := .mk 2 [.t 4] (.seq (.reg [4] [.s 4 (.mv (.c (.b false)))]) (.seq (.reg [5,6] [kM 10 0,.s 11 (.call 324 [(.t 10)]),kM 9 11,kE 12 9 0,kE 13 9 1,kM 5 12,kM 6
  13]) (.seq (.reg [7,8] [kM 15 1,.s 16 (.call 324 [(.t 15)]),kM 14 16,kE 17 14 0,kE 18 14 1,kM 7 17,kM 8 18]) (.seq (.reg [4] [kM 19 5,kM 20 7,.s 21
  (.cmk .eq (.t 19) (.t 20)),kM 22 21,.gs 22 true 23 (.mv (.t 6)),.gs 22 true 24 (.mv (.t 8)),.gs 22 true 25 (.cmk .eq (.t 23) (.t 24)),.s 26 (.pick (.t 22)
  (.t 25) (.c (.b false))),kM 4 26]) .ret))))
theorem fq238 : FF 238 kf238 := cf (em := 499) Tryz.func238 (by kernel_rfl) (by kernel_rfl)
def kf239 : KFun := .mk 1 [.t 2,.t 3] (.seq (.reg [2,3] [.s 2 (.mv (kI 0)),.s 3 (.mv (.c (.b false)))]) (.seq (.reg [4] [kM 6 0,kC 7 6,kO 8 7 0,kL 9 8,.s 10 (.len (.t 9)),.s
  11 (.ar .sub (.t 10) (kI 1)),kM 4 11]) (.seq (.seq (.reg [13] [kM 12 4,.s 13 (.cm .lt (.t 12) (kI 0))]) (.cond (.t 13) (.seq (.reg [2,3] [.s 2 (.mv (kI 0)),
  .s 3 (.mv (.c (.b false)))]) .ret) .skip)) (.seq (.reg [5] [kM 14 0,kC 15 14,kO 16 15 0,kL 17 16,kM 18 4,.s 19 (.ixp (.t 17) (.t 18) 1),kL 20 19,kM 5
  20]) (.seq (.reg [] [kM 21 0,kM 22 0,kC 23 22,kO 24 23 0,kL 25 24,kM 26 4,.s 27 (.q (.sli (.t 25) 1 .no (.ok (.t 26)))),kC 28 21,kO 29 28 0,.n (.st
  (.t 29) (.t 27))]) (.seq (.reg [2,3] [kM 30 5,kM 2 30,.s 3 (.mv (.c (.b true)))]) .ret))))))
theorem fq239 : FF 239 kf239 := cf (em := 8253) Tryz.func239 (by kernel_rfl) (by kernel_rfl)
def kf240 : KFun := .mk 3 [.t 6] (.seq (.reg [6] [.s 6 (.mv (.c (.b false)))]) (.seq (.seq (.reg [11] [kM 7 0,kC 8 7,kO 9 8 11,kL 10 9,.s 11 (.cm .eq (.t 10) (kI 9))]) (.cond
  (.t 11) (.seq (.reg [6] [.s 6 (.mv (.c (.b true)))]) .ret) .skip)) (.seq (.reg [] [kM 12 0,kC 13 12,kO 14 13 22,kL 15 14,.s 16 (.ar .add (.t 15) (kI 1)),
  kC 17 12,kO 18 17 22,.n (.st (.t 18) (.t 16))]) (.seq (.seq (.reg [23] [kM 19 0,kM 20 1,kM 21 2,.s 22 (.call 325 [(.t 19),(.t 20),(.t 21)]),.s 23 (.not
  (.t 22))]) (.cond (.t 23) (.reg [] [kM 24 0,kM 25 0,kC 26 24,kO 27 26 11,.n (.st (.t 27) (kI 9)),kC 28 25,kO 29 28 21,.n (.st (.t 29) (kI 10))]) .skip))
  (.seq (.reg [6] [kM 30 0,kC 31 30,kO 32 31 11,kL 33 32,.s 34 (.cm .eq (.t 33) (kI 9)),kM 6 34]) .ret)))))
theorem fq240 : FF 240 kf240 := cf (em := 8390727) Tryz.func240 (by kernel_rfl) (by kernel_rfl)
def kf241 : KFun := .mk 1 [.t 2] (.seq (.reg [2] [.s 2 (.mv (kI 0))]) (.seq (.reg [2] [kM 3 0,kC 4 3,kO 5 4 21,kL 6 5,kM 2 6]) .ret))
theorem fq241 : FF 241 kf241 := cf (em := 5) Tryz.func241 (by kernel_rfl) (by kernel_rfl)
def kf242 : KFun := .mk 1 [.t 2] (.seq (.reg [2] [.s 2 (.mv (.c (.b false)))]) (.seq (.reg [2] [kM 3 0,kC 4 3,kO 5 4 2,kL 6 5,kM 2 6]) .ret))
theorem fq242 : FF 242 kf242 := cf (em := 5) Tryz.func242 (by kernel_rfl) (by kernel_rfl)
def kf243 : KFun := .mk 1 [] (.reg [] [kM 2 0,kC 3 2,kO 4 3 2,.n (.st (.t 4) (.c (.b false)))])
theorem fq243 : FF 243 kf243 := cf (em := 1) Tryz.func243 (by kernel_rfl) (by kernel_rfl)
def kf244 : KFun := .mk 1 [.t 2] (.seq (.reg [2] [.s 2 (.mv (.c (.b false)))]) (.seq (.seq (.drw [13] [.mk 0 1 true (kM 3 0),.mk 1 2 true (kM 4 0),.mk 2 6 true (kC 5 4),.mk 3 14
  true (kO 6 5 1),.mk 4 30 true (kL 7 6),.mk 5 62 true (.s 8 (.ar .sub (kI 1) (.t 7))),.mk 6 65 true (kC 9 3),.mk 7 193 true (kO 10 9 2),.mk 8 511 true (.s
  11 (.q (.iar (.t 10) (.t 8) 1 2))),.mk 9 1023 true (kL 12 11),.mk 10 2047 true (.s 13 (.cm .gt (.t 12) (kI 0)))] []) (.cond (.t 13) (.seq (.reg [2] [.s 2
  (.mv (.c (.b false)))]) .ret) .skip)) (.seq (.drw [] [.mk 0 1 true (kM 14 0),.mk 1 2 true (kM 15 0),.mk 2 4 true (kM 16 0),.mk 3 12 true (kC 17 16),.mk 4
  28 true (kO 18 17 1),.mk 5 60 true (kL 19 18),.mk 6 66 true (kC 20 15),.mk 7 194 true (kO 21 20 2),.mk 8 510 true (.s 22 (.q (.iar (.t 21) (.t 19) 1 2))),
  .mk 9 1022 true (kL 23 22),.mk 10 2047 true (kC 24 14),.mk 11 4095 true (kO 25 24 4),.mk 12 8191 false (.n (.st (.t 25) (.t 23)))] [.mk 4096 8191 (.n (.st
  (.t 25) (.t 23)))]) (.seq (.reg [] [kM 26 0,kM 27 0,kC 28 27,kO 29 28 1,kL 30 29,.s 31 (.ar .sub (kI 1) (.t 30)),kC 32 26,kO 33 32 1,.n (.st (.t 33)
  (.t 31))]) (.seq (.reg [2] [.s 2 (.mv (.c (.b true)))]) .ret)))))
theorem fq244 : FF 244 kf244 := cf (em := 8197) Tryz.func244 (by kernel_rfl) (by kernel_rfl)
end Go.Kx
