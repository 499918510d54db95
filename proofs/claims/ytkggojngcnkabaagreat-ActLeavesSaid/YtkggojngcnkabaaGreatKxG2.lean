/-
  Functions of the program in the evaluator's form; that this is right. Printed by a program of ours.
-/
import Derived.Test.YtkggojngcnkabaaGreatB11
set_option linter.unusedVariables false
set_option linter.unusedSimpArgs false
set_option maxRecDepth 100000
namespace Go.Kx
open Go.Proofs
def kf143 : KFun := .mk 4 [.t 8] (.seq (.reg [6, 7, 8] [.s 6 (.box (.t 2)), .s 7 (.box (.t 3)), .s 8 (.mv (.c (.b false)))]) (.seq (.reg [9] [.s 9 (.mv (kI 0))]) (.seq (.seq (.reg
  [12] [kO 10 6 0, kL 11 10, .s 12 (.cm .eq (.t 11) (kI 1))]) (.cond (.t 12) (.drw [9] [.mk 0 1 true (kM 14 0), .mk 1 2 true (kM 15 1), .mk 2 6 true (kC 16 15),
  .mk 3 14 true (kO 17 16 0), .mk 4 30 true (kW 18 17 9), .mk 5 32 true (kO 19 6 2), .mk 6 96 true (kL 20 19), .mk 7 128 true (kO 21 7 1), .mk 8 384 true (kL 22
  21), .mk 9 1022 false (.s 23 (.call 231 [(.t 18), (.t 20), (.t 22)])), .mk 10 2046 true (kM 13 23), .mk 11 4094 true (kE 24 13 0), .mk 12 6142 true (kE 25 13
  1), .mk 13 12287 true (kC 26 14), .mk 14 28671 true (kO 27 26 10), .mk 15 61439 true (kO 28 27 8), .mk 16 126975 false (.n (.st (.t 28) (.t 24))), .mk 17
  262143 true (kM 9 25)] [.mk 66048 1022 (.s 23 (.call 231 [(.t 18), (.t 20), (.t 22)])), .mk 65536 126975 (.n (.st (.t 28) (.t 24)))]) (.drw [9] [.mk 0 1 true
  (kM 30 0), .mk 1 2 true (kM 31 1), .mk 2 6 true (kC 32 31), .mk 3 14 true (kO 33 32 0), .mk 4 30 true (kW 34 33 9), .mk 5 32 true (kO 35 6 2), .mk 6 96 true
  (kL 36 35), .mk 7 128 true (kO 37 6 4), .mk 8 384 true (kL 38 37), .mk 9 512 true (kO 39 7 1), .mk 10 1536 true (kL 40 39), .mk 11 2048 true (kO 41 7 2), .mk
  12 6144 true (kL 42 41), .mk 13 16382 false (.s 43 (.call 232 [(.t 34), (.t 36), (.t 38), (.t 40), (.t 42)])), .mk 14 32766 true (kM 29 43), .mk 15 65534 true
  (kE 44 29 0), .mk 16 98302 true (kE 45 29 1), .mk 17 196607 true (kC 46 30), .mk 18 458751 true (kO 47 46 10), .mk 19 983039 true (kO 48 47 8), .mk 20 2031615
  false (.n (.st (.t 48) (.t 44))), .mk 21 4194303 true (kM 9 45)] [.mk 1056768 16382 (.s 43 (.call 232 [(.t 34), (.t 36), (.t 38), (.t 40), (.t 42)])), .mk
  1048576 2031615 (.n (.st (.t 48) (.t 44)))]))) (.seq (.reg [] [kM 49 0, kO 50 7 1, kL 51 50, kC 52 49, kO 53 52 10, kO 54 53 7, .n (.st (.t 54) (.t 51))])
  (.seq (.reg [] [kM 55 0, kM 56 0, kC 57 55, kO 58 57 3, .n (.st (.t 58) (kI 2)), kC 59 56, kO 60 59 10, kO 61 60 1, .n (.st (.t 61) (kI 7))]) (.seq (.reg [8]
  [kM 62 9, .s 63 (.cm .eq (.t 62) (kI 0)), kM 8 63]) .ret))))))
theorem fq143 : FF 143 kf143 := cf (em := 5071) Tryz.func143 (by kernel_rfl) (by kernel_rfl)
def kf169 : KFun := .mk 1 [.t 2] (.seq (.reg [2] [.s 2 (.mv (kI 0))]) (.seq (.reg [3] [.s 3 (.mv (kI 0))]) (.seq (.seq (.reg [9, 10, 11] [kM 6 0, kC 7 6, kO 8 7 0, kL 9 8, .s 10
  (.len (.t 9)), .s 11 (.mv (kI 0))]) (.blk 0 (.loop (.seq (.reg [12] [.s 12 (.cm .lt (.t 11) (.t 10))]) (.seq (.cond (.t 12) .skip (.exit 0)) (.seq (.blk 1
  (.seq (.reg [5] [.s 13 (.ixp (.t 9) (.t 11) 8), kW 14 13 8, .s 5 (.new [.i (.ofNat 0), .i (.ofNat 0), .i (.ofNat 0), .i (.ofNat 0), .i (.ofNat 0), .i (.ofNat
  0), .ns, .b false]), .n (.stn (.t 5) (.t 14) 8)]) (.seq (.reg [18] [kO 15 5 0, kO 16 15 3, kL 17 16, .s 18 (.cm .eq (.t 17) (kI 0))]) (.cond (.t 18) (.reg [3]
  [kM 19 3, .s 20 (.ar .add (.t 19) (kI 1)), kM 3 20]) .skip)))) (.reg [11] [.s 21 (.ar .add (.t 11) (kI 1)), kM 11 21]))))))) (.seq (.reg [2] [kM 22 3, kM 2
  22]) .ret))))
theorem fq169 : FF 169 kf169 := cf (em := 269869) Tryz.func169 (by kernel_rfl) (by kernel_rfl)
def kf173 : KFun := .mk 2 [.cn 4 2, .t 5] (.seq (.reg [2, 4, 5] [.s 2 (.box (.t 0)), .s 4 (.new [.b false, .ns]), .s 5 (.mv (.c (.b false)))]) (.seq (.seq (.reg [14] [kM 6 1, .s 7
  (.cm .lt (.t 6) (kI 0)), kM 8 7, .gs 8 false 9 (.mv (.t 1)), .gs 8 false 10 (.off (.t 2) 8), .gs 8 false 11 (.ld (.t 10)), .gs 8 false 12 (.len (.t 11)), .gs 8
  false 13 (.cm .ge (.t 9) (.t 12)), .s 14 (.pick (.t 8) (.c (.b true)) (.t 13))]) (.cond (.t 14) (.seq (.reg [5] [.s 15 (.bld [.b false, .ns] .nil), .n (.stn
  (.t 4) (.t 15) 2), .s 5 (.mv (.c (.b false)))]) .ret) .skip)) (.seq (.reg [5] [kO 16 2 8, kL 17 16, kM 18 1, .s 19 (.ixp (.t 17) (.t 18) 2), kW 20 19 2, .s 21
  (.call 201 [(.t 20)]), .n (.stn (.t 4) (.t 21) 2), .s 5 (.mv (.c (.b true)))]) .ret)))
theorem fq173 : FF 173 kf173 := cf (em := 16439) Tryz.func173 (by kernel_rfl) (by kernel_rfl)
def kf187 : KFun := .mk 3 [.t 6] (.seq (.reg [6] [.s 6 (.mv (.c (.b false)))]) (.seq (.reg [6] [kM 7 0, kM 8 1, .s 9 (.cm .ge (.t 7) (.t 8)), kM 10 9, .gs 10 true 11 (.mv (.t 0)),
  .gs 10 true 12 (.mv (.t 2)), .gs 10 true 13 (.cm .le (.t 11) (.t 12)), .s 14 (.pick (.t 10) (.t 13) (.c (.b false))), kM 6 14]) .ret))
theorem fq187 : FF 187 kf187 := cf (em := 71) Tryz.func187 (by kernel_rfl) (by kernel_rfl)
def kf188 : KFun := .mk 2 [.t 4] (.seq (.reg [4] [.s 4 (.mv (.c (.b false)))]) (.seq (.reg [4] [kM 5 0, kM 6 1, .s 7 (.call 287 [(.t 5), (.t 6)]), .s 8 (.cm .ge (.t 7) (kI 0)), kM 4
  8]) .ret))
theorem fq188 : FF 188 kf188 := cf (em := 19) Tryz.func188 (by kernel_rfl) (by kernel_rfl)
def kf189 : KFun := .mk 1 [.t 2] (.seq (.reg [1, 2] [.s 1 (.box (.t 0)), .s 2 (.mv (.c (.b false)))]) (.seq (.reg [2] [kW 3 1 2, .s 4 (.call 190 [(.t 3)]), .s 5 (.not (.t 4)), kM 2
  5]) .ret))
theorem fq189 : FF 189 kf189 := cf (em := 7) Tryz.func189 (by kernel_rfl) (by kernel_rfl)
def kf190 : KFun := .mk 1 [.t 2] (.seq (.reg [1, 2] [.s 1 (.box (.t 0)), .s 2 (.mv (.c (.b false)))]) (.seq (.reg [2] [kO 3 1 1, kL 4 3, .s 5 (.len (.t 4)), .s 6 (.cm .le (.t 5) (kI
  40)), kM 7 6, .gs 7 true 8 (.off (.t 1) 0), .gs 7 true 9 (.ld (.t 8)), .gs 7 true 10 (.not (.t 9)), .gs 7 true 11 (.mv (.t 10)), .gs 11 false 12 (.off (.t 1)
  1), .gs 11 false 13 (.ld (.t 12)), .gs 11 false 14 (.len (.t 13)), .gs 11 false 15 (.cm .eq (.t 14) (kI 1)), .gs 7 true 16 (.pick (.t 11) (.c (.b true)) (.t
  15)), .s 17 (.pick (.t 7) (.t 16) (.c (.b false))), kM 2 17]) .ret))
theorem fq190 : FF 190 kf190 := cf (em := 7) Tryz.func190 (by kernel_rfl) (by kernel_rfl)
def kf191 : KFun := .mk 1 [.cn 2 4] (.seq (.reg [1, 2] [.s 1 (.box (.t 0)), .s 2 (.new [.i (.ofNat 0), .i (.ofNat 0), .i (.ofNat 0), .i (.ofNat 0)])]) (.seq (.seq (.reg [5] [kW 3 1
  9, .s 4 (.call 115 [(.t 3)]), .s 5 (.cm .ne (.t 4) (kI 0))]) (.cond (.t 5) (.seq (.reg [] [.s 6 (.bld [.i (.ofNat 0), .i (.ofNat 0), .i (.ofNat 0), .i (.ofNat
  0)] .nil), .n (.stn (.t 2) (.t 6) 4)]) .ret) .skip)) (.seq (.reg [] [kO 7 1 0, kL 8 7, .s 9 (.ar .mul (.t 8) (kI 8)), kO 10 1 1, kL 11 10, kO 12 1 1, kL 13 12,
  kO 14 1 2, kL 15 14, .s 16 (.bld [.i (.ofNat 0), .i (.ofNat 0), .i (.ofNat 0), .i (.ofNat 0)] (.cons 0 1 (.t 9) (.cons 1 1 (.t 11) (.cons 2 1 (.t 13) (.cons 3
  1 (.t 15) .nil))))), .n (.stn (.t 2) (.t 16) 4)]) .ret)))
theorem fq191 : FF 191 kf191 := cf (em := 39) Tryz.func191 (by kernel_rfl) (by kernel_rfl)
def kf192 : KFun := .mk 1 [.t 2, .t 3] (.seq (.reg [2, 3] [.s 2 (.mv (.c (.np))), .s 3 (.mv (kI 0))]) (.seq (.seq (.reg [9] [kM 4 0, .s 5 (.cm .lt (.t 4) (kI 0)), kM 6 5, .gs 6
  false 7 (.mv (.t 0)), .gs 6 false 8 (.cm .gt (.t 7) (kI 1024)), .s 9 (.pick (.t 6) (.c (.b true)) (.t 8))]) (.cond (.t 9) (.seq (.reg [2, 3] [.s 2 (.mv (.c
  (.np))), .s 3 (.mv (kI 1))]) .ret) .skip)) (.seq (.reg [2, 3] [kM 10 0, .s 11 (.q (.mks [.i (.ofNat 0), .b false, .b false] 16 (.t 10) (.t 10))), kM 12 0, .s
  13 (.bld [.i (.ofNat 0), .i (.ofNat 0), .i (.ofNat 0)] (.cons 0 1 (.t 12) .nil)), .s 14 (.bld [.ns, .i (.ofNat 0), .i (.ofNat 0), .i (.ofNat 0)] (.cons 0 1 (.t
  11) (.cons 1 3 (.t 13) .nil))), .s 15 (.box (.t 14)), kM 2 15, .s 3 (.mv (kI 0))]) .ret)))
theorem fq192 : FF 192 kf192 := cf (em := 525) Tryz.func192 (by kernel_rfl) (by kernel_rfl)
def kf193 : KFun := .mk 1 [.t 2, .t 3] (.seq (.reg [2, 3] [.s 2 (.mv (.c (.np))), .s 3 (.mv (kI 0))]) (.seq (.seq (.reg [9] [kM 4 0, .s 5 (.cm .lt (.t 4) (kI 1)), kM 6 5, .gs 6
  false 7 (.mv (.t 0)), .gs 6 false 8 (.cm .gt (.t 7) (kI 256)), .s 9 (.pick (.t 6) (.c (.b true)) (.t 8))]) (.cond (.t 9) (.seq (.reg [2, 3] [.s 2 (.mv (.c
  (.np))), .s 3 (.mv (kI 1))]) .ret) .skip)) (.seq (.reg [2, 3] [kM 10 0, .s 11 (.bld [.ns, .i (.ofNat 0), .b false] (.cons 1 1 (.t 10) .nil)), .s 12 (.box (.t
  11)), kM 2 12, .s 3 (.mv (kI 0))]) .ret)))
theorem fq193 : FF 193 kf193 := cf (em := 525) Tryz.func193 (by kernel_rfl) (by kernel_rfl)
def kf194 : KFun := .mk 1 [.t 2] (.seq (.reg [2] [.s 2 (.mv (kI 0))]) (.seq (.reg [2] [kM 3 0, kC 4 3, kO 5 4 0, kL 6 5, .s 7 (.len (.t 6)), kM 2 7]) .ret))
theorem fq194 : FF 194 kf194 := cf (em := 5) Tryz.func194 (by kernel_rfl) (by kernel_rfl)
def kf195 : KFun := .mk 1 [.t 2, .t 3] (.seq (.reg [2, 3] [.s 2 (.mv (.c (.np))), .s 3 (.mv (kI 0))]) (.seq (.seq (.reg [11] [kM 6 0, .s 7 (.cm .lt (.t 6) (kI 0)), kM 8 7, .gs 8
  false 9 (.mv (.t 0)), .gs 8 false 10 (.cm .gt (.t 9) (kI 1024)), .s 11 (.pick (.t 8) (.c (.b true)) (.t 10))]) (.cond (.t 11) (.seq (.reg [2, 3] [.s 2 (.mv (.c
  (.np))), .s 3 (.mv (kI 1))]) .ret) .skip)) (.seq (.reg [4] [kM 12 0, .s 13 (.q (.mks [.b false] 1 (.t 12) (.t 12))), kM 14 0, .s 15 (.bld [.ns, .i (.ofNat 0)]
  (.cons 0 1 (.t 13) (.cons 1 1 (.t 14) .nil))), .s 16 (.box (.t 15)), kM 4 16]) (.seq (.seq (.reg [21, 22] [kM 17 4, kC 18 17, kO 19 18 0, kL 20 19, .s 21 (.len
  (.t 20)), .s 22 (.mv (kI 0))]) (.blk 0 (.loop (.seq (.reg [23] [.s 23 (.cm .lt (.t 22) (.t 21))]) (.seq (.cond (.t 23) .skip (.exit 0)) (.seq (.blk 1 (.seq
  (.reg [5] [kM 24 22, kM 5 24]) (.reg [] [kM 25 4, kC 26 25, kO 27 26 0, kL 28 27, kM 29 5, .s 30 (.ixp (.t 28) (.t 29) 1), .n (.st (.t 30) (.c (.b true)))])))
  (.reg [22] [.s 31 (.ar .add (.t 22) (kI 1)), kM 22 31]))))))) (.seq (.reg [2, 3] [kM 32 4, kM 2 32, .s 3 (.mv (kI 0))]) .ret)))))
theorem fq195 : FF 195 kf195 := cf (em := 14682173) Tryz.func195 (by kernel_rfl) (by kernel_rfl)
def kf196 : KFun := .mk 1 [.t 2, .t 3] (.seq (.reg [2, 3] [.s 2 (.mv (.c (.np))), .s 3 (.mv (kI 0))]) (.seq (.seq (.reg [9] [kM 4 0, .s 5 (.cm .lt (.t 4) (kI 0)), kM 6 5, .gs 6
  false 7 (.mv (.t 0)), .gs 6 false 8 (.cm .gt (.t 7) (kI 2048)), .s 9 (.pick (.t 6) (.c (.b true)) (.t 8))]) (.cond (.t 9) (.seq (.reg [2, 3] [.s 2 (.mv (.c
  (.np))), .s 3 (.mv (kI 1))]) .ret) .skip)) (.seq (.reg [2, 3] [kM 10 0, .s 11 (.bld [.i (.ofNat 0), .i (.ofNat 0), .i (.ofNat 0), .i (.ofNat 0), .i (.ofNat 0)]
  (.cons 0 1 (.t 10) .nil)), .s 12 (.box (.t 11)), kM 2 12, .s 3 (.mv (kI 0))]) .ret)))
theorem fq196 : FF 196 kf196 := cf (em := 525) Tryz.func196 (by kernel_rfl) (by kernel_rfl)
def kf197 : KFun := .mk 0 [.t 0] (.seq (.reg [0] [.s 0 (.mv (.c (.np)))]) (.seq (.reg [0] [.s 1 (.bld [.ns] .nil), .s 2 (.box (.t 1)), kM 0 2]) .ret))
theorem fq197 : FF 197 kf197 := cf (em := 1) Tryz.func197 (by kernel_rfl) (by kernel_rfl)
def kf198 : KFun := .mk 1 [.t 2, .t 3] (.seq (.reg [2, 3] [.s 2 (.mv (.c (.np))), .s 3 (.mv (kI 0))]) (.seq (.seq (.reg [9] [kM 4 0, .s 5 (.cm .lt (.t 4) (kI 0)), kM 6 5, .gs 6
  false 7 (.mv (.t 0)), .gs 6 false 8 (.cm .gt (.t 7) (kI 8)), .s 9 (.pick (.t 6) (.c (.b true)) (.t 8))]) (.cond (.t 9) (.seq (.reg [2, 3] [.s 2 (.mv (.c
  (.np))), .s 3 (.mv (kI 1))]) .ret) .skip)) (.seq (.reg [2, 3] [kM 10 0, .s 11 (.bld [.ns, .i (.ofNat 0)] (.cons 1 1 (.t 10) .nil)), .s 12 (.box (.t 11)), kM 2
  12, .s 3 (.mv (kI 0))]) .ret)))
theorem fq198 : FF 198 kf198 := cf (em := 525) Tryz.func198 (by kernel_rfl) (by kernel_rfl)
def kf199 : KFun := .mk 3 [.t 6, .t 7] (.seq (.reg [3, 6, 7] [.s 3 (.box (.t 0)), .s 6 (.mv (kI 0)), .s 7 (.mv (kI 0))]) (.seq (.reg [8] [kW 11 3 9, .s 12 (.call 191 [(.t 11)]), .s
  8 (.new [.i (.ofNat 0), .i (.ofNat 0), .i (.ofNat 0), .i (.ofNat 0)]), .n (.stn (.t 8) (.t 12) 4)]) (.seq (.seq (.reg [22] [kM 13 2, .s 14 (.cm .lt (.t 13) (kI
  0)), kM 15 14, .gs 15 false 16 (.mv (.t 2)), .gs 15 false 17 (.mv (.t 1)), .gs 15 false 18 (.ar .sub (.t 17) (kI 1)), .gs 15 false 19 (.q (.iar (.t 8) (.t 18)
  1 4)), .gs 15 false 20 (.ld (.t 19)), .gs 15 false 21 (.cm .ge (.t 16) (.t 20)), .s 22 (.pick (.t 15) (.c (.b true)) (.t 21))]) (.cond (.t 22) (.seq (.reg [6,
  7] [.s 6 (.mv (kI 0)), .s 7 (.mv (kI 1))]) .ret) .skip)) (.seq (.seq (.reg [25, 26, 27] [kM 23 1, .s 24 (.ar .sub (.t 23) (kI 1)), .s 25 (.q (.sla (.t 8) 1 4
  .no (.ok (.t 24)))), .s 26 (.len (.t 25)), .s 27 (.mv (kI 0))]) (.blk 0 (.loop (.seq (.reg [28] [.s 28 (.cm .lt (.t 27) (.t 26))]) (.seq (.cond (.t 28) .skip
  (.exit 0)) (.seq (.blk 1 (.seq (.reg [10] [.s 29 (.ixp (.t 25) (.t 27) 1), kL 30 29, kM 10 30]) (.reg [2] [kM 31 2, kM 32 10, .s 33 (.ar .add (.t 31) (.t 32)),
  kM 2 33]))) (.reg [27] [.s 34 (.ar .add (.t 27) (kI 1)), kM 27 34]))))))) (.seq (.reg [6, 7] [kM 35 2, kM 6 35, .s 7 (.mv (kI 0))]) .ret)))))
theorem fq199 : FF 199 kf199 := cf (em := 507512271) Tryz.func199 (by kernel_rfl) (by kernel_rfl)
def kf200 : KFun := .mk 2 [.t 4] (.seq (.reg [4] [.s 4 (.mv (.c (.b false)))]) (.seq (.reg [4] [kM 5 1, .s 6 (.cm .ge (.t 5) (kI 0)), kM 7 6, .gs 7 true 8 (.mv (.t 1)), .gs 7 true 9
  (.mv (.t 0)), .gs 7 true 10 (.ck (.t 9)), .gs 7 true 11 (.off (.t 10) 0), .gs 7 true 12 (.ld (.t 11)), .gs 7 true 13 (.len (.t 12)), .gs 7 true 14 (.cm .lt (.t
  8) (.t 13)), .s 15 (.pick (.t 7) (.t 14) (.c (.b false))), kM 4 15]) .ret))
theorem fq200 : FF 200 kf200 := cf (em := 19) Tryz.func200 (by kernel_rfl) (by kernel_rfl)
def kf201 : KFun := .mk 1 [.cn 2 2] (.seq (.reg [1, 2] [.s 1 (.box (.t 0)), .s 2 (.new [.b false, .ns])]) (.seq (.drw [] [.mk 0 1 true (kO 3 1 0), .mk 1 3 true (kL 4 3), .mk 2 4
  true (kO 5 1 1), .mk 3 12 true (kL 6 5), .mk 4 28 false (.s 7 (.call 288 [(.t 6)])), .mk 5 63 true (.s 8 (.bld [.b false, .ns] (.cons 0 1 (.t 4) (.cons 1 1 (.t
  7) .nil)))), .mk 6 127 false (.n (.stn (.t 2) (.t 8) 2))] [.mk 80 28 (.s 7 (.call 288 [(.t 6)])), .mk 64 127 (.n (.stn (.t 2) (.t 8) 2))]) .ret))
theorem fq201 : FF 201 kf201 := cf (em := 7) Tryz.func201 (by kernel_rfl) (by kernel_rfl)
def kf203 : KFun := .mk 2 [.t 4] (.seq (.reg [4] [.s 4 (.mv (.c (.np)))]) (.seq (.seq (.reg [15] [kM 5 1, .s 6 (.cm .lt (.t 5) (kI 0)), kM 7 6, .gs 7 false 8 (.mv (.t 1)), .gs 7
  false 9 (.mv (.t 0)), .gs 7 false 10 (.ck (.t 9)), .gs 7 false 11 (.off (.t 10) 1), .gs 7 false 12 (.ld (.t 11)), .gs 7 false 13 (.len (.t 12)), .gs 7 false 14
  (.cm .ge (.t 8) (.t 13)), .s 15 (.pick (.t 7) (.c (.b true)) (.t 14))]) (.cond (.t 15) (.seq (.reg [4] [.s 4 (.mv (.c (.np)))]) .ret) .skip)) (.seq (.reg [4]
  [kM 16 0, kC 17 16, kO 18 17 1, kL 19 18, kM 20 1, .s 21 (.ixp (.t 19) (.t 20) 1), kL 22 21, kM 4 22]) .ret)))
theorem fq203 : FF 203 kf203 := cf (em := 32787) Tryz.func203 (by kernel_rfl) (by kernel_rfl)
def kf204 : KFun := .mk 1 [.t 2] (.seq (.reg [2] [.s 2 (.mv (.c (.ns)))]) (.seq (.reg [3] [kM 4 0, kC 5 4, kO 6 5 0, kL 7 6, kM 3 7]) (.seq (.reg [] [kM 8 0, kC 9 8, kO 10 9 0, .n
  (.st (.t 10) (.c (.ns)))]) (.seq (.reg [2] [kM 11 3, kM 2 11]) .ret))))
theorem fq204 : FF 204 kf204 := cf (em := 13) Tryz.func204 (by kernel_rfl) (by kernel_rfl)
def kf206 : KFun := .mk 2 [.t 4] (.seq (.reg [4] [.s 4 (.mv (.c (.b false)))]) (.seq (.reg [] [kM 5 0, kC 6 5, kO 7 6 3, kL 8 7, .s 9 (.ar .add (.t 8) (kI 1)), kC 10 5, kO 11 10 3,
  .n (.st (.t 11) (.t 9))]) (.seq (.seq (.reg [15] [kM 12 0, kM 13 1, .s 14 (.call 22 [(.t 12), (.t 13)]), .s 15 (.cm .eq (.t 14) (.c (.i (.negSucc 0))))])
  (.cond (.t 15) (.seq (.reg [4] [.s 4 (.mv (.c (.b false)))]) .ret) .skip)) (.seq (.reg [] [kM 16 0, kC 17 16, kO 18 17 2, kL 19 18, kM 20 1, .s 21 (.ixp (.t
  19) (.t 20) 1), .n (.st (.t 21) (.c (.i (.negSucc 0))))]) (.seq (.reg [4] [.s 4 (.mv (.c (.b true)))]) .ret)))))
theorem fq206 : FF 206 kf206 := cf (em := 32787) Tryz.func206 (by kernel_rfl) (by kernel_rfl)
def kf207 : KFun := .mk 2 [.t 4] (.seq (.reg [2, 3, 4] [.s 2 (.box (.t 0)), .s 3 (.box (.t 1)), .s 4 (.mv (kI 0))]) (.seq (.reg [5, 6] [kO 14 3 0, kL 15 14, .s 16 (.call 291 [(.t
  15)]), kM 13 16, kE 17 13 0, kE 18 13 1, kM 5 17, kM 6 18]) (.seq (.seq (.reg [25] [kW 19 2 9, .s 20 (.call 115 [(.t 19)]), .s 21 (.cm .ne (.t 20) (kI 0)), kM
  22 21, .gs 22 false 23 (.mv (.t 5)), .gs 22 false 24 (.q (.seq (.t 23) (.c (.s [])))), .s 25 (.pick (.t 22) (.c (.b true)) (.t 24))]) (.cond (.t 25) (.seq
  (.reg [4] [.s 4 (.mv (kI 1))]) .ret) .skip)) (.seq (.seq (.reg [27] [kM 26 6, .s 27 (.q (.rng (.t 26)))]) (.blk 0 (.loop (.seq (.reg [28, 29] [.s 28 (.q (.nxt
  (.t 27))), kE 29 28 0]) (.seq (.cond (.t 29) .skip (.exit 0)) (.blk 1 (.seq (.reg [8] [kE 30 28 2, kM 8 30]) (.seq (.reg [9] [.s 9 (.mv (kI
  9223372036854775807))]) (.seq (.seq (.reg [31] [kM 31 8]) (.blk 2 (.seq (.seq (.reg [32] [.s 33 (.cmk .eq (.t 31) (.c (.k .i32 (.ofNat 97)))), kM 32 33])
  (.cond (.t 32) .skip (.seq (.reg [32] [.s 34 (.cmk .eq (.t 31) (.c (.k .i32 (.ofNat 98)))), kM 32 34]) (.cond (.t 32) .skip (.reg [32] [.s 35 (.cmk .eq (.t 31)
  (.c (.k .i32 (.ofNat 99)))), kM 32 35]))))) (.cond (.t 32) (.reg [9] [kO 36 2 4, kL 37 36, kM 9 37]) (.seq (.reg [38] [.s 39 (.cmk .eq (.t 31) (.c (.k .i32
  (.ofNat 103)))), kM 38 39]) (.cond (.t 38) (.reg [9] [kO 40 2 2, kL 41 40, kM 9 41]) (.exit 1))))))) (.seq (.reg [10] [kM 42 8, .s 43 (.call 292 [(.t 3), (.t
  42)]), kC 44 43, kL 45 44, kM 10 45]) (.seq (.reg [52] [kM 46 10, .s 47 (.cm .lt (.t 46) (kI 0)), kM 48 47, .gs 48 false 49 (.mv (.t 10)), .gs 48 false 50 (.mv
  (.t 9)), .gs 48 false 51 (.cm .ge (.t 49) (.t 50)), .s 52 (.pick (.t 48) (.c (.b true)) (.t 51))]) (.cond (.t 52) (.seq (.reg [4] [.s 4 (.mv (kI 1))]) .ret)
  .skip)))))))))))) (.seq (.seq (.reg [60] [kO 53 3 0, kL 54 53, .s 55 (.cm .ne (.t 54) (kI 1)), kM 56 55, .gs 56 true 57 (.off (.t 3) 0), .gs 56 true 58 (.ld
  (.t 57)), .gs 56 true 59 (.cm .ne (.t 58) (kI 2)), .s 60 (.pick (.t 56) (.t 59) (.c (.b false)))]) (.cond (.t 60) (.seq (.reg [4] [.s 4 (.mv (kI 0))]) .ret)
  .skip)) (.seq (.reg [11, 12] [kW 62 2 9, kO 63 3 2, kL 64 63, .s 65 (.call 173 [(.t 62), (.t 64)]), kM 61 65, kE 66 61 0, kE 67 61 1, .s 11 (.new [.b false,
  .ns]), .n (.stn (.t 11) (.t 66) 2), kM 12 67]) (.seq (.blk 3 (.seq (.reg [68] [kM 69 12, .s 70 (.not (.t 69)), kM 71 70, .gs 71 false 72 (.off (.t 11) 0), .gs
  71 false 73 (.ld (.t 72)), .gs 71 false 74 (.off (.t 3) 0), .gs 71 false 75 (.ld (.t 74)), .gs 71 false 76 (.cm .eq (.t 75) (kI 2)), .gs 71 false 77 (.bne (.t
  73) (.t 76)), .s 78 (.pick (.t 71) (.c (.b true)) (.t 77)), kM 68 78]) (.cond (.t 68) (.seq (.reg [4] [.s 4 (.mv (kI 4))]) .ret) (.seq (.reg [79] [kW 80 11 2,
  kW 81 3 6, .s 82 (.call 293 [(.t 80), (.t 81)]), .s 83 (.cm .lt (.t 82) (kI 0)), kM 79 83]) (.cond (.t 79) (.seq (.reg [4] [.s 4 (.mv (kI 5))]) .ret) (.seq
  (.drw [84] [.mk 0 1 true (kW 85 11 2), .mk 1 2 true (kW 86 3 6), .mk 2 7 false (.s 87 (.call 293 [(.t 85), (.t 86)])), .mk 3 8 true (kO 88 2 0), .mk 4 24 true
  (kL 89 88), .mk 5 63 true (.s 90 (.cm .gt (.t 87) (.t 89))), .mk 6 127 true (kM 91 90), .mk 7 255 true (.gs 91 false 92 (.ldn (.t 11) 2)), .mk 8 383 true (.gs
  91 false 93 (.off (.t 3) 4)), .mk 9 895 true (.gs 91 false 94 (.ld (.t 93))), .mk 10 2047 false (.gs 91 false 95 (.call 294 [(.t 92), (.t 94)])), .mk 11 2175
  true (.gs 91 false 96 (.off (.t 2) 1)), .mk 12 6271 true (.gs 91 false 97 (.ld (.t 96))), .mk 13 16383 true (.gs 91 false 98 (.cm .gt (.t 95) (.t 97))), .mk 14
  32767 true (.s 99 (.pick (.t 91) (.c (.b true)) (.t 98))), .mk 15 65535 true (kM 84 99)] [.mk 1028 7 (.s 87 (.call 293 [(.t 85), (.t 86)])), .mk 1024 2047 (.gs
  91 false 95 (.call 294 [(.t 92), (.t 94)]))]) (.cond (.t 84) (.seq (.reg [4] [.s 4 (.mv (kI 7))]) .ret) .skip))))))) (.seq (.reg [4] [.s 4 (.mv (kI 0))])
  .ret))))))))
theorem fq207 : FF 207 kf207 := cf (em := 19947572328971947263139711) Tryz.func207 (by kernel_rfl) (by kernel_rfl)
def kf208 : KFun := .mk 2 [.t 4] (.seq (.reg [3, 4] [.s 3 (.box (.t 1)), .s 4 (.mv (kI 0))]) (.seq (.reg [5] [kM 9 0, kC 10 9, kO 11 10 2, kL 12 11, kM 5 12]) (.seq (.reg [6] [.s 6
  (.mv (.c (.ns)))]) (.seq (.reg [7, 8] [.s 7 (.new [.b false]), .n (.st (.t 7) (.c (.b true))), .s 8 (.mv (.c (.b true)))]) (.seq (.seq (.reg [14] [kO 13 3 0,
  kL 14 13]) (.blk 0 (.seq (.reg [15] [.s 16 (.cm .eq (.t 14) (kI 9)), kM 15 16]) (.cond (.t 15) (.drw [6, 8] [.mk 0 1 true (kM 17 5), .mk 1 2 true (kO 18 3 2),
  .mk 2 6 true (kL 19 18), .mk 3 15 true (.s 20 (.ixp (.t 17) (.t 19) 2)), .mk 4 31 true (kW 21 20 2), .mk 5 32 true (kM 22 5), .mk 6 64 true (kO 23 3 3), .mk 7
  192 true (kL 24 23), .mk 8 480 true (.s 25 (.ixp (.t 22) (.t 24) 2)), .mk 9 992 true (kW 26 25 2), .mk 10 2047 false (.s 27 (.bsl [.b false, .z 0 0] 2 (.cons 0
  2 (.t 21) (.cons 2 2 (.t 26) .nil)))), .mk 11 4095 true (kM 6 27), .mk 12 8191 true (.s 8 (.mv (.c (.b false))))] [.mk 1024 2047 (.s 27 (.bsl [.b false, .z 0
  0] 2 (.cons 0 2 (.t 21) (.cons 2 2 (.t 26) .nil))))]) (.seq (.seq (.reg [28] [.s 29 (.cm .eq (.t 14) (kI 15)), kM 28 29]) (.cond (.t 28) .skip (.reg [28] [.s
  30 (.cm .eq (.t 14) (kI 16)), kM 28 30]))) (.cond (.t 28) (.drw [6, 8] [.mk 0 1 true (kM 31 5), .mk 1 2 true (kO 32 3 2), .mk 2 6 true (kL 33 32), .mk 3 15
  true (.s 34 (.ixp (.t 31) (.t 33) 2)), .mk 4 31 true (kW 35 34 2), .mk 5 32 true (kM 36 5), .mk 6 64 true (kO 37 3 3), .mk 7 192 true (kL 38 37), .mk 8 480
  true (.s 39 (.ixp (.t 36) (.t 38) 2)), .mk 9 992 true (kW 40 39 2), .mk 10 2047 false (.s 41 (.bsl [.b false, .z 0 0] 2 (.cons 0 2 (.t 35) (.cons 2 2 (.t 40)
  .nil)))), .mk 11 4095 true (kM 6 41), .mk 12 8191 false (.n (.st (.t 7) (.c (.b false)))), .mk 13 16383 true (.s 8 (.mv (.c (.b false))))] [.mk 5120 2047 (.s
  41 (.bsl [.b false, .z 0 0] 2 (.cons 0 2 (.t 35) (.cons 2 2 (.t 40) .nil)))), .mk 4096 8191 (.n (.st (.t 7) (.c (.b false))))]) (.seq (.seq (.reg [42] [.s 43
  (.cm .eq (.t 14) (kI 3)), kM 42 43]) (.cond (.t 42) .skip (.seq (.reg [42] [.s 44 (.cm .eq (.t 14) (kI 5)), kM 42 44]) (.cond (.t 42) .skip (.seq (.reg [42]
  [.s 45 (.cm .eq (.t 14) (kI 10)), kM 42 45]) (.cond (.t 42) .skip (.reg [42] [.s 46 (.cm .eq (.t 14) (kI 11)), kM 42 46]))))))) (.cond (.t 42) (.reg [6] [kM 47
  5, kO 48 3 2, kL 49 48, .s 50 (.ixp (.t 47) (.t 49) 2), kW 51 50 2, .s 52 (.bsl [.b false, .z 0 0] 1 (.cons 0 2 (.t 51) .nil)), kM 6 52]) (.seq (.seq (.reg
  [53] [.s 54 (.cm .eq (.t 14) (kI 4)), kM 53 54]) (.cond (.t 53) .skip (.reg [53] [.s 55 (.cm .eq (.t 14) (kI 6)), kM 53 55]))) (.cond (.t 53) (.reg [6] [kM 56
  5, kO 57 3 1, kL 58 57, .s 59 (.ixp (.t 56) (.t 58) 2), kW 60 59 2, .s 61 (.bsl [.b false, .z 0 0] 1 (.cons 0 2 (.t 60) .nil)), kM 6 61]) (.seq (.reg [62] [.s
  63 (.cm .eq (.t 14) (kI 8)), kM 62 63]) (.cond (.t 62) (.reg [6, 8] [kM 64 5, kO 65 3 2, kL 66 65, .s 67 (.ixp (.t 64) (.t 66) 2), kW 68 67 2, .s 69 (.bsl [.b
  false, .z 0 0] 1 (.cons 0 2 (.t 68) .nil)), kM 6 69, .s 8 (.mv (.c (.b false)))]) .skip)))))))))))) (.seq (.seq (.reg [72] [kM 70 6, .s 71 (.q (.mkf 296 []
  [(.t 7)])), .s 72 (.call 295 [(.t 70), (.t 71)])]) (.cond (.t 72) (.seq (.reg [4] [.s 4 (.mv (kI 4))]) .ret) .skip)) (.seq (.seq (.reg [77] [kM 73 8, kM 74 73,
  .gs 74 true 75 (.mv (.t 6)), .gs 74 true 76 (.call 295 [(.t 75), (.c (.fn 297 [] []))]), .s 77 (.pick (.t 74) (.t 76) (.c (.b false)))]) (.cond (.t 77) (.seq
  (.reg [4] [.s 4 (.mv (kI 3))]) .ret) .skip)) (.seq (.reg [4] [.s 4 (.mv (kI 0))]) .ret))))))))
theorem fq208 : FF 208 kf208 := cf (em := 155842714632314289177083) Tryz.func208 (by kernel_rfl) (by kernel_rfl)
def kf209 : KFun := .mk 2 [.cn 4 2, .t 5] (.seq (.reg [3, 4, 5] [.s 3 (.box (.t 1)), .s 4 (.new [.b false, .z 0 0]), .s 5 (.mv (.c (.b false)))]) (.seq (.reg [6] [kM 7 0, kC 8 7, kO
  9 8 2, kL 10 9, kM 6 10]) (.seq (.seq (.reg [12] [kO 11 3 0, kL 12 11]) (.blk 0 (.seq (.reg [13] [.s 14 (.cm .eq (.t 12) (kI 9)), kM 13 14]) (.cond (.t 13)
  (.seq (.drw [5] [.mk 0 1 true (kM 15 6), .mk 1 2 true (kO 16 3 2), .mk 2 6 true (kL 17 16), .mk 3 15 true (.s 18 (.ixp (.t 15) (.t 17) 2)), .mk 4 31 true (kO
  19 18 1), .mk 5 63 true (kL 20 19), .mk 6 64 true (kM 21 6), .mk 7 128 true (kO 22 3 3), .mk 8 384 true (kL 23 22), .mk 9 960 true (.s 24 (.ixp (.t 21) (.t 23)
  2)), .mk 10 1984 true (kO 25 24 1), .mk 11 4032 true (kL 26 25), .mk 12 8191 false (.s 27 (.call 238 [(.t 20), (.t 26)])), .mk 13 16383 false (.s 28 (.call 298
  [(.t 27)])), .mk 14 32767 false (.n (.stn (.t 4) (.t 28) 2)), .mk 15 65535 true (.s 5 (.mv (.c (.b true))))] [.mk 28672 8191 (.s 27 (.call 238 [(.t 20), (.t
  26)])), .mk 24576 16383 (.s 28 (.call 298 [(.t 27)])), .mk 16384 32767 (.n (.stn (.t 4) (.t 28) 2))]) .ret) (.seq (.reg [29] [.s 30 (.cm .eq (.t 12) (kI 12)),
  kM 29 30]) (.cond (.t 29) (.seq (.reg [5] [kO 31 3 5, kL 32 31, .s 33 (.bld [.b false, .z 0 0] (.cons 1 1 (.t 32) .nil)), .n (.stn (.t 4) (.t 33) 2), .s 5 (.mv
  (.c (.b true)))]) .ret) (.seq (.reg [34] [.s 35 (.cm .eq (.t 12) (kI 13)), kM 34 35]) (.cond (.t 34) (.seq (.reg [5] [.s 36 (.call 123 []), .s 37 (.bld [.b
  false, .z 0 0] (.cons 0 1 (.c (.b true)) (.cons 1 1 (.t 36) .nil))), .n (.stn (.t 4) (.t 37) 2), .s 5 (.mv (.c (.b true)))]) .ret) (.seq (.reg [38] [.s 39 (.cm
  .eq (.t 12) (kI 14)), kM 38 39]) (.cond (.t 38) (.seq (.reg [5] [kM 40 6, kO 41 3 2, kL 42 41, .s 43 (.ixp (.t 40) (.t 42) 2), kW 44 43 2, .n (.stn (.t 4) (.t
  44) 2), .s 5 (.mv (.c (.b true)))]) .ret) (.seq (.reg [45] [.s 46 (.cm .eq (.t 12) (kI 15)), kM 45 46]) (.cond (.t 45) (.seq (.drw [5] [.mk 0 1 true (kM 47 6),
  .mk 1 2 true (kO 48 3 2), .mk 2 6 true (kL 49 48), .mk 3 15 true (.s 50 (.ixp (.t 47) (.t 49) 2)), .mk 4 31 true (kO 51 50 1), .mk 5 63 true (kL 52 51), .mk 6
  64 true (kM 53 6), .mk 7 128 true (kO 54 3 3), .mk 8 384 true (kL 55 54), .mk 9 960 true (.s 56 (.ixp (.t 53) (.t 55) 2)), .mk 10 1984 true (kO 57 56 1), .mk
  11 4032 true (kL 58 57), .mk 12 8191 false (.s 59 (.call 299 [(.t 52), (.t 58)])), .mk 13 16383 true (.s 60 (.bld [.b false, .z 0 0] (.cons 1 1 (.t 59)
  .nil))), .mk 14 32767 false (.n (.stn (.t 4) (.t 60) 2)), .mk 15 65535 true (.s 5 (.mv (.c (.b true))))] [.mk 20480 8191 (.s 59 (.call 299 [(.t 52), (.t
  58)])), .mk 16384 32767 (.n (.stn (.t 4) (.t 60) 2))]) .ret) (.seq (.reg [61] [.s 62 (.cm .eq (.t 12) (kI 16)), kM 61 62]) (.cond (.t 61) (.seq (.drw [5] [.mk
  0 1 true (kM 63 6), .mk 1 2 true (kO 64 3 2), .mk 2 6 true (kL 65 64), .mk 3 15 true (.s 66 (.ixp (.t 63) (.t 65) 2)), .mk 4 31 true (kO 67 66 1), .mk 5 63
  true (kL 68 67), .mk 6 64 true (kM 69 6), .mk 7 128 true (kO 70 3 3), .mk 8 384 true (kL 71 70), .mk 9 960 true (.s 72 (.ixp (.t 69) (.t 71) 2)), .mk 10 1984
  true (kO 73 72 1), .mk 11 4032 true (kL 74 73), .mk 12 8191 false (.s 75 (.call 300 [(.t 68), (.t 74)])), .mk 13 16383 true (.s 76 (.bld [.b false, .z 0 0]
  (.cons 1 1 (.t 75) .nil))), .mk 14 32767 false (.n (.stn (.t 4) (.t 76) 2)), .mk 15 65535 true (.s 5 (.mv (.c (.b true))))] [.mk 20480 8191 (.s 75 (.call 300
  [(.t 68), (.t 74)])), .mk 16384 32767 (.n (.stn (.t 4) (.t 76) 2))]) .ret) .skip)))))))))))))) (.seq (.reg [5] [.s 77 (.bld [.b false, .z 0 0] .nil), .n (.stn
  (.t 4) (.t 77) 2), .s 5 (.mv (.c (.b false)))]) .ret))))
theorem fq209 : FF 209 kf209 := cf (em := 2305878486180442235) Tryz.func209 (by kernel_rfl) (by kernel_rfl)
def kf210 : KFun := .mk 3 [.cn 6 5, .t 7] (.seq (.reg [5, 6, 7] [.s 5 (.box (.t 2)), .s 6 (.new [.i (.ofNat 0), .i (.ofNat 0), .i (.ofNat 0), .b false, .z 0 0]), .s 7 (.mv (.c (.b
  false)))]) (.seq (.drw [] [.mk 0 1 true (kM 8 0), .mk 1 3 true (kC 9 8), .mk 2 7 true (kO 10 9 2), .mk 3 15 true (kL 11 10), .mk 4 16 true (kM 12 1), .mk 5 32
  true (kW 13 5 2), .mk 6 127 true (.s 14 (.ixp (.t 11) (.t 12) 2)), .mk 7 255 false (.n (.stn (.t 14) (.t 13) 2))] [.mk 128 255 (.n (.stn (.t 14) (.t 13) 2))])
  (.seq (.reg [7] [kM 15 0, kW 16 5 2, .s 17 (.call 140 [(.t 15), (.t 16), (kI 0)]), kE 18 17 0, kE 19 17 1, .n (.stn (.t 6) (.t 18) 5), kM 7 19]) .ret)))
theorem fq210 : FF 210 kf210 := cf (em := 231) Tryz.func210 (by kernel_rfl) (by kernel_rfl)
def kf211 : KFun := .mk 3 [.cn 6 5, .t 7] (.seq (.reg [5, 6, 7] [.s 5 (.box (.t 2)), .s 6 (.new [.i (.ofNat 0), .i (.ofNat 0), .i (.ofNat 0), .b false, .z 0 0]), .s 7 (.mv (.c (.b
  false)))]) (.seq (.drw [8, 9] [.mk 0 1 true (kM 12 1), .mk 1 3 true (kC 13 12), .mk 2 7 true (kO 14 13 0), .mk 3 15 true (kW 15 14 9), .mk 4 16 true (kW 16 5
  6), .mk 5 63 false (.s 17 (.call 301 [(.t 15), (.t 16)])), .mk 6 127 true (kM 11 17), .mk 7 255 true (kE 18 11 0), .mk 8 383 true (kE 19 11 1), .mk 9 767 true
  (kM 8 18), .mk 10 2047 true (kM 9 19)] [.mk 32 63 (.s 17 (.call 301 [(.t 15), (.t 16)]))]) (.seq (.drw [10] [.mk 0 1 true (kM 20 1), .mk 1 3 true (kC 21 20),
  .mk 2 7 true (kO 22 21 11), .mk 3 15 true (kL 23 22), .mk 4 16 true (kM 24 0), .mk 5 48 true (kC 25 24), .mk 6 112 true (kO 26 25 0), .mk 7 240 true (kL 27
  26), .mk 8 256 true (kM 28 8), .mk 9 512 true (kM 29 9), .mk 10 1024 true (kM 30 0), .mk 11 3072 true (kC 31 30), .mk 12 7168 true (kO 32 31 5), .mk 13 15360
  true (kL 33 32), .mk 14 16384 true (kM 34 0), .mk 15 49152 true (.s 35 (.call 303 [(.t 34)])), .mk 16 130048 true (.s 36 (.bne (.t 33) (.t 35))), .mk 17 262143
  false (.s 37 (.call 302 [(.t 23), (.t 27), (.t 28), (.t 29), (.t 36)])), .mk 18 262144 false (.s 10 (.new [.i (.ofNat 0), .ns, .i (.ofNat 0)])), .mk 19 1048575
  false (.n (.stn (.t 10) (.t 37) 3))] [.pr 10 37 917504 262143 786432 262144 (.call 302 [(.t 23), (.t 27), (.t 28), (.t 29), (.t 36)]) (.new [.i (.ofNat 0),
  .ns, .i (.ofNat 0)]), .mk 524288 1048575 (.n (.stn (.t 10) (.t 37) 3))]) (.seq (.blk 0 (.seq (.reg [38] [kO 39 10 0, kL 40 39, .s 41 (.cm .eq (.t 40) (kI 0)),
  kM 38 41]) (.cond (.t 38) (.reg [] [kM 42 0, kM 43 0, kC 44 42, kO 45 44 3, .n (.st (.t 45) (kI 3)), kC 46 43, kO 47 46 7, .n (.st (.t 47) (kI 5))]) (.seq
  (.reg [48] [kO 49 10 0, kL 50 49, .s 51 (.cm .ne (.t 50) (kI 1)), kM 52 51, .gs 52 false 53 (.mv (.t 0)), .gs 52 false 54 (.mv (.t 1)), .gs 52 false 55 (.ldn
  (.t 5) 6), .gs 52 false 56 (.ldn (.t 10) 3), .gs 52 false 57 (.call 143 [(.t 53), (.t 54), (.t 55), (.t 56)]), .gs 52 false 58 (.not (.t 57)), .s 59 (.pick (.t
  52) (.c (.b true)) (.t 58)), kM 48 59]) (.cond (.t 48) (.seq (.reg [7] [kM 60 0, .s 61 (.call 144 [(.t 60), (kI 10)]), kE 62 61 0, kE 63 61 1, .n (.stn (.t 6)
  (.t 62) 5), kM 7 63]) .ret) .skip))))) (.seq (.reg [7] [.s 64 (.bld [.i (.ofNat 0), .i (.ofNat 0), .i (.ofNat 0), .b false, .z 0 0] .nil), .n (.stn (.t 6) (.t
  64) 5), .s 7 (.mv (.c (.b false)))]) .ret)))))
theorem fq211 : FF 211 kf211 := cf (em := 281749854619623) Tryz.func211 (by kernel_rfl) (by kernel_rfl)
def kf221 : KFun := .mk 3 [.t 6] (.seq (.reg [6] [.s 6 (.mv (kI 0))]) (.seq (.reg [] [kM 7 0, kC 8 7, kO 9 8 1, kL 10 9, .s 11 (.ar .add (.t 10) (kI 1)), kC 12 7, kO 13 12 1, .n
  (.st (.t 13) (.t 11))]) (.seq (.seq (.reg [17] [kM 14 0, kM 15 1, .s 16 (.call 200 [(.t 14), (.t 15)]), .s 17 (.not (.t 16))]) (.cond (.t 17) (.seq (.reg [6]
  [.s 6 (.mv (kI 1))]) .ret) .skip)) (.seq (.reg [] [kM 18 0, kC 19 18, kO 20 19 0, kL 21 20, kM 22 1, kM 23 2, .s 24 (.ixp (.t 21) (.t 22) 1), .n (.st (.t 24)
  (.t 23))]) (.seq (.reg [6] [.s 6 (.mv (kI 0))]) .ret)))))
theorem fq221 : FF 221 kf221 := cf (em := 131143) Tryz.func221 (by kernel_rfl) (by kernel_rfl)
def kf222 : KFun := .mk 2 [.t 4] (.seq (.reg [4] [.s 4 (.mv (.c (.b false)))]) (.seq (.reg [] [kM 5 0, kC 6 5, kO 7 6 3, kL 8 7, .s 9 (.ar .add (.t 8) (kI 1)), kC 10 5, kO 11 10 3,
  .n (.st (.t 11) (.t 9))]) (.seq (.reg [4] [kM 12 0, kC 13 12, kO 14 13 0, kL 15 14, kM 16 1, .s 17 (.call 310 [(.t 15), (.t 16)]), kM 4 17]) .ret)))
theorem fq222 : FF 222 kf222 := cf (em := 19) Tryz.func222 (by kernel_rfl) (by kernel_rfl)
def kf223 : KFun := .mk 1 [.t 2] (.seq (.reg [2] [.s 2 (.mv (.c (.z 0 0)))]) (.seq (.seq (.reg [8] [kM 3 0, .s 4 (.cm .lt (.t 3) (kI 0)), kM 5 4, .gs 5 false 6 (.mv (.t 0)), .gs 5
  false 7 (.cm .gt (.t 6) (kI 1099511627776)), .s 8 (.pick (.t 5) (.c (.b true)) (.t 7))]) (.cond (.t 8) (.seq (.reg [2] [.s 9 (.call 123 []), kM 2 9]) .ret)
  .skip)) (.seq (.reg [2] [kM 10 0, .s 11 (.ar .add (.t 10) (kI 1)), .s 12 (.q (.cif (.t 11))), .s 13 (.q (.cplx (.t 12) (.c (.f 4607182418800017408)))), kM 2
  13]) .ret)))
theorem fq223 : FF 223 kf223 := cf (em := 261) Tryz.func223 (by kernel_rfl) (by kernel_rfl)
def kf226 : KFun := .mk 1 [.t 2] (.seq (.reg [2] [.s 2 (.mv (.c (.z 0 0)))]) (.seq (.seq (.reg [8] [kM 3 0, .s 4 (.cm .lt (.t 3) (.c (.i (.negSucc 9007199254740991)))), kM 5 4, .gs
  5 false 6 (.mv (.t 0)), .gs 5 false 7 (.cm .gt (.t 6) (kI 9007199254740992)), .s 8 (.pick (.t 5) (.c (.b true)) (.t 7))]) (.cond (.t 8) (.seq (.reg [2] [.s 2
  (.mv (.c (.z 0 0)))]) .ret) .skip)) (.seq (.reg [2] [kM 9 0, .s 10 (.q (.cif (.t 9))), .s 11 (.q (.cplx (.t 10) (.c (.f 0)))), kM 2 11]) .ret)))
theorem fq226 : FF 226 kf226 := cf (em := 261) Tryz.func226 (by kernel_rfl) (by kernel_rfl)
def kf228 : KFun := .mk 2 [.cn 4 7, .t 5] (.seq (.reg [4, 5] [.s 4 (.new [.i (.ofNat 0), .i (.ofNat 0), .i (.ofNat 0), .i (.ofNat 0), .i (.ofNat 0), .i (.ofNat 0), .ns]), .s 5 (.mv
  (.c (.b false)))]) (.seq (.reg [5] [kM 6 0, kM 7 0, kM 8 1, .s 9 (.call 312 [(.t 7), (.t 8)]), .s 10 (.call 311 [(.t 6), (.t 9)]), kE 11 10 0, kE 12 10 1, .n
  (.stn (.t 4) (.t 11) 7), kM 5 12]) .ret))
theorem fq228 : FF 228 kf228 := cf (em := 51) Tryz.func228 (by kernel_rfl) (by kernel_rfl)
def kf231 : KFun := .mk 3 [.t 6, .t 7] (.seq (.reg [3, 6, 7] [.s 3 (.box (.t 0)), .s 6 (.mv (.c (.ns))), .s 7 (.mv (kI 0))]) (.scope (.seq (.reg [8, 9] [kW 14 3 9, kM 15 1, kM 16 2,
  .s 17 (.call 314 [(.t 14), (.t 15), (kI 0), (.c (.b false)), (.t 16)]), kM 13 17, kE 18 13 0, kE 19 13 1, .s 8 (.new [.b false, .ns]), .n (.stn (.t 8) (.t 18)
  2), kM 9 19]) (.seq (.seq (.reg [21] [kM 20 9, .s 21 (.cm .ne (.t 20) (kI 0))]) (.cond (.t 21) (.seq (.reg [6, 7] [kM 22 9, .s 6 (.mv (.c (.ns))), kM 7 22])
  .ret) .skip)) (.seq (.reg [10] [.s 10 (.mv (.c (.ns)))]) (.seq (.reg [11] [.s 11 (.new [.z 0 0, .z 0 0, .z 0 0, .z 0 0, .z 0 0, .z 0 0, .z 0 0, .z 0 0])])
  (.seq (.reg [12] [.s 12 (.mv (kI 0))]) (.seq (.label 0) (.seq (.reg [] [.s 23 (.call 123 []), .s 24 (.bld [.z 0 0, .z 0 0, .z 0 0, .z 0 0, .z 0 0, .z 0 0, .z 0
  0, .z 0 0] (.cons 0 1 (.t 23) .nil)), .n (.stn (.t 11) (.t 24) 8)]) (.seq (.seq (.reg [26] [kM 25 12, .s 26 (.cm .eq (.t 25) (kI 0))]) (.cond (.t 26) (.seq
  (.reg [] [kM 27 1, .s 28 (.call 315 [(.t 27), (kI 0)]), .s 29 (.q (.iar (.t 11) (kI 1) 1 8)), .n (.st (.t 29) (.t 28))]) (.seq (.reg [31] [kM 30 2, .s 31
  (.call 316 [(.t 30)])]) (.cond (.t 31) (.reg [] [kM 32 1, .s 33 (.call 315 [(.t 32), (kI 1)]), .s 34 (.q (.iar (.t 11) (kI 1) 1 8)), .n (.st (.t 34) (.t 33))])
  .skip))) .skip)) (.seq (.seq (.reg [39] [kM 35 12, .s 36 (.ar .add (.t 35) (kI 1)), kM 37 2, .s 38 (.len (.t 37)), .s 39 (.cm .lt (.t 36) (.t 38))]) (.cond (.t
  39) (.reg [] [kM 40 2, kM 41 12, .s 42 (.ar .add (.t 41) (kI 1)), .s 43 (.ixp (.t 40) (.t 42) 1), kL 44 43, .s 45 (.call 223 [(.t 44)]), .s 46 (.q (.iar (.t
  11) (kI 0) 1 8)), .n (.st (.t 46) (.t 45))]) .skip)) (.seq (.reg [] [kW 47 8 2, kM 48 12, .s 49 (.call 317 [(.t 47), (.t 48), (.t 11)])]) (.seq (.drw [10] [.mk
  0 1 true (kW 50 3 9), .mk 1 2 true (kM 51 10), .mk 2 4 true (kM 52 2), .mk 3 8 true (kM 53 12), .mk 4 28 true (.s 54 (.ixp (.t 52) (.t 53) 1)), .mk 5 60 true
  (kL 55 54), .mk 6 64 true (kW 56 11 8), .mk 7 255 false (.s 57 (.call 318 [(.t 50), (.t 51), (.t 55), (.t 56)])), .mk 8 511 true (kM 10 57)] [.mk 128 255 (.s
  57 (.call 318 [(.t 50), (.t 51), (.t 55), (.t 56)]))]) (.seq (.seq (.reg [12] [kM 58 12, .s 59 (.ar .add (.t 58) (kI 1)), kM 12 59]) (.seq (.reg [63] [kM 60
  12, kM 61 2, .s 62 (.len (.t 61)), .s 63 (.cm .lt (.t 60) (.t 62))]) (.cond (.t 63) (.goto 0) .skip))) (.seq (.reg [6, 7] [kM 64 10, kM 6 64, .s 7 (.mv (kI
  0))]) .ret)))))))))))))))
theorem fq231 : FF 231 kf231 := cf (em := 9223372588827287503) Tryz.func231 (by kernel_rfl) (by kernel_rfl)
def kf249 : KFun := .mk 3 [.t 6] (.seq (.reg [3, 6] [.s 3 (.box (.t 0)), .s 6 (.mv (.c (.b false)))]) (.seq (.seq (.reg [13] [kO 9 3 9, kL 10 9, .s 11 (.call 95 [(.t 10)]), kM 12 1,
  .s 13 (.cm .lt (.t 11) (.t 12))]) (.cond (.t 13) (.seq (.reg [6] [.s 6 (.mv (.c (.b false)))]) .ret) .skip)) (.seq (.reg [8] [kO 15 3 9, kL 16 15, kM 17 1, .s
  18 (.call 329 [(.t 16), (.t 17)]), kM 14 18, kE 19 14 0, kE 20 14 1, kM 7 19, kM 8 20]) (.seq (.reg [6] [kM 21 2, .s 22 (.cm .eq (.t 21) (kI 0)), kM 23 22, .gs
  23 false 24 (.mv (.t 8)), .s 25 (.pick (.t 23) (.c (.b true)) (.t 24)), kM 26 25, .gs 26 false 27 (.off (.t 3) 10), .gs 26 false 28 (.ld (.t 27)), .gs 26 false
  29 (.call 330 [(.t 28)]), .gs 26 false 30 (.mv (.t 2)), .gs 26 false 31 (.cm .ge (.t 29) (.t 30)), .s 32 (.pick (.t 26) (.c (.b true)) (.t 31)), kM 6 32])
  .ret))))
theorem fq249 : FF 249 kf249 := cf (em := 8527) Tryz.func249 (by kernel_rfl) (by kernel_rfl)
def kf250 : KFun := .mk 3 [.t 6, .t 7] (.seq (.reg [3, 6, 7] [.s 3 (.box (.t 0)), .s 6 (.mv (.c (.ns))), .s 7 (.mv (kI 0))]) (.seq (.reg [8] [kO 15 3 9, kL 16 15, kM 17 1, .s 18
  (.call 331 [(.t 16), (.t 17)]), kM 14 18, kE 19 14 0, kE 20 14 1, kM 8 19, kM 9 20]) (.seq (.seq (.reg [26] [kM 21 2, .s 22 (.cm .eq (.t 21) (kI 0)), kM 23 22,
  .gs 23 false 24 (.mv (.t 8)), .gs 23 false 25 (.call 316 [(.t 24)]), .s 26 (.pick (.t 23) (.c (.b true)) (.t 25))]) (.cond (.t 26) (.seq (.reg [6, 7] [kM 27 8,
  kM 6 27, .s 7 (.mv (.c (.i (.negSucc 0))))]) .ret) .skip)) (.seq (.reg [10] [kO 29 3 10, kL 30 29, kM 31 2, .s 32 (.call 332 [(.t 30), (.t 31)]), kM 28 32, kE
  33 28 0, kE 34 28 1, kM 10 33, kM 11 34]) (.seq (.drw [12] [.mk 0 1 true (kO 36 3 0), .mk 1 3 true (kW 37 36 9), .mk 2 4 true (kO 38 3 10), .mk 3 12 true (kL
  39 38), .mk 4 28 false (.s 40 (.call 159 [(.t 39)])), .mk 5 32 true (kM 41 10), .mk 6 127 false (.s 42 (.call 333 [(.t 37), (.t 40), (.t 41)])), .mk 7 255 true
  (kM 35 42), .mk 8 511 true (kE 43 35 0), .mk 9 767 true (kE 44 35 1), .mk 10 1535 true (kM 12 43), .mk 11 4095 true (kM 13 44)] [.mk 80 28 (.s 40 (.call 159
  [(.t 39)])), .mk 64 127 (.s 42 (.call 333 [(.t 37), (.t 40), (.t 41)]))]) (.seq (.reg [6, 7] [kM 45 8, kM 46 12, kM 6 45, kM 7 46]) .ret))))))
theorem fq250 : FF 250 kf250 := cf (em := 67114447) Tryz.func250 (by kernel_rfl) (by kernel_rfl)
def kf251 : KFun := .mk 4 [] (.seq (.reg [10, 11, 12] [kM 10 1, .s 11 (.len (.t 10)), .s 12 (.mv (kI 0))]) (.blk 0 (.loop (.seq (.reg [13] [.s 13 (.cm .lt (.t 12) (.t 11))]) (.seq
  (.cond (.t 13) .skip (.exit 0)) (.seq (.blk 1 (.seq (.reg [9] [.s 14 (.ixp (.t 10) (.t 12) 1), kL 15 14, kM 9 15]) (.reg [] [kM 16 0, kC 17 16, kO 18 17 0, kL
  19 18, kM 20 9, kM 21 2, kM 22 3, .s 23 (.call 289 [(.t 19), (.t 20), (.t 21), (.c (.b false)), (.t 22)])]))) (.reg [12] [.s 24 (.ar .add (.t 12) (kI 1)), kM
  12 24])))))))
theorem fq251 : FF 251 kf251 := cf (em := 15887) Tryz.func251 (by kernel_rfl) (by kernel_rfl)
def kf254 : KFun := .mk 3 [.t 6, .t 7] (.seq (.reg [3, 6, 7] [.s 3 (.box (.t 0)), .s 6 (.mv (kI 0)), .s 7 (.mv (kI 0))]) (.seq (.seq (.reg [28] [kM 8 1, .s 9 (.cm .lt (.t 8) (kI
  0)), kM 10 9, .gs 10 false 11 (.mv (.t 1)), .gs 10 false 12 (.off (.t 3) 0), .gs 10 false 13 (.ld (.t 12)), .gs 10 false 14 (.cm .ge (.t 11) (.t 13)), .s 15
  (.pick (.t 10) (.c (.b true)) (.t 14)), kM 16 15, .gs 16 false 17 (.mv (.t 2)), .gs 16 false 18 (.cm .lt (.t 17) (kI 0)), .s 19 (.pick (.t 16) (.c (.b true))
  (.t 18)), kM 20 19, .gs 20 false 21 (.mv (.t 2)), .gs 20 false 22 (.cm .ge (.t 21) (kI 8)), .s 23 (.pick (.t 20) (.c (.b true)) (.t 22)), kM 24 23, .gs 24
  false 25 (.ldn (.t 3) 9), .gs 24 false 26 (.call 115 [(.t 25)]), .gs 24 false 27 (.cm .ne (.t 26) (kI 0)), .s 28 (.pick (.t 24) (.c (.b true)) (.t 27))])
  (.cond (.t 28) (.seq (.reg [6, 7] [.s 6 (.mv (kI 0)), .s 7 (.mv (kI 1))]) .ret) .skip)) (.seq (.reg [6, 7] [kW 29 3 9, kM 30 1, .s 31 (.ar .mul (.t 30) (kI
  8)), kM 32 2, .s 33 (.ar .add (.t 31) (.t 32)), .s 34 (.call 199 [(.t 29), (kI 1), (.t 33)]), kE 35 34 0, kE 36 34 1, kM 6 35, kM 7 36]) .ret)))
theorem fq254 : FF 254 kf254 := cf (em := 268435663) Tryz.func254 (by kernel_rfl) (by kernel_rfl)
def kf259 : KFun := .mk 2 [.t 4] (.seq (.reg [2, 4] [.s 2 (.box (.t 0)), .s 4 (.mv (kI 0))]) (.seq (.reg [5] [kO 6 2 1, kL 7 6, .s 8 (.len (.t 7)), kM 5 8]) (.seq (.blk 0 (.seq
  (.reg [9] [kW 10 2 2, .s 11 (.call 190 [(.t 10)]), .s 12 (.not (.t 11)), kM 13 12, .gs 13 false 14 (.mv (.t 1)), .gs 13 false 15 (.cm .lt (.t 14) (kI 0)), .s
  16 (.pick (.t 13) (.c (.b true)) (.t 15)), kM 17 16, .gs 17 false 18 (.mv (.t 1)), .gs 17 false 19 (.cm .gt (.t 18) (kI 512)), .s 20 (.pick (.t 17) (.c (.b
  true)) (.t 19)), kM 21 20, .gs 21 false 22 (.off (.t 2) 0), .gs 21 false 23 (.ld (.t 22)), .gs 21 false 24 (.not (.t 23)), .gs 21 false 25 (.mv (.t 24)), .gs
  25 true 26 (.mv (.t 1)), .gs 25 true 27 (.cm .gt (.t 26) (kI 0)), .gs 21 false 28 (.pick (.t 25) (.t 27) (.c (.b false))), .s 29 (.pick (.t 21) (.c (.b true))
  (.t 28)), kM 9 29]) (.cond (.t 9) (.seq (.reg [4] [.s 4 (.mv (.c (.i (.negSucc 0))))]) .ret) (.seq (.reg [30] [kO 31 2 0, kL 32 31, kM 30 32]) (.cond (.t 30)
  (.seq (.reg [4] [kM 33 1, .s 34 (.call 320 [(.t 33)]), .s 35 (.ar .add (kI 1) (.t 34)), kM 4 35]) .ret) (.seq (.reg [36] [kM 37 5, .s 38 (.cm .le (.t 37) (kI
  6)), kM 36 38]) (.cond (.t 36) (.seq (.reg [4] [.s 4 (.mv (kI 1))]) .ret) .skip))))))) (.seq (.reg [4] [kM 39 5, .s 40 (.ar .sub (.t 39) (kI 6)), .s 41 (.call
  335 [(.t 40), (kI 7)]), .s 42 (.ar .add (kI 1) (.t 41)), kM 4 42]) .ret))))
theorem fq259 : FF 259 kf259 := cf (em := 69793219127) Tryz.func259 (by kernel_rfl) (by kernel_rfl)
def kf260 : KFun := .mk 2 [.t 4, .t 5, .t 6] (.seq (.reg [2, 4, 5, 6] [.s 2 (.box (.t 0)), .s 4 (.mv (kI 0)), .s 5 (.mv (kI 0)), .s 6 (.mv (.c (.b false)))]) (.seq (.blk 0 (.seq
  (.reg [7] [kW 8 2 2, .s 9 (.call 190 [(.t 8)]), .s 10 (.not (.t 9)), kM 11 10, .gs 11 false 12 (.off (.t 2) 0), .gs 11 false 13 (.ld (.t 12)), .s 14 (.pick (.t
  11) (.c (.b true)) (.t 13)), kM 15 14, .gs 15 false 16 (.mv (.t 1)), .gs 15 false 17 (.cm .lt (.t 16) (kI 0)), .s 18 (.pick (.t 15) (.c (.b true)) (.t 17)), kM
  19 18, .gs 19 false 20 (.mv (.t 1)), .gs 19 false 21 (.off (.t 2) 1), .gs 19 false 22 (.ld (.t 21)), .gs 19 false 23 (.len (.t 22)), .gs 19 false 24 (.cm .ge
  (.t 20) (.t 23)), .s 25 (.pick (.t 19) (.c (.b true)) (.t 24)), kM 7 25]) (.cond (.t 7) (.seq (.reg [4, 5, 6] [.s 4 (.mv (kI 0)), .s 5 (.mv (kI 0)), .s 6 (.mv
  (.c (.b false)))]) .ret) (.seq (.reg [26] [kM 27 1, .s 28 (.cm .lt (.t 27) (kI 6)), kM 26 28]) (.cond (.t 26) (.seq (.reg [4, 5, 6] [kM 29 1, .s 30 (.ar .add
  (kI 2) (.t 29)), .s 4 (.mv (kI 0)), kM 5 30, .s 6 (.mv (.c (.b true)))]) .ret) .skip))))) (.seq (.reg [4, 5, 6] [kM 31 1, .s 32 (.ar .sub (.t 31) (kI 6)), .s
  33 (.q (.quo (.t 32) (kI 7))), .s 34 (.ar .add (kI 1) (.t 33)), kM 35 1, .s 36 (.ar .sub (.t 35) (kI 6)), .s 37 (.q (.rem (.t 36) (kI 7))), .s 38 (.ar .add (kI
  1) (.t 37)), kM 4 34, kM 5 38, .s 6 (.mv (.c (.b true)))]) .ret)))
theorem fq260 : FF 260 kf260 := cf (em := 67109111) Tryz.func260 (by kernel_rfl) (by kernel_rfl)
def kf287 : KFun := .mk 2 [.t 4] (.seq (.reg [4] [.s 4 (.mv (kI 0))]) (.seq (.seq (.reg [7, 8] [kM 6 0, .s 7 (.len (.t 6)), .s 8 (.mv (kI 0))]) (.blk 0 (.loop (.seq (.reg [9] [.s 9
  (.cm .lt (.t 8) (.t 7))]) (.seq (.cond (.t 9) .skip (.exit 0)) (.seq (.blk 1 (.seq (.reg [5] [kM 10 8, kM 5 10]) (.seq (.reg [16] [kM 11 1, kM 12 0, kM 13 5,
  .s 14 (.ixp (.t 12) (.t 13) 2), kW 15 14 2, .s 16 (.callv (.t 11) [(.t 15)])]) (.cond (.t 16) (.seq (.reg [4] [kM 17 5, kM 4 17]) .ret) .skip)))) (.reg [8] [.s
  18 (.ar .add (.t 8) (kI 1)), kM 8 18]))))))) (.seq (.reg [4] [.s 4 (.mv (.c (.i (.negSucc 0))))]) .ret)))
theorem fq287 : FF 287 kf287 := cf (em := 66483) Tryz.func287 (by kernel_rfl) (by kernel_rfl)
def kf288 : KFun := .mk 1 [.t 2] (.seq (.reg [2] [.s 2 (.mv (.c (.ns)))]) (.seq (.seq (.reg [4] [kM 3 0, .s 4 (.nils true (.t 3))]) (.cond (.t 4) (.seq (.reg [2] [.s 2 (.mv (.c
  (.ns)))]) .ret) .skip)) (.seq (.reg [2] [.s 5 (.bsl [.b false] 0 .nil), kM 6 0, .s 7 (.app 1 1 (.t 5) (.t 6)), kM 2 7]) .ret)))
theorem fq288 : FF 288 kf288 := cf (em := 21) Tryz.func288 (by kernel_rfl) (by kernel_rfl)
def kf289 : KFun := .mk 5 [.t 10] (.seq (.reg [10] [.s 10 (.mv (.c (.b false)))]) (.seq (.seq (.reg [22] [kM 11 0, kM 12 1, .s 13 (.call 79 [(.t 11), (.t 12)]), .s 14 (.not (.t
  13)), kM 15 14, .gs 15 false 16 (.mv (.t 2)), .gs 15 false 17 (.cm .lt (.t 16) (kI 0)), .s 18 (.pick (.t 15) (.c (.b true)) (.t 17)), kM 19 18, .gs 19 false 20
  (.mv (.t 2)), .gs 19 false 21 (.cm .gt (.t 20) (kI 2)), .s 22 (.pick (.t 19) (.c (.b true)) (.t 21))]) (.cond (.t 22) (.seq (.reg [10] [.s 10 (.mv (.c (.b
  false)))]) .ret) .skip)) (.seq (.drw [] [.mk 0 1 true (kM 23 0), .mk 1 2 true (kM 24 0), .mk 2 6 true (kC 25 24), .mk 3 14 true (kO 26 25 0), .mk 4 30 true (kL
  27 26), .mk 5 32 true (kM 28 1), .mk 6 126 true (.s 29 (.ixp (.t 27) (.t 28) 3)), .mk 7 254 true (kO 30 29 0), .mk 8 510 true (kL 31 30), .mk 9 513 true (kC 32
  23), .mk 10 1537 true (kO 33 32 1), .mk 11 4095 true (.s 34 (.q (.iar (.t 33) (.t 31) 1 3))), .mk 12 8191 true (kL 35 34), .mk 13 16383 true (.s 36 (.ar .sub
  (.t 35) (kI 1))), .mk 14 16385 true (kC 37 23), .mk 15 49153 true (kO 38 37 1), .mk 16 131071 true (.s 39 (.q (.iar (.t 38) (.t 31) 1 3))), .mk 17 262143 false
  (.n (.st (.t 39) (.t 36)))] [.mk 131072 262143 (.n (.st (.t 39) (.t 36)))]) (.seq (.drw [] [.mk 0 1 true (kM 40 0), .mk 1 2 true (kM 41 2), .mk 2 5 true (kC 42
  40), .mk 3 13 true (kO 43 42 1), .mk 4 31 true (.s 44 (.q (.iar (.t 43) (.t 41) 1 3))), .mk 5 63 true (kL 45 44), .mk 6 127 true (.s 46 (.ar .add (.t 45) (kI
  1))), .mk 7 129 true (kC 47 40), .mk 8 385 true (kO 48 47 1), .mk 9 1023 true (.s 49 (.q (.iar (.t 48) (.t 41) 1 3))), .mk 10 2047 false (.n (.st (.t 49) (.t
  46)))] [.mk 1024 2047 (.n (.st (.t 49) (.t 46)))]) (.seq (.reg [] [kM 50 0, kC 51 50, kO 52 51 0, kL 53 52, kM 54 1, kM 55 2, kM 56 3, kM 57 56, .gs 57 true 58
  (.mv (.t 2)), .gs 57 true 59 (.cm .eq (.t 58) (kI 2)), .s 60 (.pick (.t 57) (.t 59) (.c (.b false))), kM 61 4, .s 62 (.bld [.i (.ofNat 0), .b false, .b false]
  (.cons 0 1 (.t 55) (.cons 1 1 (.t 60) (.cons 2 1 (.t 61) .nil)))), .s 63 (.ixp (.t 53) (.t 54) 3), .n (.stn (.t 63) (.t 62) 3)]) (.seq (.reg [10] [.s 10 (.mv
  (.c (.b true)))]) .ret))))))
theorem fq289 : FF 289 kf289 := cf (em := 4195359) Tryz.func289 (by kernel_rfl) (by kernel_rfl)
def kf291 : KFun := .mk 1 [.t 2, .t 3] (.seq (.reg [2, 3] [.s 2 (.mv (.c (.s []))), .s 3 (.mv (.c (.s [])))]) (.seq (.reg [4] [.s 5 (.bld [.s [], .s []] (.cons 0 1 (.c (.s []))
  (.cons 1 1 (.c (.s [])) .nil))), .s 6 (.bld [.s [], .s []] (.cons 0 1 (.c (.s [110, 101, 119])) (.cons 1 1 (.c (.s [97, 107])) .nil))), .s 7 (.bld [.s [], .s
  []] (.cons 0 1 (.c (.s [97, 114, 114, 97, 121])) (.cons 1 1 (.c (.s [97, 107, 110])) .nil))), .s 8 (.bld [.s [], .s []] (.cons 0 1 (.c (.s [108, 111, 97,
  100])) (.cons 1 1 (.c (.s [97, 98, 110])) .nil))), .s 9 (.bld [.s [], .s []] (.cons 0 1 (.c (.s [115, 116, 111, 114, 101])) (.cons 1 1 (.c (.s [97, 110, 98]))
  .nil))), .s 10 (.bld [.s [], .s []] (.cons 0 1 (.c (.s [103, 101, 116])) (.cons 1 1 (.c (.s [97, 98, 110])) .nil))), .s 11 (.bld [.s [], .s []] (.cons 0 1 (.c
  (.s [112, 117, 116])) (.cons 1 1 (.c (.s [97, 110, 98])) .nil))), .s 12 (.bld [.s [], .s []] (.cons 0 1 (.c (.s [108, 111, 111, 107])) (.cons 1 1 (.c (.s [97,
  103])) .nil))), .s 13 (.bld [.s [], .s []] (.cons 0 1 (.c (.s [115, 101, 116])) (.cons 1 1 (.c (.s [103, 98])) .nil))), .s 14 (.bld [.s [], .s []] (.cons 0 1
  (.c (.s [115, 97, 109, 101])) (.cons 1 1 (.c (.s [97, 98, 99])) .nil))), .s 15 (.bld [.s [], .s []] (.cons 0 1 (.c (.s [108, 101, 110, 103, 116, 104])) (.cons
  1 1 (.c (.s [97, 98])) .nil))), .s 16 (.bld [.s [], .s []] (.cons 0 1 (.c (.s [107, 105, 110, 100])) (.cons 1 1 (.c (.s [97, 98])) .nil))), .s 17 (.bld [.s [],
  .s []] (.cons 0 1 (.c (.s [110, 117, 109, 98, 101, 114])) (.cons 1 1 (.c (.s [97, 122])) .nil))), .s 18 (.bld [.s [], .s []] (.cons 0 1 (.c (.s [99, 108, 101,
  97, 114])) (.cons 1 1 (.c (.s [97])) .nil))), .s 19 (.bld [.s [], .s []] (.cons 0 1 (.c (.s [99, 111, 112, 121])) (.cons 1 1 (.c (.s [97, 98])) .nil))), .s 20
  (.bld [.s [], .s []] (.cons 0 1 (.c (.s [97, 100, 100])) (.cons 1 1 (.c (.s [97, 98, 99])) .nil))), .s 21 (.bld [.s [], .s []] (.cons 0 1 (.c (.s [109, 117,
  108])) (.cons 1 1 (.c (.s [97, 98, 99])) .nil))), .s 22 (.bld [.s [], .s []] (.cons 0 1 (.c (.s [99, 111, 108, 108, 101, 99, 116])) (.cons 1 1 (.c (.s []))
  .nil))), .s 23 (.bld [.s [], .s []] (.cons 0 1 (.c (.s [108, 101, 97, 118, 101])) (.cons 1 1 (.c (.s [])) .nil))), .s 24 (.bsl [.s [], .s []] 19 (.cons 0 2 (.t
  5) (.cons 2 2 (.t 6) (.cons 4 2 (.t 7) (.cons 6 2 (.t 8) (.cons 8 2 (.t 9) (.cons 10 2 (.t 10) (.cons 12 2 (.t 11) (.cons 14 2 (.t 12) (.cons 16 2 (.t 13)
  (.cons 18 2 (.t 14) (.cons 20 2 (.t 15) (.cons 22 2 (.t 16) (.cons 24 2 (.t 17) (.cons 26 2 (.t 18) (.cons 28 2 (.t 19) (.cons 30 2 (.t 20) (.cons 32 2 (.t 21)
  (.cons 34 2 (.t 22) (.cons 36 2 (.t 23) .nil)))))))))))))))))))), kM 4 24]) (.seq (.seq (.reg [32] [kM 25 0, .s 26 (.cm .lt (.t 25) (kI 0)), kM 27 26, .gs 27
  false 28 (.mv (.t 0)), .gs 27 false 29 (.mv (.t 4)), .gs 27 false 30 (.len (.t 29)), .gs 27 false 31 (.cm .ge (.t 28) (.t 30)), .s 32 (.pick (.t 27) (.c (.b
  true)) (.t 31))]) (.cond (.t 32) (.seq (.reg [2, 3] [.s 2 (.mv (.c (.s []))), .s 3 (.mv (.c (.s [])))]) .ret) .skip)) (.seq (.drw [2, 3] [.mk 0 1 true (kM 33
  4), .mk 1 2 true (kM 34 0), .mk 2 7 true (.s 35 (.ixp (.t 33) (.t 34) 2)), .mk 3 15 true (.s 36 (.q (.iar (.t 35) (kI 0) 1 2))), .mk 4 31 true (kL 37 36), .mk
  5 32 true (kM 38 4), .mk 6 64 true (kM 39 0), .mk 7 224 true (.s 40 (.ixp (.t 38) (.t 39) 2)), .mk 8 480 true (.s 41 (.q (.iar (.t 40) (kI 1) 1 2))), .mk 9 992
  true (kL 42 41), .mk 10 1055 true (kM 2 37), .mk 11 4095 true (kM 3 42)] []) .ret))))
theorem fq291 : FF 291 kf291 := cf (em := 4294967325) Tryz.func291 (by kernel_rfl) (by kernel_rfl)
def kf292 : KFun := .mk 2 [.t 4] (.seq (.reg [4] [.s 4 (.mv (.c (.np)))]) (.seq (.seq (.reg [5] [kM 5 1]) (.blk 0 (.seq (.reg [6] [.s 7 (.cmk .eq (.t 5) (.c (.k .i32 (.ofNat 97)))),
  kM 6 7]) (.cond (.t 6) (.seq (.reg [4] [kM 8 0, kC 9 8, kO 10 9 1, kM 4 10]) .ret) (.seq (.seq (.reg [11] [.s 12 (.cmk .eq (.t 5) (.c (.k .i32 (.ofNat 98)))),
  kM 11 12]) (.cond (.t 11) .skip (.reg [11] [.s 13 (.cmk .eq (.t 5) (.c (.k .i32 (.ofNat 107)))), kM 11 13]))) (.cond (.t 11) (.seq (.reg [4] [kM 14 0, kC 15
  14, kO 16 15 2, kM 4 16]) .ret) (.seq (.reg [17] [.s 18 (.cmk .eq (.t 5) (.c (.k .i32 (.ofNat 99)))), kM 17 18]) (.cond (.t 17) (.seq (.reg [4] [kM 19 0, kC 20
  19, kO 21 20 3, kM 4 21]) .ret) .skip)))))))) (.seq (.reg [4] [kM 22 0, kC 23 22, kO 24 23 4, kM 4 24]) .ret)))
theorem fq292 : FF 292 kf292 := cf (em := 133235) Tryz.func292 (by kernel_rfl) (by kernel_rfl)
def kf293 : KFun := .mk 2 [.t 4] (.seq (.reg [2, 3, 4] [.s 2 (.box (.t 0)), .s 3 (.box (.t 1)), .s 4 (.mv (kI 0))]) (.seq (.seq (.reg [7] [kO 5 3 0, kL 6 5, .s 7 (.cm .eq (.t 6) (kI
  2))]) (.cond (.t 7) (.seq (.reg [4] [kW 8 2 2, kO 9 3 4, kL 10 9, .s 11 (.call 259 [(.t 8), (.t 10)]), kM 4 11]) .ret) .skip)) (.seq (.reg [4] [kW 12 2 2, .s
  13 (.call 259 [(.t 12), (kI 0)]), kM 4 13]) .ret)))
theorem fq293 : FF 293 kf293 := cf (em := 159) Tryz.func293 (by kernel_rfl) (by kernel_rfl)
def kf294 : KFun := .mk 2 [.t 4] (.seq (.reg [2, 4] [.s 2 (.box (.t 0)), .s 4 (.mv (kI 0))]) (.seq (.seq (.reg [17] [kW 5 2 2, .s 6 (.call 190 [(.t 5)]), .s 7 (.not (.t 6)), kM 8 7,
  .gs 8 false 9 (.off (.t 2) 0), .gs 8 false 10 (.ld (.t 9)), .gs 8 false 11 (.not (.t 10)), .s 12 (.pick (.t 8) (.c (.b true)) (.t 11)), kM 13 12, .gs 13 false
  14 (.mv (.t 1)), .gs 13 false 15 (.call 320 [(.t 14)]), .gs 13 false 16 (.cm .le (.t 15) (kI 4)), .s 17 (.pick (.t 13) (.c (.b true)) (.t 16))]) (.cond (.t 17)
  (.seq (.reg [4] [.s 4 (.mv (kI 0))]) .ret) .skip)) (.seq (.reg [4] [kM 18 1, .s 19 (.call 320 [(.t 18)]), .s 20 (.ar .add (.t 19) (kI 2)), kM 4 20]) .ret)))
theorem fq294 : FF 294 kf294 := cf (em := 131095) Tryz.func294 (by kernel_rfl) (by kernel_rfl)
def kf295 : KFun := .mk 2 [.t 4] (.seq (.reg [4] [.s 4 (.mv (.c (.b false)))]) (.seq (.reg [4] [kM 5 0, kM 6 1, .s 7 (.call 344 [(.t 5), (.t 6)]), .s 8 (.cm .ge (.t 7) (kI 0)), kM 4
  8]) .ret))
theorem fq295 : FF 295 kf295 := cf (em := 19) Tryz.func295 (by kernel_rfl) (by kernel_rfl)
def kf301 : KFun := .mk 2 [.t 4, .t 5] (.seq (.reg [2, 3, 4, 5] [.s 2 (.box (.t 0)), .s 3 (.box (.t 1)), .s 4 (.mv (kI 0)), .s 5 (.mv (kI 0))]) (.seq (.seq (.reg [21] [kO 8 3 0, kL
  9 8, .s 10 (.cm .ne (.t 9) (kI 1)), kM 11 10, .gs 11 true 12 (.off (.t 3) 0), .gs 11 true 13 (.ld (.t 12)), .gs 11 true 14 (.cm .ne (.t 13) (kI 2)), .s 15
  (.pick (.t 11) (.t 14) (.c (.b false))), kM 16 15, .gs 16 false 17 (.ldn (.t 2) 9), .gs 16 false 18 (.ldn (.t 3) 6), .gs 16 false 19 (.call 207 [(.t 17), (.t
  18)]), .gs 16 false 20 (.cm .ne (.t 19) (kI 0)), .s 21 (.pick (.t 16) (.c (.b true)) (.t 20))]) (.cond (.t 21) (.seq (.reg [4, 5] [.s 4 (.mv (kI 0)), .s 5 (.mv
  (kI 0))]) .ret) .skip)) (.seq (.reg [6] [kW 23 2 9, kO 24 3 2, kL 25 24, .s 26 (.call 173 [(.t 23), (.t 25)]), kM 22 26, kE 27 22 0, kE 28 22 1, .s 6 (.new [.b
  false, .ns]), .n (.stn (.t 6) (.t 27) 2), kM 7 28]) (.seq (.drw [4, 5] [.mk 0 1 true (kW 29 6 2), .mk 1 2 true (kW 30 3 6), .mk 2 7 false (.s 31 (.call 293
  [(.t 29), (.t 30)])), .mk 3 8 true (kW 32 6 2), .mk 4 16 true (kO 33 3 4), .mk 5 48 true (kL 34 33), .mk 6 127 false (.s 35 (.call 294 [(.t 32), (.t 34)])),
  .mk 7 255 true (kM 4 31), .mk 8 511 true (kM 5 35)] [.mk 68 7 (.s 31 (.call 293 [(.t 29), (.t 30)])), .mk 64 127 (.s 35 (.call 294 [(.t 32), (.t 34)]))])
  .ret))))
theorem fq301 : FF 301 kf301 := cf (em := 2097279) Tryz.func301 (by kernel_rfl) (by kernel_rfl)
def kf302 : KFun := .mk 5 [.cn 10 3] (.seq (.reg [10] [.s 10 (.new [.i (.ofNat 0), .ns, .i (.ofNat 0)])]) (.seq (.reg [] [kM 19 0, kC 20 19, kO 21 20 3, kL 22 21, .s 23 (.ar .add
  (.t 22) (kI 1)), kC 24 19, kO 25 24 3, .n (.st (.t 25) (.t 23))]) (.seq (.reg [11] [kM 26 0, kM 27 1, .s 28 (.call 203 [(.t 26), (.t 27)]), kM 11 28]) (.seq
  (.seq (.reg [13] [kM 30 0, kC 31 30, kO 32 31 4, kO 33 32 11, kL 34 33, kM 35 1, .s 36 (.call 228 [(.t 34), (.t 35)]), kM 29 36, kE 37 29 0, kE 38 29 1, .s 12
  (.new [.i (.ofNat 0), .i (.ofNat 0), .i (.ofNat 0), .i (.ofNat 0), .i (.ofNat 0), .i (.ofNat 0), .ns]), .n (.stn (.t 12) (.t 37) 7), kM 13 38]) (.seq (.reg
  [51] [kM 39 11, .s 40 (.nilp true (.t 39)), kM 41 40, .gs 41 false 42 (.mv (.t 2)), .gs 41 false 43 (.cm .lt (.t 42) (kI 1)), .s 44 (.pick (.t 41) (.c (.b
  true)) (.t 43)), kM 45 44, .gs 45 false 46 (.mv (.t 3)), .gs 45 false 47 (.cm .lt (.t 46) (kI 0)), .s 48 (.pick (.t 45) (.c (.b true)) (.t 47)), kM 49 48, .gs
  49 false 50 (.mv (.t 13)), .s 51 (.pick (.t 49) (.c (.b true)) (.t 50))]) (.cond (.t 51) (.seq (.reg [] [.s 52 (.call 229 [(kI 3)]), .n (.stn (.t 10) (.t 52)
  3)]) .ret) .skip))) (.seq (.seq (.reg [54] [kM 53 3, .s 54 (.cm .eq (.t 53) (kI 0))]) (.cond (.t 54) (.seq (.reg [14, 15] [kM 56 11, kM 57 2, .s 58 (.call 346
  [(.t 56), (.t 57)]), kM 55 58, kE 59 55 0, kE 60 55 1, kM 14 59, kM 15 60]) (.seq (.reg [61] [kM 61 15]) (.cond (.t 61) (.seq (.reg [] [kM 62 0, kM 63 14, kM
  64 4, .s 65 (.call 251 [(.t 62), (.t 63), (kI 2), (.t 64)])]) (.seq (.reg [] [kM 66 14, .s 67 (.bld [.i (.ofNat 0), .ns, .i (.ofNat 0)] (.cons 0 1 (kI 1)
  (.cons 1 1 (.t 66) (.cons 2 1 (.c (.i (.negSucc 0))) .nil)))), .n (.stn (.t 10) (.t 67) 3)]) .ret)) .skip))) .skip)) (.seq (.seq (.reg [83] [kM 68 0, kC 69 68,
  kO 70 69 4, kW 71 70 12, .s 72 (.call 98 [(.t 71)]), .s 73 (.cm .gt (.t 72) (kI 0)), kM 74 73, .gs 74 false 75 (.mv (.t 0)), .gs 74 false 76 (.ck (.t 75)), .gs
  74 false 77 (.off (.t 76) 4), .gs 74 false 78 (.ldn (.t 77) 12), .gs 74 false 79 (.mv (.t 2)), .gs 74 false 80 (.mv (.t 3)), .gs 74 false 81 (.call 249 [(.t
  78), (.t 79), (.t 80)]), .gs 74 false 82 (.not (.t 81)), .s 83 (.pick (.t 74) (.c (.b true)) (.t 82))]) (.cond (.t 83) (.seq (.reg [] [kM 84 0, kC 85 84, kO 86
  85 4, kO 87 86 11, kL 88 87, kM 89 1, kM 90 2, kM 91 3, .s 92 (.bld [.i (.ofNat 0), .i (.ofNat 0), .i (.ofNat 0), .i (.ofNat 0), .i (.ofNat 0), .i (.ofNat 0),
  .ns] (.cons 0 1 (.t 89) (.cons 1 1 (.t 90) (.cons 2 1 (.t 91) .nil)))), .s 93 (.call 347 [(.t 88), (.t 92)])]) (.seq (.reg [] [.s 94 (.call 229 [(kI 0)]), .n
  (.stn (.t 10) (.t 94) 3)]) .ret)) .skip)) (.seq (.reg [16, 17] [kM 96 0, kC 97 96, kO 98 97 4, kW 99 98 12, kM 100 2, kM 101 3, .s 102 (.call 250 [(.t 99), (.t
  100), (.t 101)]), kM 95 102, kE 103 95 0, kE 104 95 1, kM 16 103, kM 17 104]) (.seq (.reg [] [kM 105 0, kM 106 16, kM 107 4, .s 108 (.call 251 [(.t 105), (.t
  106), (kI 2), (.t 107)])]) (.seq (.drw [18] [.mk 0 1 true (kM 109 0), .mk 1 3 true (kC 110 109), .mk 2 7 true (kO 111 110 4), .mk 3 15 true (kO 112 111 9), .mk
  4 31 true (kL 113 112), .mk 5 32 true (kM 114 11), .mk 6 96 true (.s 115 (.call 349 [(.t 114)])), .mk 7 255 false (.s 116 (.call 348 [(.t 113), (.t 115)])),
  .mk 8 511 true (kM 18 116)] [.mk 128 255 (.s 116 (.call 348 [(.t 113), (.t 115)]))]) (.seq (.reg [] [kM 117 0, kM 118 18, kM 119 4, .s 120 (.call 251 [(.t
  117), (.t 118), (kI 1), (.t 119)])]) (.seq (.reg [] [kM 121 11, kM 122 18, .s 123 (.call 350 [(.t 121), (.t 122)])]) (.seq (.reg [] [kM 124 16, kM 125 17, .s
  126 (.bld [.i (.ofNat 0), .ns, .i (.ofNat 0)] (.cons 0 1 (kI 1) (.cons 1 1 (.t 124) (.cons 2 1 (.t 125) .nil)))), .n (.stn (.t 10) (.t 126) 3)])
  .ret))))))))))))
theorem fq302 : FF 302 kf302 := cf (em := 9671408883026240935029791) Tryz.func302 (by kernel_rfl) (by kernel_rfl)
def kf303 : KFun := .mk 1 [.t 2] (.seq (.reg [2] [.s 2 (.mv (.c (.b false)))]) (.seq (.reg [2] [kM 3 0, kC 4 3, kO 5 4 4, kL 6 5, .s 7 (.cm .eq (.t 6) (kI 1)), kM 8 7, .gs 8 false 9
  (.mv (.t 0)), .gs 8 false 10 (.ck (.t 9)), .gs 8 false 11 (.off (.t 10) 4), .gs 8 false 12 (.ld (.t 11)), .gs 8 false 13 (.cm .eq (.t 12) (kI 2)), .s 14 (.pick
  (.t 8) (.c (.b true)) (.t 13)), kM 2 14]) .ret))
theorem fq303 : FF 303 kf303 := cf (em := 5) Tryz.func303 (by kernel_rfl) (by kernel_rfl)
def kf310 : KFun := .mk 2 [.t 4] (.seq (.reg [4] [.s 4 (.mv (.c (.b false)))]) (.seq (.seq (.reg [18] [kM 5 0, kM 6 1, .s 7 (.call 78 [(.t 5), (.t 6)]), .s 8 (.cm .ne (.t 7) (kI
  2)), kM 9 8, .gs 9 false 10 (.mv (.t 0)), .gs 9 false 11 (.ck (.t 10)), .gs 9 false 12 (.off (.t 11) 0), .gs 9 false 13 (.ld (.t 12)), .gs 9 false 14 (.mv (.t
  1)), .gs 9 false 15 (.ixp (.t 13) (.t 14) 3), .gs 9 false 16 (.off (.t 15) 1), .gs 9 false 17 (.ld (.t 16)), .s 18 (.pick (.t 9) (.c (.b true)) (.t 17))])
  (.cond (.t 18) (.seq (.reg [4] [.s 4 (.mv (.c (.b false)))]) .ret) .skip)) (.seq (.reg [] [kM 19 0, kC 20 19, kO 21 20 0, kL 22 21, kM 23 1, .s 24 (.ixp (.t
  22) (.t 23) 3), kO 25 24 1, .n (.st (.t 25) (.c (.b true)))]) (.seq (.reg [4] [.s 4 (.mv (.c (.b true)))]) .ret))))
theorem fq310 : FF 310 kf310 := cf (em := 262163) Tryz.func310 (by kernel_rfl) (by kernel_rfl)
def kf311 : KFun := .mk 2 [.cn 4 7, .t 5] (.seq (.reg [4, 5] [.s 4 (.new [.i (.ofNat 0), .i (.ofNat 0), .i (.ofNat 0), .i (.ofNat 0), .i (.ofNat 0), .i (.ofNat 0), .ns]), .s 5 (.mv
  (.c (.b false)))]) (.seq (.seq (.reg [8] [kM 7 1, .s 8 (.cm .lt (.t 7) (kI 0))]) (.cond (.t 8) (.seq (.reg [5] [.s 9 (.bld [.i (.ofNat 0), .i (.ofNat 0), .i
  (.ofNat 0), .i (.ofNat 0), .i (.ofNat 0), .i (.ofNat 0), .ns] .nil), .n (.stn (.t 4) (.t 9) 7), .s 5 (.mv (.c (.b false)))]) .ret) .skip)) (.seq (.reg [6] [kM
  10 0, kC 11 10, kO 12 11 0, kL 13 12, kM 14 1, .s 15 (.ixp (.t 13) (.t 14) 8), kO 16 15 0, kW 17 16 7, .s 6 (.new [.i (.ofNat 0), .i (.ofNat 0), .i (.ofNat 0),
  .i (.ofNat 0), .i (.ofNat 0), .i (.ofNat 0), .ns]), .n (.stn (.t 6) (.t 17) 7)]) (.seq (.reg [] [kO 18 6 6, kL 19 18, .s 20 (.call 334 [(.t 19)]), kO 21 6 6,
  .n (.st (.t 21) (.t 20))]) (.seq (.reg [5] [kW 22 6 7, .n (.stn (.t 4) (.t 22) 7), .s 5 (.mv (.c (.b true)))]) .ret)))))
theorem fq311 : FF 311 kf311 := cf (em := 371) Tryz.func311 (by kernel_rfl) (by kernel_rfl)
def kf312 : KFun := .mk 2 [.t 4] (.seq (.reg [3, 4] [.s 3 (.box (.t 1)), .s 4 (.mv (kI 0))]) (.seq (.reg [4] [kM 5 0, kC 6 5, kO 7 6 0, kL 8 7, .s 9 (.q (.mkf 357 [] [(.t 3)])), .s
  10 (.call 356 [(.t 8), (.t 9)]), kM 4 10]) .ret))
theorem fq312 : FF 312 kf312 := cf (em := 27) Tryz.func312 (by kernel_rfl) (by kernel_rfl)
end Go.Kx
