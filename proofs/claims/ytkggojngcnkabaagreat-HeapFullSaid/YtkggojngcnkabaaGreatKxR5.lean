/-
  Functions in the fast form; that they are the others. Printed by a program of ours.
-/
import Derived.Test.YtkggojngcnkabaaGreatKxH
import Derived.Test.YtkggojngcnkabaaGreatB10
set_option linter.unusedVariables false
set_option linter.unusedSimpArgs false
set_option maxRecDepth 1000000
noncomputable section
namespace Go.Kx
def rf303 : RFun := .mk 1 [.t 2] λ cl env s=>nx (λ e1 s2=>ko e1 0 λ v3=>onp v3 λ b4 o5=>ldK b4 (Nat.add o5 4) s2 λ v6=>oni v6 λ n7=>gdK (.b (cmI .eq n7 (.ofNat 1))) false (λ k8=>ko
  e1 0 λ v11=>k8 v11 s2) s2 λ v9 s10=>gdK (.b (cmI .eq n7 (.ofNat 1))) false (λ k12=>onp v9 λ b15 o16=>k12 (.p b15 o16) s10) s10 λ v13 s14=>
  gdK (.b (cmI .eq n7 (.ofNat 1))) false (λ k17=>onp v13 λ b20 o21=>k17 (.p b20 (Nat.add o21 4)) s14) s14 λ v18 s19=>gdK (.b (cmI .eq n7 (.ofNat
  1))) false (λ k22=>onp v18 λ b25 o26=>ldK b25 o26 s19 λ v27=>k22 v27 s19) s19 λ v23 s24=>gdK (.b (cmI .eq n7 (.ofNat 1))) false (λ k28=>
  oni v23 λ n31=>k28 (.b (cmI .eq n31 (.ofNat 2))) s24) s24 λ v29 s30=>pkK (.b (cmI .eq n7 (.ofNat 1))) (.ok (.b true)) (.ok v29) λ v32=>nx (λ e33
  s34=>.ok .r e33 s34) (kst e1 2 v32) s30) (kst env 2 (.b false)) s
theorem fe303 : rf303 = fastOf kf303 := by kernel_rfl
def rf304 : RFun := .mk 3 [.t 6] λ cl env s=>ko env 0 λ v1=>bnr (boxV v1 s) λ v2 s3=>nx (λ e4 s5=>ko e4 3 λ v6=>onp v6 λ b7 o8=>bnr (ldnP 9 b7 o8 s5) λ v9 s10=>bnr (cl 124
  [v9] s10) λ v11 s12=>ko e4 1 λ v13=>ko e4 2 λ v14=>ko e4 1 λ v15=>bnr (oL (fill (.cons 0 9 (.c v11) (.cons 9 1 (.c v13) (.cons 10 1 (.c v14)
  (.cons 13 1 (.c v15) (.cons 19 1 (.c (.i (.negSucc 0))) .nil))))) [.i (.ofNat 0),.i (.ofNat 0),.i (.ofNat 0),.i (.ofNat 0),.i (.ofNat 0),.i (.ofNat 0),.i
  (.ofNat 0),.i (.ofNat 0),.ns,.i (.ofNat 0),.i (.ofNat 0),.b false,.i (.ofNat 0),.i (.ofNat 0),.i (.ofNat 0),.i (.ofNat 0),.i (.ofNat 0),.i (.ofNat
  0),.i (.ofNat 0),.i (.ofNat 0),.b false,.i (.ofNat 0),.i (.ofNat 0)] .nil) okA s12) λ v16 s17=>bnr (boxV v16 s17) λ v18 s19=>nx (λ e20 s21=>
  .ok .r e20 s21) (kst e4 6 v18) s19) (kst (kst env 3 v2) 6 (.np)) s3
theorem fe304 : rf304 = fastOf kf304 := by kernel_rfl
def rf306 : RFun := .mk 1 [.t 2] λ cl env s=>nx (λ e1 s2=>ko e1 0 λ v3=>onp v3 λ b4 o5=>ldK b4 (Nat.add o5 4) s2 λ v6=>oni v6 λ n7=>gdK (.b (cmI .eq n7 (.ofNat 1))) false (λ k8=>ko
  e1 0 λ v11=>k8 v11 s2) s2 λ v9 s10=>gdK (.b (cmI .eq n7 (.ofNat 1))) false (λ k12=>onp v9 λ b15 o16=>k12 (.p b15 o16) s10) s10 λ v13 s14=>
  gdK (.b (cmI .eq n7 (.ofNat 1))) false (λ k17=>onp v13 λ b20 o21=>k17 (.p b20 (Nat.add o21 4)) s14) s14 λ v18 s19=>gdK (.b (cmI .eq n7 (.ofNat
  1))) false (λ k22=>onp v18 λ b25 o26=>ldK b25 o26 s19 λ v27=>k22 v27 s19) s19 λ v23 s24=>gdK (.b (cmI .eq n7 (.ofNat 1))) false (λ k28=>
  oni v23 λ n31=>k28 (.b (cmI .eq n31 (.ofNat 2))) s24) s24 λ v29 s30=>pkK (.b (cmI .eq n7 (.ofNat 1))) (.ok (.b true)) (.ok v29) λ v32=>gdK v32
  false (λ k33=>ko e1 0 λ v36=>k33 v36 s30) s30 λ v34 s35=>gdK v32 false (λ k37=>onp v34 λ b40 o41=>k37 (.p b40 o41) s35) s35 λ v38 s39=>
  gdK v32 false (λ k42=>onp v38 λ b45 o46=>k42 (.p b45 (Nat.add o46 4)) s39) s39 λ v43 s44=>gdK v32 false (λ k47=>onp v43 λ b50 o51=>ldK
  b50 o51 s44 λ v52=>k47 v52 s44) s44 λ v48 s49=>gdK v32 false (λ k53=>oni v48 λ n56=>k53 (.b (cmI .eq n56 (.ofNat 3))) s49) s49 λ v54 s55=>
  pkK v32 (.ok (.b true)) (.ok v54) λ v57=>nx (λ e58 s59=>.ok .r e58 s59) (kst e1 2 v57) s55) (kst env 2 (.b false)) s
theorem fe306 : rf306 = fastOf kf306 := by kernel_rfl
def rf308 : RFun := .mk 2 [.t 4] λ cl env s=>nx (λ e1 s2=>bindX (scR (hC.hAt (.seq (.reg [5] [.s 5 (.mv (.c (.z 0 0)))]) (.seq (.reg [6,7] [.s 6 (.mv (kI 0)),.s 7 (.mv (.c (.b true)))]) (.seq (.seq
  (.reg [12] [kM 8 0,kC 9 8,kO 10 9 12,kL 11 10,.s 12 (.cm .eq (.t 11) (kI 1))]) (.cond (.t 12) (.goto 0) .skip)) (.seq (.seq (.reg [5,7] [kM 14 0,kM 15 1,
  kM 16 0,kC 17 16,kO 18 17 9,kL 19 18,.s 20 (.call 351 [(.t 14),(.t 15),(.t 19),(kI 1)]),kM 13 20,kE 21 13 0,kE 22 13 1,kM 5 21,kM 7 22]) (.seq
  (.reg [24] [kM 23 7,.s 24 (.not (.t 23))]) (.cond (.t 24) (.goto 1) .skip))) (.seq (.seq (.reg [4] [kM 25 0,kM 26 5,.s 27 (.call 352 [(.t 25),(.t 26)]),.s
  28 (.not (.t 27)),kM 4 28]) .ret) (.seq (.label 0) (.seq (.seq (.reg [5,7] [kM 30 0,kM 31 1,kM 32 0,kC 33 32,kO 34 33 13,kL 35 34,.s 36 (.call 351 [(.t
  30),(.t 31),(.t 35),(kI 0)]),kM 29 36,kE 37 29 0,kE 38 29 1,kM 5 37,kM 7 38]) (.seq (.reg [40] [kM 39 7,.s 40 (.not (.t 39))]) (.cond (.t 40) (.goto
  1) .skip))) (.seq (.seq (.reg [6,7] [kM 42 5,.s 43 (.call 150 [(.t 42)]),kM 41 43,kE 44 41 0,kE 45 41 1,kM 6 44,kM 7 45]) (.seq (.reg [56] [kM 46 7,.s
  47 (.not (.t 46)),kM 48 47,.gs 48 false 49 (.mv (.t 6)),.gs 48 false 50 (.mv (.t 0)),.gs 48 false 51 (.ck (.t 50)),.gs 48 false 52 (.off (.t 51) 0),.gs
  48 false 53 (.off (.t 52) 0),.gs 48 false 54 (.ld (.t 53)),.gs 48 false 55 (.cm .ge (.t 49) (.t 54)),.s 56 (.pick (.t 48) (.c (.b true)) (.t 55))]) (.cond
  (.t 56) (.goto 1) .skip))) (.seq (.reg [] [kM 57 0,kM 58 6,kC 59 57,kO 60 59 13,.n (.st (.t 60) (.t 58))]) (.seq (.seq (.reg [] [kM 61 0,kC 62 61,kO 63
  62 14,kL 64 63,.s 65 (.ar .sub (.t 64) (kI 1)),kC 66 61,kO 67 66 14,.n (.st (.t 67) (.t 65))]) (.seq (.reg [72] [kM 68 0,kC 69 68,kO 70 69 14,kL 71 70,
  .s 72 (.cm .eq (.t 71) (kI 0))]) (.cond (.t 72) (.seq (.reg [4] [kM 73 0,kM 74 6,kM 75 0,kC 76 75,kO 77 76 15,kL 78 77,.s 79 (.call 353 [(.t 73),(.t
  74),(.t 78)]),kM 4 79]) .ret) .skip))) (.seq (.seq (.reg [4] [.s 4 (.mv (.c (.b false)))]) .ret) (.seq (.label 1) (.seq (.reg [4] [kM 80 0,.s 81 (.call 354
  [(.t 80),(kI 10)]),kM 4 81]) .ret)))))))))))))) lpFuel (λ cl e3 s4=>nx (λ e5 s6=>nx (λ e7 s8=>ko e7 0 λ v9=>onp v9 λ b10 o11=>ldK b10
  (Nat.add o11 12) s8 λ v12=>oni v12 λ n13=>nx (λ e14 s15=>jn (λ e18 s19=>ko e18 0 λ v20=>ko e18 1 λ v21=>ko e18 0 λ v22=>onp v22
  λ b23 o24=>ldK b23 (Nat.add o24 9) s19 λ v25=>bnr (cl 351 [v20,v21,v25,(.i (.ofNat 1))] s19) λ v26 s27=>extK v26 0 λ v28=>extK v26 1 λ
  v29=>nx (λ e30 s31=>ko e30 7 λ v32=>onBx v32 λ c33=>nx (λ e34 s35=>jn (λ e38 s39=>ko e38 0 λ v40=>ko e38 5 λ v41=>bnr (cl 352
  [v40,v41] s39) λ v42 s43=>onBx v42 λ c44=>nx (λ e45 s46=>.ok .r e45 s46) (kst e38 4 (.b (neg c44))) s43) λ k36=>ko e34 24 λ v37=>cdK v37
  (.ok (.g 1) e34 s35) (k36 e34 s35)) (kst e30 24 (.b (neg c33))) s31) (kst (kst e18 5 v28) 7 v29) s27) λ k16=>ko e14 12 λ v17=>cdK v17 (.ok (.g 0)
  e14 s15) (k16 e14 s15)) (kst e7 12 (.b (cmI .eq n13 (.ofNat 1)))) s8) (kst (kst e5 6 (.i (.ofNat 0))) 7 (.b true)) s6) (kst e3 5 (.z 0 0)) s4) cl e1 s2)
  (idk)) (kst env 4 (.b false)) s
theorem fe308 : rf308 = fastOf kf308 := by kernel_rfl
def rf310 : RFun := .mk 2 [.t 4] λ cl env s=>nx (λ e1 s2=>ko e1 0 λ v3=>ko e1 1 λ v4=>bnr (cl 78 [v3,v4] s2) λ v5 s6=>oni v5 λ n7=>gdK (.b (cmI .ne n7 (.ofNat 2))) false (λ k8=>
  ko e1 0 λ v11=>k8 v11 s6) s6 λ v9 s10=>gdK (.b (cmI .ne n7 (.ofNat 2))) false (λ k12=>onp v9 λ b15 o16=>k12 (.p b15 o16) s10) s10 λ v13 s14
 =>gdK (.b (cmI .ne n7 (.ofNat 2))) false (λ k17=>onp v13 λ b20 o21=>k17 (.p b20 (Nat.add o21 0)) s14) s14 λ v18 s19=>gdK (.b (cmI .ne n7 (.ofNat
  2))) false (λ k22=>onp v18 λ b25 o26=>ldK b25 o26 s19 λ v27=>k22 v27 s19) s19 λ v23 s24=>gdK (.b (cmI .ne n7 (.ofNat 2))) false (λ k28=>ko
  e1 1 λ v31=>k28 v31 s24) s24 λ v29 s30=>gdK (.b (cmI .ne n7 (.ofNat 2))) false (λ k32=>onSlx v23 λ b35 o36 q37=>oni v29 λ n39=>onON (nat
  n39) λ i38=>ifX (Nat.blt i38 q37) (k32 (.p b35 (Nat.add o36 (Nat.mul i38 3))) s30)) s30 λ v33 s34=>gdK (.b (cmI .ne n7 (.ofNat 2))) false (λ k40=>
  onp v33 λ b43 o44=>k40 (.p b43 (Nat.add o44 1)) s34) s34 λ v41 s42=>gdK (.b (cmI .ne n7 (.ofNat 2))) false (λ k45=>onp v41 λ b48 o49=>ldK b48
  o49 s42 λ v50=>k45 v50 s42) s42 λ v46 s47=>pkK (.b (cmI .ne n7 (.ofNat 2))) (.ok (.b true)) (.ok v46) λ v51=>nx (λ e52 s53=>jn (λ e58 s59=>
  ko e58 0 λ v60=>onp v60 λ b61 o62=>ldK b61 (Nat.add o62 0) s59 λ v63=>ko e58 1 λ v64=>onSlx v63 λ b65 o66 q67=>oni v64 λ n69=>onON
  (nat n69) λ i68=>ifX (Nat.blt i68 q67) (bnr (stV b65 (Nat.add (Nat.add o66 (Nat.mul i68 3)) 1) (.b true) s59) λ v70 s71=>nx (λ e72 s73=>nx (λ
  e74 s75=>.ok .r e74 s75) (kst e72 4 (.b true)) s73) e58 s71)) λ k54=>ko e52 18 λ v55=>cdK v55 (nx (λ e56 s57=>.ok .r e56 s57) (kst e52 4 (.b
  false)) s53) (k54 e52 s53)) (kst e1 18 v51) s47) (kst env 4 (.b false)) s
theorem fe310 : rf310 = fastOf kf310 := by kernel_rfl
def rf311 : RFun := .mk 2 [.cn 4 7,.t 5] λ cl env s=>bnr (eNew [.i (.ofNat 0),.i (.ofNat 0),.i (.ofNat 0),.i (.ofNat 0),.i (.ofNat 0),.i (.ofNat 0),.ns] .nil s cl) λ v1 s2=>nx (λ e3 s4=>ko e3 1 λ
  v5=>oni v5 λ n6=>nx (λ e7 s8=>jn (λ e21 s22=>ko e21 0 λ v23=>onp v23 λ b24 o25=>ldK b24 (Nat.add o25 0) s22 λ v26=>ko e21 1 λ v27
 =>onSlx v26 λ b28 o29 q30=>oni v27 λ n32=>onON (nat n32) λ i31=>ifX (Nat.blt i31 q30) (bnr (ldnP 7 b28 (Nat.add (Nat.add o29 (Nat.mul i31 8))
  0) s22) λ v33 s34=>bnr (eNew [.i (.ofNat 0),.i (.ofNat 0),.i (.ofNat 0),.i (.ofNat 0),.i (.ofNat 0),.i (.ofNat 0),.ns] .nil s34 cl) λ v35 s36=>
  onp v35 λ b37 o38=>onAx v33 λ l39=>bnr (stnA 7 b37 o38 l39 s36) λ v40 s41=>nx (λ e42 s43=>ko e42 6 λ v44=>onp v44 λ b45 o46=>ldK
  b45 (Nat.add o46 6) s43 λ v47=>bnr (cl 334 [v47] s43) λ v48 s49=>ko e42 6 λ v50=>onp v50 λ b51 o52=>bnr (stV b51 (Nat.add o52 6) v48 s49)
  λ v53 s54=>nx (λ e55 s56=>ko e55 6 λ v57=>onp v57 λ b58 o59=>bnr (ldnP 7 b58 o59 s56) λ v60 s61=>ko e55 4 λ v62=>onp v62 λ b63
  o64=>onAx v60 λ l65=>bnr (stnA 7 b63 o64 l65 s61) λ v66 s67=>nx (λ e68 s69=>.ok .r e68 s69) (kst e55 5 (.b true)) s67) e42 s54) (kst e21 6
  v35) s41)) λ k9=>ko e7 8 λ v10=>cdK v10 (bnr (oL (fill .nil [.i (.ofNat 0),.i (.ofNat 0),.i (.ofNat 0),.i (.ofNat 0),.i (.ofNat 0),.i (.ofNat
  0),.ns] .nil) okA s8) λ v11 s12=>ko e7 4 λ v13=>onp v13 λ b14 o15=>onAx v11 λ l16=>bnr (stnA 7 b14 o15 l16 s12) λ v17 s18=>nx (λ e19
  s20=>.ok .r e19 s20) (kst e7 5 (.b false)) s18) (k9 e7 s8)) (kst e3 8 (.b (cmI .lt n6 (.ofNat 0)))) s4) (kst (kst env 4 v1) 5 (.b false)) s2
theorem fe311 : rf311 = fastOf kf311 := by kernel_rfl
def rf312 : RFun := .mk 2 [.t 4] λ cl env s=>ko env 1 λ v1=>bnr (boxV v1 s) λ v2 s3=>nx (λ e4 s5=>ko e4 0 λ v6=>onp v6 λ b7 o8=>ldK b7 (Nat.add o8 0) s5 λ v9=>ko e4 3 λ v10=>
  bnr (cl 356 [v9,(.fn 357 [] [v10])] s5) λ v11 s12=>nx (λ e13 s14=>.ok .r e13 s14) (kst e4 4 v11) s12) (kst (kst env 3 v2) 4 (.i (.ofNat 0))) s3
theorem fe312 : rf312 = fastOf kf312 := by kernel_rfl
def rf313 : RFun := .mk 3 [.t 6] λ cl env s=>nx (λ e1 s2=>ko e1 0 λ v3=>ko e1 1 λ v4=>ko e1 2 λ v5=>ko e1 0 λ v6=>bnr (lenV v6 s2) λ v7 s8=>bnr (eKp (.q (.sl3 (.c v3) 8 (.c v4)
  (.c v5) (.c v7))) .nil s8 cl) λ v9 s10=>nx (λ e11 s12=>ko e11 1 λ v13=>ko e11 2 λ v14=>oni v13 λ n15=>oni v14 λ n16=>nx (λ e17 s18
 =>jn (λ e24 s25=>ko e24 0 λ v26=>bnr (lenV v26 s25) λ v27 s28=>nx (λ e29 s30=>ko e29 0 λ v31=>ko e29 1 λ v32=>bnr (eKp (.q (.sli
  (.c v31) 8 .no (.ok (.c v32)))) .nil s30 cl) λ v33 s34=>ko e29 0 λ v35=>ko e29 2 λ v36=>bnr (eKp (.q (.sli (.c v35) 8 (.ok (.c v36)) .no)) .nil
  s30 cl) λ v37 s38=>bnr (ap0 8 80 (.ok v37) v33 s30) λ v39 s40=>nx (λ e41 s42=>ko e41 0 λ v43=>ko e41 0 λ v44=>bnr (lenV v44 s42) λ
  v45 s46=>ko e41 7 λ v47=>bnr (eKp (.q (.sli (.c v43) 8 (.ok (.c v45)) (.ok (.c v47)))) .nil s46 cl) λ v48 s49=>bnr (eKp (.q (.clr [.i (.ofNat 0),
  .i (.ofNat 0),.i (.ofNat 0),.i (.ofNat 0),.i (.ofNat 0),.i (.ofNat 0),.ns,.b false] (.c v48))) .nil s49 cl) λ v50 s51=>nx (λ e52 s53=>ko e52 0
  λ v54=>nx (λ e55 s56=>.ok .r e55 s56) (kst e52 6 v54) s53) e41 s51) (kst e29 0 v39) s40) (kst e24 7 v27) s28) λ k19=>ko e17 16 λ v20=>cdK
  v20 (ko e17 0 λ v21=>nx (λ e22 s23=>.ok .r e22 s23) (kst e17 6 v21) s18) (k19 e17 s18)) (kst e11 16 (.b (cmI .eq n15 n16))) s12) e1 s10) (kst env 6
  (.ns)) s
theorem fe313 : rf313 = fastOf kf313 := by kernel_rfl
def rf314 : RFun := .mk 5 [.cn 10 2,.t 11] λ cl env s=>ko env 0 λ v1=>bnr (boxV v1 s) λ v2 s3=>bnr (eNew [.b false,.ns] .nil s3 cl) λ v4 s5=>nx (λ e6 s7=>bindX (scR (hC.hAt (.seq (.reg [12,13]
  [kW 18 5 9,kM 19 4,.s 20 (.call 358 [(.t 18),(.t 19)]),kM 17 20,kE 21 17 0,kE 22 17 1,kM 12 21,kM 13 22]) (.seq (.reg [14,15] [kW 24 5 9,kM 25 1,.s
  26 (.call 173 [(.t 24),(.t 25)]),kM 23 26,kE 27 23 0,kE 28 23 1,.s 14 (.new [.b false,.ns]),.n (.stn (.t 14) (.t 27) 2),kM 15 28]) (.seq (.reg [16] [.s
  16 (.mv (kI 0))]) (.seq (.seq (.reg [34] [kW 29 5 9,.s 30 (.call 115 [(.t 29)]),.s 31 (.cm .ne (.t 30) (kI 0)),kM 32 31,.gs 32 false 33 (.mv (.t 12)),.s
  34 (.pick (.t 32) (.c (.b true)) (.t 33))]) (.cond (.t 34) (.seq (.reg [16] [.s 16 (.mv (kI 1))]) (.goto 0)) .skip)) (.seq (.seq (.reg [42] [kM 35 15,.s 36
  (.not (.t 35)),kM 37 36,.gs 37 false 38 (.off (.t 14) 0),.gs 37 false 39 (.ld (.t 38)),.gs 37 false 40 (.mv (.t 3)),.gs 37 false 41 (.bne (.t 39) (.t
  40)),.s 42 (.pick (.t 37) (.c (.b true)) (.t 41))]) (.cond (.t 42) (.seq (.reg [16] [.s 16 (.mv (kI 4))]) (.goto 0)) .skip)) (.seq (.seq (.reg [46] [kW 43 14
  2,kM 44 2,.s 45 (.call 259 [(.t 43),(.t 44)]),.s 46 (.cm .lt (.t 45) (kI 0))]) (.cond (.t 46) (.seq (.reg [16] [.s 16 (.mv (kI 5))]) (.goto 0)) .skip))
  (.seq (.seq (.reg [55] [kM 47 4,.s 48 (.len (.t 47)),kW 49 14 2,kM 50 2,.s 51 (.call 259 [(.t 49),(.t 50)]),.s 52 (.cm .ne (.t 48) (.t 51)),kM 53 52,
  .gs 53 false 54 (.mv (.t 13)),.s 55 (.pick (.t 53) (.c (.b true)) (.t 54))]) (.cond (.t 55) (.reg [16] [.s 16 (.mv (kI 2))]) .skip)) (.seq (.label 0) (.seq
  (.reg [11] [kW 56 14 2,kM 57 16,.n (.stn (.t 10) (.t 56) 2),kM 11 57]) .ret)))))))))) lpFuel (λ cl e8 s9=>ko e8 5 λ v10=>onp v10 λ b11 o12=>
  bnr (ldnP 9 b11 o12 s9) λ v13 s14=>ko e8 4 λ v15=>bnr (cl 358 [v13,v15] s14) λ v16 s17=>extK v16 0 λ v18=>extK v16 1 λ v19=>nx (λ
  e20 s21=>ko e20 5 λ v22=>onp v22 λ b23 o24=>bnr (ldnP 9 b23 o24 s21) λ v25 s26=>ko e20 1 λ v27=>bnr (cl 173 [v25,v27] s26) λ v28 s29
 =>extK v28 0 λ v30=>extK v28 1 λ v31=>bnr (eNew [.b false,.ns] .nil s29 cl) λ v32 s33=>onp v32 λ b34 o35=>onAx v30 λ l36=>bnr (stnA
  2 b34 o35 l36 s33) λ v37 s38=>nx (λ e39 s40=>nx (λ e41 s42=>ko e41 5 λ v43=>onp v43 λ b44 o45=>bnr (ldnP 9 b44 o45 s42) λ v46 s47=>
  bnr (cl 115 [v46] s47) λ v48 s49=>oni v48 λ n50=>gdK (.b (cmI .ne n50 (.ofNat 0))) false (λ k51=>ko e41 12 λ v54=>k51 v54 s49) s49 λ v52
  s53=>pkK (.b (cmI .ne n50 (.ofNat 0))) (.ok (.b true)) (.ok v52) λ v55=>nx (λ e56 s57=>jn (λ e62 s63=>ko e62 15 λ v64=>onBx v64 λ c65=>
  gdK (.b (neg c65)) false (λ k66=>ko e62 14 λ v69=>onp v69 λ b70 o71=>k66 (.p b70 (Nat.add o71 0)) s63) s63 λ v67 s68=>gdK (.b (neg c65)) false
  (λ k72=>onp v67 λ b75 o76=>ldK b75 o76 s68 λ v77=>k72 v77 s68) s68 λ v73 s74=>gdK (.b (neg c65)) false (λ k78=>ko e62 3 λ v81=>k78 v81
  s74) s74 λ v79 s80=>gdK (.b (neg c65)) false (λ k82=>onBx v73 λ c85=>onBx v79 λ c86=>k82 (.b (neg (eqB c85 c86))) s80) s80 λ v83 s84=>pkK
  (.b (neg c65)) (.ok (.b true)) (.ok v83) λ v87=>nx (λ e88 s89=>jn (λ e94 s95=>ko e94 14 λ v96=>onp v96 λ b97 o98=>bnr (ldnP 2 b97 o98
  s95) λ v99 s100=>ko e94 2 λ v101=>bnr (cl 259 [v99,v101] s100) λ v102 s103=>oni v102 λ n104=>nx (λ e105 s106=>jn (λ e111 s112=>ko
  e111 4 λ v113=>bnr (lenV v113 s112) λ v114 s115=>ko e111 14 λ v116=>onp v116 λ b117 o118=>bnr (ldnP 2 b117 o118 s115) λ v119 s120=>ko
  e111 2 λ v121=>bnr (cl 259 [v119,v121] s120) λ v122 s123=>oni v114 λ n124=>oni v122 λ n125=>gdK (.b (cmI .ne n124 n125)) false (λ k126
 =>ko e111 13 λ v129=>k126 v129 s123) s123 λ v127 s128=>pkK (.b (cmI .ne n124 n125)) (.ok (.b true)) (.ok v127) λ v130=>nx (λ e131 s132=>jn
  (λ e135 s136=>(λ e137 s138=>ko e137 14 λ v139=>onp v139 λ b140 o141=>bnr (ldnP 2 b140 o141 s138) λ v142 s143=>ko e137 16 λ v144=>ko
  e137 10 λ v145=>onp v145 λ b146 o147=>onAx v142 λ l148=>bnr (stnA 2 b146 o147 l148 s143) λ v149 s150=>nx (λ e151 s152=>.ok .r e151 s152)
  (kst e137 11 v144) s150) e135 s136) λ k133=>ko e131 55 λ v134=>cdK v134 (nx (k133) (kst e131 16 (.i (.ofNat 2))) s132) (k133 e131 s132)) (kst e111
  55 v130) s128) λ k107=>ko e105 46 λ v108=>cdK v108 (nx (λ e109 s110=>.ok (.g 0) e109 s110) (kst e105 16 (.i (.ofNat 5))) s106) (k107 e105 s106))
  (kst e94 46 (.b (cmI .lt n104 (.ofNat 0)))) s103) λ k90=>ko e88 42 λ v91=>cdK v91 (nx (λ e92 s93=>.ok (.g 0) e92 s93) (kst e88 16 (.i (.ofNat
  4))) s89) (k90 e88 s89)) (kst e62 42 v87) s84) λ k58=>ko e56 34 λ v59=>cdK v59 (nx (λ e60 s61=>.ok (.g 0) e60 s61) (kst e56 16 (.i (.ofNat 1)))
  s57) (k58 e56 s57)) (kst e41 34 v55) s53) (kst e39 16 (.i (.ofNat 0))) s40) (kst (kst e20 14 v32) 15 v31) s38) (kst (kst e8 12 v18) 13 v19) s17) cl e6
  s7) (idk)) (kst (kst (kst env 5 v2) 10 v4) 11 (.i (.ofNat 0))) s5
theorem fe314 : rf314 = fastOf kf314 := by kernel_rfl
def rf315 : RFun := .mk 2 [.t 4] λ cl env s=>nx (λ e1 s2=>ko e1 0 λ v3=>oni v3 λ n4=>gdK (.b (cmI .lt n4 (.ofNat 0))) false (λ k5=>ko e1 0 λ v8=>k5 v8 s2) s2 λ v6 s7=>gdK (.b (cmI
  .lt n4 (.ofNat 0))) false (λ k9=>oni v6 λ n12=>k9 (.b (cmI .gt n12 (.ofNat 1099511627776))) s7) s7 λ v10 s11=>pkK (.b (cmI .lt n4 (.ofNat 0)))
  (.ok (.b true)) (.ok v10) λ v13=>gdK v13 false (λ k14=>ko e1 1 λ v17=>k14 v17 s11) s11 λ v15 s16=>gdK v13 false (λ k18=>oni v15 λ n21=>
  k18 (.b (cmI .lt n21 (.ofNat 0))) s16) s16 λ v19 s20=>pkK v13 (.ok (.b true)) (.ok v19) λ v22=>gdK v22 false (λ k23=>ko e1 1 λ v26=>k23 v26
  s20) s20 λ v24 s25=>gdK v22 false (λ k27=>oni v24 λ n30=>k27 (.b (cmI .gt n30 (.ofNat 1099511627776))) s25) s25 λ v28 s29=>pkK v22 (.ok (.b
  true)) (.ok v28) λ v31=>nx (λ e32 s33=>jn (λ e38 s39=>ko e38 0 λ v40=>bnr (eKp (.q (.cif (.c v40))) .nil s39 cl) λ v41 s42=>ko e38 1 λ
  v43=>bnr (eKp (.q (.cif (.c v43))) .nil s42 cl) λ v44 s45=>bnr (eKp (.q (.cplx (.c v41) (.c v44))) .nil s45 cl) λ v46 s47=>nx (λ e48 s49=>.ok
  .r e48 s49) (kst e38 4 v46) s47) λ k34=>ko e32 18 λ v35=>cdK v35 (nx (λ e36 s37=>.ok .r e36 s37) (kst e32 4 (.z 0 0)) s33) (k34 e32 s33)) (kst
  e1 18 v31) s29) (kst env 4 (.z 0 0)) s
theorem fe315 : rf315 = fastOf kf315 := by kernel_rfl
def rf316 : RFun := .mk 1 [.t 2] λ cl env s=>nx (λ e1 s2=>nx (λ e3 s4=>bkK (bindX (lpR (λ cl e5 s6=>ko e5 3 λ v7=>ko e5 0 λ v8=>bnr (lenV v8 s6) λ v9 s10=>oni v7 λ n11=>oni
  v9 λ n12=>nx (λ e13 s14=>jn (λ e17 s18=>bkK (ko e17 0 λ v19=>ko e17 3 λ v20=>oni v20 λ n21=>frcI (wrapI (arI .sub n21 (.ofNat 1))) λ
  n22=>onSlx v19 λ b23 o24 q25=>onON (nat n22) λ i26=>ifX (Nat.blt i26 q25) (ldK b23 (Nat.add o24 (Nat.mul i26 1)) s18 λ v27=>oni v27 λ n28=>
  gdK (.b (cmI .eq n28 (.ofNat 9223372036854775807))) false (λ k29=>ko e17 0 λ v32=>k29 v32 s18) s18 λ v30 s31=>gdK (.b (cmI .eq n28 (.ofNat
  9223372036854775807))) false (λ k33=>ko e17 3 λ v36=>k33 v36 s18) s18 λ v34 s35=>gdK (.b (cmI .eq n28 (.ofNat 9223372036854775807))) false (λ k37
 =>onSlx v30 λ b40 o41 q42=>oni v34 λ n44=>onON (nat n44) λ i43=>ifX (Nat.blt i43 q42) (k37 (.p b40 (Nat.add o41 (Nat.mul i43 1))) s18)) s18 λ
  v38 s39=>gdK (.b (cmI .eq n28 (.ofNat 9223372036854775807))) false (λ k45=>onp v38 λ b48 o49=>ldK b48 o49 s18 λ v50=>k45 v50 s18) s18 λ v46
  s47=>gdK (.b (cmI .eq n28 (.ofNat 9223372036854775807))) false (λ k51=>ko e17 0 λ v54=>k51 v54 s18) s18 λ v52 s53=>gdK (.b (cmI .eq n28 (.ofNat
  9223372036854775807))) false (λ k55=>ko e17 3 λ v58=>k55 v58 s18) s18 λ v56 s57=>gdK (.b (cmI .eq n28 (.ofNat 9223372036854775807))) false (λ k59
 =>oni v56 λ n62=>frcI (wrapI (arI .sub n62 (.ofNat 1))) λ n63=>k59 (.i n63) s18) s18 λ v60 s61=>gdK (.b (cmI .eq n28 (.ofNat
  9223372036854775807))) false (λ k64=>onSlx v52 λ b67 o68 q69=>oni v60 λ n71=>onON (nat n71) λ i70=>ifX (Nat.blt i70 q69) (k64 (.p b67 (Nat.add
  o68 (Nat.mul i70 1))) s18)) s18 λ v65 s66=>gdK (.b (cmI .eq n28 (.ofNat 9223372036854775807))) false (λ k72=>onp v65 λ b75 o76=>ldK b75 o76 s18
  λ v77=>k72 v77 s18) s18 λ v73 s74=>gdK (.b (cmI .eq n28 (.ofNat 9223372036854775807))) false (λ k78=>oni v73 λ n81=>frcI (wrapI (arI .add n81
  (.ofNat 1))) λ n82=>k78 (.i n82) s18) s18 λ v79 s80=>gdK (.b (cmI .eq n28 (.ofNat 9223372036854775807))) false (λ k83=>oni v46 λ n86=>oni v79
  λ n87=>k83 (.b (cmI .ne n86 n87)) s18) s18 λ v84 s85=>pkK (.b (cmI .eq n28 (.ofNat 9223372036854775807))) (.ok (.b true)) (.ok v84) λ v88=>nx (λ
  e89 s90=>jn (idk) λ k91=>ko e89 28 λ v92=>cdK v92 (nx (λ e93 s94=>.ok .r e93 s94) (kst e89 2 (.b false)) s90) (k91 e89 s90)) (kst e17 28 v88)
  s18)) 1 (λ e95 s96=>ko e95 3 λ v97=>oni v97 λ n98=>frcI (wrapI (arI .add n98 (.ofNat 1))) λ n99=>nx (idk) (kst e95 3 (.i n99)) s96)) λ k15
 =>ko e13 7 λ v16=>cdK v16 (k15 e13 s14) (.ok (.x 0) e13 s14)) (kst e5 7 (.b (cmI .lt n11 n12))) s10) lpFuel cl e3 s4) (idk)) 0 (λ e100 s101=>nx (λ
  e102 s103=>.ok .r e102 s103) (kst e100 2 (.b true)) s101)) (kst e1 3 (.i (.ofNat 1))) s2) (kst env 2 (.b false)) s
theorem fe316 : rf316 = fastOf kf316 := by kernel_rfl
def rf317 : RFun := .mk 3 [] λ cl env s=>ko env 0 λ v1=>bnr (boxV v1 s) λ v2 s3=>nx (λ e4 s5=>ko e4 3 λ v6=>onp v6 λ b7 o8=>ldK b7 (Nat.add o8 1) s5 λ v9=>bnr (lenV v9 s5)
  λ v10 s11=>nx (λ e12 s13=>bkK (bindX (lpR (λ cl e14 s15=>ko e14 14 λ v16=>ko e14 13 λ v17=>oni v16 λ n18=>oni v17 λ n19=>nx (λ
  e20 s21=>jn (λ e24 s25=>bkK (ko e24 14 λ v26=>ko e24 12 λ v27=>ko e24 14 λ v28=>onSlx v27 λ b29 o30 q31=>oni v28 λ n33=>onON (nat
  n33) λ i32=>ifX (Nat.blt i32 q31) (ldK b29 (Nat.add o30 (Nat.mul i32 1)) s25 λ v34=>nx (λ e35 s36=>ko e35 3 λ v37=>onp v37 λ b38 o39=>
  bnr (ldnP 2 b38 o39 s36) λ v40 s41=>ko e35 6 λ v42=>bnr (cl 260 [v40,v42] s41) λ v43 s44=>extK v43 0 λ v45=>extK v43 1 λ v46=>extK v43
  2 λ v47=>nx (λ e48 s49=>ko e48 10 λ v50=>gdK v50 true (λ k51=>ko e48 8 λ v54=>k51 v54 s49) s49 λ v52 s53=>gdK v50 true (λ k55=>ko
  e48 1 λ v58=>k55 v58 s53) s53 λ v56 s57=>gdK v50 true (λ k59=>oni v52 λ n62=>oni v56 λ n63=>k59 (.b (cmI .eq n62 n63)) s57) s57 λ v60
  s61=>pkK v50 (.ok v60) (.ok (.b false)) λ v64=>nx (λ e65 s66=>jn (idk) λ k67=>ko e65 31 λ v68=>cdK v68 (ko e65 2 λ v69=>ko e65 9 λ v70
 =>ko e65 7 λ v71=>bnr (cl 323 [v71] s66) λ v72 s73=>onp v69 λ b74 o75=>bnr (eKp (.q (.iar (.c (.p b74 o75)) (.c v70) 1 8)) .nil s66 cl) λ
  v76 s77=>onp v76 λ b78 o79=>bnr (stV b78 o79 v72 s66) λ v80 s81=>nx (k67) e65 s81) (k67 e65 s66)) (kst e48 31 v64) s61) (kst (kst (kst e35 8
  v45) 9 v46) 10 v47) s44) (kst (kst e24 6 v26) 7 v34) s25)) 1 (λ e82 s83=>ko e82 14 λ v84=>oni v84 λ n85=>frcI (wrapI (arI .add n85 (.ofNat 1)))
  λ n86=>nx (idk) (kst e82 14 (.i n86)) s83)) λ k22=>ko e20 15 λ v23=>cdK v23 (k22 e20 s21) (.ok (.x 0) e20 s21)) (kst e14 15 (.b (cmI .lt n18
  n19))) s15) lpFuel cl e12 s13) (idk)) 0 (idk)) (kst (kst (kst e4 12 v9) 13 v10) 14 (.i (.ofNat 0))) s11) (kst env 3 v2) s3
theorem fe317 : rf317 = fastOf kf317 := by kernel_rfl
def rf318 : RFun := .mk 4 [.t 8] λ cl env s=>ko env 0 λ v1=>bnr (boxV v1 s) λ v2 s3=>ko env 3 λ v4=>bnr (boxV v4 s3) λ v5 s6=>nx (λ e7 s8=>ko e7 7 λ v9=>onp v9 λ b10 o11=>
  bnr (ldnP 8 b10 o11 s8) λ v12 s13=>nx (λ e14 s15=>bkK (bindX (lpR (λ cl e16 s17=>ko e16 14 λ v18=>oni v18 λ n19=>nx (λ e20 s21=>jn
  (λ e24 s25=>bkK (ko e24 14 λ v26=>ko e24 13 λ v27=>ko e24 14 λ v28=>bnr (eKp (.q (.ixa (.c v27) (.c v28) 8)) .nil s25 cl) λ v29 s30=>nx
  (λ e31 s32=>ko e31 4 λ v33=>onp v33 λ b34 o35=>bnr (ldnP 9 b34 o35 s32) λ v36 s37=>ko e31 2 λ v38=>ko e31 9 λ v39=>bnr (cl 254
  [v36,v38,v39] s37) λ v40 s41=>extK v40 0 λ v42=>extK v40 1 λ v43=>nx (λ e44 s45=>ko e44 1 λ v46=>ko e44 11 λ v47=>ko e44 10 λ v48
 =>bnr (oL (fill (.cons 0 1 (.c v47) (.cons 1 1 (.c v48) .nil)) [.i (.ofNat 0),.z 0 0] .nil) okA s45) λ v49 s50=>bnr (oL (fill (.cons 0 2 (.c v49)
  .nil) (repL [.i (.ofNat 0),.z 0 0] 1) .nil) (bsl1 1 (lenL [.i (.ofNat 0),.z 0 0])) s50) λ v51 s52=>bnr (ap0 2 24 (.ok v51) v46 s52) λ v53 s54=>nx
  (idk) (kst e44 1 v53) s54) (kst e31 11 v42) s41) (kst (kst e24 9 v26) 10 v29) s30) 1 (λ e55 s56=>ko e55 14 λ v57=>oni v57 λ n58=>frcI (wrapI
  (arI .add n58 (.ofNat 1))) λ n59=>nx (idk) (kst e55 14 (.i n59)) s56)) λ k22=>ko e20 15 λ v23=>cdK v23 (k22 e20 s21) (.ok (.x 0) e20 s21)) (kst
  e16 15 (.b (cmI .lt n19 (.ofNat 8)))) s17) lpFuel cl e14 s15) (idk)) 0 (λ e60 s61=>ko e60 1 λ v62=>nx (λ e63 s64=>.ok .r e63 s64) (kst e60 8 v62)
  s61)) (kst (kst e7 13 v12) 14 (.i (.ofNat 0))) s13) (kst (kst (kst env 4 v2) 7 v5) 8 (.ns)) s6
theorem fe318 : rf318 = fastOf kf318 := by kernel_rfl
def rf319 : RFun := .mk 2 [.t 4] λ cl env s=>nx (λ e1 s2=>bkK (ko e1 0 λ v3=>oni v3 λ n4=>nx (λ e5 s6=>jn (idk) λ k7=>ko e5 5 λ v8=>cdK v8 (nx (λ e9 s10=>.ok .r e9 s10) (kst e5
  4 (.i (.ofNat 0))) s6) (ko e5 1 λ v11=>bnr (cl 316 [v11] s6) λ v12 s13=>nx (λ e14 s15=>jn (k7) λ k16=>ko e14 8 λ v17=>cdK v17 (nx (λ
  e18 s19=>.ok .r e18 s19) (kst e14 4 (.i (.ofNat 2))) s15) (k16 e14 s15)) (kst e5 8 v12) s13)) (kst e1 5 (.b (cmI .le n4 (.ofNat 4)))) s2) 0 (λ e20 s21
 =>nx (λ e22 s23=>.ok .r e22 s23) (kst e20 4 (.i (.ofNat 1))) s21)) (kst env 4 (.i (.ofNat 0))) s
theorem fe319 : rf319 = fastOf kf319 := by kernel_rfl
def rf320 : RFun := .mk 1 [.t 2] λ cl env s=>nx (λ e1 s2=>ko e1 0 λ v3=>oni v3 λ n4=>gdK (.b (cmI .lt n4 (.ofNat 1))) false (λ k5=>ko e1 0 λ v8=>k5 v8 s2) s2 λ v6 s7=>gdK (.b (cmI
  .lt n4 (.ofNat 1))) false (λ k9=>oni v6 λ n12=>k9 (.b (cmI .gt n12 (.ofNat 512))) s7) s7 λ v10 s11=>pkK (.b (cmI .lt n4 (.ofNat 1))) (.ok (.b
  true)) (.ok v10) λ v13=>nx (λ e14 s15=>jn (λ e20 s21=>ko e20 0 λ v22=>bnr (cl 335 [v22,(.i (.ofNat 8))] s21) λ v23 s24=>nx (λ e25 s26
 =>.ok .r e25 s26) (kst e20 2 v23) s24) λ k16=>ko e14 8 λ v17=>cdK v17 (nx (λ e18 s19=>.ok .r e18 s19) (kst e14 2 (.i (.ofNat 0))) s15) (k16 e14
  s15)) (kst e1 8 v13) s11) (kst env 2 (.i (.ofNat 0))) s
theorem fe320 : rf320 = fastOf kf320 := by kernel_rfl
def rf322 : RFun := .mk 5 [.cn 10 8] λ cl env s=>bnr (eNew [.z 0 0,.z 0 0,.z 0 0,.z 0 0,.z 0 0,.z 0 0,.z 0 0,.z 0 0] .nil s cl) λ v1 s2=>nx (λ e3 s4=>bnr (cl 123 [] s4) λ v5 s6=>ko e3 0
  λ v7=>bnr (cl 315 [v7,(.i (.ofNat 0))] s6) λ v8 s9=>ko e3 1 λ v10=>bnr (cl 226 [v10] s9) λ v11 s12=>ko e3 2 λ v13=>bnr (cl 226 [v13]
  s12) λ v14 s15=>bnr (oL (fill (.cons 0 1 (.c v5) (.cons 1 1 (.c v8) (.cons 2 1 (.c v11) (.cons 3 1 (.c v14) .nil)))) [.z 0 0,.z 0 0,.z 0 0,.z 0 0,.z
  0 0,.z 0 0,.z 0 0,.z 0 0] .nil) okA s15) λ v16 s17=>bnr (eNew [.z 0 0,.z 0 0,.z 0 0,.z 0 0,.z 0 0,.z 0 0,.z 0 0,.z 0 0] .nil s17 cl) λ v18
  s19=>onp v18 λ b20 o21=>onAx v16 λ l22=>bnr (stnA 8 b20 o21 l22 s19) λ v23 s24=>nx (λ e25 s26=>ko e25 2 λ v27=>nx (λ e28 s29=>bkK
  (ko e28 21 λ v30=>oni v30 λ n31=>nx (λ e32 s33=>jn (idk) λ k34=>ko e32 22 λ v35=>cdK v35 (nx (λ e36 s37=>bkK (bindX (lpR (λ cl e38
  s39=>ko e38 24 λ v40=>oni v40 λ n41=>nx (λ e42 s43=>jn (λ e46 s47=>bkK (ko e46 24 λ v48=>nx (λ e49 s50=>ko e49 12 λ v51=>oni
  v51 λ n52=>frcI (wrapI (arI .add (.ofNat 4) n52)) λ n53=>bnr (cl 123 [] s50) λ v54 s55=>ko e49 11 λ v56=>bnr (eKp (.q (.iar (.c v56) (.c
  (.i n53)) 1 8)) .nil s55 cl) λ v57 s58=>onp v57 λ b59 o60=>bnr (stV b59 o60 v54 s58) λ v61 s62=>nx (λ e63 s64=>ko e63 12 λ v65=>oni v65
  λ n66=>frcI (wrapI (arI .add n66 (.ofNat 1))) λ n67=>ko e63 3 λ v68=>bnr (lenV v68 s64) λ v69 s70=>oni v69 λ n71=>nx (λ e72 s73=>jn
  (idk) λ k74=>ko e72 35 λ v75=>cdK v75 (ko e72 12 λ v76=>oni v76 λ n77=>frcI (wrapI (arI .add (.ofNat 4) n77)) λ n78=>ko e72 3 λ v79=>
  ko e72 12 λ v80=>oni v80 λ n81=>frcI (wrapI (arI .add n81 (.ofNat 1))) λ n82=>onSlx v79 λ b83 o84 q85=>onON (nat n82) λ i86=>ifX (Nat.blt
  i86 q85) (ldK b83 (Nat.add o84 (Nat.mul i86 1)) s73 λ v87=>bnr (cl 223 [v87] s73) λ v88 s89=>ko e72 11 λ v90=>bnr (eKp (.q (.iar (.c v90) (.c
  (.i n78)) 1 8)) .nil s89 cl) λ v91 s92=>onp v91 λ b93 o94=>bnr (stV b93 o94 v88 s92) λ v95 s96=>nx (k74) e72 s96)) (k74 e72 s73)) (kst e63 35
  (.b (cmI .lt n67 n71))) s70) e49 s62) (kst e46 12 v48) s47) 2 (λ e97 s98=>ko e97 24 λ v99=>oni v99 λ n100=>frcI (wrapI (arI .add n100 (.ofNat
  1))) λ n101=>nx (idk) (kst e97 24 (.i n101)) s98)) λ k44=>ko e42 25 λ v45=>cdK v45 (k44 e42 s43) (.ok (.x 1) e42 s43)) (kst e38 25 (.b (cmI .lt
  n41 (.ofNat 4)))) s39) lpFuel cl e36 s37) (idk)) 1 (k34)) (kst e32 24 (.i (.ofNat 0))) s33) (ko e32 21 λ v102=>oni v102 λ n103=>nx (λ e104 s105=>
  jn (k34) λ k106=>ko e104 46 λ v107=>cdK v107 (ko e104 4 λ v108=>bnr (cl 226 [v108] s105) λ v109 s110=>ko e104 11 λ v111=>bnr (eKp (.q
  (.iar (.c v111) (.c (.i (.ofNat 4))) 1 8)) .nil s110 cl) λ v112 s113=>onp v112 λ b114 o115=>bnr (stV b114 o115 v109 s113) λ v116 s117=>nx (k106)
  e104 s117) (ko e104 21 λ v118=>oni v118 λ n119=>nx (λ e120 s121=>jn (k106) λ k122=>ko e120 51 λ v123=>cdK v123 (ko e120 3 λ v124=>
  onSlx v124 λ b125 o126 q127=>onON (nat (.ofNat 1)) λ i128=>ifX (Nat.blt i128 q127) (ldK b125 (Nat.add o126 (Nat.mul i128 1)) s121 λ v129=>bnr (cl
  223 [v129] s121) λ v130 s131=>ko e120 11 λ v132=>bnr (eKp (.q (.iar (.c v132) (.c (.i (.ofNat 4))) 1 8)) .nil s131 cl) λ v133 s134=>onp v133 λ
  b135 o136=>bnr (stV b135 o136 v130 s134) λ v137 s138=>nx (k122) e120 s138)) (k122 e120 s121)) (kst e104 51 (.b (cmI .eq n119 (.ofNat 2)))) s105))
  (kst e32 46 (.b (cmI .eq n103 (.ofNat 1)))) s33)) (kst e28 22 (.b (cmI .eq n31 (.ofNat 0)))) s29) 0 (λ e139 s140=>ko e139 11 λ v141=>onp v141 λ
  b142 o143=>bnr (ldnP 8 b142 o143 s140) λ v144 s145=>ko e139 10 λ v146=>onp v146 λ b147 o148=>onAx v144 λ l149=>bnr (stnA 8 b147 o148
  l149 s145) λ v150 s151=>nx (λ e152 s153=>.ok .r e152 s153) e139 s151)) (kst e25 21 v27) s26) (kst e3 11 v18) s24) (kst env 10 v1) s2
theorem fe322 : rf322 = fastOf kf322 := by kernel_rfl
def rf323 : RFun := .mk 1 [.t 2] λ cl env s=>nx (λ e1 s2=>ko e1 0 λ v3=>nx (λ e4 s5=>jn (λ e12 s13=>bnr (cl 226 [(.i (.ofNat 0))] s13) λ v14 s15=>nx (λ e16 s17=>.ok .r e16 s17)
  (kst e12 2 v14) s15) λ k6=>ko e4 3 λ v7=>cdK v7 (bnr (cl 123 [] s5) λ v8 s9=>nx (λ e10 s11=>.ok .r e10 s11) (kst e4 2 v8) s9) (k6 e4 s5))
  (kst e1 3 v3) s2) (kst env 2 (.z 0 0)) s
theorem fe323 : rf323 = fastOf kf323 := by kernel_rfl
def rf324 : RFun := .mk 1 [.t 2,.t 3] λ cl env s=>nx (λ e1 s2=>ko e1 0 λ v3=>bnr (onZ reZ v3 s2) λ v4 s5=>bnr (cl 359 [v4] s5) λ v6 s7=>ko e1 0 λ v8=>bnr (onZ imZ v8 s7) λ v9 s10=>
  bnr (cl 359 [v9] s10) λ v11 s12=>nx (λ e13 s14=>.ok .r e13 s14) (kst (kst e1 2 v6) 3 v11) s12) (kst (kst env 2 (.k .u64 (.ofNat 0))) 3 (.k .u64
  (.ofNat 0))) s
theorem fe324 : rf324 = fastOf kf324 := by kernel_rfl
def rf325 : RFun := .mk 3 [.t 6] λ cl env s=>nx (λ e1 s2=>bkK (ko e1 0 λ v3=>onp v3 λ b4 o5=>ldK b4 (Nat.add o5 11) s2 λ v6=>oni v6 λ n7=>nx (λ e8 s9=>jn (idk) λ k10=>ko e8 9
  λ v11=>cdK v11 (ko e8 0 λ v12=>ko e8 1 λ v13=>ko e8 0 λ v14=>onp v14 λ b15 o16=>ldK b15 (Nat.add o16 9) s9 λ v17=>bnr (cl 360 [v12,
  v13,v17,(.i (.ofNat 1))] s9) λ v18 s19=>extK v18 0 λ v20=>extK v18 1 λ v21=>nx (λ e22 s23=>ko e22 8 λ v24=>gdK v24 true (λ k25=>ko
  e22 0 λ v28=>k25 v28 s23) s23 λ v26 s27=>gdK v24 true (λ k29=>ko e22 7 λ v32=>k29 v32 s27) s27 λ v30 s31=>gdK v24 true (λ k33=>bnr
  (cl 361 [v26,v30] s31) λ v36 s37=>k33 v36 s37) s31 λ v34 s35=>pkK v24 (.ok v34) (.ok (.b false)) λ v38=>nx (λ e39 s40=>.ok .r e39 s40) (kst
  e22 6 v38) s35) (kst (kst e8 7 v20) 8 v21) s19) (ko e8 0 λ v41=>onp v41 λ b42 o43=>ldK b42 (Nat.add o43 11) s9 λ v44=>oni v44 λ n45=>nx
  (λ e46 s47=>jn (k10) λ k48=>ko e46 31 λ v49=>cdK v49 (ko e46 0 λ v50=>ko e46 1 λ v51=>bnr (cl 362 [v50,v51] s47) λ v52 s53=>nx (λ
  e54 s55=>.ok .r e54 s55) (kst e46 6 v52) s53) (k48 e46 s47)) (kst e8 31 (.b (cmI .ge n45 (.ofNat 5)))) s9)) (kst e1 9 (.b (cmI .eq n7 (.ofNat 0)))) s2) 0
  (λ e56 s57=>ko e56 0 λ v58=>ko e56 1 λ v59=>ko e56 2 λ v60=>bnr (cl 363 [v58,v59,v60] s57) λ v61 s62=>nx (λ e63 s64=>.ok .r e63
  s64) (kst e56 6 v61) s62)) (kst env 6 (.b false)) s
theorem fe325 : rf325 = fastOf kf325 := by kernel_rfl
def rf326 : RFun := .mk 3 [.t 6] λ cl env s=>nx (λ e1 s2=>bindX (scR (hC.hAt (.seq (.reg [7] [.s 7 (.mv (.c (.z 0 0)))]) (.seq (.reg [8] [.s 8 (.mv (kI 0))]) (.seq (.reg [9,10] [.s 9 (.mv (kI 0)),.s
  10 (.mv (.c (.b true)))]) (.seq (.seq (.reg [14] [kM 11 0,kC 12 11,kO 13 12 12,kL 14 13]) (.blk 0 (.seq (.reg [15] [.s 16 (.cm .eq (.t 14) (kI 1)),kM 15
  16]) (.cond (.t 15) (.goto 0) (.seq (.reg [17] [.s 18 (.cm .eq (.t 14) (kI 2)),kM 17 18]) (.cond (.t 17) (.goto 1) (.seq (.reg [19] [.s 20 (.cm .eq (.t 14)
  (kI 3)),kM 19 20]) (.cond (.t 19) (.goto 2) .skip)))))))) (.seq (.seq (.reg [25] [kM 21 0,kC 22 21,kO 23 22 10,kL 24 23,.s 25 (.cm .eq (.t 24) (kI 0))])
  (.cond (.t 25) (.seq (.reg [] [kM 26 0,kC 27 26,kO 28 27 12,.n (.st (.t 28) (kI 11))]) (.seq (.reg [6] [.s 6 (.mv (.c (.b true)))]) .ret)) .skip)) (.seq
  (.seq (.reg [7,10] [kM 30 0,kM 31 1,kM 32 0,kC 33 32,kO 34 33 13,kL 35 34,.s 36 (.call 364 [(.t 30),(.t 31),(.t 35)]),kM 29 36,kE 37 29 0,kE 38 29
  1,kM 7 37,kM 10 38]) (.seq (.reg [40] [kM 39 10,.s 40 (.not (.t 39))]) (.cond (.t 40) (.seq (.reg [6] [.s 6 (.mv (.c (.b false)))]) .ret) .skip))) (.seq
  (.reg [10] [kM 42 0,kM 43 7,.s 44 (.call 150 [(.t 43)]),kM 41 44,kE 45 41 0,kE 46 41 1,kC 47 42,kO 48 47 15,.n (.st (.t 48) (.t 45)),kM 10 46]) (.seq
  (.reg [] [kM 49 0,kC 50 49,kO 51 50 12,.n (.st (.t 51) (kI 1))]) (.seq (.seq (.drw [6] [.mk 0 1 true (kM 52 10),.mk 1 3 true (kM 53 52),.mk 2 7 true (.gs
  53 true 54 (.mv (.t 0))),.mk 3 15 true (.gs 53 true 55 (.ck (.t 54))),.mk 4 31 true (.gs 53 true 56 (.off (.t 55) 15)),.mk 5 63 true (.gs 53 true 57 (.ld
  (.t 56))),.mk 6 67 true (.gs 53 true 58 (.mv (.t 0))),.mk 7 195 true (.gs 53 true 59 (.ck (.t 58))),.mk 8 451 true (.gs 53 true 60 (.off (.t 59) 0)),.mk 9
  963 true (.gs 53 true 61 (.off (.t 60) 0)),.mk 10 1987 true (.gs 53 true 62 (.ld (.t 61))),.mk 11 4095 true (.gs 53 true 63 (.cm .lt (.t 57) (.t 62))),.mk
  12 8191 true (.s 64 (.pick (.t 53) (.t 63) (.c (.b false)))),.mk 13 16383 true (kM 6 64)] []) .ret) (.seq (.label 0) (.seq (.seq (.reg [7,10] [kM 66 0,kM 67
  1,kM 68 0,kC 69 68,kO 70 69 13,kL 71 70,.s 72 (.ar .add (.t 71) (kI 1)),.s 73 (.call 364 [(.t 66),(.t 67),(.t 72)]),kM 65 73,kE 74 65 0,kE 75 65 1,
  kM 7 74,kM 10 75]) (.seq (.reg [77] [kM 76 10,.s 77 (.not (.t 76))]) (.cond (.t 77) (.seq (.reg [6] [.s 6 (.mv (.c (.b false)))]) .ret) .skip))) (.seq (.reg
  [10] [kM 79 0,kM 80 7,.s 81 (.call 225 [(.t 80)]),kM 78 81,kE 82 78 0,kE 83 78 1,kC 84 79,kO 85 84 16,.n (.st (.t 85) (.t 82)),kM 10 83]) (.seq (.reg
  [] [kM 86 0,kC 87 86,kO 88 87 12,.n (.st (.t 88) (kI 2))]) (.seq (.seq (.drw [6] [.mk 0 1 true (kM 89 10),.mk 1 3 true (kM 90 89),.mk 2 7 true (.gs 90
  true 91 (.mv (.t 0))),.mk 3 15 true (.gs 90 true 92 (.ck (.t 91))),.mk 4 31 true (.gs 90 true 93 (.off (.t 92) 16)),.mk 5 63 true (.gs 90 true 94 (.ld (.t
  93))),.mk 6 127 true (.gs 90 true 95 (.cm .ge (.t 94) (kI 0))),.mk 7 255 true (.s 96 (.pick (.t 90) (.t 95) (.c (.b false)))),.mk 8 511 true (kM 97 96),.mk
  9 1023 true (.gs 97 true 98 (.mv (.t 0))),.mk 10 2047 true (.gs 97 true 99 (.ck (.t 98))),.mk 11 4095 true (.gs 97 true 100 (.off (.t 99) 16)),.mk 12 8191
  true (.gs 97 true 101 (.ld (.t 100))),.mk 13 8703 true (.gs 97 true 102 (.mv (.t 0))),.mk 14 25087 true (.gs 97 true 103 (.ck (.t 102))),.mk 15 57855 true
  (.gs 97 true 104 (.off (.t 103) 10)),.mk 16 123391 true (.gs 97 true 105 (.ld (.t 104))),.mk 17 131583 true (.gs 97 true 106 (.mv (.t 0))),.mk 18 393727
  true (.gs 97 true 107 (.ck (.t 106))),.mk 19 918015 true (.gs 97 true 108 (.off (.t 107) 13)),.mk 20 1966591 true (.gs 97 true 109 (.ld (.t 108))),.mk 21
  4186623 true (.gs 97 true 110 (.ar .sub (.t 105) (.t 109))),.mk 22 8380927 true (.gs 97 true 111 (.ar .sub (.t 110) (kI 2))),.mk 23 16777215 true (.gs 97
  true 112 (.cm .le (.t 101) (.t 111))),.mk 24 33554431 true (.s 113 (.pick (.t 97) (.t 112) (.c (.b false)))),.mk 25 67108863 true (kM 6 113)] []) .ret) (.seq
  (.label 1) (.seq (.reg [] [kM 114 0,kC 115 114,kO 116 115 12,.n (.st (.t 116) (kI 3))]) (.seq (.seq (.drw [127] [.mk 0 1 true (kM 117 2),.mk 1 2 true (kM
  118 0),.mk 2 6 true (kC 119 118),.mk 3 14 true (kO 120 119 15),.mk 4 30 true (kL 121 120),.mk 5 32 true (kM 122 0),.mk 6 96 true (kC 123 122),.mk 7 224
  true (kO 124 123 11),.mk 8 480 true (kL 125 124),.mk 9 1023 false (.s 126 (.call 156 [(.t 117),(.t 121),(.t 125)])),.mk 10 2047 true (.s 127 (.not (.t
  126)))] [.mk 512 1023 (.s 126 (.call 156 [(.t 117),(.t 121),(.t 125)]))]) (.cond (.t 127) (.reg [] [kM 128 0,kC 129 128,kO 130 129 12,.n (.st (.t 130) (kI
  4))]) .skip)) (.seq (.seq (.reg [6] [.s 6 (.mv (.c (.b true)))]) .ret) (.seq (.label 2) (.seq (.reg [7,8] [kM 132 1,kM 133 0,.s 134 (.call 365 [(.t 133)]),
  .s 135 (.call 149 [(.t 132),(.t 134)]),kM 131 135,kE 136 131 0,kE 137 131 1,kM 7 136,kM 8 137]) (.seq (.drw [9] [.mk 0 1 true (kM 139 0),.mk 1 3 true
  (kC 140 139),.mk 2 7 true (kO 141 140 0),.mk 3 15 true (kW 142 141 9),.mk 4 16 true (kM 143 0),.mk 5 48 true (kC 144 143),.mk 6 112 true (kO 145 144 9),
  .mk 7 240 true (kL 146 145),.mk 8 256 true (kM 147 0),.mk 9 768 true (kC 148 147),.mk 10 1792 true (kO 149 148 13),.mk 11 3840 true (kL 150 149),.mk 12
  8191 false (.s 151 (.call 333 [(.t 142),(.t 146),(.t 150)])),.mk 13 16383 true (kM 138 151),.mk 14 32767 true (kE 152 138 0),.mk 15 49151 true (kE 153 138
  1),.mk 16 98303 true (kM 9 152)] [.mk 4096 8191 (.s 151 (.call 333 [(.t 142),(.t 146),(.t 150)]))]) (.seq (.reg [] [kM 154 0,kC 155 154,kO 156 155 12,.n
  (.st (.t 156) (kI 5))]) (.seq (.seq (.reg [161] [kM 157 7,kM 158 9,.s 159 (.call 226 [(.t 158)]),.s 160 (.call 238 [(.t 157),(.t 159)]),.s 161 (.not (.t
  160))]) (.cond (.t 161) (.reg [] [kM 162 0,kC 163 162,kO 164 163 12,.n (.st (.t 164) (kI 4))]) .skip)) (.seq (.reg [6] [kM 165 8,.s 166 (.cm .eq (.t 165)
  (kI 0)),kM 6 166]) .ret))))))))))))))))))))))))) lpFuel (λ cl e3 s4=>nx (λ e5 s6=>nx (λ e7 s8=>nx (λ e9 s10=>ko e9 0 λ v11=>onp v11 λ
  b12 o13=>ldK b12 (Nat.add o13 12) s10 λ v14=>nx (λ e15 s16=>bkK (ko e15 14 λ v17=>oni v17 λ n18=>nx (λ e19 s20=>jn (idk) λ k21=>ko
  e19 15 λ v22=>cdK v22 (.ok (.g 0) e19 s20) (ko e19 14 λ v23=>oni v23 λ n24=>nx (λ e25 s26=>jn (k21) λ k27=>ko e25 17 λ v28=>cdK v28
  (.ok (.g 1) e25 s26) (ko e25 14 λ v29=>oni v29 λ n30=>nx (λ e31 s32=>jn (k27) λ k33=>ko e31 19 λ v34=>cdK v34 (.ok (.g 2) e31 s32) (k33
  e31 s32)) (kst e25 19 (.b (cmI .eq n30 (.ofNat 3)))) s26)) (kst e19 17 (.b (cmI .eq n24 (.ofNat 2)))) s20)) (kst e15 15 (.b (cmI .eq n18 (.ofNat 1)))) s16)
  0 (λ e35 s36=>ko e35 0 λ v37=>onp v37 λ b38 o39=>ldK b38 (Nat.add o39 10) s36 λ v40=>oni v40 λ n41=>nx (λ e42 s43=>jn (λ e55 s56=>
  ko e55 0 λ v57=>ko e55 1 λ v58=>ko e55 0 λ v59=>onp v59 λ b60 o61=>ldK b60 (Nat.add o61 13) s56 λ v62=>bnr (cl 364 [v57,v58,v62] s56)
  λ v63 s64=>extK v63 0 λ v65=>extK v63 1 λ v66=>nx (λ e67 s68=>ko e67 10 λ v69=>onBx v69 λ c70=>nx (λ e71 s72=>jn (λ e77 s78=>ko
  e77 0 λ v79=>ko e77 7 λ v80=>bnr (cl 150 [v80] s78) λ v81 s82=>extK v81 0 λ v83=>extK v81 1 λ v84=>onp v79 λ b85 o86=>bnr (stV b85
  (Nat.add o86 15) v83 s82) λ v87 s88=>nx (λ e89 s90=>ko e89 0 λ v91=>onp v91 λ b92 o93=>bnr (stV b92 (Nat.add o93 12) (.i (.ofNat 1)) s90)
  λ v94 s95=>nx (λ e96 s97=>ko e96 10 λ v98=>gdK v98 true (λ k99=>ko e96 0 λ v102=>k99 v102 s97) s97 λ v100 s101=>gdK v98 true (λ k103
 =>onp v100 λ b106 o107=>k103 (.p b106 o107) s97) s97 λ v104 s105=>gdK v98 true (λ k108=>onp v104 λ b111 o112=>k108 (.p b111 (Nat.add o112
  15)) s97) s97 λ v109 s110=>gdK v98 true (λ k113=>onp v109 λ b116 o117=>ldK b116 o117 s97 λ v118=>k113 v118 s97) s97 λ v114 s115=>gdK v98
  true (λ k119=>ko e96 0 λ v122=>k119 v122 s97) s97 λ v120 s121=>gdK v98 true (λ k123=>onp v120 λ b126 o127=>k123 (.p b126 o127) s97) s97
  λ v124 s125=>gdK v98 true (λ k128=>onp v124 λ b131 o132=>k128 (.p b131 (Nat.add o132 0)) s97) s97 λ v129 s130=>gdK v98 true (λ k133=>onp
  v129 λ b136 o137=>k133 (.p b136 (Nat.add o137 0)) s97) s97 λ v134 s135=>gdK v98 true (λ k138=>onp v134 λ b141 o142=>ldK b141 o142 s97 λ v143
 =>k138 v143 s97) s97 λ v139 s140=>gdK v98 true (λ k144=>oni v114 λ n147=>oni v139 λ n148=>k144 (.b (cmI .lt n147 n148)) s97) s97 λ v145
  s146=>pkK v98 (.ok v145) (.ok (.b false)) λ v149=>nx (λ e150 s151=>.ok .r e150 s151) (kst e96 6 v149) s97) e89 s95) (kst e77 10 v84) s88) λ k73
 =>ko e71 40 λ v74=>cdK v74 (nx (λ e75 s76=>.ok .r e75 s76) (kst e71 6 (.b false)) s72) (k73 e71 s72)) (kst e67 40 (.b (neg c70))) s68) (kst (kst
  e55 7 v65) 10 v66) s64) λ k44=>ko e42 25 λ v45=>cdK v45 (ko e42 0 λ v46=>onp v46 λ b47 o48=>bnr (stV b47 (Nat.add o48 12) (.i (.ofNat 11))
  s43) λ v49 s50=>nx (λ e51 s52=>nx (λ e53 s54=>.ok .r e53 s54) (kst e51 6 (.b true)) s52) e42 s50) (k44 e42 s43)) (kst e35 25 (.b (cmI .eq n41
  (.ofNat 0)))) s36)) (kst e9 14 v14) s10) (kst (kst e7 9 (.i (.ofNat 0))) 10 (.b true)) s8) (kst e5 8 (.i (.ofNat 0))) s6) (kst e3 7 (.z 0 0)) s4) cl e1
  s2) (idk)) (kst env 6 (.b false)) s
theorem fe326 : rf326 = fastOf kf326 := by kernel_rfl
def rf328 : RFun := .mk 1 [.t 2] λ cl env s=>nx (λ e1 s2=>ko e1 0 λ v3=>onp v3 λ b4 o5=>ldK b4 (Nat.add o5 0) s2 λ v6=>bnr (cl 356 [v6,(.fn 370 [] [])] s2) λ v7 s8=>nx (λ e9 s10=>
  .ok .r e9 s10) (kst e1 2 v7) s8) (kst env 2 (.i (.ofNat 0))) s
theorem fe328 : rf328 = fastOf kf328 := by kernel_rfl
def rf329 : RFun := .mk 2 [.t 4,.t 5] λ cl env s=>nx (λ e1 s2=>ko e1 1 λ v3=>oni v3 λ n4=>nx (λ e5 s6=>jn (λ e11 s12=>nx (λ e13 s14=>ko e13 0 λ v15=>onp v15 λ b16 o17=>ldK b16
  (Nat.add o17 0) s14 λ v18=>bnr (lenV v18 s14) λ v19 s20=>oni v19 λ n21=>frcI (wrapI (arI .sub n21 (.ofNat 1))) λ n22=>nx (λ e23 s24=>bkK
  (bindX (lpR (λ cl e25 s26=>ko e25 7 λ v27=>oni v27 λ n28=>nx (λ e29 s30=>jn (λ e33 s34=>bkK (ko e33 0 λ v35=>onp v35 λ b36 o37=>
  ldK b36 (Nat.add o37 0) s34 λ v38=>ko e33 7 λ v39=>onSlx v38 λ b40 o41 q42=>oni v39 λ n44=>onON (nat n44) λ i43=>ifX (Nat.blt i43 q42)
  (ldK b40 (Nat.add o41 (Nat.mul i43 1)) s34 λ v45=>onBx v45 λ c46=>nx (λ e47 s48=>jn (λ e53 s54=>ko e53 6 λ v55=>oni v55 λ n56=>frcI
  (wrapI (arI .add n56 (.ofNat 1))) λ n57=>nx (λ e58 s59=>ko e58 6 λ v60=>ko e58 1 λ v61=>oni v60 λ n62=>oni v61 λ n63=>nx (λ e64 s65
 =>jn (idk) λ k66=>ko e64 32 λ v67=>cdK v67 (ko e64 7 λ v68=>nx (λ e69 s70=>.ok .r e69 s70) (kst (kst e64 4 v68) 5 (.b true)) s65) (k66 e64
  s65)) (kst e58 32 (.b (cmI .eq n62 n63))) s59) (kst e53 6 (.i n57)) s54) λ k49=>ko e47 27 λ v50=>cdK v50 (nx (λ e51 s52=>.ok (.x 1) e51 s52)
  (kst e47 6 (.i (.ofNat 0))) s48) (k49 e47 s48)) (kst e33 27 (.b (neg c46))) s34)) 1 (λ e71 s72=>ko e71 7 λ v73=>oni v73 λ n74=>frcI (wrapI (arI
  .sub n74 (.ofNat 1))) λ n75=>nx (idk) (kst e71 7 (.i n75)) s72)) λ k31=>ko e29 17 λ v32=>cdK v32 (k31 e29 s30) (.ok (.x 0) e29 s30)) (kst e25 17
  (.b (cmI .ge n28 (.ofNat 0)))) s26) lpFuel cl e23 s24) (idk)) 0 (λ e76 s77=>nx (λ e78 s79=>.ok .r e78 s79) (kst (kst e76 4 (.i (.ofNat 0))) 5 (.b
  false)) s77)) (kst e13 7 (.i n22)) s20) (kst e11 6 (.i (.ofNat 0))) s12) λ k7=>ko e5 9 λ v8=>cdK v8 (nx (λ e9 s10=>.ok .r e9 s10) (kst (kst e5
  4 (.i (.ofNat 0))) 5 (.b false)) s6) (k7 e5 s6)) (kst e1 9 (.b (cmI .lt n4 (.ofNat 1)))) s2) (kst (kst env 4 (.i (.ofNat 0))) 5 (.b false)) s
theorem fe329 : rf329 = fastOf kf329 := by kernel_rfl
def rf331 : RFun := .mk 2 [.t 4,.t 5] λ cl env s=>nx (λ e1 s2=>ko e1 1 λ v3=>oni v3 λ n4=>gdK (.b (cmI .lt n4 (.ofNat 1))) false (λ k5=>ko e1 1 λ v8=>k5 v8 s2) s2 λ v6 s7=>gdK (.b (cmI
  .lt n4 (.ofNat 1))) false (λ k9=>ko e1 0 λ v12=>k9 v12 s7) s7 λ v10 s11=>gdK (.b (cmI .lt n4 (.ofNat 1))) false (λ k13=>onp v10 λ b16 o17=>
  k13 (.p b16 o17) s11) s11 λ v14 s15=>gdK (.b (cmI .lt n4 (.ofNat 1))) false (λ k18=>onp v14 λ b21 o22=>k18 (.p b21 (Nat.add o22 1)) s15) s15 λ
  v19 s20=>gdK (.b (cmI .lt n4 (.ofNat 1))) false (λ k23=>onp v19 λ b26 o27=>ldK b26 o27 s20 λ v28=>k23 v28 s20) s20 λ v24 s25=>gdK (.b (cmI
  .lt n4 (.ofNat 1))) false (λ k29=>oni v6 λ n32=>oni v24 λ n33=>k29 (.b (cmI .gt n32 n33)) s25) s25 λ v30 s31=>pkK (.b (cmI .lt n4 (.ofNat
  1))) (.ok (.b true)) (.ok v30) λ v34=>nx (λ e35 s36=>jn (λ e41 s42=>ko e41 0 λ v43=>ko e41 1 λ v44=>bnr (cl 329 [v43,v44] s42) λ v45
  s46=>extK v45 0 λ v47=>extK v45 1 λ v48=>nx (λ e49 s50=>ko e49 7 λ v51=>onBx v51 λ c52=>nx (λ e53 s54=>jn (λ e63 s64=>nx (λ e65
  s66=>ko e65 6 λ v67=>nx (λ e68 s69=>bkK (bindX (lpR (λ cl e70 s71=>ko e70 9 λ v72=>ko e70 6 λ v73=>ko e70 1 λ v74=>oni v73 λ n75
 =>oni v74 λ n76=>frcI (wrapI (arI .add n75 n76)) λ n77=>oni v72 λ n78=>nx (λ e79 s80=>jn (λ e83 s84=>bkK (ko e83 0 λ v85=>ko e83 9
  λ v86=>bnr (cl 371 [v85,v86] s84) λ v87 s88=>nx (λ e89 s90=>ko e89 8 λ v91=>ko e89 9 λ v92=>bnr (oL (fill (.cons 0 1 (.c v92) .nil)
  (repL [.i (.ofNat 0)] 1) .nil) (bsl1 1 (lenL [.i (.ofNat 0)])) s90) λ v93 s94=>bnr (ap0 1 8 (.ok v93) v91 s94) λ v95 s96=>nx (idk) (kst e89 8 v95)
  s96) e83 s88) 1 (λ e97 s98=>ko e97 9 λ v99=>oni v99 λ n100=>frcI (wrapI (arI .add n100 (.ofNat 1))) λ n101=>nx (idk) (kst e97 9 (.i n101))
  s98)) λ k81=>ko e79 36 λ v82=>cdK v82 (k81 e79 s80) (.ok (.x 0) e79 s80)) (kst e70 36 (.b (cmI .lt n78 n77))) s71) lpFuel cl e68 s69) (idk)) 0 (λ
  e102 s103=>ko e102 8 λ v104=>nx (λ e105 s106=>.ok .r e105 s106) (kst (kst e102 4 v104) 5 (.b true)) s103)) (kst e65 9 v67) s66) (kst e63 8 (.ns))
  s64) λ k55=>ko e53 27 λ v56=>cdK v56 (ko e53 0 λ v57=>ko e53 1 λ v58=>bnr (cl 348 [v57,v58] s54) λ v59 s60=>nx (λ e61 s62=>.ok .r
  e61 s62) (kst (kst e53 4 v59) 5 (.b true)) s60) (k55 e53 s54)) (kst e49 27 (.b (neg c52))) s50) (kst (kst e41 6 v47) 7 v48) s46) λ k37=>ko e35 19 λ
  v38=>cdK v38 (nx (λ e39 s40=>.ok .r e39 s40) (kst (kst e35 4 (.ns)) 5 (.b false)) s36) (k37 e35 s36)) (kst e1 19 v34) s31) (kst (kst env 4 (.ns)) 5
  (.b false)) s
theorem fe331 : rf331 = fastOf kf331 := by kernel_rfl
def rf334 : RFun := .mk 1 [.t 2] λ cl env s=>nx (λ e1 s2=>ko e1 0 λ v3=>bnr (nilsV true v3 s2) λ v4 s5=>nx (λ e6 s7=>jn (λ e12 s13=>bnr (oL (fill .nil (repL [.i (.ofNat 0)] 0) .nil)
  (bsl1 0 (lenL [.i (.ofNat 0)])) s13) λ v14 s15=>ko e12 0 λ v16=>bnr (ap0 1 8 (.ok v16) v14 s15) λ v17 s18=>nx (λ e19 s20=>.ok .r e19 s20)
  (kst e12 2 v17) s18) λ k8=>ko e6 4 λ v9=>cdK v9 (nx (λ e10 s11=>.ok .r e10 s11) (kst e6 2 (.ns)) s7) (k8 e6 s7)) (kst e1 4 v4) s5) (kst env 2
  (.ns)) s
theorem fe334 : rf334 = fastOf kf334 := by kernel_rfl
def rf335 : RFun := .mk 2 [.t 4] λ cl env s=>nx (λ e1 s2=>ko e1 0 λ v3=>ko e1 1 λ v4=>oni v3 λ n5=>oni v4 λ n6=>frcI (wrapI (arI .add n5 n6)) λ n7=>frcI (wrapI (arI .sub n7 (.ofNat
  1))) λ n8=>ko e1 1 λ v9=>bnr (eKp (.q (.quo (.c (.i n8)) (.c v9))) .nil s2 cl) λ v10 s11=>nx (λ e12 s13=>.ok .r e12 s13) (kst e1 4 v10) s11)
  (kst env 4 (.i (.ofNat 0))) s
theorem fe335 : rf335 = fastOf kf335 := by kernel_rfl
def rf344 : RFun := .mk 2 [.t 4] λ cl env s=>nx (λ e1 s2=>ko e1 0 λ v3=>bnr (lenV v3 s2) λ v4 s5=>nx (λ e6 s7=>bkK (bindX (lpR (λ cl e8 s9=>ko e8 8 λ v10=>ko e8 7 λ v11=>oni
  v10 λ n12=>oni v11 λ n13=>nx (λ e14 s15=>jn (λ e18 s19=>bkK (ko e18 8 λ v20=>nx (λ e21 s22=>ko e21 1 λ v23=>ko e21 0 λ v24=>ko
  e21 5 λ v25=>onSlx v24 λ b26 o27 q28=>oni v25 λ n30=>onON (nat n30) λ i29=>ifX (Nat.blt i29 q28) (bnr (ldnP 2 b26 (Nat.add o27 (Nat.mul i29
  2)) s22) λ v31 s32=>cvK v23 [v31] s32 cl λ v33 s34=>nx (λ e35 s36=>jn (idk) λ k37=>ko e35 16 λ v38=>cdK v38 (ko e35 5 λ v39=>nx (λ
  e40 s41=>.ok .r e40 s41) (kst e35 4 v39) s36) (k37 e35 s36)) (kst e21 16 v33) s34)) (kst e18 5 v20) s19) 1 (λ e42 s43=>ko e42 8 λ v44=>oni v44
  λ n45=>frcI (wrapI (arI .add n45 (.ofNat 1))) λ n46=>nx (idk) (kst e42 8 (.i n46)) s43)) λ k16=>ko e14 9 λ v17=>cdK v17 (k16 e14 s15) (.ok (.x
  0) e14 s15)) (kst e8 9 (.b (cmI .lt n12 n13))) s9) lpFuel cl e6 s7) (idk)) 0 (λ e47 s48=>nx (λ e49 s50=>.ok .r e49 s50) (kst e47 4 (.i (.negSucc 0)))
  s48)) (kst (kst e1 7 v4) 8 (.i (.ofNat 0))) s5) (kst env 4 (.i (.ofNat 0))) s
theorem fe344 : rf344 = fastOf kf344 := by kernel_rfl
def rf346 : RFun := .mk 2 [.t 4,.t 5] λ cl env s=>nx (λ e1 s2=>ko e1 1 λ v3=>oni v3 λ n4=>gdK (.b (cmI .lt n4 (.ofNat 1))) false (λ k5=>ko e1 1 λ v8=>k5 v8 s2) s2 λ v6 s7=>gdK (.b (cmI
  .lt n4 (.ofNat 1))) false (λ k9=>ko e1 0 λ v12=>k9 v12 s7) s7 λ v10 s11=>gdK (.b (cmI .lt n4 (.ofNat 1))) false (λ k13=>onp v10 λ b16 o17=>
  k13 (.p b16 o17) s11) s11 λ v14 s15=>gdK (.b (cmI .lt n4 (.ofNat 1))) false (λ k18=>onp v14 λ b21 o22=>k18 (.p b21 (Nat.add o22 0)) s15) s15 λ
  v19 s20=>gdK (.b (cmI .lt n4 (.ofNat 1))) false (λ k23=>onp v19 λ b26 o27=>ldK b26 o27 s20 λ v28=>k23 v28 s20) s20 λ v24 s25=>gdK (.b (cmI
  .lt n4 (.ofNat 1))) false (λ k29=>bnr (lenV v24 s25) λ v32 s33=>k29 v32 s33) s25 λ v30 s31=>gdK (.b (cmI .lt n4 (.ofNat 1))) false (λ k34=>
  oni v6 λ n37=>oni v30 λ n38=>k34 (.b (cmI .gt n37 n38)) s31) s31 λ v35 s36=>pkK (.b (cmI .lt n4 (.ofNat 1))) (.ok (.b true)) (.ok v35) λ v39=>
  nx (λ e40 s41=>jn (λ e46 s47=>ko e46 0 λ v48=>onp v48 λ b49 o50=>ldK b49 (Nat.add o50 0) s47 λ v51=>ko e46 1 λ v52=>bnr (eKp (.q
  (.sli (.c v51) 1 .no (.ok (.c v52)))) .nil s47 cl) λ v53 s54=>bnr (cl 334 [v53] s54) λ v55 s56=>nx (λ e57 s58=>ko e57 0 λ v59=>ko e57 0 λ
  v60=>onp v60 λ b61 o62=>ldK b61 (Nat.add o62 0) s58 λ v63=>ko e57 1 λ v64=>bnr (eKp (.q (.sli (.c v63) 1 (.ok (.c v64)) .no)) .nil s58 cl) λ
  v65 s66=>bnr (cl 334 [v65] s66) λ v67 s68=>onp v59 λ b69 o70=>bnr (stV b69 (Nat.add o70 0) v67 s68) λ v71 s72=>nx (λ e73 s74=>ko e73 6
  λ v75=>nx (λ e76 s77=>.ok .r e76 s77) (kst (kst e73 4 v75) 5 (.b true)) s74) e57 s72) (kst e46 6 v55) s56) λ k42=>ko e40 17 λ v43=>cdK v43
  (nx (λ e44 s45=>.ok .r e44 s45) (kst (kst e40 4 (.ns)) 5 (.b false)) s41) (k42 e40 s41)) (kst e1 17 v39) s36) (kst (kst env 4 (.ns)) 5 (.b false)) s
theorem fe346 : rf346 = fastOf kf346 := by kernel_rfl
def rf347 : RFun := .mk 2 [.t 4] λ cl env s=>ko env 1 λ v1=>bnr (boxV v1 s) λ v2 s3=>nx (λ e4 s5=>ko e4 0 λ v6=>ko e4 3 λ v7=>onp v7 λ b8 o9=>ldK b8 (Nat.add o9 0) s5 λ v10=>
  bnr (cl 312 [v6,v10] s5) λ v11 s12=>oni v11 λ n13=>nx (λ e14 s15=>jn (λ e20 s21=>ko e20 3 λ v22=>onp v22 λ b23 o24=>bnr (stV b23
  (Nat.add o24 3) (.i (.ofNat 0)) s21) λ v25 s26=>ko e20 3 λ v27=>onp v27 λ b28 o29=>bnr (stV b28 (Nat.add o29 4) (.i (.ofNat 0)) s26) λ v30 s31
 =>ko e20 3 λ v32=>onp v32 λ b33 o34=>bnr (stV b33 (Nat.add o34 5) (.i (.negSucc 0)) s31) λ v35 s36=>ko e20 3 λ v37=>onp v37 λ b38 o39=>
  bnr (stV b38 (Nat.add o39 6) (.ns) s36) λ v40 s41=>nx (λ e42 s43=>ko e42 0 λ v44=>ko e42 0 λ v45=>onp v45 λ b46 o47=>ldK b46 (Nat.add
  o47 0) s43 λ v48=>ko e42 3 λ v49=>onp v49 λ b50 o51=>bnr (ldnP 7 b50 o51 s43) λ v52 s53=>bnr (oL (fill (.cons 0 7 (.c v52) .nil) [.i
  (.ofNat 0),.i (.ofNat 0),.i (.ofNat 0),.i (.ofNat 0),.i (.ofNat 0),.i (.ofNat 0),.ns,.b false] .nil) okA s43) λ v54 s55=>bnr (oL (fill (.cons 0 8
  (.c v54) .nil) (repL [.i (.ofNat 0),.i (.ofNat 0),.i (.ofNat 0),.i (.ofNat 0),.i (.ofNat 0),.i (.ofNat 0),.ns,.b false] 1) .nil) (bsl1 1 (lenL [.i
  (.ofNat 0),.i (.ofNat 0),.i (.ofNat 0),.i (.ofNat 0),.i (.ofNat 0),.i (.ofNat 0),.ns,.b false])) s43) λ v56 s57=>ko e42 0 λ v58=>ifX (eqV v44
  v58) (ko e42 0 λ v59=>ifX (eqV v45 v59) (onp v59 λ b60 o61=>ifX (eqV (.p b46 o47) (.p b60 o61)) (ifX (eqV (.p b46 (Nat.add o47 0)) (.p b60 (Nat.add
  o61 0))) (ldK b60 (Nat.add o61 0) s57 λ v62=>ifX (eqV v48 v62) (bnr (ap0 8 80 (.ok v56) v62 s57) λ v63 s64=>ko e42 0 λ v65=>ifX (eqV v58 v65)
  (onp v65 λ b66 o67=>bnr (stV b66 (Nat.add o67 0) v63 s64) λ v68 s69=>nx (λ e70 s71=>nx (λ e72 s73=>.ok .r e72 s73) (kst e70 4 (.b true))
  s71) e42 s69))))))) e20 s41) λ k16=>ko e14 9 λ v17=>cdK v17 (nx (λ e18 s19=>.ok .r e18 s19) (kst e14 4 (.b false)) s15) (k16 e14 s15)) (kst e4 9
  (.b (cmI .ge n13 (.ofNat 0)))) s12) (kst (kst env 3 v2) 4 (.b false)) s3
theorem fe347 : rf347 = fastOf kf347 := by kernel_rfl
def rf348 : RFun := .mk 2 [.t 4] λ cl env s=>nx (λ e1 s2=>nx (λ e3 s4=>nx (λ e5 s6=>bkK (bindX (lpR (λ cl e7 s8=>ko e7 6 λ v9=>ko e7 0 λ v10=>onp v10 λ b11 o12=>ldK b11 (Nat.add
  o12 0) s8 λ v13=>bnr (lenV v13 s8) λ v14 s15=>oni v9 λ n16=>oni v14 λ n17=>gdK (.b (cmI .lt n16 n17)) true (λ k18=>ko e7 5 λ v21=>
  k18 v21 s15) s15 λ v19 s20=>gdK (.b (cmI .lt n16 n17)) true (λ k22=>bnr (lenV v19 s20) λ v25 s26=>k22 v25 s26) s20 λ v23 s24=>gdK (.b (cmI
  .lt n16 n17)) true (λ k27=>ko e7 1 λ v30=>k27 v30 s24) s24 λ v28 s29=>gdK (.b (cmI .lt n16 n17)) true (λ k31=>oni v23 λ n34=>oni v28 λ
  n35=>k31 (.b (cmI .lt n34 n35)) s29) s29 λ v32 s33=>pkK (.b (cmI .lt n16 n17)) (.ok v32) (.ok (.b false)) λ v36=>nx (λ e37 s38=>jn (λ e41 s42
 =>bkK (ko e41 0 λ v43=>onp v43 λ b44 o45=>ldK b44 (Nat.add o45 0) s42 λ v46=>ko e41 6 λ v47=>onSlx v46 λ b48 o49 q50=>oni v47 λ n52=>
  onON (nat n52) λ i51=>ifX (Nat.blt i51 q50) (ldK b48 (Nat.add o49 (Nat.mul i51 1)) s42 λ v53=>nx (λ e54 s55=>jn (idk) λ k56=>ko e54 28 λ v57
 =>cdK v57 (ko e54 0 λ v58=>ko e54 6 λ v59=>bnr (cl 371 [v58,v59] s55) λ v60 s61=>nx (λ e62 s63=>ko e62 5 λ v64=>ko e62 6 λ v65=>
  bnr (oL (fill (.cons 0 1 (.c v65) .nil) (repL [.i (.ofNat 0)] 1) .nil) (bsl1 1 (lenL [.i (.ofNat 0)])) s63) λ v66 s67=>bnr (ap0 1 8 (.ok v66) v64 s67)
  λ v68 s69=>nx (k56) (kst e62 5 v68) s69) e54 s61) (k56 e54 s55)) (kst e41 28 v53) s42)) 1 (λ e70 s71=>ko e70 6 λ v72=>oni v72 λ n73=>frcI
  (wrapI (arI .add n73 (.ofNat 1))) λ n74=>nx (idk) (kst e70 6 (.i n74)) s71)) λ k39=>ko e37 19 λ v40=>cdK v40 (k39 e37 s38) (.ok (.x 0) e37 s38))
  (kst e7 19 v36) s33) lpFuel cl e5 s6) (idk)) 0 (λ e75 s76=>ko e75 5 λ v77=>nx (λ e78 s79=>.ok .r e78 s79) (kst e75 4 v77) s76)) (kst e3 6 (.i
  (.ofNat 0))) s4) (kst e1 5 (.ns)) s2) (kst env 4 (.ns)) s
theorem fe348 : rf348 = fastOf kf348 := by kernel_rfl
def rf349 : RFun := .mk 1 [.t 2] λ cl env s=>nx (λ e1 s2=>ko e1 0 λ v3=>onp v3 λ b4 o5=>ldK b4 (Nat.add o5 1) s2 λ v6=>ko e1 0 λ v7=>onp v7 λ b8 o9=>ldK b8 (Nat.add o9 0) s2 λ
  v10=>bnr (lenV v10 s2) λ v11 s12=>oni v6 λ n13=>oni v11 λ n14=>frcI (wrapI (arI .sub n13 n14)) λ n15=>nx (λ e16 s17=>.ok .r e16 s17)
  (kst e1 2 (.i n15)) s2) (kst env 2 (.i (.ofNat 0))) s
theorem fe349 : rf349 = fastOf kf349 := by kernel_rfl
def rf350 : RFun := .mk 2 [.t 4] λ cl env s=>nx (λ e1 s2=>ko e1 1 λ v3=>bnr (lenV v3 s2) λ v4 s5=>ko e1 0 λ v6=>bnr (cl 349 [v6] s5) λ v7 s8=>oni v4 λ n9=>oni v7 λ n10=>nx
  (λ e11 s12=>jn (λ e17 s18=>ko e17 0 λ v19=>ko e17 0 λ v20=>onp v20 λ b21 o22=>ldK b21 (Nat.add o22 0) s18 λ v23=>ko e17 1 λ v24=>
  bnr (ap0 1 8 (.ok v24) v23 s18) λ v25 s26=>onp v19 λ b27 o28=>bnr (stV b27 (Nat.add o28 0) v25 s26) λ v29 s30=>nx (λ e31 s32=>nx (λ e33
  s34=>.ok .r e33 s34) (kst e31 4 (.b true)) s32) e17 s30) λ k13=>ko e11 9 λ v14=>cdK v14 (nx (λ e15 s16=>.ok .r e15 s16) (kst e11 4 (.b false))
  s12) (k13 e11 s12)) (kst e1 9 (.b (cmI .gt n9 n10))) s8) (kst env 4 (.b false)) s
theorem fe350 : rf350 = fastOf kf350 := by kernel_rfl
def rf351 : RFun := .mk 4 [.t 8,.t 9] λ cl env s=>nx (λ e1 s2=>ko e1 0 λ v3=>onp v3 λ b4 o5=>bnr (ldnP 9 b4 (Nat.add o5 0) s2) λ v6 s7=>ko e1 2 λ v8=>ko e1 3 λ v9=>bnr (cl 254 [v6,
  v8,v9] s7) λ v10 s11=>extK v10 0 λ v12=>extK v10 1 λ v13=>nx (λ e14 s15=>ko e14 11 λ v16=>oni v16 λ n17=>nx (λ e18 s19=>jn (λ
  e24 s25=>ko e24 1 λ v26=>ko e24 10 λ v27=>bnr (cl 149 [v26,v27] s25) λ v28 s29=>extK v28 0 λ v30=>extK v28 1 λ v31=>nx (λ e32 s33=>
  ko e32 12 λ v34=>ko e32 11 λ v35=>oni v35 λ n36=>nx (λ e37 s38=>.ok .r e37 s38) (kst (kst e32 8 v34) 9 (.b (cmI .eq n36 (.ofNat 0)))) s33)
  (kst (kst e24 12 v30) 11 v31) s29) λ k20=>ko e18 24 λ v21=>cdK v21 (nx (λ e22 s23=>.ok .r e22 s23) (kst (kst e18 8 (.z 0 0)) 9 (.b false)) s19)
  (k20 e18 s19)) (kst e14 24 (.b (cmI .ne n17 (.ofNat 0)))) s15) (kst (kst e1 10 v12) 11 v13) s11) (kst (kst env 8 (.z 0 0)) 9 (.b false)) s
theorem fe351 : rf351 = fastOf kf351 := by kernel_rfl
def rf352 : RFun := .mk 2 [.t 4] λ cl env s=>nx (λ e1 s2=>ko e1 1 λ v3=>bnr (cl 171 [v3] s2) λ v4 s5=>extK v4 0 λ v6=>extK v4 1 λ v7=>extK v4 2 λ v8=>nx (λ e9 s10=>ko e9 0 λ
  v11=>onp v11 λ b12 o13=>bnr (ldnP 9 b12 (Nat.add o13 0) s10) λ v14 s15=>ko e9 5 λ v16=>bnr (cl 173 [v14,v16] s15) λ v17 s18=>extK v17 0
  λ v19=>extK v17 1 λ v20=>bnr (eNew [.b false,.ns] .nil s18 cl) λ v21 s22=>onp v21 λ b23 o24=>onAx v19 λ l25=>bnr (stnA 2 b23 o24 l25
  s22) λ v26 s27=>nx (λ e28 s29=>bkK (ko e28 7 λ v30=>onBx v30 λ c31=>gdK (.b (neg c31)) false (λ k32=>ko e28 9 λ v35=>k32 v35 s29) s29
  λ v33 s34=>gdK (.b (neg c31)) false (λ k36=>onBx v33 λ c39=>k36 (.b (neg c39)) s34) s34 λ v37 s38=>pkK (.b (neg c31)) (.ok (.b true)) (.ok v37)
  λ v40=>nx (λ e41 s42=>jn (idk) λ k43=>ko e41 27 λ v44=>cdK v44 (ko e41 0 λ v45=>bnr (cl 354 [v45,(.i (.ofNat 10))] s42) λ v46 s47=>
  onBx v46 λ c48=>nx (λ e49 s50=>.ok .r e49 s50) (kst e41 4 (.b (neg c48))) s47) (ko e41 8 λ v51=>onp v51 λ b52 o53=>ldK b52 (Nat.add o53 0)
  s42 λ v54=>ko e41 0 λ v55=>onp v55 λ b56 o57=>ldK b56 (Nat.add o57 11) s42 λ v58=>onBx v54 λ c59=>onBx v58 λ c60=>nx (λ e61 s62=>
  jn (k43) λ k63=>ko e61 37 λ v64=>cdK v64 (ko e61 0 λ v65=>bnr (cl 354 [v65,(.i (.ofNat 4))] s62) λ v66 s67=>onBx v66 λ c68=>nx (λ e69
  s70=>.ok .r e69 s70) (kst e61 4 (.b (neg c68))) s67) (ko e61 6 λ v71=>oni v71 λ n72=>gdK (.b (cmI .ne n72 (.ofNat 0))) true (λ k73=>ko e61 0
  λ v76=>k73 v76 s62) s62 λ v74 s75=>gdK (.b (cmI .ne n72 (.ofNat 0))) true (λ k77=>onp v74 λ b80 o81=>k77 (.p b80 o81) s75) s75 λ v78 s79=>
  gdK (.b (cmI .ne n72 (.ofNat 0))) true (λ k82=>onp v78 λ b85 o86=>k82 (.p b85 (Nat.add o86 11)) s79) s79 λ v83 s84=>gdK (.b (cmI .ne n72 (.ofNat
  0))) true (λ k87=>onp v83 λ b90 o91=>ldK b90 o91 s84 λ v92=>k87 v92 s84) s84 λ v88 s89=>gdK (.b (cmI .ne n72 (.ofNat 0))) true (λ k93=>k93
  v88 s89) s89 λ v94 s95=>gdK v94 false (λ k96=>ko e61 6 λ v99=>k96 v99 s95) s95 λ v97 s98=>gdK v94 false (λ k100=>oni v97 λ n103=>k100
  (.b (cmI .ne n103 (.ofNat 1))) s98) s98 λ v101 s102=>gdK (.b (cmI .ne n72 (.ofNat 0))) true (λ k104=>pkK v94 (.ok (.b true)) (.ok v101) λ v107=>
  k104 v107 s102) s102 λ v105 s106=>pkK (.b (cmI .ne n72 (.ofNat 0))) (.ok v105) (.ok (.b false)) λ v108=>nx (λ e109 s110=>jn (k63) λ k111=>ko
  e109 48 λ v112=>cdK v112 (ko e109 0 λ v113=>bnr (cl 354 [v113,(.i (.ofNat 10))] s110) λ v114 s115=>onBx v114 λ c116=>nx (λ e117 s118=>
  .ok .r e117 s118) (kst e109 4 (.b (neg c116))) s115) (ko e109 0 λ v119=>onp v119 λ b120 o121=>ldK b120 (Nat.add o121 11) s110 λ v122=>nx (λ
  e123 s124=>jn (k111) λ k125=>ko e123 64 λ v126=>cdK v126 (ko e123 0 λ v127=>ko e123 0 λ v128=>ko e123 8 λ v129=>onp v129 λ b130 o131
 =>ldK b130 (Nat.add o131 1) s124 λ v132=>onSlx v132 λ b133 o134 q135=>onON (nat (.ofNat 0)) λ i136=>ifX (Nat.blt i136 q135) (ldK b133 (Nat.add
  o134 (Nat.mul i136 1)) s124 λ v137=>onp v127 λ b138 o139=>bnr (stV b138 (Nat.add o139 20) v137 s124) λ v140 s141=>onp v128 λ b142 o143=>
  bnr (stV b142 (Nat.add o143 12) (.i (.ofNat 2)) s141) λ v144 s145=>nx (λ e146 s147=>nx (λ e148 s149=>.ok .r e148 s149) (kst e146 4 (.b true))
  s147) e123 s145)) (k125 e123 s124)) (kst e109 64 v122) s110)) (kst e61 48 v108) s106)) (kst e41 37 (.b (neg (eqB c59 c60)))) s42)) (kst e28 27 v40) s38) 0
  (λ e150 s151=>ko e150 8 λ v152=>onp v152 λ b153 o154=>bnr (ldnP 2 b153 o154 s151) λ v155 s156=>ko e150 0 λ v157=>onp v157 λ b158 o159
 =>ldK b158 (Nat.add o159 10) s151 λ v160=>bnr (cl 260 [v155,v160] s151) λ v161 s162=>extK v161 0 λ v163=>extK v161 1 λ v164=>extK v161 2
  λ v165=>nx (λ e166 s167=>bkK (ko e166 7 λ v168=>onBx v168 λ c169=>nx (λ e170 s171=>jn (idk) λ k172=>ko e170 89 λ v173=>cdK v173 (ko
  e170 0 λ v174=>bnr (cl 354 [v174,(.i (.ofNat 5))] s171) λ v175 s176=>onBx v175 λ c177=>nx (λ e178 s179=>.ok .r e178 s179) (kst e170 4 (.b
  (neg c177))) s176) (ko e170 6 λ v180=>oni v180 λ n181=>gdK (.b (cmI .eq n181 (.ofNat 1))) false (λ k182=>ko e170 10 λ v185=>k182 v185 s171)
  s171 λ v183 s184=>gdK (.b (cmI .eq n181 (.ofNat 1))) false (λ k186=>oni v183 λ n189=>k186 (.b (cmI .eq n189 (.ofNat 0))) s184) s184 λ v187 s188
 =>pkK (.b (cmI .eq n181 (.ofNat 1))) (.ok (.b true)) (.ok v187) λ v190=>nx (λ e191 s192=>jn (k172) λ k193=>ko e191 95 λ v194=>cdK v194 (ko
  e191 0 λ v195=>ko e191 8 λ v196=>onp v196 λ b197 o198=>ldK b197 (Nat.add o198 1) s192 λ v199=>ko e191 0 λ v200=>onp v200 λ b201 o202=>
  ldK b201 (Nat.add o202 10) s192 λ v203=>onSlx v199 λ b204 o205 q206=>oni v203 λ n208=>onON (nat n208) λ i207=>ifX (Nat.blt i207 q206) (ldK
  b204 (Nat.add o205 (Nat.mul i207 1)) s192 λ v209=>onp v195 λ b210 o211=>bnr (stV b210 (Nat.add o211 20) v209 s192) λ v212 s213=>nx (λ e214
  s215=>ko e214 0 λ v216=>ko e214 0 λ v217=>onp v217 λ b218 o219=>ldK b218 (Nat.add o219 9) s215 λ v220=>ko e214 10 λ v221=>oni v220 λ
  n222=>oni v221 λ n223=>frcI (wrapI (arI .add n222 n223)) λ n224=>ko e214 11 λ v225=>bnr (cl 353 [v216,(.i n224),v225] s215) λ v226 s227=>
  onBx v226 λ c228=>nx (λ e229 s230=>.ok .r e229 s230) (kst e214 4 (.b (neg c228))) s227) e191 s213)) (k193 e191 s192)) (kst e170 95 v190) s188)) (kst
  e166 89 (.b (neg c169))) s167) 1 (λ e231 s232=>ko e231 0 λ v233=>ko e231 0 λ v234=>ko e231 0 λ v235=>ko e231 0 λ v236=>ko e231 8 λ v237
 =>onp v237 λ b238 o239=>ldK b238 (Nat.add o239 1) s232 λ v240=>ko e231 0 λ v241=>onp v241 λ b242 o243=>ldK b242 (Nat.add o243 10) s232 λ
  v244=>onSlx v240 λ b245 o246 q247=>oni v244 λ n249=>onON (nat n249) λ i248=>ifX (Nat.blt i248 q247) (ldK b245 (Nat.add o246 (Nat.mul i248 1))
  s232 λ v250=>ko e231 10 λ v251=>ko e231 11 λ v252=>onp v233 λ b253 o254=>bnr (stV b253 (Nat.add o254 20) v250 s232) λ v255 s256=>ko e231
  0 λ v257=>ifX (eqV v234 v257) (ko e231 0 λ v258=>ifX (eqV v235 v258) (ko e231 0 λ v259=>ifX (eqV v236 v259) (ko e231 10 λ v260=>ifX (eqV v251
  v260) (ko e231 11 λ v261=>ifX (eqV v252 v261) (onp v257 λ b262 o263=>bnr (stV b262 (Nat.add o263 14) v260 s256) λ v264 s265=>ko e231 0 λ v266
 =>ifX (eqV v258 v266) (ko e231 0 λ v267=>ifX (eqV v259 v267) (ko e231 11 λ v268=>ifX (eqV v261 v268) (onp v266 λ b269 o270=>bnr (stV b269
  (Nat.add o270 15) v268 s265) λ v271 s272=>ko e231 0 λ v273=>ifX (eqV v267 v273) (onp v273 λ b274 o275=>bnr (stV b274 (Nat.add o275 12) (.i
  (.ofNat 1)) s272) λ v276 s277=>nx (λ e278 s279=>nx (λ e280 s281=>.ok .r e280 s281) (kst e278 4 (.b true)) s279) e231 s277)))))))))))) (kst (kst
  (kst e150 10 v163) 11 v164) 7 v165) s162)) (kst (kst e9 8 v21) 9 v20) s27) (kst (kst (kst e1 5 v6) 6 v7) 7 v8) s5) (kst env 4 (.b false)) s
theorem fe352 : rf352 = fastOf kf352 := by kernel_rfl
def rf353 : RFun := .mk 3 [.t 6] λ cl env s=>nx (λ e1 s2=>ko e1 0 λ v3=>onp v3 λ b4 o5=>bnr (ldnP 9 b4 (Nat.add o5 0) s2) λ v6 s7=>ko e1 1 λ v8=>ko e1 2 λ v9=>bnr (cl 254 [v6,
  v8,v9] s7) λ v10 s11=>extK v10 0 λ v12=>extK v10 1 λ v13=>nx (λ e14 s15=>ko e14 8 λ v16=>oni v16 λ n17=>nx (λ e18 s19=>jn (λ
  e27 s28=>ko e27 0 λ v29=>ko e27 0 λ v30=>ko e27 7 λ v31=>onp v29 λ b32 o33=>bnr (stV b32 (Nat.add o33 12) (.i (.ofNat 6)) s28) λ v34 s35
 =>onp v30 λ b36 o37=>bnr (stV b36 (Nat.add o37 19) v31 s35) λ v38 s39=>nx (λ e40 s41=>nx (λ e42 s43=>.ok .r e42 s43) (kst e40 6 (.b true))
  s41) e27 s39) λ k20=>ko e18 20 λ v21=>cdK v21 (ko e18 0 λ v22=>bnr (cl 354 [v22,(.i (.ofNat 10))] s19) λ v23 s24=>nx (λ e25 s26=>.ok .r
  e25 s26) (kst e18 6 v23) s24) (k20 e18 s19)) (kst e14 20 (.b (cmI .ne n17 (.ofNat 0)))) s15) (kst (kst e1 7 v12) 8 v13) s11) (kst env 6 (.b false)) s
theorem fe353 : rf353 = fastOf kf353 := by kernel_rfl
def rf356 : RFun := .mk 2 [.t 4] λ cl env s=>nx (λ e1 s2=>ko e1 0 λ v3=>bnr (lenV v3 s2) λ v4 s5=>nx (λ e6 s7=>bkK (bindX (lpR (λ cl e8 s9=>ko e8 8 λ v10=>ko e8 7 λ v11=>oni
  v10 λ n12=>oni v11 λ n13=>nx (λ e14 s15=>jn (λ e18 s19=>bkK (ko e18 8 λ v20=>nx (λ e21 s22=>ko e21 1 λ v23=>ko e21 0 λ v24=>ko
  e21 5 λ v25=>onSlx v24 λ b26 o27 q28=>oni v25 λ n30=>onON (nat n30) λ i29=>ifX (Nat.blt i29 q28) (bnr (ldnP 8 b26 (Nat.add o27 (Nat.mul i29
  8)) s22) λ v31 s32=>cvK v23 [v31] s32 cl λ v33 s34=>nx (λ e35 s36=>jn (idk) λ k37=>ko e35 16 λ v38=>cdK v38 (ko e35 5 λ v39=>nx (λ
  e40 s41=>.ok .r e40 s41) (kst e35 4 v39) s36) (k37 e35 s36)) (kst e21 16 v33) s34)) (kst e18 5 v20) s19) 1 (λ e42 s43=>ko e42 8 λ v44=>oni v44
  λ n45=>frcI (wrapI (arI .add n45 (.ofNat 1))) λ n46=>nx (idk) (kst e42 8 (.i n46)) s43)) λ k16=>ko e14 9 λ v17=>cdK v17 (k16 e14 s15) (.ok (.x
  0) e14 s15)) (kst e8 9 (.b (cmI .lt n12 n13))) s9) lpFuel cl e6 s7) (idk)) 0 (λ e47 s48=>nx (λ e49 s50=>.ok .r e49 s50) (kst e47 4 (.i (.negSucc 0)))
  s48)) (kst (kst e1 7 v4) 8 (.i (.ofNat 0))) s5) (kst env 4 (.i (.ofNat 0))) s
theorem fe356 : rf356 = fastOf kf356 := by kernel_rfl
def rf357 : RFun := .mk 2 [.t 3] λ cl env s=>ko env 0 λ v1=>bnr (boxV v1 s) λ v2 s3=>nx (λ e4 s5=>ko e4 2 λ v6=>onp v6 λ b7 o8=>ldK b7 (Nat.add (Nat.add o8 0) 0) s5 λ v9=>ko e4 1
  λ v10=>onp v10 λ b11 o12=>ldK b11 o12 s5 λ v13=>oni v9 λ n14=>oni v13 λ n15=>nx (λ e16 s17=>.ok .r e16 s17) (kst e4 3 (.b (cmI .eq
  n14 n15))) s5) (kst (kst env 2 v2) 3 (.b false)) s3
theorem fe357 : rf357 = fastOf kf357 := by kernel_rfl
def rf358 : RFun := .mk 2 [.t 4,.t 5] λ cl env s=>ko env 0 λ v1=>bnr (boxV v1 s) λ v2 s3=>nx (λ e4 s5=>bnr (eKp (.q .mkm) .nil s5 cl) λ v6 s7=>nx (λ e8 s9=>ko e8 1 λ v10=>bnr (lenV
  v10 s9) λ v11 s12=>nx (λ e13 s14=>bkK (bindX (lpR (λ cl e15 s16=>ko e15 14 λ v17=>ko e15 13 λ v18=>oni v17 λ n19=>oni v18 λ n20=>
  nx (λ e21 s22=>jn (λ e25 s26=>bkK (ko e25 12 λ v27=>ko e25 14 λ v28=>onSlx v27 λ b29 o30 q31=>oni v28 λ n33=>onON (nat n33) λ i32=>
  ifX (Nat.blt i32 q31) (ldK b29 (Nat.add o30 (Nat.mul i32 1)) s26 λ v34=>nx (λ e35 s36=>ko e35 2 λ v37=>onp v37 λ b38 o39=>bnr (ldnP 9 b38
  o39 s36) λ v40 s41=>ko e35 8 λ v42=>bnr (cl 254 [v40,v42,(.i (.ofNat 0))] s41) λ v43 s44=>extK v43 0 λ v45=>extK v43 1 λ v46=>nx (λ
  e47 s48=>ko e47 10 λ v49=>oni v49 λ n50=>nx (λ e51 s52=>jn (λ e57 s58=>ko e57 6 λ v59=>ko e57 8 λ v60=>bnr (eKp (.q (.mup (.c v59)
  (.c v60) (.c (.b true)))) .nil s58 cl) λ v61 s62=>nx (idk) e57 s62) λ k53=>ko e51 25 λ v54=>cdK v54 (nx (λ e55 s56=>.ok .r e55 s56) (kst (kst
  e51 4 (.b true)) 5 (.b false)) s52) (k53 e51 s52)) (kst e47 25 (.b (cmI .ne n50 (.ofNat 0)))) s48) (kst e35 10 v46) s44) (kst e25 8 v34) s26)) 1 (λ e63
  s64=>ko e63 14 λ v65=>oni v65 λ n66=>frcI (wrapI (arI .add n66 (.ofNat 1))) λ n67=>nx (idk) (kst e63 14 (.i n67)) s64)) λ k23=>ko e21 15
  λ v24=>cdK v24 (k23 e21 s22) (.ok (.x 0) e21 s22)) (kst e15 15 (.b (cmI .lt n19 n20))) s16) lpFuel cl e13 s14) (idk)) 0 (λ e68 s69=>ko e68 6 λ v70
 =>bnr (eKp (.q (.lenm (.c v70))) .nil s69 cl) λ v71 s72=>ko e68 1 λ v73=>bnr (lenV v73 s72) λ v74 s75=>oni v71 λ n76=>oni v74 λ n77=>
  nx (λ e78 s79=>.ok .r e78 s79) (kst (kst e68 4 (.b false)) 5 (.b (cmI .lt n76 n77))) s75)) (kst (kst (kst e8 12 v10) 13 v11) 14 (.i (.ofNat 0))) s12)
  (kst e4 6 v6) s7) (kst (kst (kst env 2 v2) 4 (.b false)) 5 (.b false)) s3
theorem fe358 : rf358 = fastOf kf358 := by kernel_rfl
def rf359 : RFun := .mk 1 [.t 2] λ cl env s=>nx (λ e1 s2=>ko e1 0 λ v3=>ko e1 0 λ v4=>bnr (eKp (.q (.fcm .ne (.c v3) (.c v4))) .nil s2 cl) λ v5 s6=>nx (λ e7 s8=>jn (λ e13 s14=>ko
  e13 0 λ v15=>bnr (eKp (.q (.f64b (.c v15))) .nil s14 cl) λ v16 s17=>nx (λ e18 s19=>.ok .r e18 s19) (kst e13 2 v16) s17) λ k9=>ko e7 5 λ
  v10=>cdK v10 (nx (λ e11 s12=>.ok .r e11 s12) (kst e7 2 (.k .u64 (.ofNat 9221120237041090560))) s8) (k9 e7 s8)) (kst e1 5 v5) s6) (kst env 2 (.k .u64
  (.ofNat 0))) s
theorem fe359 : rf359 = fastOf kf359 := by kernel_rfl
def rf360 : RFun := .mk 4 [.t 8,.t 9] λ cl env s=>nx (λ e1 s2=>ko e1 0 λ v3=>onp v3 λ b4 o5=>bnr (ldnP 9 b4 (Nat.add o5 0) s2) λ v6 s7=>ko e1 2 λ v8=>ko e1 3 λ v9=>bnr (cl 254 [v6,
  v8,v9] s7) λ v10 s11=>extK v10 0 λ v12=>extK v10 1 λ v13=>nx (λ e14 s15=>ko e14 11 λ v16=>oni v16 λ n17=>nx (λ e18 s19=>jn (λ
  e24 s25=>ko e24 1 λ v26=>ko e24 10 λ v27=>bnr (cl 149 [v26,v27] s25) λ v28 s29=>extK v28 0 λ v30=>extK v28 1 λ v31=>nx (λ e32 s33=>
  ko e32 12 λ v34=>ko e32 11 λ v35=>oni v35 λ n36=>nx (λ e37 s38=>.ok .r e37 s38) (kst (kst e32 8 v34) 9 (.b (cmI .eq n36 (.ofNat 0)))) s33)
  (kst (kst e24 12 v30) 11 v31) s29) λ k20=>ko e18 24 λ v21=>cdK v21 (nx (λ e22 s23=>.ok .r e22 s23) (kst (kst e18 8 (.z 0 0)) 9 (.b false)) s19)
  (k20 e18 s19)) (kst e14 24 (.b (cmI .ne n17 (.ofNat 0)))) s15) (kst (kst e1 10 v12) 11 v13) s11) (kst (kst env 8 (.z 0 0)) 9 (.b false)) s
theorem fe360 : rf360 = fastOf kf360 := by kernel_rfl
def rf361 : RFun := .mk 2 [.t 4] λ cl env s=>nx (λ e1 s2=>ko e1 1 λ v3=>bnr (cl 171 [v3] s2) λ v4 s5=>extK v4 0 λ v6=>extK v4 1 λ v7=>extK v4 2 λ v8=>nx (λ e9 s10=>ko e9 0 λ
  v11=>onp v11 λ b12 o13=>bnr (ldnP 9 b12 (Nat.add o13 0) s10) λ v14 s15=>ko e9 5 λ v16=>bnr (cl 173 [v14,v16] s15) λ v17 s18=>extK v17 0
  λ v19=>extK v17 1 λ v20=>bnr (eNew [.b false,.ns] .nil s18 cl) λ v21 s22=>onp v21 λ b23 o24=>onAx v19 λ l25=>bnr (stnA 2 b23 o24 l25
  s22) λ v26 s27=>nx (λ e28 s29=>ko e28 7 λ v30=>onBx v30 λ c31=>gdK (.b (neg c31)) false (λ k32=>ko e28 9 λ v35=>k32 v35 s29) s29 λ
  v33 s34=>gdK (.b (neg c31)) false (λ k36=>onBx v33 λ c39=>k36 (.b (neg c39)) s34) s34 λ v37 s38=>pkK (.b (neg c31)) (.ok (.b true)) (.ok v37) λ
  v40=>gdK v40 false (λ k41=>ko e28 6 λ v44=>k41 v44 s38) s38 λ v42 s43=>gdK v40 false (λ k45=>oni v42 λ n48=>k45 (.b (cmI .gt n48 (.ofNat
  1))) s43) s43 λ v46 s47=>pkK v40 (.ok (.b true)) (.ok v46) λ v49=>gdK v49 false (λ k50=>ko e28 8 λ v53=>onp v53 λ b54 o55=>k50 (.p b54
  (Nat.add o55 0)) s47) s47 λ v51 s52=>gdK v49 false (λ k56=>onp v51 λ b59 o60=>ldK b59 o60 s52 λ v61=>k56 v61 s52) s52 λ v57 s58=>gdK v49
  false (λ k62=>k62 v57 s58) s58 λ v63 s64=>gdK v63 true (λ k65=>ko e28 6 λ v68=>k65 v68 s64) s64 λ v66 s67=>gdK v63 true (λ k69=>oni
  v66 λ n72=>k69 (.b (cmI .gt n72 (.ofNat 0))) s67) s67 λ v70 s71=>gdK v49 false (λ k73=>pkK v63 (.ok v70) (.ok (.b false)) λ v76=>k73 v76 s71)
  s71 λ v74 s75=>pkK v49 (.ok (.b true)) (.ok v74) λ v77=>nx (λ e78 s79=>jn (λ e84 s85=>ko e84 0 λ v86=>ko e84 8 λ v87=>onp v87 λ b88
  o89=>bnr (ldnP 2 b88 o89 s85) λ v90 s91=>onp v86 λ b92 o93=>onAx v90 λ l94=>bnr (stnA 2 b92 (Nat.add o93 12) l94 s91) λ v95 s96=>nx (λ
  e97 s98=>ko e97 8 λ v99=>onp v99 λ b100 o101=>ldK b100 (Nat.add o101 0) s98 λ v102=>nx (λ e103 s104=>jn (λ e116 s117=>ko e116 0 λ v118
 =>ko e116 0 λ v119=>bnr (cl 374 [v119] s117) λ v120 s121=>onp v118 λ b122 o123=>bnr (stV b122 (Nat.add o123 16) v120 s121) λ v124 s125=>
  nx (λ e126 s127=>ko e126 0 λ v128=>ko e126 0 λ v129=>bnr (cl 375 [v129] s127) λ v130 s131=>onp v128 λ b132 o133=>bnr (stV b132
  (Nat.add o133 11) v130 s131) λ v134 s135=>nx (λ e136 s137=>nx (λ e138 s139=>.ok .r e138 s139) (kst e136 4 (.b true)) s137) e126 s135) e116 s125)
  λ k105=>ko e103 48 λ v106=>cdK v106 (ko e103 0 λ v107=>onp v107 λ b108 o109=>bnr (stV b108 (Nat.add o109 11) (.i (.ofNat 5)) s104) λ v110
  s111=>nx (λ e112 s113=>nx (λ e114 s115=>.ok .r e114 s115) (kst e112 4 (.b true)) s113) e103 s111) (k105 e103 s104)) (kst e97 48 v102) s98) e84 s96)
  λ k80=>ko e78 42 λ v81=>cdK v81 (nx (λ e82 s83=>.ok .r e82 s83) (kst e78 4 (.b false)) s79) (k80 e78 s79)) (kst e28 42 v77) s75) (kst (kst e9 8
  v21) 9 v20) s27) (kst (kst (kst e1 5 v6) 6 v7) 7 v8) s5) (kst env 4 (.b false)) s
theorem fe361 : rf361 = fastOf kf361 := by kernel_rfl
def rf363 : RFun := .mk 3 [.t 6] λ cl env s=>nx (λ e1 s2=>bindX (scR (hC.hAt (.seq (.reg [7] [.s 7 (.mv (.c (.z 0 0)))]) (.seq (.reg [8,9] [.s 8 (.mv (kI 0)),.s 9 (.mv (.c (.b true)))]) (.seq (.seq
  (.reg [13] [kM 10 0,kC 11 10,kO 12 11 11,kL 13 12]) (.blk 0 (.seq (.reg [14] [.s 15 (.cm .eq (.t 13) (kI 2)),kM 14 15]) (.cond (.t 14) (.goto 0) (.seq
  (.reg [16] [.s 17 (.cm .eq (.t 13) (kI 3)),kM 16 17]) (.cond (.t 16) (.goto 1) (.seq (.reg [18] [.s 19 (.cm .eq (.t 13) (kI 4)),kM 18 19]) (.cond (.t 18)
  (.goto 2) .skip)))))))) (.seq (.seq (.drw [7,9] [.mk 0 1 true (kM 21 0),.mk 1 2 true (kM 22 1),.mk 2 4 true (kM 23 0),.mk 3 12 true (kC 24 23),.mk 4 28
  true (kO 25 24 14),.mk 5 60 true (kL 26 25),.mk 6 64 true (kM 27 0),.mk 7 192 true (kC 28 27),.mk 8 448 true (kO 29 28 16),.mk 9 960 true (kL 30 29),.mk
  10 1984 true (.s 31 (.ixp (.t 30) (kI 0) 1)),.mk 11 4032 true (kL 32 31),.mk 12 8191 false (.s 33 (.call 360 [(.t 21),(.t 22),(.t 26),(.t 32)])),.mk 13
  16383 true (kM 20 33),.mk 14 32767 true (kE 34 20 0),.mk 15 49151 true (kE 35 20 1),.mk 16 98303 true (kM 7 34),.mk 17 262143 true (kM 9 35)] [.mk 4096
  8191 (.s 33 (.call 360 [(.t 21),(.t 22),(.t 26),(.t 32)]))]) (.seq (.reg [42] [kM 36 9,.s 37 (.not (.t 36)),kM 38 37,.gs 38 false 39 (.mv (.t 7)),.gs 38
  false 40 (.call 220 [(.t 39)]),.gs 38 false 41 (.not (.t 40)),.s 42 (.pick (.t 38) (.c (.b true)) (.t 41))]) (.cond (.t 42) (.seq (.reg [6] [.s 6 (.mv (.c
  (.b false)))]) .ret) .skip))) (.seq (.reg [] [kM 43 0,kM 44 0,kC 45 44,kO 46 45 16,kL 47 46,.s 48 (.q (.sli (.t 47) 1 (.ok (kI 1)) .no)),kC 49 43,kO 50
  49 16,.n (.st (.t 50) (.t 48))]) (.seq (.seq (.reg [9] [kM 52 0,kM 53 7,.s 54 (.call 150 [(.t 53)]),kM 51 54,kE 55 51 0,kE 56 51 1,kC 57 52,kO 58 57
  17,.n (.st (.t 58) (.t 55)),kM 9 56]) (.seq (.reg [59] [kM 59 9]) (.cond (.t 59) (.seq (.reg [] [kM 60 0,kC 61 60,kO 62 61 11,.n (.st (.t 62) (kI 2))])
  (.seq (.reg [6] [.s 6 (.mv (.c (.b true)))]) .ret)) .skip))) (.seq (.goto 3) (.seq (.label 0) (.seq (.drw [] [.mk 0 1 true (kM 63 2),.mk 1 2 true (kM 64 0),
  .mk 2 6 true (kC 65 64),.mk 3 14 true (kO 66 65 17),.mk 4 30 true (kL 67 66),.mk 5 32 true (kM 68 0),.mk 6 96 true (kC 69 68),.mk 7 224 true (kO 70 69
  10),.mk 8 480 true (kL 71 70),.mk 9 1023 false (.s 72 (.call 148 [(.t 63),(.t 67),(.t 71)]))] [.mk 512 1023 (.s 72 (.call 148 [(.t 63),(.t 67),(.t
  71)]))]) (.seq (.goto 3) (.seq (.label 1) (.seq (.seq (.reg [7,9] [kM 74 0,kM 75 1,kM 76 0,kC 77 76,kO 78 77 14,kL 79 78,.s 80 (.call 360 [(.t 74),(.t
  75),(.t 79),(kI 0)]),kM 73 80,kE 81 73 0,kE 82 73 1,kM 7 81,kM 9 82]) (.seq (.reg [84] [kM 83 9,.s 84 (.not (.t 83))]) (.cond (.t 84) (.seq (.reg [6]
  [.s 6 (.mv (.c (.b false)))]) .ret) .skip))) (.seq (.seq (.reg [8,9] [kM 86 7,.s 87 (.call 150 [(.t 86)]),kM 85 87,kE 88 85 0,kE 89 85 1,kM 8 88,kM 9
  89]) (.seq (.reg [100] [kM 90 9,.s 91 (.not (.t 90)),kM 92 91,.gs 92 false 93 (.mv (.t 8)),.gs 92 false 94 (.mv (.t 0)),.gs 92 false 95 (.ck (.t 94)),.gs
  92 false 96 (.off (.t 95) 0),.gs 92 false 97 (.off (.t 96) 0),.gs 92 false 98 (.ld (.t 97)),.gs 92 false 99 (.cm .ge (.t 93) (.t 98)),.s 100 (.pick (.t 92)
  (.c (.b true)) (.t 99))]) (.cond (.t 100) (.seq (.reg [6] [.s 6 (.mv (.c (.b false)))]) .ret) .skip))) (.seq (.reg [] [kM 101 0,kM 102 0,kM 103 8,kC 104
  101,kO 105 104 14,.n (.st (.t 105) (.t 103)),kC 106 102,kO 107 106 11,.n (.st (.t 107) (kI 4))]) (.seq (.reg [] [kM 108 0,kC 109 108,kO 110 109 15,kL
  111 110,.s 112 (.ar .add (.t 111) (kI 1)),kC 113 108,kO 114 113 15,.n (.st (.t 114) (.t 112))]) (.seq (.seq (.reg [6] [.s 6 (.mv (.c (.b true)))]) .ret)
  (.seq (.label 2) (.seq (.drw [] [.mk 0 1 true (kM 115 2),.mk 1 2 true (kM 116 0),.mk 2 6 true (kC 117 116),.mk 3 14 true (kO 118 117 14),.mk 4 30 true (kL
  119 118),.mk 5 32 true (kM 120 0),.mk 6 96 true (kC 121 120),.mk 7 224 true (kO 122 121 10),.mk 8 480 true (kL 123 122),.mk 9 1023 false (.s 124 (.call
  377 [(.t 115),(.t 119),(.t 123)]))] [.mk 512 1023 (.s 124 (.call 377 [(.t 115),(.t 119),(.t 123)]))]) (.seq (.reg [] [kM 125 0,kM 126 0,.s 127 (.call 374
  [(.t 126)]),kC 128 125,kO 129 128 16,.n (.st (.t 129) (.t 127))]) (.seq (.label 3) (.seq (.reg [] [kM 130 0,kM 131 0,.s 132 (.call 375 [(.t 131)]),kC 133
  130,kO 134 133 11,.n (.st (.t 134) (.t 132))]) (.seq (.reg [6] [.s 6 (.mv (.c (.b true)))]) .ret))))))))))))))))))))))) lpFuel (λ cl e3 s4=>nx (λ e5 s6
 =>nx (λ e7 s8=>ko e7 0 λ v9=>onp v9 λ b10 o11=>ldK b10 (Nat.add o11 11) s8 λ v12=>nx (λ e13 s14=>bkK (ko e13 13 λ v15=>oni v15 λ
  n16=>nx (λ e17 s18=>jn (idk) λ k19=>ko e17 14 λ v20=>cdK v20 (.ok (.g 0) e17 s18) (ko e17 13 λ v21=>oni v21 λ n22=>nx (λ e23 s24=>jn
  (k19) λ k25=>ko e23 16 λ v26=>cdK v26 (.ok (.g 1) e23 s24) (ko e23 13 λ v27=>oni v27 λ n28=>nx (λ e29 s30=>jn (k25) λ k31=>ko e29 18
  λ v32=>cdK v32 (.ok (.g 2) e29 s30) (k31 e29 s30)) (kst e23 18 (.b (cmI .eq n28 (.ofNat 4)))) s24)) (kst e17 16 (.b (cmI .eq n22 (.ofNat 3)))) s18))
  (kst e13 14 (.b (cmI .eq n16 (.ofNat 2)))) s14) 0 (λ e33 s34=>ko e33 0 λ v35=>ko e33 1 λ v36=>ko e33 0 λ v37=>onp v37 λ b38 o39=>ldK b38
  (Nat.add o39 14) s34 λ v40=>ko e33 0 λ v41=>onp v41 λ b42 o43=>ldK b42 (Nat.add o43 16) s34 λ v44=>onSlx v44 λ b45 o46 q47=>onON (nat
  (.ofNat 0)) λ i48=>ifX (Nat.blt i48 q47) (ldK b45 (Nat.add o46 (Nat.mul i48 1)) s34 λ v49=>bnr (cl 360 [v35,v36,v40,v49] s34) λ v50 s51=>extK
  v50 0 λ v52=>extK v50 1 λ v53=>nx (λ e54 s55=>ko e54 9 λ v56=>onBx v56 λ c57=>gdK (.b (neg c57)) false (λ k58=>ko e54 7 λ v61=>k58
  v61 s55) s55 λ v59 s60=>gdK (.b (neg c57)) false (λ k62=>bnr (cl 220 [v59] s60) λ v65 s66=>k62 v65 s66) s60 λ v63 s64=>gdK (.b (neg c57))
  false (λ k67=>onBx v63 λ c70=>k67 (.b (neg c70)) s64) s64 λ v68 s69=>pkK (.b (neg c57)) (.ok (.b true)) (.ok v68) λ v71=>nx (λ e72 s73=>jn
  (λ e78 s79=>ko e78 0 λ v80=>ko e78 0 λ v81=>onp v81 λ b82 o83=>ldK b82 (Nat.add o83 16) s79 λ v84=>bnr (eKp (.q (.sli (.c v84) 1 (.ok
  (.c (.i (.ofNat 1)))) .no)) .nil s79 cl) λ v85 s86=>onp v80 λ b87 o88=>bnr (stV b87 (Nat.add o88 16) v85 s86) λ v89 s90=>nx (λ e91 s92=>ko
  e91 0 λ v93=>ko e91 7 λ v94=>bnr (cl 150 [v94] s92) λ v95 s96=>extK v95 0 λ v97=>extK v95 1 λ v98=>onp v93 λ b99 o100=>bnr (stV
  b99 (Nat.add o100 17) v97 s96) λ v101 s102=>nx (λ e103 s104=>ko e103 9 λ v105=>nx (λ e106 s107=>jn (λ e119 s120=>.ok (.g 3) e119 s120) λ
  k108=>ko e106 59 λ v109=>cdK v109 (ko e106 0 λ v110=>onp v110 λ b111 o112=>bnr (stV b111 (Nat.add o112 11) (.i (.ofNat 2)) s107) λ v113 s114
 =>nx (λ e115 s116=>nx (λ e117 s118=>.ok .r e117 s118) (kst e115 6 (.b true)) s116) e106 s114) (k108 e106 s107)) (kst e103 59 v105) s104) (kst e91 9
  v98) s102) e78 s90) λ k74=>ko e72 42 λ v75=>cdK v75 (nx (λ e76 s77=>.ok .r e76 s77) (kst e72 6 (.b false)) s73) (k74 e72 s73)) (kst e54 42 v71)
  s69) (kst (kst e33 7 v52) 9 v53) s51))) (kst e7 13 v12) s8) (kst (kst e5 8 (.i (.ofNat 0))) 9 (.b true)) s6) (kst e3 7 (.z 0 0)) s4) cl e1 s2) (idk))
  (kst env 6 (.b false)) s
theorem fe363 : rf363 = fastOf kf363 := by kernel_rfl
def rf370 : RFun := .mk 1 [.t 2] λ cl env s=>ko env 0 λ v1=>bnr (boxV v1 s) λ v2 s3=>nx (λ e4 s5=>ko e4 1 λ v6=>onp v6 λ b7 o8=>ldK b7 (Nat.add (Nat.add o8 0) 3) s5 λ v9=>oni v9
  λ n10=>nx (λ e11 s12=>.ok .r e11 s12) (kst e4 2 (.b (cmI .eq n10 (.ofNat 0)))) s5) (kst (kst env 1 v2) 2 (.b false)) s3
theorem fe370 : rf370 = fastOf kf370 := by kernel_rfl
def rf371 : RFun := .mk 2 [] λ cl env s=>ko env 0 λ v1=>onp v1 λ b2 o3=>ldK b2 (Nat.add o3 0) s λ v4=>ko env 1 λ v5=>onSlx v4 λ b6 o7 q8=>oni v5 λ n10=>onON (nat n10) λ i9=>
  ifX (Nat.blt i9 q8) (bnr (stV b6 (Nat.add o7 (Nat.mul i9 1)) (.b false) s) λ v11 s12=>nx (λ e13 s14=>ko e13 0 λ v15=>onp v15 λ b16 o17=>ldK
  b16 (Nat.add o17 1) s14 λ v18=>oni v18 λ n19=>frcI (wrapI (arI .sub n19 (.ofNat 1))) λ n20=>onp v15 λ b21 o22=>bnr (stV b21 (Nat.add o22 1)
  (.i n20) s14) λ v23 s24=>nx (idk) e13 s24) env s12)
theorem fe371 : rf371 = fastOf kf371 := by kernel_rfl
def rf374 : RFun := .mk 1 [.t 2] λ cl env s=>nx (λ e1 s2=>nx (λ e3 s4=>ko e3 0 λ v5=>onp v5 λ b6 o7=>ldK b6 (Nat.add (Nat.add o7 12) 0) s4 λ v8=>nx (λ e9 s10=>jn (λ e121 s122=>
  ko e121 0 λ v123=>onp v123 λ b124 o125=>ldK b124 (Nat.add (Nat.add o125 12) 1) s122 λ v126=>bnr (lenV v126 s122) λ v127 s128=>nx (λ e129
  s130=>bkK (bindX (lpR (λ cl e131 s132=>ko e131 56 λ v133=>ko e131 55 λ v134=>oni v133 λ n135=>oni v134 λ n136=>nx (λ e137 s138=>jn
  (λ e141 s142=>bkK (ko e141 56 λ v143=>ko e141 54 λ v144=>ko e141 56 λ v145=>onSlx v144 λ b146 o147 q148=>oni v145 λ n150=>onON (nat
  n150) λ i149=>ifX (Nat.blt i149 q148) (ldK b146 (Nat.add o147 (Nat.mul i149 1)) s142 λ v151=>nx (λ e152 s153=>ko e152 0 λ v154=>onp v154 λ
  b155 o156=>bnr (ldnP 2 b155 (Nat.add o156 12) s153) λ v157 s158=>ko e152 5 λ v159=>bnr (cl 260 [v157,v159] s158) λ v160 s161=>extK v160 0
  λ v162=>extK v160 1 λ v163=>extK v160 2 λ v164=>nx (λ e165 s166=>ko e165 6 λ v167=>gdK v167 true (λ k168=>ko e165 7 λ v171=>k168
  v171 s166) s166 λ v169 s170=>gdK v167 true (λ k172=>ko e165 0 λ v175=>k172 v175 s170) s170 λ v173 s174=>gdK v167 true (λ k176=>onp v173
  λ b179 o180=>k176 (.p b179 o180) s174) s174 λ v177 s178=>gdK v167 true (λ k181=>onp v177 λ b184 o185=>k181 (.p b184 (Nat.add o185 15)) s178)
  s178 λ v182 s183=>gdK v167 true (λ k186=>onp v182 λ b189 o190=>ldK b189 o190 s183 λ v191=>k186 v191 s183) s183 λ v187 s188=>gdK v167 true
  (λ k192=>oni v169 λ n195=>oni v187 λ n196=>k192 (.b (cmI .eq n195 n196)) s188) s188 λ v193 s194=>pkK v167 (.ok v193) (.ok (.b false)) λ
  v197=>nx (λ e198 s199=>jn (idk) λ k200=>ko e198 79 λ v201=>cdK v201 (ko e198 3 λ v202=>ko e198 8 λ v203=>bnr (oL (fill (.cons 0 1 (.c
  v203) .nil) (repL [.i (.ofNat 0)] 1) .nil) (bsl1 1 (lenL [.i (.ofNat 0)])) s199) λ v204 s205=>bnr (ap0 1 8 (.ok v204) v202 s205) λ v206 s207=>nx
  (k200) (kst e198 3 v206) s207) (k200 e198 s199)) (kst e165 79 v197) s194) (kst (kst e152 7 v162) 8 v163) s161) (kst (kst e141 5 v143) 6 v151) s142)) 3
  (λ e208 s209=>ko e208 56 λ v210=>oni v210 λ n211=>frcI (wrapI (arI .add n211 (.ofNat 1))) λ n212=>nx (idk) (kst e208 56 (.i n212)) s209)) λ
  k139=>ko e137 57 λ v140=>cdK v140 (k139 e137 s138) (.ok (.x 2) e137 s138)) (kst e131 57 (.b (cmI .lt n135 n136))) s132) lpFuel cl e129 s130) (idk)) 2
  (λ e213 s214=>ko e213 3 λ v215=>nx (λ e216 s217=>.ok .r e216 s217) (kst e213 2 v215) s214)) (kst (kst (kst e121 54 v126) 55 v127) 56 (.i
  (.ofNat 0))) s128) λ k11=>ko e9 14 λ v12=>cdK v12 (ko e9 0 λ v13=>onp v13 λ b14 o15=>ldK b14 (Nat.add o15 15) s10 λ v16=>oni v16 λ n17
 =>frcI (wrapI (arI .mul n17 (.ofNat 8))) λ n18=>nx (λ e19 s20=>bkK (bindX (lpR (λ cl e21 s22=>ko e21 0 λ v23=>onp v23 λ b24 o25=>ldK b24
  (Nat.add (Nat.add o25 12) 1) s22 λ v26=>onSlx v26 λ b27 o28 q29=>onON (nat (.ofNat 0)) λ i30=>ifX (Nat.blt i30 q29) (ldK b27 (Nat.add o28 (Nat.mul
  i30 1)) s22 λ v31=>gdK v31 true (λ k32=>ko e21 4 λ v35=>k32 v35 s22) s22 λ v33 s34=>gdK v31 true (λ k36=>ko e21 0 λ v39=>k36 v39 s22)
  s22 λ v37 s38=>gdK v31 true (λ k40=>onp v37 λ b43 o44=>k40 (.p b43 o44) s22) s22 λ v41 s42=>gdK v31 true (λ k45=>onp v41 λ b48 o49=>
  k45 (.p b48 (Nat.add o49 18)) s22) s22 λ v46 s47=>gdK v31 true (λ k50=>onp v46 λ b53 o54=>ldK b53 o54 s22 λ v55=>k50 v55 s22) s22 λ v51 s52
 =>gdK v31 true (λ k56=>ko e21 0 λ v59=>k56 v59 s22) s22 λ v57 s58=>gdK v31 true (λ k60=>onp v57 λ b63 o64=>k60 (.p b63 o64) s22) s22 λ
  v61 s62=>gdK v31 true (λ k65=>onp v61 λ b68 o69=>k65 (.p b68 (Nat.add o69 15)) s22) s22 λ v66 s67=>gdK v31 true (λ k70=>onp v66 λ b73 o74
 =>ldK b73 o74 s22 λ v75=>k70 v75 s22) s22 λ v71 s72=>gdK v31 true (λ k76=>oni v71 λ n79=>frcI (wrapI (arI .add n79 (.ofNat 1))) λ n80=>
  k76 (.i n80) s22) s22 λ v77 s78=>gdK v31 true (λ k81=>oni v77 λ n84=>frcI (wrapI (arI .mul n84 (.ofNat 8))) λ n85=>k81 (.i n85) s22) s22 λ
  v82 s83=>gdK v31 true (λ k86=>bnr (eKp (.q (.min (.c v51) (.c v82))) .nil s22 cl) λ v89 s90=>k86 v89 s90) s22 λ v87 s88=>gdK v31 true (λ k91
 =>oni v33 λ n94=>oni v87 λ n95=>k91 (.b (cmI .lt n94 n95)) s22) s22 λ v92 s93=>pkK v31 (.ok v92) (.ok (.b false)) λ v96=>nx (λ e97 s98=>
  jn (λ e101 s102=>bkK (ko e101 3 λ v103=>ko e101 4 λ v104=>bnr (eKp (.q (.rem (.c v104) (.c (.i (.ofNat 8))))) .nil s102 cl) λ v105 s106=>
  bnr (oL (fill (.cons 0 1 (.c v105) .nil) (repL [.i (.ofNat 0)] 1) .nil) (bsl1 1 (lenL [.i (.ofNat 0)])) s106) λ v107 s108=>bnr (ap0 1 8 (.ok v107) v103
  s108) λ v109 s110=>nx (idk) (kst e101 3 v109) s110) 1 (λ e111 s112=>ko e111 4 λ v113=>oni v113 λ n114=>frcI (wrapI (arI .add n114 (.ofNat
  1))) λ n115=>nx (idk) (kst e111 4 (.i n115)) s112)) λ k99=>ko e97 41 λ v100=>cdK v100 (k99 e97 s98) (.ok (.x 0) e97 s98)) (kst e21 41 v96) s22))
  lpFuel cl e19 s20) (idk)) 0 (λ e116 s117=>ko e116 3 λ v118=>nx (λ e119 s120=>.ok .r e119 s120) (kst e116 2 v118) s117)) (kst e9 4 (.i n18)) s10)
  (k11 e9 s10)) (kst e3 14 v8) s4) (kst e1 3 (.ns)) s2) (kst env 2 (.ns)) s
theorem fe374 : rf374 = fastOf kf374 := by kernel_rfl
def rf375 : RFun := .mk 1 [.t 2] λ cl env s=>nx (λ e1 s2=>bkK (ko e1 0 λ v3=>onp v3 λ b4 o5=>ldK b4 (Nat.add o5 16) s2 λ v6=>bnr (lenV v6 s2) λ v7 s8=>oni v7 λ n9=>nx (λ e10
  s11=>jn (idk) λ k12=>ko e10 3 λ v13=>cdK v13 (nx (λ e14 s15=>.ok .r e14 s15) (kst e10 2 (.i (.ofNat 1))) s11) (ko e10 0 λ v16=>onp v16 λ
  b17 o18=>ldK b17 (Nat.add o18 15) s11 λ v19=>oni v19 λ n20=>frcI (wrapI (arI .add n20 (.ofNat 1))) λ n21=>ko e10 0 λ v22=>bnr (cl 378
  [v22] s11) λ v23 s24=>ko e10 0 λ v25=>ifX (eqV v16 v25) (onp v25 λ b26 o27=>ifX (eqV (.p b17 o18) (.p b26 o27)) (ifX (eqV (.p b17 (Nat.add o18
  15)) (.p b26 (Nat.add o27 15))) (ldK b26 (Nat.add o27 15) s24 λ v28=>ifX (eqV v19 v28) (oni v28 λ n29=>frcI (wrapI (arI .add n29 (.ofNat 1))) λ n30
 =>ifX (eqV (.i n21) (.i n30)) (oni v23 λ n31=>nx (λ e32 s33=>jn (k12) λ k34=>ko e32 10 λ v35=>cdK v35 (nx (λ e36 s37=>.ok .r e36 s37)
  (kst e32 2 (.i (.ofNat 9))) s33) (ko e32 0 λ v38=>onp v38 λ b39 o40=>ldK b39 (Nat.add (Nat.add o40 12) 0) s33 λ v41=>onBx v41 λ c42=>nx (λ
  e43 s44=>jn (k34) λ k45=>ko e43 19 λ v46=>cdK v46 (nx (λ e47 s48=>.ok .r e47 s48) (kst e43 2 (.i (.ofNat 3))) s44) (k45 e43 s44)) (kst e32 19
  (.b (neg c42))) s33)) (kst e10 10 (.b (cmI .ge n30 n31))) s24))))))) (kst e1 3 (.b (cmI .gt n9 (.ofNat 0)))) s8) 0 (λ e49 s50=>ko e49 0 λ v51=>onp
  v51 λ b52 o53=>ldK b52 (Nat.add o53 15) s50 λ v54=>oni v54 λ n55=>frcI (wrapI (arI .add n55 (.ofNat 1))) λ n56=>onp v51 λ b57 o58=>bnr
  (stV b57 (Nat.add o58 15) (.i n56) s50) λ v59 s60=>nx (λ e61 s62=>ko e61 0 λ v63=>bnr (cl 376 [v63] s62) λ v64 s65=>nx (λ e66 s67=>.ok .r
  e66 s67) (kst e61 2 v64) s65) e49 s60)) (kst env 2 (.i (.ofNat 0))) s
theorem fe375 : rf375 = fastOf kf375 := by kernel_rfl
def rf378 : RFun := .mk 1 [.t 2] λ cl env s=>nx (λ e1 s2=>ko e1 0 λ v3=>onp v3 λ b4 o5=>ldK b4 (Nat.add (Nat.add o5 12) 0) s2 λ v6=>nx (λ e7 s8=>jn (λ e19 s20=>ko e19 0 λ v21=>
  onp v21 λ b22 o23=>bnr (ldnP 2 b22 (Nat.add o23 12) s20) λ v24 s25=>bnr (cl 259 [v24,(.i (.ofNat 0))] s25) λ v26 s27=>nx (λ e28 s29=>.ok
  .r e28 s29) (kst e19 2 v26) s27) λ k9=>ko e7 7 λ v10=>cdK v10 (ko e7 0 λ v11=>onp v11 λ b12 o13=>ldK b12 (Nat.add o13 18) s8 λ v14=>bnr
  (cl 320 [v14] s8) λ v15 s16=>nx (λ e17 s18=>.ok .r e17 s18) (kst e7 2 v15) s16) (k9 e7 s8)) (kst e1 7 v6) s2) (kst env 2 (.i (.ofNat 0))) s
theorem fe378 : rf378 = fastOf kf378 := by kernel_rfl
end Go.Kx
