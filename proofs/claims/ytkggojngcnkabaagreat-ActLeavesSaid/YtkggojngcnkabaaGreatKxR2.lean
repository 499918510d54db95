/-
  Functions in the fast form; that they are the others. Printed by a program of ours.
-/
import Derived.Test.YtkggojngcnkabaaGreatKxH
import Derived.Test.YtkggojngcnkabaaGreatB10
set_option linter.unusedVariables false
set_option linter.unusedSimpArgs false
set_option maxRecDepth 1000000
namespace Go.Kx
noncomputable def rf140 : RFun := .mk 3 [.cn 6 5, .t 7] fun cl env s => ko env 1 fun v1 => bnr (boxV v1 s) fun v2 s3 => bnr (eNew [.i (.ofNat 0), .i (.ofNat 0), .i (.ofNat 0), .b false, .z 0 0] .nil s3 cl) fun v4 s5 => nx (fun e6
  s7 => ko e6 0 fun v8 => onp v8 fun b9 o10 => ldK b9 (Nat.add o10 6) s7 fun v11 => ko e6 0 fun v12 => onp v12 fun b13 o14 => ldK b13 (Nat.add (Nat.add o14 10)
  0) s7 fun v15 => ko e6 2 fun v16 => bnr (oL (fill (.cons 0 1 (.c v11) (.cons 1 1 (.c v15) (.cons 2 1 (.c v16) .nil))) [.i (.ofNat 0), .i (.ofNat 0), .i
  (.ofNat 0), .b false, .z 0 0] .nil) okA s7) fun v17 s18 => bnr (eNew [.i (.ofNat 0), .i (.ofNat 0), .i (.ofNat 0), .b false, .z 0 0] .nil s7 cl) fun v19 s20
  => ko e6 0 fun v21 => ifX (eqV v8 v21) (onp v21 fun b22 o23 => ifX (eqV (.p b9 o10) (.p b22 o23)) (ifX (eqV (.p b9 (Nat.add o10 6)) (.p b22 (Nat.add o23 6)))
  (ldK b22 (Nat.add o23 6) s20 fun v24 => ifX (eqV v11 v24) (ko e6 0 fun v25 => ifX (eqV v12 v25) (onp v25 fun b26 o27 => ifX (eqV (.p b13 o14) (.p b26 o27))
  (ifX (eqV (.p b13 (Nat.add o14 10)) (.p b26 (Nat.add o27 10))) (ifX (eqV (.p b13 (Nat.add (Nat.add o14 10) 0)) (.p b26 (Nat.add (Nat.add o27 10) 0))) (ldK b26
  (Nat.add (Nat.add o27 10) 0) s20 fun v28 => ifX (eqV v15 v28) (ko e6 2 fun v29 => ifX (eqV v16 v29) (bnr (oL (fill (.cons 0 1 (.c v24) (.cons 1 1 (.c v28)
  (.cons 2 1 (.c v29) .nil))) [.i (.ofNat 0), .i (.ofNat 0), .i (.ofNat 0), .b false, .z 0 0] .nil) okA s20) fun v30 s31 => ifX (eqV v17 v30) (onp v19 fun b32
  o33 => onAx v30 fun l34 => bnr (stnA 5 b32 o33 l34 s20) fun v35 s36 => nx (fun e37 s38 => ko e37 2 fun v39 => oni v39 fun n40 => nx (fun e41 s42 => jn (fun
  e56 s57 => ko e56 0 fun v58 => onp v58 fun b59 o60 => ldK b59 (Nat.add o60 6) s57 fun v61 => oni v61 fun n62 => frcI (wrapI (arI .add n62 (.ofNat 1))) fun
  n63 => onp v58 fun b64 o65 => bnr (stV b64 (Nat.add o65 6) (.i n63) s57) fun v66 s67 => nx (fun e68 s69 => ko e68 0 fun v70 => onp v70 fun b71 o72 => ldK
  b71 (Nat.add o72 3) s69 fun v73 => oni v73 fun n74 => nx (fun e75 s76 => jn (fun e89 s90 => ko e89 8 fun v91 => onp v91 fun b92 o93 => bnr (ldnP 5 b92 o93
  s90) fun v94 s95 => ko e89 6 fun v96 => onp v96 fun b97 o98 => onAx v94 fun l99 => bnr (stnA 5 b97 o98 l99 s95) fun v100 s101 => nx (fun e102 s103 => .ok .r
  e102 s103) (kset e89 7 (.b true)) s101) fun k77 => ko e75 35 fun v78 => cdK v78 (ko e75 0 fun v79 => ko e75 0 fun v80 => onp v79 fun b81 o82 => bnr (stV b81
  (Nat.add o82 3) (.i (.ofNat 1)) s76) fun v83 s84 => onp v80 fun b85 o86 => bnr (stV b85 (Nat.add o86 7) (.i (.ofNat 0)) s84) fun v87 s88 => nx (k77) e75
  s88) (k77 e75 s76)) (kset e68 35 (.b (cmI .ne n74 (.ofNat 4)))) s69) e56 s67) fun k43 => ko e41 21 fun v44 => cdK v44 (ko e41 4 fun v45 => onp v45 fun b46 o47
  => bnr (ldnP 2 b46 o47 s42) fun v48 s49 => ko e41 8 fun v50 => onp v50 fun b51 o52 => onAx v48 fun l53 => bnr (stnA 2 b51 (Nat.add o52 3) l53 s49) fun v54
  s55 => nx (k43) e41 s55) (k43 e41 s42)) (kset e37 21 (.b (cmI .eq n40 (.ofNat 0)))) s38) (kset e6 8 v19) s36)))))))))))) (kset (kset (kset env 4 v2) 6 v4) 7
  (.b false)) s5
theorem fe140 : rf140 = fastOf kf140 := by kernel_rfl
noncomputable def rf143 : RFun := .mk 4 [.t 8] fun cl env s => ko env 2 fun v1 => bnr (boxV v1 s) fun v2 s3 => ko env 3 fun v4 => bnr (boxV v4 s3) fun v5 s6 => nx (fun e7 s8 => nx (fun e9 s10 => ko e9 6 fun v11 => onp
  v11 fun b12 o13 => ldK b12 (Nat.add o13 0) s10 fun v14 => oni v14 fun n15 => nx (fun e16 s17 => jn (fun e76 s77 => ko e76 0 fun v78 => ko e76 7 fun v79 =>
  onp v79 fun b80 o81 => ldK b80 (Nat.add o81 1) s77 fun v82 => onp v78 fun b83 o84 => bnr (stV b83 (Nat.add (Nat.add o84 10) 7) v82 s77) fun v85 s86 => nx
  (fun e87 s88 => ko e87 0 fun v89 => ko e87 0 fun v90 => onp v89 fun b91 o92 => bnr (stV b91 (Nat.add o92 3) (.i (.ofNat 2)) s88) fun v93 s94 => onp v90 fun
  b95 o96 => bnr (stV b95 (Nat.add (Nat.add o96 10) 1) (.i (.ofNat 7)) s94) fun v97 s98 => nx (fun e99 s100 => ko e99 9 fun v101 => oni v101 fun n102 => nx
  (fun e103 s104 => .ok .r e103 s104) (kset e99 8 (.b (cmI .eq n102 (.ofNat 0)))) s100) e87 s98) e76 s86) fun k18 => ko e16 12 fun v19 => cdK v19 (ko e16 0 fun
  v20 => ko e16 1 fun v21 => onp v21 fun b22 o23 => bnr (ldnP 9 b22 (Nat.add o23 0) s17) fun v24 s25 => ko e16 6 fun v26 => onp v26 fun b27 o28 => ldK b27
  (Nat.add o28 2) s17 fun v29 => ko e16 7 fun v30 => onp v30 fun b31 o32 => ldK b31 (Nat.add o32 1) s17 fun v33 => bnr (cl 231 [v24, v29, v33] s17) fun v34
  s35 => ko e16 0 fun v36 => ifX (eqV v20 v36) (extK v34 0 fun v37 => extK v34 1 fun v38 => onp v36 fun b39 o40 => bnr (stV b39 (Nat.add (Nat.add o40 10) 8)
  v37 s35) fun v41 s42 => extK v34 1 fun v43 => ifX (eqV v38 v43) (nx (k18) (kset e16 9 v43) s42))) (ko e16 0 fun v44 => ko e16 1 fun v45 => onp v45 fun b46 o47
  => bnr (ldnP 9 b46 (Nat.add o47 0) s17) fun v48 s49 => ko e16 6 fun v50 => onp v50 fun b51 o52 => ldK b51 (Nat.add o52 2) s17 fun v53 => ko e16 6 fun v54 =>
  onp v54 fun b55 o56 => ldK b55 (Nat.add o56 4) s17 fun v57 => ko e16 7 fun v58 => onp v58 fun b59 o60 => ldK b59 (Nat.add o60 1) s17 fun v61 => ko e16 7 fun
  v62 => onp v62 fun b63 o64 => ldK b63 (Nat.add o64 2) s17 fun v65 => bnr (cl 232 [v48, v53, v57, v61, v65] s17) fun v66 s67 => ko e16 0 fun v68 => ifX (eqV
  v44 v68) (extK v66 0 fun v69 => extK v66 1 fun v70 => onp v68 fun b71 o72 => bnr (stV b71 (Nat.add (Nat.add o72 10) 8) v69 s67) fun v73 s74 => extK v66 1
  fun v75 => ifX (eqV v70 v75) (nx (k18) (kset e16 9 v75) s74)))) (kset e9 12 (.b (cmI .eq n15 (.ofNat 1)))) s10) (kset e7 9 (.i (.ofNat 0))) s8) (kset (kset
  (kset env 6 v2) 7 v5) 8 (.b false)) s6
theorem fe143 : rf143 = fastOf kf143 := by kernel_rfl
noncomputable def rf169 : RFun := .mk 1 [.t 2] fun cl env s => nx (fun e1 s2 => nx (fun e3 s4 => ko e3 0 fun v5 => onp v5 fun b6 o7 => ldK b6 (Nat.add o7 0) s4 fun v8 => bnr (lenV v8 s4) fun v9 s10 => nx (fun e11 s12 =>
  bkK (bindX (lpR (fun cl e13 s14 => ko e13 11 fun v15 => ko e13 10 fun v16 => oni v15 fun n17 => oni v16 fun n18 => nx (fun e19 s20 => jn (fun e23 s24 => bkK
  (ko e23 9 fun v25 => ko e23 11 fun v26 => onSlx v25 fun b27 o28 q29 => oni v26 fun n31 => onON (nat n31) fun i30 => ifX (Nat.blt i30 q29) (bnr (ldnP 8 b27
  (Nat.add o28 (Nat.mul i30 8)) s24) fun v32 s33 => bnr (eNew [.i (.ofNat 0), .i (.ofNat 0), .i (.ofNat 0), .i (.ofNat 0), .i (.ofNat 0), .i (.ofNat 0), .ns,
  .b false] .nil s33 cl) fun v34 s35 => onp v34 fun b36 o37 => onAx v32 fun l38 => bnr (stnA 8 b36 o37 l38 s35) fun v39 s40 => nx (fun e41 s42 => ko e41 5 fun
  v43 => onp v43 fun b44 o45 => ldK b44 (Nat.add (Nat.add o45 0) 3) s42 fun v46 => oni v46 fun n47 => nx (fun e48 s49 => jn (idk) fun k50 => ko e48 18 fun v51
  => cdK v51 (ko e48 3 fun v52 => oni v52 fun n53 => frcI (wrapI (arI .add n53 (.ofNat 1))) fun n54 => nx (k50) (kset e48 3 (.i n54)) s49) (k50 e48 s49)) (kset
  e41 18 (.b (cmI .eq n47 (.ofNat 0)))) s42) (kset e23 5 v34) s40)) 1 (fun e55 s56 => ko e55 11 fun v57 => oni v57 fun n58 => frcI (wrapI (arI .add n58 (.ofNat
  1))) fun n59 => nx (idk) (kset e55 11 (.i n59)) s56)) fun k21 => ko e19 12 fun v22 => cdK v22 (k21 e19 s20) (.ok (.x 0) e19 s20)) (kset e13 12 (.b (cmI .lt n17
  n18))) s14) lpFuel cl e11 s12) (idk)) 0 (fun e60 s61 => ko e60 3 fun v62 => nx (fun e63 s64 => .ok .r e63 s64) (kset e60 2 v62) s61)) (kset (kset (kset e3 9
  v8) 10 v9) 11 (.i (.ofNat 0))) s10) (kset e1 3 (.i (.ofNat 0))) s2) (kset env 2 (.i (.ofNat 0))) s
theorem fe169 : rf169 = fastOf kf169 := by kernel_rfl
noncomputable def rf173 : RFun := .mk 2 [.cn 4 2, .t 5] fun cl env s => ko env 0 fun v1 => bnr (boxV v1 s) fun v2 s3 => bnr (eNew [.b false, .ns] .nil s3 cl) fun v4 s5 => nx (fun e6 s7 => ko e6 1 fun v8 => oni v8 fun n9 => gdK
  (.b (cmI .lt n9 (.ofNat 0))) false (fun k10 => ko e6 1 fun v13 => k10 v13 s7) s7 fun v11 s12 => gdK (.b (cmI .lt n9 (.ofNat 0))) false (fun k14 => ko e6 2 fun
  v17 => onp v17 fun b18 o19 => k14 (.p b18 (Nat.add o19 8)) s12) s12 fun v15 s16 => gdK (.b (cmI .lt n9 (.ofNat 0))) false (fun k20 => onp v15 fun b23 o24 =>
  ldK b23 o24 s16 fun v25 => k20 v25 s16) s16 fun v21 s22 => gdK (.b (cmI .lt n9 (.ofNat 0))) false (fun k26 => bnr (lenV v21 s22) fun v29 s30 => k26 v29 s30)
  s22 fun v27 s28 => gdK (.b (cmI .lt n9 (.ofNat 0))) false (fun k31 => oni v11 fun n34 => oni v27 fun n35 => k31 (.b (cmI .ge n34 n35)) s28) s28 fun v32 s33
  => pkK (.b (cmI .lt n9 (.ofNat 0))) (.ok (.b true)) (.ok v32) fun v36 => nx (fun e37 s38 => jn (fun e51 s52 => ko e51 2 fun v53 => onp v53 fun b54 o55 => ldK
  b54 (Nat.add o55 8) s52 fun v56 => ko e51 1 fun v57 => onSlx v56 fun b58 o59 q60 => oni v57 fun n62 => onON (nat n62) fun i61 => ifX (Nat.blt i61 q60) (bnr
  (ldnP 2 b58 (Nat.add o59 (Nat.mul i61 2)) s52) fun v63 s64 => bnr (cl 201 [v63] s64) fun v65 s66 => ko e51 4 fun v67 => onp v67 fun b68 o69 => onAx v65 fun
  l70 => bnr (stnA 2 b68 o69 l70 s66) fun v71 s72 => nx (fun e73 s74 => .ok .r e73 s74) (kset e51 5 (.b true)) s72)) fun k39 => ko e37 14 fun v40 => cdK v40
  (bnr (oL (fill .nil [.b false, .ns] .nil) okA s38) fun v41 s42 => ko e37 4 fun v43 => onp v43 fun b44 o45 => onAx v41 fun l46 => bnr (stnA 2 b44 o45 l46
  s42) fun v47 s48 => nx (fun e49 s50 => .ok .r e49 s50) (kset e37 5 (.b false)) s48) (k39 e37 s38)) (kset e6 14 v36) s33) (kset (kset (kset env 2 v2) 4 v4) 5
  (.b false)) s5
theorem fe173 : rf173 = fastOf kf173 := by kernel_rfl
noncomputable def rf187 : RFun := .mk 3 [.t 6] fun cl env s => nx (fun e1 s2 => ko e1 0 fun v3 => ko e1 1 fun v4 => oni v3 fun n5 => oni v4 fun n6 => gdK (.b (cmI .ge n5 n6)) true (fun k7 => ko e1 0 fun v10 => k7 v10 s2)
  s2 fun v8 s9 => gdK (.b (cmI .ge n5 n6)) true (fun k11 => ko e1 2 fun v14 => k11 v14 s9) s9 fun v12 s13 => gdK (.b (cmI .ge n5 n6)) true (fun k15 => oni v8
  fun n18 => oni v12 fun n19 => k15 (.b (cmI .le n18 n19)) s13) s13 fun v16 s17 => pkK (.b (cmI .ge n5 n6)) (.ok v16) (.ok (.b false)) fun v20 => nx (fun e21
  s22 => .ok .r e21 s22) (kset e1 6 v20) s17) (kset env 6 (.b false)) s
theorem fe187 : rf187 = fastOf kf187 := by kernel_rfl
noncomputable def rf188 : RFun := .mk 2 [.t 4] fun cl env s => nx (fun e1 s2 => ko e1 0 fun v3 => ko e1 1 fun v4 => bnr (cl 287 [v3, v4] s2) fun v5 s6 => oni v5 fun n7 => nx (fun e8 s9 => .ok .r e8 s9) (kset e1 4 (.b (cmI
  .ge n7 (.ofNat 0)))) s6) (kset env 4 (.b false)) s
theorem fe188 : rf188 = fastOf kf188 := by kernel_rfl
noncomputable def rf189 : RFun := .mk 1 [.t 2] fun cl env s => ko env 0 fun v1 => bnr (boxV v1 s) fun v2 s3 => nx (fun e4 s5 => ko e4 1 fun v6 => onp v6 fun b7 o8 => bnr (ldnP 2 b7 o8 s5) fun v9 s10 => bnr (cl 190
  [v9] s10) fun v11 s12 => onBx v11 fun c13 => nx (fun e14 s15 => .ok .r e14 s15) (kset e4 2 (.b (neg c13))) s12) (kset (kset env 1 v2) 2 (.b false)) s3
theorem fe189 : rf189 = fastOf kf189 := by kernel_rfl
noncomputable def rf190 : RFun := .mk 1 [.t 2] fun cl env s => ko env 0 fun v1 => bnr (boxV v1 s) fun v2 s3 => nx (fun e4 s5 => ko e4 1 fun v6 => onp v6 fun b7 o8 => ldK b7 (Nat.add o8 1) s5 fun v9 => bnr (lenV v9 s5)
  fun v10 s11 => oni v10 fun n12 => gdK (.b (cmI .le n12 (.ofNat 40))) true (fun k13 => ko e4 1 fun v16 => onp v16 fun b17 o18 => k13 (.p b17 (Nat.add o18 0))
  s11) s11 fun v14 s15 => gdK (.b (cmI .le n12 (.ofNat 40))) true (fun k19 => onp v14 fun b22 o23 => ldK b22 o23 s15 fun v24 => k19 v24 s15) s15 fun v20 s21 =>
  gdK (.b (cmI .le n12 (.ofNat 40))) true (fun k25 => onBx v20 fun c28 => k25 (.b (neg c28)) s21) s21 fun v26 s27 => gdK (.b (cmI .le n12 (.ofNat 40))) true (fun
  k29 => k29 v26 s27) s27 fun v30 s31 => gdK v30 false (fun k32 => ko e4 1 fun v35 => onp v35 fun b36 o37 => k32 (.p b36 (Nat.add o37 1)) s31) s31 fun v33 s34
  => gdK v30 false (fun k38 => onp v33 fun b41 o42 => ldK b41 o42 s34 fun v43 => k38 v43 s34) s34 fun v39 s40 => gdK v30 false (fun k44 => bnr (lenV v39 s40)
  fun v47 s48 => k44 v47 s48) s40 fun v45 s46 => gdK v30 false (fun k49 => oni v45 fun n52 => k49 (.b (cmI .eq n52 (.ofNat 1))) s46) s46 fun v50 s51 => gdK (.b
  (cmI .le n12 (.ofNat 40))) true (fun k53 => pkK v30 (.ok (.b true)) (.ok v50) fun v56 => k53 v56 s51) s51 fun v54 s55 => pkK (.b (cmI .le n12 (.ofNat 40)))
  (.ok v54) (.ok (.b false)) fun v57 => nx (fun e58 s59 => .ok .r e58 s59) (kset e4 2 v57) s55) (kset (kset env 1 v2) 2 (.b false)) s3
theorem fe190 : rf190 = fastOf kf190 := by kernel_rfl
noncomputable def rf191 : RFun := .mk 1 [.cn 2 4] fun cl env s => ko env 0 fun v1 => bnr (boxV v1 s) fun v2 s3 => bnr (eNew [.i (.ofNat 0), .i (.ofNat 0), .i (.ofNat 0), .i (.ofNat 0)] .nil s3 cl) fun v4 s5 => nx (fun e6 s7
  => ko e6 1 fun v8 => onp v8 fun b9 o10 => bnr (ldnP 9 b9 o10 s7) fun v11 s12 => bnr (cl 115 [v11] s12) fun v13 s14 => oni v13 fun n15 => nx (fun e16 s17
  => jn (fun e30 s31 => ko e30 1 fun v32 => onp v32 fun b33 o34 => ldK b33 (Nat.add o34 0) s31 fun v35 => oni v35 fun n36 => frcI (wrapI (arI .mul n36 (.ofNat
  8))) fun n37 => ko e30 1 fun v38 => onp v38 fun b39 o40 => ldK b39 (Nat.add o40 1) s31 fun v41 => ko e30 1 fun v42 => onp v42 fun b43 o44 => ldK b43 (Nat.add
  o44 1) s31 fun v45 => ko e30 1 fun v46 => onp v46 fun b47 o48 => ldK b47 (Nat.add o48 2) s31 fun v49 => bnr (oL (fill (.cons 0 1 (.c (.i n37)) (.cons 1 1
  (.c v41) (.cons 2 1 (.c v45) (.cons 3 1 (.c v49) .nil)))) [.i (.ofNat 0), .i (.ofNat 0), .i (.ofNat 0), .i (.ofNat 0)] .nil) okA s31) fun v50 s51 => ko e30 2
  fun v52 => onp v52 fun b53 o54 => onAx v50 fun l55 => bnr (stnA 4 b53 o54 l55 s51) fun v56 s57 => nx (fun e58 s59 => .ok .r e58 s59) e30 s57) fun k18 => ko
  e16 5 fun v19 => cdK v19 (bnr (oL (fill .nil [.i (.ofNat 0), .i (.ofNat 0), .i (.ofNat 0), .i (.ofNat 0)] .nil) okA s17) fun v20 s21 => ko e16 2 fun v22 =>
  onp v22 fun b23 o24 => onAx v20 fun l25 => bnr (stnA 4 b23 o24 l25 s21) fun v26 s27 => nx (fun e28 s29 => .ok .r e28 s29) e16 s27) (k18 e16 s17)) (kset e6 5
  (.b (cmI .ne n15 (.ofNat 0)))) s14) (kset (kset env 1 v2) 2 v4) s5
theorem fe191 : rf191 = fastOf kf191 := by kernel_rfl
noncomputable def rf192 : RFun := .mk 1 [.t 2, .t 3] fun cl env s => nx (fun e1 s2 => ko e1 0 fun v3 => oni v3 fun n4 => gdK (.b (cmI .lt n4 (.ofNat 0))) false (fun k5 => ko e1 0 fun v8 => k5 v8 s2) s2 fun v6 s7 => gdK (.b (cmI
  .lt n4 (.ofNat 0))) false (fun k9 => oni v6 fun n12 => k9 (.b (cmI .gt n12 (.ofNat 1024))) s7) s7 fun v10 s11 => pkK (.b (cmI .lt n4 (.ofNat 0))) (.ok (.b
  true)) (.ok v10) fun v13 => nx (fun e14 s15 => jn (fun e20 s21 => ko e20 0 fun v22 => bnr (eKp (.q (.mks [.i (.ofNat 0), .b false, .b false] 16 (.c v22) (.c
  v22))) .nil s21 cl) fun v23 s24 => ko e20 0 fun v25 => bnr (oL (fill (.cons 0 1 (.c v25) .nil) [.i (.ofNat 0), .i (.ofNat 0), .i (.ofNat 0)] .nil) okA s24)
  fun v26 s27 => bnr (oL (fill (.cons 0 1 (.c v23) (.cons 1 3 (.c v26) .nil)) [.ns, .i (.ofNat 0), .i (.ofNat 0), .i (.ofNat 0)] .nil) okA s27) fun v28 s29 =>
  bnr (boxV v28 s29) fun v30 s31 => nx (fun e32 s33 => .ok .r e32 s33) (kset (kset e20 2 v30) 3 (.i (.ofNat 0))) s31) fun k16 => ko e14 9 fun v17 => cdK v17
  (nx (fun e18 s19 => .ok .r e18 s19) (kset (kset e14 2 (.np)) 3 (.i (.ofNat 1))) s15) (k16 e14 s15)) (kset e1 9 v13) s11) (kset (kset env 2 (.np)) 3 (.i (.ofNat
  0))) s
theorem fe192 : rf192 = fastOf kf192 := by kernel_rfl
noncomputable def rf193 : RFun := .mk 1 [.t 2, .t 3] fun cl env s => nx (fun e1 s2 => ko e1 0 fun v3 => oni v3 fun n4 => gdK (.b (cmI .lt n4 (.ofNat 1))) false (fun k5 => ko e1 0 fun v8 => k5 v8 s2) s2 fun v6 s7 => gdK (.b (cmI
  .lt n4 (.ofNat 1))) false (fun k9 => oni v6 fun n12 => k9 (.b (cmI .gt n12 (.ofNat 256))) s7) s7 fun v10 s11 => pkK (.b (cmI .lt n4 (.ofNat 1))) (.ok (.b
  true)) (.ok v10) fun v13 => nx (fun e14 s15 => jn (fun e20 s21 => ko e20 0 fun v22 => bnr (oL (fill (.cons 1 1 (.c v22) .nil) [.ns, .i (.ofNat 0), .b false]
  .nil) okA s21) fun v23 s24 => bnr (boxV v23 s24) fun v25 s26 => nx (fun e27 s28 => .ok .r e27 s28) (kset (kset e20 2 v25) 3 (.i (.ofNat 0))) s26) fun k16 =>
  ko e14 9 fun v17 => cdK v17 (nx (fun e18 s19 => .ok .r e18 s19) (kset (kset e14 2 (.np)) 3 (.i (.ofNat 1))) s15) (k16 e14 s15)) (kset e1 9 v13) s11) (kset
  (kset env 2 (.np)) 3 (.i (.ofNat 0))) s
theorem fe193 : rf193 = fastOf kf193 := by kernel_rfl
noncomputable def rf194 : RFun := .mk 1 [.t 2] fun cl env s => nx (fun e1 s2 => ko e1 0 fun v3 => onp v3 fun b4 o5 => ldK b4 (Nat.add o5 0) s2 fun v6 => bnr (lenV v6 s2) fun v7 s8 => nx (fun e9 s10 => .ok .r e9 s10) (kset
  e1 2 v7) s8) (kset env 2 (.i (.ofNat 0))) s
theorem fe194 : rf194 = fastOf kf194 := by kernel_rfl
noncomputable def rf195 : RFun := .mk 1 [.t 2, .t 3] fun cl env s => nx (fun e1 s2 => ko e1 0 fun v3 => oni v3 fun n4 => gdK (.b (cmI .lt n4 (.ofNat 0))) false (fun k5 => ko e1 0 fun v8 => k5 v8 s2) s2 fun v6 s7 => gdK (.b (cmI
  .lt n4 (.ofNat 0))) false (fun k9 => oni v6 fun n12 => k9 (.b (cmI .gt n12 (.ofNat 1024))) s7) s7 fun v10 s11 => pkK (.b (cmI .lt n4 (.ofNat 0))) (.ok (.b
  true)) (.ok v10) fun v13 => nx (fun e14 s15 => jn (fun e20 s21 => ko e20 0 fun v22 => bnr (eKp (.q (.mks [.b false] 1 (.c v22) (.c v22))) .nil s21 cl) fun
  v23 s24 => ko e20 0 fun v25 => bnr (oL (fill (.cons 0 1 (.c v23) (.cons 1 1 (.c v25) .nil)) [.ns, .i (.ofNat 0)] .nil) okA s24) fun v26 s27 => bnr (boxV
  v26 s27) fun v28 s29 => nx (fun e30 s31 => ko e30 4 fun v32 => onp v32 fun b33 o34 => ldK b33 (Nat.add o34 0) s31 fun v35 => bnr (lenV v35 s31) fun v36 s37
  => nx (fun e38 s39 => bkK (bindX (lpR (fun cl e40 s41 => ko e40 22 fun v42 => ko e40 21 fun v43 => oni v42 fun n44 => oni v43 fun n45 => nx (fun e46 s47 =>
  jn (fun e50 s51 => bkK (ko e50 22 fun v52 => nx (fun e53 s54 => ko e53 4 fun v55 => onp v55 fun b56 o57 => ldK b56 (Nat.add o57 0) s54 fun v58 => ko e53 5 fun
  v59 => onSlx v58 fun b60 o61 q62 => oni v59 fun n64 => onON (nat n64) fun i63 => ifX (Nat.blt i63 q62) (bnr (stV b60 (Nat.add o61 (Nat.mul i63 1)) (.b true)
  s54) fun v65 s66 => nx (idk) e53 s66)) (kset e50 5 v52) s51) 1 (fun e67 s68 => ko e67 22 fun v69 => oni v69 fun n70 => frcI (wrapI (arI .add n70 (.ofNat 1)))
  fun n71 => nx (idk) (kset e67 22 (.i n71)) s68)) fun k48 => ko e46 23 fun v49 => cdK v49 (k48 e46 s47) (.ok (.x 0) e46 s47)) (kset e40 23 (.b (cmI .lt n44
  n45))) s41) lpFuel cl e38 s39) (idk)) 0 (fun e72 s73 => ko e72 4 fun v74 => nx (fun e75 s76 => .ok .r e75 s76) (kset (kset e72 2 v74) 3 (.i (.ofNat 0))) s73))
  (kset (kset e30 21 v36) 22 (.i (.ofNat 0))) s37) (kset e20 4 v28) s29) fun k16 => ko e14 11 fun v17 => cdK v17 (nx (fun e18 s19 => .ok .r e18 s19) (kset (kset
  e14 2 (.np)) 3 (.i (.ofNat 1))) s15) (k16 e14 s15)) (kset e1 11 v13) s11) (kset (kset env 2 (.np)) 3 (.i (.ofNat 0))) s
theorem fe195 : rf195 = fastOf kf195 := by kernel_rfl
noncomputable def rf196 : RFun := .mk 1 [.t 2, .t 3] fun cl env s => nx (fun e1 s2 => ko e1 0 fun v3 => oni v3 fun n4 => gdK (.b (cmI .lt n4 (.ofNat 0))) false (fun k5 => ko e1 0 fun v8 => k5 v8 s2) s2 fun v6 s7 => gdK (.b (cmI
  .lt n4 (.ofNat 0))) false (fun k9 => oni v6 fun n12 => k9 (.b (cmI .gt n12 (.ofNat 2048))) s7) s7 fun v10 s11 => pkK (.b (cmI .lt n4 (.ofNat 0))) (.ok (.b
  true)) (.ok v10) fun v13 => nx (fun e14 s15 => jn (fun e20 s21 => ko e20 0 fun v22 => bnr (oL (fill (.cons 0 1 (.c v22) .nil) [.i (.ofNat 0), .i (.ofNat 0),
  .i (.ofNat 0), .i (.ofNat 0), .i (.ofNat 0)] .nil) okA s21) fun v23 s24 => bnr (boxV v23 s24) fun v25 s26 => nx (fun e27 s28 => .ok .r e27 s28) (kset (kset
  e20 2 v25) 3 (.i (.ofNat 0))) s26) fun k16 => ko e14 9 fun v17 => cdK v17 (nx (fun e18 s19 => .ok .r e18 s19) (kset (kset e14 2 (.np)) 3 (.i (.ofNat 1))) s15)
  (k16 e14 s15)) (kset e1 9 v13) s11) (kset (kset env 2 (.np)) 3 (.i (.ofNat 0))) s
theorem fe196 : rf196 = fastOf kf196 := by kernel_rfl
noncomputable def rf197 : RFun := .mk 0 [.t 0] fun cl env s => nx (fun e1 s2 => bnr (oL (fill .nil [.ns] .nil) okA s2) fun v3 s4 => bnr (boxV v3 s4) fun v5 s6 => nx (fun e7 s8 => .ok .r e7 s8) (kset e1 0 v5) s6) (kset
  env 0 (.np)) s
theorem fe197 : rf197 = fastOf kf197 := by kernel_rfl
noncomputable def rf198 : RFun := .mk 1 [.t 2, .t 3] fun cl env s => nx (fun e1 s2 => ko e1 0 fun v3 => oni v3 fun n4 => gdK (.b (cmI .lt n4 (.ofNat 0))) false (fun k5 => ko e1 0 fun v8 => k5 v8 s2) s2 fun v6 s7 => gdK (.b (cmI
  .lt n4 (.ofNat 0))) false (fun k9 => oni v6 fun n12 => k9 (.b (cmI .gt n12 (.ofNat 8))) s7) s7 fun v10 s11 => pkK (.b (cmI .lt n4 (.ofNat 0))) (.ok (.b true))
  (.ok v10) fun v13 => nx (fun e14 s15 => jn (fun e20 s21 => ko e20 0 fun v22 => bnr (oL (fill (.cons 1 1 (.c v22) .nil) [.ns, .i (.ofNat 0)] .nil) okA s21)
  fun v23 s24 => bnr (boxV v23 s24) fun v25 s26 => nx (fun e27 s28 => .ok .r e27 s28) (kset (kset e20 2 v25) 3 (.i (.ofNat 0))) s26) fun k16 => ko e14 9 fun
  v17 => cdK v17 (nx (fun e18 s19 => .ok .r e18 s19) (kset (kset e14 2 (.np)) 3 (.i (.ofNat 1))) s15) (k16 e14 s15)) (kset e1 9 v13) s11) (kset (kset env 2
  (.np)) 3 (.i (.ofNat 0))) s
theorem fe198 : rf198 = fastOf kf198 := by kernel_rfl
noncomputable def rf199 : RFun := .mk 3 [.t 6, .t 7] fun cl env s => ko env 0 fun v1 => bnr (boxV v1 s) fun v2 s3 => nx (fun e4 s5 => ko e4 3 fun v6 => onp v6 fun b7 o8 => bnr (ldnP 9 b7 o8 s5) fun v9 s10 => bnr (cl 191
  [v9] s10) fun v11 s12 => bnr (eNew [.i (.ofNat 0), .i (.ofNat 0), .i (.ofNat 0), .i (.ofNat 0)] .nil s12 cl) fun v13 s14 => onp v13 fun b15 o16 => onAx v11
  fun l17 => bnr (stnA 4 b15 o16 l17 s14) fun v18 s19 => nx (fun e20 s21 => ko e20 2 fun v22 => oni v22 fun n23 => gdK (.b (cmI .lt n23 (.ofNat 0))) false
  (fun k24 => ko e20 2 fun v27 => k24 v27 s21) s21 fun v25 s26 => gdK (.b (cmI .lt n23 (.ofNat 0))) false (fun k28 => ko e20 1 fun v31 => k28 v31 s26) s26 fun
  v29 s30 => gdK (.b (cmI .lt n23 (.ofNat 0))) false (fun k32 => oni v29 fun n35 => frcI (wrapI (arI .sub n35 (.ofNat 1))) fun n36 => k32 (.i n36) s30) s30 fun
  v33 s34 => gdK (.b (cmI .lt n23 (.ofNat 0))) false (fun k37 => ko e20 8 fun v40 => bnr (eKp (.q (.iar (.c v40) (.c v33) 1 4)) .nil s34 cl) fun v41 s42 => k37
  v41 s42) s34 fun v38 s39 => gdK (.b (cmI .lt n23 (.ofNat 0))) false (fun k43 => onp v38 fun b46 o47 => ldK b46 o47 s39 fun v48 => k43 v48 s39) s39 fun v44 s45
  => gdK (.b (cmI .lt n23 (.ofNat 0))) false (fun k49 => oni v25 fun n52 => oni v44 fun n53 => k49 (.b (cmI .ge n52 n53)) s45) s45 fun v50 s51 => pkK (.b (cmI
  .lt n23 (.ofNat 0))) (.ok (.b true)) (.ok v50) fun v54 => nx (fun e55 s56 => jn (fun e61 s62 => ko e61 1 fun v63 => oni v63 fun n64 => frcI (wrapI (arI .sub
  n64 (.ofNat 1))) fun n65 => ko e61 8 fun v66 => bnr (eKp (.q (.sla (.c v66) 1 4 .no (.ok (.c (.i n65))))) .nil s62 cl) fun v67 s68 => bnr (lenV v67 s68)
  fun v69 s70 => nx (fun e71 s72 => bkK (bindX (lpR (fun cl e73 s74 => ko e73 27 fun v75 => ko e73 26 fun v76 => oni v75 fun n77 => oni v76 fun n78 => nx (fun
  e79 s80 => jn (fun e83 s84 => bkK (ko e83 25 fun v85 => ko e83 27 fun v86 => onSlx v85 fun b87 o88 q89 => oni v86 fun n91 => onON (nat n91) fun i90 => ifX
  (Nat.blt i90 q89) (ldK b87 (Nat.add o88 (Nat.mul i90 1)) s84 fun v92 => nx (fun e93 s94 => ko e93 2 fun v95 => ko e93 10 fun v96 => oni v95 fun n97 => oni
  v96 fun n98 => frcI (wrapI (arI .add n97 n98)) fun n99 => nx (idk) (kset e93 2 (.i n99)) s94) (kset e83 10 v92) s84)) 1 (fun e100 s101 => ko e100 27 fun v102
  => oni v102 fun n103 => frcI (wrapI (arI .add n103 (.ofNat 1))) fun n104 => nx (idk) (kset e100 27 (.i n104)) s101)) fun k81 => ko e79 28 fun v82 => cdK v82
  (k81 e79 s80) (.ok (.x 0) e79 s80)) (kset e73 28 (.b (cmI .lt n77 n78))) s74) lpFuel cl e71 s72) (idk)) 0 (fun e105 s106 => ko e105 2 fun v107 => nx (fun e108
  s109 => .ok .r e108 s109) (kset (kset e105 6 v107) 7 (.i (.ofNat 0))) s106)) (kset (kset (kset e61 25 v67) 26 v69) 27 (.i (.ofNat 0))) s70) fun k57 => ko e55
  22 fun v58 => cdK v58 (nx (fun e59 s60 => .ok .r e59 s60) (kset (kset e55 6 (.i (.ofNat 0))) 7 (.i (.ofNat 1))) s56) (k57 e55 s56)) (kset e20 22 v54) s51)
  (kset e4 8 v13) s19) (kset (kset (kset env 3 v2) 6 (.i (.ofNat 0))) 7 (.i (.ofNat 0))) s3
theorem fe199 : rf199 = fastOf kf199 := by kernel_rfl
noncomputable def rf200 : RFun := .mk 2 [.t 4] fun cl env s => nx (fun e1 s2 => ko e1 1 fun v3 => oni v3 fun n4 => gdK (.b (cmI .ge n4 (.ofNat 0))) true (fun k5 => ko e1 1 fun v8 => k5 v8 s2) s2 fun v6 s7 => gdK (.b (cmI
  .ge n4 (.ofNat 0))) true (fun k9 => ko e1 0 fun v12 => k9 v12 s7) s7 fun v10 s11 => gdK (.b (cmI .ge n4 (.ofNat 0))) true (fun k13 => onp v10 fun b16 o17 =>
  k13 (.p b16 o17) s11) s11 fun v14 s15 => gdK (.b (cmI .ge n4 (.ofNat 0))) true (fun k18 => onp v14 fun b21 o22 => k18 (.p b21 (Nat.add o22 0)) s15) s15 fun
  v19 s20 => gdK (.b (cmI .ge n4 (.ofNat 0))) true (fun k23 => onp v19 fun b26 o27 => ldK b26 o27 s20 fun v28 => k23 v28 s20) s20 fun v24 s25 => gdK (.b (cmI
  .ge n4 (.ofNat 0))) true (fun k29 => bnr (lenV v24 s25) fun v32 s33 => k29 v32 s33) s25 fun v30 s31 => gdK (.b (cmI .ge n4 (.ofNat 0))) true (fun k34 => oni
  v6 fun n37 => oni v30 fun n38 => k34 (.b (cmI .lt n37 n38)) s31) s31 fun v35 s36 => pkK (.b (cmI .ge n4 (.ofNat 0))) (.ok v35) (.ok (.b false)) fun v39 => nx
  (fun e40 s41 => .ok .r e40 s41) (kset e1 4 v39) s36) (kset env 4 (.b false)) s
theorem fe200 : rf200 = fastOf kf200 := by kernel_rfl
noncomputable def rf201 : RFun := .mk 1 [.cn 2 2] fun cl env s => ko env 0 fun v1 => bnr (boxV v1 s) fun v2 s3 => bnr (eNew [.b false, .ns] .nil s3 cl) fun v4 s5 => nx (fun e6 s7 => ko e6 1 fun v8 => onp v8 fun b9 o10 =>
  ldK b9 (Nat.add o10 0) s7 fun v11 => ko e6 1 fun v12 => onp v12 fun b13 o14 => ldK b13 (Nat.add o14 1) s7 fun v15 => bnr (cl 288 [v15] s7) fun v16 s17 => ko
  e6 1 fun v18 => onp v18 fun b19 o20 => ifX (eqV (.p b9 (Nat.add o10 0)) (.p b19 (Nat.add o20 0))) (ldK b19 (Nat.add o20 0) s17 fun v21 => ifX (eqV v11 v21)
  (bnr (oL (fill (.cons 0 1 (.c v21) (.cons 1 1 (.c v16) .nil)) [.b false, .ns] .nil) okA s17) fun v22 s23 => ko e6 2 fun v24 => onp v24 fun b25 o26 => onAx
  v22 fun l27 => bnr (stnA 2 b25 o26 l27 s17) fun v28 s29 => nx (fun e30 s31 => .ok .r e30 s31) e6 s29))) (kset (kset env 1 v2) 2 v4) s5
theorem fe201 : rf201 = fastOf kf201 := by kernel_rfl
noncomputable def rf203 : RFun := .mk 2 [.t 4] fun cl env s => nx (fun e1 s2 => ko e1 1 fun v3 => oni v3 fun n4 => gdK (.b (cmI .lt n4 (.ofNat 0))) false (fun k5 => ko e1 1 fun v8 => k5 v8 s2) s2 fun v6 s7 => gdK (.b (cmI
  .lt n4 (.ofNat 0))) false (fun k9 => ko e1 0 fun v12 => k9 v12 s7) s7 fun v10 s11 => gdK (.b (cmI .lt n4 (.ofNat 0))) false (fun k13 => onp v10 fun b16 o17 =>
  k13 (.p b16 o17) s11) s11 fun v14 s15 => gdK (.b (cmI .lt n4 (.ofNat 0))) false (fun k18 => onp v14 fun b21 o22 => k18 (.p b21 (Nat.add o22 1)) s15) s15 fun
  v19 s20 => gdK (.b (cmI .lt n4 (.ofNat 0))) false (fun k23 => onp v19 fun b26 o27 => ldK b26 o27 s20 fun v28 => k23 v28 s20) s20 fun v24 s25 => gdK (.b (cmI
  .lt n4 (.ofNat 0))) false (fun k29 => bnr (lenV v24 s25) fun v32 s33 => k29 v32 s33) s25 fun v30 s31 => gdK (.b (cmI .lt n4 (.ofNat 0))) false (fun k34 =>
  oni v6 fun n37 => oni v30 fun n38 => k34 (.b (cmI .ge n37 n38)) s31) s31 fun v35 s36 => pkK (.b (cmI .lt n4 (.ofNat 0))) (.ok (.b true)) (.ok v35) fun v39 =>
  nx (fun e40 s41 => jn (fun e46 s47 => ko e46 0 fun v48 => onp v48 fun b49 o50 => ldK b49 (Nat.add o50 1) s47 fun v51 => ko e46 1 fun v52 => onSlx v51 fun b53
  o54 q55 => oni v52 fun n57 => onON (nat n57) fun i56 => ifX (Nat.blt i56 q55) (ldK b53 (Nat.add o54 (Nat.mul i56 1)) s47 fun v58 => nx (fun e59 s60 => .ok .r
  e59 s60) (kset e46 4 v58) s47)) fun k42 => ko e40 15 fun v43 => cdK v43 (nx (fun e44 s45 => .ok .r e44 s45) (kset e40 4 (.np)) s41) (k42 e40 s41)) (kset e1 15
  v39) s36) (kset env 4 (.np)) s
theorem fe203 : rf203 = fastOf kf203 := by kernel_rfl
noncomputable def rf204 : RFun := .mk 1 [.t 2] fun cl env s => nx (fun e1 s2 => ko e1 0 fun v3 => onp v3 fun b4 o5 => ldK b4 (Nat.add o5 0) s2 fun v6 => nx (fun e7 s8 => ko e7 0 fun v9 => onp v9 fun b10 o11 => bnr (stV
  b10 (Nat.add o11 0) (.ns) s8) fun v12 s13 => nx (fun e14 s15 => ko e14 3 fun v16 => nx (fun e17 s18 => .ok .r e17 s18) (kset e14 2 v16) s15) e7 s13) (kset e1 3
  v6) s2) (kset env 2 (.ns)) s
theorem fe204 : rf204 = fastOf kf204 := by kernel_rfl
noncomputable def rf206 : RFun := .mk 2 [.t 4] fun cl env s => nx (fun e1 s2 => ko e1 0 fun v3 => onp v3 fun b4 o5 => ldK b4 (Nat.add o5 3) s2 fun v6 => oni v6 fun n7 => frcI (wrapI (arI .add n7 (.ofNat 1))) fun n8 => onp
  v3 fun b9 o10 => bnr (stV b9 (Nat.add o10 3) (.i n8) s2) fun v11 s12 => nx (fun e13 s14 => ko e13 0 fun v15 => ko e13 1 fun v16 => bnr (cl 22 [v15, v16]
  s14) fun v17 s18 => oni v17 fun n19 => nx (fun e20 s21 => jn (fun e26 s27 => ko e26 0 fun v28 => onp v28 fun b29 o30 => ldK b29 (Nat.add o30 2) s27 fun v31
  => ko e26 1 fun v32 => onSlx v31 fun b33 o34 q35 => oni v32 fun n37 => onON (nat n37) fun i36 => ifX (Nat.blt i36 q35) (bnr (stV b33 (Nat.add o34 (Nat.mul
  i36 1)) (.i (.negSucc 0)) s27) fun v38 s39 => nx (fun e40 s41 => nx (fun e42 s43 => .ok .r e42 s43) (kset e40 4 (.b true)) s41) e26 s39)) fun k22 => ko e20 15
  fun v23 => cdK v23 (nx (fun e24 s25 => .ok .r e24 s25) (kset e20 4 (.b false)) s21) (k22 e20 s21)) (kset e13 15 (.b (cmI .eq n19 (.negSucc 0)))) s18) e1 s12)
  (kset env 4 (.b false)) s
theorem fe206 : rf206 = fastOf kf206 := by kernel_rfl
noncomputable def rf207 : RFun := .mk 2 [.t 4] fun cl env s => ko env 0 fun v1 => bnr (boxV v1 s) fun v2 s3 => ko env 1 fun v4 => bnr (boxV v4 s3) fun v5 s6 => nx (fun e7 s8 => ko e7 3 fun v9 => onp v9 fun b10 o11 =>
  ldK b10 (Nat.add o11 0) s8 fun v12 => bnr (cl 291 [v12] s8) fun v13 s14 => extK v13 0 fun v15 => extK v13 1 fun v16 => nx (fun e17 s18 => ko e17 2 fun v19 =>
  onp v19 fun b20 o21 => bnr (ldnP 9 b20 o21 s18) fun v22 s23 => bnr (cl 115 [v22] s23) fun v24 s25 => oni v24 fun n26 => gdK (.b (cmI .ne n26 (.ofNat 0)))
  false (fun k27 => ko e17 5 fun v30 => k27 v30 s25) s25 fun v28 s29 => gdK (.b (cmI .ne n26 (.ofNat 0))) false (fun k31 => bnr (eKp (.q (.seq (.c v28) (.c (.s
  [])))) .nil s29 cl) fun v34 s35 => k31 v34 s35) s29 fun v32 s33 => pkK (.b (cmI .ne n26 (.ofNat 0))) (.ok (.b true)) (.ok v32) fun v36 => nx (fun e37 s38 => jn
  (fun e43 s44 => ko e43 6 fun v45 => bnr (eKp (.q (.rng (.c v45))) .nil s44 cl) fun v46 s47 => nx (fun e48 s49 => bkK (bindX (lpR (fun cl e50 s51 => ko e50 27
  fun v52 => bnr (eKp (.q (.nxt (.c v52))) .nil s51 cl) fun v53 s54 => extK v53 0 fun v55 => nx (fun e56 s57 => jn (fun e60 s61 => bkK (ko e60 28 fun v62 =>
  extK v62 2 fun v63 => nx (fun e64 s65 => nx (fun e66 s67 => ko e66 8 fun v68 => nx (fun e69 s70 => bkK (ko e69 31 fun v71 => bnr (onK (cmk1 .eq (.ok (.k .i32
  (.ofNat 97)))) v71 s70) fun v72 s73 => nx (fun e74 s75 => jn (fun e88 s89 => jn (idk) fun k90 => ko e88 32 fun v91 => cdK v91 (ko e88 2 fun v92 => onp v92 fun
  b93 o94 => ldK b93 (Nat.add o94 4) s89 fun v95 => nx (k90) (kset e88 9 v95) s89) (ko e88 31 fun v96 => bnr (onK (cmk1 .eq (.ok (.k .i32 (.ofNat 103)))) v96
  s89) fun v97 s98 => nx (fun e99 s100 => jn (k90) fun k101 => ko e99 38 fun v102 => cdK v102 (ko e99 2 fun v103 => onp v103 fun b104 o105 => ldK b104 (Nat.add
  o105 2) s100 fun v106 => nx (k101) (kset e99 9 v106) s100) (.ok (.x 1) e99 s100)) (kset e88 38 v97) s98)) fun k76 => ko e74 32 fun v77 => cdK v77 (k76 e74 s75)
  (ko e74 31 fun v78 => bnr (onK (cmk1 .eq (.ok (.k .i32 (.ofNat 98)))) v78 s75) fun v79 s80 => nx (fun e81 s82 => jn (k76) fun k83 => ko e81 32 fun v84 => cdK
  v84 (k83 e81 s82) (ko e81 31 fun v85 => bnr (onK (cmk1 .eq (.ok (.k .i32 (.ofNat 99)))) v85 s82) fun v86 s87 => nx (k83) (kset e81 32 v86) s87)) (kset e74 32
  v79) s80)) (kset e69 32 v72) s73) 2 (fun e107 s108 => ko e107 8 fun v109 => ko e107 3 fun v110 => bnr (cl 292 [v110, v109] s108) fun v111 s112 => onp v111
  fun b113 o114 => ldK b113 o114 s112 fun v115 => nx (fun e116 s117 => ko e116 10 fun v118 => oni v118 fun n119 => gdK (.b (cmI .lt n119 (.ofNat 0))) false (fun
  k120 => ko e116 10 fun v123 => k120 v123 s117) s117 fun v121 s122 => gdK (.b (cmI .lt n119 (.ofNat 0))) false (fun k124 => ko e116 9 fun v127 => k124 v127
  s122) s122 fun v125 s126 => gdK (.b (cmI .lt n119 (.ofNat 0))) false (fun k128 => oni v121 fun n131 => oni v125 fun n132 => k128 (.b (cmI .ge n131 n132))
  s126) s126 fun v129 s130 => pkK (.b (cmI .lt n119 (.ofNat 0))) (.ok (.b true)) (.ok v129) fun v133 => nx (fun e134 s135 => jn (idk) fun k136 => ko e134 52 fun
  v137 => cdK v137 (nx (fun e138 s139 => .ok .r e138 s139) (kset e134 4 (.i (.ofNat 1))) s135) (k136 e134 s135)) (kset e116 52 v133) s130) (kset e107 10 v115)
  s112)) (kset e66 31 v68) s67) (kset e64 9 (.i (.ofNat 9223372036854775807))) s65) (kset e60 8 v63) s61) 1 (idk)) fun k58 => ko e56 29 fun v59 => cdK v59 (k58
  e56 s57) (.ok (.x 0) e56 s57)) (kset (kset e50 28 v53) 29 v55) s54) lpFuel cl e48 s49) (idk)) 0 (fun e140 s141 => ko e140 3 fun v142 => onp v142 fun b143 o144
  => ldK b143 (Nat.add o144 0) s141 fun v145 => oni v145 fun n146 => gdK (.b (cmI .ne n146 (.ofNat 1))) true (fun k147 => ko e140 3 fun v150 => onp v150 fun
  b151 o152 => k147 (.p b151 (Nat.add o152 0)) s141) s141 fun v148 s149 => gdK (.b (cmI .ne n146 (.ofNat 1))) true (fun k153 => onp v148 fun b156 o157 => ldK
  b156 o157 s149 fun v158 => k153 v158 s149) s149 fun v154 s155 => gdK (.b (cmI .ne n146 (.ofNat 1))) true (fun k159 => oni v154 fun n162 => k159 (.b (cmI .ne
  n162 (.ofNat 2))) s155) s155 fun v160 s161 => pkK (.b (cmI .ne n146 (.ofNat 1))) (.ok v160) (.ok (.b false)) fun v163 => nx (fun e164 s165 => jn (fun e170 s171
  => ko e170 2 fun v172 => onp v172 fun b173 o174 => bnr (ldnP 9 b173 o174 s171) fun v175 s176 => ko e170 3 fun v177 => onp v177 fun b178 o179 => ldK b178
  (Nat.add o179 2) s176 fun v180 => bnr (cl 173 [v175, v180] s176) fun v181 s182 => extK v181 0 fun v183 => extK v181 1 fun v184 => bnr (eNew [.b false, .ns]
  .nil s182 cl) fun v185 s186 => onp v185 fun b187 o188 => onAx v183 fun l189 => bnr (stnA 2 b187 o188 l189 s186) fun v190 s191 => nx (fun e192 s193 => bkK
  (ko e192 12 fun v194 => onBx v194 fun c195 => gdK (.b (neg c195)) false (fun k196 => ko e192 11 fun v199 => onp v199 fun b200 o201 => k196 (.p b200 (Nat.add
  o201 0)) s193) s193 fun v197 s198 => gdK (.b (neg c195)) false (fun k202 => onp v197 fun b205 o206 => ldK b205 o206 s198 fun v207 => k202 v207 s198) s198 fun
  v203 s204 => gdK (.b (neg c195)) false (fun k208 => ko e192 3 fun v211 => onp v211 fun b212 o213 => k208 (.p b212 (Nat.add o213 0)) s204) s204 fun v209 s210
  => gdK (.b (neg c195)) false (fun k214 => onp v209 fun b217 o218 => ldK b217 o218 s210 fun v219 => k214 v219 s210) s210 fun v215 s216 => gdK (.b (neg c195))
  false (fun k220 => oni v215 fun n223 => k220 (.b (cmI .eq n223 (.ofNat 2))) s216) s216 fun v221 s222 => gdK (.b (neg c195)) false (fun k224 => onBx v203 fun
  c227 => onBx v221 fun c228 => k224 (.b (neg (eqB c227 c228))) s222) s222 fun v225 s226 => pkK (.b (neg c195)) (.ok (.b true)) (.ok v225) fun v229 => nx (fun
  e230 s231 => jn (idk) fun k232 => ko e230 68 fun v233 => cdK v233 (nx (fun e234 s235 => .ok .r e234 s235) (kset e230 4 (.i (.ofNat 4))) s231) (ko e230 11 fun
  v236 => onp v236 fun b237 o238 => bnr (ldnP 2 b237 o238 s231) fun v239 s240 => ko e230 3 fun v241 => onp v241 fun b242 o243 => bnr (ldnP 6 b242 o243
  s240) fun v244 s245 => bnr (cl 293 [v239, v244] s245) fun v246 s247 => oni v246 fun n248 => nx (fun e249 s250 => jn (k232) fun k251 => ko e249 79 fun v252
  => cdK v252 (nx (fun e253 s254 => .ok .r e253 s254) (kset e249 4 (.i (.ofNat 5))) s250) (ko e249 11 fun v255 => onp v255 fun b256 o257 => bnr (ldnP 2 b256
  o257 s250) fun v258 s259 => ko e249 3 fun v260 => onp v260 fun b261 o262 => bnr (ldnP 6 b261 o262 s250) fun v263 s264 => ko e249 2 fun v265 => onp v265 fun
  b266 o267 => ldK b266 (Nat.add o267 0) s250 fun v268 => bnr (cl 293 [v258, v263] s250) fun v269 s270 => ko e249 2 fun v271 => onp v271 fun b272 o273 => ifX
  (eqV (.p b266 (Nat.add o267 0)) (.p b272 (Nat.add o273 0))) (ldK b272 (Nat.add o273 0) s270 fun v274 => ifX (eqV v268 v274) (oni v269 fun n275 => oni v274
  fun n276 => gdK (.b (cmI .gt n275 n276)) false (fun k277 => ko e249 11 fun v280 => onp v280 fun b281 o282 => bnr (ldnP 2 b281 o282 s270) fun v283 s284 =>
  k277 v283 s284) s270 fun v278 s279 => gdK (.b (cmI .gt n275 n276)) false (fun k285 => ko e249 3 fun v288 => onp v288 fun b289 o290 => k285 (.p b289 (Nat.add
  o290 4)) s270) s270 fun v286 s287 => gdK (.b (cmI .gt n275 n276)) false (fun k291 => onp v286 fun b294 o295 => ldK b294 o295 s270 fun v296 => k291 v296 s270)
  s270 fun v292 s293 => gdK (.b (cmI .gt n275 n276)) false (fun k297 => ko e249 2 fun v300 => onp v300 fun b301 o302 => k297 (.p b301 (Nat.add o302 1)) s270)
  s270 fun v298 s299 => gdK (.b (cmI .gt n275 n276)) false (fun k303 => onp v298 fun b306 o307 => ldK b306 o307 s270 fun v308 => k303 v308 s270) s270 fun v304
  s305 => gdX (.b (cmI .gt n275 n276)) false (bnr (cl 294 [v278, v292] s270) fun v309 s310 => gdK (.b (cmI .gt n275 n276)) false (fun k311 => ko e249 2 fun
  v314 => onp v314 fun b315 o316 => k311 (.p b315 (Nat.add o316 1)) s310) s310 fun v312 s313 => ifX (eqV v298 v312) (gdK (.b (cmI .gt n275 n276)) false (fun
  k317 => onp v312 fun b320 o321 => ldK b320 o321 s310 fun v322 => k317 v322 s310) s310 fun v318 s319 => ifX (eqV v304 v318) (gdK (.b (cmI .gt n275 n276)) false
  (fun k323 => oni v309 fun n326 => oni v318 fun n327 => k323 (.b (cmI .gt n326 n327)) s310) s310 fun v324 s325 => pkK (.b (cmI .gt n275 n276)) (.ok (.b true))
  (.ok v324) fun v328 => nx (fun e329 s330 => jn (k251) fun k331 => ko e329 84 fun v332 => cdK v332 (nx (fun e333 s334 => .ok .r e333 s334) (kset e329 4 (.i
  (.ofNat 7))) s330) (k331 e329 s330)) (kset e249 84 v328) s310))) (ko e249 2 fun v335 => onp v335 fun b336 o337 => ifX (eqV (.p b266 (Nat.add o267 0)) (.p b336
  (Nat.add o337 0))) (ldK b336 (Nat.add o337 0) s270 fun v338 => ifX (eqV v268 v338) (oni v269 fun n339 => oni v338 fun n340 => gdK (.b (cmI .gt n339 n340))
  false (fun k341 => ko e249 11 fun v344 => onp v344 fun b345 o346 => bnr (ldnP 2 b345 o346 s270) fun v347 s348 => k341 v347 s348) s270 fun v342 s343 => gdK
  (.b (cmI .gt n339 n340)) false (fun k349 => ko e249 3 fun v352 => onp v352 fun b353 o354 => k349 (.p b353 (Nat.add o354 4)) s270) s270 fun v350 s351 => gdK
  (.b (cmI .gt n339 n340)) false (fun k355 => onp v350 fun b358 o359 => ldK b358 o359 s270 fun v360 => k355 v360 s270) s270 fun v356 s357 => gdK (.b (cmI .gt
  n339 n340)) false (fun k361 => .no) s270 fun v362 s363 => gdK (.b (cmI .gt n339 n340)) false (fun k366 => ko e249 2 fun v369 => onp v369 fun b370 o371 => k366
  (.p b370 (Nat.add o371 1)) s270) s270 fun v367 s368 => gdK (.b (cmI .gt n339 n340)) false (fun k372 => onp v367 fun b375 o376 => ldK b375 o376 s270 fun v377
  => k372 v377 s270) s270 fun v373 s374 => gdK (.b (cmI .gt n339 n340)) false (fun k378 => oni v362 fun n381 => oni v373 fun n382 => k378 (.b (cmI .gt n381
  n382)) s270) s270 fun v379 s380 => pkK (.b (cmI .gt n339 n340)) (.ok (.b true)) (.ok v379) fun v383 => nx (fun e384 s385 => jn (k251) fun k386 => ko e384 84
  fun v387 => cdK v387 (nx (fun e388 s389 => .ok .r e388 s389) (kset e384 4 (.i (.ofNat 7))) s385) (k386 e384 s385)) (kset e249 84 v383) s270))))))) (kset e230
  79 (.b (cmI .lt n248 (.ofNat 0)))) s247)) (kset e192 68 v229) s226) 3 (fun e390 s391 => nx (fun e392 s393 => .ok .r e392 s393) (kset e390 4 (.i (.ofNat 0)))
  s391)) (kset (kset e170 11 v185) 12 v184) s191) fun k166 => ko e164 60 fun v167 => cdK v167 (nx (fun e168 s169 => .ok .r e168 s169) (kset e164 4 (.i (.ofNat
  0))) s165) (k166 e164 s165)) (kset e140 60 v163) s161)) (kset e43 27 v46) s47) fun k39 => ko e37 25 fun v40 => cdK v40 (nx (fun e41 s42 => .ok .r e41 s42)
  (kset e37 4 (.i (.ofNat 1))) s38) (k39 e37 s38)) (kset e17 25 v36) s33) (kset (kset e7 5 v15) 6 v16) s14) (kset (kset (kset env 2 v2) 3 v5) 4 (.i (.ofNat 0)))
  s6
theorem fe207 : rf207 = fastOf kf207 := by kernel_rfl
noncomputable def rf208 : RFun := .mk 2 [.t 4] fun cl env s => ko env 1 fun v1 => bnr (boxV v1 s) fun v2 s3 => nx (fun e4 s5 => ko e4 0 fun v6 => onp v6 fun b7 o8 => ldK b7 (Nat.add o8 2) s5 fun v9 => nx (fun e10 s11 =>
  nx (fun e12 s13 => bnr (eNew [.b false] .nil s13 cl) fun v14 s15 => onp v14 fun b16 o17 => bnr (stV b16 o17 (.b true) s15) fun v18 s19 => nx (fun e20 s21
  => ko e20 3 fun v22 => onp v22 fun b23 o24 => ldK b23 (Nat.add o24 0) s21 fun v25 => nx (fun e26 s27 => bkK (ko e26 14 fun v28 => oni v28 fun n29 => nx (fun
  e30 s31 => jn (idk) fun k32 => ko e30 15 fun v33 => cdK v33 (ko e30 5 fun v34 => ko e30 3 fun v35 => onp v35 fun b36 o37 => ldK b36 (Nat.add o37 2) s31 fun
  v38 => onSlx v34 fun b39 o40 q41 => oni v38 fun n43 => onON (nat n43) fun i42 => ifX (Nat.blt i42 q41) (bnr (ldnP 2 b39 (Nat.add o40 (Nat.mul i42 2)) s31)
  fun v44 s45 => ko e30 5 fun v46 => ko e30 3 fun v47 => onp v47 fun b48 o49 => ldK b48 (Nat.add o49 3) s31 fun v50 => onSlx v46 fun b51 o52 q53 => oni v50 fun
  n55 => onON (nat n55) fun i54 => ifX (Nat.blt i54 q53) (bnr (ldnP 2 b51 (Nat.add o52 (Nat.mul i54 2)) s31) fun v56 s57 => bnr (oL (fill (.cons 0 2 (.c v44)
  (.cons 2 2 (.c v56) .nil)) (repL [.b false, .z 0 0] 2) .nil) (bsl1 2 (lenL [.b false, .z 0 0])) s31) fun v58 s59 => nx (k32) (kset (kset e30 6 v58) 8 (.b
  false)) s59))) (ko e30 14 fun v60 => oni v60 fun n61 => nx (fun e62 s63 => jn (fun e68 s69 => jn (k32) fun k70 => ko e68 28 fun v71 => cdK v71 (ko e68 5 fun
  v72 => ko e68 3 fun v73 => onp v73 fun b74 o75 => ldK b74 (Nat.add o75 2) s69 fun v76 => onSlx v72 fun b77 o78 q79 => oni v76 fun n81 => onON (nat n81) fun
  i80 => ifX (Nat.blt i80 q79) (bnr (ldnP 2 b77 (Nat.add o78 (Nat.mul i80 2)) s69) fun v82 s83 => ko e68 5 fun v84 => ko e68 3 fun v85 => onp v85 fun b86 o87
  => ldK b86 (Nat.add o87 3) s69 fun v88 => onSlx v84 fun b89 o90 q91 => oni v88 fun n93 => onON (nat n93) fun i92 => ifX (Nat.blt i92 q91) (bnr (ldnP 2 b89
  (Nat.add o90 (Nat.mul i92 2)) s69) fun v94 s95 => bnr (oL (fill (.cons 0 2 (.c v82) (.cons 2 2 (.c v94) .nil)) (repL [.b false, .z 0 0] 2) .nil) (bsl1 2
  (lenL [.b false, .z 0 0])) s69) fun v96 s97 => ko e68 7 fun v98 => onp v98 fun b99 o100 => bnr (stV b99 o100 (.b false) s97) fun v101 s102 => nx (k70) (kset
  (kset e68 6 v96) 8 (.b false)) s102))) (ko e68 14 fun v103 => oni v103 fun n104 => nx (fun e105 s106 => jn (fun e123 s124 => jn (k70) fun k125 => ko e123 42
  fun v126 => cdK v126 (ko e123 5 fun v127 => ko e123 3 fun v128 => onp v128 fun b129 o130 => ldK b129 (Nat.add o130 2) s124 fun v131 => onSlx v127 fun b132
  o133 q134 => oni v131 fun n136 => onON (nat n136) fun i135 => ifX (Nat.blt i135 q134) (bnr (ldnP 2 b132 (Nat.add o133 (Nat.mul i135 2)) s124) fun v137 s138
  => bnr (oL (fill (.cons 0 2 (.c v137) .nil) (repL [.b false, .z 0 0] 1) .nil) (bsl1 1 (lenL [.b false, .z 0 0])) s138) fun v139 s140 => nx (k125) (kset e123
  6 v139) s140)) (ko e123 14 fun v141 => oni v141 fun n142 => nx (fun e143 s144 => jn (fun e149 s150 => jn (k125) fun k151 => ko e149 53 fun v152 => cdK v152
  (ko e149 5 fun v153 => ko e149 3 fun v154 => onp v154 fun b155 o156 => ldK b155 (Nat.add o156 1) s150 fun v157 => onSlx v153 fun b158 o159 q160 => oni v157
  fun n162 => onON (nat n162) fun i161 => ifX (Nat.blt i161 q160) (bnr (ldnP 2 b158 (Nat.add o159 (Nat.mul i161 2)) s150) fun v163 s164 => bnr (oL (fill
  (.cons 0 2 (.c v163) .nil) (repL [.b false, .z 0 0] 1) .nil) (bsl1 1 (lenL [.b false, .z 0 0])) s164) fun v165 s166 => nx (k151) (kset e149 6 v165) s166)) (ko
  e149 14 fun v167 => oni v167 fun n168 => nx (fun e169 s170 => jn (k151) fun k171 => ko e169 62 fun v172 => cdK v172 (ko e169 5 fun v173 => ko e169 3 fun v174
  => onp v174 fun b175 o176 => ldK b175 (Nat.add o176 2) s170 fun v177 => onSlx v173 fun b178 o179 q180 => oni v177 fun n182 => onON (nat n182) fun i181 => ifX
  (Nat.blt i181 q180) (bnr (ldnP 2 b178 (Nat.add o179 (Nat.mul i181 2)) s170) fun v183 s184 => bnr (oL (fill (.cons 0 2 (.c v183) .nil) (repL [.b false, .z 0
  0] 1) .nil) (bsl1 1 (lenL [.b false, .z 0 0])) s184) fun v185 s186 => nx (k171) (kset (kset e169 6 v185) 8 (.b false)) s186)) (k171 e169 s170)) (kset e149 62
  (.b (cmI .eq n168 (.ofNat 8)))) s150)) fun k145 => ko e143 53 fun v146 => cdK v146 (k145 e143 s144) (ko e143 14 fun v147 => oni v147 fun n148 => nx (k145)
  (kset e143 53 (.b (cmI .eq n148 (.ofNat 6)))) s144)) (kset e123 53 (.b (cmI .eq n142 (.ofNat 4)))) s124)) fun k107 => ko e105 42 fun v108 => cdK v108 (k107
  e105 s106) (ko e105 14 fun v109 => oni v109 fun n110 => nx (fun e111 s112 => jn (k107) fun k113 => ko e111 42 fun v114 => cdK v114 (k113 e111 s112) (ko e111
  14 fun v115 => oni v115 fun n116 => nx (fun e117 s118 => jn (k113) fun k119 => ko e117 42 fun v120 => cdK v120 (k119 e117 s118) (ko e117 14 fun v121 => oni
  v121 fun n122 => nx (k119) (kset e117 42 (.b (cmI .eq n122 (.ofNat 11)))) s118)) (kset e111 42 (.b (cmI .eq n116 (.ofNat 10)))) s112)) (kset e105 42 (.b (cmI
  .eq n110 (.ofNat 5)))) s106)) (kset e68 42 (.b (cmI .eq n104 (.ofNat 3)))) s69)) fun k64 => ko e62 28 fun v65 => cdK v65 (k64 e62 s63) (ko e62 14 fun v66 =>
  oni v66 fun n67 => nx (k64) (kset e62 28 (.b (cmI .eq n67 (.ofNat 16)))) s63)) (kset e30 28 (.b (cmI .eq n61 (.ofNat 15)))) s31)) (kset e26 15 (.b (cmI .eq
  n29 (.ofNat 9)))) s27) 0 (fun e187 s188 => ko e187 6 fun v189 => ko e187 7 fun v190 => bnr (cl 295 [v189, (.fn 296 [] [v190])] s188) fun v191 s192 => nx (fun
  e193 s194 => jn (fun e199 s200 => ko e199 8 fun v201 => gdK v201 true (fun k202 => ko e199 6 fun v205 => k202 v205 s200) s200 fun v203 s204 => gdK v201 true
  (fun k206 => bnr (cl 295 [v203, (.fn 297 [] [])] s204) fun v209 s210 => k206 v209 s210) s204 fun v207 s208 => pkK v201 (.ok v207) (.ok (.b false)) fun v211
  => nx (fun e212 s213 => jn (fun e218 s219 => nx (fun e220 s221 => .ok .r e220 s221) (kset e218 4 (.i (.ofNat 0))) s219) fun k214 => ko e212 77 fun v215 => cdK
  v215 (nx (fun e216 s217 => .ok .r e216 s217) (kset e212 4 (.i (.ofNat 3))) s213) (k214 e212 s213)) (kset e199 77 v211) s208) fun k195 => ko e193 72 fun v196 =>
  cdK v196 (nx (fun e197 s198 => .ok .r e197 s198) (kset e193 4 (.i (.ofNat 4))) s194) (k195 e193 s194)) (kset e187 72 v191) s192)) (kset e20 14 v25) s21) (kset
  (kset e12 7 v14) 8 (.b true)) s19) (kset e10 6 (.ns)) s11) (kset e4 5 v9) s5) (kset (kset env 3 v2) 4 (.i (.ofNat 0))) s3
theorem fe208 : rf208 = fastOf kf208 := by kernel_rfl
noncomputable def rf209 : RFun := .mk 2 [.cn 4 2, .t 5] fun cl env s => ko env 1 fun v1 => bnr (boxV v1 s) fun v2 s3 => bnr (eNew [.b false, .z 0 0] .nil s3 cl) fun v4 s5 => nx (fun e6 s7 => ko e6 0 fun v8 => onp v8 fun b9 o10
  => ldK b9 (Nat.add o10 2) s7 fun v11 => nx (fun e12 s13 => ko e12 3 fun v14 => onp v14 fun b15 o16 => ldK b15 (Nat.add o16 0) s13 fun v17 => nx (fun e18 s19
  => bkK (ko e18 12 fun v20 => oni v20 fun n21 => nx (fun e22 s23 => jn (idk) fun k24 => ko e22 13 fun v25 => cdK v25 (ko e22 6 fun v26 => ko e22 3 fun v27 =>
  onp v27 fun b28 o29 => ldK b28 (Nat.add o29 2) s23 fun v30 => onSlx v26 fun b31 o32 q33 => oni v30 fun n35 => onON (nat n35) fun i34 => ifX (Nat.blt i34 q33)
  (ldK b31 (Nat.add (Nat.add o32 (Nat.mul i34 2)) 1) s23 fun v36 => ko e22 6 fun v37 => ko e22 3 fun v38 => onp v38 fun b39 o40 => ldK b39 (Nat.add o40 3) s23
  fun v41 => onSlx v37 fun b42 o43 q44 => oni v41 fun n46 => onON (nat n46) fun i45 => ifX (Nat.blt i45 q44) (ldK b42 (Nat.add (Nat.add o43 (Nat.mul i45 2)) 1)
  s23 fun v47 => bnr (cl 238 [v36, v47] s23) fun v48 s49 => bnr (cl 298 [v48] s49) fun v50 s51 => ko e22 4 fun v52 => onp v52 fun b53 o54 => onAx v50 fun
  l55 => bnr (stnA 2 b53 o54 l55 s51) fun v56 s57 => nx (fun e58 s59 => .ok .r e58 s59) (kset e22 5 (.b true)) s57))) (ko e22 12 fun v60 => oni v60 fun n61 =>
  nx (fun e62 s63 => jn (k24) fun k64 => ko e62 29 fun v65 => cdK v65 (ko e62 3 fun v66 => onp v66 fun b67 o68 => ldK b67 (Nat.add o68 5) s63 fun v69 => bnr
  (oL (fill (.cons 1 1 (.c v69) .nil) [.b false, .z 0 0] .nil) okA s63) fun v70 s71 => ko e62 4 fun v72 => onp v72 fun b73 o74 => onAx v70 fun l75 => bnr
  (stnA 2 b73 o74 l75 s71) fun v76 s77 => nx (fun e78 s79 => .ok .r e78 s79) (kset e62 5 (.b true)) s77) (ko e62 12 fun v80 => oni v80 fun n81 => nx (fun e82
  s83 => jn (k64) fun k84 => ko e82 34 fun v85 => cdK v85 (bnr (cl 123 [] s83) fun v86 s87 => bnr (oL (fill (.cons 0 1 (.c (.b true)) (.cons 1 1 (.c v86)
  .nil)) [.b false, .z 0 0] .nil) okA s87) fun v88 s89 => ko e82 4 fun v90 => onp v90 fun b91 o92 => onAx v88 fun l93 => bnr (stnA 2 b91 o92 l93 s89) fun v94
  s95 => nx (fun e96 s97 => .ok .r e96 s97) (kset e82 5 (.b true)) s95) (ko e82 12 fun v98 => oni v98 fun n99 => nx (fun e100 s101 => jn (k84) fun k102 => ko
  e100 38 fun v103 => cdK v103 (ko e100 6 fun v104 => ko e100 3 fun v105 => onp v105 fun b106 o107 => ldK b106 (Nat.add o107 2) s101 fun v108 => onSlx v104 fun
  b109 o110 q111 => oni v108 fun n113 => onON (nat n113) fun i112 => ifX (Nat.blt i112 q111) (bnr (ldnP 2 b109 (Nat.add o110 (Nat.mul i112 2)) s101) fun v114
  s115 => ko e100 4 fun v116 => onp v116 fun b117 o118 => onAx v114 fun l119 => bnr (stnA 2 b117 o118 l119 s115) fun v120 s121 => nx (fun e122 s123 => .ok .r
  e122 s123) (kset e100 5 (.b true)) s121)) (ko e100 12 fun v124 => oni v124 fun n125 => nx (fun e126 s127 => jn (k102) fun k128 => ko e126 45 fun v129 => cdK
  v129 (ko e126 6 fun v130 => ko e126 3 fun v131 => onp v131 fun b132 o133 => ldK b132 (Nat.add o133 2) s127 fun v134 => onSlx v130 fun b135 o136 q137 => oni
  v134 fun n139 => onON (nat n139) fun i138 => ifX (Nat.blt i138 q137) (ldK b135 (Nat.add (Nat.add o136 (Nat.mul i138 2)) 1) s127 fun v140 => ko e126 6 fun v141
  => ko e126 3 fun v142 => onp v142 fun b143 o144 => ldK b143 (Nat.add o144 3) s127 fun v145 => onSlx v141 fun b146 o147 q148 => oni v145 fun n150 => onON (nat
  n150) fun i149 => ifX (Nat.blt i149 q148) (ldK b146 (Nat.add (Nat.add o147 (Nat.mul i149 2)) 1) s127 fun v151 => bnr (cl 299 [v140, v151] s127) fun v152 s153
  => bnr (oL (fill (.cons 1 1 (.c v152) .nil) [.b false, .z 0 0] .nil) okA s153) fun v154 s155 => ko e126 4 fun v156 => onp v156 fun b157 o158 => onAx v154
  fun l159 => bnr (stnA 2 b157 o158 l159 s153) fun v160 s161 => nx (fun e162 s163 => .ok .r e162 s163) (kset e126 5 (.b true)) s161))) (ko e126 12 fun v164 =>
  oni v164 fun n165 => nx (fun e166 s167 => jn (k128) fun k168 => ko e166 61 fun v169 => cdK v169 (ko e166 6 fun v170 => ko e166 3 fun v171 => onp v171 fun
  b172 o173 => ldK b172 (Nat.add o173 2) s167 fun v174 => onSlx v170 fun b175 o176 q177 => oni v174 fun n179 => onON (nat n179) fun i178 => ifX (Nat.blt i178
  q177) (ldK b175 (Nat.add (Nat.add o176 (Nat.mul i178 2)) 1) s167 fun v180 => ko e166 6 fun v181 => ko e166 3 fun v182 => onp v182 fun b183 o184 => ldK b183
  (Nat.add o184 3) s167 fun v185 => onSlx v181 fun b186 o187 q188 => oni v185 fun n190 => onON (nat n190) fun i189 => ifX (Nat.blt i189 q188) (ldK b186 (Nat.add
  (Nat.add o187 (Nat.mul i189 2)) 1) s167 fun v191 => bnr (cl 300 [v180, v191] s167) fun v192 s193 => bnr (oL (fill (.cons 1 1 (.c v192) .nil) [.b false, .z
  0 0] .nil) okA s193) fun v194 s195 => ko e166 4 fun v196 => onp v196 fun b197 o198 => onAx v194 fun l199 => bnr (stnA 2 b197 o198 l199 s193) fun v200 s201
  => nx (fun e202 s203 => .ok .r e202 s203) (kset e166 5 (.b true)) s201))) (k168 e166 s167)) (kset e126 61 (.b (cmI .eq n165 (.ofNat 16)))) s127)) (kset e100 45
  (.b (cmI .eq n125 (.ofNat 15)))) s101)) (kset e82 38 (.b (cmI .eq n99 (.ofNat 14)))) s83)) (kset e62 34 (.b (cmI .eq n81 (.ofNat 13)))) s63)) (kset e22 29 (.b
  (cmI .eq n61 (.ofNat 12)))) s23)) (kset e18 13 (.b (cmI .eq n21 (.ofNat 9)))) s19) 0 (fun e204 s205 => bnr (oL (fill .nil [.b false, .z 0 0] .nil) okA s205)
  fun v206 s207 => ko e204 4 fun v208 => onp v208 fun b209 o210 => onAx v206 fun l211 => bnr (stnA 2 b209 o210 l211 s207) fun v212 s213 => nx (fun e214 s215
  => .ok .r e214 s215) (kset e204 5 (.b false)) s213)) (kset e12 12 v17) s13) (kset e6 6 v11) s7) (kset (kset (kset env 3 v2) 4 v4) 5 (.b false)) s5
theorem fe209 : rf209 = fastOf kf209 := by kernel_rfl
noncomputable def rf210 : RFun := .mk 3 [.cn 6 5, .t 7] fun cl env s => ko env 2 fun v1 => bnr (boxV v1 s) fun v2 s3 => bnr (eNew [.i (.ofNat 0), .i (.ofNat 0), .i (.ofNat 0), .b false, .z 0 0] .nil s3 cl) fun v4 s5 => nx (fun e6
  s7 => ko e6 0 fun v8 => onp v8 fun b9 o10 => ldK b9 (Nat.add o10 2) s7 fun v11 => ko e6 1 fun v12 => ko e6 5 fun v13 => onp v13 fun b14 o15 => bnr (ldnP 2
  b14 o15 s7) fun v16 s17 => onSlx v11 fun b18 o19 q20 => oni v12 fun n22 => onON (nat n22) fun i21 => ifX (Nat.blt i21 q20) (onAx v16 fun l23 => bnr (stnA 2
  b18 (Nat.add o19 (Nat.mul i21 2)) l23 s7) fun v24 s25 => nx (fun e26 s27 => ko e26 0 fun v28 => ko e26 5 fun v29 => onp v29 fun b30 o31 => bnr (ldnP 2 b30
  o31 s27) fun v32 s33 => bnr (cl 140 [v28, v32, (.i (.ofNat 0))] s33) fun v34 s35 => extK v34 0 fun v36 => extK v34 1 fun v37 => ko e26 6 fun v38 => onp v38
  fun b39 o40 => onAx v36 fun l41 => bnr (stnA 5 b39 o40 l41 s35) fun v42 s43 => nx (fun e44 s45 => .ok .r e44 s45) (kset e26 7 v37) s43) e6 s25)) (kset (kset
  (kset env 5 v2) 6 v4) 7 (.b false)) s5
theorem fe210 : rf210 = fastOf kf210 := by kernel_rfl
noncomputable def rf211 : RFun := .mk 3 [.cn 6 5, .t 7] fun cl env s => ko env 2 fun v1 => bnr (boxV v1 s) fun v2 s3 => bnr (eNew [.i (.ofNat 0), .i (.ofNat 0), .i (.ofNat 0), .b false, .z 0 0] .nil s3 cl) fun v4 s5 => nx (fun e6
  s7 => ko e6 1 fun v8 => onp v8 fun b9 o10 => bnr (ldnP 9 b9 (Nat.add o10 0) s7) fun v11 s12 => ko e6 5 fun v13 => onp v13 fun b14 o15 => bnr (ldnP 6 b14
  o15 s7) fun v16 s17 => bnr (cl 301 [v11, v16] s7) fun v18 s19 => extK v18 0 fun v20 => extK v18 1 fun v21 => nx (fun e22 s23 => noX (klk e22 10) (ko e22 1
  fun v24 => onp v24 fun b25 o26 => ldK b25 (Nat.add o26 11) s23 fun v27 => ko e22 0 fun v28 => onp v28 fun b29 o30 => ldK b29 (Nat.add o30 0) s23 fun v31 =>
  ko e22 8 fun v32 => ko e22 9 fun v33 => ko e22 0 fun v34 => onp v34 fun b35 o36 => ldK b35 (Nat.add o36 5) s23 fun v37 => ko e22 0 fun v38 => bnr (cl 303
  [v38] s23) fun v39 s40 => onBx v37 fun c41 => onBx v39 fun c42 => bnr (cl 302 [v27, v31, v32, v33, (.b (neg (eqB c41 c42)))] s23) fun v43 s44 => bnr (eNew
  [.i (.ofNat 0), .ns, .i (.ofNat 0)] .nil s44 cl) fun v45 s46 => onp v45 fun b47 o48 => onAx v43 fun l49 => bnr (stnA 3 b47 o48 l49 s46) fun v50 s51 => nx
  (fun e52 s53 => bkK (ko e52 10 fun v54 => onp v54 fun b55 o56 => ldK b55 (Nat.add o56 0) s53 fun v57 => oni v57 fun n58 => nx (fun e59 s60 => jn (idk) fun
  k61 => ko e59 38 fun v62 => cdK v62 (ko e59 0 fun v63 => ko e59 0 fun v64 => onp v63 fun b65 o66 => bnr (stV b65 (Nat.add o66 3) (.i (.ofNat 3)) s60) fun
  v67 s68 => onp v64 fun b69 o70 => bnr (stV b69 (Nat.add o70 7) (.i (.ofNat 5)) s68) fun v71 s72 => nx (k61) e59 s72) (ko e59 10 fun v73 => onp v73 fun b74
  o75 => ldK b74 (Nat.add o75 0) s60 fun v76 => oni v76 fun n77 => gdK (.b (cmI .ne n77 (.ofNat 1))) false (fun k78 => ko e59 0 fun v81 => k78 v81 s60) s60 fun
  v79 s80 => gdK (.b (cmI .ne n77 (.ofNat 1))) false (fun k82 => ko e59 1 fun v85 => k82 v85 s80) s80 fun v83 s84 => gdK (.b (cmI .ne n77 (.ofNat 1))) false (fun
  k86 => ko e59 5 fun v89 => onp v89 fun b90 o91 => bnr (ldnP 6 b90 o91 s84) fun v92 s93 => k86 v92 s93) s84 fun v87 s88 => gdK (.b (cmI .ne n77 (.ofNat 1)))
  false (fun k94 => ko e59 10 fun v97 => onp v97 fun b98 o99 => bnr (ldnP 3 b98 o99 s88) fun v100 s101 => k94 v100 s101) s88 fun v95 s96 => gdK (.b (cmI .ne
  n77 (.ofNat 1))) false (fun k102 => bnr (cl 143 [v79, v83, v87, v95] s96) fun v105 s106 => k102 v105 s106) s96 fun v103 s104 => gdK (.b (cmI .ne n77 (.ofNat
  1))) false (fun k107 => onBx v103 fun c110 => k107 (.b (neg c110)) s104) s104 fun v108 s109 => pkK (.b (cmI .ne n77 (.ofNat 1))) (.ok (.b true)) (.ok v108) fun
  v111 => nx (fun e112 s113 => jn (k61) fun k114 => ko e112 48 fun v115 => cdK v115 (ko e112 0 fun v116 => bnr (cl 144 [v116, (.i (.ofNat 10))] s113) fun v117
  s118 => extK v117 0 fun v119 => extK v117 1 fun v120 => ko e112 6 fun v121 => onp v121 fun b122 o123 => onAx v119 fun l124 => bnr (stnA 5 b122 o123 l124
  s118) fun v125 s126 => nx (fun e127 s128 => .ok .r e127 s128) (kset e112 7 v120) s126) (k114 e112 s113)) (kset e59 48 v111) s109)) (kset e52 38 (.b (cmI .eq
  n58 (.ofNat 0)))) s53) 0 (fun e129 s130 => bnr (oL (fill .nil [.i (.ofNat 0), .i (.ofNat 0), .i (.ofNat 0), .b false, .z 0 0] .nil) okA s130) fun v131 s132
  => ko e129 6 fun v133 => onp v133 fun b134 o135 => onAx v131 fun l136 => bnr (stnA 5 b134 o135 l136 s132) fun v137 s138 => nx (fun e139 s140 => .ok .r e139
  s140) (kset e129 7 (.b false)) s138)) (kset e22 10 v45) s51)) (kset (kset e6 8 v20) 9 v21) s19) (kset (kset (kset env 5 v2) 6 v4) 7 (.b false)) s5
theorem fe211 : rf211 = fastOf kf211 := by kernel_rfl
noncomputable def rf221 : RFun := .mk 3 [.t 6] fun cl env s => nx (fun e1 s2 => ko e1 0 fun v3 => onp v3 fun b4 o5 => ldK b4 (Nat.add o5 1) s2 fun v6 => oni v6 fun n7 => frcI (wrapI (arI .add n7 (.ofNat 1))) fun n8 => onp
  v3 fun b9 o10 => bnr (stV b9 (Nat.add o10 1) (.i n8) s2) fun v11 s12 => nx (fun e13 s14 => ko e13 0 fun v15 => ko e13 1 fun v16 => bnr (cl 200 [v15, v16]
  s14) fun v17 s18 => onBx v17 fun c19 => nx (fun e20 s21 => jn (fun e26 s27 => ko e26 0 fun v28 => onp v28 fun b29 o30 => ldK b29 (Nat.add o30 0) s27 fun v31
  => ko e26 1 fun v32 => ko e26 2 fun v33 => onSlx v31 fun b34 o35 q36 => oni v32 fun n38 => onON (nat n38) fun i37 => ifX (Nat.blt i37 q36) (bnr (stV b34
  (Nat.add o35 (Nat.mul i37 1)) v33 s27) fun v39 s40 => nx (fun e41 s42 => nx (fun e43 s44 => .ok .r e43 s44) (kset e41 6 (.i (.ofNat 0))) s42) e26 s40)) fun k22
  => ko e20 17 fun v23 => cdK v23 (nx (fun e24 s25 => .ok .r e24 s25) (kset e20 6 (.i (.ofNat 1))) s21) (k22 e20 s21)) (kset e13 17 (.b (neg c19))) s18) e1 s12)
  (kset env 6 (.i (.ofNat 0))) s
theorem fe221 : rf221 = fastOf kf221 := by kernel_rfl
noncomputable def rf222 : RFun := .mk 2 [.t 4] fun cl env s => nx (fun e1 s2 => ko e1 0 fun v3 => onp v3 fun b4 o5 => ldK b4 (Nat.add o5 3) s2 fun v6 => oni v6 fun n7 => frcI (wrapI (arI .add n7 (.ofNat 1))) fun n8 => onp
  v3 fun b9 o10 => bnr (stV b9 (Nat.add o10 3) (.i n8) s2) fun v11 s12 => nx (fun e13 s14 => ko e13 0 fun v15 => onp v15 fun b16 o17 => ldK b16 (Nat.add o17
  0) s14 fun v18 => ko e13 1 fun v19 => bnr (cl 310 [v18, v19] s14) fun v20 s21 => nx (fun e22 s23 => .ok .r e22 s23) (kset e13 4 v20) s21) e1 s12) (kset env 4
  (.b false)) s
theorem fe222 : rf222 = fastOf kf222 := by kernel_rfl
noncomputable def rf223 : RFun := .mk 1 [.t 2] fun cl env s => nx (fun e1 s2 => ko e1 0 fun v3 => oni v3 fun n4 => gdK (.b (cmI .lt n4 (.ofNat 0))) false (fun k5 => ko e1 0 fun v8 => k5 v8 s2) s2 fun v6 s7 => gdK (.b (cmI
  .lt n4 (.ofNat 0))) false (fun k9 => oni v6 fun n12 => k9 (.b (cmI .gt n12 (.ofNat 1099511627776))) s7) s7 fun v10 s11 => pkK (.b (cmI .lt n4 (.ofNat 0)))
  (.ok (.b true)) (.ok v10) fun v13 => nx (fun e14 s15 => jn (fun e22 s23 => ko e22 0 fun v24 => oni v24 fun n25 => frcI (wrapI (arI .add n25 (.ofNat 1))) fun
  n26 => bnr (eKp (.q (.cif (.c (.i n26)))) .nil s23 cl) fun v27 s28 => bnr (eKp (.q (.cplx (.c v27) (.c (.f 4607182418800017408)))) .nil s28 cl) fun v29 s30
  => nx (fun e31 s32 => .ok .r e31 s32) (kset e22 2 v29) s30) fun k16 => ko e14 8 fun v17 => cdK v17 (bnr (cl 123 [] s15) fun v18 s19 => nx (fun e20 s21 => .ok
  .r e20 s21) (kset e14 2 v18) s19) (k16 e14 s15)) (kset e1 8 v13) s11) (kset env 2 (.z 0 0)) s
theorem fe223 : rf223 = fastOf kf223 := by kernel_rfl
noncomputable def rf226 : RFun := .mk 1 [.t 2] fun cl env s => nx (fun e1 s2 => ko e1 0 fun v3 => oni v3 fun n4 => gdK (.b (cmI .lt n4 (.negSucc 9007199254740991))) false (fun k5 => ko e1 0 fun v8 => k5 v8 s2) s2 fun v6 s7
  => gdK (.b (cmI .lt n4 (.negSucc 9007199254740991))) false (fun k9 => oni v6 fun n12 => k9 (.b (cmI .gt n12 (.ofNat 9007199254740992))) s7) s7 fun v10 s11 =>
  pkK (.b (cmI .lt n4 (.negSucc 9007199254740991))) (.ok (.b true)) (.ok v10) fun v13 => nx (fun e14 s15 => jn (fun e20 s21 => ko e20 0 fun v22 => bnr (eKp (.q
  (.cif (.c v22))) .nil s21 cl) fun v23 s24 => bnr (eKp (.q (.cplx (.c v23) (.c (.f 0)))) .nil s24 cl) fun v25 s26 => nx (fun e27 s28 => .ok .r e27 s28) (kset
  e20 2 v25) s26) fun k16 => ko e14 8 fun v17 => cdK v17 (nx (fun e18 s19 => .ok .r e18 s19) (kset e14 2 (.z 0 0)) s15) (k16 e14 s15)) (kset e1 8 v13) s11) (kset
  env 2 (.z 0 0)) s
theorem fe226 : rf226 = fastOf kf226 := by kernel_rfl
noncomputable def rf228 : RFun := .mk 2 [.cn 4 7, .t 5] fun cl env s => bnr (eNew [.i (.ofNat 0), .i (.ofNat 0), .i (.ofNat 0), .i (.ofNat 0), .i (.ofNat 0), .i (.ofNat 0), .ns] .nil s cl) fun v1 s2 => nx (fun e3 s4 => ko e3 0 fun
  v5 => ko e3 0 fun v6 => ko e3 1 fun v7 => bnr (cl 312 [v6, v7] s4) fun v8 s9 => bnr (cl 311 [v5, v8] s9) fun v10 s11 => extK v10 0 fun v12 => extK v10 1
  fun v13 => ko e3 4 fun v14 => onp v14 fun b15 o16 => onAx v12 fun l17 => bnr (stnA 7 b15 o16 l17 s11) fun v18 s19 => nx (fun e20 s21 => .ok .r e20 s21)
  (kset e3 5 v13) s19) (kset (kset env 4 v1) 5 (.b false)) s2
theorem fe228 : rf228 = fastOf kf228 := by kernel_rfl
noncomputable def rf231 : RFun := .mk 3 [.t 6, .t 7] fun cl env s => ko env 0 fun v1 => bnr (boxV v1 s) fun v2 s3 => nx (fun e4 s5 => bindX (scR (hC.hAt (.seq (.reg [8, 9] [kW 14 3 9, kM 15 1, kM 16 2, .s 17 (.call 314 [(.t 14),
  (.t 15), (kI 0), (.c (.b false)), (.t 16)]), kM 13 17, kE 18 13 0, kE 19 13 1, .s 8 (.new [.b false, .ns]), .n (.stn (.t 8) (.t 18) 2), kM 9 19]) (.seq (.seq
  (.reg [21] [kM 20 9, .s 21 (.cm .ne (.t 20) (kI 0))]) (.cond (.t 21) (.seq (.reg [6, 7] [kM 22 9, .s 6 (.mv (.c (.ns))), kM 7 22]) .ret) .skip)) (.seq (.reg
  [10] [.s 10 (.mv (.c (.ns)))]) (.seq (.reg [11] [.s 11 (.new [.z 0 0, .z 0 0, .z 0 0, .z 0 0, .z 0 0, .z 0 0, .z 0 0, .z 0 0])]) (.seq (.reg [12] [.s 12 (.mv
  (kI 0))]) (.seq (.label 0) (.seq (.reg [] [.s 23 (.call 123 []), .s 24 (.bld [.z 0 0, .z 0 0, .z 0 0, .z 0 0, .z 0 0, .z 0 0, .z 0 0, .z 0 0] (.cons 0 1 (.t
  23) .nil)), .n (.stn (.t 11) (.t 24) 8)]) (.seq (.seq (.reg [26] [kM 25 12, .s 26 (.cm .eq (.t 25) (kI 0))]) (.cond (.t 26) (.seq (.reg [] [kM 27 1, .s 28
  (.call 315 [(.t 27), (kI 0)]), .s 29 (.q (.iar (.t 11) (kI 1) 1 8)), .n (.st (.t 29) (.t 28))]) (.seq (.reg [31] [kM 30 2, .s 31 (.call 316 [(.t 30)])]) (.cond
  (.t 31) (.reg [] [kM 32 1, .s 33 (.call 315 [(.t 32), (kI 1)]), .s 34 (.q (.iar (.t 11) (kI 1) 1 8)), .n (.st (.t 34) (.t 33))]) .skip))) .skip)) (.seq (.seq
  (.reg [39] [kM 35 12, .s 36 (.ar .add (.t 35) (kI 1)), kM 37 2, .s 38 (.len (.t 37)), .s 39 (.cm .lt (.t 36) (.t 38))]) (.cond (.t 39) (.reg [] [kM 40 2, kM 41
  12, .s 42 (.ar .add (.t 41) (kI 1)), .s 43 (.ixp (.t 40) (.t 42) 1), kL 44 43, .s 45 (.call 223 [(.t 44)]), .s 46 (.q (.iar (.t 11) (kI 0) 1 8)), .n (.st (.t
  46) (.t 45))]) .skip)) (.seq (.reg [] [kW 47 8 2, kM 48 12, .s 49 (.call 317 [(.t 47), (.t 48), (.t 11)])]) (.seq (.drw [10] [.mk 0 1 true (kW 50 3 9), .mk 1 2
  true (kM 51 10), .mk 2 4 true (kM 52 2), .mk 3 8 true (kM 53 12), .mk 4 28 true (.s 54 (.ixp (.t 52) (.t 53) 1)), .mk 5 60 true (kL 55 54), .mk 6 64 true (kW
  56 11 8), .mk 7 255 false (.s 57 (.call 318 [(.t 50), (.t 51), (.t 55), (.t 56)])), .mk 8 511 true (kM 10 57)] [.mk 128 255 (.s 57 (.call 318 [(.t 50), (.t
  51), (.t 55), (.t 56)]))]) (.seq (.seq (.reg [12] [kM 58 12, .s 59 (.ar .add (.t 58) (kI 1)), kM 12 59]) (.seq (.reg [63] [kM 60 12, kM 61 2, .s 62 (.len (.t
  61)), .s 63 (.cm .lt (.t 60) (.t 62))]) (.cond (.t 63) (.goto 0) .skip))) (.seq (.reg [6, 7] [kM 64 10, kM 6 64, .s 7 (.mv (kI 0))]) .ret)))))))))))))) lpFuel
  (fun cl e6 s7 => ko e6 3 fun v8 => onp v8 fun b9 o10 => bnr (ldnP 9 b9 o10 s7) fun v11 s12 => ko e6 1 fun v13 => ko e6 2 fun v14 => bnr (cl 314 [v11, v13,
  (.i (.ofNat 0)), (.b false), v14] s12) fun v15 s16 => extK v15 0 fun v17 => extK v15 1 fun v18 => bnr (eNew [.b false, .ns] .nil s16 cl) fun v19 s20 => onp
  v19 fun b21 o22 => onAx v17 fun l23 => bnr (stnA 2 b21 o22 l23 s20) fun v24 s25 => nx (fun e26 s27 => ko e26 9 fun v28 => oni v28 fun n29 => nx (fun e30 s31
  => jn (fun e37 s38 => nx (fun e39 s40 => bnr (eNew [.z 0 0, .z 0 0, .z 0 0, .z 0 0, .z 0 0, .z 0 0, .z 0 0, .z 0 0] .nil s40 cl) fun v41 s42 => nx (fun e43
  s44 => nx (fun e45 s46 => (fun e47 s48 => bnr (cl 123 [] s48) fun v49 s50 => bnr (oL (fill (.cons 0 1 (.c v49) .nil) [.z 0 0, .z 0 0, .z 0 0, .z 0 0, .z 0
  0, .z 0 0, .z 0 0, .z 0 0] .nil) okA s50) fun v51 s52 => ko e47 11 fun v53 => onp v53 fun b54 o55 => onAx v51 fun l56 => bnr (stnA 8 b54 o55 l56 s52) fun
  v57 s58 => nx (fun e59 s60 => ko e59 12 fun v61 => oni v61 fun n62 => nx (fun e63 s64 => jn (fun e96 s97 => ko e96 12 fun v98 => oni v98 fun n99 => frcI
  (wrapI (arI .add n99 (.ofNat 1))) fun n100 => ko e96 2 fun v101 => bnr (lenV v101 s97) fun v102 s103 => oni v102 fun n104 => nx (fun e105 s106 => jn (fun
  e127 s128 => ko e127 8 fun v129 => onp v129 fun b130 o131 => bnr (ldnP 2 b130 o131 s128) fun v132 s133 => ko e127 12 fun v134 => ko e127 11 fun v135 =>
  bnr (cl 317 [v132, v134, v135] s133) fun v136 s137 => nx (fun e138 s139 => ko e138 3 fun v140 => onp v140 fun b141 o142 => bnr (ldnP 9 b141 o142 s139) fun
  v143 s144 => ko e138 10 fun v145 => ko e138 2 fun v146 => ko e138 12 fun v147 => onSlx v146 fun b148 o149 q150 => oni v147 fun n152 => onON (nat n152) fun
  i151 => ifX (Nat.blt i151 q150) (ldK b148 (Nat.add o149 (Nat.mul i151 1)) s139 fun v153 => ko e138 11 fun v154 => onp v154 fun b155 o156 => bnr (ldnP 8 b155
  o156 s139) fun v157 s158 => bnr (cl 318 [v143, v145, v153, v157] s139) fun v159 s160 => nx (fun e161 s162 => ko e161 12 fun v163 => oni v163 fun n164 =>
  frcI (wrapI (arI .add n164 (.ofNat 1))) fun n165 => nx (fun e166 s167 => ko e166 12 fun v168 => ko e166 2 fun v169 => bnr (lenV v169 s167) fun v170 s171 =>
  oni v168 fun n172 => oni v170 fun n173 => nx (fun e174 s175 => jn (fun e178 s179 => ko e178 10 fun v180 => nx (fun e181 s182 => .ok .r e181 s182) (kset (kset
  e178 6 v180) 7 (.i (.ofNat 0))) s179) fun k176 => ko e174 63 fun v177 => cdK v177 (.ok (.g 0) e174 s175) (k176 e174 s175)) (kset e166 63 (.b (cmI .lt n172
  n173))) s171) (kset e161 12 (.i n165)) s162) (kset e138 10 v159) s160)) e127 s137) fun k107 => ko e105 39 fun v108 => cdK v108 (ko e105 2 fun v109 => ko e105
  12 fun v110 => oni v110 fun n111 => frcI (wrapI (arI .add n111 (.ofNat 1))) fun n112 => onSlx v109 fun b113 o114 q115 => onON (nat n112) fun i116 => ifX
  (Nat.blt i116 q115) (ldK b113 (Nat.add o114 (Nat.mul i116 1)) s106 fun v117 => bnr (cl 223 [v117] s106) fun v118 s119 => ko e105 11 fun v120 => bnr (eKp
  (.q (.iar (.c v120) (.c (.i (.ofNat 0))) 1 8)) .nil s119 cl) fun v121 s122 => onp v121 fun b123 o124 => bnr (stV b123 o124 v118 s122) fun v125 s126 => nx
  (k107) e105 s126)) (k107 e105 s106)) (kset e96 39 (.b (cmI .lt n100 n104))) s103) fun k65 => ko e63 26 fun v66 => cdK v66 (ko e63 1 fun v67 => bnr (cl 315
  [v67, (.i (.ofNat 0))] s64) fun v68 s69 => ko e63 11 fun v70 => bnr (eKp (.q (.iar (.c v70) (.c (.i (.ofNat 1))) 1 8)) .nil s69 cl) fun v71 s72 => onp v71
  fun b73 o74 => bnr (stV b73 o74 v68 s72) fun v75 s76 => nx (fun e77 s78 => ko e77 2 fun v79 => bnr (cl 316 [v79] s78) fun v80 s81 => nx (fun e82 s83 => jn
  (k65) fun k84 => ko e82 31 fun v85 => cdK v85 (ko e82 1 fun v86 => bnr (cl 315 [v86, (.i (.ofNat 1))] s83) fun v87 s88 => ko e82 11 fun v89 => bnr (eKp (.q
  (.iar (.c v89) (.c (.i (.ofNat 1))) 1 8)) .nil s88 cl) fun v90 s91 => onp v90 fun b92 o93 => bnr (stV b92 o93 v87 s91) fun v94 s95 => nx (k84) e82 s95) (k84
  e82 s83)) (kset e77 31 v80) s81) e63 s76) (k65 e63 s64)) (kset e59 26 (.b (cmI .eq n62 (.ofNat 0)))) s60) e47 s58) e45 s46) (kset e43 12 (.i (.ofNat 0))) s44)
  (kset e39 11 v41) s42) (kset e37 10 (.ns)) s38) fun k32 => ko e30 21 fun v33 => cdK v33 (ko e30 9 fun v34 => nx (fun e35 s36 => .ok .r e35 s36) (kset (kset e30
  6 (.ns)) 7 v34) s31) (k32 e30 s31)) (kset e26 21 (.b (cmI .ne n29 (.ofNat 0)))) s27) (kset (kset e6 8 v19) 9 v18) s25) cl e4 s5) (idk)) (kset (kset (kset env 3
  v2) 6 (.ns)) 7 (.i (.ofNat 0))) s3
theorem fe231 : rf231 = fastOf kf231 := by kernel_rfl
noncomputable def rf249 : RFun := .mk 3 [.t 6] fun cl env s => ko env 0 fun v1 => bnr (boxV v1 s) fun v2 s3 => nx (fun e4 s5 => ko e4 3 fun v6 => onp v6 fun b7 o8 => ldK b7 (Nat.add o8 9) s5 fun v9 => bnr (cl 95 [v9]
  s5) fun v10 s11 => ko e4 1 fun v12 => oni v10 fun n13 => oni v12 fun n14 => nx (fun e15 s16 => jn (fun e21 s22 => ko e21 3 fun v23 => onp v23 fun b24 o25 =>
  ldK b24 (Nat.add o25 9) s22 fun v26 => ko e21 1 fun v27 => bnr (cl 329 [v26, v27] s22) fun v28 s29 => extK v28 0 fun v30 => extK v28 1 fun v31 => nx (fun e32
  s33 => ko e32 2 fun v34 => oni v34 fun n35 => gdK (.b (cmI .eq n35 (.ofNat 0))) false (fun k36 => ko e32 8 fun v39 => k36 v39 s33) s33 fun v37 s38 => pkK (.b
  (cmI .eq n35 (.ofNat 0))) (.ok (.b true)) (.ok v37) fun v40 => gdK v40 false (fun k41 => ko e32 3 fun v44 => onp v44 fun b45 o46 => k41 (.p b45 (Nat.add o46
  10)) s38) s38 fun v42 s43 => gdK v40 false (fun k47 => onp v42 fun b50 o51 => ldK b50 o51 s43 fun v52 => k47 v52 s43) s43 fun v48 s49 => gdK v40 false (fun
  k53 => bnr (cl 330 [v48] s49) fun v56 s57 => k53 v56 s57) s49 fun v54 s55 => gdK v40 false (fun k58 => ko e32 2 fun v61 => k58 v61 s55) s55 fun v59 s60 =>
  gdK v40 false (fun k62 => oni v54 fun n65 => oni v59 fun n66 => k62 (.b (cmI .ge n65 n66)) s60) s60 fun v63 s64 => pkK v40 (.ok (.b true)) (.ok v63) fun v67
  => nx (fun e68 s69 => .ok .r e68 s69) (kset e32 6 v67) s64) (kset e21 8 v31) s29) fun k17 => ko e15 13 fun v18 => cdK v18 (nx (fun e19 s20 => .ok .r e19 s20)
  (kset e15 6 (.b false)) s16) (k17 e15 s16)) (kset e4 13 (.b (cmI .lt n13 n14))) s11) (kset (kset env 3 v2) 6 (.b false)) s3
theorem fe249 : rf249 = fastOf kf249 := by kernel_rfl
noncomputable def rf250 : RFun := .mk 3 [.t 6, .t 7] fun cl env s => ko env 0 fun v1 => bnr (boxV v1 s) fun v2 s3 => nx (fun e4 s5 => ko e4 3 fun v6 => onp v6 fun b7 o8 => ldK b7 (Nat.add o8 9) s5 fun v9 => ko e4 1 fun v10 =>
  bnr (cl 331 [v9, v10] s5) fun v11 s12 => extK v11 0 fun v13 => extK v11 1 fun v14 => nx (fun e15 s16 => ko e15 2 fun v17 => oni v17 fun n18 => gdK (.b (cmI
  .eq n18 (.ofNat 0))) false (fun k19 => ko e15 8 fun v22 => k19 v22 s16) s16 fun v20 s21 => gdK (.b (cmI .eq n18 (.ofNat 0))) false (fun k23 => bnr (cl 316
  [v20] s21) fun v26 s27 => k23 v26 s27) s21 fun v24 s25 => pkK (.b (cmI .eq n18 (.ofNat 0))) (.ok (.b true)) (.ok v24) fun v28 => nx (fun e29 s30 => jn (fun e36
  s37 => ko e36 3 fun v38 => onp v38 fun b39 o40 => ldK b39 (Nat.add o40 10) s37 fun v41 => ko e36 2 fun v42 => bnr (cl 332 [v41, v42] s37) fun v43 s44 =>
  extK v43 0 fun v45 => extK v43 1 fun v46 => nx (fun e47 s48 => ko e47 3 fun v49 => onp v49 fun b50 o51 => bnr (ldnP 9 b50 (Nat.add o51 0) s48) fun v52 s53
  => ko e47 3 fun v54 => onp v54 fun b55 o56 => ldK b55 (Nat.add o56 10) s48 fun v57 => ko e47 10 fun v58 => bnr (cl 159 [v57] s48) fun v59 s60 => ko e47 3
  fun v61 => onp v61 fun b62 o63 => ifX (eqV (.p b50 (Nat.add o51 0)) (.p b62 (Nat.add o63 0))) (bnr (ldnP 9 b62 (Nat.add o63 0) s60) fun v64 s65 => ifX (eqV
  v52 v64) (ko e47 10 fun v66 => ifX (eqV v58 v66) (bnr (cl 333 [v64, v59, v66] s60) fun v67 s68 => extK v67 0 fun v69 => extK v67 1 fun v70 => nx (fun e71 s72
  => ko e71 8 fun v73 => ko e71 12 fun v74 => nx (fun e75 s76 => .ok .r e75 s76) (kset (kset e71 6 v73) 7 v74) s72) (kset e47 12 v69) s68)))) (kset e36 10 v45)
  s44) fun k31 => ko e29 26 fun v32 => cdK v32 (ko e29 8 fun v33 => nx (fun e34 s35 => .ok .r e34 s35) (kset (kset e29 6 v33) 7 (.i (.negSucc 0))) s30) (k31 e29
  s30)) (kset e15 26 v28) s25) (kset e4 8 v13) s12) (kset (kset (kset env 3 v2) 6 (.ns)) 7 (.i (.ofNat 0))) s3
theorem fe250 : rf250 = fastOf kf250 := by kernel_rfl
noncomputable def rf251 : RFun := .mk 4 [] fun cl env s => ko env 1 fun v1 => bnr (lenV v1 s) fun v2 s3 => nx (fun e4 s5 => bkK (bindX (lpR (fun cl e6 s7 => ko e6 12 fun v8 => ko e6 11 fun v9 => oni v8 fun n10 => oni
  v9 fun n11 => nx (fun e12 s13 => jn (fun e16 s17 => bkK (ko e16 10 fun v18 => ko e16 12 fun v19 => onSlx v18 fun b20 o21 q22 => oni v19 fun n24 => onON (nat
  n24) fun i23 => ifX (Nat.blt i23 q22) (ldK b20 (Nat.add o21 (Nat.mul i23 1)) s17 fun v25 => nx (fun e26 s27 => ko e26 0 fun v28 => onp v28 fun b29 o30 => ldK
  b29 (Nat.add o30 0) s27 fun v31 => ko e26 9 fun v32 => ko e26 2 fun v33 => ko e26 3 fun v34 => bnr (cl 289 [v31, v32, v33, (.b false), v34] s27) fun v35 s36
  => nx (idk) e26 s36) (kset e16 9 v25) s17)) 1 (fun e37 s38 => ko e37 12 fun v39 => oni v39 fun n40 => frcI (wrapI (arI .add n40 (.ofNat 1))) fun n41 => nx
  (idk) (kset e37 12 (.i n41)) s38)) fun k14 => ko e12 13 fun v15 => cdK v15 (k14 e12 s13) (.ok (.x 0) e12 s13)) (kset e6 13 (.b (cmI .lt n10 n11))) s7) lpFuel
  cl e4 s5) (idk)) 0 (idk)) (kset (kset (kset env 10 v1) 11 v2) 12 (.i (.ofNat 0))) s3
theorem fe251 : rf251 = fastOf kf251 := by kernel_rfl
noncomputable def rf254 : RFun := .mk 3 [.t 6, .t 7] fun cl env s => ko env 0 fun v1 => bnr (boxV v1 s) fun v2 s3 => nx (fun e4 s5 => ko e4 1 fun v6 => oni v6 fun n7 => gdK (.b (cmI .lt n7 (.ofNat 0))) false (fun k8 => ko e4 1
  fun v11 => k8 v11 s5) s5 fun v9 s10 => gdK (.b (cmI .lt n7 (.ofNat 0))) false (fun k12 => ko e4 3 fun v15 => onp v15 fun b16 o17 => k12 (.p b16 (Nat.add o17
  0)) s10) s10 fun v13 s14 => gdK (.b (cmI .lt n7 (.ofNat 0))) false (fun k18 => onp v13 fun b21 o22 => ldK b21 o22 s14 fun v23 => k18 v23 s14) s14 fun v19 s20
  => gdK (.b (cmI .lt n7 (.ofNat 0))) false (fun k24 => oni v9 fun n27 => oni v19 fun n28 => k24 (.b (cmI .ge n27 n28)) s20) s20 fun v25 s26 => pkK (.b (cmI
  .lt n7 (.ofNat 0))) (.ok (.b true)) (.ok v25) fun v29 => gdK v29 false (fun k30 => ko e4 2 fun v33 => k30 v33 s26) s26 fun v31 s32 => gdK v29 false (fun k34 =>
  oni v31 fun n37 => k34 (.b (cmI .lt n37 (.ofNat 0))) s32) s32 fun v35 s36 => pkK v29 (.ok (.b true)) (.ok v35) fun v38 => gdK v38 false (fun k39 => ko e4 2
  fun v42 => k39 v42 s36) s36 fun v40 s41 => gdK v38 false (fun k43 => oni v40 fun n46 => k43 (.b (cmI .ge n46 (.ofNat 8))) s41) s41 fun v44 s45 => pkK v38 (.ok
  (.b true)) (.ok v44) fun v47 => gdK v47 false (fun k48 => ko e4 3 fun v51 => onp v51 fun b52 o53 => bnr (ldnP 9 b52 o53 s45) fun v54 s55 => k48 v54 s55) s45
  fun v49 s50 => gdK v47 false (fun k56 => bnr (cl 115 [v49] s50) fun v59 s60 => k56 v59 s60) s50 fun v57 s58 => gdK v47 false (fun k61 => oni v57 fun n64 =>
  k61 (.b (cmI .ne n64 (.ofNat 0))) s58) s58 fun v62 s63 => pkK v47 (.ok (.b true)) (.ok v62) fun v65 => nx (fun e66 s67 => jn (fun e72 s73 => ko e72 3 fun v74
  => onp v74 fun b75 o76 => bnr (ldnP 9 b75 o76 s73) fun v77 s78 => ko e72 1 fun v79 => oni v79 fun n80 => frcI (wrapI (arI .mul n80 (.ofNat 8))) fun n81 =>
  ko e72 2 fun v82 => oni v82 fun n83 => frcI (wrapI (arI .add n81 n83)) fun n84 => bnr (cl 199 [v77, (.i (.ofNat 1)), (.i n84)] s78) fun v85 s86 => extK v85
  0 fun v87 => extK v85 1 fun v88 => nx (fun e89 s90 => .ok .r e89 s90) (kset (kset e72 6 v87) 7 v88) s86) fun k68 => ko e66 28 fun v69 => cdK v69 (nx (fun e70
  s71 => .ok .r e70 s71) (kset (kset e66 6 (.i (.ofNat 0))) 7 (.i (.ofNat 1))) s67) (k68 e66 s67)) (kset e4 28 v65) s63) (kset (kset (kset env 3 v2) 6 (.i
  (.ofNat 0))) 7 (.i (.ofNat 0))) s3
theorem fe254 : rf254 = fastOf kf254 := by kernel_rfl
noncomputable def rf259 : RFun := .mk 2 [.t 4] fun cl env s => ko env 0 fun v1 => bnr (boxV v1 s) fun v2 s3 => nx (fun e4 s5 => ko e4 2 fun v6 => onp v6 fun b7 o8 => ldK b7 (Nat.add o8 1) s5 fun v9 => bnr (lenV v9 s5)
  fun v10 s11 => nx (fun e12 s13 => bkK (ko e12 2 fun v14 => onp v14 fun b15 o16 => bnr (ldnP 2 b15 o16 s13) fun v17 s18 => bnr (cl 190 [v17] s18) fun v19
  s20 => onBx v19 fun c21 => gdK (.b (neg c21)) false (fun k22 => ko e12 1 fun v25 => k22 v25 s20) s20 fun v23 s24 => gdK (.b (neg c21)) false (fun k26 => oni
  v23 fun n29 => k26 (.b (cmI .lt n29 (.ofNat 0))) s24) s24 fun v27 s28 => pkK (.b (neg c21)) (.ok (.b true)) (.ok v27) fun v30 => gdK v30 false (fun k31 => ko
  e12 1 fun v34 => k31 v34 s28) s28 fun v32 s33 => gdK v30 false (fun k35 => oni v32 fun n38 => k35 (.b (cmI .gt n38 (.ofNat 512))) s33) s33 fun v36 s37 => pkK
  v30 (.ok (.b true)) (.ok v36) fun v39 => gdK v39 false (fun k40 => ko e12 2 fun v43 => onp v43 fun b44 o45 => k40 (.p b44 (Nat.add o45 0)) s37) s37 fun v41
  s42 => gdK v39 false (fun k46 => onp v41 fun b49 o50 => ldK b49 o50 s42 fun v51 => k46 v51 s42) s42 fun v47 s48 => gdK v39 false (fun k52 => onBx v47 fun c55
  => k52 (.b (neg c55)) s48) s48 fun v53 s54 => gdK v39 false (fun k56 => k56 v53 s54) s54 fun v57 s58 => gdK v57 true (fun k59 => ko e12 1 fun v62 => k59 v62
  s58) s58 fun v60 s61 => gdK v57 true (fun k63 => oni v60 fun n66 => k63 (.b (cmI .gt n66 (.ofNat 0))) s61) s61 fun v64 s65 => gdK v39 false (fun k67 => pkK
  v57 (.ok v64) (.ok (.b false)) fun v70 => k67 v70 s65) s65 fun v68 s69 => pkK v39 (.ok (.b true)) (.ok v68) fun v71 => nx (fun e72 s73 => jn (idk) fun k74 =>
  ko e72 9 fun v75 => cdK v75 (nx (fun e76 s77 => .ok .r e76 s77) (kset e72 4 (.i (.negSucc 0))) s73) (ko e72 2 fun v78 => onp v78 fun b79 o80 => ldK b79
  (Nat.add o80 0) s73 fun v81 => nx (fun e82 s83 => jn (k74) fun k84 => ko e82 30 fun v85 => cdK v85 (ko e82 1 fun v86 => bnr (cl 320 [v86] s83) fun v87 s88 =>
  oni v87 fun n89 => frcI (wrapI (arI .add (.ofNat 1) n89)) fun n90 => nx (fun e91 s92 => .ok .r e91 s92) (kset e82 4 (.i n90)) s88) (ko e82 5 fun v93 => oni
  v93 fun n94 => nx (fun e95 s96 => jn (k84) fun k97 => ko e95 36 fun v98 => cdK v98 (nx (fun e99 s100 => .ok .r e99 s100) (kset e95 4 (.i (.ofNat 1))) s96) (k97
  e95 s96)) (kset e82 36 (.b (cmI .le n94 (.ofNat 6)))) s83)) (kset e72 30 v81) s73)) (kset e12 9 v71) s69) 0 (fun e101 s102 => ko e101 5 fun v103 => oni v103
  fun n104 => frcI (wrapI (arI .sub n104 (.ofNat 6))) fun n105 => bnr (cl 335 [(.i n105), (.i (.ofNat 7))] s102) fun v106 s107 => oni v106 fun n108 => frcI
  (wrapI (arI .add (.ofNat 1) n108)) fun n109 => nx (fun e110 s111 => .ok .r e110 s111) (kset e101 4 (.i n109)) s107)) (kset e4 5 v10) s11) (kset (kset env 2 v2)
  4 (.i (.ofNat 0))) s3
theorem fe259 : rf259 = fastOf kf259 := by kernel_rfl
noncomputable def rf260 : RFun := .mk 2 [.t 4, .t 5, .t 6] fun cl env s => ko env 0 fun v1 => bnr (boxV v1 s) fun v2 s3 => nx (fun e4 s5 => bkK (ko e4 2 fun v6 => onp v6 fun b7 o8 => bnr (ldnP 2 b7 o8 s5) fun v9 s10 => bnr (cl
  190 [v9] s10) fun v11 s12 => onBx v11 fun c13 => gdK (.b (neg c13)) false (fun k14 => ko e4 2 fun v17 => onp v17 fun b18 o19 => k14 (.p b18 (Nat.add o19 0))
  s12) s12 fun v15 s16 => gdK (.b (neg c13)) false (fun k20 => onp v15 fun b23 o24 => ldK b23 o24 s16 fun v25 => k20 v25 s16) s16 fun v21 s22 => pkK (.b (neg
  c13)) (.ok (.b true)) (.ok v21) fun v26 => gdK v26 false (fun k27 => ko e4 1 fun v30 => k27 v30 s22) s22 fun v28 s29 => gdK v26 false (fun k31 => oni v28 fun
  n34 => k31 (.b (cmI .lt n34 (.ofNat 0))) s29) s29 fun v32 s33 => pkK v26 (.ok (.b true)) (.ok v32) fun v35 => gdK v35 false (fun k36 => ko e4 1 fun v39 => k36
  v39 s33) s33 fun v37 s38 => gdK v35 false (fun k40 => ko e4 2 fun v43 => onp v43 fun b44 o45 => k40 (.p b44 (Nat.add o45 1)) s38) s38 fun v41 s42 => gdK v35
  false (fun k46 => onp v41 fun b49 o50 => ldK b49 o50 s42 fun v51 => k46 v51 s42) s42 fun v47 s48 => gdK v35 false (fun k52 => bnr (lenV v47 s48) fun v55 s56
  => k52 v55 s56) s48 fun v53 s54 => gdK v35 false (fun k57 => oni v37 fun n60 => oni v53 fun n61 => k57 (.b (cmI .ge n60 n61)) s54) s54 fun v58 s59 => pkK v35
  (.ok (.b true)) (.ok v58) fun v62 => nx (fun e63 s64 => jn (idk) fun k65 => ko e63 7 fun v66 => cdK v66 (nx (fun e67 s68 => .ok .r e67 s68) (kset (kset (kset
  e63 4 (.i (.ofNat 0))) 5 (.i (.ofNat 0))) 6 (.b false)) s64) (ko e63 1 fun v69 => oni v69 fun n70 => nx (fun e71 s72 => jn (k65) fun k73 => ko e71 26 fun v74
  => cdK v74 (ko e71 1 fun v75 => oni v75 fun n76 => frcI (wrapI (arI .add (.ofNat 2) n76)) fun n77 => nx (fun e78 s79 => .ok .r e78 s79) (kset (kset (kset e71
  4 (.i (.ofNat 0))) 5 (.i n77)) 6 (.b true)) s72) (k73 e71 s72)) (kset e63 26 (.b (cmI .lt n70 (.ofNat 6)))) s64)) (kset e4 7 v62) s59) 0 (fun e80 s81 => ko e80
  1 fun v82 => oni v82 fun n83 => frcI (wrapI (arI .sub n83 (.ofNat 6))) fun n84 => bnr (eKp (.q (.quo (.c (.i n84)) (.c (.i (.ofNat 7))))) .nil s81 cl) fun
  v85 s86 => oni v85 fun n87 => frcI (wrapI (arI .add (.ofNat 1) n87)) fun n88 => ko e80 1 fun v89 => oni v89 fun n90 => frcI (wrapI (arI .sub n90 (.ofNat 6)))
  fun n91 => bnr (eKp (.q (.rem (.c (.i n91)) (.c (.i (.ofNat 7))))) .nil s86 cl) fun v92 s93 => oni v92 fun n94 => frcI (wrapI (arI .add (.ofNat 1) n94)) fun
  n95 => nx (fun e96 s97 => .ok .r e96 s97) (kset (kset (kset e80 4 (.i n88)) 5 (.i n95)) 6 (.b true)) s93)) (kset (kset (kset (kset env 2 v2) 4 (.i (.ofNat 0)))
  5 (.i (.ofNat 0))) 6 (.b false)) s3
theorem fe260 : rf260 = fastOf kf260 := by kernel_rfl
noncomputable def rf287 : RFun := .mk 2 [.t 4] fun cl env s => nx (fun e1 s2 => ko e1 0 fun v3 => bnr (lenV v3 s2) fun v4 s5 => nx (fun e6 s7 => bkK (bindX (lpR (fun cl e8 s9 => ko e8 8 fun v10 => ko e8 7 fun v11 => oni
  v10 fun n12 => oni v11 fun n13 => nx (fun e14 s15 => jn (fun e18 s19 => bkK (ko e18 8 fun v20 => nx (fun e21 s22 => ko e21 1 fun v23 => ko e21 0 fun v24 => ko
  e21 5 fun v25 => onSlx v24 fun b26 o27 q28 => oni v25 fun n30 => onON (nat n30) fun i29 => ifX (Nat.blt i29 q28) (bnr (ldnP 2 b26 (Nat.add o27 (Nat.mul i29
  2)) s22) fun v31 s32 => cvK v23 [v31] s32 cl fun v33 s34 => nx (fun e35 s36 => jn (idk) fun k37 => ko e35 16 fun v38 => cdK v38 (ko e35 5 fun v39 => nx (fun
  e40 s41 => .ok .r e40 s41) (kset e35 4 v39) s36) (k37 e35 s36)) (kset e21 16 v33) s34)) (kset e18 5 v20) s19) 1 (fun e42 s43 => ko e42 8 fun v44 => oni v44
  fun n45 => frcI (wrapI (arI .add n45 (.ofNat 1))) fun n46 => nx (idk) (kset e42 8 (.i n46)) s43)) fun k16 => ko e14 9 fun v17 => cdK v17 (k16 e14 s15) (.ok (.x
  0) e14 s15)) (kset e8 9 (.b (cmI .lt n12 n13))) s9) lpFuel cl e6 s7) (idk)) 0 (fun e47 s48 => nx (fun e49 s50 => .ok .r e49 s50) (kset e47 4 (.i (.negSucc 0)))
  s48)) (kset (kset e1 7 v4) 8 (.i (.ofNat 0))) s5) (kset env 4 (.i (.ofNat 0))) s
theorem fe287 : rf287 = fastOf kf287 := by kernel_rfl
noncomputable def rf288 : RFun := .mk 1 [.t 2] fun cl env s => nx (fun e1 s2 => ko e1 0 fun v3 => bnr (nilsV true v3 s2) fun v4 s5 => nx (fun e6 s7 => jn (fun e12 s13 => bnr (oL (fill .nil (repL [.b false] 0) .nil) (bsl1
  0 (lenL [.b false])) s13) fun v14 s15 => ko e12 0 fun v16 => bnr (ap0 1 1 (.ok v16) v14 s15) fun v17 s18 => nx (fun e19 s20 => .ok .r e19 s20) (kset e12 2
  v17) s18) fun k8 => ko e6 4 fun v9 => cdK v9 (nx (fun e10 s11 => .ok .r e10 s11) (kset e6 2 (.ns)) s7) (k8 e6 s7)) (kset e1 4 v4) s5) (kset env 2 (.ns)) s
theorem fe288 : rf288 = fastOf kf288 := by kernel_rfl
noncomputable def rf289 : RFun := .mk 5 [.t 10] fun cl env s => nx (fun e1 s2 => ko e1 0 fun v3 => ko e1 1 fun v4 => bnr (cl 79 [v3, v4] s2) fun v5 s6 => onBx v5 fun c7 => gdK (.b (neg c7)) false (fun k8 => ko e1 2 fun v11
  => k8 v11 s6) s6 fun v9 s10 => gdK (.b (neg c7)) false (fun k12 => oni v9 fun n15 => k12 (.b (cmI .lt n15 (.ofNat 0))) s10) s10 fun v13 s14 => pkK (.b (neg
  c7)) (.ok (.b true)) (.ok v13) fun v16 => gdK v16 false (fun k17 => ko e1 2 fun v20 => k17 v20 s14) s14 fun v18 s19 => gdK v16 false (fun k21 => oni v18 fun
  n24 => k21 (.b (cmI .gt n24 (.ofNat 2))) s19) s19 fun v22 s23 => pkK v16 (.ok (.b true)) (.ok v22) fun v25 => nx (fun e26 s27 => jn (fun e32 s33 => ko e32 0
  fun v34 => ko e32 0 fun v35 => onp v35 fun b36 o37 => ldK b36 (Nat.add o37 0) s33 fun v38 => ko e32 1 fun v39 => onSlx v38 fun b40 o41 q42 => oni v39 fun n44
  => onON (nat n44) fun i43 => ifX (Nat.blt i43 q42) (ldK b40 (Nat.add (Nat.add o41 (Nat.mul i43 3)) 0) s33 fun v45 => onp v34 fun b46 o47 => bnr (eKp (.q
  (.iar (.c (.p b46 (Nat.add o47 1))) (.c v45) 1 3)) .nil s33 cl) fun v48 s49 => onp v48 fun b50 o51 => ldK b50 o51 s33 fun v52 => oni v52 fun n53 => frcI
  (wrapI (arI .sub n53 (.ofNat 1))) fun n54 => onp v34 fun b55 o56 => bnr (eKp (.q (.iar (.c (.p b55 (Nat.add o56 1))) (.c v45) 1 3)) .nil s33 cl) fun v57 s58
  => onp v57 fun b59 o60 => bnr (stV b59 o60 (.i n54) s33) fun v61 s62 => nx (fun e63 s64 => ko e63 0 fun v65 => ko e63 2 fun v66 => onp v65 fun b67 o68 =>
  bnr (eKp (.q (.iar (.c (.p b67 (Nat.add o68 1))) (.c v66) 1 3)) .nil s64 cl) fun v69 s70 => onp v69 fun b71 o72 => ldK b71 o72 s64 fun v73 => oni v73 fun
  n74 => frcI (wrapI (arI .add n74 (.ofNat 1))) fun n75 => onp v65 fun b76 o77 => bnr (eKp (.q (.iar (.c (.p b76 (Nat.add o77 1))) (.c v66) 1 3)) .nil s64 cl)
  fun v78 s79 => onp v78 fun b80 o81 => bnr (stV b80 o81 (.i n75) s64) fun v82 s83 => nx (fun e84 s85 => ko e84 0 fun v86 => onp v86 fun b87 o88 => ldK b87
  (Nat.add o88 0) s85 fun v89 => ko e84 1 fun v90 => ko e84 2 fun v91 => ko e84 3 fun v92 => gdK v92 true (fun k93 => ko e84 2 fun v96 => k93 v96 s85) s85 fun
  v94 s95 => gdK v92 true (fun k97 => oni v94 fun n100 => k97 (.b (cmI .eq n100 (.ofNat 2))) s95) s95 fun v98 s99 => pkK v92 (.ok v98) (.ok (.b false)) fun v101
  => ko e84 4 fun v102 => bnr (oL (fill (.cons 0 1 (.c v91) (.cons 1 1 (.c v101) (.cons 2 1 (.c v102) .nil))) [.i (.ofNat 0), .b false, .b false] .nil) okA
  s99) fun v103 s104 => onSlx v89 fun b105 o106 q107 => oni v90 fun n109 => onON (nat n109) fun i108 => ifX (Nat.blt i108 q107) (onAx v103 fun l110 => bnr
  (stnA 3 b105 (Nat.add o106 (Nat.mul i108 3)) l110 s104) fun v111 s112 => nx (fun e113 s114 => nx (fun e115 s116 => .ok .r e115 s116) (kset e113 10 (.b true))
  s114) e84 s112)) e63 s83) e32 s62)) fun k28 => ko e26 22 fun v29 => cdK v29 (nx (fun e30 s31 => .ok .r e30 s31) (kset e26 10 (.b false)) s27) (k28 e26 s27))
  (kset e1 22 v25) s23) (kset env 10 (.b false)) s
theorem fe289 : rf289 = fastOf kf289 := by kernel_rfl
noncomputable def rf291 : RFun := .mk 1 [.t 2, .t 3] fun cl env s => nx (fun e1 s2 => bnr (oL (fill (.cons 0 1 (.c (.s [])) (.cons 1 1 (.c (.s [])) .nil)) [.s [], .s []] .nil) okA s2) fun v3 s4 => bnr (oL (fill (.cons 0 1 (.c
  (.s [110, 101, 119])) (.cons 1 1 (.c (.s [97, 107])) .nil)) [.s [], .s []] .nil) okA s4) fun v5 s6 => bnr (oL (fill (.cons 0 1 (.c (.s [97, 114, 114, 97,
  121])) (.cons 1 1 (.c (.s [97, 107, 110])) .nil)) [.s [], .s []] .nil) okA s6) fun v7 s8 => bnr (oL (fill (.cons 0 1 (.c (.s [108, 111, 97, 100])) (.cons 1 1
  (.c (.s [97, 98, 110])) .nil)) [.s [], .s []] .nil) okA s8) fun v9 s10 => bnr (oL (fill (.cons 0 1 (.c (.s [115, 116, 111, 114, 101])) (.cons 1 1 (.c (.s
  [97, 110, 98])) .nil)) [.s [], .s []] .nil) okA s10) fun v11 s12 => bnr (oL (fill (.cons 0 1 (.c (.s [103, 101, 116])) (.cons 1 1 (.c (.s [97, 98, 110]))
  .nil)) [.s [], .s []] .nil) okA s12) fun v13 s14 => bnr (oL (fill (.cons 0 1 (.c (.s [112, 117, 116])) (.cons 1 1 (.c (.s [97, 110, 98])) .nil)) [.s [], .s
  []] .nil) okA s14) fun v15 s16 => bnr (oL (fill (.cons 0 1 (.c (.s [108, 111, 111, 107])) (.cons 1 1 (.c (.s [97, 103])) .nil)) [.s [], .s []] .nil) okA s16)
  fun v17 s18 => bnr (oL (fill (.cons 0 1 (.c (.s [115, 101, 116])) (.cons 1 1 (.c (.s [103, 98])) .nil)) [.s [], .s []] .nil) okA s18) fun v19 s20 => bnr
  (oL (fill (.cons 0 1 (.c (.s [115, 97, 109, 101])) (.cons 1 1 (.c (.s [97, 98, 99])) .nil)) [.s [], .s []] .nil) okA s20) fun v21 s22 => bnr (oL (fill (.cons
  0 1 (.c (.s [108, 101, 110, 103, 116, 104])) (.cons 1 1 (.c (.s [97, 98])) .nil)) [.s [], .s []] .nil) okA s22) fun v23 s24 => bnr (oL (fill (.cons 0 1 (.c
  (.s [107, 105, 110, 100])) (.cons 1 1 (.c (.s [97, 98])) .nil)) [.s [], .s []] .nil) okA s24) fun v25 s26 => bnr (oL (fill (.cons 0 1 (.c (.s [110, 117, 109,
  98, 101, 114])) (.cons 1 1 (.c (.s [97, 122])) .nil)) [.s [], .s []] .nil) okA s26) fun v27 s28 => bnr (oL (fill (.cons 0 1 (.c (.s [99, 108, 101, 97, 114]))
  (.cons 1 1 (.c (.s [97])) .nil)) [.s [], .s []] .nil) okA s28) fun v29 s30 => bnr (oL (fill (.cons 0 1 (.c (.s [99, 111, 112, 121])) (.cons 1 1 (.c (.s [97,
  98])) .nil)) [.s [], .s []] .nil) okA s30) fun v31 s32 => bnr (oL (fill (.cons 0 1 (.c (.s [97, 100, 100])) (.cons 1 1 (.c (.s [97, 98, 99])) .nil)) [.s [],
  .s []] .nil) okA s32) fun v33 s34 => bnr (oL (fill (.cons 0 1 (.c (.s [109, 117, 108])) (.cons 1 1 (.c (.s [97, 98, 99])) .nil)) [.s [], .s []] .nil) okA
  s34) fun v35 s36 => bnr (oL (fill (.cons 0 1 (.c (.s [99, 111, 108, 108, 101, 99, 116])) (.cons 1 1 (.c (.s [])) .nil)) [.s [], .s []] .nil) okA s36) fun v37
  s38 => bnr (oL (fill (.cons 0 1 (.c (.s [108, 101, 97, 118, 101])) (.cons 1 1 (.c (.s [])) .nil)) [.s [], .s []] .nil) okA s38) fun v39 s40 => bnr (oL
  (fill (.cons 0 2 (.c v3) (.cons 2 2 (.c v5) (.cons 4 2 (.c v7) (.cons 6 2 (.c v9) (.cons 8 2 (.c v11) (.cons 10 2 (.c v13) (.cons 12 2 (.c v15) (.cons 14 2 (.c
  v17) (.cons 16 2 (.c v19) (.cons 18 2 (.c v21) (.cons 20 2 (.c v23) (.cons 22 2 (.c v25) (.cons 24 2 (.c v27) (.cons 26 2 (.c v29) (.cons 28 2 (.c v31) (.cons
  30 2 (.c v33) (.cons 32 2 (.c v35) (.cons 34 2 (.c v37) (.cons 36 2 (.c v39) .nil))))))))))))))))))) (repL [.s [], .s []] 19) .nil) (bsl1 19 (lenL [.s [], .s
  []])) s40) fun v41 s42 => nx (fun e43 s44 => ko e43 0 fun v45 => oni v45 fun n46 => gdK (.b (cmI .lt n46 (.ofNat 0))) false (fun k47 => ko e43 0 fun v50 =>
  k47 v50 s44) s44 fun v48 s49 => gdK (.b (cmI .lt n46 (.ofNat 0))) false (fun k51 => ko e43 4 fun v54 => k51 v54 s49) s49 fun v52 s53 => gdK (.b (cmI .lt n46
  (.ofNat 0))) false (fun k55 => bnr (lenV v52 s53) fun v58 s59 => k55 v58 s59) s53 fun v56 s57 => gdK (.b (cmI .lt n46 (.ofNat 0))) false (fun k60 => oni v48
  fun n63 => oni v56 fun n64 => k60 (.b (cmI .ge n63 n64)) s57) s57 fun v61 s62 => pkK (.b (cmI .lt n46 (.ofNat 0))) (.ok (.b true)) (.ok v61) fun v65 => nx
  (fun e66 s67 => jn (fun e72 s73 => ko e72 4 fun v74 => ko e72 0 fun v75 => onSlx v74 fun b76 o77 q78 => oni v75 fun n80 => onON (nat n80) fun i79 => ifX
  (Nat.blt i79 q78) (bnr (eKp (.q (.iar (.c (.p b76 (Nat.add o77 (Nat.mul i79 2)))) (.c (.i (.ofNat 0))) 1 2)) .nil s73 cl) fun v81 s82 => onp v81 fun b83 o84
  => ldK b83 o84 s73 fun v85 => ko e72 4 fun v86 => ko e72 0 fun v87 => onSlx v86 fun b88 o89 q90 => oni v87 fun n92 => onON (nat n92) fun i91 => ifX (Nat.blt
  i91 q90) (bnr (eKp (.q (.iar (.c (.p b88 (Nat.add o89 (Nat.mul i91 2)))) (.c (.i (.ofNat 1))) 1 2)) .nil s73 cl) fun v93 s94 => onp v93 fun b95 o96 => ldK
  b95 o96 s73 fun v97 => nx (fun e98 s99 => .ok .r e98 s99) (kset (kset e72 2 v85) 3 v97) s73))) fun k68 => ko e66 32 fun v69 => cdK v69 (nx (fun e70 s71 => .ok
  .r e70 s71) (kset (kset e66 2 (.s [])) 3 (.s [])) s67) (k68 e66 s67)) (kset e43 32 v65) s62) (kset e1 4 v41) s42) (kset (kset env 2 (.s [])) 3 (.s [])) s
theorem fe291 : rf291 = fastOf kf291 := by kernel_rfl
noncomputable def rf292 : RFun := .mk 2 [.t 4] fun cl env s => nx (fun e1 s2 => ko e1 1 fun v3 => nx (fun e4 s5 => bkK (ko e4 5 fun v6 => bnr (onK (cmk1 .eq (.ok (.k .i32 (.ofNat 97)))) v6 s5) fun v7 s8 => nx (fun e9 s10
  => jn (idk) fun k11 => ko e9 6 fun v12 => cdK v12 (ko e9 0 fun v13 => onp v13 fun b14 o15 => nx (fun e16 s17 => .ok .r e16 s17) (kset e9 4 (.p b14 (Nat.add
  o15 1))) s10) (ko e9 5 fun v18 => bnr (onK (cmk1 .eq (.ok (.k .i32 (.ofNat 98)))) v18 s10) fun v19 s20 => nx (fun e21 s22 => jn (fun e28 s29 => jn (k11) fun
  k30 => ko e28 11 fun v31 => cdK v31 (ko e28 0 fun v32 => onp v32 fun b33 o34 => nx (fun e35 s36 => .ok .r e35 s36) (kset e28 4 (.p b33 (Nat.add o34 2))) s29)
  (ko e28 5 fun v37 => bnr (onK (cmk1 .eq (.ok (.k .i32 (.ofNat 99)))) v37 s29) fun v38 s39 => nx (fun e40 s41 => jn (k30) fun k42 => ko e40 17 fun v43 => cdK
  v43 (ko e40 0 fun v44 => onp v44 fun b45 o46 => nx (fun e47 s48 => .ok .r e47 s48) (kset e40 4 (.p b45 (Nat.add o46 3))) s41) (k42 e40 s41)) (kset e28 17 v38)
  s39)) fun k23 => ko e21 11 fun v24 => cdK v24 (k23 e21 s22) (ko e21 5 fun v25 => bnr (onK (cmk1 .eq (.ok (.k .i32 (.ofNat 107)))) v25 s22) fun v26 s27 => nx
  (k23) (kset e21 11 v26) s27)) (kset e9 11 v19) s20)) (kset e4 6 v7) s8) 0 (fun e49 s50 => ko e49 0 fun v51 => onp v51 fun b52 o53 => nx (fun e54 s55 => .ok .r
  e54 s55) (kset e49 4 (.p b52 (Nat.add o53 4))) s50)) (kset e1 5 v3) s2) (kset env 4 (.np)) s
theorem fe292 : rf292 = fastOf kf292 := by kernel_rfl
noncomputable def rf293 : RFun := .mk 2 [.t 4] fun cl env s => ko env 0 fun v1 => bnr (boxV v1 s) fun v2 s3 => ko env 1 fun v4 => bnr (boxV v4 s3) fun v5 s6 => nx (fun e7 s8 => ko e7 3 fun v9 => onp v9 fun b10 o11 =>
  ldK b10 (Nat.add o11 0) s8 fun v12 => oni v12 fun n13 => nx (fun e14 s15 => jn (fun e31 s32 => ko e31 2 fun v33 => onp v33 fun b34 o35 => bnr (ldnP 2 b34
  o35 s32) fun v36 s37 => bnr (cl 259 [v36, (.i (.ofNat 0))] s37) fun v38 s39 => nx (fun e40 s41 => .ok .r e40 s41) (kset e31 4 v38) s39) fun k16 => ko e14 7
  fun v17 => cdK v17 (ko e14 2 fun v18 => onp v18 fun b19 o20 => bnr (ldnP 2 b19 o20 s15) fun v21 s22 => ko e14 3 fun v23 => onp v23 fun b24 o25 => ldK b24
  (Nat.add o25 4) s22 fun v26 => bnr (cl 259 [v21, v26] s22) fun v27 s28 => nx (fun e29 s30 => .ok .r e29 s30) (kset e14 4 v27) s28) (k16 e14 s15)) (kset e7 7
  (.b (cmI .eq n13 (.ofNat 2)))) s8) (kset (kset (kset env 2 v2) 3 v5) 4 (.i (.ofNat 0))) s6
theorem fe293 : rf293 = fastOf kf293 := by kernel_rfl
noncomputable def rf294 : RFun := .mk 2 [.t 4] fun cl env s => ko env 0 fun v1 => bnr (boxV v1 s) fun v2 s3 => nx (fun e4 s5 => ko e4 2 fun v6 => onp v6 fun b7 o8 => bnr (ldnP 2 b7 o8 s5) fun v9 s10 => bnr (cl 190
  [v9] s10) fun v11 s12 => onBx v11 fun c13 => gdK (.b (neg c13)) false (fun k14 => ko e4 2 fun v17 => onp v17 fun b18 o19 => k14 (.p b18 (Nat.add o19 0)) s12)
  s12 fun v15 s16 => gdK (.b (neg c13)) false (fun k20 => onp v15 fun b23 o24 => ldK b23 o24 s16 fun v25 => k20 v25 s16) s16 fun v21 s22 => gdK (.b (neg c13))
  false (fun k26 => onBx v21 fun c29 => k26 (.b (neg c29)) s22) s22 fun v27 s28 => pkK (.b (neg c13)) (.ok (.b true)) (.ok v27) fun v30 => gdK v30 false (fun k31
  => ko e4 1 fun v34 => k31 v34 s28) s28 fun v32 s33 => gdK v30 false (fun k35 => bnr (cl 320 [v32] s33) fun v38 s39 => k35 v38 s39) s33 fun v36 s37 => gdK v30
  false (fun k40 => oni v36 fun n43 => k40 (.b (cmI .le n43 (.ofNat 4))) s37) s37 fun v41 s42 => pkK v30 (.ok (.b true)) (.ok v41) fun v44 => nx (fun e45 s46 =>
  jn (fun e51 s52 => ko e51 1 fun v53 => bnr (cl 320 [v53] s52) fun v54 s55 => oni v54 fun n56 => frcI (wrapI (arI .add n56 (.ofNat 2))) fun n57 => nx (fun
  e58 s59 => .ok .r e58 s59) (kset e51 4 (.i n57)) s55) fun k47 => ko e45 17 fun v48 => cdK v48 (nx (fun e49 s50 => .ok .r e49 s50) (kset e45 4 (.i (.ofNat 0)))
  s46) (k47 e45 s46)) (kset e4 17 v44) s42) (kset (kset env 2 v2) 4 (.i (.ofNat 0))) s3
theorem fe294 : rf294 = fastOf kf294 := by kernel_rfl
noncomputable def rf295 : RFun := .mk 2 [.t 4] fun cl env s => nx (fun e1 s2 => ko e1 0 fun v3 => ko e1 1 fun v4 => bnr (cl 344 [v3, v4] s2) fun v5 s6 => oni v5 fun n7 => nx (fun e8 s9 => .ok .r e8 s9) (kset e1 4 (.b (cmI
  .ge n7 (.ofNat 0)))) s6) (kset env 4 (.b false)) s
theorem fe295 : rf295 = fastOf kf295 := by kernel_rfl
noncomputable def rf301 : RFun := .mk 2 [.t 4, .t 5] fun cl env s => ko env 0 fun v1 => bnr (boxV v1 s) fun v2 s3 => ko env 1 fun v4 => bnr (boxV v4 s3) fun v5 s6 => nx (fun e7 s8 => ko e7 3 fun v9 => onp v9 fun b10 o11 =>
  ldK b10 (Nat.add o11 0) s8 fun v12 => oni v12 fun n13 => gdK (.b (cmI .ne n13 (.ofNat 1))) true (fun k14 => ko e7 3 fun v17 => onp v17 fun b18 o19 => k14 (.p
  b18 (Nat.add o19 0)) s8) s8 fun v15 s16 => gdK (.b (cmI .ne n13 (.ofNat 1))) true (fun k20 => onp v15 fun b23 o24 => ldK b23 o24 s16 fun v25 => k20 v25 s16)
  s16 fun v21 s22 => gdK (.b (cmI .ne n13 (.ofNat 1))) true (fun k26 => oni v21 fun n29 => k26 (.b (cmI .ne n29 (.ofNat 2))) s22) s22 fun v27 s28 => pkK (.b
  (cmI .ne n13 (.ofNat 1))) (.ok v27) (.ok (.b false)) fun v30 => gdK v30 false (fun k31 => ko e7 2 fun v34 => onp v34 fun b35 o36 => bnr (ldnP 9 b35 o36 s28)
  fun v37 s38 => k31 v37 s38) s28 fun v32 s33 => gdK v30 false (fun k39 => ko e7 3 fun v42 => onp v42 fun b43 o44 => bnr (ldnP 6 b43 o44 s33) fun v45 s46 =>
  k39 v45 s46) s33 fun v40 s41 => gdK v30 false (fun k47 => bnr (cl 207 [v32, v40] s41) fun v50 s51 => k47 v50 s51) s41 fun v48 s49 => gdK v30 false (fun k52
  => oni v48 fun n55 => k52 (.b (cmI .ne n55 (.ofNat 0))) s49) s49 fun v53 s54 => pkK v30 (.ok (.b true)) (.ok v53) fun v56 => nx (fun e57 s58 => jn (fun e63
  s64 => ko e63 2 fun v65 => onp v65 fun b66 o67 => bnr (ldnP 9 b66 o67 s64) fun v68 s69 => ko e63 3 fun v70 => onp v70 fun b71 o72 => ldK b71 (Nat.add o72
  2) s69 fun v73 => bnr (cl 173 [v68, v73] s69) fun v74 s75 => extK v74 0 fun v76 => extK v74 1 fun v77 => bnr (eNew [.b false, .ns] .nil s75 cl) fun v78 s79
  => onp v78 fun b80 o81 => onAx v76 fun l82 => bnr (stnA 2 b80 o81 l82 s79) fun v83 s84 => nx (fun e85 s86 => ko e85 6 fun v87 => onp v87 fun b88 o89 =>
  bnr (ldnP 2 b88 o89 s86) fun v90 s91 => ko e85 3 fun v92 => onp v92 fun b93 o94 => bnr (ldnP 6 b93 o94 s86) fun v95 s96 => ko e85 6 fun v97 => onp v97
  fun b98 o99 => bnr (ldnP 2 b98 o99 s86) fun v100 s101 => ko e85 3 fun v102 => onp v102 fun b103 o104 => ldK b103 (Nat.add o104 4) s86 fun v105 => bnr (cl
  293 [v90, v95] s86) fun v106 s107 => ko e85 6 fun v108 => onp v108 fun b109 o110 => bnr (ldnP 2 b109 o110 s107) fun v111 s112 => ifX (eqV v100 v111) (ko e85
  3 fun v113 => onp v113 fun b114 o115 => ifX (eqV (.p b103 (Nat.add o104 4)) (.p b114 (Nat.add o115 4))) (ldK b114 (Nat.add o115 4) s107 fun v116 => ifX (eqV
  v105 v116) (bnr (cl 294 [v111, v116] s107) fun v117 s118 => nx (fun e119 s120 => .ok .r e119 s120) (kset (kset e85 4 v106) 5 v117) s118)))) (kset e63 6 v78)
  s84) fun k59 => ko e57 21 fun v60 => cdK v60 (nx (fun e61 s62 => .ok .r e61 s62) (kset (kset e57 4 (.i (.ofNat 0))) 5 (.i (.ofNat 0))) s58) (k59 e57 s58))
  (kset e7 21 v56) s54) (kset (kset (kset (kset env 2 v2) 3 v5) 4 (.i (.ofNat 0))) 5 (.i (.ofNat 0))) s6
theorem fe301 : rf301 = fastOf kf301 := by kernel_rfl
end Go.Kx
