/-
  Functions in the fast form; that they are the others. Printed by a program of ours.
-/
import Derived.Test.YtkggojngcnkabaaGreatKxH
import Derived.Test.YtkggojngcnkabaaGreatB10
set_option linter.unusedVariables false
set_option linter.unusedSimpArgs false
set_option maxRecDepth 1000000
noncomputable section
namespace Go.Kx
def rf171 : RFun := .mk 1 [.t 2,.t 3,.t 4] λ cl env s=>nx (λ e1 s2=>ko e1 0 λ v3=>bnr (onZ reZ v3 s2) λ v4 s5=>bnr (eKp (.q (.cplx (.c v4) (.c (.f 0)))) .nil s5 cl) λ v6 s7=>bnr (cl 225 [v6] s7)
  λ v8 s9=>extK v8 0 λ v10=>extK v8 1 λ v11=>nx (λ e12 s13=>ko e12 0 λ v14=>bnr (onZ imZ v14 s13) λ v15 s16=>bnr (eKp (.q (.cplx (.c
  v15) (.c (.f 0)))) .nil s16 cl) λ v17 s18=>bnr (cl 225 [v17] s18) λ v19 s20=>extK v19 0 λ v21=>extK v19 1 λ v22=>nx (λ e23 s24=>ko e23 6
  λ v25=>onBx v25 λ c26=>gdK (.b (neg c26)) false (λ k27=>ko e23 8 λ v30=>k27 v30 s24) s24 λ v28 s29=>gdK (.b (neg c26)) false (λ k31=>
  onBx v28 λ c34=>k31 (.b (neg c34)) s29) s29 λ v32 s33=>pkK (.b (neg c26)) (.ok (.b true)) (.ok v32) λ v35=>gdK v35 false (λ k36=>ko e23 5 λ
  v39=>k36 v39 s33) s33 λ v37 s38=>gdK v35 false (λ k40=>oni v37 λ n43=>k40 (.b (cmI .lt n43 (.ofNat 0))) s38) s38 λ v41 s42=>pkK v35 (.ok (.b
  true)) (.ok v41) λ v44=>gdK v44 false (λ k45=>ko e23 5 λ v48=>k45 v48 s42) s42 λ v46 s47=>gdK v44 false (λ k49=>oni v46 λ n52=>k49 (.b
  (cmI .gt n52 (.ofNat 1099511627776))) s47) s47 λ v50 s51=>pkK v44 (.ok (.b true)) (.ok v50) λ v53=>gdK v53 false (λ k54=>ko e23 7 λ v57=>k54
  v57 s51) s51 λ v55 s56=>gdK v53 false (λ k58=>oni v55 λ n61=>k58 (.b (cmI .lt n61 (.ofNat 0))) s56) s56 λ v59 s60=>pkK v53 (.ok (.b true))
  (.ok v59) λ v62=>gdK v62 false (λ k63=>ko e23 7 λ v66=>k63 v66 s60) s60 λ v64 s65=>gdK v62 false (λ k67=>oni v64 λ n70=>k67 (.b (cmI
  .gt n70 (.ofNat 1099511627776))) s65) s65 λ v68 s69=>pkK v62 (.ok (.b true)) (.ok v68) λ v71=>nx (λ e72 s73=>jn (λ e78 s79=>ko e78 5 λ v80=>
  ko e78 7 λ v81=>nx (λ e82 s83=>.ok .r e82 s83) (kst (kst (kst e78 2 v80) 3 v81) 4 (.b true)) s79) λ k74=>ko e72 44 λ v75=>cdK v75 (nx (λ
  e76 s77=>.ok .r e76 s77) (kst (kst (kst e72 2 (.i (.ofNat 0))) 3 (.i (.ofNat 0))) 4 (.b false)) s73) (k74 e72 s73)) (kst e23 44 v71) s69) (kst (kst e12
  7 v21) 8 v22) s20) (kst (kst e1 5 v10) 6 v11) s9) (kst (kst (kst env 2 (.i (.ofNat 0))) 3 (.i (.ofNat 0))) 4 (.b false)) s
theorem fe171 : rf171 = fastOf kf171 := by kernel_rfl
def rf173 : RFun := .mk 2 [.cn 4 2,.t 5] λ cl env s=>ko env 0 λ v1=>bnr (boxV v1 s) λ v2 s3=>bnr (eNew [.b false,.ns] .nil s3 cl) λ v4 s5=>nx (λ e6 s7=>ko e6 1 λ v8=>oni v8 λ n9=>gdK
  (.b (cmI .lt n9 (.ofNat 0))) false (λ k10=>ko e6 1 λ v13=>k10 v13 s7) s7 λ v11 s12=>gdK (.b (cmI .lt n9 (.ofNat 0))) false (λ k14=>ko e6 2 λ
  v17=>onp v17 λ b18 o19=>k14 (.p b18 (Nat.add o19 8)) s12) s12 λ v15 s16=>gdK (.b (cmI .lt n9 (.ofNat 0))) false (λ k20=>onp v15 λ b23 o24=>
  ldK b23 o24 s16 λ v25=>k20 v25 s16) s16 λ v21 s22=>gdK (.b (cmI .lt n9 (.ofNat 0))) false (λ k26=>bnr (lenV v21 s22) λ v29 s30=>k26 v29 s30)
  s22 λ v27 s28=>gdK (.b (cmI .lt n9 (.ofNat 0))) false (λ k31=>oni v11 λ n34=>oni v27 λ n35=>k31 (.b (cmI .ge n34 n35)) s28) s28 λ v32 s33
 =>pkK (.b (cmI .lt n9 (.ofNat 0))) (.ok (.b true)) (.ok v32) λ v36=>nx (λ e37 s38=>jn (λ e51 s52=>ko e51 2 λ v53=>onp v53 λ b54 o55=>ldK
  b54 (Nat.add o55 8) s52 λ v56=>ko e51 1 λ v57=>onSlx v56 λ b58 o59 q60=>oni v57 λ n62=>onON (nat n62) λ i61=>ifX (Nat.blt i61 q60) (bnr
  (ldnP 2 b58 (Nat.add o59 (Nat.mul i61 2)) s52) λ v63 s64=>bnr (cl 201 [v63] s64) λ v65 s66=>ko e51 4 λ v67=>onp v67 λ b68 o69=>onAx v65 λ
  l70=>bnr (stnA 2 b68 o69 l70 s66) λ v71 s72=>nx (λ e73 s74=>.ok .r e73 s74) (kst e51 5 (.b true)) s72)) λ k39=>ko e37 14 λ v40=>cdK v40
  (bnr (oL (fill .nil [.b false,.ns] .nil) okA s38) λ v41 s42=>ko e37 4 λ v43=>onp v43 λ b44 o45=>onAx v41 λ l46=>bnr (stnA 2 b44 o45 l46
  s42) λ v47 s48=>nx (λ e49 s50=>.ok .r e49 s50) (kst e37 5 (.b false)) s48) (k39 e37 s38)) (kst e6 14 v36) s33) (kst (kst (kst env 2 v2) 4 v4) 5
  (.b false)) s5
theorem fe173 : rf173 = fastOf kf173 := by kernel_rfl
def rf187 : RFun := .mk 3 [.t 6] λ cl env s=>nx (λ e1 s2=>ko e1 0 λ v3=>ko e1 1 λ v4=>oni v3 λ n5=>oni v4 λ n6=>gdK (.b (cmI .ge n5 n6)) true (λ k7=>ko e1 0 λ v10=>k7 v10 s2)
  s2 λ v8 s9=>gdK (.b (cmI .ge n5 n6)) true (λ k11=>ko e1 2 λ v14=>k11 v14 s9) s9 λ v12 s13=>gdK (.b (cmI .ge n5 n6)) true (λ k15=>oni v8
  λ n18=>oni v12 λ n19=>k15 (.b (cmI .le n18 n19)) s13) s13 λ v16 s17=>pkK (.b (cmI .ge n5 n6)) (.ok v16) (.ok (.b false)) λ v20=>nx (λ e21
  s22=>.ok .r e21 s22) (kst e1 6 v20) s17) (kst env 6 (.b false)) s
theorem fe187 : rf187 = fastOf kf187 := by kernel_rfl
def rf188 : RFun := .mk 2 [.t 4] λ cl env s=>nx (λ e1 s2=>ko e1 0 λ v3=>ko e1 1 λ v4=>bnr (cl 287 [v3,v4] s2) λ v5 s6=>oni v5 λ n7=>nx (λ e8 s9=>.ok .r e8 s9) (kst e1 4 (.b (cmI
  .ge n7 (.ofNat 0)))) s6) (kst env 4 (.b false)) s
theorem fe188 : rf188 = fastOf kf188 := by kernel_rfl
def rf189 : RFun := .mk 1 [.t 2] λ cl env s=>ko env 0 λ v1=>bnr (boxV v1 s) λ v2 s3=>nx (λ e4 s5=>ko e4 1 λ v6=>onp v6 λ b7 o8=>bnr (ldnP 2 b7 o8 s5) λ v9 s10=>bnr (cl 190
  [v9] s10) λ v11 s12=>onBx v11 λ c13=>nx (λ e14 s15=>.ok .r e14 s15) (kst e4 2 (.b (neg c13))) s12) (kst (kst env 1 v2) 2 (.b false)) s3
theorem fe189 : rf189 = fastOf kf189 := by kernel_rfl
def rf190 : RFun := .mk 1 [.t 2] λ cl env s=>ko env 0 λ v1=>bnr (boxV v1 s) λ v2 s3=>nx (λ e4 s5=>ko e4 1 λ v6=>onp v6 λ b7 o8=>ldK b7 (Nat.add o8 1) s5 λ v9=>bnr (lenV v9 s5)
  λ v10 s11=>oni v10 λ n12=>gdK (.b (cmI .le n12 (.ofNat 40))) true (λ k13=>ko e4 1 λ v16=>onp v16 λ b17 o18=>k13 (.p b17 (Nat.add o18 0))
  s11) s11 λ v14 s15=>gdK (.b (cmI .le n12 (.ofNat 40))) true (λ k19=>onp v14 λ b22 o23=>ldK b22 o23 s15 λ v24=>k19 v24 s15) s15 λ v20 s21=>
  gdK (.b (cmI .le n12 (.ofNat 40))) true (λ k25=>onBx v20 λ c28=>k25 (.b (neg c28)) s21) s21 λ v26 s27=>gdK (.b (cmI .le n12 (.ofNat 40))) true (λ
  k29=>k29 v26 s27) s27 λ v30 s31=>gdK v30 false (λ k32=>ko e4 1 λ v35=>onp v35 λ b36 o37=>k32 (.p b36 (Nat.add o37 1)) s31) s31 λ v33 s34
 =>gdK v30 false (λ k38=>onp v33 λ b41 o42=>ldK b41 o42 s34 λ v43=>k38 v43 s34) s34 λ v39 s40=>gdK v30 false (λ k44=>bnr (lenV v39 s40)
  λ v47 s48=>k44 v47 s48) s40 λ v45 s46=>gdK v30 false (λ k49=>oni v45 λ n52=>k49 (.b (cmI .eq n52 (.ofNat 1))) s46) s46 λ v50 s51=>gdK (.b
  (cmI .le n12 (.ofNat 40))) true (λ k53=>pkK v30 (.ok (.b true)) (.ok v50) λ v56=>k53 v56 s51) s51 λ v54 s55=>pkK (.b (cmI .le n12 (.ofNat 40)))
  (.ok v54) (.ok (.b false)) λ v57=>nx (λ e58 s59=>.ok .r e58 s59) (kst e4 2 v57) s55) (kst (kst env 1 v2) 2 (.b false)) s3
theorem fe190 : rf190 = fastOf kf190 := by kernel_rfl
def rf191 : RFun := .mk 1 [.cn 2 4] λ cl env s=>ko env 0 λ v1=>bnr (boxV v1 s) λ v2 s3=>bnr (eNew [.i (.ofNat 0),.i (.ofNat 0),.i (.ofNat 0),.i (.ofNat 0)] .nil s3 cl) λ v4 s5=>nx (λ e6 s7
 =>ko e6 1 λ v8=>onp v8 λ b9 o10=>bnr (ldnP 9 b9 o10 s7) λ v11 s12=>bnr (cl 115 [v11] s12) λ v13 s14=>oni v13 λ n15=>nx (λ e16 s17
 =>jn (λ e30 s31=>ko e30 1 λ v32=>onp v32 λ b33 o34=>ldK b33 (Nat.add o34 0) s31 λ v35=>oni v35 λ n36=>frcI (wrapI (arI .mul n36 (.ofNat
  8))) λ n37=>ko e30 1 λ v38=>onp v38 λ b39 o40=>ldK b39 (Nat.add o40 1) s31 λ v41=>ko e30 1 λ v42=>onp v42 λ b43 o44=>ldK b43 (Nat.add
  o44 1) s31 λ v45=>ko e30 1 λ v46=>onp v46 λ b47 o48=>ldK b47 (Nat.add o48 2) s31 λ v49=>bnr (oL (fill (.cons 0 1 (.c (.i n37)) (.cons 1 1
  (.c v41) (.cons 2 1 (.c v45) (.cons 3 1 (.c v49) .nil)))) [.i (.ofNat 0),.i (.ofNat 0),.i (.ofNat 0),.i (.ofNat 0)] .nil) okA s31) λ v50 s51=>ko e30 2
  λ v52=>onp v52 λ b53 o54=>onAx v50 λ l55=>bnr (stnA 4 b53 o54 l55 s51) λ v56 s57=>nx (λ e58 s59=>.ok .r e58 s59) e30 s57) λ k18=>ko
  e16 5 λ v19=>cdK v19 (bnr (oL (fill .nil [.i (.ofNat 0),.i (.ofNat 0),.i (.ofNat 0),.i (.ofNat 0)] .nil) okA s17) λ v20 s21=>ko e16 2 λ v22=>
  onp v22 λ b23 o24=>onAx v20 λ l25=>bnr (stnA 4 b23 o24 l25 s21) λ v26 s27=>nx (λ e28 s29=>.ok .r e28 s29) e16 s27) (k18 e16 s17)) (kst e6 5
  (.b (cmI .ne n15 (.ofNat 0)))) s14) (kst (kst env 1 v2) 2 v4) s5
theorem fe191 : rf191 = fastOf kf191 := by kernel_rfl
def rf192 : RFun := .mk 1 [.t 2,.t 3] λ cl env s=>nx (λ e1 s2=>ko e1 0 λ v3=>oni v3 λ n4=>gdK (.b (cmI .lt n4 (.ofNat 0))) false (λ k5=>ko e1 0 λ v8=>k5 v8 s2) s2 λ v6 s7=>gdK (.b (cmI
  .lt n4 (.ofNat 0))) false (λ k9=>oni v6 λ n12=>k9 (.b (cmI .gt n12 (.ofNat 1024))) s7) s7 λ v10 s11=>pkK (.b (cmI .lt n4 (.ofNat 0))) (.ok (.b
  true)) (.ok v10) λ v13=>nx (λ e14 s15=>jn (λ e20 s21=>ko e20 0 λ v22=>bnr (eKp (.q (.mks [.i (.ofNat 0),.b false,.b false] 16 (.c v22) (.c
  v22))) .nil s21 cl) λ v23 s24=>ko e20 0 λ v25=>bnr (oL (fill (.cons 0 1 (.c v25) .nil) [.i (.ofNat 0),.i (.ofNat 0),.i (.ofNat 0)] .nil) okA s24)
  λ v26 s27=>bnr (oL (fill (.cons 0 1 (.c v23) (.cons 1 3 (.c v26) .nil)) [.ns,.i (.ofNat 0),.i (.ofNat 0),.i (.ofNat 0)] .nil) okA s27) λ v28 s29=>
  bnr (boxV v28 s29) λ v30 s31=>nx (λ e32 s33=>.ok .r e32 s33) (kst (kst e20 2 v30) 3 (.i (.ofNat 0))) s31) λ k16=>ko e14 9 λ v17=>cdK v17
  (nx (λ e18 s19=>.ok .r e18 s19) (kst (kst e14 2 (.np)) 3 (.i (.ofNat 1))) s15) (k16 e14 s15)) (kst e1 9 v13) s11) (kst (kst env 2 (.np)) 3 (.i (.ofNat
  0))) s
theorem fe192 : rf192 = fastOf kf192 := by kernel_rfl
def rf193 : RFun := .mk 1 [.t 2,.t 3] λ cl env s=>nx (λ e1 s2=>ko e1 0 λ v3=>oni v3 λ n4=>gdK (.b (cmI .lt n4 (.ofNat 1))) false (λ k5=>ko e1 0 λ v8=>k5 v8 s2) s2 λ v6 s7=>gdK (.b (cmI
  .lt n4 (.ofNat 1))) false (λ k9=>oni v6 λ n12=>k9 (.b (cmI .gt n12 (.ofNat 256))) s7) s7 λ v10 s11=>pkK (.b (cmI .lt n4 (.ofNat 1))) (.ok (.b
  true)) (.ok v10) λ v13=>nx (λ e14 s15=>jn (λ e20 s21=>ko e20 0 λ v22=>bnr (oL (fill (.cons 1 1 (.c v22) .nil) [.ns,.i (.ofNat 0),.b false]
  .nil) okA s21) λ v23 s24=>bnr (boxV v23 s24) λ v25 s26=>nx (λ e27 s28=>.ok .r e27 s28) (kst (kst e20 2 v25) 3 (.i (.ofNat 0))) s26) λ k16=>
  ko e14 9 λ v17=>cdK v17 (nx (λ e18 s19=>.ok .r e18 s19) (kst (kst e14 2 (.np)) 3 (.i (.ofNat 1))) s15) (k16 e14 s15)) (kst e1 9 v13) s11) (kst
  (kst env 2 (.np)) 3 (.i (.ofNat 0))) s
theorem fe193 : rf193 = fastOf kf193 := by kernel_rfl
def rf194 : RFun := .mk 1 [.t 2] λ cl env s=>nx (λ e1 s2=>ko e1 0 λ v3=>onp v3 λ b4 o5=>ldK b4 (Nat.add o5 0) s2 λ v6=>bnr (lenV v6 s2) λ v7 s8=>nx (λ e9 s10=>.ok .r e9 s10) (kst
  e1 2 v7) s8) (kst env 2 (.i (.ofNat 0))) s
theorem fe194 : rf194 = fastOf kf194 := by kernel_rfl
def rf195 : RFun := .mk 1 [.t 2,.t 3] λ cl env s=>nx (λ e1 s2=>ko e1 0 λ v3=>oni v3 λ n4=>gdK (.b (cmI .lt n4 (.ofNat 0))) false (λ k5=>ko e1 0 λ v8=>k5 v8 s2) s2 λ v6 s7=>gdK (.b (cmI
  .lt n4 (.ofNat 0))) false (λ k9=>oni v6 λ n12=>k9 (.b (cmI .gt n12 (.ofNat 1024))) s7) s7 λ v10 s11=>pkK (.b (cmI .lt n4 (.ofNat 0))) (.ok (.b
  true)) (.ok v10) λ v13=>nx (λ e14 s15=>jn (λ e20 s21=>ko e20 0 λ v22=>bnr (eKp (.q (.mks [.b false] 1 (.c v22) (.c v22))) .nil s21 cl) λ
  v23 s24=>ko e20 0 λ v25=>bnr (oL (fill (.cons 0 1 (.c v23) (.cons 1 1 (.c v25) .nil)) [.ns,.i (.ofNat 0)] .nil) okA s24) λ v26 s27=>bnr (boxV
  v26 s27) λ v28 s29=>nx (λ e30 s31=>ko e30 4 λ v32=>onp v32 λ b33 o34=>ldK b33 (Nat.add o34 0) s31 λ v35=>bnr (lenV v35 s31) λ v36 s37
 =>nx (λ e38 s39=>bkK (bindX (lpR (λ cl e40 s41=>ko e40 22 λ v42=>ko e40 21 λ v43=>oni v42 λ n44=>oni v43 λ n45=>nx (λ e46 s47=>
  jn (λ e50 s51=>bkK (ko e50 22 λ v52=>nx (λ e53 s54=>ko e53 4 λ v55=>onp v55 λ b56 o57=>ldK b56 (Nat.add o57 0) s54 λ v58=>ko e53 5 λ
  v59=>onSlx v58 λ b60 o61 q62=>oni v59 λ n64=>onON (nat n64) λ i63=>ifX (Nat.blt i63 q62) (bnr (stV b60 (Nat.add o61 (Nat.mul i63 1)) (.b true)
  s54) λ v65 s66=>nx (idk) e53 s66)) (kst e50 5 v52) s51) 1 (λ e67 s68=>ko e67 22 λ v69=>oni v69 λ n70=>frcI (wrapI (arI .add n70 (.ofNat 1)))
  λ n71=>nx (idk) (kst e67 22 (.i n71)) s68)) λ k48=>ko e46 23 λ v49=>cdK v49 (k48 e46 s47) (.ok (.x 0) e46 s47)) (kst e40 23 (.b (cmI .lt n44
  n45))) s41) lpFuel cl e38 s39) (idk)) 0 (λ e72 s73=>ko e72 4 λ v74=>nx (λ e75 s76=>.ok .r e75 s76) (kst (kst e72 2 v74) 3 (.i (.ofNat 0))) s73))
  (kst (kst e30 21 v36) 22 (.i (.ofNat 0))) s37) (kst e20 4 v28) s29) λ k16=>ko e14 11 λ v17=>cdK v17 (nx (λ e18 s19=>.ok .r e18 s19) (kst (kst
  e14 2 (.np)) 3 (.i (.ofNat 1))) s15) (k16 e14 s15)) (kst e1 11 v13) s11) (kst (kst env 2 (.np)) 3 (.i (.ofNat 0))) s
theorem fe195 : rf195 = fastOf kf195 := by kernel_rfl
def rf196 : RFun := .mk 1 [.t 2,.t 3] λ cl env s=>nx (λ e1 s2=>ko e1 0 λ v3=>oni v3 λ n4=>gdK (.b (cmI .lt n4 (.ofNat 0))) false (λ k5=>ko e1 0 λ v8=>k5 v8 s2) s2 λ v6 s7=>gdK (.b (cmI
  .lt n4 (.ofNat 0))) false (λ k9=>oni v6 λ n12=>k9 (.b (cmI .gt n12 (.ofNat 2048))) s7) s7 λ v10 s11=>pkK (.b (cmI .lt n4 (.ofNat 0))) (.ok (.b
  true)) (.ok v10) λ v13=>nx (λ e14 s15=>jn (λ e20 s21=>ko e20 0 λ v22=>bnr (oL (fill (.cons 0 1 (.c v22) .nil) [.i (.ofNat 0),.i (.ofNat 0),
  .i (.ofNat 0),.i (.ofNat 0),.i (.ofNat 0)] .nil) okA s21) λ v23 s24=>bnr (boxV v23 s24) λ v25 s26=>nx (λ e27 s28=>.ok .r e27 s28) (kst (kst
  e20 2 v25) 3 (.i (.ofNat 0))) s26) λ k16=>ko e14 9 λ v17=>cdK v17 (nx (λ e18 s19=>.ok .r e18 s19) (kst (kst e14 2 (.np)) 3 (.i (.ofNat 1))) s15)
  (k16 e14 s15)) (kst e1 9 v13) s11) (kst (kst env 2 (.np)) 3 (.i (.ofNat 0))) s
theorem fe196 : rf196 = fastOf kf196 := by kernel_rfl
def rf197 : RFun := .mk 0 [.t 0] λ cl env s=>nx (λ e1 s2=>bnr (oL (fill .nil [.ns] .nil) okA s2) λ v3 s4=>bnr (boxV v3 s4) λ v5 s6=>nx (λ e7 s8=>.ok .r e7 s8) (kst e1 0 v5) s6) (kst
  env 0 (.np)) s
theorem fe197 : rf197 = fastOf kf197 := by kernel_rfl
def rf198 : RFun := .mk 1 [.t 2,.t 3] λ cl env s=>nx (λ e1 s2=>ko e1 0 λ v3=>oni v3 λ n4=>gdK (.b (cmI .lt n4 (.ofNat 0))) false (λ k5=>ko e1 0 λ v8=>k5 v8 s2) s2 λ v6 s7=>gdK (.b (cmI
  .lt n4 (.ofNat 0))) false (λ k9=>oni v6 λ n12=>k9 (.b (cmI .gt n12 (.ofNat 8))) s7) s7 λ v10 s11=>pkK (.b (cmI .lt n4 (.ofNat 0))) (.ok (.b true))
  (.ok v10) λ v13=>nx (λ e14 s15=>jn (λ e20 s21=>ko e20 0 λ v22=>bnr (oL (fill (.cons 1 1 (.c v22) .nil) [.ns,.i (.ofNat 0)] .nil) okA s21)
  λ v23 s24=>bnr (boxV v23 s24) λ v25 s26=>nx (λ e27 s28=>.ok .r e27 s28) (kst (kst e20 2 v25) 3 (.i (.ofNat 0))) s26) λ k16=>ko e14 9 λ
  v17=>cdK v17 (nx (λ e18 s19=>.ok .r e18 s19) (kst (kst e14 2 (.np)) 3 (.i (.ofNat 1))) s15) (k16 e14 s15)) (kst e1 9 v13) s11) (kst (kst env 2
  (.np)) 3 (.i (.ofNat 0))) s
theorem fe198 : rf198 = fastOf kf198 := by kernel_rfl
def rf199 : RFun := .mk 3 [.t 6,.t 7] λ cl env s=>ko env 0 λ v1=>bnr (boxV v1 s) λ v2 s3=>nx (λ e4 s5=>ko e4 3 λ v6=>onp v6 λ b7 o8=>bnr (ldnP 9 b7 o8 s5) λ v9 s10=>bnr (cl 191
  [v9] s10) λ v11 s12=>bnr (eNew [.i (.ofNat 0),.i (.ofNat 0),.i (.ofNat 0),.i (.ofNat 0)] .nil s12 cl) λ v13 s14=>onp v13 λ b15 o16=>onAx v11
  λ l17=>bnr (stnA 4 b15 o16 l17 s14) λ v18 s19=>nx (λ e20 s21=>ko e20 2 λ v22=>oni v22 λ n23=>gdK (.b (cmI .lt n23 (.ofNat 0))) false
  (λ k24=>ko e20 2 λ v27=>k24 v27 s21) s21 λ v25 s26=>gdK (.b (cmI .lt n23 (.ofNat 0))) false (λ k28=>ko e20 1 λ v31=>k28 v31 s26) s26 λ
  v29 s30=>gdK (.b (cmI .lt n23 (.ofNat 0))) false (λ k32=>oni v29 λ n35=>frcI (wrapI (arI .sub n35 (.ofNat 1))) λ n36=>k32 (.i n36) s30) s30 λ
  v33 s34=>gdK (.b (cmI .lt n23 (.ofNat 0))) false (λ k37=>ko e20 8 λ v40=>bnr (eKp (.q (.iar (.c v40) (.c v33) 1 4)) .nil s34 cl) λ v41 s42=>k37
  v41 s42) s34 λ v38 s39=>gdK (.b (cmI .lt n23 (.ofNat 0))) false (λ k43=>onp v38 λ b46 o47=>ldK b46 o47 s39 λ v48=>k43 v48 s39) s39 λ v44 s45
 =>gdK (.b (cmI .lt n23 (.ofNat 0))) false (λ k49=>oni v25 λ n52=>oni v44 λ n53=>k49 (.b (cmI .ge n52 n53)) s45) s45 λ v50 s51=>pkK (.b (cmI
  .lt n23 (.ofNat 0))) (.ok (.b true)) (.ok v50) λ v54=>nx (λ e55 s56=>jn (λ e61 s62=>ko e61 1 λ v63=>oni v63 λ n64=>frcI (wrapI (arI .sub
  n64 (.ofNat 1))) λ n65=>ko e61 8 λ v66=>bnr (eKp (.q (.sla (.c v66) 1 4 .no (.ok (.c (.i n65))))) .nil s62 cl) λ v67 s68=>bnr (lenV v67 s68)
  λ v69 s70=>nx (λ e71 s72=>bkK (bindX (lpR (λ cl e73 s74=>ko e73 27 λ v75=>ko e73 26 λ v76=>oni v75 λ n77=>oni v76 λ n78=>nx (λ
  e79 s80=>jn (λ e83 s84=>bkK (ko e83 25 λ v85=>ko e83 27 λ v86=>onSlx v85 λ b87 o88 q89=>oni v86 λ n91=>onON (nat n91) λ i90=>ifX
  (Nat.blt i90 q89) (ldK b87 (Nat.add o88 (Nat.mul i90 1)) s84 λ v92=>nx (λ e93 s94=>ko e93 2 λ v95=>ko e93 10 λ v96=>oni v95 λ n97=>oni
  v96 λ n98=>frcI (wrapI (arI .add n97 n98)) λ n99=>nx (idk) (kst e93 2 (.i n99)) s94) (kst e83 10 v92) s84)) 1 (λ e100 s101=>ko e100 27 λ v102
 =>oni v102 λ n103=>frcI (wrapI (arI .add n103 (.ofNat 1))) λ n104=>nx (idk) (kst e100 27 (.i n104)) s101)) λ k81=>ko e79 28 λ v82=>cdK v82
  (k81 e79 s80) (.ok (.x 0) e79 s80)) (kst e73 28 (.b (cmI .lt n77 n78))) s74) lpFuel cl e71 s72) (idk)) 0 (λ e105 s106=>ko e105 2 λ v107=>nx (λ e108
  s109=>.ok .r e108 s109) (kst (kst e105 6 v107) 7 (.i (.ofNat 0))) s106)) (kst (kst (kst e61 25 v67) 26 v69) 27 (.i (.ofNat 0))) s70) λ k57=>ko e55
  22 λ v58=>cdK v58 (nx (λ e59 s60=>.ok .r e59 s60) (kst (kst e55 6 (.i (.ofNat 0))) 7 (.i (.ofNat 1))) s56) (k57 e55 s56)) (kst e20 22 v54) s51)
  (kst e4 8 v13) s19) (kst (kst (kst env 3 v2) 6 (.i (.ofNat 0))) 7 (.i (.ofNat 0))) s3
theorem fe199 : rf199 = fastOf kf199 := by kernel_rfl
def rf200 : RFun := .mk 2 [.t 4] λ cl env s=>nx (λ e1 s2=>ko e1 1 λ v3=>oni v3 λ n4=>gdK (.b (cmI .ge n4 (.ofNat 0))) true (λ k5=>ko e1 1 λ v8=>k5 v8 s2) s2 λ v6 s7=>gdK (.b (cmI
  .ge n4 (.ofNat 0))) true (λ k9=>ko e1 0 λ v12=>k9 v12 s7) s7 λ v10 s11=>gdK (.b (cmI .ge n4 (.ofNat 0))) true (λ k13=>onp v10 λ b16 o17=>
  k13 (.p b16 o17) s11) s11 λ v14 s15=>gdK (.b (cmI .ge n4 (.ofNat 0))) true (λ k18=>onp v14 λ b21 o22=>k18 (.p b21 (Nat.add o22 0)) s15) s15 λ
  v19 s20=>gdK (.b (cmI .ge n4 (.ofNat 0))) true (λ k23=>onp v19 λ b26 o27=>ldK b26 o27 s20 λ v28=>k23 v28 s20) s20 λ v24 s25=>gdK (.b (cmI
  .ge n4 (.ofNat 0))) true (λ k29=>bnr (lenV v24 s25) λ v32 s33=>k29 v32 s33) s25 λ v30 s31=>gdK (.b (cmI .ge n4 (.ofNat 0))) true (λ k34=>oni
  v6 λ n37=>oni v30 λ n38=>k34 (.b (cmI .lt n37 n38)) s31) s31 λ v35 s36=>pkK (.b (cmI .ge n4 (.ofNat 0))) (.ok v35) (.ok (.b false)) λ v39=>nx
  (λ e40 s41=>.ok .r e40 s41) (kst e1 4 v39) s36) (kst env 4 (.b false)) s
theorem fe200 : rf200 = fastOf kf200 := by kernel_rfl
def rf201 : RFun := .mk 1 [.cn 2 2] λ cl env s=>ko env 0 λ v1=>bnr (boxV v1 s) λ v2 s3=>bnr (eNew [.b false,.ns] .nil s3 cl) λ v4 s5=>nx (λ e6 s7=>ko e6 1 λ v8=>onp v8 λ b9 o10=>
  ldK b9 (Nat.add o10 0) s7 λ v11=>ko e6 1 λ v12=>onp v12 λ b13 o14=>ldK b13 (Nat.add o14 1) s7 λ v15=>bnr (cl 288 [v15] s7) λ v16 s17=>ko
  e6 1 λ v18=>onp v18 λ b19 o20=>ifX (eqV (.p b9 (Nat.add o10 0)) (.p b19 (Nat.add o20 0))) (ldK b19 (Nat.add o20 0) s17 λ v21=>ifX (eqV v11 v21)
  (bnr (oL (fill (.cons 0 1 (.c v21) (.cons 1 1 (.c v16) .nil)) [.b false,.ns] .nil) okA s17) λ v22 s23=>ko e6 2 λ v24=>onp v24 λ b25 o26=>onAx
  v22 λ l27=>bnr (stnA 2 b25 o26 l27 s17) λ v28 s29=>nx (λ e30 s31=>.ok .r e30 s31) e6 s29))) (kst (kst env 1 v2) 2 v4) s5
theorem fe201 : rf201 = fastOf kf201 := by kernel_rfl
def rf202 : RFun := .mk 3 [.t 6] λ cl env s=>nx (λ e1 s2=>ko e1 0 λ v3=>onp v3 λ b4 o5=>ldK b4 (Nat.add o5 3) s2 λ v6=>oni v6 λ n7=>frcI (wrapI (arI .add n7 (.ofNat 1))) λ n8=>onp
  v3 λ b9 o10=>bnr (stV b9 (Nat.add o10 3) (.i n8) s2) λ v11 s12=>nx (λ e13 s14=>ko e13 0 λ v15=>ko e13 1 λ v16=>bnr (cl 22 [v15,v16]
  s14) λ v17 s18=>oni v17 λ n19=>gdK (.b (cmI .eq n19 (.negSucc 0))) false (λ k20=>ko e13 2 λ v23=>k20 v23 s18) s18 λ v21 s22=>gdK (.b (cmI
  .eq n19 (.negSucc 0))) false (λ k24=>bnr (cl 77 [v21] s22) λ v27 s28=>k24 v27 s28) s22 λ v25 s26=>gdK (.b (cmI .eq n19 (.negSucc 0))) false (λ
  k29=>onBx v25 λ c32=>k29 (.b (neg c32)) s26) s26 λ v30 s31=>pkK (.b (cmI .eq n19 (.negSucc 0))) (.ok (.b true)) (.ok v30) λ v33=>nx (λ e34 s35
 =>jn (λ e40 s41=>ko e40 0 λ v42=>onp v42 λ b43 o44=>ldK b43 (Nat.add o44 2) s41 λ v45=>ko e40 1 λ v46=>ko e40 2 λ v47=>onSlx v45 λ
  b48 o49 q50=>oni v46 λ n52=>onON (nat n52) λ i51=>ifX (Nat.blt i51 q50) (bnr (stV b48 (Nat.add o49 (Nat.mul i51 1)) v47 s41) λ v53 s54=>nx
  (λ e55 s56=>nx (λ e57 s58=>.ok .r e57 s58) (kst e55 6 (.b true)) s56) e40 s54)) λ k36=>ko e34 22 λ v37=>cdK v37 (nx (λ e38 s39=>.ok .r e38
  s39) (kst e34 6 (.b false)) s35) (k36 e34 s35)) (kst e13 22 v33) s31) e1 s12) (kst env 6 (.b false)) s
theorem fe202 : rf202 = fastOf kf202 := by kernel_rfl
def rf203 : RFun := .mk 2 [.t 4] λ cl env s=>nx (λ e1 s2=>ko e1 1 λ v3=>oni v3 λ n4=>gdK (.b (cmI .lt n4 (.ofNat 0))) false (λ k5=>ko e1 1 λ v8=>k5 v8 s2) s2 λ v6 s7=>gdK (.b (cmI
  .lt n4 (.ofNat 0))) false (λ k9=>ko e1 0 λ v12=>k9 v12 s7) s7 λ v10 s11=>gdK (.b (cmI .lt n4 (.ofNat 0))) false (λ k13=>onp v10 λ b16 o17=>
  k13 (.p b16 o17) s11) s11 λ v14 s15=>gdK (.b (cmI .lt n4 (.ofNat 0))) false (λ k18=>onp v14 λ b21 o22=>k18 (.p b21 (Nat.add o22 1)) s15) s15 λ
  v19 s20=>gdK (.b (cmI .lt n4 (.ofNat 0))) false (λ k23=>onp v19 λ b26 o27=>ldK b26 o27 s20 λ v28=>k23 v28 s20) s20 λ v24 s25=>gdK (.b (cmI
  .lt n4 (.ofNat 0))) false (λ k29=>bnr (lenV v24 s25) λ v32 s33=>k29 v32 s33) s25 λ v30 s31=>gdK (.b (cmI .lt n4 (.ofNat 0))) false (λ k34=>
  oni v6 λ n37=>oni v30 λ n38=>k34 (.b (cmI .ge n37 n38)) s31) s31 λ v35 s36=>pkK (.b (cmI .lt n4 (.ofNat 0))) (.ok (.b true)) (.ok v35) λ v39=>
  nx (λ e40 s41=>jn (λ e46 s47=>ko e46 0 λ v48=>onp v48 λ b49 o50=>ldK b49 (Nat.add o50 1) s47 λ v51=>ko e46 1 λ v52=>onSlx v51 λ b53
  o54 q55=>oni v52 λ n57=>onON (nat n57) λ i56=>ifX (Nat.blt i56 q55) (ldK b53 (Nat.add o54 (Nat.mul i56 1)) s47 λ v58=>nx (λ e59 s60=>.ok .r
  e59 s60) (kst e46 4 v58) s47)) λ k42=>ko e40 15 λ v43=>cdK v43 (nx (λ e44 s45=>.ok .r e44 s45) (kst e40 4 (.np)) s41) (k42 e40 s41)) (kst e1 15
  v39) s36) (kst env 4 (.np)) s
theorem fe203 : rf203 = fastOf kf203 := by kernel_rfl
def rf205 : RFun := .mk 2 [] λ cl env s=>ko env 0 λ v1=>onp v1 λ b2 o3=>ldK b2 (Nat.add o3 0) s λ v4=>ko env 1 λ v5=>bnr (cl 289 [v4,v5,(.i (.ofNat 0)),(.b false),(.b false)] s)
  λ v6 s7=>nx (λ e8 s9=>ko e8 0 λ v10=>onp v10 λ b11 o12=>ldK b11 (Nat.add (Nat.add o12 4) 9) s9 λ v13=>ko e8 1 λ v14=>bnr (cl 290
  [v13,v14] s9) λ v15 s16=>nx (idk) e8 s16) env s7
theorem fe205 : rf205 = fastOf kf205 := by kernel_rfl
def rf207 : RFun := .mk 2 [.t 4] λ cl env s=>ko env 0 λ v1=>bnr (boxV v1 s) λ v2 s3=>ko env 1 λ v4=>bnr (boxV v4 s3) λ v5 s6=>nx (λ e7 s8=>ko e7 3 λ v9=>onp v9 λ b10 o11=>
  ldK b10 (Nat.add o11 0) s8 λ v12=>bnr (cl 291 [v12] s8) λ v13 s14=>extK v13 0 λ v15=>extK v13 1 λ v16=>nx (λ e17 s18=>ko e17 2 λ v19=>
  onp v19 λ b20 o21=>bnr (ldnP 9 b20 o21 s18) λ v22 s23=>bnr (cl 115 [v22] s23) λ v24 s25=>oni v24 λ n26=>gdK (.b (cmI .ne n26 (.ofNat 0)))
  false (λ k27=>ko e17 5 λ v30=>k27 v30 s25) s25 λ v28 s29=>gdK (.b (cmI .ne n26 (.ofNat 0))) false (λ k31=>bnr (eKp (.q (.seq (.c v28) (.c (.s
  [])))) .nil s29 cl) λ v34 s35=>k31 v34 s35) s29 λ v32 s33=>pkK (.b (cmI .ne n26 (.ofNat 0))) (.ok (.b true)) (.ok v32) λ v36=>nx (λ e37 s38=>jn
  (λ e43 s44=>ko e43 6 λ v45=>bnr (eKp (.q (.rng (.c v45))) .nil s44 cl) λ v46 s47=>nx (λ e48 s49=>bkK (bindX (lpR (λ cl e50 s51=>ko e50 27
  λ v52=>bnr (eKp (.q (.nxt (.c v52))) .nil s51 cl) λ v53 s54=>extK v53 0 λ v55=>nx (λ e56 s57=>jn (λ e60 s61=>bkK (ko e60 28 λ v62=>
  extK v62 2 λ v63=>nx (λ e64 s65=>nx (λ e66 s67=>ko e66 8 λ v68=>nx (λ e69 s70=>bkK (ko e69 31 λ v71=>bnr (onK (cmk1 .eq (.ok (.k .i32
  (.ofNat 97)))) v71 s70) λ v72 s73=>nx (λ e74 s75=>jn (λ e88 s89=>jn (idk) λ k90=>ko e88 32 λ v91=>cdK v91 (ko e88 2 λ v92=>onp v92 λ
  b93 o94=>ldK b93 (Nat.add o94 4) s89 λ v95=>nx (k90) (kst e88 9 v95) s89) (ko e88 31 λ v96=>bnr (onK (cmk1 .eq (.ok (.k .i32 (.ofNat 103)))) v96
  s89) λ v97 s98=>nx (λ e99 s100=>jn (k90) λ k101=>ko e99 38 λ v102=>cdK v102 (ko e99 2 λ v103=>onp v103 λ b104 o105=>ldK b104 (Nat.add
  o105 2) s100 λ v106=>nx (k101) (kst e99 9 v106) s100) (.ok (.x 1) e99 s100)) (kst e88 38 v97) s98)) λ k76=>ko e74 32 λ v77=>cdK v77 (k76 e74 s75)
  (ko e74 31 λ v78=>bnr (onK (cmk1 .eq (.ok (.k .i32 (.ofNat 98)))) v78 s75) λ v79 s80=>nx (λ e81 s82=>jn (k76) λ k83=>ko e81 32 λ v84=>cdK
  v84 (k83 e81 s82) (ko e81 31 λ v85=>bnr (onK (cmk1 .eq (.ok (.k .i32 (.ofNat 99)))) v85 s82) λ v86 s87=>nx (k83) (kst e81 32 v86) s87)) (kst e74 32
  v79) s80)) (kst e69 32 v72) s73) 2 (λ e107 s108=>ko e107 8 λ v109=>ko e107 3 λ v110=>bnr (cl 292 [v110,v109] s108) λ v111 s112=>onp v111
  λ b113 o114=>ldK b113 o114 s112 λ v115=>nx (λ e116 s117=>ko e116 10 λ v118=>oni v118 λ n119=>gdK (.b (cmI .lt n119 (.ofNat 0))) false (λ
  k120=>ko e116 10 λ v123=>k120 v123 s117) s117 λ v121 s122=>gdK (.b (cmI .lt n119 (.ofNat 0))) false (λ k124=>ko e116 9 λ v127=>k124 v127
  s122) s122 λ v125 s126=>gdK (.b (cmI .lt n119 (.ofNat 0))) false (λ k128=>oni v121 λ n131=>oni v125 λ n132=>k128 (.b (cmI .ge n131 n132))
  s126) s126 λ v129 s130=>pkK (.b (cmI .lt n119 (.ofNat 0))) (.ok (.b true)) (.ok v129) λ v133=>nx (λ e134 s135=>jn (idk) λ k136=>ko e134 52 λ
  v137=>cdK v137 (nx (λ e138 s139=>.ok .r e138 s139) (kst e134 4 (.i (.ofNat 1))) s135) (k136 e134 s135)) (kst e116 52 v133) s130) (kst e107 10 v115)
  s112)) (kst e66 31 v68) s67) (kst e64 9 (.i (.ofNat 9223372036854775807))) s65) (kst e60 8 v63) s61) 1 (idk)) λ k58=>ko e56 29 λ v59=>cdK v59 (k58
  e56 s57) (.ok (.x 0) e56 s57)) (kst (kst e50 28 v53) 29 v55) s54) lpFuel cl e48 s49) (idk)) 0 (λ e140 s141=>ko e140 3 λ v142=>onp v142 λ b143 o144
 =>ldK b143 (Nat.add o144 0) s141 λ v145=>oni v145 λ n146=>gdK (.b (cmI .ne n146 (.ofNat 1))) true (λ k147=>ko e140 3 λ v150=>onp v150 λ
  b151 o152=>k147 (.p b151 (Nat.add o152 0)) s141) s141 λ v148 s149=>gdK (.b (cmI .ne n146 (.ofNat 1))) true (λ k153=>onp v148 λ b156 o157=>ldK
  b156 o157 s149 λ v158=>k153 v158 s149) s149 λ v154 s155=>gdK (.b (cmI .ne n146 (.ofNat 1))) true (λ k159=>oni v154 λ n162=>k159 (.b (cmI .ne
  n162 (.ofNat 2))) s155) s155 λ v160 s161=>pkK (.b (cmI .ne n146 (.ofNat 1))) (.ok v160) (.ok (.b false)) λ v163=>nx (λ e164 s165=>jn (λ e170 s171
 =>ko e170 2 λ v172=>onp v172 λ b173 o174=>bnr (ldnP 9 b173 o174 s171) λ v175 s176=>ko e170 3 λ v177=>onp v177 λ b178 o179=>ldK b178
  (Nat.add o179 2) s176 λ v180=>bnr (cl 173 [v175,v180] s176) λ v181 s182=>extK v181 0 λ v183=>extK v181 1 λ v184=>bnr (eNew [.b false,.ns]
  .nil s182 cl) λ v185 s186=>onp v185 λ b187 o188=>onAx v183 λ l189=>bnr (stnA 2 b187 o188 l189 s186) λ v190 s191=>nx (λ e192 s193=>bkK
  (ko e192 12 λ v194=>onBx v194 λ c195=>gdK (.b (neg c195)) false (λ k196=>ko e192 11 λ v199=>onp v199 λ b200 o201=>k196 (.p b200 (Nat.add
  o201 0)) s193) s193 λ v197 s198=>gdK (.b (neg c195)) false (λ k202=>onp v197 λ b205 o206=>ldK b205 o206 s198 λ v207=>k202 v207 s198) s198 λ
  v203 s204=>gdK (.b (neg c195)) false (λ k208=>ko e192 3 λ v211=>onp v211 λ b212 o213=>k208 (.p b212 (Nat.add o213 0)) s204) s204 λ v209 s210
 =>gdK (.b (neg c195)) false (λ k214=>onp v209 λ b217 o218=>ldK b217 o218 s210 λ v219=>k214 v219 s210) s210 λ v215 s216=>gdK (.b (neg c195))
  false (λ k220=>oni v215 λ n223=>k220 (.b (cmI .eq n223 (.ofNat 2))) s216) s216 λ v221 s222=>gdK (.b (neg c195)) false (λ k224=>onBx v203 λ
  c227=>onBx v221 λ c228=>k224 (.b (neg (eqB c227 c228))) s222) s222 λ v225 s226=>pkK (.b (neg c195)) (.ok (.b true)) (.ok v225) λ v229=>nx (λ
  e230 s231=>jn (idk) λ k232=>ko e230 68 λ v233=>cdK v233 (nx (λ e234 s235=>.ok .r e234 s235) (kst e230 4 (.i (.ofNat 4))) s231) (ko e230 11 λ
  v236=>onp v236 λ b237 o238=>bnr (ldnP 2 b237 o238 s231) λ v239 s240=>ko e230 3 λ v241=>onp v241 λ b242 o243=>bnr (ldnP 6 b242 o243
  s240) λ v244 s245=>bnr (cl 293 [v239,v244] s245) λ v246 s247=>oni v246 λ n248=>nx (λ e249 s250=>jn (k232) λ k251=>ko e249 79 λ v252
 =>cdK v252 (nx (λ e253 s254=>.ok .r e253 s254) (kst e249 4 (.i (.ofNat 5))) s250) (ko e249 11 λ v255=>onp v255 λ b256 o257=>bnr (ldnP 2 b256
  o257 s250) λ v258 s259=>ko e249 3 λ v260=>onp v260 λ b261 o262=>bnr (ldnP 6 b261 o262 s250) λ v263 s264=>ko e249 2 λ v265=>onp v265 λ
  b266 o267=>ldK b266 (Nat.add o267 0) s250 λ v268=>bnr (cl 293 [v258,v263] s250) λ v269 s270=>ko e249 2 λ v271=>onp v271 λ b272 o273=>ifX
  (eqV (.p b266 (Nat.add o267 0)) (.p b272 (Nat.add o273 0))) (ldK b272 (Nat.add o273 0) s270 λ v274=>ifX (eqV v268 v274) (oni v269 λ n275=>oni v274
  λ n276=>gdK (.b (cmI .gt n275 n276)) false (λ k277=>ko e249 11 λ v280=>onp v280 λ b281 o282=>bnr (ldnP 2 b281 o282 s270) λ v283 s284=>
  k277 v283 s284) s270 λ v278 s279=>gdK (.b (cmI .gt n275 n276)) false (λ k285=>ko e249 3 λ v288=>onp v288 λ b289 o290=>k285 (.p b289 (Nat.add
  o290 4)) s270) s270 λ v286 s287=>gdK (.b (cmI .gt n275 n276)) false (λ k291=>onp v286 λ b294 o295=>ldK b294 o295 s270 λ v296=>k291 v296 s270)
  s270 λ v292 s293=>gdK (.b (cmI .gt n275 n276)) false (λ k297=>ko e249 2 λ v300=>onp v300 λ b301 o302=>k297 (.p b301 (Nat.add o302 1)) s270)
  s270 λ v298 s299=>gdK (.b (cmI .gt n275 n276)) false (λ k303=>onp v298 λ b306 o307=>ldK b306 o307 s270 λ v308=>k303 v308 s270) s270 λ v304
  s305=>gdX (.b (cmI .gt n275 n276)) false (bnr (cl 294 [v278,v292] s270) λ v309 s310=>gdK (.b (cmI .gt n275 n276)) false (λ k311=>ko e249 2 λ
  v314=>onp v314 λ b315 o316=>k311 (.p b315 (Nat.add o316 1)) s310) s310 λ v312 s313=>ifX (eqV v298 v312) (gdK (.b (cmI .gt n275 n276)) false (λ
  k317=>onp v312 λ b320 o321=>ldK b320 o321 s310 λ v322=>k317 v322 s310) s310 λ v318 s319=>ifX (eqV v304 v318) (gdK (.b (cmI .gt n275 n276)) false
  (λ k323=>oni v309 λ n326=>oni v318 λ n327=>k323 (.b (cmI .gt n326 n327)) s310) s310 λ v324 s325=>pkK (.b (cmI .gt n275 n276)) (.ok (.b true))
  (.ok v324) λ v328=>nx (λ e329 s330=>jn (k251) λ k331=>ko e329 84 λ v332=>cdK v332 (nx (λ e333 s334=>.ok .r e333 s334) (kst e329 4 (.i
  (.ofNat 7))) s330) (k331 e329 s330)) (kst e249 84 v328) s310))) (ko e249 2 λ v335=>onp v335 λ b336 o337=>ifX (eqV (.p b266 (Nat.add o267 0)) (.p b336
  (Nat.add o337 0))) (ldK b336 (Nat.add o337 0) s270 λ v338=>ifX (eqV v268 v338) (oni v269 λ n339=>oni v338 λ n340=>gdK (.b (cmI .gt n339 n340))
  false (λ k341=>ko e249 11 λ v344=>onp v344 λ b345 o346=>bnr (ldnP 2 b345 o346 s270) λ v347 s348=>k341 v347 s348) s270 λ v342 s343=>gdK
  (.b (cmI .gt n339 n340)) false (λ k349=>ko e249 3 λ v352=>onp v352 λ b353 o354=>k349 (.p b353 (Nat.add o354 4)) s270) s270 λ v350 s351=>gdK
  (.b (cmI .gt n339 n340)) false (λ k355=>onp v350 λ b358 o359=>ldK b358 o359 s270 λ v360=>k355 v360 s270) s270 λ v356 s357=>gdK (.b (cmI .gt
  n339 n340)) false (λ k361=>.no) s270 λ v362 s363=>gdK (.b (cmI .gt n339 n340)) false (λ k366=>ko e249 2 λ v369=>onp v369 λ b370 o371=>k366
  (.p b370 (Nat.add o371 1)) s270) s270 λ v367 s368=>gdK (.b (cmI .gt n339 n340)) false (λ k372=>onp v367 λ b375 o376=>ldK b375 o376 s270 λ v377
 =>k372 v377 s270) s270 λ v373 s374=>gdK (.b (cmI .gt n339 n340)) false (λ k378=>oni v362 λ n381=>oni v373 λ n382=>k378 (.b (cmI .gt n381
  n382)) s270) s270 λ v379 s380=>pkK (.b (cmI .gt n339 n340)) (.ok (.b true)) (.ok v379) λ v383=>nx (λ e384 s385=>jn (k251) λ k386=>ko e384 84
  λ v387=>cdK v387 (nx (λ e388 s389=>.ok .r e388 s389) (kst e384 4 (.i (.ofNat 7))) s385) (k386 e384 s385)) (kst e249 84 v383) s270))))))) (kst e230
  79 (.b (cmI .lt n248 (.ofNat 0)))) s247)) (kst e192 68 v229) s226) 3 (λ e390 s391=>nx (λ e392 s393=>.ok .r e392 s393) (kst e390 4 (.i (.ofNat 0)))
  s391)) (kst (kst e170 11 v185) 12 v184) s191) λ k166=>ko e164 60 λ v167=>cdK v167 (nx (λ e168 s169=>.ok .r e168 s169) (kst e164 4 (.i (.ofNat
  0))) s165) (k166 e164 s165)) (kst e140 60 v163) s161)) (kst e43 27 v46) s47) λ k39=>ko e37 25 λ v40=>cdK v40 (nx (λ e41 s42=>.ok .r e41 s42)
  (kst e37 4 (.i (.ofNat 1))) s38) (k39 e37 s38)) (kst e17 25 v36) s33) (kst (kst e7 5 v15) 6 v16) s14) (kst (kst (kst env 2 v2) 3 v5) 4 (.i (.ofNat 0)))
  s6
theorem fe207 : rf207 = fastOf kf207 := by kernel_rfl
def rf208 : RFun := .mk 2 [.t 4] λ cl env s=>ko env 1 λ v1=>bnr (boxV v1 s) λ v2 s3=>nx (λ e4 s5=>ko e4 0 λ v6=>onp v6 λ b7 o8=>ldK b7 (Nat.add o8 2) s5 λ v9=>nx (λ e10 s11=>
  nx (λ e12 s13=>bnr (eNew [.b false] .nil s13 cl) λ v14 s15=>onp v14 λ b16 o17=>bnr (stV b16 o17 (.b true) s15) λ v18 s19=>nx (λ e20 s21
 =>ko e20 3 λ v22=>onp v22 λ b23 o24=>ldK b23 (Nat.add o24 0) s21 λ v25=>nx (λ e26 s27=>bkK (ko e26 14 λ v28=>oni v28 λ n29=>nx (λ
  e30 s31=>jn (idk) λ k32=>ko e30 15 λ v33=>cdK v33 (ko e30 5 λ v34=>ko e30 3 λ v35=>onp v35 λ b36 o37=>ldK b36 (Nat.add o37 2) s31 λ
  v38=>onSlx v34 λ b39 o40 q41=>oni v38 λ n43=>onON (nat n43) λ i42=>ifX (Nat.blt i42 q41) (bnr (ldnP 2 b39 (Nat.add o40 (Nat.mul i42 2)) s31)
  λ v44 s45=>ko e30 5 λ v46=>ko e30 3 λ v47=>onp v47 λ b48 o49=>ldK b48 (Nat.add o49 3) s31 λ v50=>onSlx v46 λ b51 o52 q53=>oni v50 λ
  n55=>onON (nat n55) λ i54=>ifX (Nat.blt i54 q53) (bnr (ldnP 2 b51 (Nat.add o52 (Nat.mul i54 2)) s31) λ v56 s57=>bnr (oL (fill (.cons 0 2 (.c v44)
  (.cons 2 2 (.c v56) .nil)) (repL [.b false,.z 0 0] 2) .nil) (bsl1 2 (lenL [.b false,.z 0 0])) s31) λ v58 s59=>nx (k32) (kst (kst e30 6 v58) 8 (.b
  false)) s59))) (ko e30 14 λ v60=>oni v60 λ n61=>nx (λ e62 s63=>jn (λ e68 s69=>jn (k32) λ k70=>ko e68 28 λ v71=>cdK v71 (ko e68 5 λ
  v72=>ko e68 3 λ v73=>onp v73 λ b74 o75=>ldK b74 (Nat.add o75 2) s69 λ v76=>onSlx v72 λ b77 o78 q79=>oni v76 λ n81=>onON (nat n81) λ
  i80=>ifX (Nat.blt i80 q79) (bnr (ldnP 2 b77 (Nat.add o78 (Nat.mul i80 2)) s69) λ v82 s83=>ko e68 5 λ v84=>ko e68 3 λ v85=>onp v85 λ b86 o87
 =>ldK b86 (Nat.add o87 3) s69 λ v88=>onSlx v84 λ b89 o90 q91=>oni v88 λ n93=>onON (nat n93) λ i92=>ifX (Nat.blt i92 q91) (bnr (ldnP 2 b89
  (Nat.add o90 (Nat.mul i92 2)) s69) λ v94 s95=>bnr (oL (fill (.cons 0 2 (.c v82) (.cons 2 2 (.c v94) .nil)) (repL [.b false,.z 0 0] 2) .nil) (bsl1 2
  (lenL [.b false,.z 0 0])) s69) λ v96 s97=>ko e68 7 λ v98=>onp v98 λ b99 o100=>bnr (stV b99 o100 (.b false) s97) λ v101 s102=>nx (k70) (kst
  (kst e68 6 v96) 8 (.b false)) s102))) (ko e68 14 λ v103=>oni v103 λ n104=>nx (λ e105 s106=>jn (λ e123 s124=>jn (k70) λ k125=>ko e123 42
  λ v126=>cdK v126 (ko e123 5 λ v127=>ko e123 3 λ v128=>onp v128 λ b129 o130=>ldK b129 (Nat.add o130 2) s124 λ v131=>onSlx v127 λ b132
  o133 q134=>oni v131 λ n136=>onON (nat n136) λ i135=>ifX (Nat.blt i135 q134) (bnr (ldnP 2 b132 (Nat.add o133 (Nat.mul i135 2)) s124) λ v137 s138
 =>bnr (oL (fill (.cons 0 2 (.c v137) .nil) (repL [.b false,.z 0 0] 1) .nil) (bsl1 1 (lenL [.b false,.z 0 0])) s138) λ v139 s140=>nx (k125) (kst e123
  6 v139) s140)) (ko e123 14 λ v141=>oni v141 λ n142=>nx (λ e143 s144=>jn (λ e149 s150=>jn (k125) λ k151=>ko e149 53 λ v152=>cdK v152
  (ko e149 5 λ v153=>ko e149 3 λ v154=>onp v154 λ b155 o156=>ldK b155 (Nat.add o156 1) s150 λ v157=>onSlx v153 λ b158 o159 q160=>oni v157
  λ n162=>onON (nat n162) λ i161=>ifX (Nat.blt i161 q160) (bnr (ldnP 2 b158 (Nat.add o159 (Nat.mul i161 2)) s150) λ v163 s164=>bnr (oL (fill
  (.cons 0 2 (.c v163) .nil) (repL [.b false,.z 0 0] 1) .nil) (bsl1 1 (lenL [.b false,.z 0 0])) s164) λ v165 s166=>nx (k151) (kst e149 6 v165) s166)) (ko
  e149 14 λ v167=>oni v167 λ n168=>nx (λ e169 s170=>jn (k151) λ k171=>ko e169 62 λ v172=>cdK v172 (ko e169 5 λ v173=>ko e169 3 λ v174
 =>onp v174 λ b175 o176=>ldK b175 (Nat.add o176 2) s170 λ v177=>onSlx v173 λ b178 o179 q180=>oni v177 λ n182=>onON (nat n182) λ i181=>ifX
  (Nat.blt i181 q180) (bnr (ldnP 2 b178 (Nat.add o179 (Nat.mul i181 2)) s170) λ v183 s184=>bnr (oL (fill (.cons 0 2 (.c v183) .nil) (repL [.b false,.z 0
  0] 1) .nil) (bsl1 1 (lenL [.b false,.z 0 0])) s184) λ v185 s186=>nx (k171) (kst (kst e169 6 v185) 8 (.b false)) s186)) (k171 e169 s170)) (kst e149 62
  (.b (cmI .eq n168 (.ofNat 8)))) s150)) λ k145=>ko e143 53 λ v146=>cdK v146 (k145 e143 s144) (ko e143 14 λ v147=>oni v147 λ n148=>nx (k145)
  (kst e143 53 (.b (cmI .eq n148 (.ofNat 6)))) s144)) (kst e123 53 (.b (cmI .eq n142 (.ofNat 4)))) s124)) λ k107=>ko e105 42 λ v108=>cdK v108 (k107
  e105 s106) (ko e105 14 λ v109=>oni v109 λ n110=>nx (λ e111 s112=>jn (k107) λ k113=>ko e111 42 λ v114=>cdK v114 (k113 e111 s112) (ko e111
  14 λ v115=>oni v115 λ n116=>nx (λ e117 s118=>jn (k113) λ k119=>ko e117 42 λ v120=>cdK v120 (k119 e117 s118) (ko e117 14 λ v121=>oni
  v121 λ n122=>nx (k119) (kst e117 42 (.b (cmI .eq n122 (.ofNat 11)))) s118)) (kst e111 42 (.b (cmI .eq n116 (.ofNat 10)))) s112)) (kst e105 42 (.b (cmI
  .eq n110 (.ofNat 5)))) s106)) (kst e68 42 (.b (cmI .eq n104 (.ofNat 3)))) s69)) λ k64=>ko e62 28 λ v65=>cdK v65 (k64 e62 s63) (ko e62 14 λ v66=>
  oni v66 λ n67=>nx (k64) (kst e62 28 (.b (cmI .eq n67 (.ofNat 16)))) s63)) (kst e30 28 (.b (cmI .eq n61 (.ofNat 15)))) s31)) (kst e26 15 (.b (cmI .eq
  n29 (.ofNat 9)))) s27) 0 (λ e187 s188=>ko e187 6 λ v189=>ko e187 7 λ v190=>bnr (cl 295 [v189,(.fn 296 [] [v190])] s188) λ v191 s192=>nx (λ
  e193 s194=>jn (λ e199 s200=>ko e199 8 λ v201=>gdK v201 true (λ k202=>ko e199 6 λ v205=>k202 v205 s200) s200 λ v203 s204=>gdK v201 true
  (λ k206=>bnr (cl 295 [v203,(.fn 297 [] [])] s204) λ v209 s210=>k206 v209 s210) s204 λ v207 s208=>pkK v201 (.ok v207) (.ok (.b false)) λ v211
 =>nx (λ e212 s213=>jn (λ e218 s219=>nx (λ e220 s221=>.ok .r e220 s221) (kst e218 4 (.i (.ofNat 0))) s219) λ k214=>ko e212 77 λ v215=>cdK
  v215 (nx (λ e216 s217=>.ok .r e216 s217) (kst e212 4 (.i (.ofNat 3))) s213) (k214 e212 s213)) (kst e199 77 v211) s208) λ k195=>ko e193 72 λ v196=>
  cdK v196 (nx (λ e197 s198=>.ok .r e197 s198) (kst e193 4 (.i (.ofNat 4))) s194) (k195 e193 s194)) (kst e187 72 v191) s192)) (kst e20 14 v25) s21) (kst
  (kst e12 7 v14) 8 (.b true)) s19) (kst e10 6 (.ns)) s11) (kst e4 5 v9) s5) (kst (kst env 3 v2) 4 (.i (.ofNat 0))) s3
theorem fe208 : rf208 = fastOf kf208 := by kernel_rfl
def rf209 : RFun := .mk 2 [.cn 4 2,.t 5] λ cl env s=>ko env 1 λ v1=>bnr (boxV v1 s) λ v2 s3=>bnr (eNew [.b false,.z 0 0] .nil s3 cl) λ v4 s5=>nx (λ e6 s7=>ko e6 0 λ v8=>onp v8 λ b9 o10
 =>ldK b9 (Nat.add o10 2) s7 λ v11=>nx (λ e12 s13=>ko e12 3 λ v14=>onp v14 λ b15 o16=>ldK b15 (Nat.add o16 0) s13 λ v17=>nx (λ e18 s19
 =>bkK (ko e18 12 λ v20=>oni v20 λ n21=>nx (λ e22 s23=>jn (idk) λ k24=>ko e22 13 λ v25=>cdK v25 (ko e22 6 λ v26=>ko e22 3 λ v27=>
  onp v27 λ b28 o29=>ldK b28 (Nat.add o29 2) s23 λ v30=>onSlx v26 λ b31 o32 q33=>oni v30 λ n35=>onON (nat n35) λ i34=>ifX (Nat.blt i34 q33)
  (ldK b31 (Nat.add (Nat.add o32 (Nat.mul i34 2)) 1) s23 λ v36=>ko e22 6 λ v37=>ko e22 3 λ v38=>onp v38 λ b39 o40=>ldK b39 (Nat.add o40 3) s23
  λ v41=>onSlx v37 λ b42 o43 q44=>oni v41 λ n46=>onON (nat n46) λ i45=>ifX (Nat.blt i45 q44) (ldK b42 (Nat.add (Nat.add o43 (Nat.mul i45 2)) 1)
  s23 λ v47=>bnr (cl 238 [v36,v47] s23) λ v48 s49=>bnr (cl 298 [v48] s23) λ v50 s51=>ko e22 4 λ v52=>onp v52 λ b53 o54=>onAx v50 λ
  l55=>bnr (stnA 2 b53 o54 l55 s51) λ v56 s57=>nx (λ e58 s59=>.ok .r e58 s59) (kst e22 5 (.b true)) s57))) (ko e22 12 λ v60=>oni v60 λ n61=>
  nx (λ e62 s63=>jn (k24) λ k64=>ko e62 29 λ v65=>cdK v65 (ko e62 3 λ v66=>onp v66 λ b67 o68=>ldK b67 (Nat.add o68 5) s63 λ v69=>bnr
  (oL (fill (.cons 1 1 (.c v69) .nil) [.b false,.z 0 0] .nil) okA s63) λ v70 s71=>ko e62 4 λ v72=>onp v72 λ b73 o74=>onAx v70 λ l75=>bnr
  (stnA 2 b73 o74 l75 s71) λ v76 s77=>nx (λ e78 s79=>.ok .r e78 s79) (kst e62 5 (.b true)) s77) (ko e62 12 λ v80=>oni v80 λ n81=>nx (λ e82
  s83=>jn (k64) λ k84=>ko e82 34 λ v85=>cdK v85 (bnr (cl 123 [] s83) λ v86 s87=>bnr (oL (fill (.cons 0 1 (.c (.b true)) (.cons 1 1 (.c v86)
  .nil)) [.b false,.z 0 0] .nil) okA s87) λ v88 s89=>ko e82 4 λ v90=>onp v90 λ b91 o92=>onAx v88 λ l93=>bnr (stnA 2 b91 o92 l93 s89) λ v94
  s95=>nx (λ e96 s97=>.ok .r e96 s97) (kst e82 5 (.b true)) s95) (ko e82 12 λ v98=>oni v98 λ n99=>nx (λ e100 s101=>jn (k84) λ k102=>ko
  e100 38 λ v103=>cdK v103 (ko e100 6 λ v104=>ko e100 3 λ v105=>onp v105 λ b106 o107=>ldK b106 (Nat.add o107 2) s101 λ v108=>onSlx v104 λ
  b109 o110 q111=>oni v108 λ n113=>onON (nat n113) λ i112=>ifX (Nat.blt i112 q111) (bnr (ldnP 2 b109 (Nat.add o110 (Nat.mul i112 2)) s101) λ v114
  s115=>ko e100 4 λ v116=>onp v116 λ b117 o118=>onAx v114 λ l119=>bnr (stnA 2 b117 o118 l119 s115) λ v120 s121=>nx (λ e122 s123=>.ok .r
  e122 s123) (kst e100 5 (.b true)) s121)) (ko e100 12 λ v124=>oni v124 λ n125=>nx (λ e126 s127=>jn (k102) λ k128=>ko e126 45 λ v129=>cdK
  v129 (ko e126 6 λ v130=>ko e126 3 λ v131=>onp v131 λ b132 o133=>ldK b132 (Nat.add o133 2) s127 λ v134=>onSlx v130 λ b135 o136 q137=>oni
  v134 λ n139=>onON (nat n139) λ i138=>ifX (Nat.blt i138 q137) (ldK b135 (Nat.add (Nat.add o136 (Nat.mul i138 2)) 1) s127 λ v140=>ko e126 6 λ v141
 =>ko e126 3 λ v142=>onp v142 λ b143 o144=>ldK b143 (Nat.add o144 3) s127 λ v145=>onSlx v141 λ b146 o147 q148=>oni v145 λ n150=>onON (nat
  n150) λ i149=>ifX (Nat.blt i149 q148) (ldK b146 (Nat.add (Nat.add o147 (Nat.mul i149 2)) 1) s127 λ v151=>bnr (cl 299 [v140,v151] s127) λ v152 s153
 =>bnr (oL (fill (.cons 1 1 (.c v152) .nil) [.b false,.z 0 0] .nil) okA s153) λ v154 s155=>ko e126 4 λ v156=>onp v156 λ b157 o158=>onAx v154
  λ l159=>bnr (stnA 2 b157 o158 l159 s153) λ v160 s161=>nx (λ e162 s163=>.ok .r e162 s163) (kst e126 5 (.b true)) s161))) (ko e126 12 λ v164=>
  oni v164 λ n165=>nx (λ e166 s167=>jn (k128) λ k168=>ko e166 61 λ v169=>cdK v169 (ko e166 6 λ v170=>ko e166 3 λ v171=>onp v171 λ
  b172 o173=>ldK b172 (Nat.add o173 2) s167 λ v174=>onSlx v170 λ b175 o176 q177=>oni v174 λ n179=>onON (nat n179) λ i178=>ifX (Nat.blt i178
  q177) (ldK b175 (Nat.add (Nat.add o176 (Nat.mul i178 2)) 1) s167 λ v180=>ko e166 6 λ v181=>ko e166 3 λ v182=>onp v182 λ b183 o184=>ldK b183
  (Nat.add o184 3) s167 λ v185=>onSlx v181 λ b186 o187 q188=>oni v185 λ n190=>onON (nat n190) λ i189=>ifX (Nat.blt i189 q188) (ldK b186 (Nat.add
  (Nat.add o187 (Nat.mul i189 2)) 1) s167 λ v191=>bnr (cl 300 [v180,v191] s167) λ v192 s193=>bnr (oL (fill (.cons 1 1 (.c v192) .nil) [.b false,.z
  0 0] .nil) okA s193) λ v194 s195=>ko e166 4 λ v196=>onp v196 λ b197 o198=>onAx v194 λ l199=>bnr (stnA 2 b197 o198 l199 s193) λ v200 s201
 =>nx (λ e202 s203=>.ok .r e202 s203) (kst e166 5 (.b true)) s201))) (k168 e166 s167)) (kst e126 61 (.b (cmI .eq n165 (.ofNat 16)))) s127)) (kst e100 45
  (.b (cmI .eq n125 (.ofNat 15)))) s101)) (kst e82 38 (.b (cmI .eq n99 (.ofNat 14)))) s83)) (kst e62 34 (.b (cmI .eq n81 (.ofNat 13)))) s63)) (kst e22 29 (.b
  (cmI .eq n61 (.ofNat 12)))) s23)) (kst e18 13 (.b (cmI .eq n21 (.ofNat 9)))) s19) 0 (λ e204 s205=>bnr (oL (fill .nil [.b false,.z 0 0] .nil) okA s205)
  λ v206 s207=>ko e204 4 λ v208=>onp v208 λ b209 o210=>onAx v206 λ l211=>bnr (stnA 2 b209 o210 l211 s207) λ v212 s213=>nx (λ e214 s215
 =>.ok .r e214 s215) (kst e204 5 (.b false)) s213)) (kst e12 12 v17) s13) (kst e6 6 v11) s7) (kst (kst (kst env 3 v2) 4 v4) 5 (.b false)) s5
theorem fe209 : rf209 = fastOf kf209 := by kernel_rfl
def rf210 : RFun := .mk 3 [.cn 6 5,.t 7] λ cl env s=>ko env 2 λ v1=>bnr (boxV v1 s) λ v2 s3=>bnr (eNew [.i (.ofNat 0),.i (.ofNat 0),.i (.ofNat 0),.b false,.z 0 0] .nil s3 cl) λ v4 s5=>nx (λ e6
  s7=>ko e6 0 λ v8=>onp v8 λ b9 o10=>ldK b9 (Nat.add o10 2) s7 λ v11=>ko e6 1 λ v12=>ko e6 5 λ v13=>onp v13 λ b14 o15=>bnr (ldnP 2
  b14 o15 s7) λ v16 s17=>onSlx v11 λ b18 o19 q20=>oni v12 λ n22=>onON (nat n22) λ i21=>ifX (Nat.blt i21 q20) (onAx v16 λ l23=>bnr (stnA 2
  b18 (Nat.add o19 (Nat.mul i21 2)) l23 s7) λ v24 s25=>nx (λ e26 s27=>ko e26 0 λ v28=>ko e26 5 λ v29=>onp v29 λ b30 o31=>bnr (ldnP 2 b30
  o31 s27) λ v32 s33=>bnr (cl 140 [v28,v32,(.i (.ofNat 0))] s33) λ v34 s35=>extK v34 0 λ v36=>extK v34 1 λ v37=>ko e26 6 λ v38=>onp v38
  λ b39 o40=>onAx v36 λ l41=>bnr (stnA 5 b39 o40 l41 s35) λ v42 s43=>nx (λ e44 s45=>.ok .r e44 s45) (kst e26 7 v37) s43) e6 s25)) (kst (kst
  (kst env 5 v2) 6 v4) 7 (.b false)) s5
theorem fe210 : rf210 = fastOf kf210 := by kernel_rfl
def rf211 : RFun := .mk 3 [.cn 6 5,.t 7] λ cl env s=>ko env 2 λ v1=>bnr (boxV v1 s) λ v2 s3=>bnr (eNew [.i (.ofNat 0),.i (.ofNat 0),.i (.ofNat 0),.b false,.z 0 0] .nil s3 cl) λ v4 s5=>nx (λ e6
  s7=>ko e6 1 λ v8=>onp v8 λ b9 o10=>bnr (ldnP 9 b9 (Nat.add o10 0) s7) λ v11 s12=>ko e6 5 λ v13=>onp v13 λ b14 o15=>bnr (ldnP 6 b14
  o15 s7) λ v16 s17=>bnr (cl 301 [v11,v16] s7) λ v18 s19=>extK v18 0 λ v20=>extK v18 1 λ v21=>nx (λ e22 s23=>noX (klk e22 10) (ko e22 1
  λ v24=>onp v24 λ b25 o26=>ldK b25 (Nat.add o26 11) s23 λ v27=>ko e22 0 λ v28=>onp v28 λ b29 o30=>ldK b29 (Nat.add o30 0) s23 λ v31=>
  ko e22 8 λ v32=>ko e22 9 λ v33=>ko e22 0 λ v34=>onp v34 λ b35 o36=>ldK b35 (Nat.add o36 5) s23 λ v37=>ko e22 0 λ v38=>bnr (cl 303
  [v38] s23) λ v39 s40=>onBx v37 λ c41=>onBx v39 λ c42=>bnr (cl 302 [v27,v31,v32,v33,(.b (neg (eqB c41 c42)))] s23) λ v43 s44=>bnr (eNew
  [.i (.ofNat 0),.ns,.i (.ofNat 0)] .nil s44 cl) λ v45 s46=>onp v45 λ b47 o48=>onAx v43 λ l49=>bnr (stnA 3 b47 o48 l49 s46) λ v50 s51=>nx
  (λ e52 s53=>bkK (ko e52 10 λ v54=>onp v54 λ b55 o56=>ldK b55 (Nat.add o56 0) s53 λ v57=>oni v57 λ n58=>nx (λ e59 s60=>jn (idk) λ
  k61=>ko e59 38 λ v62=>cdK v62 (ko e59 0 λ v63=>ko e59 0 λ v64=>onp v63 λ b65 o66=>bnr (stV b65 (Nat.add o66 3) (.i (.ofNat 3)) s60) λ
  v67 s68=>onp v64 λ b69 o70=>bnr (stV b69 (Nat.add o70 7) (.i (.ofNat 5)) s68) λ v71 s72=>nx (k61) e59 s72) (ko e59 10 λ v73=>onp v73 λ b74
  o75=>ldK b74 (Nat.add o75 0) s60 λ v76=>oni v76 λ n77=>gdK (.b (cmI .ne n77 (.ofNat 1))) false (λ k78=>ko e59 0 λ v81=>k78 v81 s60) s60 λ
  v79 s80=>gdK (.b (cmI .ne n77 (.ofNat 1))) false (λ k82=>ko e59 1 λ v85=>k82 v85 s80) s80 λ v83 s84=>gdK (.b (cmI .ne n77 (.ofNat 1))) false (λ
  k86=>ko e59 5 λ v89=>onp v89 λ b90 o91=>bnr (ldnP 6 b90 o91 s84) λ v92 s93=>k86 v92 s93) s84 λ v87 s88=>gdK (.b (cmI .ne n77 (.ofNat 1)))
  false (λ k94=>ko e59 10 λ v97=>onp v97 λ b98 o99=>bnr (ldnP 3 b98 o99 s88) λ v100 s101=>k94 v100 s101) s88 λ v95 s96=>gdK (.b (cmI .ne
  n77 (.ofNat 1))) false (λ k102=>bnr (cl 143 [v79,v83,v87,v95] s96) λ v105 s106=>k102 v105 s106) s96 λ v103 s104=>gdK (.b (cmI .ne n77 (.ofNat
  1))) false (λ k107=>onBx v103 λ c110=>k107 (.b (neg c110)) s104) s104 λ v108 s109=>pkK (.b (cmI .ne n77 (.ofNat 1))) (.ok (.b true)) (.ok v108) λ
  v111=>nx (λ e112 s113=>jn (k61) λ k114=>ko e112 48 λ v115=>cdK v115 (ko e112 0 λ v116=>bnr (cl 144 [v116,(.i (.ofNat 10))] s113) λ v117
  s118=>extK v117 0 λ v119=>extK v117 1 λ v120=>ko e112 6 λ v121=>onp v121 λ b122 o123=>onAx v119 λ l124=>bnr (stnA 5 b122 o123 l124
  s118) λ v125 s126=>nx (λ e127 s128=>.ok .r e127 s128) (kst e112 7 v120) s126) (k114 e112 s113)) (kst e59 48 v111) s109)) (kst e52 38 (.b (cmI .eq
  n58 (.ofNat 0)))) s53) 0 (λ e129 s130=>bnr (oL (fill .nil [.i (.ofNat 0),.i (.ofNat 0),.i (.ofNat 0),.b false,.z 0 0] .nil) okA s130) λ v131 s132
 =>ko e129 6 λ v133=>onp v133 λ b134 o135=>onAx v131 λ l136=>bnr (stnA 5 b134 o135 l136 s132) λ v137 s138=>nx (λ e139 s140=>.ok .r e139
  s140) (kst e129 7 (.b false)) s138)) (kst e22 10 v45) s51)) (kst (kst e6 8 v20) 9 v21) s19) (kst (kst (kst env 5 v2) 6 v4) 7 (.b false)) s5
theorem fe211 : rf211 = fastOf kf211 := by kernel_rfl
def rf212 : RFun := .mk 3 [.t 6] λ cl env s=>ko env 1 λ v1=>bnr (boxV v1 s) λ v2 s3=>nx (λ e4 s5=>ko e4 4 λ v6=>onp v6 λ b7 o8=>ldK b7 (Nat.add o8 0) s5 λ v9=>nx (λ e10 s11=>
  bkK (ko e10 8 λ v12=>oni v12 λ n13=>nx (λ e14 s15=>jn (idk) λ k16=>ko e14 9 λ v17=>cdK v17 (ko e14 0 λ v18=>onp v18 λ b19 o20=>
  bnr (ldnP 9 b19 (Nat.add o20 0) s15) λ v21 s22=>ko e14 2 λ v23=>ko e14 4 λ v24=>onp v24 λ b25 o26=>ldK b25 (Nat.add o26 2) s15 λ v27=>ko
  e14 4 λ v28=>onp v28 λ b29 o30=>ldK b29 (Nat.add o30 4) s15 λ v31=>cvK v23 [v27] s15 cl λ v32 s33=>ko e14 0 λ v34=>ifX (eqV v18 v34) (onp
  v34 λ b35 o36=>ifX (eqV (.p b19 o20) (.p b35 o36)) (ifX (eqV (.p b19 (Nat.add o20 0)) (.p b35 (Nat.add o36 0))) (bnr (ldnP 9 b35 (Nat.add o36 0) s33) λ
  v37 s38=>ifX (eqV v21 v37) (ko e14 4 λ v39=>onp v39 λ b40 o41=>ifX (eqV (.p b29 (Nat.add o30 4)) (.p b40 (Nat.add o41 4))) (ldK b40 (Nat.add o41 4)
  s33 λ v42=>ifX (eqV v31 v42) (bnr (cl 304 [v37,v32,v42] s33) λ v43 s44=>nx (λ e45 s46=>.ok .r e45 s46) (kst e14 6 v43) s44))))))) (ko e14 8
  λ v47=>oni v47 λ n48=>nx (λ e49 s50=>jn (k16) λ k51=>ko e49 22 λ v52=>cdK v52 (ko e49 0 λ v53=>onp v53 λ b54 o55=>bnr (ldnP 9
  b54 (Nat.add o55 0) s50) λ v56 s57=>ko e49 2 λ v58=>ko e49 4 λ v59=>onp v59 λ b60 o61=>ldK b60 (Nat.add o61 1) s50 λ v62=>ko e49 4 λ v63
 =>onp v63 λ b64 o65=>ldK b64 (Nat.add o65 4) s50 λ v66=>cvK v58 [v62] s50 cl λ v67 s68=>ko e49 0 λ v69=>ifX (eqV v53 v69) (onp v69 λ b70
  o71=>ifX (eqV (.p b54 o55) (.p b70 o71)) (ifX (eqV (.p b54 (Nat.add o55 0)) (.p b70 (Nat.add o71 0))) (bnr (ldnP 9 b70 (Nat.add o71 0) s68) λ v72 s73=>
  ifX (eqV v56 v72) (ko e49 4 λ v74=>onp v74 λ b75 o76=>ifX (eqV (.p b64 (Nat.add o65 4)) (.p b75 (Nat.add o76 4))) (ldK b75 (Nat.add o76 4) s68 λ v77
 =>ifX (eqV v66 v77) (bnr (cl 304 [v72,v67,v77] s68) λ v78 s79=>nx (λ e80 s81=>.ok .r e80 s81) (kst e49 6 v78) s79))))))) (ko e49 8 λ v82=>
  oni v82 λ n83=>nx (λ e84 s85=>jn (k51) λ k86=>ko e84 35 λ v87=>cdK v87 (ko e84 0 λ v88=>onp v88 λ b89 o90=>bnr (ldnP 9 b89 (Nat.add
  o90 0) s85) λ v91 s92=>ko e84 2 λ v93=>ko e84 4 λ v94=>onp v94 λ b95 o96=>ldK b95 (Nat.add o96 2) s85 λ v97=>ko e84 4 λ v98=>onp v98
  λ b99 o100=>ldK b99 (Nat.add o100 4) s85 λ v101=>cvK v93 [v97] s85 cl λ v102 s103=>ko e84 0 λ v104=>ifX (eqV v88 v104) (onp v104 λ b105 o106
 =>ifX (eqV (.p b89 o90) (.p b105 o106)) (ifX (eqV (.p b89 (Nat.add o90 0)) (.p b105 (Nat.add o106 0))) (bnr (ldnP 9 b105 (Nat.add o106 0) s103) λ v107
  s108=>ifX (eqV v91 v107) (ko e84 4 λ v109=>onp v109 λ b110 o111=>ifX (eqV (.p b99 (Nat.add o100 4)) (.p b110 (Nat.add o111 4))) (ldK b110 (Nat.add
  o111 4) s103 λ v112=>ifX (eqV v101 v112) (bnr (cl 305 [v107,v102,v112] s103) λ v113 s114=>nx (λ e115 s116=>.ok .r e115 s116) (kst e84 6 v113)
  s114))))))) (k86 e84 s85)) (kst e49 35 (.b (cmI .eq n83 (.ofNat 5)))) s50)) (kst e14 22 (.b (cmI .eq n48 (.ofNat 4)))) s15)) (kst e10 9 (.b (cmI .eq n13
  (.ofNat 3)))) s11) 0 (λ e117 s118=>ko e117 0 λ v119=>onp v119 λ b120 o121=>bnr (ldnP 9 b120 (Nat.add o121 0) s118) λ v122 s123=>ko e117 2
  λ v124=>ko e117 4 λ v125=>onp v125 λ b126 o127=>ldK b126 (Nat.add o127 1) s118 λ v128=>ko e117 4 λ v129=>onp v129 λ b130 o131=>ldK
  b130 (Nat.add o131 4) s118 λ v132=>cvK v124 [v128] s118 cl λ v133 s134=>ko e117 0 λ v135=>ifX (eqV v119 v135) (onp v135 λ b136 o137=>ifX (eqV
  (.p b120 o121) (.p b136 o137)) (ifX (eqV (.p b120 (Nat.add o121 0)) (.p b136 (Nat.add o137 0))) (bnr (ldnP 9 b136 (Nat.add o137 0) s134) λ v138 s139=>ifX
  (eqV v122 v138) (ko e117 4 λ v140=>onp v140 λ b141 o142=>ifX (eqV (.p b130 (Nat.add o131 4)) (.p b141 (Nat.add o142 4))) (ldK b141 (Nat.add o142 4)
  s134 λ v143=>ifX (eqV v132 v143) (bnr (cl 305 [v138,v133,v143] s134) λ v144 s145=>nx (λ e146 s147=>.ok .r e146 s147) (kst e117 6 v144)
  s145)))))))) (kst e4 8 v9) s5) (kst (kst env 4 v2) 6 (.np)) s3
theorem fe212 : rf212 = fastOf kf212 := by kernel_rfl
def rf213 : RFun := .mk 2 [.t 4] λ cl env s=>nx (λ e1 s2=>ko e1 0 λ v3=>onp v3 λ b4 o5=>ldK b4 (Nat.add o5 2) s2 λ v6=>ko e1 1 λ v7=>onSlx v6 λ b8 o9 q10=>oni v7 λ n12=>onON
  (nat n12) λ i11=>ifX (Nat.blt i11 q10) (ldK b8 (Nat.add (Nat.add o9 (Nat.mul i11 2)) 1) s2 λ v13=>bnr (cl 150 [v13] s2) λ v14 s15=>extK v14 0 λ
  v16=>extK v14 1 λ v17=>nx (λ e18 s19=>ko e18 5 λ v20=>nx (λ e21 s22=>.ok .r e21 s22) (kst e18 4 v20) s19) (kst e1 5 v16) s15)) (kst env 4
  (.i (.ofNat 0))) s
theorem fe213 : rf213 = fastOf kf213 := by kernel_rfl
def rf214 : RFun := .mk 2 [] λ cl env s=>ko env 1 λ v1=>bnr (boxV v1 s) λ v2 s3=>nx (λ e4 s5=>ko e4 0 λ v6=>ko e4 0 λ v7=>ko e4 0 λ v8=>onp v8 λ b9 o10=>ldK b9 (Nat.add
  o10 2) s5 λ v11=>ko e4 3 λ v12=>onp v12 λ b13 o14=>ldK b13 (Nat.add o14 2) s5 λ v15=>onSlx v11 λ b16 o17 q18=>oni v15 λ n20=>onON
  (nat n20) λ i19=>ifX (Nat.blt i19 q18) (ldK b16 (Nat.add (Nat.add o17 (Nat.mul i19 2)) 1) s5 λ v21=>onp v6 λ b22 o23=>bnr (stV b22 (Nat.add
  (Nat.add o23 10) 6) v21 s5) λ v24 s25=>ko e4 0 λ v26=>ifX (eqV v7 v26) (onp v26 λ b27 o28=>bnr (stV b27 (Nat.add (Nat.add o28 10) 1) (.i (.ofNat
  6)) s25) λ v29 s30=>nx (λ e31 s32=>ko e31 0 λ v33=>onp v33 λ b34 o35=>ldK b34 (Nat.add (Nat.add o35 10) 4) s32 λ v36=>gdK v36 true (λ
  k37=>ko e31 0 λ v40=>k37 v40 s32) s32 λ v38 s39=>gdK v36 true (λ k41=>bnr (cl 306 [v38] s39) λ v44 s45=>k41 v44 s45) s39 λ v42 s43=>pkK
  v36 (.ok v42) (.ok (.b false)) λ v46=>nx (λ e47 s48=>jn (idk) λ k49=>ko e47 29 λ v50=>cdK v50 (ko e47 0 λ v51=>onp v51 λ b52 o53=>
  bnr (stV b52 (Nat.add (Nat.add o53 10) 1) (.i (.ofNat 3)) s48) λ v54 s55=>nx (k49) e47 s55) (k49 e47 s48)) (kst e31 29 v46) s43) e4 s30))) (kst env 3
  v2) s3
theorem fe214 : rf214 = fastOf kf214 := by kernel_rfl
def rf216 : RFun := .mk 2 [.t 4] λ cl env s=>nx (λ e1 s2=>ko e1 0 λ v3=>onp v3 λ b4 o5=>ldK b4 (Nat.add o5 12) s2 λ v6=>oni v6 λ n7=>nx (λ e8 s9=>jn (λ e14 s15=>ko e14 0 λ
  v16=>onp v16 λ b17 o18=>ldK b17 (Nat.add o18 22) s15 λ v19=>oni v19 λ n20=>frcI (wrapI (arI .add n20 (.ofNat 1))) λ n21=>onp v16 λ b22
  o23=>bnr (stV b22 (Nat.add o23 22) (.i n21) s15) λ v24 s25=>nx (λ e26 s27=>ko e26 0 λ v28=>onp v28 λ b29 o30=>ldK b29 (Nat.add o30 12) s27
  λ v31=>nx (λ e32 s33=>bkK (ko e32 20 λ v34=>oni v34 λ n35=>nx (λ e36 s37=>jn (λ e42 s43=>jn (idk) λ k44=>ko e42 21 λ v45=>cdK
  v45 (ko e42 0 λ v46=>ko e42 1 λ v47=>bnr (cl 308 [v46,v47] s43) λ v48 s49=>nx (λ e50 s51=>.ok .r e50 s51) (kst e42 4 v48) s49) (k44 e42
  s43)) λ k38=>ko e36 21 λ v39=>cdK v39 (k38 e36 s37) (ko e36 20 λ v40=>oni v40 λ n41=>nx (k38) (kst e36 21 (.b (cmI .eq n41 (.ofNat 1))))
  s37)) (kst e32 21 (.b (cmI .eq n35 (.ofNat 0)))) s33) 0 (λ e52 s53=>ko e52 0 λ v54=>ko e52 1 λ v55=>bnr (cl 309 [v54,v55] s53) λ v56 s57=>
  nx (λ e58 s59=>.ok .r e58 s59) (kst e52 4 v56) s57)) (kst e26 20 v31) s27) e14 s25) λ k10=>ko e8 9 λ v11=>cdK v11 (nx (λ e12 s13=>.ok .r e12
  s13) (kst e8 4 (.b true)) s9) (k10 e8 s9)) (kst e1 9 (.b (cmI .eq n7 (.ofNat 6)))) s2) (kst env 4 (.b false)) s
theorem fe216 : rf216 = fastOf kf216 := by kernel_rfl
def rf217 : RFun := .mk 1 [.t 2] λ cl env s=>nx (λ e1 s2=>ko e1 0 λ v3=>onp v3 λ b4 o5=>ldK b4 (Nat.add o5 21) s2 λ v6=>nx (λ e7 s8=>.ok .r e7 s8) (kst e1 2 v6) s2) (kst env 2 (.i
  (.ofNat 0))) s
theorem fe217 : rf217 = fastOf kf217 := by kernel_rfl
def rf218 : RFun := .mk 1 [.t 2] λ cl env s=>nx (λ e1 s2=>ko e1 0 λ v3=>onp v3 λ b4 o5=>ldK b4 (Nat.add o5 19) s2 λ v6=>nx (λ e7 s8=>.ok .r e7 s8) (kst e1 2 v6) s2) (kst env 2 (.i
  (.ofNat 0))) s
theorem fe218 : rf218 = fastOf kf218 := by kernel_rfl
def rf219 : RFun := .mk 1 [.t 2] λ cl env s=>nx (λ e1 s2=>ko e1 0 λ v3=>onp v3 λ b4 o5=>ldK b4 (Nat.add o5 19) s2 λ v6=>oni v6 λ n7=>gdK (.b (cmI .ge n7 (.ofNat 0))) true (λ k8=>ko
  e1 0 λ v11=>k8 v11 s2) s2 λ v9 s10=>gdK (.b (cmI .ge n7 (.ofNat 0))) true (λ k12=>onp v9 λ b15 o16=>k12 (.p b15 o16) s10) s10 λ v13 s14=>
  gdK (.b (cmI .ge n7 (.ofNat 0))) true (λ k17=>onp v13 λ b20 o21=>k17 (.p b20 (Nat.add o21 20)) s14) s14 λ v18 s19=>gdK (.b (cmI .ge n7 (.ofNat
  0))) true (λ k22=>onp v18 λ b25 o26=>ldK b25 o26 s19 λ v27=>k22 v27 s19) s19 λ v23 s24=>pkK (.b (cmI .ge n7 (.ofNat 0))) (.ok v23) (.ok (.b
  false)) λ v28=>nx (λ e29 s30=>.ok .r e29 s30) (kst e1 2 v28) s24) (kst env 2 (.b false)) s
theorem fe219 : rf219 = fastOf kf219 := by kernel_rfl
def rf220 : RFun := .mk 1 [.t 2] λ cl env s=>nx (λ e1 s2=>ko e1 0 λ v3=>bnr (cl 150 [v3] s2) λ v4 s5=>extK v4 0 λ v6=>extK v4 1 λ v7=>nx (λ e8 s9=>ko e8 4 λ v10=>gdK v10 false
  (λ k11=>ko e8 0 λ v14=>k11 v14 s9) s9 λ v12 s13=>gdK v10 false (λ k15=>bnr (cl 123 [] s13) λ v18 s19=>k15 v18 s19) s13 λ v16 s17=>gdK
  v10 false (λ k20=>bnr (cl 238 [v12,v16] s17) λ v23 s24=>k20 v23 s24) s17 λ v21 s22=>pkK v10 (.ok (.b true)) (.ok v21) λ v25=>nx (λ e26 s27
 =>.ok .r e26 s27) (kst e8 2 v25) s22) (kst e1 4 v7) s5) (kst env 2 (.b false)) s
theorem fe220 : rf220 = fastOf kf220 := by kernel_rfl
def rf221 : RFun := .mk 3 [.t 6] λ cl env s=>nx (λ e1 s2=>ko e1 0 λ v3=>onp v3 λ b4 o5=>ldK b4 (Nat.add o5 1) s2 λ v6=>oni v6 λ n7=>frcI (wrapI (arI .add n7 (.ofNat 1))) λ n8=>onp
  v3 λ b9 o10=>bnr (stV b9 (Nat.add o10 1) (.i n8) s2) λ v11 s12=>nx (λ e13 s14=>ko e13 0 λ v15=>ko e13 1 λ v16=>bnr (cl 200 [v15,v16]
  s14) λ v17 s18=>onBx v17 λ c19=>nx (λ e20 s21=>jn (λ e26 s27=>ko e26 0 λ v28=>onp v28 λ b29 o30=>ldK b29 (Nat.add o30 0) s27 λ v31
 =>ko e26 1 λ v32=>ko e26 2 λ v33=>onSlx v31 λ b34 o35 q36=>oni v32 λ n38=>onON (nat n38) λ i37=>ifX (Nat.blt i37 q36) (bnr (stV b34
  (Nat.add o35 (Nat.mul i37 1)) v33 s27) λ v39 s40=>nx (λ e41 s42=>nx (λ e43 s44=>.ok .r e43 s44) (kst e41 6 (.i (.ofNat 0))) s42) e26 s40)) λ k22
 =>ko e20 17 λ v23=>cdK v23 (nx (λ e24 s25=>.ok .r e24 s25) (kst e20 6 (.i (.ofNat 1))) s21) (k22 e20 s21)) (kst e13 17 (.b (neg c19))) s18) e1 s12)
  (kst env 6 (.i (.ofNat 0))) s
theorem fe221 : rf221 = fastOf kf221 := by kernel_rfl
def rf222 : RFun := .mk 2 [.t 4] λ cl env s=>nx (λ e1 s2=>ko e1 0 λ v3=>onp v3 λ b4 o5=>ldK b4 (Nat.add o5 3) s2 λ v6=>oni v6 λ n7=>frcI (wrapI (arI .add n7 (.ofNat 1))) λ n8=>onp
  v3 λ b9 o10=>bnr (stV b9 (Nat.add o10 3) (.i n8) s2) λ v11 s12=>nx (λ e13 s14=>ko e13 0 λ v15=>onp v15 λ b16 o17=>ldK b16 (Nat.add o17
  0) s14 λ v18=>ko e13 1 λ v19=>bnr (cl 310 [v18,v19] s14) λ v20 s21=>nx (λ e22 s23=>.ok .r e22 s23) (kst e13 4 v20) s21) e1 s12) (kst env 4
  (.b false)) s
theorem fe222 : rf222 = fastOf kf222 := by kernel_rfl
def rf223 : RFun := .mk 1 [.t 2] λ cl env s=>nx (λ e1 s2=>ko e1 0 λ v3=>oni v3 λ n4=>gdK (.b (cmI .lt n4 (.ofNat 0))) false (λ k5=>ko e1 0 λ v8=>k5 v8 s2) s2 λ v6 s7=>gdK (.b (cmI
  .lt n4 (.ofNat 0))) false (λ k9=>oni v6 λ n12=>k9 (.b (cmI .gt n12 (.ofNat 1099511627776))) s7) s7 λ v10 s11=>pkK (.b (cmI .lt n4 (.ofNat 0)))
  (.ok (.b true)) (.ok v10) λ v13=>nx (λ e14 s15=>jn (λ e22 s23=>ko e22 0 λ v24=>oni v24 λ n25=>frcI (wrapI (arI .add n25 (.ofNat 1))) λ
  n26=>bnr (eKp (.q (.cif (.c (.i n26)))) .nil s23 cl) λ v27 s28=>bnr (eKp (.q (.cplx (.c v27) (.c (.f 4607182418800017408)))) .nil s28 cl) λ v29 s30
 =>nx (λ e31 s32=>.ok .r e31 s32) (kst e22 2 v29) s30) λ k16=>ko e14 8 λ v17=>cdK v17 (bnr (cl 123 [] s15) λ v18 s19=>nx (λ e20 s21=>.ok
  .r e20 s21) (kst e14 2 v18) s19) (k16 e14 s15)) (kst e1 8 v13) s11) (kst env 2 (.z 0 0)) s
theorem fe223 : rf223 = fastOf kf223 := by kernel_rfl
def rf225 : RFun := .mk 1 [.t 2,.t 3] λ cl env s=>nx (λ e1 s2=>ko e1 0 λ v3=>bnr (onZ reZ v3 s2) λ v4 s5=>nx (λ e6 s7=>ko e6 4 λ v8=>bnr (eKp (.q (.fcm .ge (.c v8) (.c (.f
  14069245235905429504)))) .nil s7 cl) λ v9 s10=>gdK v9 true (λ k11=>ko e6 4 λ v14=>k11 v14 s10) s10 λ v12 s13=>gdK v9 true (λ k15=>bnr
  (eKp (.q (.fcm .le (.c v12) (.c (.f 4845873199050653696)))) .nil s13 cl) λ v18 s19=>k15 v18 s19) s13 λ v16 s17=>pkK v9 (.ok v16) (.ok (.b false)) λ
  v20=>onBx v20 λ c21=>nx (λ e22 s23=>jn (λ e28 s29=>ko e28 4 λ v30=>bnr (eKp (.q (.cfi .i64 (.c v30))) .nil s29 cl) λ v31 s32=>nx (λ
  e33 s34=>ko e33 0 λ v35=>ko e33 5 λ v36=>bnr (cl 226 [v36] s34) λ v37 s38=>bnr (cl 238 [v35,v37] s38) λ v39 s40=>onBx v39 λ c41=>nx
  (λ e42 s43=>jn (λ e48 s49=>ko e48 5 λ v50=>nx (λ e51 s52=>.ok .r e51 s52) (kst (kst e48 2 v50) 3 (.b true)) s49) λ k44=>ko e42 21 λ v45
 =>cdK v45 (nx (λ e46 s47=>.ok .r e46 s47) (kst (kst e42 2 (.i (.ofNat 0))) 3 (.b false)) s43) (k44 e42 s43)) (kst e33 21 (.b (neg c41))) s40) (kst e28
  5 v31) s32) λ k24=>ko e22 14 λ v25=>cdK v25 (nx (λ e26 s27=>.ok .r e26 s27) (kst (kst e22 2 (.i (.ofNat 0))) 3 (.b false)) s23) (k24 e22 s23))
  (kst e6 14 (.b (neg c21))) s17) (kst e1 4 v4) s5) (kst (kst env 2 (.i (.ofNat 0))) 3 (.b false)) s
theorem fe225 : rf225 = fastOf kf225 := by kernel_rfl
def rf226 : RFun := .mk 1 [.t 2] λ cl env s=>nx (λ e1 s2=>ko e1 0 λ v3=>oni v3 λ n4=>gdK (.b (cmI .lt n4 (.negSucc 9007199254740991))) false (λ k5=>ko e1 0 λ v8=>k5 v8 s2) s2 λ v6 s7
 =>gdK (.b (cmI .lt n4 (.negSucc 9007199254740991))) false (λ k9=>oni v6 λ n12=>k9 (.b (cmI .gt n12 (.ofNat 9007199254740992))) s7) s7 λ v10 s11=>
  pkK (.b (cmI .lt n4 (.negSucc 9007199254740991))) (.ok (.b true)) (.ok v10) λ v13=>nx (λ e14 s15=>jn (λ e20 s21=>ko e20 0 λ v22=>bnr (eKp (.q
  (.cif (.c v22))) .nil s21 cl) λ v23 s24=>bnr (eKp (.q (.cplx (.c v23) (.c (.f 0)))) .nil s24 cl) λ v25 s26=>nx (λ e27 s28=>.ok .r e27 s28) (kst
  e20 2 v25) s26) λ k16=>ko e14 8 λ v17=>cdK v17 (nx (λ e18 s19=>.ok .r e18 s19) (kst e14 2 (.z 0 0)) s15) (k16 e14 s15)) (kst e1 8 v13) s11) (kst
  env 2 (.z 0 0)) s
theorem fe226 : rf226 = fastOf kf226 := by kernel_rfl
def rf228 : RFun := .mk 2 [.cn 4 7,.t 5] λ cl env s=>bnr (eNew [.i (.ofNat 0),.i (.ofNat 0),.i (.ofNat 0),.i (.ofNat 0),.i (.ofNat 0),.i (.ofNat 0),.ns] .nil s cl) λ v1 s2=>nx (λ e3 s4=>ko e3 0 λ
  v5=>ko e3 0 λ v6=>ko e3 1 λ v7=>bnr (cl 312 [v6,v7] s4) λ v8 s9=>bnr (cl 311 [v5,v8] s9) λ v10 s11=>extK v10 0 λ v12=>extK v10 1
  λ v13=>ko e3 4 λ v14=>onp v14 λ b15 o16=>onAx v12 λ l17=>bnr (stnA 7 b15 o16 l17 s11) λ v18 s19=>nx (λ e20 s21=>.ok .r e20 s21)
  (kst e3 5 v13) s19) (kst (kst env 4 v1) 5 (.b false)) s2
theorem fe228 : rf228 = fastOf kf228 := by kernel_rfl
def rf229 : RFun := .mk 1 [.cn 2 3] λ cl env s=>bnr (eNew [.i (.ofNat 0),.ns,.i (.ofNat 0)] .nil s cl) λ v1 s2=>nx (λ e3 s4=>ko e3 0 λ v5=>bnr (oL (fill (.cons 0 1 (.c v5) (.cons 2 1 (.c (.i
  (.negSucc 0))) .nil)) [.i (.ofNat 0),.ns,.i (.ofNat 0)] .nil) okA s4) λ v6 s7=>ko e3 2 λ v8=>onp v8 λ b9 o10=>onAx v6 λ l11=>bnr (stnA 3
  b9 o10 l11 s7) λ v12 s13=>nx (λ e14 s15=>.ok .r e14 s15) e3 s13) (kst env 2 v1) s2
theorem fe229 : rf229 = fastOf kf229 := by kernel_rfl
def rf230 : RFun := .mk 2 [.t 4] λ cl env s=>nx (λ e1 s2=>ko e1 0 λ v3=>ko e1 1 λ v4=>bnr (cl 312 [v3,v4] s2) λ v5 s6=>nx (λ e7 s8=>ko e7 5 λ v9=>oni v9 λ n10=>nx (λ e11
  s12=>jn (λ e17 s18=>ko e17 0 λ v19=>ko e17 0 λ v20=>onp v20 λ b21 o22=>ldK b21 (Nat.add o22 0) s18 λ v23=>ko e17 5 λ v24=>ko e17 5
  λ v25=>oni v25 λ n26=>frcI (wrapI (arI .add n26 (.ofNat 1))) λ n27=>bnr (cl 313 [v23,v24,(.i n27)] s18) λ v28 s29=>onp v19 λ b30 o31=>
  bnr (stV b30 (Nat.add o31 0) v28 s29) λ v32 s33=>nx (λ e34 s35=>nx (λ e36 s37=>.ok .r e36 s37) (kst e34 4 (.b true)) s35) e17 s33) λ k13=>ko
  e11 10 λ v14=>cdK v14 (nx (λ e15 s16=>.ok .r e15 s16) (kst e11 4 (.b false)) s12) (k13 e11 s12)) (kst e7 10 (.b (cmI .lt n10 (.ofNat 0)))) s8) (kst
  e1 5 v5) s6) (kst env 4 (.b false)) s
theorem fe230 : rf230 = fastOf kf230 := by kernel_rfl
def rf231 : RFun := .mk 3 [.t 6,.t 7] λ cl env s=>ko env 0 λ v1=>bnr (boxV v1 s) λ v2 s3=>nx (λ e4 s5=>bindX (scR (hC.hAt (.seq (.reg [8,9] [kW 14 3 9,kM 15 1,kM 16 2,.s 17 (.call 314 [(.t 14),
  (.t 15),(kI 0),(.c (.b false)),(.t 16)]),kM 13 17,kE 18 13 0,kE 19 13 1,.s 8 (.new [.b false,.ns]),.n (.stn (.t 8) (.t 18) 2),kM 9 19]) (.seq (.seq
  (.reg [21] [kM 20 9,.s 21 (.cm .ne (.t 20) (kI 0))]) (.cond (.t 21) (.seq (.reg [6,7] [kM 22 9,.s 6 (.mv (.c (.ns))),kM 7 22]) .ret) .skip)) (.seq (.reg
  [10] [.s 10 (.mv (.c (.ns)))]) (.seq (.reg [11] [.s 11 (.new [.z 0 0,.z 0 0,.z 0 0,.z 0 0,.z 0 0,.z 0 0,.z 0 0,.z 0 0])]) (.seq (.reg [12] [.s 12 (.mv
  (kI 0))]) (.seq (.label 0) (.seq (.reg [] [.s 23 (.call 123 []),.s 24 (.bld [.z 0 0,.z 0 0,.z 0 0,.z 0 0,.z 0 0,.z 0 0,.z 0 0,.z 0 0] (.cons 0 1 (.t
  23) .nil)),.n (.stn (.t 11) (.t 24) 8)]) (.seq (.seq (.reg [26] [kM 25 12,.s 26 (.cm .eq (.t 25) (kI 0))]) (.cond (.t 26) (.seq (.reg [] [kM 27 1,.s 28
  (.call 315 [(.t 27),(kI 0)]),.s 29 (.q (.iar (.t 11) (kI 1) 1 8)),.n (.st (.t 29) (.t 28))]) (.seq (.reg [31] [kM 30 2,.s 31 (.call 316 [(.t 30)])]) (.cond
  (.t 31) (.reg [] [kM 32 1,.s 33 (.call 315 [(.t 32),(kI 1)]),.s 34 (.q (.iar (.t 11) (kI 1) 1 8)),.n (.st (.t 34) (.t 33))]) .skip))) .skip)) (.seq (.seq
  (.reg [39] [kM 35 12,.s 36 (.ar .add (.t 35) (kI 1)),kM 37 2,.s 38 (.len (.t 37)),.s 39 (.cm .lt (.t 36) (.t 38))]) (.cond (.t 39) (.reg [] [kM 40 2,kM 41
  12,.s 42 (.ar .add (.t 41) (kI 1)),.s 43 (.ixp (.t 40) (.t 42) 1),kL 44 43,.s 45 (.call 223 [(.t 44)]),.s 46 (.q (.iar (.t 11) (kI 0) 1 8)),.n (.st (.t
  46) (.t 45))]) .skip)) (.seq (.reg [] [kW 47 8 2,kM 48 12,.s 49 (.call 317 [(.t 47),(.t 48),(.t 11)])]) (.seq (.drw [10] [.mk 0 1 true (kW 50 3 9),.mk 1 2
  true (kM 51 10),.mk 2 4 true (kM 52 2),.mk 3 8 true (kM 53 12),.mk 4 28 true (.s 54 (.ixp (.t 52) (.t 53) 1)),.mk 5 60 true (kL 55 54),.mk 6 64 true (kW
  56 11 8),.mk 7 255 false (.s 57 (.call 318 [(.t 50),(.t 51),(.t 55),(.t 56)])),.mk 8 511 true (kM 10 57)] [.mk 128 255 (.s 57 (.call 318 [(.t 50),(.t
  51),(.t 55),(.t 56)]))]) (.seq (.seq (.reg [12] [kM 58 12,.s 59 (.ar .add (.t 58) (kI 1)),kM 12 59]) (.seq (.reg [63] [kM 60 12,kM 61 2,.s 62 (.len (.t
  61)),.s 63 (.cm .lt (.t 60) (.t 62))]) (.cond (.t 63) (.goto 0) .skip))) (.seq (.reg [6,7] [kM 64 10,kM 6 64,.s 7 (.mv (kI 0))]) .ret)))))))))))))) lpFuel
  (λ cl e6 s7=>ko e6 3 λ v8=>onp v8 λ b9 o10=>bnr (ldnP 9 b9 o10 s7) λ v11 s12=>ko e6 1 λ v13=>ko e6 2 λ v14=>bnr (cl 314 [v11,v13,
  (.i (.ofNat 0)),(.b false),v14] s12) λ v15 s16=>extK v15 0 λ v17=>extK v15 1 λ v18=>bnr (eNew [.b false,.ns] .nil s16 cl) λ v19 s20=>onp
  v19 λ b21 o22=>onAx v17 λ l23=>bnr (stnA 2 b21 o22 l23 s20) λ v24 s25=>nx (λ e26 s27=>ko e26 9 λ v28=>oni v28 λ n29=>nx (λ e30 s31
 =>jn (λ e37 s38=>nx (λ e39 s40=>bnr (eNew [.z 0 0,.z 0 0,.z 0 0,.z 0 0,.z 0 0,.z 0 0,.z 0 0,.z 0 0] .nil s40 cl) λ v41 s42=>nx (λ e43
  s44=>nx (λ e45 s46=>(λ e47 s48=>bnr (cl 123 [] s48) λ v49 s50=>bnr (oL (fill (.cons 0 1 (.c v49) .nil) [.z 0 0,.z 0 0,.z 0 0,.z 0 0,.z 0
  0,.z 0 0,.z 0 0,.z 0 0] .nil) okA s50) λ v51 s52=>ko e47 11 λ v53=>onp v53 λ b54 o55=>onAx v51 λ l56=>bnr (stnA 8 b54 o55 l56 s52) λ
  v57 s58=>nx (λ e59 s60=>ko e59 12 λ v61=>oni v61 λ n62=>nx (λ e63 s64=>jn (λ e96 s97=>ko e96 12 λ v98=>oni v98 λ n99=>frcI
  (wrapI (arI .add n99 (.ofNat 1))) λ n100=>ko e96 2 λ v101=>bnr (lenV v101 s97) λ v102 s103=>oni v102 λ n104=>nx (λ e105 s106=>jn (λ
  e127 s128=>ko e127 8 λ v129=>onp v129 λ b130 o131=>bnr (ldnP 2 b130 o131 s128) λ v132 s133=>ko e127 12 λ v134=>ko e127 11 λ v135=>
  bnr (cl 317 [v132,v134,v135] s133) λ v136 s137=>nx (λ e138 s139=>ko e138 3 λ v140=>onp v140 λ b141 o142=>bnr (ldnP 9 b141 o142 s139) λ
  v143 s144=>ko e138 10 λ v145=>ko e138 2 λ v146=>ko e138 12 λ v147=>onSlx v146 λ b148 o149 q150=>oni v147 λ n152=>onON (nat n152) λ
  i151=>ifX (Nat.blt i151 q150) (ldK b148 (Nat.add o149 (Nat.mul i151 1)) s139 λ v153=>ko e138 11 λ v154=>onp v154 λ b155 o156=>bnr (ldnP 8 b155
  o156 s139) λ v157 s158=>bnr (cl 318 [v143,v145,v153,v157] s139) λ v159 s160=>nx (λ e161 s162=>ko e161 12 λ v163=>oni v163 λ n164=>
  frcI (wrapI (arI .add n164 (.ofNat 1))) λ n165=>nx (λ e166 s167=>ko e166 12 λ v168=>ko e166 2 λ v169=>bnr (lenV v169 s167) λ v170 s171=>
  oni v168 λ n172=>oni v170 λ n173=>nx (λ e174 s175=>jn (λ e178 s179=>ko e178 10 λ v180=>nx (λ e181 s182=>.ok .r e181 s182) (kst (kst
  e178 6 v180) 7 (.i (.ofNat 0))) s179) λ k176=>ko e174 63 λ v177=>cdK v177 (.ok (.g 0) e174 s175) (k176 e174 s175)) (kst e166 63 (.b (cmI .lt n172
  n173))) s171) (kst e161 12 (.i n165)) s162) (kst e138 10 v159) s160)) e127 s137) λ k107=>ko e105 39 λ v108=>cdK v108 (ko e105 2 λ v109=>ko e105
  12 λ v110=>oni v110 λ n111=>frcI (wrapI (arI .add n111 (.ofNat 1))) λ n112=>onSlx v109 λ b113 o114 q115=>onON (nat n112) λ i116=>ifX
  (Nat.blt i116 q115) (ldK b113 (Nat.add o114 (Nat.mul i116 1)) s106 λ v117=>bnr (cl 223 [v117] s106) λ v118 s119=>ko e105 11 λ v120=>bnr (eKp
  (.q (.iar (.c v120) (.c (.i (.ofNat 0))) 1 8)) .nil s119 cl) λ v121 s122=>onp v121 λ b123 o124=>bnr (stV b123 o124 v118 s122) λ v125 s126=>nx
  (k107) e105 s126)) (k107 e105 s106)) (kst e96 39 (.b (cmI .lt n100 n104))) s103) λ k65=>ko e63 26 λ v66=>cdK v66 (ko e63 1 λ v67=>bnr (cl 315
  [v67,(.i (.ofNat 0))] s64) λ v68 s69=>ko e63 11 λ v70=>bnr (eKp (.q (.iar (.c v70) (.c (.i (.ofNat 1))) 1 8)) .nil s69 cl) λ v71 s72=>onp v71
  λ b73 o74=>bnr (stV b73 o74 v68 s72) λ v75 s76=>nx (λ e77 s78=>ko e77 2 λ v79=>bnr (cl 316 [v79] s78) λ v80 s81=>nx (λ e82 s83=>jn
  (k65) λ k84=>ko e82 31 λ v85=>cdK v85 (ko e82 1 λ v86=>bnr (cl 315 [v86,(.i (.ofNat 1))] s83) λ v87 s88=>ko e82 11 λ v89=>bnr (eKp (.q
  (.iar (.c v89) (.c (.i (.ofNat 1))) 1 8)) .nil s88 cl) λ v90 s91=>onp v90 λ b92 o93=>bnr (stV b92 o93 v87 s91) λ v94 s95=>nx (k84) e82 s95) (k84
  e82 s83)) (kst e77 31 v80) s81) e63 s76) (k65 e63 s64)) (kst e59 26 (.b (cmI .eq n62 (.ofNat 0)))) s60) e47 s58) e45 s46) (kst e43 12 (.i (.ofNat 0))) s44)
  (kst e39 11 v41) s42) (kst e37 10 (.ns)) s38) λ k32=>ko e30 21 λ v33=>cdK v33 (ko e30 9 λ v34=>nx (λ e35 s36=>.ok .r e35 s36) (kst (kst e30
  6 (.ns)) 7 v34) s31) (k32 e30 s31)) (kst e26 21 (.b (cmI .ne n29 (.ofNat 0)))) s27) (kst (kst e6 8 v19) 9 v18) s25) cl e4 s5) (idk)) (kst (kst (kst env 3
  v2) 6 (.ns)) 7 (.i (.ofNat 0))) s3
theorem fe231 : rf231 = fastOf kf231 := by kernel_rfl
end Go.Kx
