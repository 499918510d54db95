/-
  Functions in the fast form; that they are the others. Printed by a program of ours.
-/
import Derived.Test.YtkggojngcnkabaaGreatKxH
import Derived.Test.YtkggojngcnkabaaGreatB10
set_option linter.unusedVariables false
set_option linter.unusedSimpArgs false
set_option maxRecDepth 1000000
noncomputable section
namespace Go.Kx
def rf90 : RFun := .mk 2 [] λ cl env s=>ko env 0 λ v1=>onp v1 λ b2 o3=>ldK b2 (Nat.add o3 1) s λ v4=>oni v4 λ n5=>nx (λ e6 s7=>jn (λ e23 s24=>ko e23 0 λ v25=>onp v25 λ
  b26 o27=>ldK b26 (Nat.add o27 6) s24 λ v28=>bnr (nilpV true v28 s24) λ v29 s30=>nx (λ e31 s32=>jn (λ e94 s95=>ko e94 0 λ v96=>onp v96
  λ b97 o98=>ldK b97 (Nat.add o98 6) s95 λ v99=>ko e94 1 λ v100=>onp v100 λ b101 o102=>ldK b101 (Nat.add o102 9) s95 λ v103=>ko e94 1 λ
  v104=>onp v104 λ b105 o106=>ldK b105 (Nat.add o106 10) s95 λ v107=>ko e94 1 λ v108=>onp v108 λ b109 o110=>ldK b109 (Nat.add o110 11) s95
  λ v111=>onp v111 λ b112 o113=>bnr (ldnP 12 b112 (Nat.add o113 4) s95) λ v114 s115=>bnr (cl 158 [v114] s95) λ v116 s117=>ko e94 0 λ v118
 =>ifX (eqV v96 v118) (onp v118 λ b119 o120=>ifX (eqV (.p b97 o98) (.p b119 o120)) (ifX (eqV (.p b97 (Nat.add o98 6)) (.p b119 (Nat.add o120 6))) (ldK
  b119 (Nat.add o120 6) s117 λ v121=>ifX (eqV v99 v121) (ko e94 1 λ v122=>ifX (eqV v100 v122) (onp v122 λ b123 o124=>ifX (eqV (.p b101 o102) (.p
  b123 o124)) (ifX (eqV (.p b101 (Nat.add o102 9)) (.p b123 (Nat.add o124 9))) (ldK b123 (Nat.add o124 9) s117 λ v125=>ifX (eqV v103 v125) (ko e94 1 λ v126
 =>ifX (eqV v104 v126) (onp v126 λ b127 o128=>ifX (eqV (.p b105 o106) (.p b127 o128)) (ifX (eqV (.p b105 (Nat.add o106 10)) (.p b127 (Nat.add o128 10)))
  (ldK b127 (Nat.add o128 10) s117 λ v129=>ifX (eqV v107 v129) (bnr (cl 162 [v121,v125,v129,v116] s117) λ v130 s131=>nx (λ e132 s133=>jn (idk)
  λ k134=>ko e132 75 λ v135=>cdK v135 (ko e132 0 λ v136=>ko e132 0 λ v137=>onp v137 λ b138 o139=>ldK b138 (Nat.add o139 6) s133 λ v140=>
  bnr (cl 163 [v140] s133) λ v141 s142=>onp v136 λ b143 o144=>bnr (stV b143 (Nat.add o144 13) v141 s142) λ v145 s146=>nx (λ e147 s148=>ko
  e147 0 λ v149=>onp v149 λ b150 o151=>ldK b150 (Nat.add o151 11) s148 λ v152=>ko e147 0 λ v153=>onp v153 λ b154 o155=>ldK b154 (Nat.add
  o155 6) s148 λ v156=>bnr (cl 164 [v156] s148) λ v157 s158=>oni v152 λ n159=>oni v157 λ n160=>frcI (wrapI (arI .add n159 n160)) λ n161=>
  onp v149 λ b162 o163=>bnr (stV b162 (Nat.add o163 11) (.i n161) s148) λ v164 s165=>nx (λ e166 s167=>ko e166 0 λ v168=>onp v168 λ b169
  o170=>bnr (stV b169 (Nat.add o170 1) (.i (.ofNat 2)) s167) λ v171 s172=>nx (k134) e166 s172) e147 s165) e132 s146) (k134 e132 s133)) (kst e94 75 v130)
  s131))))))))))))) λ k33=>ko e31 21 λ v34=>cdK v34 (ko e31 1 λ v35=>onp v35 λ b36 o37=>ldK b36 (Nat.add o37 11) s32 λ v38=>onp v38 λ b39
  o40=>bnr (ldnP 12 b39 (Nat.add o40 4) s32) λ v41 s42=>bnr (cl 158 [v41] s42) λ v43 s44=>bnr (cl 159 [v43] s44) λ v45 s46=>oni v45 λ n47
 =>frcI (wrapI (arI .sub (.ofNat 1) n47)) λ n48=>nx (λ e49 s50=>ko e49 0 λ v51=>ko e49 1 λ v52=>onp v52 λ b53 o54=>bnr (ldnP 9 b53
  (Nat.add o54 0) s50) λ v55 s56=>ko e49 4 λ v57=>ko e49 1 λ v58=>onp v58 λ b59 o60=>ldK b59 (Nat.add o60 11) s50 λ v61=>onp v61 λ b62
  o63=>bnr (ldnP 12 b62 (Nat.add o63 4) s50) λ v64 s65=>ko e49 4 λ v66=>ko e49 0 λ v67=>onp v67 λ b68 o69=>ldK b68 (Nat.add o69 7) s50 λ
  v70=>bnr (cl 158 [v64] s50) λ v71 s72=>ko e49 0 λ v73=>ifX (eqV v51 v73) (ko e49 1 λ v74=>ifX (eqV v52 v74) (onp v74 λ b75 o76=>ifX (eqV
  (.p b53 o54) (.p b75 o76)) (ifX (eqV (.p b53 (Nat.add o54 0)) (.p b75 (Nat.add o76 0))) (bnr (ldnP 9 b75 (Nat.add o76 0) s72) λ v77 s78=>ifX (eqV v55
  v77) (ko e49 4 λ v79=>ifX (eqV v57 v79) (ko e49 4 λ v80=>ifX (eqV v66 v80) (bnr (cl 161 [v71,v80] s72) λ v81 s82=>ko e49 0 λ v83=>ifX (eqV
  v67 v83) (onp v83 λ b84 o85=>ifX (eqV (.p b68 o69) (.p b84 o85)) (ifX (eqV (.p b68 (Nat.add o69 7)) (.p b84 (Nat.add o85 7))) (ldK b84 (Nat.add o85 7) s72
  λ v86=>ifX (eqV v70 v86) (bnr (cl 160 [v77,v79,v81,v86] s72) λ v87 s88=>ko e49 0 λ v89=>ifX (eqV v73 v89) (onp v89 λ b90 o91=>bnr (stV
  b90 (Nat.add o91 6) v87 s88) λ v92 s93=>nx (k33) e49 s93))))))))))))) (kst e31 4 (.i n48)) s46) (k33 e31 s32)) (kst e23 21 v29) s30) λ k8=>ko e6 9
  λ v9=>cdK v9 (ko e6 1 λ v10=>onp v10 λ b11 o12=>ldK b11 (Nat.add o12 12) s7 λ v13=>bnr (cl 25 [v13,(.i (.ofNat 0)),(.b false)] s7) λ v14
  s15=>nx (λ e16 s17=>ko e16 0 λ v18=>bnr (cl 84 [v18,(.i (.ofNat 8))] s17) λ v19 s20=>nx (λ e21 s22=>.ok .r e21 s22) e16 s20) e6 s15) (k8
  e6 s7)) (kst env 9 (.b (cmI .eq n5 (.ofNat 2)))) s
theorem fe90 : rf90 = fastOf kf90 := by kernel_rfl
def rf91 : RFun := .mk 2 [] λ cl env s=>ko env 0 λ v1=>onp v1 λ b2 o3=>ldK b2 (Nat.add o3 1) s λ v4=>oni v4 λ n5=>nx (λ e6 s7=>jn (λ e25 s26=>ko e25 1 λ v27=>onp v27 λ
  b28 o29=>ldK b28 (Nat.add o29 11) s26 λ v30=>bnr (cl 165 [v30] s26) λ v31 s32=>nx (λ e33 s34=>ko e33 0 λ v35=>bnr (cl 84 [v35,(.i
  (.ofNat 9))] s34) λ v36 s37=>nx (idk) e33 s37) e25 s32) λ k8=>ko e6 8 λ v9=>cdK v9 (ko e6 0 λ v10=>ko e6 1 λ v11=>bnr (cl 147 [v10,v11]
  s7) λ v12 s13=>nx (λ e14 s15=>jn (λ e23 s24=>.ok .r e23 s24) λ k16=>ko e14 11 λ v17=>cdK v17 (ko e14 0 λ v18=>onp v18 λ b19 o20=>
  bnr (stV b19 (Nat.add o20 1) (.i (.ofNat 7)) s15) λ v21 s22=>nx (k16) e14 s22) (k16 e14 s15)) (kst e6 11 v12) s13) (k8 e6 s7)) (kst env 8 (.b (cmI .eq
  n5 (.ofNat 0)))) s
theorem fe91 : rf91 = fastOf kf91 := by kernel_rfl
def rf92 : RFun := .mk 2 [] λ cl env s=>ko env 1 λ v1=>onp v1 λ b2 o3=>ldK b2 (Nat.add o3 11) s λ v4=>ko env 0 λ v5=>onp v5 λ b6 o7=>ldK b6 (Nat.add o7 2) s λ v8=>ko env 0 λ
  v9=>onp v9 λ b10 o11=>ldK b10 (Nat.add o11 7) s λ v12=>bnr (cl 166 [v4,v8,v12] s) λ v13 s14=>nx (λ e15 s16=>jn (λ e29 s30=>ko e29 0
  λ v31=>onp v31 λ b32 o33=>ldK b32 (Nat.add o33 2) s30 λ v34=>oni v34 λ n35=>frcI (wrapI (arI .add n35 (.ofNat 1))) λ n36=>onp v31 λ
  b37 o38=>bnr (stV b37 (Nat.add o38 2) (.i n36) s30) λ v39 s40=>nx (λ e41 s42=>ko e41 0 λ v43=>onp v43 λ b44 o45=>ldK b44 (Nat.add o45 2)
  s42 λ v46=>ko e41 1 λ v47=>onp v47 λ b48 o49=>ldK b48 (Nat.add (Nat.add o49 0) 0) s42 λ v50=>oni v46 λ n51=>oni v50 λ n52=>nx (λ
  e53 s54=>jn (idk) λ k55=>ko e53 40 λ v56=>cdK v56 (ko e53 0 λ v57=>bnr (cl 84 [v57,(.i (.ofNat 10))] s54) λ v58 s59=>nx (k55) e53 s59)
  (k55 e53 s54)) (kst e41 40 (.b (cmI .eq n51 n52))) s42) e29 s40) λ k17=>ko e15 16 λ v18=>cdK v18 (ko e15 0 λ v19=>onp v19 λ b20 o21=>ldK b20
  (Nat.add o21 10) s16 λ v22=>oni v22 λ n23=>frcI (wrapI (arI .add n23 (.ofNat 1))) λ n24=>onp v19 λ b25 o26=>bnr (stV b25 (Nat.add o26 10)
  (.i n24) s16) λ v27 s28=>nx (k17) e15 s28) (k17 e15 s16)) (kst env 16 v13) s14
theorem fe92 : rf92 = fastOf kf92 := by kernel_rfl
def rf93 : RFun := .mk 2 [] λ cl env s=>ko env 0 λ v1=>onp v1 λ b2 o3=>ldK b2 (Nat.add o3 1) s λ v4=>oni v4 λ n5=>nx (λ e6 s7=>jn (λ e25 s26=>ko e25 1 λ v27=>onp v27 λ
  b28 o29=>ldK b28 (Nat.add o29 11) s26 λ v30=>ko e25 0 λ v31=>onp v31 λ b32 o33=>ldK b32 (Nat.add o33 7) s26 λ v34=>bnr (cl 168 [v30,v34]
  s26) λ v35 s36=>onBx v35 λ c37=>nx (λ e38 s39=>jn (idk) λ k40=>ko e38 26 λ v41=>cdK v41 (ko e38 0 λ v42=>onp v42 λ b43 o44=>ldK
  b43 (Nat.add o44 9) s39 λ v45=>oni v45 λ n46=>frcI (wrapI (arI .add n46 (.ofNat 1))) λ n47=>onp v42 λ b48 o49=>bnr (stV b48 (Nat.add o49 9)
  (.i n47) s39) λ v50 s51=>nx (λ e52 s53=>ko e52 0 λ v54=>bnr (cl 84 [v54,(.i (.ofNat 0))] s53) λ v55 s56=>nx (k40) e52 s56) e38 s51) (k40 e38
  s39)) (kst e25 26 (.b (neg c37))) s36) λ k8=>ko e6 8 λ v9=>cdK v9 (ko e6 1 λ v10=>onp v10 λ b11 o12=>ldK b11 (Nat.add o12 11) s7 λ v13=>
  bnr (cl 167 [v13] s7) λ v14 s15=>nx (λ e16 s17=>ko e16 0 λ v18=>onp v18 λ b19 o20=>bnr (stV b19 (Nat.add o20 1) (.i (.ofNat 7)) s17) λ
  v21 s22=>nx (λ e23 s24=>.ok .r e23 s24) e16 s22) e6 s15) (k8 e6 s7)) (kst env 8 (.b (cmI .eq n5 (.ofNat 0)))) s
theorem fe93 : rf93 = fastOf kf93 := by kernel_rfl
def rf94 : RFun := .mk 1 [.t 2,.t 3] λ cl env s=>nx (λ e1 s2=>ko e1 0 λ v3=>onp v3 λ b4 o5=>ldK b4 (Nat.add o5 3) s2 λ v6=>oni v6 λ n7=>frcI (wrapI (arI .add n7 (.ofNat 1))) λ n8=>onp
  v3 λ b9 o10=>bnr (stV b9 (Nat.add o10 3) (.i n8) s2) λ v11 s12=>nx (λ e13 s14=>ko e13 0 λ v15=>onp v15 λ b16 o17=>ldK b16 (Nat.add o17
  0) s14 λ v18=>ko e13 0 λ v19=>onp v19 λ b20 o21=>ldK b20 (Nat.add o21 1) s14 λ v22=>nx (λ e23 s24=>.ok .r e23 s24) (kst (kst e13 2 v18)
  3 v22) s14) e1 s12) (kst (kst env 2 (.i (.ofNat 0))) 3 (.b false)) s
theorem fe94 : rf94 = fastOf kf94 := by kernel_rfl
def rf95 : RFun := .mk 1 [.t 2] λ cl env s=>nx (λ e1 s2=>ko e1 0 λ v3=>onp v3 λ b4 o5=>ldK b4 (Nat.add o5 1) s2 λ v6=>nx (λ e7 s8=>.ok .r e7 s8) (kst e1 2 v6) s2) (kst env 2 (.i
  (.ofNat 0))) s
theorem fe95 : rf95 = fastOf kf95 := by kernel_rfl
def rf96 : RFun := .mk 1 [.t 2] λ cl env s=>nx (λ e1 s2=>ko e1 0 λ v3=>onp v3 λ b4 o5=>ldK b4 (Nat.add o5 3) s2 λ v6=>nx (λ e7 s8=>.ok .r e7 s8) (kst e1 2 v6) s2) (kst env 2 (.i
  (.ofNat 0))) s
theorem fe96 : rf96 = fastOf kf96 := by kernel_rfl
def rf97 : RFun := .mk 1 [.t 2] λ cl env s=>nx (λ e1 s2=>ko e1 0 λ v3=>onp v3 λ b4 o5=>ldK b4 (Nat.add o5 0) s2 λ v6=>bnr (cl 70 [v6] s2) λ v7 s8=>nx (λ e9 s10=>.ok .r e9 s10)
  (kst e1 2 v7) s8) (kst env 2 (.i (.ofNat 0))) s
theorem fe97 : rf97 = fastOf kf97 := by kernel_rfl
def rf98 : RFun := .mk 1 [.t 2] λ cl env s=>ko env 0 λ v1=>bnr (boxV v1 s) λ v2 s3=>nx (λ e4 s5=>ko e4 1 λ v6=>onp v6 λ b7 o8=>ldK b7 (Nat.add o8 11) s5 λ v9=>bnr (cl 169 [v9]
  s5) λ v10 s11=>nx (λ e12 s13=>.ok .r e12 s13) (kst e4 2 v10) s11) (kst (kst env 1 v2) 2 (.i (.ofNat 0))) s3
theorem fe98 : rf98 = fastOf kf98 := by kernel_rfl
def rf115 : RFun := .mk 1 [.t 2] λ cl env s=>ko env 0 λ v1=>bnr (boxV v1 s) λ v2 s3=>nx (λ e4 s5=>ko e4 1 λ v6=>onp v6 λ b7 o8=>ldK b7 (Nat.add o8 0) s5 λ v9=>bnr (cl 187 [v9,
  (.i (.ofNat 4)),(.i (.ofNat 1024))] s5) λ v10 s11=>ko e4 1 λ v12=>onp v12 λ b13 o14=>ldK b13 (Nat.add o14 1) s5 λ v15=>bnr (cl 187 [v15,
  (.i (.ofNat 0)),(.i (.ofNat 2048))] s5) λ v16 s17=>ko e4 1 λ v18=>onp v18 λ b19 o20=>ldK b19 (Nat.add o20 2) s5 λ v21=>bnr (cl 187 [v21,
  (.i (.ofNat 0)),(.i (.ofNat 8))] s5) λ v22 s23=>ko e4 1 λ v24=>onp v24 λ b25 o26=>ldK b25 (Nat.add o26 3) s5 λ v27=>bnr (cl 187 [v27,(.i
  (.ofNat 1)),(.i (.ofNat 16))] s5) λ v28 s29=>ko e4 1 λ v30=>onp v30 λ b31 o32=>ldK b31 (Nat.add o32 4) s5 λ v33=>bnr (cl 187 [v33,(.i
  (.ofNat 1)),(.i (.ofNat 8))] s5) λ v34 s35=>ko e4 1 λ v36=>onp v36 λ b37 o38=>ldK b37 (Nat.add o38 5) s5 λ v39=>bnr (cl 187 [v39,(.i
  (.ofNat 0)),(.i (.ofNat 8))] s5) λ v40 s41=>ko e4 1 λ v42=>onp v42 λ b43 o44=>ldK b43 (Nat.add o44 6) s5 λ v45=>bnr (cl 187 [v45,(.i
  (.ofNat 1)),(.i (.ofNat 256))] s5) λ v46 s47=>ko e4 1 λ v48=>onp v48 λ b49 o50=>ldK b49 (Nat.add o50 7) s5 λ v51=>ko e4 1 λ v52=>onp v52
  λ b53 o54=>ldK b53 (Nat.add o54 0) s5 λ v55=>bnr (cl 187 [v51,(.i (.ofNat 0)),v55] s5) λ v56 s57=>bnr (oL (fill (.cons 0 1 (.c v10) (.cons 1
  1 (.c v16) (.cons 2 1 (.c v22) (.cons 3 1 (.c v28) (.cons 4 1 (.c v34) (.cons 5 1 (.c v40) (.cons 6 1 (.c v46) (.cons 7 1 (.c v56) .nil)))))))) (repL [.b
  false] 8) .nil) (bsl1 8 (lenL [.b false])) s5) λ v58 s59=>bnr (lenV v58 s59) λ v60 s61=>ifX (eqV (.i (.ofNat 0)) (.i (.ofNat 0))) (nx (λ e62 s63=>
  bkK (bindX (lpR (λ cl e64 s65=>ko e64 33 λ v66=>ko e64 32 λ v67=>oni v66 λ n68=>oni v67 λ n69=>nx (λ e70 s71=>jn (λ e74 s75=>bkK
  (ko e74 31 λ v76=>ko e74 33 λ v77=>onSlx v76 λ b78 o79 q80=>oni v77 λ n82=>onON (nat n82) λ i81=>ifX (Nat.blt i81 q80) (ldK b78 (Nat.add
  o79 (Nat.mul i81 1)) s75 λ v83=>nx (λ e84 s85=>ko e84 4 λ v86=>onBx v86 λ c87=>nx (λ e88 s89=>jn (idk) λ k90=>ko e88 38 λ v91=>cdK
  v91 (nx (λ e92 s93=>.ok .r e92 s93) (kst e88 2 (.i (.ofNat 1))) s89) (k90 e88 s89)) (kst e84 38 (.b (neg c87))) s85) (kst e74 4 v83) s75)) 1 (λ e94
  s95=>ko e94 33 λ v96=>oni v96 λ n97=>frcI (wrapI (arI .add n97 (.ofNat 1))) λ n98=>nx (idk) (kst e94 33 (.i n98)) s95)) λ k72=>ko e70 34
  λ v73=>cdK v73 (k72 e70 s71) (.ok (.x 0) e70 s71)) (kst e64 34 (.b (cmI .lt n68 n69))) s65) lpFuel cl e62 s63) (idk)) 0 (λ e99 s100=>ko e99 1 λ v101
 =>onp v101 λ b102 o103=>ldK b102 (Nat.add o103 3) s100 λ v104=>ko e99 1 λ v105=>onp v105 λ b106 o107=>ldK b106 (Nat.add o107 5) s100 λ
  v108=>oni v104 λ n109=>oni v108 λ n110=>frcI (wrapI (arI .mul n109 n110)) λ n111=>ko e99 1 λ v112=>onp v112 λ b113 o114=>ldK b113
  (Nat.add o114 0) s100 λ v115=>oni v115 λ n116=>nx (λ e117 s118=>jn (λ e123 s124=>ko e123 1 λ v125=>onp v125 λ b126 o127=>ldK b126
  (Nat.add o127 8) s124 λ v128=>bnr (lenV v128 s124) λ v129 s130=>bnr (cl 187 [v129,(.i (.ofNat 1)),(.i (.ofNat 8))] s130) λ v131 s132=>onBx
  v131 λ c133=>gdK (.b (neg c133)) false (λ k134=>ko e123 1 λ v137=>onp v137 λ b138 o139=>k134 (.p b138 (Nat.add o139 8)) s132) s132 λ v135
  s136=>gdK (.b (neg c133)) false (λ k140=>onp v135 λ b143 o144=>ldK b143 o144 s136 λ v145=>k140 v145 s136) s136 λ v141 s142=>gdK (.b (neg
  c133)) false (λ k146=>bnr (cl 188 [v141,(.fn 189 [] [])] s142) λ v149 s150=>k146 v149 s150) s142 λ v147 s148=>pkK (.b (neg c133)) (.ok (.b
  true)) (.ok v147) λ v151=>nx (λ e152 s153=>jn (λ e158 s159=>nx (λ e160 s161=>.ok .r e160 s161) (kst e158 2 (.i (.ofNat 0))) s159) λ k154=>
  ko e152 57 λ v155=>cdK v155 (nx (λ e156 s157=>.ok .r e156 s157) (kst e152 2 (.i (.ofNat 4))) s153) (k154 e152 s153)) (kst e123 57 v151) s148) λ
  k119=>ko e117 47 λ v120=>cdK v120 (nx (λ e121 s122=>.ok .r e121 s122) (kst e117 2 (.i (.ofNat 1))) s118) (k119 e117 s118)) (kst e99 47 (.b (cmI .gt
  n111 n116))) s100)) (kst (kst (kst e4 31 v58) 32 v60) 33 (.i (.ofNat 0))) s59)) (kst (kst env 1 v2) 2 (.i (.ofNat 0))) s3
theorem fe115 : rf115 = fastOf kf115 := by kernel_rfl
def rf116 : RFun := .mk 1 [.t 2,.t 3] λ cl env s=>nx (λ e1 s2=>ko e1 0 λ v3=>oni v3 λ n4=>gdK (.b (cmI .lt n4 (.ofNat 0))) false (λ k5=>ko e1 0 λ v8=>k5 v8 s2) s2 λ v6 s7=>gdK (.b (cmI
  .lt n4 (.ofNat 0))) false (λ k9=>oni v6 λ n12=>k9 (.b (cmI .gt n12 (.ofNat 1048576))) s7) s7 λ v10 s11=>pkK (.b (cmI .lt n4 (.ofNat 0))) (.ok (.b
  true)) (.ok v10) λ v13=>nx (λ e14 s15=>jn (λ e20 s21=>ko e20 0 λ v22=>bnr (eKp (.q (.mks [.z 0 0] 16 (.c v22) (.c v22))) .nil s21 cl) λ v23
  s24=>bnr (oL (fill (.cons 0 1 (.c v23) .nil) [.ns,.i (.ofNat 0)] .nil) okA s24) λ v25 s26=>bnr (boxV v25 s26) λ v27 s28=>nx (λ e29 s30=>.ok
  .r e29 s30) (kst (kst e20 2 v27) 3 (.i (.ofNat 0))) s28) λ k16=>ko e14 9 λ v17=>cdK v17 (nx (λ e18 s19=>.ok .r e18 s19) (kst (kst e14 2 (.np))
  3 (.i (.ofNat 1))) s15) (k16 e14 s15)) (kst e1 9 v13) s11) (kst (kst env 2 (.np)) 3 (.i (.ofNat 0))) s
theorem fe116 : rf116 = fastOf kf116 := by kernel_rfl
def rf117 : RFun := .mk 1 [.t 2] λ cl env s=>ko env 0 λ v1=>bnr (boxV v1 s) λ v2 s3=>nx (λ e4 s5=>nx (λ e6 s7=>ko e6 1 λ v8=>onp v8 λ b9 o10=>bnr (ldnP 9 b9 o10 s7) λ v11 s12
 =>bnr (cl 191 [v11] s12) λ v13 s14=>nx (λ e15 s16=>bkK (bindX (lpR (λ cl e17 s18=>ko e17 8 λ v19=>oni v19 λ n20=>nx (λ e21 s22=>jn
  (λ e25 s26=>bkK (ko e25 7 λ v27=>ko e25 8 λ v28=>bnr (eKp (.q (.ixa (.c v27) (.c v28) 4)) .nil s26 cl) λ v29 s30=>nx (λ e31 s32=>ko e31 3
  λ v33=>ko e31 5 λ v34=>oni v33 λ n35=>oni v34 λ n36=>frcI (wrapI (arI .add n35 n36)) λ n37=>nx (idk) (kst e31 3 (.i n37)) s32) (kst e25
  5 v29) s30) 1 (λ e38 s39=>ko e38 8 λ v40=>oni v40 λ n41=>frcI (wrapI (arI .add n41 (.ofNat 1))) λ n42=>nx (idk) (kst e38 8 (.i n42)) s39))
  λ k23=>ko e21 9 λ v24=>cdK v24 (k23 e21 s22) (.ok (.x 0) e21 s22)) (kst e17 9 (.b (cmI .lt n20 (.ofNat 4)))) s18) lpFuel cl e15 s16) (idk)) 0 (λ e43
  s44=>ko e43 3 λ v45=>nx (λ e46 s47=>.ok .r e46 s47) (kst e43 2 v45) s44)) (kst (kst e6 7 v13) 8 (.i (.ofNat 0))) s14) (kst e4 3 (.i (.ofNat 0)))
  s5) (kst (kst env 1 v2) 2 (.i (.ofNat 0))) s3
theorem fe117 : rf117 = fastOf kf117 := by kernel_rfl
def rf118 : RFun := .mk 2 [.t 4,.t 5] λ cl env s=>nx (λ e1 s2=>ko e1 0 λ v3=>bnr (cl 192 [v3] s2) λ v4 s5=>extK v4 0 λ v6=>extK v4 1 λ v7=>nx (λ e8 s9=>ko e8 7 λ v10=>oni v10 λ
  n11=>nx (λ e12 s13=>jn (λ e19 s20=>ko e19 1 λ v21=>bnr (cl 193 [v21] s20) λ v22 s23=>extK v22 0 λ v24=>extK v22 1 λ v25=>nx (λ
  e26 s27=>ko e26 7 λ v28=>oni v28 λ n29=>nx (λ e30 s31=>jn (λ e37 s38=>ko e37 6 λ v39=>bnr (oL (fill (.cons 0 1 (.c v39) .nil) [.np]
  .nil) okA s38) λ v40 s41=>ko e37 8 λ v42=>bnr (oL (fill (.cons 0 1 (.c v40) (.cons 1 1 (.c v42) .nil)) [.np,.np,.i (.ofNat 0)] .nil) okA s41) λ
  v43 s44=>bnr (boxV v43 s44) λ v45 s46=>nx (λ e47 s48=>.ok .r e47 s48) (kst (kst e37 4 v45) 5 (.i (.ofNat 0))) s46) λ k32=>ko e30 23 λ v33
 =>cdK v33 (ko e30 7 λ v34=>nx (λ e35 s36=>.ok .r e35 s36) (kst (kst e30 4 (.np)) 5 v34) s31) (k32 e30 s31)) (kst e26 23 (.b (cmI .ne n29 (.ofNat
  0)))) s27) (kst (kst e19 8 v24) 7 v25) s23) λ k14=>ko e12 15 λ v15=>cdK v15 (ko e12 7 λ v16=>nx (λ e17 s18=>.ok .r e17 s18) (kst (kst e12 4
  (.np)) 5 v16) s13) (k14 e12 s13)) (kst e8 15 (.b (cmI .ne n11 (.ofNat 0)))) s9) (kst (kst e1 6 v6) 7 v7) s5) (kst (kst env 4 (.np)) 5 (.i (.ofNat 0))) s
theorem fe118 : rf118 = fastOf kf118 := by kernel_rfl
def rf119 : RFun := .mk 2 [.t 4,.t 5] λ cl env s=>ko env 0 λ v1=>bnr (boxV v1 s) λ v2 s3=>nx (λ e4 s5=>ko e4 2 λ v6=>onp v6 λ b7 o8=>bnr (ldnP 9 b7 o8 s5) λ v9 s10=>bnr (cl 115
  [v9] s10) λ v11 s12=>nx (λ e13 s14=>ko e13 6 λ v15=>oni v15 λ n16=>nx (λ e17 s18=>jn (λ e24 s25=>ko e24 1 λ v26=>bnr (cl 194
  [v26] s25) λ v27 s28=>ko e24 2 λ v29=>onp v29 λ b30 o31=>ldK b30 (Nat.add o31 0) s25 λ v32=>oni v27 λ n33=>oni v32 λ n34=>nx (λ
  e35 s36=>jn (λ e41 s42=>ko e41 2 λ v43=>onp v43 λ b44 o45=>ldK b44 (Nat.add o45 0) s42 λ v46=>bnr (cl 195 [v46] s42) λ v47 s48=>extK
  v47 0 λ v49=>extK v47 1 λ v50=>nx (λ e51 s52=>ko e51 8 λ v53=>oni v53 λ n54=>nx (λ e55 s56=>jn (λ e62 s63=>ko e62 2 λ v64=>
  onp v64 λ b65 o66=>ldK b65 (Nat.add o66 1) s63 λ v67=>bnr (cl 196 [v67] s63) λ v68 s69=>extK v68 0 λ v70=>extK v68 1 λ v71=>nx (λ e72
  s73=>ko e72 8 λ v74=>oni v74 λ n75=>nx (λ e76 s77=>jn (λ e83 s84=>ko e83 1 λ v85=>ko e83 2 λ v86=>onp v86 λ b87 o88=>bnr
  (ldnP 9 b87 o88 s84) λ v89 s90=>bnr (cl 124 [v89] s90) λ v91 s92=>ko e83 7 λ v93=>ko e83 9 λ v94=>bnr (cl 197 [] s92) λ v95 s96=>bnr
  (oL (fill (.cons 0 9 (.c v91) (.cons 9 1 (.c v93) (.cons 10 1 (.c v94) (.cons 11 1 (.c v95) .nil)))) [.i (.ofNat 0),.i (.ofNat 0),.i (.ofNat 0),.i (.ofNat
  0),.i (.ofNat 0),.i (.ofNat 0),.i (.ofNat 0),.i (.ofNat 0),.ns,.np,.np,.np] .nil) okA s96) λ v97 s98=>bnr (oL (fill (.cons 0 1 (.c v85) (.cons 4
  12 (.c v97) .nil)) [.np,.ns,.b false,.i (.ofNat 0),.i (.ofNat 0),.i (.ofNat 0),.i (.ofNat 0),.i (.ofNat 0),.i (.ofNat 0),.i (.ofNat 0),.i (.ofNat 0),
  .i (.ofNat 0),.ns,.np,.np,.np] .nil) okA s98) λ v99 s100=>bnr (boxV v99 s100) λ v101 s102=>nx (λ e103 s104=>ko e103 2 λ v105=>onp v105
  λ b106 o107=>ldK b106 (Nat.add o107 3) s104 λ v108=>nx (λ e109 s110=>bkK (bindX (lpR (λ cl e111 s112=>ko e111 52 λ v113=>ko e111 51 λ
  v114=>oni v113 λ n115=>oni v114 λ n116=>nx (λ e117 s118=>jn (λ e121 s122=>bkK (ko e121 2 λ v123=>onp v123 λ b124 o125=>ldK b124
  (Nat.add o125 5) s122 λ v126=>bnr (cl 198 [v126] s122) λ v127 s128=>extK v127 0 λ v129=>extK v127 1 λ v130=>nx (λ e131 s132=>ko e131 12
  λ v133=>oni v133 λ n134=>nx (λ e135 s136=>jn (λ e142 s143=>ko e142 10 λ v144=>ko e142 10 λ v145=>onp v145 λ b146 o147=>ldK b146
  (Nat.add o147 1) s143 λ v148=>ko e142 11 λ v149=>bnr (oL (fill (.cons 0 1 (.c v149) .nil) (repL [.np] 1) .nil) (bsl1 1 (lenL [.np])) s143) λ v150
  s151=>bnr (ap0 1 8 (.ok v150) v148 s151) λ v152 s153=>onp v144 λ b154 o155=>bnr (stV b154 (Nat.add o155 1) v152 s153) λ v156 s157=>nx (idk)
  e142 s157) λ k137=>ko e135 61 λ v138=>cdK v138 (ko e135 12 λ v139=>nx (λ e140 s141=>.ok .r e140 s141) (kst (kst e135 4 (.np)) 5 v139) s136)
  (k137 e135 s136)) (kst e131 61 (.b (cmI .ne n134 (.ofNat 0)))) s132) (kst (kst e121 11 v129) 12 v130) s128) 1 (λ e158 s159=>ko e158 52 λ v160=>oni
  v160 λ n161=>frcI (wrapI (arI .add n161 (.ofNat 1))) λ n162=>nx (idk) (kst e158 52 (.i n162)) s159)) λ k119=>ko e117 53 λ v120=>cdK v120 (k119
  e117 s118) (.ok (.x 0) e117 s118)) (kst e111 53 (.b (cmI .lt n115 n116))) s112) lpFuel cl e109 s110) (idk)) 0 (λ e163 s164=>ko e163 10 λ v165=>nx (λ
  e166 s167=>.ok .r e166 s167) (kst (kst e163 4 v165) 5 (.i (.ofNat 0))) s164)) (kst (kst e103 51 v108) 52 (.i (.ofNat 0))) s104) (kst e83 10 v101) s102)
  λ k78=>ko e76 39 λ v79=>cdK v79 (ko e76 8 λ v80=>nx (λ e81 s82=>.ok .r e81 s82) (kst (kst e76 4 (.np)) 5 v80) s77) (k78 e76 s77)) (kst e72
  39 (.b (cmI .ne n75 (.ofNat 0)))) s73) (kst (kst e62 9 v70) 8 v71) s69) λ k57=>ko e55 30 λ v58=>cdK v58 (ko e55 8 λ v59=>nx (λ e60 s61=>.ok
  .r e60 s61) (kst (kst e55 4 (.np)) 5 v59) s56) (k57 e55 s56)) (kst e51 30 (.b (cmI .ne n54 (.ofNat 0)))) s52) (kst (kst e41 7 v49) 8 v50) s48) λ k37=>
  ko e35 22 λ v38=>cdK v38 (nx (λ e39 s40=>.ok .r e39 s40) (kst (kst e35 4 (.np)) 5 (.i (.ofNat 1))) s36) (k37 e35 s36)) (kst e24 22 (.b (cmI .ne n33
  n34))) s25) λ k19=>ko e17 16 λ v20=>cdK v20 (ko e17 6 λ v21=>nx (λ e22 s23=>.ok .r e22 s23) (kst (kst e17 4 (.np)) 5 v21) s18) (k19 e17 s18))
  (kst e13 16 (.b (cmI .ne n16 (.ofNat 0)))) s14) (kst e4 6 v11) s12) (kst (kst (kst env 2 v2) 4 (.np)) 5 (.i (.ofNat 0))) s3
theorem fe119 : rf119 = fastOf kf119 := by kernel_rfl
def rf120 : RFun := .mk 1 [.t 2,.t 3] λ cl env s=>nx (λ e1 s2=>ko e1 0 λ v3=>oni v3 λ n4=>gdK (.b (cmI .lt n4 (.ofNat 1))) false (λ k5=>ko e1 0 λ v8=>k5 v8 s2) s2 λ v6 s7=>gdK (.b (cmI
  .lt n4 (.ofNat 1))) false (λ k9=>oni v6 λ n12=>k9 (.b (cmI .gt n12 (.ofNat 16))) s7) s7 λ v10 s11=>pkK (.b (cmI .lt n4 (.ofNat 1))) (.ok (.b
  true)) (.ok v10) λ v13=>nx (λ e14 s15=>jn (λ e20 s21=>ko e20 0 λ v22=>bnr (eKp (.q (.mks [.i (.ofNat 0)] 8 (.c v22) (.c v22))) .nil s21 cl)
  λ v23 s24=>bnr (oL (fill (.cons 2 1 (.c v23) .nil) [.i (.ofNat 0),.b false,.ns,.i (.ofNat 0)] .nil) okA s24) λ v25 s26=>bnr (boxV v25 s26) λ
  v27 s28=>nx (λ e29 s30=>ko e29 4 λ v31=>onp v31 λ b32 o33=>ldK b32 (Nat.add o33 2) s30 λ v34=>bnr (lenV v34 s30) λ v35 s36=>nx (λ
  e37 s38=>bkK (bindX (lpR (λ cl e39 s40=>ko e39 21 λ v41=>ko e39 20 λ v42=>oni v41 λ n43=>oni v42 λ n44=>nx (λ e45 s46=>jn (λ e49
  s50=>bkK (ko e49 21 λ v51=>nx (λ e52 s53=>ko e52 4 λ v54=>onp v54 λ b55 o56=>ldK b55 (Nat.add o56 2) s53 λ v57=>ko e52 5 λ v58=>
  onSlx v57 λ b59 o60 q61=>oni v58 λ n63=>onON (nat n63) λ i62=>ifX (Nat.blt i62 q61) (bnr (stV b59 (Nat.add o60 (Nat.mul i62 1)) (.i (.negSucc
  0)) s53) λ v64 s65=>nx (idk) e52 s65)) (kst e49 5 v51) s50) 1 (λ e66 s67=>ko e66 21 λ v68=>oni v68 λ n69=>frcI (wrapI (arI .add n69 (.ofNat
  1))) λ n70=>nx (idk) (kst e66 21 (.i n70)) s67)) λ k47=>ko e45 22 λ v48=>cdK v48 (k47 e45 s46) (.ok (.x 0) e45 s46)) (kst e39 22 (.b (cmI .lt n43
  n44))) s40) lpFuel cl e37 s38) (idk)) 0 (λ e71 s72=>ko e71 4 λ v73=>nx (λ e74 s75=>.ok .r e74 s75) (kst (kst e71 2 v73) 3 (.i (.ofNat 0))) s72))
  (kst (kst e29 20 v35) 21 (.i (.ofNat 0))) s36) (kst e20 4 v27) s28) λ k16=>ko e14 11 λ v17=>cdK v17 (nx (λ e18 s19=>.ok .r e18 s19) (kst (kst
  e14 2 (.np)) 3 (.i (.ofNat 1))) s15) (k16 e14 s15)) (kst e1 11 v13) s11) (kst (kst env 2 (.np)) 3 (.i (.ofNat 0))) s
theorem fe120 : rf120 = fastOf kf120 := by kernel_rfl
def rf121 : RFun := .mk 2 [.t 4,.t 5] λ cl env s=>ko env 0 λ v1=>bnr (boxV v1 s) λ v2 s3=>nx (λ e4 s5=>ko e4 2 λ v6=>onp v6 λ b7 o8=>bnr (ldnP 9 b7 o8 s5) λ v9 s10=>ko e4 1 λ v11
 =>bnr (cl 199 [v9,(.i (.ofNat 4)),v11] s10) λ v12 s13=>extK v12 0 λ v14=>extK v12 1 λ v15=>nx (λ e16 s17=>.ok .r e16 s17) (kst (kst e4 4
  v14) 5 v15) s13) (kst (kst (kst env 2 v2) 4 (.i (.ofNat 0))) 5 (.i (.ofNat 0))) s3
theorem fe121 : rf121 = fastOf kf121 := by kernel_rfl
def rf122 : RFun := .mk 3 [] λ cl env s=>ko env 0 λ v1=>ko env 1 λ v2=>bnr (cl 200 [v1,v2] s) λ v3 s4=>nx (λ e5 s6=>jn (idk) λ k7=>ko e5 8 λ v8=>cdK v8 (ko e5 0 λ v9=>onp
  v9 λ b10 o11=>ldK b10 (Nat.add o11 0) s6 λ v12=>ko e5 1 λ v13=>ko e5 2 λ v14=>onSlx v12 λ b15 o16 q17=>oni v13 λ n19=>onON (nat n19)
  λ i18=>ifX (Nat.blt i18 q17) (bnr (stV b15 (Nat.add o16 (Nat.mul i18 1)) v14 s6) λ v20 s21=>nx (k7) e5 s21)) (k7 e5 s6)) (kst env 8 v3) s4
theorem fe122 : rf122 = fastOf kf122 := by kernel_rfl
def rf123 : RFun := .mk 0 [.t 0] λ cl env s=>nx (λ e1 s2=>nx (λ e3 s4=>.ok .r e3 s4) (kst e1 0 (.z 0 4607182418800017408)) s2) (kst env 0 (.z 0 0)) s
theorem fe123 : rf123 = fastOf kf123 := by kernel_rfl
def rf124 : RFun := .mk 1 [.cn 2 9] λ cl env s=>ko env 0 λ v1=>bnr (boxV v1 s) λ v2 s3=>bnr (eNew [.i (.ofNat 0),.i (.ofNat 0),.i (.ofNat 0),.i (.ofNat 0),.i (.ofNat 0),.i (.ofNat 0),.i
  (.ofNat 0),.i (.ofNat 0),.ns] .nil s3 cl) λ v4 s5=>nx (λ e6 s7=>nx (λ e8 s9=>ko e8 1 λ v10=>onp v10 λ b11 o12=>ldK b11 (Nat.add o12 8)
  s9 λ v13=>bnr (lenV v13 s9) λ v14 s15=>nx (λ e16 s17=>bkK (bindX (lpR (λ cl e18 s19=>ko e18 9 λ v20=>ko e18 8 λ v21=>oni v20 λ n22
 =>oni v21 λ n23=>nx (λ e24 s25=>jn (λ e28 s29=>bkK (ko e28 7 λ v30=>ko e28 9 λ v31=>onSlx v30 λ b32 o33 q34=>oni v31 λ n36=>onON
  (nat n36) λ i35=>ifX (Nat.blt i35 q34) (bnr (ldnP 2 b32 (Nat.add o33 (Nat.mul i35 2)) s29) λ v37 s38=>bnr (eNew [.b false,.ns] .nil s38 cl) λ
  v39 s40=>onp v39 λ b41 o42=>onAx v37 λ l43=>bnr (stnA 2 b41 o42 l43 s40) λ v44 s45=>nx (λ e46 s47=>ko e46 3 λ v48=>ko e46 5 λ v49=>
  onp v49 λ b50 o51=>bnr (ldnP 2 b50 o51 s47) λ v52 s53=>bnr (cl 201 [v52] s53) λ v54 s55=>bnr (oL (fill (.cons 0 2 (.c v54) .nil) (repL [.b
  false,.ns] 1) .nil) (bsl1 1 (lenL [.b false,.ns])) s55) λ v56 s57=>bnr (ap0 2 32 (.ok v56) v48 s57) λ v58 s59=>nx (idk) (kst e46 3 v58) s59) (kst
  e28 5 v39) s45)) 1 (λ e60 s61=>ko e60 9 λ v62=>oni v62 λ n63=>frcI (wrapI (arI .add n63 (.ofNat 1))) λ n64=>nx (idk) (kst e60 9 (.i n64))
  s61)) λ k26=>ko e24 10 λ v27=>cdK v27 (k26 e24 s25) (.ok (.x 0) e24 s25)) (kst e18 10 (.b (cmI .lt n22 n23))) s19) lpFuel cl e16 s17) (idk)) 0 (λ
  e65 s66=>ko e65 3 λ v67=>ko e65 1 λ v68=>onp v68 λ b69 o70=>bnr (stV b69 (Nat.add o70 8) v67 s66) λ v71 s72=>nx (λ e73 s74=>ko e73 1
  λ v75=>onp v75 λ b76 o77=>bnr (ldnP 9 b76 o77 s74) λ v78 s79=>ko e73 2 λ v80=>onp v80 λ b81 o82=>onAx v78 λ l83=>bnr (stnA 9 b81
  o82 l83 s79) λ v84 s85=>nx (λ e86 s87=>.ok .r e86 s87) e73 s85) e65 s72)) (kst (kst (kst e8 7 v13) 8 v14) 9 (.i (.ofNat 0))) s15) (kst e6 3 (.ns))
  s7) (kst (kst env 1 v2) 2 v4) s5
theorem fe124 : rf124 = fastOf kf124 := by kernel_rfl
def rf125 : RFun := .mk 1 [.t 2] λ cl env s=>nx (λ e1 s2=>ko e1 0 λ v3=>bnr (nilsV true v3 s2) λ v4 s5=>nx (λ e6 s7=>jn (λ e12 s13=>bnr (oL (fill .nil (repL [.i (.ofNat 0),.i
  (.ofNat 0),.i (.ofNat 0),.i (.ofNat 0),.i (.ofNat 0),.z 0 0] 0) .nil) (bsl1 0 (lenL [.i (.ofNat 0),.i (.ofNat 0),.i (.ofNat 0),.i (.ofNat 0),.i (.ofNat
  0),.z 0 0])) s13) λ v14 s15=>ko e12 0 λ v16=>bnr (ap0 6 56 (.ok v16) v14 s15) λ v17 s18=>nx (λ e19 s20=>.ok .r e19 s20) (kst e12 2 v17)
  s18) λ k8=>ko e6 4 λ v9=>cdK v9 (nx (λ e10 s11=>.ok .r e10 s11) (kst e6 2 (.ns)) s7) (k8 e6 s7)) (kst e1 4 v4) s5) (kst env 2 (.ns)) s
theorem fe125 : rf125 = fastOf kf125 := by kernel_rfl
def rf126 : RFun := .mk 1 [.t 2] λ cl env s=>nx (λ e1 s2=>ko e1 0 λ v3=>onp v3 λ b4 o5=>ldK b4 (Nat.add o5 1) s2 λ v6=>nx (λ e7 s8=>.ok .r e7 s8) (kst e1 2 v6) s2) (kst env 2 (.i
  (.ofNat 0))) s
theorem fe126 : rf126 = fastOf kf126 := by kernel_rfl
def rf127 : RFun := .mk 1 [.t 2] λ cl env s=>nx (λ e1 s2=>ko e1 0 λ v3=>onp v3 λ b4 o5=>ldK b4 (Nat.add o5 2) s2 λ v6=>nx (λ e7 s8=>.ok .r e7 s8) (kst e1 2 v6) s2) (kst env 2 (.i
  (.ofNat 0))) s
theorem fe127 : rf127 = fastOf kf127 := by kernel_rfl
def rf128 : RFun := .mk 1 [.t 2] λ cl env s=>nx (λ e1 s2=>ko e1 0 λ v3=>onp v3 λ b4 o5=>ldK b4 (Nat.add o5 3) s2 λ v6=>nx (λ e7 s8=>.ok .r e7 s8) (kst e1 2 v6) s2) (kst env 2 (.i
  (.ofNat 0))) s
theorem fe128 : rf128 = fastOf kf128 := by kernel_rfl
def rf129 : RFun := .mk 1 [.t 2] λ cl env s=>nx (λ e1 s2=>ko e1 0 λ v3=>onp v3 λ b4 o5=>ldK b4 (Nat.add o5 3) s2 λ v6=>nx (λ e7 s8=>.ok .r e7 s8) (kst e1 2 v6) s2) (kst env 2 (.i
  (.ofNat 0))) s
theorem fe129 : rf129 = fastOf kf129 := by kernel_rfl
def rf130 : RFun := .mk 2 [.t 4] λ cl env s=>nx (λ e1 s2=>ko e1 1 λ v3=>onp v3 λ b4 o5=>ldK b4 (Nat.add o5 12) s2 λ v6=>bnr (cl 94 [v6] s2) λ v7 s8=>extK v7 0 λ v9=>extK v7 1 λ
  v10=>nx (λ e11 s12=>ko e11 5 λ v13=>ko e11 0 λ v14=>onp v14 λ b15 o16=>ldK b15 (Nat.add o16 4) s12 λ v17=>oni v13 λ n18=>oni v17
  λ n19=>nx (λ e20 s21=>jn (λ e26 s27=>ko e26 0 λ v28=>ko e26 0 λ v29=>ko e26 0 λ v30=>ko e26 5 λ v31=>onp v28 λ b32 o33=>bnr
  (stV b32 (Nat.add o33 8) v31 s27) λ v34 s35=>onp v29 λ b36 o37=>bnr (stV b36 (Nat.add o37 9) (.ns) s35) λ v38 s39=>onp v30 λ b40 o41=>bnr
  (stV b40 (Nat.add o41 7) (.i (.ofNat 2)) s39) λ v42 s43=>nx (λ e44 s45=>ko e44 5 λ v46=>nx (λ e47 s48=>bkK (ko e47 35 λ v49=>oni v49 λ
  n50=>nx (λ e51 s52=>jn (idk) λ k53=>ko e51 36 λ v54=>cdK v54 (ko e51 0 λ v55=>ko e51 6 λ v56=>onp v55 λ b57 o58=>bnr (stV b57
  (Nat.add o58 5) v56 s52) λ v59 s60=>nx (k53) e51 s60) (ko e51 35 λ v61=>oni v61 λ n62=>nx (λ e63 s64=>jn (k53) λ k65=>ko e63 42 λ v66=>
  cdK v66 (ko e63 0 λ v67=>onp v67 λ b68 o69=>ldK b68 (Nat.add o69 2) s64 λ v70=>bnr (lenV v70 s64) λ v71 s72=>nx (λ e73 s74=>bkK (bindX
  (lpR (λ cl e75 s76=>ko e75 49 λ v77=>ko e75 48 λ v78=>oni v77 λ n79=>oni v78 λ n80=>nx (λ e81 s82=>jn (λ e85 s86=>bkK (ko e85 47
  λ v87=>ko e85 49 λ v88=>onSlx v87 λ b89 o90 q91=>oni v88 λ n93=>onON (nat n93) λ i92=>ifX (Nat.blt i92 q91) (bnr (ldnP 2 b89 (Nat.add
  o90 (Nat.mul i92 2)) s86) λ v94 s95=>bnr (eNew [.b false,.z 0 0] .nil s95 cl) λ v96 s97=>onp v96 λ b98 o99=>onAx v94 λ l100=>bnr (stnA 2
  b98 o99 l100 s97) λ v101 s102=>nx (λ e103 s104=>ko e103 8 λ v105=>onp v105 λ b106 o107=>ldK b106 (Nat.add o107 1) s104 λ v108=>bnr (cl
  150 [v108] s104) λ v109 s110=>extK v109 0 λ v111=>extK v109 1 λ v112=>nx (λ e113 s114=>ko e113 8 λ v115=>onp v115 λ b116 o117=>ldK
  b116 (Nat.add o117 0) s114 λ v118=>gdK v118 true (λ k119=>ko e113 10 λ v122=>k119 v122 s114) s114 λ v120 s121=>pkK v118 (.ok v120) (.ok (.b
  false)) λ v123=>nx (λ e124 s125=>jn (idk) λ k126=>ko e124 63 λ v127=>cdK v127 (ko e124 0 λ v128=>ko e124 0 λ v129=>onp v129 λ b130
  o131=>ldK b130 (Nat.add o131 9) s125 λ v132=>ko e124 9 λ v133=>bnr (oL (fill (.cons 0 1 (.c v133) .nil) (repL [.i (.ofNat 0)] 1) .nil) (bsl1 1
  (lenL [.i (.ofNat 0)])) s125) λ v134 s135=>bnr (ap0 1 8 (.ok v134) v132 s135) λ v136 s137=>onp v128 λ b138 o139=>bnr (stV b138 (Nat.add o139
  9) v136 s137) λ v140 s141=>nx (λ e142 s143=>ko e142 0 λ v144=>onp v144 λ b145 o146=>bnr (stV b145 (Nat.add o146 7) (.i (.ofNat 1)) s143) λ
  v147 s148=>nx (k126) e142 s148) e124 s141) (k126 e124 s125)) (kst e113 63 v123) s121) (kst (kst e103 9 v111) 10 v112) s110) (kst e85 8 v96) s102)) 2 (λ
  e149 s150=>ko e149 49 λ v151=>oni v151 λ n152=>frcI (wrapI (arI .add n152 (.ofNat 1))) λ n153=>nx (idk) (kst e149 49 (.i n153)) s150)) λ k83
 =>ko e81 50 λ v84=>cdK v84 (k83 e81 s82) (.ok (.x 1) e81 s82)) (kst e75 50 (.b (cmI .lt n79 n80))) s76) lpFuel cl e73 s74) (idk)) 1 (k65)) (kst (kst
  (kst e63 47 v70) 48 v71) 49 (.i (.ofNat 0))) s72) (k65 e63 s64)) (kst e51 42 (.b (cmI .eq n62 (.ofNat 3)))) s52)) (kst e47 36 (.b (cmI .eq n50 (.ofNat 1))))
  s48) 0 (λ e154 s155=>nx (λ e156 s157=>.ok .r e156 s157) (kst e154 4 (.b false)) s155)) (kst e44 35 v46) s45) e26 s43) λ k22=>ko e20 24 λ v23=>
  cdK v23 (nx (λ e24 s25=>.ok .r e24 s25) (kst e20 4 (.b true)) s21) (k22 e20 s21)) (kst e11 24 (.b (cmI .eq n18 n19))) s12) (kst (kst e1 5 v9) 6 v10)
  s8) (kst env 4 (.b false)) s
theorem fe130 : rf130 = fastOf kf130 := by kernel_rfl
def rf131 : RFun := .mk 2 [.t 4] λ cl env s=>nx (λ e1 s2=>ko e1 0 λ v3=>onp v3 λ b4 o5=>ldK b4 (Nat.add o5 7) s2 λ v6=>oni v6 λ n7=>nx (λ e8 s9=>jn (λ e66 s67=>ko e66 1 λ v68
 =>onp v68 λ b69 o70=>ldK b69 (Nat.add o70 12) s67 λ v71=>ko e66 0 λ v72=>onp v72 λ b73 o74=>ldK b73 (Nat.add o74 0) s67 λ v75=>ko e66 0
  λ v76=>onp v76 λ b77 o78=>ldK b77 (Nat.add o78 8) s67 λ v79=>bnr (cl 202 [v71,v75,v79] s67) λ v80 s81=>nx (λ e82 s83=>ko e82 0 λ v84
 =>ko e82 0 λ v85=>onp v85 λ b86 o87=>ldK b86 (Nat.add o87 8) s83 λ v88=>onp v84 λ b89 o90=>bnr (stV b89 (Nat.add o90 4) v88 s83) λ v91
  s92=>nx (λ e93 s94=>nx (λ e95 s96=>.ok .r e95 s96) (kst e93 4 (.b true)) s94) e82 s92) e66 s81) λ k10=>ko e8 9 λ v11=>cdK v11 (ko e8 1 λ
  v12=>onp v12 λ b13 o14=>ldK b13 (Nat.add o14 10) s9 λ v15=>ko e8 0 λ v16=>onp v16 λ b17 o18=>ldK b17 (Nat.add o18 9) s9 λ v19=>onSlx
  v19 λ b20 o21 q22=>onON (nat (.ofNat 0)) λ i23=>ifX (Nat.blt i23 q22) (ldK b20 (Nat.add o21 (Nat.mul i23 1)) s9 λ v24=>ko e8 0 λ v25=>onp v25
  λ b26 o27=>ldK b26 (Nat.add o27 5) s9 λ v28=>bnr (cl 148 [v15,v24,v28] s9) λ v29 s30=>nx (λ e31 s32=>ko e31 0 λ v33=>ko e31 0 λ v34
 =>onp v34 λ b35 o36=>ldK b35 (Nat.add o36 9) s32 λ v37=>bnr (eKp (.q (.sli (.c v37) 1 (.ok (.c (.i (.ofNat 1)))) .no)) .nil s32 cl) λ v38 s39=>
  onp v33 λ b40 o41=>bnr (stV b40 (Nat.add o41 9) v38 s39) λ v42 s43=>nx (λ e44 s45=>ko e44 0 λ v46=>onp v46 λ b47 o48=>ldK b47 (Nat.add
  o48 9) s45 λ v49=>bnr (lenV v49 s45) λ v50 s51=>oni v50 λ n52=>nx (λ e53 s54=>jn (λ e62 s63=>nx (λ e64 s65=>.ok .r e64 s65) (kst
  e62 4 (.b false)) s63) λ k55=>ko e53 38 λ v56=>cdK v56 (ko e53 0 λ v57=>onp v57 λ b58 o59=>bnr (stV b58 (Nat.add o59 7) (.i (.ofNat 2)) s54)
  λ v60 s61=>nx (k55) e53 s61) (k55 e53 s54)) (kst e44 38 (.b (cmI .eq n52 (.ofNat 0)))) s51) e31 s43) e8 s30)) (k10 e8 s9)) (kst e1 9 (.b (cmI .eq n7
  (.ofNat 1)))) s2) (kst env 4 (.b false)) s
theorem fe131 : rf131 = fastOf kf131 := by kernel_rfl
def rf134 : RFun := .mk 3 [.cn 6 5,.t 7] λ cl env s=>ko env 2 λ v1=>bnr (boxV v1 s) λ v2 s3=>bnr (eNew [.i (.ofNat 0),.i (.ofNat 0),.i (.ofNat 0),.b false,.z 0 0] .nil s3 cl) λ v4 s5=>nx (λ e6
  s7=>ko e6 1 λ v8=>onp v8 λ b9 o10=>bnr (ldnP 9 b9 (Nat.add o10 0) s7) λ v11 s12=>ko e6 5 λ v13=>onp v13 λ b14 o15=>bnr (ldnP 6 b14
  o15 s7) λ v16 s17=>bnr (cl 207 [v11,v16] s7) λ v18 s19=>nx (λ e20 s21=>ko e20 8 λ v22=>oni v22 λ n23=>nx (λ e24 s25=>jn (λ e36
  s37=>ko e36 8 λ v38=>oni v38 λ n39=>nx (λ e40 s41=>jn (λ e58 s59=>ko e58 0 λ v60=>ko e58 5 λ v61=>onp v61 λ b62 o63=>bnr
  (ldnP 6 b62 o63 s59) λ v64 s65=>bnr (cl 209 [v60,v64] s65) λ v66 s67=>extK v66 0 λ v68=>extK v66 1 λ v69=>bnr (eNew [.b false,.z 0 0]
  .nil s67 cl) λ v70 s71=>onp v70 λ b72 o73=>onAx v68 λ l74=>bnr (stnA 2 b72 o73 l74 s71) λ v75 s76=>nx (λ e77 s78=>ko e77 10 λ v79=>
  nx (λ e80 s81=>jn (λ e106 s107=>ko e106 5 λ v108=>onp v108 λ b109 o110=>ldK b109 (Nat.add o110 0) s107 λ v111=>nx (λ e112 s113=>bkK
  (ko e112 44 λ v114=>oni v114 λ n115=>nx (λ e116 s117=>jn (λ e122 s123=>jn (idk) λ k124=>ko e122 45 λ v125=>cdK v125 (ko e122 0 λ
  v126=>ko e122 1 λ v127=>ko e122 5 λ v128=>onp v128 λ b129 o130=>bnr (ldnP 6 b129 o130 s123) λ v131 s132=>bnr (cl 211 [v126,v127,v131]
  s132) λ v133 s134=>extK v133 0 λ v135=>extK v133 1 λ v136=>ko e122 6 λ v137=>onp v137 λ b138 o139=>onAx v135 λ l140=>bnr (stnA 5
  b138 o139 l140 s134) λ v141 s142=>nx (λ e143 s144=>.ok .r e143 s144) (kst e122 7 v136) s142) (ko e122 44 λ v145=>oni v145 λ n146=>nx (λ
  e147 s148=>jn (λ e165 s166=>jn (k124) λ k167=>ko e165 54 λ v168=>cdK v168 (ko e165 0 λ v169=>ko e165 1 λ v170=>ko e165 5 λ v171=>onp
  v171 λ b172 o173=>bnr (ldnP 6 b172 o173 s166) λ v174 s175=>ko e165 0 λ v176=>bnr (cl 212 [v170,v174,(.fn 213 [v176] [])] s175) λ v177 s178
 =>onp v169 λ b179 o180=>bnr (stV b179 (Nat.add (Nat.add o180 10) 2) v177 s178) λ v181 s182=>nx (λ e183 s184=>ko e183 0 λ v185=>ko e183 1
  λ v186=>ko e183 5 λ v187=>onp v187 λ b188 o189=>bnr (ldnP 6 b188 o189 s184) λ v190 s191=>bnr (cl 135 [v185,v186,v190] s191) λ v192
  s193=>extK v192 0 λ v194=>extK v192 1 λ v195=>ko e183 6 λ v196=>onp v196 λ b197 o198=>onAx v194 λ l199=>bnr (stnA 5 b197 o198 l199
  s193) λ v200 s201=>nx (λ e202 s203=>.ok .r e202 s203) (kst e183 7 v195) s201) e165 s182) (ko e165 44 λ v204=>oni v204 λ n205=>nx (λ e206
  s207=>jn (λ e212 s213=>jn (k167) λ k214=>ko e212 74 λ v215=>cdK v215 (ko e212 0 λ v216=>ko e212 1 λ v217=>onp v217 λ b218 o219=>
  bnr (ldnP 9 b218 (Nat.add o219 0) s213) λ v220 s221=>ko e212 5 λ v222=>onp v222 λ b223 o224=>ldK b223 (Nat.add o224 4) s213 λ v225=>bnr
  (cl 121 [v220,v225] s213) λ v226 s227=>ko e212 0 λ v228=>ifX (eqV v216 v228) (extK v226 0 λ v229=>extK v226 1 λ v230=>onp v228 λ b231 o232
 =>bnr (stV b231 (Nat.add (Nat.add o232 10) 3) v229 s227) λ v233 s234=>extK v226 1 λ v235=>ifX (eqV v230 v235) (nx (λ e236 s237=>ko e236 0 λ
  v238=>onp v238 λ b239 o240=>bnr (stV b239 (Nat.add (Nat.add o240 10) 4) (.b true) s237) λ v241 s242=>nx (λ e243 s244=>ko e243 5 λ v245=>
  onp v245 λ b246 o247=>ldK b246 (Nat.add o247 0) s244 λ v248=>oni v248 λ n249=>nx (λ e250 s251=>jn (λ e273 s274=>ko e273 0 λ v275=>ko
  e273 5 λ v276=>onp v276 λ b277 o278=>bnr (ldnP 6 b277 o278 s274) λ v279 s280=>bnr (cl 214 [v275,v279] s280) λ v281 s282=>nx (λ e283
  s284=>ko e283 0 λ v285=>ko e283 1 λ v286=>bnr (cl 141 [v285,v286] s284) λ v287 s288=>extK v287 0 λ v289=>extK v287 1 λ v290=>ko e283 6
  λ v291=>onp v291 λ b292 o293=>onAx v289 λ l294=>bnr (stnA 5 b292 o293 l294 s288) λ v295 s296=>nx (λ e297 s298=>.ok .r e297 s298) (kst
  e283 7 v290) s296) e273 s282) λ k252=>ko e250 97 λ v253=>cdK v253 (ko e250 0 λ v254=>ko e250 1 λ v255=>ko e250 5 λ v256=>onp v256 λ b257
  o258=>bnr (ldnP 6 b257 o258 s251) λ v259 s260=>bnr (cl 136 [v254,v255,v259] s260) λ v261 s262=>extK v261 0 λ v263=>extK v261 1 λ v264=>
  ko e250 6 λ v265=>onp v265 λ b266 o267=>onAx v263 λ l268=>bnr (stnA 5 b266 o267 l268 s262) λ v269 s270=>nx (λ e271 s272=>.ok .r e271
  s272) (kst e250 7 v264) s270) (k252 e250 s251)) (kst e243 97 (.b (cmI .eq n249 (.ofNat 7)))) s244) e236 s242) e212 s234))) (ko e212 44 λ v299=>oni v299
  λ n300=>nx (λ e301 s302=>jn (λ e307 s308=>jn (k214) λ k309=>ko e307 112 λ v310=>cdK v310 (ko e307 0 λ v311=>ko e307 1 λ v312=>ko
  e307 5 λ v313=>onp v313 λ b314 o315=>bnr (ldnP 6 b314 o315 s308) λ v316 s317=>bnr (cl 215 [v311,v312,v316] s317) λ v318 s319=>extK v318
  0 λ v320=>extK v318 1 λ v321=>ko e307 6 λ v322=>onp v322 λ b323 o324=>onAx v320 λ l325=>bnr (stnA 5 b323 o324 l325 s319) λ v326 s327
 =>nx (λ e328 s329=>.ok .r e328 s329) (kst e307 7 v321) s327) (ko e307 44 λ v330=>oni v330 λ n331=>nx (λ e332 s333=>jn (k309) λ k334=>ko
  e332 121 λ v335=>cdK v335 (ko e332 1 λ v336=>onp v336 λ b337 o338=>ldK b337 (Nat.add o338 11) s333 λ v339=>bnr (cl 34 [v339] s333) λ v340
  s341=>nx (λ e342 s343=>ko e342 0 λ v344=>bnr (oL (fill .nil [.b false,.z 0 0] .nil) okA s343) λ v345 s346=>bnr (cl 140 [v344,v345,(.i
  (.ofNat 0))] s346) λ v347 s348=>extK v347 0 λ v349=>extK v347 1 λ v350=>ko e342 6 λ v351=>onp v351 λ b352 o353=>onAx v349 λ l354=>
  bnr (stnA 5 b352 o353 l354 s348) λ v355 s356=>nx (λ e357 s358=>.ok .r e357 s358) (kst e342 7 v350) s356) e332 s341) (k334 e332 s333)) (kst e307 121
  (.b (cmI .eq n331 (.ofNat 17)))) s308)) λ k303=>ko e301 112 λ v304=>cdK v304 (k303 e301 s302) (ko e301 44 λ v305=>oni v305 λ n306=>nx (k303)
  (kst e301 112 (.b (cmI .eq n306 (.ofNat 11)))) s302)) (kst e212 112 (.b (cmI .eq n300 (.ofNat 10)))) s213)) λ k208=>ko e206 74 λ v209=>cdK v209 (k208
  e206 s207) (ko e206 44 λ v210=>oni v210 λ n211=>nx (k208) (kst e206 74 (.b (cmI .eq n211 (.ofNat 8)))) s207)) (kst e165 74 (.b (cmI .eq n205 (.ofNat
  7)))) s166)) λ k149=>ko e147 54 λ v150=>cdK v150 (k149 e147 s148) (ko e147 44 λ v151=>oni v151 λ n152=>nx (λ e153 s154=>jn (k149) λ k155
 =>ko e153 54 λ v156=>cdK v156 (k155 e153 s154) (ko e153 44 λ v157=>oni v157 λ n158=>nx (λ e159 s160=>jn (k155) λ k161=>ko e159 54 λ
  v162=>cdK v162 (k161 e159 s160) (ko e159 44 λ v163=>oni v163 λ n164=>nx (k161) (kst e159 54 (.b (cmI .eq n164 (.ofNat 6)))) s160)) (kst e153 54
  (.b (cmI .eq n158 (.ofNat 5)))) s154)) (kst e147 54 (.b (cmI .eq n152 (.ofNat 4)))) s148)) (kst e122 54 (.b (cmI .eq n146 (.ofNat 3)))) s123)) λ k118=>ko
  e116 45 λ v119=>cdK v119 (k118 e116 s117) (ko e116 44 λ v120=>oni v120 λ n121=>nx (k118) (kst e116 45 (.b (cmI .eq n121 (.ofNat 2)))) s117))
  (kst e112 45 (.b (cmI .eq n115 (.ofNat 1)))) s113) 0 (λ e359 s360=>ko e359 1 λ v361=>onp v361 λ b362 o363=>ldK b362 (Nat.add o363 11) s360 λ
  v364=>ko e359 0 λ v365=>onp v365 λ b366 o367=>ldK b366 (Nat.add o367 0) s360 λ v368=>bnr (cl 132 [v364,v368] s360) λ v369 s370=>nx (λ
  e371 s372=>ko e371 0 λ v373=>onp v373 λ b374 o375=>bnr (stV b374 (Nat.add (Nat.add o375 10) 1) (.i (.ofNat 10)) s372) λ v376 s377=>nx (λ
  e378 s379=>bnr (oL (fill .nil [.i (.ofNat 0),.i (.ofNat 0),.i (.ofNat 0),.b false,.z 0 0] .nil) okA s379) λ v380 s381=>ko e378 6 λ v382=>onp
  v382 λ b383 o384=>onAx v380 λ l385=>bnr (stnA 5 b383 o384 l385 s381) λ v386 s387=>nx (λ e388 s389=>.ok .r e388 s389) (kst e378 7 (.b false))
  s387) e371 s377) e359 s370)) (kst e106 44 v111) s107) λ k82=>ko e80 35 λ v83=>cdK v83 (ko e80 0 λ v84=>ko e80 5 λ v85=>onp v85 λ b86 o87=>
  ldK b86 (Nat.add o87 1) s81 λ v88=>ko e80 9 λ v89=>onp v89 λ b90 o91=>bnr (ldnP 2 b90 o91 s81) λ v92 s93=>bnr (cl 210 [v84,v88,v92] s93)
  λ v94 s95=>extK v94 0 λ v96=>extK v94 1 λ v97=>ko e80 6 λ v98=>onp v98 λ b99 o100=>onAx v96 λ l101=>bnr (stnA 5 b99 o100 l101 s95)
  λ v102 s103=>nx (λ e104 s105=>.ok .r e104 s105) (kst e80 7 v97) s103) (k82 e80 s81)) (kst e77 35 v79) s78) (kst (kst e58 9 v70) 10 v69) s76) λ
  k42=>ko e40 23 λ v43=>cdK v43 (ko e40 0 λ v44=>ko e40 8 λ v45=>bnr (cl 144 [v44,v45] s41) λ v46 s47=>extK v46 0 λ v48=>extK v46 1 λ
  v49=>ko e40 6 λ v50=>onp v50 λ b51 o52=>onAx v48 λ l53=>bnr (stnA 5 b51 o52 l53 s47) λ v54 s55=>nx (λ e56 s57=>.ok .r e56 s57) (kst
  e40 7 v49) s55) (k42 e40 s41)) (kst e36 23 (.b (cmI .ne n39 (.ofNat 0)))) s37) λ k26=>ko e24 18 λ v27=>cdK v27 (ko e24 0 λ v28=>ko e24 5 λ v29
 =>onp v29 λ b30 o31=>bnr (ldnP 6 b30 o31 s25) λ v32 s33=>bnr (cl 208 [v28,v32] s33) λ v34 s35=>nx (k26) (kst e24 8 v34) s35) (k26 e24 s25))
  (kst e20 18 (.b (cmI .eq n23 (.ofNat 0)))) s21) (kst e6 8 v18) s19) (kst (kst (kst env 5 v2) 6 v4) 7 (.b false)) s5
theorem fe134 : rf134 = fastOf kf134 := by kernel_rfl
def rf135 : RFun := .mk 3 [.cn 6 5,.t 7] λ cl env s=>ko env 2 λ v1=>bnr (boxV v1 s) λ v2 s3=>bnr (eNew [.i (.ofNat 0),.i (.ofNat 0),.i (.ofNat 0),.b false,.z 0 0] .nil s3 cl) λ v4 s5=>nx (λ e6
  s7=>ko e6 0 λ v8=>onp v8 λ b9 o10=>bnr (stV b9 (Nat.add (Nat.add o10 10) 1) (.i (.ofNat 1)) s7) λ v11 s12=>nx (λ e13 s14=>ko e13 0 λ v15
 =>onp v15 λ b16 o17=>ldK b16 (Nat.add (Nat.add o17 10) 2) s14 λ v18=>ko e13 1 λ v19=>onp v19 λ b20 o21=>ldK b20 (Nat.add o21 9) s14 λ v22
 =>bnr (cl 216 [v18,v22] s14) λ v23 s24=>onBx v23 λ c25=>nx (λ e26 s27=>jn (λ e40 s41=>ko e40 0 λ v42=>onp v42 λ b43 o44=>ldK b43
  (Nat.add (Nat.add o44 10) 2) s41 λ v45=>bnr (cl 217 [v45] s41) λ v46 s47=>nx (λ e48 s49=>ko e48 8 λ v50=>oni v50 λ n51=>nx (λ e52 s53
 =>jn (λ e70 s71=>ko e70 0 λ v72=>ko e70 0 λ v73=>ko e70 0 λ v74=>ko e70 0 λ v75=>onp v75 λ b76 o77=>ldK b76 (Nat.add (Nat.add o77 10)
  2) s71 λ v78=>bnr (cl 218 [v78] s71) λ v79 s80=>ko e70 0 λ v81=>onp v81 λ b82 o83=>ldK b82 (Nat.add (Nat.add o83 10) 2) s71 λ v84=>bnr
  (cl 219 [v84] s71) λ v85 s86=>onp v72 λ b87 o88=>bnr (stV b87 (Nat.add (Nat.add o88 10) 3) v79 s71) λ v89 s90=>ko e70 0 λ v91=>ifX (eqV v73
  v91) (ko e70 0 λ v92=>ifX (eqV v74 v92) (onp v91 λ b93 o94=>bnr (stV b93 (Nat.add (Nat.add o94 10) 4) v85 s90) λ v95 s96=>ko e70 0 λ v97=>
  ifX (eqV v92 v97) (onp v97 λ b98 o99=>bnr (stV b98 (Nat.add (Nat.add o99 10) 1) (.i (.ofNat 2)) s96) λ v100 s101=>nx (λ e102 s103=>ko e102 5 λ
  v104=>onp v104 λ b105 o106=>ldK b105 (Nat.add o106 0) s103 λ v107=>oni v107 λ n108=>gdK (.b (cmI .eq n108 (.ofNat 3))) false (λ k109=>ko
  e102 5 λ v112=>onp v112 λ b113 o114=>k109 (.p b113 (Nat.add o114 0)) s103) s103 λ v110 s111=>gdK (.b (cmI .eq n108 (.ofNat 3))) false (λ k115=>
  onp v110 λ b118 o119=>ldK b118 o119 s111 λ v120=>k115 v120 s111) s111 λ v116 s117=>gdK (.b (cmI .eq n108 (.ofNat 3))) false (λ k121=>oni v116
  λ n124=>k121 (.b (cmI .eq n124 (.ofNat 5))) s117) s117 λ v122 s123=>pkK (.b (cmI .eq n108 (.ofNat 3))) (.ok (.b true)) (.ok v122) λ v125=>nx (λ
  e126 s127=>jn (λ e140 s141=>ko e140 0 λ v142=>onp v142 λ b143 o144=>ldK b143 (Nat.add o144 2) s141 λ v145=>ko e140 5 λ v146=>onp v146
  λ b147 o148=>ldK b147 (Nat.add o148 2) s141 λ v149=>onSlx v145 λ b150 o151 q152=>oni v149 λ n154=>onON (nat n154) λ i153=>ifX (Nat.blt
  i153 q152) (ldK b150 (Nat.add (Nat.add o151 (Nat.mul i153 2)) 0) s141 λ v155=>ko e140 0 λ v156=>onp v156 λ b157 o158=>ldK b157 (Nat.add (Nat.add
  o158 10) 4) s141 λ v159=>onBx v155 λ c160=>onBx v159 λ c161=>nx (λ e162 s163=>jn (λ e179 s180=>ko e179 0 λ v181=>ko e179 5 λ v182=>
  onp v182 λ b183 o184=>bnr (ldnP 6 b183 o184 s180) λ v185 s186=>bnr (cl 214 [v181,v185] s186) λ v187 s188=>nx (λ e189 s190=>bnr (oL
  (fill .nil [.i (.ofNat 0),.i (.ofNat 0),.i (.ofNat 0),.b false,.z 0 0] .nil) okA s190) λ v191 s192=>ko e189 6 λ v193=>onp v193 λ b194 o195=>
  onAx v191 λ l196=>bnr (stnA 5 b194 o195 l196 s192) λ v197 s198=>nx (λ e199 s200=>.ok .r e199 s200) (kst e189 7 (.b false)) s198) e179 s188) λ
  k164=>ko e162 85 λ v165=>cdK v165 (ko e162 0 λ v166=>bnr (cl 144 [v166,(.i (.ofNat 4))] s163) λ v167 s168=>extK v167 0 λ v169=>extK v167 1
  λ v170=>ko e162 6 λ v171=>onp v171 λ b172 o173=>onAx v169 λ l174=>bnr (stnA 5 b172 o173 l174 s168) λ v175 s176=>nx (λ e177 s178=>.ok
  .r e177 s178) (kst e162 7 v170) s176) (k164 e162 s163)) (kst e140 85 (.b (neg (eqB c160 c161)))) s141)) λ k128=>ko e126 69 λ v129=>cdK v129 (bnr
  (oL (fill .nil [.i (.ofNat 0),.i (.ofNat 0),.i (.ofNat 0),.b false,.z 0 0] .nil) okA s127) λ v130 s131=>ko e126 6 λ v132=>onp v132 λ b133 o134
 =>onAx v130 λ l135=>bnr (stnA 5 b133 o134 l135 s131) λ v136 s137=>nx (λ e138 s139=>.ok .r e138 s139) (kst e126 7 (.b false)) s137) (k128 e126
  s127)) (kst e102 69 v125) s123) e70 s101)))) λ k54=>ko e52 32 λ v55=>cdK v55 (ko e52 0 λ v56=>ko e52 8 λ v57=>bnr (cl 144 [v56,v57] s53)
  λ v58 s59=>extK v58 0 λ v60=>extK v58 1 λ v61=>ko e52 6 λ v62=>onp v62 λ b63 o64=>onAx v60 λ l65=>bnr (stnA 5 b63 o64 l65 s59) λ
  v66 s67=>nx (λ e68 s69=>.ok .r e68 s69) (kst e52 7 v61) s67) (k54 e52 s53)) (kst e48 32 (.b (cmI .ne n51 (.ofNat 0)))) s49) (kst e40 8 v46) s47) λ
  k28=>ko e26 23 λ v29=>cdK v29 (bnr (oL (fill .nil [.i (.ofNat 0),.i (.ofNat 0),.i (.ofNat 0),.b false,.z 0 0] .nil) okA s27) λ v30 s31=>ko e26
  6 λ v32=>onp v32 λ b33 o34=>onAx v30 λ l35=>bnr (stnA 5 b33 o34 l35 s31) λ v36 s37=>nx (λ e38 s39=>.ok .r e38 s39) (kst e26 7 (.b
  false)) s37) (k28 e26 s27)) (kst e13 23 (.b (neg c25))) s24) e6 s12) (kst (kst (kst env 5 v2) 6 v4) 7 (.b false)) s5
theorem fe135 : rf135 = fastOf kf135 := by kernel_rfl
def rf136 : RFun := .mk 3 [.cn 6 5,.t 7] λ cl env s=>ko env 2 λ v1=>bnr (boxV v1 s) λ v2 s3=>bnr (eNew [.i (.ofNat 0),.i (.ofNat 0),.i (.ofNat 0),.b false,.z 0 0] .nil s3 cl) λ v4 s5=>nx (λ e6
  s7=>ko e6 1 λ v8=>onp v8 λ b9 o10=>ldK b9 (Nat.add o10 9) s7 λ v11=>ko e6 0 λ v12=>onp v12 λ b13 o14=>ldK b13 (Nat.add (Nat.add o14 10)
  3) s7 λ v15=>bnr (cl 149 [v11,v15] s7) λ v16 s17=>extK v16 0 λ v18=>extK v16 1 λ v19=>nx (λ e20 s21=>ko e20 9 λ v22=>oni v22 λ
  n23=>gdK (.b (cmI .ne n23 (.ofNat 0))) false (λ k24=>ko e20 0 λ v27=>k24 v27 s21) s21 λ v25 s26=>gdK (.b (cmI .ne n23 (.ofNat 0))) false (λ k28
 =>onp v25 λ b31 o32=>k28 (.p b31 o32) s26) s26 λ v29 s30=>gdK (.b (cmI .ne n23 (.ofNat 0))) false (λ k33=>onp v29 λ b36 o37=>k33 (.p b36
  (Nat.add o37 10)) s30) s30 λ v34 s35=>gdK (.b (cmI .ne n23 (.ofNat 0))) false (λ k38=>onp v34 λ b41 o42=>k38 (.p b41 (Nat.add o42 4)) s35) s35 λ
  v39 s40=>gdK (.b (cmI .ne n23 (.ofNat 0))) false (λ k43=>onp v39 λ b46 o47=>ldK b46 o47 s40 λ v48=>k43 v48 s40) s40 λ v44 s45=>gdK (.b (cmI
  .ne n23 (.ofNat 0))) false (λ k49=>k49 v44 s45) s45 λ v50 s51=>gdK v50 true (λ k52=>ko e20 8 λ v55=>k52 v55 s51) s51 λ v53 s54=>gdK v50
  true (λ k56=>bnr (cl 220 [v53] s54) λ v59 s60=>k56 v59 s60) s54 λ v57 s58=>gdK v50 true (λ k61=>onBx v57 λ c64=>k61 (.b (neg c64)) s58)
  s58 λ v62 s63=>gdK (.b (cmI .ne n23 (.ofNat 0))) false (λ k65=>pkK v50 (.ok v62) (.ok (.b false)) λ v68=>k65 v68 s63) s63 λ v66 s67=>pkK (.b
  (cmI .ne n23 (.ofNat 0))) (.ok (.b true)) (.ok v66) λ v69=>nx (λ e70 s71=>jn (λ e87 s88=>ko e87 0 λ v89=>ko e87 5 λ v90=>onp v90 λ b91
  o92=>ldK b91 (Nat.add o92 1) s88 λ v93=>ko e87 0 λ v94=>onp v94 λ b95 o96=>ldK b95 (Nat.add (Nat.add o96 10) 4) s88 λ v97=>ko e87 8 λ v98
 =>bnr (oL (fill (.cons 0 1 (.c v97) (.cons 1 1 (.c v98) .nil)) [.b false,.z 0 0] .nil) okA s88) λ v99 s100=>bnr (cl 210 [v89,v93,v99] s88) λ v101
  s102=>extK v101 0 λ v103=>extK v101 1 λ v104=>ko e87 6 λ v105=>onp v105 λ b106 o107=>onAx v103 λ l108=>bnr (stnA 5 b106 o107 l108
  s102) λ v109 s110=>nx (λ e111 s112=>.ok .r e111 s112) (kst e87 7 v104) s110) λ k72=>ko e70 36 λ v73=>cdK v73 (ko e70 0 λ v74=>bnr (cl
  144 [v74,(.i (.ofNat 10))] s71) λ v75 s76=>extK v75 0 λ v77=>extK v75 1 λ v78=>ko e70 6 λ v79=>onp v79 λ b80 o81=>onAx v77 λ l82=>
  bnr (stnA 5 b80 o81 l82 s76) λ v83 s84=>nx (λ e85 s86=>.ok .r e85 s86) (kst e70 7 v78) s84) (k72 e70 s71)) (kst e20 36 v69) s67) (kst (kst e6 8
  v18) 9 v19) s17) (kst (kst (kst env 5 v2) 6 v4) 7 (.b false)) s5
theorem fe136 : rf136 = fastOf kf136 := by kernel_rfl
def rf137 : RFun := .mk 2 [.cn 4 5,.t 5] λ cl env s=>bnr (eNew [.i (.ofNat 0),.i (.ofNat 0),.i (.ofNat 0),.b false,.z 0 0] .nil s cl) λ v1 s2=>nx (λ e3 s4=>ko e3 1 λ v5=>onp v5 λ b6 o7=>ldK
  b6 (Nat.add o7 9) s4 λ v8=>ko e3 0 λ v9=>onp v9 λ b10 o11=>ldK b10 (Nat.add (Nat.add o11 10) 8) s4 λ v12=>onSlx v12 λ b13 o14 q15=>onON
  (nat (.ofNat 0)) λ i16=>ifX (Nat.blt i16 q15) (ldK b13 (Nat.add (Nat.add o14 (Nat.mul i16 2)) 0) s4 λ v17=>ko e3 0 λ v18=>onp v18 λ b19 o20=>
  ldK b19 (Nat.add (Nat.add o20 10) 8) s4 λ v21=>onSlx v21 λ b22 o23 q24=>onON (nat (.ofNat 0)) λ i25=>ifX (Nat.blt i25 q24) (ldK b22 (Nat.add
  (Nat.add o23 (Nat.mul i25 2)) 1) s4 λ v26=>bnr (cl 221 [v8,v17,v26] s4) λ v27 s28=>oni v27 λ n29=>nx (λ e30 s31=>jn (λ e47 s48=>ko e47
  0 λ v49=>ko e47 0 λ v50=>onp v50 λ b51 o52=>ldK b51 (Nat.add (Nat.add o52 10) 8) s48 λ v53=>bnr (eKp (.q (.sli (.c v53) 2 (.ok (.c (.i
  (.ofNat 1)))) .no)) .nil s48 cl) λ v54 s55=>onp v49 λ b56 o57=>bnr (stV b56 (Nat.add (Nat.add o57 10) 8) v54 s55) λ v58 s59=>nx (λ e60 s61=>
  ko e60 0 λ v62=>onp v62 λ b63 o64=>ldK b63 (Nat.add (Nat.add o64 10) 8) s61 λ v65=>bnr (lenV v65 s61) λ v66 s67=>oni v66 λ n68=>nx (λ
  e69 s70=>jn (λ e78 s79=>bnr (oL (fill .nil [.i (.ofNat 0),.i (.ofNat 0),.i (.ofNat 0),.b false,.z 0 0] .nil) okA s79) λ v80 s81=>ko e78 4 λ
  v82=>onp v82 λ b83 o84=>onAx v80 λ l85=>bnr (stnA 5 b83 o84 l85 s81) λ v86 s87=>nx (λ e88 s89=>.ok .r e88 s89) (kst e78 5 (.b false))
  s87) λ k71=>ko e69 48 λ v72=>cdK v72 (ko e69 0 λ v73=>onp v73 λ b74 o75=>bnr (stV b74 (Nat.add (Nat.add o75 10) 1) (.i (.ofNat 8)) s70) λ
  v76 s77=>nx (k71) e69 s77) (k71 e69 s70)) (kst e60 48 (.b (cmI .eq n68 (.ofNat 0)))) s67) e47 s59) λ k32=>ko e30 27 λ v33=>cdK v33 (ko e30 0 λ v34
 =>bnr (cl 144 [v34,(.i (.ofNat 10))] s31) λ v35 s36=>extK v35 0 λ v37=>extK v35 1 λ v38=>ko e30 4 λ v39=>onp v39 λ b40 o41=>onAx v37
  λ l42=>bnr (stnA 5 b40 o41 l42 s36) λ v43 s44=>nx (λ e45 s46=>.ok .r e45 s46) (kst e30 5 v38) s44) (k32 e30 s31)) (kst e3 27 (.b (cmI .ne n29
  (.ofNat 0)))) s28))) (kst (kst env 4 v1) 5 (.b false)) s2
theorem fe137 : rf137 = fastOf kf137 := by kernel_rfl
def rf138 : RFun := .mk 3 [.cn 6 5,.t 7] λ cl env s=>ko env 2 λ v1=>bnr (boxV v1 s) λ v2 s3=>bnr (eNew [.i (.ofNat 0),.i (.ofNat 0),.i (.ofNat 0),.b false,.z 0 0] .nil s3 cl) λ v4 s5=>nx (λ e6
  s7=>ko e6 1 λ v8=>onp v8 λ b9 o10=>ldK b9 (Nat.add o10 11) s7 λ v11=>ko e6 0 λ v12=>onp v12 λ b13 o14=>ldK b13 (Nat.add (Nat.add o14
  10) 7) s7 λ v15=>onSlx v15 λ b16 o17 q18=>onON (nat (.ofNat 0)) λ i19=>ifX (Nat.blt i19 q18) (ldK b16 (Nat.add o17 (Nat.mul i19 1)) s7 λ v20=>
  bnr (cl 222 [v11,v20] s7) λ v21 s22=>onBx v21 λ c23=>nx (λ e24 s25=>jn (λ e41 s42=>ko e41 0 λ v43=>ko e41 5 λ v44=>onp v44 λ b45
  o46=>ldK b45 (Nat.add o46 1) s42 λ v47=>ko e41 0 λ v48=>onp v48 λ b49 o50=>ldK b49 (Nat.add (Nat.add o50 10) 7) s42 λ v51=>onSlx v51 λ b52
  o53 q54=>onON (nat (.ofNat 0)) λ i55=>ifX (Nat.blt i55 q54) (ldK b52 (Nat.add o53 (Nat.mul i55 1)) s42 λ v56=>bnr (cl 223 [v56] s42) λ v57 s58=>
  bnr (oL (fill (.cons 0 1 (.c (.b true)) (.cons 1 1 (.c v57) .nil)) [.b false,.z 0 0] .nil) okA s42) λ v59 s60=>bnr (cl 210 [v43,v47,v59] s42) λ
  v61 s62=>extK v61 0 λ v63=>extK v61 1 λ v64=>ko e41 6 λ v65=>onp v65 λ b66 o67=>onAx v63 λ l68=>bnr (stnA 5 b66 o67 l68 s62) λ v69
  s70=>nx (λ e71 s72=>.ok .r e71 s72) (kst e41 7 v64) s70)) λ k26=>ko e24 20 λ v27=>cdK v27 (ko e24 0 λ v28=>bnr (cl 144 [v28,(.i (.ofNat
  10))] s25) λ v29 s30=>extK v29 0 λ v31=>extK v29 1 λ v32=>ko e24 6 λ v33=>onp v33 λ b34 o35=>onAx v31 λ l36=>bnr (stnA 5 b34 o35 l36
  s30) λ v37 s38=>nx (λ e39 s40=>.ok .r e39 s40) (kst e24 7 v32) s38) (k26 e24 s25)) (kst e6 20 (.b (neg c23))) s22)) (kst (kst (kst env 5 v2) 6 v4)
  7 (.b false)) s5
theorem fe138 : rf138 = fastOf kf138 := by kernel_rfl
def rf140 : RFun := .mk 3 [.cn 6 5,.t 7] λ cl env s=>ko env 1 λ v1=>bnr (boxV v1 s) λ v2 s3=>bnr (eNew [.i (.ofNat 0),.i (.ofNat 0),.i (.ofNat 0),.b false,.z 0 0] .nil s3 cl) λ v4 s5=>nx (λ e6
  s7=>ko e6 0 λ v8=>onp v8 λ b9 o10=>ldK b9 (Nat.add o10 6) s7 λ v11=>ko e6 0 λ v12=>onp v12 λ b13 o14=>ldK b13 (Nat.add (Nat.add o14 10)
  0) s7 λ v15=>ko e6 2 λ v16=>bnr (oL (fill (.cons 0 1 (.c v11) (.cons 1 1 (.c v15) (.cons 2 1 (.c v16) .nil))) [.i (.ofNat 0),.i (.ofNat 0),.i
  (.ofNat 0),.b false,.z 0 0] .nil) okA s7) λ v17 s18=>bnr (eNew [.i (.ofNat 0),.i (.ofNat 0),.i (.ofNat 0),.b false,.z 0 0] .nil s7 cl) λ v19 s20
 =>ko e6 0 λ v21=>ifX (eqV v8 v21) (onp v21 λ b22 o23=>ifX (eqV (.p b9 o10) (.p b22 o23)) (ifX (eqV (.p b9 (Nat.add o10 6)) (.p b22 (Nat.add o23 6)))
  (ldK b22 (Nat.add o23 6) s20 λ v24=>ifX (eqV v11 v24) (ko e6 0 λ v25=>ifX (eqV v12 v25) (onp v25 λ b26 o27=>ifX (eqV (.p b13 o14) (.p b26 o27))
  (ifX (eqV (.p b13 (Nat.add o14 10)) (.p b26 (Nat.add o27 10))) (ifX (eqV (.p b13 (Nat.add (Nat.add o14 10) 0)) (.p b26 (Nat.add (Nat.add o27 10) 0))) (ldK b26
  (Nat.add (Nat.add o27 10) 0) s20 λ v28=>ifX (eqV v15 v28) (ko e6 2 λ v29=>ifX (eqV v16 v29) (bnr (oL (fill (.cons 0 1 (.c v24) (.cons 1 1 (.c v28)
  (.cons 2 1 (.c v29) .nil))) [.i (.ofNat 0),.i (.ofNat 0),.i (.ofNat 0),.b false,.z 0 0] .nil) okA s20) λ v30 s31=>ifX (eqV v17 v30) (onp v19 λ b32
  o33=>onAx v30 λ l34=>bnr (stnA 5 b32 o33 l34 s20) λ v35 s36=>nx (λ e37 s38=>ko e37 2 λ v39=>oni v39 λ n40=>nx (λ e41 s42=>jn (λ
  e56 s57=>ko e56 0 λ v58=>onp v58 λ b59 o60=>ldK b59 (Nat.add o60 6) s57 λ v61=>oni v61 λ n62=>frcI (wrapI (arI .add n62 (.ofNat 1))) λ
  n63=>onp v58 λ b64 o65=>bnr (stV b64 (Nat.add o65 6) (.i n63) s57) λ v66 s67=>nx (λ e68 s69=>ko e68 0 λ v70=>onp v70 λ b71 o72=>ldK
  b71 (Nat.add o72 3) s69 λ v73=>oni v73 λ n74=>nx (λ e75 s76=>jn (λ e89 s90=>ko e89 8 λ v91=>onp v91 λ b92 o93=>bnr (ldnP 5 b92 o93
  s90) λ v94 s95=>ko e89 6 λ v96=>onp v96 λ b97 o98=>onAx v94 λ l99=>bnr (stnA 5 b97 o98 l99 s95) λ v100 s101=>nx (λ e102 s103=>.ok .r
  e102 s103) (kst e89 7 (.b true)) s101) λ k77=>ko e75 35 λ v78=>cdK v78 (ko e75 0 λ v79=>ko e75 0 λ v80=>onp v79 λ b81 o82=>bnr (stV b81
  (Nat.add o82 3) (.i (.ofNat 1)) s76) λ v83 s84=>onp v80 λ b85 o86=>bnr (stV b85 (Nat.add o86 7) (.i (.ofNat 0)) s84) λ v87 s88=>nx (k77) e75
  s88) (k77 e75 s76)) (kst e68 35 (.b (cmI .ne n74 (.ofNat 4)))) s69) e56 s67) λ k43=>ko e41 21 λ v44=>cdK v44 (ko e41 4 λ v45=>onp v45 λ b46 o47
 =>bnr (ldnP 2 b46 o47 s42) λ v48 s49=>ko e41 8 λ v50=>onp v50 λ b51 o52=>onAx v48 λ l53=>bnr (stnA 2 b51 (Nat.add o52 3) l53 s49) λ v54
  s55=>nx (k43) e41 s55) (k43 e41 s42)) (kst e37 21 (.b (cmI .eq n40 (.ofNat 0)))) s38) (kst e6 8 v19) s36)))))))))))) (kst (kst (kst env 4 v2) 6 v4) 7
  (.b false)) s5
theorem fe140 : rf140 = fastOf kf140 := by kernel_rfl
def rf141 : RFun := .mk 2 [.cn 4 5,.t 5] λ cl env s=>bnr (eNew [.i (.ofNat 0),.i (.ofNat 0),.i (.ofNat 0),.b false,.z 0 0] .nil s cl) λ v1 s2=>nx (λ e3 s4=>bindX (scR (hC.hAt (.seq (.reg [6] [.s 6
  (.mv (kI 0))]) (.seq (.reg [7,8] [.s 7 (.mv (kI 0)),.s 8 (.mv (.c (.b true)))]) (.seq (.seq (.reg [13] [kM 9 0,kC 10 9,kO 11 10 10,kO 12 11 1,kL 13 12])
  (.blk 0 (.seq (.reg [14] [.s 15 (.cm .eq (.t 13) (kI 4)),kM 14 15]) (.cond (.t 14) (.goto 0) (.seq (.reg [16] [.s 17 (.cm .eq (.t 13) (kI 5)),kM 16 17])
  (.cond (.t 16) (.goto 1) (.seq (.reg [18] [.s 19 (.cm .eq (.t 13) (kI 6)),kM 18 19]) (.cond (.t 18) (.goto 2) .skip)))))))) (.seq (.seq (.drw [6] [.mk 0 1
  true (kM 21 0),.mk 1 2 true (kM 22 1),.mk 2 6 true (kC 23 22),.mk 3 14 true (kO 24 23 9),.mk 4 30 true (kL 25 24),.mk 5 32 true (kM 26 0),.mk 6 96 true
  (kC 27 26),.mk 7 224 true (kO 28 27 10),.mk 8 480 true (kO 29 28 3),.mk 9 992 true (kL 30 29),.mk 10 2046 false (.s 31 (.call 149 [(.t 25),(.t 30)])),.mk
  11 4094 true (kM 20 31),.mk 12 8190 true (kE 32 20 0),.mk 13 12286 true (kE 33 20 1),.mk 14 24575 true (kC 34 21),.mk 15 57343 true (kO 35 34 10),.mk 16
  122879 true (kO 36 35 5),.mk 17 253951 false (.n (.st (.t 36) (.t 32))),.mk 18 524287 true (kM 6 33)] [.mk 132096 2046 (.s 31 (.call 149 [(.t 25),(.t
  30)])),.mk 131072 253951 (.n (.st (.t 36) (.t 32)))]) (.seq (.reg [47] [kM 37 6,.s 38 (.cm .ne (.t 37) (kI 0)),kM 39 38,.gs 39 false 40 (.mv (.t 0)),.gs
  39 false 41 (.ck (.t 40)),.gs 39 false 42 (.off (.t 41) 10),.gs 39 false 43 (.off (.t 42) 5),.gs 39 false 44 (.ld (.t 43)),.gs 39 false 45 (.call 220 [(.t
  44)]),.gs 39 false 46 (.not (.t 45)),.s 47 (.pick (.t 39) (.c (.b true)) (.t 46))]) (.cond (.t 47) (.goto 3) .skip))) (.seq (.seq (.reg [8] [kM 49 0,kC 50
  49,kO 51 50 10,kO 52 51 5,kL 53 52,.s 54 (.call 150 [(.t 53)]),kM 48 54,kE 55 48 0,kE 56 48 1,kM 8 56]) (.seq (.reg [57] [kM 57 8]) (.cond (.t 57)
  (.seq (.reg [] [kM 58 0,kC 59 58,kO 60 59 10,kO 61 60 1,.n (.st (.t 61) (kI 4))]) (.goto 4)) .skip))) (.seq (.goto 5) (.seq (.label 0) (.seq (.reg [7] [kM
  63 0,kC 64 63,kO 65 64 10,kO 66 65 5,kL 67 66,.s 68 (.call 150 [(.t 67)]),kM 62 68,kE 69 62 0,kE 70 62 1,kM 7 69]) (.seq (.drw [] [.mk 0 1 true (kM 71
  1),.mk 1 3 true (kC 72 71),.mk 2 7 true (kO 73 72 10),.mk 3 15 true (kL 74 73),.mk 4 16 true (kM 75 7),.mk 5 32 true (kM 76 0),.mk 6 96 true (kC 77 76),
  .mk 7 224 true (kO 78 77 5),.mk 8 480 true (kL 79 78),.mk 9 1023 false (.s 80 (.call 148 [(.t 74),(.t 75),(.t 79)]))] [.mk 512 1023 (.s 80 (.call 148 [(.t
  74),(.t 75),(.t 79)]))]) (.seq (.label 5) (.seq (.reg [] [kM 81 0,kM 82 0,.s 83 (.call 227 [(.t 82)]),kC 84 81,kO 85 84 10,kO 86 85 1,.n (.st (.t 86)
  (.t 83))]) (.seq (.goto 4) (.seq (.label 1) (.seq (.reg [7] [kM 88 0,kC 89 88,kO 90 89 10,kO 91 90 6,kL 92 91,.s 93 (.call 150 [(.t 92)]),kM 87 93,kE 94
  87 0,kE 95 87 1,kM 7 94]) (.seq (.drw [] [.mk 0 1 true (kM 96 1),.mk 1 3 true (kC 97 96),.mk 2 7 true (kO 98 97 10),.mk 3 15 true (kL 99 98),.mk 4 16
  true (kM 100 7),.mk 5 32 true (kM 101 0),.mk 6 96 true (kC 102 101),.mk 7 224 true (kO 103 102 5),.mk 8 480 true (kL 104 103),.mk 9 1023 false (.s 105
  (.call 148 [(.t 99),(.t 100),(.t 104)]))] [.mk 512 1023 (.s 105 (.call 148 [(.t 99),(.t 100),(.t 104)]))]) (.seq (.reg [] [kM 106 0,kC 107 106,kO 108 107
  10,kO 109 108 1,.n (.st (.t 109) (kI 6))]) (.seq (.goto 4) (.seq (.label 2) (.seq (.seq (.drw [125] [.mk 0 1 true (kM 110 1),.mk 1 3 true (kC 111 110),.mk
  2 7 true (kO 112 111 9),.mk 3 15 true (kL 113 112),.mk 4 16 true (kM 114 0),.mk 5 48 true (kC 115 114),.mk 6 112 true (kO 116 115 10),.mk 7 240 true (kO
  117 116 3),.mk 8 496 true (kL 118 117),.mk 9 512 true (kM 119 0),.mk 10 1536 true (kC 120 119),.mk 11 3584 true (kO 121 120 10),.mk 12 7680 true (kO 122
  121 6),.mk 13 15872 true (kL 123 122),.mk 14 32767 false (.s 124 (.call 221 [(.t 113),(.t 118),(.t 123)])),.mk 15 65535 true (.s 125 (.cm .eq (.t 124) (kI
  0)))] [.mk 16384 32767 (.s 124 (.call 221 [(.t 113),(.t 118),(.t 123)]))]) (.cond (.t 125) (.seq (.reg [5] [kM 126 0,.s 127 (.bld [.b false,.z 0 0] .nil),
  .s 128 (.call 140 [(.t 126),(.t 127),(kI 0)]),kE 129 128 0,kE 130 128 1,.n (.stn (.t 4) (.t 129) 5),kM 5 130]) .ret) .skip)) (.seq (.label 3) (.seq (.seq
  (.reg [5] [kM 131 0,.s 132 (.call 144 [(.t 131),(kI 10)]),kE 133 132 0,kE 134 132 1,.n (.stn (.t 4) (.t 133) 5),kM 5 134]) .ret) (.seq (.label 4) (.seq
  (.reg [5] [.s 135 (.bld [.i (.ofNat 0),.i (.ofNat 0),.i (.ofNat 0),.b false,.z 0 0] .nil),.n (.stn (.t 4) (.t 135) 5),.s 5 (.mv (.c (.b false)))])
  .ret)))))))))))))))))))))))) lpFuel (λ cl e5 s6=>nx (λ e7 s8=>nx (λ e9 s10=>ko e9 0 λ v11=>onp v11 λ b12 o13=>ldK b12 (Nat.add (Nat.add
  o13 10) 1) s10 λ v14=>nx (λ e15 s16=>bkK (ko e15 13 λ v17=>oni v17 λ n18=>nx (λ e19 s20=>jn (idk) λ k21=>ko e19 14 λ v22=>cdK v22
  (.ok (.g 0) e19 s20) (ko e19 13 λ v23=>oni v23 λ n24=>nx (λ e25 s26=>jn (k21) λ k27=>ko e25 16 λ v28=>cdK v28 (.ok (.g 1) e25 s26) (ko e25
  13 λ v29=>oni v29 λ n30=>nx (λ e31 s32=>jn (k27) λ k33=>ko e31 18 λ v34=>cdK v34 (.ok (.g 2) e31 s32) (k33 e31 s32)) (kst e25 18 (.b (cmI
  .eq n30 (.ofNat 6)))) s26)) (kst e19 16 (.b (cmI .eq n24 (.ofNat 5)))) s20)) (kst e15 14 (.b (cmI .eq n18 (.ofNat 4)))) s16) 0 (λ e35 s36=>ko e35 0 λ
  v37=>ko e35 1 λ v38=>onp v38 λ b39 o40=>ldK b39 (Nat.add o40 9) s36 λ v41=>ko e35 0 λ v42=>onp v42 λ b43 o44=>ldK b43 (Nat.add (Nat.add
  o44 10) 3) s36 λ v45=>bnr (cl 149 [v41,v45] s36) λ v46 s47=>ko e35 0 λ v48=>ifX (eqV v37 v48) (extK v46 0 λ v49=>extK v46 1 λ v50=>onp
  v48 λ b51 o52=>bnr (stV b51 (Nat.add (Nat.add o52 10) 5) v49 s47) λ v53 s54=>extK v46 1 λ v55=>ifX (eqV v50 v55) (nx (λ e56 s57=>ko e56 6 λ
  v58=>oni v58 λ n59=>gdK (.b (cmI .ne n59 (.ofNat 0))) false (λ k60=>ko e56 0 λ v63=>k60 v63 s57) s57 λ v61 s62=>gdK (.b (cmI .ne n59 (.ofNat
  0))) false (λ k64=>onp v61 λ b67 o68=>k64 (.p b67 o68) s62) s62 λ v65 s66=>gdK (.b (cmI .ne n59 (.ofNat 0))) false (λ k69=>onp v65 λ b72
  o73=>k69 (.p b72 (Nat.add o73 10)) s66) s66 λ v70 s71=>gdK (.b (cmI .ne n59 (.ofNat 0))) false (λ k74=>onp v70 λ b77 o78=>k74 (.p b77 (Nat.add
  o78 5)) s71) s71 λ v75 s76=>gdK (.b (cmI .ne n59 (.ofNat 0))) false (λ k79=>onp v75 λ b82 o83=>ldK b82 o83 s76 λ v84=>k79 v84 s76) s76 λ v80
  s81=>gdK (.b (cmI .ne n59 (.ofNat 0))) false (λ k85=>bnr (cl 220 [v80] s81) λ v88 s89=>k85 v88 s89) s81 λ v86 s87=>gdK (.b (cmI .ne n59 (.ofNat
  0))) false (λ k90=>onBx v86 λ c93=>k90 (.b (neg c93)) s87) s87 λ v91 s92=>pkK (.b (cmI .ne n59 (.ofNat 0))) (.ok (.b true)) (.ok v91) λ v94=>nx
  (λ e95 s96=>jn (λ e99 s100=>ko e99 0 λ v101=>onp v101 λ b102 o103=>ldK b102 (Nat.add (Nat.add o103 10) 5) s100 λ v104=>bnr (cl 150
  [v104] s100) λ v105 s106=>extK v105 0 λ v107=>extK v105 1 λ v108=>nx (λ e109 s110=>ko e109 8 λ v111=>nx (λ e112 s113=>jn (λ e123 s124
 =>.ok (.g 5) e123 s124) λ k114=>ko e112 57 λ v115=>cdK v115 (ko e112 0 λ v116=>onp v116 λ b117 o118=>bnr (stV b117 (Nat.add (Nat.add o118
  10) 1) (.i (.ofNat 4)) s113) λ v119 s120=>nx (λ e121 s122=>.ok (.g 4) e121 s122) e112 s120) (k114 e112 s113)) (kst e109 57 v111) s110) (kst e99 8
  v108) s106) λ k97=>ko e95 47 λ v98=>cdK v98 (.ok (.g 3) e95 s96) (k97 e95 s96)) (kst e56 47 v94) s92) (kst e35 6 v55) s54)))) (kst e9 13 v14) s10)
  (kst (kst e7 7 (.i (.ofNat 0))) 8 (.b true)) s8) (kst e5 6 (.i (.ofNat 0))) s6) cl e3 s4) (idk)) (kst (kst env 4 v1) 5 (.b false)) s2
theorem fe141 : rf141 = fastOf kf141 := by kernel_rfl
def rf142 : RFun := .mk 2 [.cn 4 3] λ cl env s=>bnr (eNew [.i (.ofNat 0),.ns,.i (.ofNat 0)] .nil s cl) λ v1 s2=>nx (λ e3 s4=>ko e3 0 λ v5=>onp v5 λ b6 o7=>ldK b6 (Nat.add o7 3) s4 λ v8
 =>oni v8 λ n9=>frcI (wrapI (arI .add n9 (.ofNat 1))) λ n10=>onp v5 λ b11 o12=>bnr (stV b11 (Nat.add o12 3) (.i n10) s4) λ v13 s14=>nx (λ
  e15 s16=>ko e15 0 λ v17=>onp v17 λ b18 o19=>ldK b18 (Nat.add (Nat.add o19 4) 11) s16 λ v20=>ko e15 1 λ v21=>bnr (cl 228 [v20,v21] s16)
  λ v22 s23=>extK v22 0 λ v24=>extK v22 1 λ v25=>bnr (eNew [.i (.ofNat 0),.i (.ofNat 0),.i (.ofNat 0),.i (.ofNat 0),.i (.ofNat 0),.i (.ofNat
  0),.ns] .nil s23 cl) λ v26 s27=>onp v26 λ b28 o29=>onAx v24 λ l30=>bnr (stnA 7 b28 o29 l30 s27) λ v31 s32=>nx (λ e33 s34=>bkK (ko e33 6
  λ v35=>onBx v35 λ c36=>nx (λ e37 s38=>jn (idk) λ k39=>ko e37 24 λ v40=>cdK v40 (bnr (cl 229 [(.i (.ofNat 3))] s38) λ v41 s42=>ko e37
  4 λ v43=>onp v43 λ b44 o45=>onAx v41 λ l46=>bnr (stnA 3 b44 o45 l46 s42) λ v47 s48=>nx (λ e49 s50=>.ok .r e49 s50) e37 s48) (ko e37 5
  λ v51=>onp v51 λ b52 o53=>ldK b52 (Nat.add o53 3) s38 λ v54=>oni v54 λ n55=>nx (λ e56 s57=>jn (k39) λ k58=>ko e56 28 λ v59=>cdK
  v59 (bnr (cl 229 [(.i (.ofNat 0))] s57) λ v60 s61=>ko e56 4 λ v62=>onp v62 λ b63 o64=>onAx v60 λ l65=>bnr (stnA 3 b63 o64 l65 s61) λ v66
  s67=>nx (λ e68 s69=>.ok .r e68 s69) e56 s67) (k58 e56 s57)) (kst e37 28 (.b (cmI .eq n55 (.ofNat 0)))) s38)) (kst e33 24 (.b (neg c36))) s34) 0 (λ
  e70 s71=>ko e70 0 λ v72=>onp v72 λ b73 o74=>ldK b73 (Nat.add (Nat.add o74 4) 11) s71 λ v75=>ko e70 1 λ v76=>bnr (cl 230 [v75,v76] s71)
  λ v77 s78=>nx (λ e79 s80=>ko e79 5 λ v81=>onp v81 λ b82 o83=>ldK b82 (Nat.add o83 3) s80 λ v84=>oni v84 λ n85=>nx (λ e86 s87=>jn
  (λ e100 s101=>ko e100 5 λ v102=>onp v102 λ b103 o104=>ldK b103 (Nat.add o104 6) s101 λ v105=>ko e100 5 λ v106=>onp v106 λ b107 o108=>
  ldK b107 (Nat.add o108 5) s101 λ v109=>bnr (oL (fill (.cons 0 1 (.c (.i (.ofNat 1))) (.cons 1 1 (.c v105) (.cons 2 1 (.c v109) .nil))) [.i (.ofNat 0),
  .ns,.i (.ofNat 0)] .nil) okA s101) λ v110 s111=>ko e100 4 λ v112=>onp v112 λ b113 o114=>onAx v110 λ l115=>bnr (stnA 3 b113 o114 l115 s111)
  λ v116 s117=>nx (λ e118 s119=>.ok .r e118 s119) e100 s117) λ k88=>ko e86 42 λ v89=>cdK v89 (bnr (cl 229 [(.i (.ofNat 2))] s87) λ v90 s91=>
  ko e86 4 λ v92=>onp v92 λ b93 o94=>onAx v90 λ l95=>bnr (stnA 3 b93 o94 l95 s91) λ v96 s97=>nx (λ e98 s99=>.ok .r e98 s99) e86 s97) (k88
  e86 s87)) (kst e79 42 (.b (cmI .eq n85 (.ofNat 2)))) s80) e70 s78)) (kst (kst e15 5 v26) 6 v25) s32) e3 s14) (kst env 4 v1) s2
theorem fe142 : rf142 = fastOf kf142 := by kernel_rfl
def rf143 : RFun := .mk 4 [.t 8] λ cl env s=>ko env 2 λ v1=>bnr (boxV v1 s) λ v2 s3=>ko env 3 λ v4=>bnr (boxV v4 s3) λ v5 s6=>nx (λ e7 s8=>nx (λ e9 s10=>ko e9 6 λ v11=>onp
  v11 λ b12 o13=>ldK b12 (Nat.add o13 0) s10 λ v14=>oni v14 λ n15=>nx (λ e16 s17=>jn (λ e76 s77=>ko e76 0 λ v78=>ko e76 7 λ v79=>
  onp v79 λ b80 o81=>ldK b80 (Nat.add o81 1) s77 λ v82=>onp v78 λ b83 o84=>bnr (stV b83 (Nat.add (Nat.add o84 10) 7) v82 s77) λ v85 s86=>nx
  (λ e87 s88=>ko e87 0 λ v89=>ko e87 0 λ v90=>onp v89 λ b91 o92=>bnr (stV b91 (Nat.add o92 3) (.i (.ofNat 2)) s88) λ v93 s94=>onp v90 λ
  b95 o96=>bnr (stV b95 (Nat.add (Nat.add o96 10) 1) (.i (.ofNat 7)) s94) λ v97 s98=>nx (λ e99 s100=>ko e99 9 λ v101=>oni v101 λ n102=>nx
  (λ e103 s104=>.ok .r e103 s104) (kst e99 8 (.b (cmI .eq n102 (.ofNat 0)))) s100) e87 s98) e76 s86) λ k18=>ko e16 12 λ v19=>cdK v19 (ko e16 0 λ
  v20=>ko e16 1 λ v21=>onp v21 λ b22 o23=>bnr (ldnP 9 b22 (Nat.add o23 0) s17) λ v24 s25=>ko e16 6 λ v26=>onp v26 λ b27 o28=>ldK b27
  (Nat.add o28 2) s17 λ v29=>ko e16 7 λ v30=>onp v30 λ b31 o32=>ldK b31 (Nat.add o32 1) s17 λ v33=>bnr (cl 231 [v24,v29,v33] s17) λ v34
  s35=>ko e16 0 λ v36=>ifX (eqV v20 v36) (extK v34 0 λ v37=>extK v34 1 λ v38=>onp v36 λ b39 o40=>bnr (stV b39 (Nat.add (Nat.add o40 10) 8)
  v37 s35) λ v41 s42=>extK v34 1 λ v43=>ifX (eqV v38 v43) (nx (k18) (kst e16 9 v43) s42))) (ko e16 0 λ v44=>ko e16 1 λ v45=>onp v45 λ b46 o47
 =>bnr (ldnP 9 b46 (Nat.add o47 0) s17) λ v48 s49=>ko e16 6 λ v50=>onp v50 λ b51 o52=>ldK b51 (Nat.add o52 2) s17 λ v53=>ko e16 6 λ v54=>
  onp v54 λ b55 o56=>ldK b55 (Nat.add o56 4) s17 λ v57=>ko e16 7 λ v58=>onp v58 λ b59 o60=>ldK b59 (Nat.add o60 1) s17 λ v61=>ko e16 7 λ
  v62=>onp v62 λ b63 o64=>ldK b63 (Nat.add o64 2) s17 λ v65=>bnr (cl 232 [v48,v53,v57,v61,v65] s17) λ v66 s67=>ko e16 0 λ v68=>ifX (eqV
  v44 v68) (extK v66 0 λ v69=>extK v66 1 λ v70=>onp v68 λ b71 o72=>bnr (stV b71 (Nat.add (Nat.add o72 10) 8) v69 s67) λ v73 s74=>extK v66 1
  λ v75=>ifX (eqV v70 v75) (nx (k18) (kst e16 9 v75) s74)))) (kst e9 12 (.b (cmI .eq n15 (.ofNat 1)))) s10) (kst e7 9 (.i (.ofNat 0))) s8) (kst (kst
  (kst env 6 v2) 7 v5) 8 (.b false)) s6
theorem fe143 : rf143 = fastOf kf143 := by kernel_rfl
def rf144 : RFun := .mk 2 [.cn 4 5,.t 5] λ cl env s=>bnr (eNew [.i (.ofNat 0),.i (.ofNat 0),.i (.ofNat 0),.b false,.z 0 0] .nil s cl) λ v1 s2=>nx (λ e3 s4=>ko e3 0 λ v5=>bnr (oL (fill .nil [.b
  false,.z 0 0] .nil) okA s4) λ v6 s7=>ko e3 1 λ v8=>bnr (cl 140 [v5,v6,v8] s7) λ v9 s10=>extK v9 0 λ v11=>extK v9 1 λ v12=>ko e3 4 λ
  v13=>onp v13 λ b14 o15=>onAx v11 λ l16=>bnr (stnA 5 b14 o15 l16 s10) λ v17 s18=>nx (λ e19 s20=>.ok .r e19 s20) (kst e3 5 v12) s18) (kst
  (kst env 4 v1) 5 (.b false)) s2
theorem fe144 : rf144 = fastOf kf144 := by kernel_rfl
def rf146 : RFun := .mk 1 [] λ cl env s=>ko env 0 λ v1=>onp v1 λ b2 o3=>ldK b2 (Nat.add o3 3) s λ v4=>oni v4 λ n5=>frcI (wrapI (arI .add n5 (.ofNat 1))) λ n6=>onp v1 λ b7 o8=>
  bnr (stV b7 (Nat.add o8 3) (.i n6) s) λ v9 s10=>nx (λ e11 s12=>ko e11 0 λ v13=>onp v13 λ b14 o15=>bnr (stV b14 (Nat.add o15 2) (.b false)
  s12) λ v16 s17=>nx (λ e18 s19=>ko e18 0 λ v20=>onp v20 λ b21 o22=>ldK b21 (Nat.add (Nat.add o22 4) 11) s19 λ v23=>bnr (cl 233 [v23] s19)
  λ v24 s25=>nx (idk) e18 s25) e11 s17) env s10
theorem fe146 : rf146 = fastOf kf146 := by kernel_rfl
def rf147 : RFun := .mk 2 [.t 4] λ cl env s=>nx (λ e1 s2=>ko e1 1 λ v3=>onp v3 λ b4 o5=>ldK b4 (Nat.add o5 12) s2 λ v6=>ko e1 0 λ v7=>onp v7 λ b8 o9=>ldK b8 (Nat.add o9 2) s2 λ
  v10=>bnr (cl 234 [v6,v10] s2) λ v11 s12=>nx (λ e13 s14=>jn (λ e27 s28=>ko e27 0 λ v29=>onp v29 λ b30 o31=>ldK b30 (Nat.add o31 2) s28
  λ v32=>ko e27 1 λ v33=>onp v33 λ b34 o35=>ldK b34 (Nat.add (Nat.add o35 0) 3) s28 λ v36=>oni v32 λ n37=>oni v36 λ n38=>nx (λ e39
  s40=>.ok .r e39 s40) (kst e27 4 (.b (cmI .eq n37 n38))) s28) λ k15=>ko e13 13 λ v16=>cdK v16 (ko e13 0 λ v17=>onp v17 λ b18 o19=>ldK b18
  (Nat.add o19 2) s14 λ v20=>oni v20 λ n21=>frcI (wrapI (arI .add n21 (.ofNat 1))) λ n22=>onp v17 λ b23 o24=>bnr (stV b23 (Nat.add o24 2) (.i
  n22) s14) λ v25 s26=>nx (k15) e13 s26) (k15 e13 s14)) (kst e1 13 v11) s12) (kst env 4 (.b false)) s
theorem fe147 : rf147 = fastOf kf147 := by kernel_rfl
def rf148 : RFun := .mk 3 [.t 6] λ cl env s=>nx (λ e1 s2=>ko e1 0 λ v3=>onp v3 λ b4 o5=>ldK b4 (Nat.add o5 2) s2 λ v6=>oni v6 λ n7=>frcI (wrapI (arI .add n7 (.ofNat 1))) λ n8=>onp
  v3 λ b9 o10=>bnr (stV b9 (Nat.add o10 2) (.i n8) s2) λ v11 s12=>nx (λ e13 s14=>ko e13 0 λ v15=>onp v15 λ b16 o17=>bnr (ldnP 1 b16
  (Nat.add o17 0) s14) λ v18 s19=>ko e13 1 λ v20=>ko e13 2 λ v21=>bnr (cl 235 [v18,v20,v21] s19) λ v22 s23=>onBx v22 λ c24=>nx (λ e25
  s26=>jn (λ e31 s32=>ko e31 0 λ v33=>onp v33 λ b34 o35=>ldK b34 (Nat.add (Nat.add o35 0) 0) s32 λ v36=>ko e31 1 λ v37=>ko e31 2 λ v38
 =>bnr (cl 236 [v36,v37,v38] s32) λ v39 s40=>nx (λ e41 s42=>ko e41 0 λ v43=>onp v43 λ b44 o45=>ldK b44 (Nat.add o45 1) s42 λ v46=>ko
  e41 1 λ v47=>bnr (cl 237 [v46,v47] s42) λ v48 s49=>nx (λ e50 s51=>nx (λ e52 s53=>.ok .r e52 s53) (kst e50 6 (.b true)) s51) e41 s49) e31
  s40) λ k27=>ko e25 21 λ v28=>cdK v28 (nx (λ e29 s30=>.ok .r e29 s30) (kst e25 6 (.b false)) s26) (k27 e25 s26)) (kst e13 21 (.b (neg c24))) s23)
  e1 s12) (kst env 6 (.b false)) s
theorem fe148 : rf148 = fastOf kf148 := by kernel_rfl
def rf149 : RFun := .mk 2 [.t 4,.t 5] λ cl env s=>nx (λ e1 s2=>ko e1 0 λ v3=>onp v3 λ b4 o5=>ldK b4 (Nat.add o5 1) s2 λ v6=>oni v6 λ n7=>frcI (wrapI (arI .add n7 (.ofNat 1))) λ n8=>onp
  v3 λ b9 o10=>bnr (stV b9 (Nat.add o10 1) (.i n8) s2) λ v11 s12=>nx (λ e13 s14=>ko e13 0 λ v15=>ko e13 1 λ v16=>bnr (cl 200 [v15,v16]
  s14) λ v17 s18=>onBx v17 λ c19=>nx (λ e20 s21=>jn (λ e26 s27=>ko e26 0 λ v28=>onp v28 λ b29 o30=>ldK b29 (Nat.add o30 0) s27 λ v31
 =>ko e26 1 λ v32=>onSlx v31 λ b33 o34 q35=>oni v32 λ n37=>onON (nat n37) λ i36=>ifX (Nat.blt i36 q35) (ldK b33 (Nat.add o34 (Nat.mul i36 1))
  s27 λ v38=>nx (λ e39 s40=>.ok .r e39 s40) (kst (kst e26 4 v38) 5 (.i (.ofNat 0))) s27)) λ k22=>ko e20 16 λ v23=>cdK v23 (nx (λ e24 s25=>
  .ok .r e24 s25) (kst (kst e20 4 (.z 0 0)) 5 (.i (.ofNat 1))) s21) (k22 e20 s21)) (kst e13 16 (.b (neg c19))) s18) e1 s12) (kst (kst env 4 (.z 0 0)) 5 (.i
  (.ofNat 0))) s
theorem fe149 : rf149 = fastOf kf149 := by kernel_rfl
def rf150 : RFun := .mk 1 [.t 2,.t 3] λ cl env s=>nx (λ e1 s2=>ko e1 0 λ v3=>bnr (onZ reZ v3 s2) λ v4 s5=>bnr (eKp (.q (.cplx (.c v4) (.c (.f 0)))) .nil s5 cl) λ v6 s7=>bnr (cl 225 [v6] s7)
  λ v8 s9=>extK v8 0 λ v10=>extK v8 1 λ v11=>nx (λ e12 s13=>ko e12 5 λ v14=>onBx v14 λ c15=>gdK (.b (neg c15)) false (λ k16=>ko e12 4
  λ v19=>k16 v19 s13) s13 λ v17 s18=>gdK (.b (neg c15)) false (λ k20=>oni v17 λ n23=>k20 (.b (cmI .lt n23 (.ofNat 1))) s18) s18 λ v21 s22=>
  pkK (.b (neg c15)) (.ok (.b true)) (.ok v21) λ v24=>gdK v24 false (λ k25=>ko e12 4 λ v28=>k25 v28 s22) s22 λ v26 s27=>gdK v24 false (λ k29=>
  oni v26 λ n32=>k29 (.b (cmI .gt n32 (.ofNat 1099511627777))) s27) s27 λ v30 s31=>pkK v24 (.ok (.b true)) (.ok v30) λ v33=>gdK v33 false (λ k34
 =>ko e12 0 λ v37=>k34 v37 s31) s31 λ v35 s36=>gdK v33 false (λ k38=>ko e12 4 λ v41=>k38 v41 s36) s36 λ v39 s40=>gdK v33 false (λ k42=>
  oni v39 λ n45=>frcI (wrapI (arI .sub n45 (.ofNat 1))) λ n46=>k42 (.i n46) s40) s40 λ v43 s44=>gdK v33 false (λ k47=>bnr (cl 223 [v43] s44)
  λ v50 s51=>k47 v50 s51) s44 λ v48 s49=>gdK v33 false (λ k52=>bnr (cl 238 [v35,v48] s49) λ v55 s56=>k52 v55 s56) s49 λ v53 s54=>gdK v33
  false (λ k57=>onBx v53 λ c60=>k57 (.b (neg c60)) s54) s54 λ v58 s59=>pkK v33 (.ok (.b true)) (.ok v58) λ v61=>nx (λ e62 s63=>jn (λ e68
  s69=>ko e68 4 λ v70=>oni v70 λ n71=>frcI (wrapI (arI .sub n71 (.ofNat 1))) λ n72=>nx (λ e73 s74=>.ok .r e73 s74) (kst (kst e68 2 (.i n72))
  3 (.b true)) s69) λ k64=>ko e62 30 λ v65=>cdK v65 (nx (λ e66 s67=>.ok .r e66 s67) (kst (kst e62 2 (.i (.ofNat 0))) 3 (.b false)) s63) (k64 e62
  s63)) (kst e12 30 v61) s59) (kst (kst e1 4 v10) 5 v11) s9) (kst (kst env 2 (.i (.ofNat 0))) 3 (.b false)) s
theorem fe150 : rf150 = fastOf kf150 := by kernel_rfl
def rf151 : RFun := .mk 1 [.t 2,.t 3] λ cl env s=>nx (λ e1 s2=>ko e1 0 λ v3=>onp v3 λ b4 o5=>ldK b4 (Nat.add o5 2) s2 λ v6=>oni v6 λ n7=>frcI (wrapI (arI .add n7 (.ofNat 1))) λ n8=>onp
  v3 λ b9 o10=>bnr (stV b9 (Nat.add o10 2) (.i n8) s2) λ v11 s12=>nx (λ e13 s14=>ko e13 0 λ v15=>onp v15 λ b16 o17=>ldK b16 (Nat.add o17
  1) s14 λ v18=>bnr (cl 239 [v18] s14) λ v19 s20=>extK v19 0 λ v21=>extK v19 1 λ v22=>nx (λ e23 s24=>.ok .r e23 s24) (kst (kst e13 2 v21)
  3 v22) s20) e1 s12) (kst (kst env 2 (.i (.ofNat 0))) 3 (.b false)) s
theorem fe151 : rf151 = fastOf kf151 := by kernel_rfl
def rf152 : RFun := .mk 3 [.t 6] λ cl env s=>ko env 0 λ v1=>bnr (boxV v1 s) λ v2 s3=>nx (λ e4 s5=>ko e4 3 λ v6=>onp v6 λ b7 o8=>bnr (ldnP 9 b7 o8 s5) λ v9 s10=>bnr (cl 124
  [v9] s10) λ v11 s12=>ko e4 1 λ v13=>ko e4 2 λ v14=>ko e4 1 λ v15=>bnr (oL (fill (.cons 0 9 (.c v11) (.cons 9 1 (.c v13) (.cons 10 1 (.c v14)
  (.cons 14 1 (.c v15) .nil)))) [.i (.ofNat 0),.i (.ofNat 0),.i (.ofNat 0),.i (.ofNat 0),.i (.ofNat 0),.i (.ofNat 0),.i (.ofNat 0),.i (.ofNat 0),.ns,.i
  (.ofNat 0),.b false,.i (.ofNat 0),.b false,.ns,.i (.ofNat 0),.i (.ofNat 0),.ns,.i (.ofNat 0),.i (.ofNat 0),.i (.ofNat 0),.i (.ofNat 0),.i (.ofNat
  0),.i (.ofNat 0)] .nil) okA s12) λ v16 s17=>bnr (boxV v16 s17) λ v18 s19=>nx (λ e20 s21=>.ok .r e20 s21) (kst e4 6 v18) s19) (kst (kst env 3
  v2) 6 (.np)) s3
theorem fe152 : rf152 = fastOf kf152 := by kernel_rfl
def rf153 : RFun := .mk 2 [.t 4] λ cl env s=>nx (λ e1 s2=>ko e1 0 λ v3=>onp v3 λ b4 o5=>ldK b4 (Nat.add o5 5) s2 λ v6=>ko e1 1 λ v7=>onp v7 λ b8 o9=>ldK b8 (Nat.add o9 9) s2 λ
  v10=>ko e1 1 λ v11=>onp v11 λ b12 o13=>ldK b12 (Nat.add o13 10) s2 λ v14=>bnr (cl 240 [v6,v10,v14] s2) λ v15 s16=>onBx v15 λ c17=>nx
  (λ e18 s19=>jn (λ e24 s25=>ko e24 0 λ v26=>ko e24 0 λ v27=>onp v27 λ b28 o29=>ldK b28 (Nat.add o29 5) s25 λ v30=>bnr (cl 241 [v30]
  s25) λ v31 s32=>onp v26 λ b33 o34=>bnr (stV b33 (Nat.add o34 13) v31 s32) λ v35 s36=>nx (λ e37 s38=>nx (λ e39 s40=>.ok .r e39 s40) (kst
  e37 4 (.b true)) s38) e24 s36) λ k20=>ko e18 18 λ v21=>cdK v21 (nx (λ e22 s23=>.ok .r e22 s23) (kst e18 4 (.b false)) s19) (k20 e18 s19)) (kst e1
  18 (.b (neg c17))) s16) (kst env 4 (.b false)) s
theorem fe153 : rf153 = fastOf kf153 := by kernel_rfl
def rf155 : RFun := .mk 1 [.t 2] λ cl env s=>nx (λ e1 s2=>ko e1 0 λ v3=>onp v3 λ b4 o5=>ldK b4 (Nat.add o5 2) s2 λ v6=>oni v6 λ n7=>frcI (wrapI (arI .add n7 (.ofNat 1))) λ n8=>onp
  v3 λ b9 o10=>bnr (stV b9 (Nat.add o10 2) (.i n8) s2) λ v11 s12=>nx (λ e13 s14=>ko e13 0 λ v15=>onp v15 λ b16 o17=>ldK b16 (Nat.add o17
  1) s14 λ v18=>bnr (cl 242 [v18] s14) λ v19 s20=>nx (λ e21 s22=>ko e21 0 λ v23=>onp v23 λ b24 o25=>ldK b24 (Nat.add o25 1) s22 λ v26=>
  bnr (cl 243 [v26] s22) λ v27 s28=>nx (λ e29 s30=>ko e29 3 λ v31=>nx (λ e32 s33=>.ok .r e32 s33) (kst e29 2 v31) s30) e21 s28) (kst e13 3
  v19) s20) e1 s12) (kst env 2 (.b false)) s
theorem fe155 : rf155 = fastOf kf155 := by kernel_rfl
def rf157 : RFun := .mk 1 [.t 2] λ cl env s=>nx (λ e1 s2=>ko e1 0 λ v3=>onp v3 λ b4 o5=>ldK b4 (Nat.add o5 3) s2 λ v6=>oni v6 λ n7=>frcI (wrapI (arI .add n7 (.ofNat 1))) λ n8=>onp
  v3 λ b9 o10=>bnr (stV b9 (Nat.add o10 3) (.i n8) s2) λ v11 s12=>nx (λ e13 s14=>ko e13 0 λ v15=>onp v15 λ b16 o17=>ldK b16 (Nat.add
  (Nat.add o17 4) 10) s14 λ v18=>bnr (cl 244 [v18] s14) λ v19 s20=>nx (λ e21 s22=>.ok .r e21 s22) (kst e13 2 v19) s20) e1 s12) (kst env 2 (.b
  false)) s
theorem fe157 : rf157 = fastOf kf157 := by kernel_rfl
def rf158 : RFun := .mk 1 [.t 2] λ cl env s=>ko env 0 λ v1=>bnr (boxV v1 s) λ v2 s3=>nx (λ e4 s5=>ko e4 1 λ v6=>onp v6 λ b7 o8=>ldK b7 (Nat.add o8 10) s5 λ v9=>nx (λ e10 s11=>
  .ok .r e10 s11) (kst e4 2 v9) s5) (kst (kst env 1 v2) 2 (.np)) s3
theorem fe158 : rf158 = fastOf kf158 := by kernel_rfl
def rf159 : RFun := .mk 1 [.t 2] λ cl env s=>nx (λ e1 s2=>ko e1 0 λ v3=>onp v3 λ b4 o5=>ldK b4 (Nat.add o5 1) s2 λ v6=>nx (λ e7 s8=>.ok .r e7 s8) (kst e1 2 v6) s2) (kst env 2 (.i
  (.ofNat 0))) s
theorem fe159 : rf159 = fastOf kf159 := by kernel_rfl
def rf160 : RFun := .mk 4 [.t 8] λ cl env s=>ko env 0 λ v1=>bnr (boxV v1 s) λ v2 s3=>nx (λ e4 s5=>ko e4 4 λ v6=>onp v6 λ b7 o8=>bnr (ldnP 9 b7 o8 s5) λ v9 s10=>bnr (cl 124
  [v9] s10) λ v11 s12=>ko e4 1 λ v13=>ko e4 2 λ v14=>ko e4 3 λ v15=>bnr (oL (fill (.cons 0 9 (.c v11) (.cons 9 1 (.c v13) (.cons 10 1 (.c v14)
  (.cons 11 1 (.c v15) .nil)))) [.i (.ofNat 0),.i (.ofNat 0),.i (.ofNat 0),.i (.ofNat 0),.i (.ofNat 0),.i (.ofNat 0),.i (.ofNat 0),.i (.ofNat 0),.ns,.i
  (.ofNat 0),.i (.ofNat 0),.b false,.i (.ofNat 0),.i (.ofNat 0),.i (.ofNat 0),.i (.ofNat 0),.i (.ofNat 0),.i (.ofNat 0),.z 0 0,.i (.ofNat 0),.i
  (.ofNat 0),.i (.ofNat 0)] .nil) okA s12) λ v16 s17=>bnr (boxV v16 s17) λ v18 s19=>nx (λ e20 s21=>.ok .r e20 s21) (kst e4 8 v18) s19) (kst
  (kst env 4 v2) 8 (.np)) s3
theorem fe160 : rf160 = fastOf kf160 := by kernel_rfl
def rf161 : RFun := .mk 2 [.t 4] λ cl env s=>nx (λ e1 s2=>ko e1 1 λ v3=>oni v3 λ n4=>gdK (.b (cmI .ne n4 (.ofNat 0))) true (λ k5=>ko e1 1 λ v8=>k5 v8 s2) s2 λ v6 s7=>gdK (.b (cmI
  .ne n4 (.ofNat 0))) true (λ k9=>oni v6 λ n12=>k9 (.b (cmI .ne n12 (.ofNat 1))) s7) s7 λ v10 s11=>pkK (.b (cmI .ne n4 (.ofNat 0))) (.ok v10) (.ok
  (.b false)) λ v13=>nx (λ e14 s15=>jn (λ e20 s21=>ko e20 0 λ v22=>ko e20 1 λ v23=>onp v22 λ b24 o25=>bnr (eKp (.q (.iar (.c (.p b24
  (Nat.add o25 2))) (.c v23) 1 2)) .nil s21 cl) λ v26 s27=>onp v26 λ b28 o29=>ldK b28 o29 s27 λ v30=>nx (λ e31 s32=>.ok .r e31 s32) (kst e20 4
  v30) s27) λ k16=>ko e14 10 λ v17=>cdK v17 (nx (λ e18 s19=>.ok .r e18 s19) (kst e14 4 (.i (.ofNat 0))) s15) (k16 e14 s15)) (kst e1 10 v13) s11)
  (kst env 4 (.i (.ofNat 0))) s
theorem fe161 : rf161 = fastOf kf161 := by kernel_rfl
def rf162 : RFun := .mk 4 [.t 8] λ cl env s=>nx (λ e1 s2=>ko e1 0 λ v3=>onp v3 λ b4 o5=>ldK b4 (Nat.add o5 12) s2 λ v6=>oni v6 λ n7=>nx (λ e8 s9=>jn (λ e14 s15=>ko e14 0 λ
  v16=>onp v16 λ b17 o18=>ldK b17 (Nat.add o18 21) s15 λ v19=>oni v19 λ n20=>frcI (wrapI (arI .add n20 (.ofNat 1))) λ n21=>onp v16 λ b22
  o23=>bnr (stV b22 (Nat.add o23 21) (.i n21) s15) λ v24 s25=>nx (λ e26 s27=>ko e26 0 λ v28=>ko e26 1 λ v29=>ko e26 2 λ v30=>ko e26 3 λ
  v31=>bnr (cl 245 [v28,v29,v30,v31] s27) λ v32 s33=>onBx v32 λ c34=>nx (λ e35 s36=>jn (λ e49 s50=>ko e49 0 λ v51=>onp v51 λ b52
  o53=>ldK b52 (Nat.add o53 12) s50 λ v54=>oni v54 λ n55=>nx (λ e56 s57=>.ok .r e56 s57) (kst e49 8 (.b (cmI .eq n55 (.ofNat 11)))) s50) λ k37
 =>ko e35 26 λ v38=>cdK v38 (ko e35 0 λ v39=>ko e35 0 λ v40=>onp v39 λ b41 o42=>bnr (stV b41 (Nat.add o42 12) (.i (.ofNat 11)) s36) λ v43
  s44=>onp v40 λ b45 o46=>bnr (stV b45 (Nat.add o46 19) (.i (.ofNat 10)) s44) λ v47 s48=>nx (k37) e35 s48) (k37 e35 s36)) (kst e26 26 (.b (neg
  c34))) s33) e14 s25) λ k10=>ko e8 13 λ v11=>cdK v11 (nx (λ e12 s13=>.ok .r e12 s13) (kst e8 8 (.b true)) s9) (k10 e8 s9)) (kst e1 13 (.b (cmI .eq
  n7 (.ofNat 11)))) s2) (kst env 8 (.b false)) s
theorem fe162 : rf162 = fastOf kf162 := by kernel_rfl
def rf163 : RFun := .mk 1 [.t 2] λ cl env s=>nx (λ e1 s2=>ko e1 0 λ v3=>onp v3 λ b4 o5=>ldK b4 (Nat.add o5 19) s2 λ v6=>nx (λ e7 s8=>.ok .r e7 s8) (kst e1 2 v6) s2) (kst env 2 (.i
  (.ofNat 0))) s
theorem fe163 : rf163 = fastOf kf163 := by kernel_rfl
def rf164 : RFun := .mk 1 [.t 2] λ cl env s=>nx (λ e1 s2=>ko e1 0 λ v3=>onp v3 λ b4 o5=>ldK b4 (Nat.add o5 20) s2 λ v6=>nx (λ e7 s8=>.ok .r e7 s8) (kst e1 2 v6) s2) (kst env 2 (.i
  (.ofNat 0))) s
theorem fe164 : rf164 = fastOf kf164 := by kernel_rfl
def rf165 : RFun := .mk 1 [.t 2] λ cl env s=>nx (λ e1 s2=>ko e1 0 λ v3=>onp v3 λ b4 o5=>ldK b4 (Nat.add o5 3) s2 λ v6=>oni v6 λ n7=>frcI (wrapI (arI .add n7 (.ofNat 1))) λ n8=>onp
  v3 λ b9 o10=>bnr (stV b9 (Nat.add o10 3) (.i n8) s2) λ v11 s12=>nx (λ e13 s14=>ko e13 0 λ v15=>onp v15 λ b16 o17=>ldK b16 (Nat.add
  (Nat.add o17 4) 10) s14 λ v18=>bnr (cl 246 [v18] s14) λ v19 s20=>nx (λ e21 s22=>.ok .r e21 s22) (kst e13 2 v19) s20) e1 s12) (kst env 2 (.b
  false)) s
theorem fe165 : rf165 = fastOf kf165 := by kernel_rfl
def rf166 : RFun := .mk 3 [.t 6] λ cl env s=>nx (λ e1 s2=>ko e1 0 λ v3=>onp v3 λ b4 o5=>ldK b4 (Nat.add o5 3) s2 λ v6=>oni v6 λ n7=>frcI (wrapI (arI .add n7 (.ofNat 1))) λ n8=>onp
  v3 λ b9 o10=>bnr (stV b9 (Nat.add o10 3) (.i n8) s2) λ v11 s12=>nx (λ e13 s14=>ko e13 0 λ v15=>onp v15 λ b16 o17=>ldK b16 (Nat.add o17
  0) s14 λ v18=>ko e13 1 λ v19=>bnr (cl 78 [v18,v19] s14) λ v20 s21=>oni v20 λ n22=>gdK (.b (cmI .ne n22 (.ofNat 2))) false (λ k23=>ko
  e13 0 λ v26=>k23 v26 s21) s21 λ v24 s25=>gdK (.b (cmI .ne n22 (.ofNat 2))) false (λ k27=>onp v24 λ b30 o31=>k27 (.p b30 o31) s25) s25 λ v28
  s29=>gdK (.b (cmI .ne n22 (.ofNat 2))) false (λ k32=>onp v28 λ b35 o36=>k32 (.p b35 (Nat.add o36 0)) s29) s29 λ v33 s34=>gdK (.b (cmI .ne n22
  (.ofNat 2))) false (λ k37=>onp v33 λ b40 o41=>ldK b40 o41 s34 λ v42=>k37 v42 s34) s34 λ v38 s39=>gdK (.b (cmI .ne n22 (.ofNat 2))) false (λ
  k43=>ko e13 1 λ v46=>k43 v46 s39) s39 λ v44 s45=>gdK (.b (cmI .ne n22 (.ofNat 2))) false (λ k47=>ko e13 2 λ v50=>k47 v50 s45) s45 λ v48 s49
 =>gdK (.b (cmI .ne n22 (.ofNat 2))) false (λ k51=>bnr (cl 28 [v38,v44,v48] s49) λ v54 s55=>k51 v54 s55) s49 λ v52 s53=>pkK (.b (cmI .ne n22
  (.ofNat 2))) (.ok (.b true)) (.ok v52) λ v56=>nx (λ e57 s58=>jn (λ e63 s64=>ko e63 0 λ v65=>ko e63 1 λ v66=>bnr (cl 205 [v65,v66] s64)
  λ v67 s68=>nx (λ e69 s70=>nx (λ e71 s72=>.ok .r e71 s72) (kst e69 6 (.b true)) s70) e63 s68) λ k59=>ko e57 29 λ v60=>cdK v60 (nx (λ e61
  s62=>.ok .r e61 s62) (kst e57 6 (.b false)) s58) (k59 e57 s58)) (kst e13 29 v56) s53) e1 s12) (kst env 6 (.b false)) s
theorem fe166 : rf166 = fastOf kf166 := by kernel_rfl
def rf167 : RFun := .mk 1 [] λ cl env s=>ko env 0 λ v1=>onp v1 λ b2 o3=>ldK b2 (Nat.add o3 3) s λ v4=>oni v4 λ n5=>frcI (wrapI (arI .add n5 (.ofNat 1))) λ n6=>onp v1 λ b7 o8=>
  bnr (stV b7 (Nat.add o8 3) (.i n6) s) λ v9 s10=>nx (λ e11 s12=>ko e11 0 λ v13=>onp v13 λ b14 o15=>ldK b14 (Nat.add (Nat.add o15 4) 11) s12
  λ v16=>bnr (cl 247 [v16] s12) λ v17 s18=>nx (idk) e11 s18) env s10
theorem fe167 : rf167 = fastOf kf167 := by kernel_rfl
def rf168 : RFun := .mk 2 [.t 4] λ cl env s=>nx (λ e1 s2=>ko e1 0 λ v3=>onp v3 λ b4 o5=>ldK b4 (Nat.add o5 3) s2 λ v6=>oni v6 λ n7=>frcI (wrapI (arI .add n7 (.ofNat 1))) λ n8=>onp
  v3 λ b9 o10=>bnr (stV b9 (Nat.add o10 3) (.i n8) s2) λ v11 s12=>nx (λ e13 s14=>ko e13 0 λ v15=>onp v15 λ b16 o17=>ldK b16 (Nat.add
  (Nat.add o17 4) 11) s14 λ v18=>bnr (cl 248 [v18] s14) λ v19 s20=>extK v19 0 λ v21=>extK v19 1 λ v22=>bnr (eNew [.i (.ofNat 0),.i (.ofNat
  0),.i (.ofNat 0),.i (.ofNat 0),.i (.ofNat 0),.i (.ofNat 0),.ns] .nil s20 cl) λ v23 s24=>onp v23 λ b25 o26=>onAx v21 λ l27=>bnr (stnA 7 b25
  o26 l27 s24) λ v28 s29=>nx (λ e30 s31=>bkK (ko e30 6 λ v32=>onBx v32 λ c33=>nx (λ e34 s35=>jn (idk) λ k36=>ko e34 25 λ v37=>cdK v37
  (nx (λ e38 s39=>.ok .r e38 s39) (kst e34 4 (.b false)) s35) (ko e34 0 λ v40=>onp v40 λ b41 o42=>bnr (ldnP 12 b41 (Nat.add o42 4) s35) λ v43
  s44=>ko e34 5 λ v45=>onp v45 λ b46 o47=>ldK b46 (Nat.add o47 1) s35 λ v48=>ko e34 5 λ v49=>onp v49 λ b50 o51=>ldK b50 (Nat.add o51 2)
  s35 λ v52=>bnr (cl 249 [v43,v48,v52] s35) λ v53 s54=>nx (λ e55 s56=>jn (k36) λ k57=>ko e55 28 λ v58=>cdK v58 (ko e55 0 λ v59=>onp
  v59 λ b60 o61=>bnr (ldnP 12 b60 (Nat.add o61 4) s56) λ v62 s63=>ko e55 5 λ v64=>onp v64 λ b65 o66=>ldK b65 (Nat.add o66 1) s56 λ v67=>ko
  e55 5 λ v68=>onp v68 λ b69 o70=>ldK b69 (Nat.add o70 2) s56 λ v71=>bnr (cl 250 [v62,v67,v71] s56) λ v72 s73=>extK v72 0 λ v74=>extK
  v72 1 λ v75=>nx (λ e76 s77=>ko e76 0 λ v78=>ko e76 7 λ v79=>ko e76 1 λ v80=>bnr (cl 251 [v78,v79,(.i (.ofNat 2)),v80] s77) λ v81 s82
 =>nx (λ e83 s84=>ko e83 0 λ v85=>onp v85 λ b86 o87=>ldK b86 (Nat.add (Nat.add o87 4) 11) s84 λ v88=>ko e83 7 λ v89=>ko e83 8 λ v90=>
  bnr (cl 252 [v88,v89,v90] s84) λ v91 s92=>nx (λ e93 s94=>.ok .r e93 s94) (kst e83 4 v91) s92) e76 s82) (kst (kst e55 7 v74) 8 v75) s73) (ko e55
  5 λ v95=>onp v95 λ b96 o97=>ldK b96 (Nat.add o97 4) s56 λ v98=>oni v98 λ n99=>nx (λ e100 s101=>jn (k57) λ k102=>ko e100 62 λ v103
 =>cdK v103 (ko e100 0 λ v104=>onp v104 λ b105 o106=>ldK b105 (Nat.add (Nat.add o106 4) 11) s101 λ v107=>bnr (cl 253 [v107] s101) λ v108 s109
 =>nx (λ e110 s111=>.ok .r e110 s111) (kst e100 4 v108) s109) (k102 e100 s101)) (kst e55 62 (.b (cmI .ge n99 (.ofNat 2)))) s56)) (kst e34 28 v53) s54))
  (kst e30 25 (.b (neg c33))) s31) 0 (λ e112 s113=>nx (λ e114 s115=>.ok .r e114 s115) (kst e112 4 (.b false)) s113)) (kst (kst e13 5 v23) 6 v22) s29)
  e1 s12) (kst env 4 (.b false)) s
theorem fe168 : rf168 = fastOf kf168 := by kernel_rfl
def rf169 : RFun := .mk 1 [.t 2] λ cl env s=>nx (λ e1 s2=>nx (λ e3 s4=>ko e3 0 λ v5=>onp v5 λ b6 o7=>ldK b6 (Nat.add o7 0) s4 λ v8=>bnr (lenV v8 s4) λ v9 s10=>nx (λ e11 s12=>
  bkK (bindX (lpR (λ cl e13 s14=>ko e13 11 λ v15=>ko e13 10 λ v16=>oni v15 λ n17=>oni v16 λ n18=>nx (λ e19 s20=>jn (λ e23 s24=>bkK
  (ko e23 9 λ v25=>ko e23 11 λ v26=>onSlx v25 λ b27 o28 q29=>oni v26 λ n31=>onON (nat n31) λ i30=>ifX (Nat.blt i30 q29) (bnr (ldnP 8 b27
  (Nat.add o28 (Nat.mul i30 8)) s24) λ v32 s33=>bnr (eNew [.i (.ofNat 0),.i (.ofNat 0),.i (.ofNat 0),.i (.ofNat 0),.i (.ofNat 0),.i (.ofNat 0),.ns,
  .b false] .nil s33 cl) λ v34 s35=>onp v34 λ b36 o37=>onAx v32 λ l38=>bnr (stnA 8 b36 o37 l38 s35) λ v39 s40=>nx (λ e41 s42=>ko e41 5 λ
  v43=>onp v43 λ b44 o45=>ldK b44 (Nat.add (Nat.add o45 0) 3) s42 λ v46=>oni v46 λ n47=>nx (λ e48 s49=>jn (idk) λ k50=>ko e48 18 λ v51
 =>cdK v51 (ko e48 3 λ v52=>oni v52 λ n53=>frcI (wrapI (arI .add n53 (.ofNat 1))) λ n54=>nx (k50) (kst e48 3 (.i n54)) s49) (k50 e48 s49)) (kst
  e41 18 (.b (cmI .eq n47 (.ofNat 0)))) s42) (kst e23 5 v34) s40)) 1 (λ e55 s56=>ko e55 11 λ v57=>oni v57 λ n58=>frcI (wrapI (arI .add n58 (.ofNat
  1))) λ n59=>nx (idk) (kst e55 11 (.i n59)) s56)) λ k21=>ko e19 12 λ v22=>cdK v22 (k21 e19 s20) (.ok (.x 0) e19 s20)) (kst e13 12 (.b (cmI .lt n17
  n18))) s14) lpFuel cl e11 s12) (idk)) 0 (λ e60 s61=>ko e60 3 λ v62=>nx (λ e63 s64=>.ok .r e63 s64) (kst e60 2 v62) s61)) (kst (kst (kst e3 9
  v8) 10 v9) 11 (.i (.ofNat 0))) s10) (kst e1 3 (.i (.ofNat 0))) s2) (kst env 2 (.i (.ofNat 0))) s
theorem fe169 : rf169 = fastOf kf169 := by kernel_rfl
end Go.Kx
