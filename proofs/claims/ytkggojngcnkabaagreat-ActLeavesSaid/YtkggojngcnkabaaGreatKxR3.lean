/-
  Functions in the fast form; that they are the others. Printed by a program of ours.
-/
import Derived.Test.YtkggojngcnkabaaGreatKxH
import Derived.Test.YtkggojngcnkabaaGreatB10
set_option linter.unusedVariables false
set_option linter.unusedSimpArgs false
set_option maxRecDepth 1000000
namespace Go.Kx
noncomputable def rf302 : RFun := .mk 5 [.cn 10 3] fun cl env s => bnr (eNew [.i (.ofNat 0), .ns, .i (.ofNat 0)] .nil s cl) fun v1 s2 => nx (fun e3 s4 => ko e3 0 fun v5 => onp v5 fun b6 o7 => ldK b6 (Nat.add o7 3) s4 fun v8
  => oni v8 fun n9 => frcI (wrapI (arI .add n9 (.ofNat 1))) fun n10 => onp v5 fun b11 o12 => bnr (stV b11 (Nat.add o12 3) (.i n10) s4) fun v13 s14 => nx (fun
  e15 s16 => ko e15 0 fun v17 => ko e15 1 fun v18 => bnr (cl 203 [v17, v18] s16) fun v19 s20 => nx (fun e21 s22 => ko e21 0 fun v23 => onp v23 fun b24 o25 =>
  ldK b24 (Nat.add (Nat.add o25 4) 11) s22 fun v26 => ko e21 1 fun v27 => bnr (cl 228 [v26, v27] s22) fun v28 s29 => extK v28 0 fun v30 => extK v28 1 fun v31
  => bnr (eNew [.i (.ofNat 0), .i (.ofNat 0), .i (.ofNat 0), .i (.ofNat 0), .i (.ofNat 0), .i (.ofNat 0), .ns] .nil s29 cl) fun v32 s33 => onp v32 fun b34 o35
  => onAx v30 fun l36 => bnr (stnA 7 b34 o35 l36 s33) fun v37 s38 => nx (fun e39 s40 => ko e39 11 fun v41 => bnr (nilpV true v41 s40) fun v42 s43 => gdK v42
  false (fun k44 => ko e39 2 fun v47 => k44 v47 s43) s43 fun v45 s46 => gdK v42 false (fun k48 => oni v45 fun n51 => k48 (.b (cmI .lt n51 (.ofNat 1))) s46) s46
  fun v49 s50 => pkK v42 (.ok (.b true)) (.ok v49) fun v52 => gdK v52 false (fun k53 => ko e39 3 fun v56 => k53 v56 s50) s50 fun v54 s55 => gdK v52 false (fun
  k57 => oni v54 fun n60 => k57 (.b (cmI .lt n60 (.ofNat 0))) s55) s55 fun v58 s59 => pkK v52 (.ok (.b true)) (.ok v58) fun v61 => gdK v61 false (fun k62 => ko
  e39 13 fun v65 => k62 v65 s59) s59 fun v63 s64 => pkK v61 (.ok (.b true)) (.ok v63) fun v66 => nx (fun e67 s68 => jn (fun e81 s82 => ko e81 3 fun v83 => oni
  v83 fun n84 => nx (fun e85 s86 => jn (fun e120 s121 => ko e120 0 fun v122 => onp v122 fun b123 o124 => bnr (ldnP 12 b123 (Nat.add o124 4) s121) fun v125
  s126 => bnr (cl 98 [v125] s126) fun v127 s128 => oni v127 fun n129 => gdK (.b (cmI .gt n129 (.ofNat 0))) false (fun k130 => ko e120 0 fun v133 => k130 v133
  s128) s128 fun v131 s132 => gdK (.b (cmI .gt n129 (.ofNat 0))) false (fun k134 => onp v131 fun b137 o138 => k134 (.p b137 o138) s132) s132 fun v135 s136 =>
  gdK (.b (cmI .gt n129 (.ofNat 0))) false (fun k139 => onp v135 fun b142 o143 => k139 (.p b142 (Nat.add o143 4)) s136) s136 fun v140 s141 => gdK (.b (cmI .gt
  n129 (.ofNat 0))) false (fun k144 => onp v140 fun b147 o148 => bnr (ldnP 12 b147 o148 s141) fun v149 s150 => k144 v149 s150) s141 fun v145 s146 => gdK (.b
  (cmI .gt n129 (.ofNat 0))) false (fun k151 => ko e120 2 fun v154 => k151 v154 s146) s146 fun v152 s153 => gdK (.b (cmI .gt n129 (.ofNat 0))) false (fun k155 =>
  ko e120 3 fun v158 => k155 v158 s153) s153 fun v156 s157 => gdK (.b (cmI .gt n129 (.ofNat 0))) false (fun k159 => bnr (cl 249 [v145, v152, v156] s157) fun
  v162 s163 => k159 v162 s163) s157 fun v160 s161 => gdK (.b (cmI .gt n129 (.ofNat 0))) false (fun k164 => onBx v160 fun c167 => k164 (.b (neg c167)) s161) s161
  fun v165 s166 => pkK (.b (cmI .gt n129 (.ofNat 0))) (.ok (.b true)) (.ok v165) fun v168 => nx (fun e169 s170 => jn (fun e196 s197 => ko e196 0 fun v198 => onp
  v198 fun b199 o200 => bnr (ldnP 12 b199 (Nat.add o200 4) s197) fun v201 s202 => ko e196 2 fun v203 => ko e196 3 fun v204 => bnr (cl 250 [v201, v203, v204]
  s202) fun v205 s206 => extK v205 0 fun v207 => extK v205 1 fun v208 => nx (fun e209 s210 => ko e209 0 fun v211 => ko e209 16 fun v212 => ko e209 4 fun v213 =>
  bnr (cl 251 [v211, v212, (.i (.ofNat 2)), v213] s210) fun v214 s215 => nx (fun e216 s217 => ko e216 0 fun v218 => onp v218 fun b219 o220 => ldK b219
  (Nat.add (Nat.add o220 4) 9) s217 fun v221 => ko e216 11 fun v222 => bnr (cl 349 [v222] s217) fun v223 s224 => bnr (cl 348 [v221, v223] s217) fun v225 s226
  => nx (fun e227 s228 => ko e227 0 fun v229 => ko e227 18 fun v230 => ko e227 4 fun v231 => bnr (cl 251 [v229, v230, (.i (.ofNat 1)), v231] s228) fun v232
  s233 => nx (fun e234 s235 => ko e234 11 fun v236 => ko e234 18 fun v237 => bnr (cl 350 [v236, v237] s235) fun v238 s239 => nx (fun e240 s241 => ko e240 16
  fun v242 => ko e240 17 fun v243 => bnr (oL (fill (.cons 0 1 (.c (.i (.ofNat 1))) (.cons 1 1 (.c v242) (.cons 2 1 (.c v243) .nil))) [.i (.ofNat 0), .ns, .i
  (.ofNat 0)] .nil) okA s241) fun v244 s245 => ko e240 10 fun v246 => onp v246 fun b247 o248 => onAx v244 fun l249 => bnr (stnA 3 b247 o248 l249 s245) fun
  v250 s251 => nx (fun e252 s253 => .ok .r e252 s253) e240 s251) e234 s239) e227 s233) (kset e216 18 v225) s226) e209 s215) (kset (kset e196 16 v207) 17 v208)
  s206) fun k171 => ko e169 83 fun v172 => cdK v172 (ko e169 0 fun v173 => onp v173 fun b174 o175 => ldK b174 (Nat.add (Nat.add o175 4) 11) s170 fun v176 => ko
  e169 1 fun v177 => ko e169 2 fun v178 => ko e169 3 fun v179 => bnr (oL (fill (.cons 0 1 (.c v177) (.cons 1 1 (.c v178) (.cons 2 1 (.c v179) .nil))) [.i
  (.ofNat 0), .i (.ofNat 0), .i (.ofNat 0), .i (.ofNat 0), .i (.ofNat 0), .i (.ofNat 0), .ns] .nil) okA s170) fun v180 s181 => bnr (cl 347 [v176, v180] s181)
  fun v182 s183 => nx (fun e184 s185 => bnr (cl 229 [(.i (.ofNat 0))] s185) fun v186 s187 => ko e184 10 fun v188 => onp v188 fun b189 o190 => onAx v186 fun
  l191 => bnr (stnA 3 b189 o190 l191 s187) fun v192 s193 => nx (fun e194 s195 => .ok .r e194 s195) e184 s193) e169 s183) (k171 e169 s170)) (kset e120 83 v168)
  s166) fun k87 => ko e85 54 fun v88 => cdK v88 (ko e85 11 fun v89 => ko e85 2 fun v90 => bnr (cl 346 [v89, v90] s86) fun v91 s92 => extK v91 0 fun v93 => extK
  v91 1 fun v94 => nx (fun e95 s96 => ko e95 15 fun v97 => nx (fun e98 s99 => jn (k87) fun k100 => ko e98 61 fun v101 => cdK v101 (ko e98 0 fun v102 => ko e98 14
  fun v103 => ko e98 4 fun v104 => bnr (cl 251 [v102, v103, (.i (.ofNat 2)), v104] s99) fun v105 s106 => nx (fun e107 s108 => ko e107 14 fun v109 => bnr (oL
  (fill (.cons 0 1 (.c (.i (.ofNat 1))) (.cons 1 1 (.c v109) (.cons 2 1 (.c (.i (.negSucc 0))) .nil))) [.i (.ofNat 0), .ns, .i (.ofNat 0)] .nil) okA s108) fun
  v110 s111 => ko e107 10 fun v112 => onp v112 fun b113 o114 => onAx v110 fun l115 => bnr (stnA 3 b113 o114 l115 s111) fun v116 s117 => nx (fun e118 s119 =>
  .ok .r e118 s119) e107 s117) e98 s106) (k100 e98 s99)) (kset e95 61 v97) s96) (kset (kset e85 14 v93) 15 v94) s92) (k87 e85 s86)) (kset e81 54 (.b (cmI .eq n84
  (.ofNat 0)))) s82) fun k69 => ko e67 51 fun v70 => cdK v70 (bnr (cl 229 [(.i (.ofNat 3))] s68) fun v71 s72 => ko e67 10 fun v73 => onp v73 fun b74 o75 =>
  onAx v71 fun l76 => bnr (stnA 3 b74 o75 l76 s72) fun v77 s78 => nx (fun e79 s80 => .ok .r e79 s80) e67 s78) (k69 e67 s68)) (kset e39 51 v66) s64) (kset e21
  13 v31) s38) (kset e15 11 v19) s20) e3 s14) (kset env 10 v1) s2
theorem fe302 : rf302 = fastOf kf302 := by kernel_rfl
noncomputable def rf303 : RFun := .mk 1 [.t 2] fun cl env s => nx (fun e1 s2 => ko e1 0 fun v3 => onp v3 fun b4 o5 => ldK b4 (Nat.add o5 4) s2 fun v6 => oni v6 fun n7 => gdK (.b (cmI .eq n7 (.ofNat 1))) false (fun k8 => ko
  e1 0 fun v11 => k8 v11 s2) s2 fun v9 s10 => gdK (.b (cmI .eq n7 (.ofNat 1))) false (fun k12 => onp v9 fun b15 o16 => k12 (.p b15 o16) s10) s10 fun v13 s14 =>
  gdK (.b (cmI .eq n7 (.ofNat 1))) false (fun k17 => onp v13 fun b20 o21 => k17 (.p b20 (Nat.add o21 4)) s14) s14 fun v18 s19 => gdK (.b (cmI .eq n7 (.ofNat
  1))) false (fun k22 => onp v18 fun b25 o26 => ldK b25 o26 s19 fun v27 => k22 v27 s19) s19 fun v23 s24 => gdK (.b (cmI .eq n7 (.ofNat 1))) false (fun k28 =>
  oni v23 fun n31 => k28 (.b (cmI .eq n31 (.ofNat 2))) s24) s24 fun v29 s30 => pkK (.b (cmI .eq n7 (.ofNat 1))) (.ok (.b true)) (.ok v29) fun v32 => nx (fun e33
  s34 => .ok .r e33 s34) (kset e1 2 v32) s30) (kset env 2 (.b false)) s
theorem fe303 : rf303 = fastOf kf303 := by kernel_rfl
noncomputable def rf310 : RFun := .mk 2 [.t 4] fun cl env s => nx (fun e1 s2 => ko e1 0 fun v3 => ko e1 1 fun v4 => bnr (cl 78 [v3, v4] s2) fun v5 s6 => oni v5 fun n7 => gdK (.b (cmI .ne n7 (.ofNat 2))) false (fun k8 =>
  ko e1 0 fun v11 => k8 v11 s6) s6 fun v9 s10 => gdK (.b (cmI .ne n7 (.ofNat 2))) false (fun k12 => onp v9 fun b15 o16 => k12 (.p b15 o16) s10) s10 fun v13 s14
  => gdK (.b (cmI .ne n7 (.ofNat 2))) false (fun k17 => onp v13 fun b20 o21 => k17 (.p b20 (Nat.add o21 0)) s14) s14 fun v18 s19 => gdK (.b (cmI .ne n7 (.ofNat
  2))) false (fun k22 => onp v18 fun b25 o26 => ldK b25 o26 s19 fun v27 => k22 v27 s19) s19 fun v23 s24 => gdK (.b (cmI .ne n7 (.ofNat 2))) false (fun k28 => ko
  e1 1 fun v31 => k28 v31 s24) s24 fun v29 s30 => gdK (.b (cmI .ne n7 (.ofNat 2))) false (fun k32 => onSlx v23 fun b35 o36 q37 => oni v29 fun n39 => onON (nat
  n39) fun i38 => ifX (Nat.blt i38 q37) (k32 (.p b35 (Nat.add o36 (Nat.mul i38 3))) s30)) s30 fun v33 s34 => gdK (.b (cmI .ne n7 (.ofNat 2))) false (fun k40 =>
  onp v33 fun b43 o44 => k40 (.p b43 (Nat.add o44 1)) s34) s34 fun v41 s42 => gdK (.b (cmI .ne n7 (.ofNat 2))) false (fun k45 => onp v41 fun b48 o49 => ldK b48
  o49 s42 fun v50 => k45 v50 s42) s42 fun v46 s47 => pkK (.b (cmI .ne n7 (.ofNat 2))) (.ok (.b true)) (.ok v46) fun v51 => nx (fun e52 s53 => jn (fun e58 s59 =>
  ko e58 0 fun v60 => onp v60 fun b61 o62 => ldK b61 (Nat.add o62 0) s59 fun v63 => ko e58 1 fun v64 => onSlx v63 fun b65 o66 q67 => oni v64 fun n69 => onON
  (nat n69) fun i68 => ifX (Nat.blt i68 q67) (bnr (stV b65 (Nat.add (Nat.add o66 (Nat.mul i68 3)) 1) (.b true) s59) fun v70 s71 => nx (fun e72 s73 => nx (fun
  e74 s75 => .ok .r e74 s75) (kset e72 4 (.b true)) s73) e58 s71)) fun k54 => ko e52 18 fun v55 => cdK v55 (nx (fun e56 s57 => .ok .r e56 s57) (kset e52 4 (.b
  false)) s53) (k54 e52 s53)) (kset e1 18 v51) s47) (kset env 4 (.b false)) s
theorem fe310 : rf310 = fastOf kf310 := by kernel_rfl
noncomputable def rf311 : RFun := .mk 2 [.cn 4 7, .t 5] fun cl env s => bnr (eNew [.i (.ofNat 0), .i (.ofNat 0), .i (.ofNat 0), .i (.ofNat 0), .i (.ofNat 0), .i (.ofNat 0), .ns] .nil s cl) fun v1 s2 => nx (fun e3 s4 => ko e3 1 fun
  v5 => oni v5 fun n6 => nx (fun e7 s8 => jn (fun e21 s22 => ko e21 0 fun v23 => onp v23 fun b24 o25 => ldK b24 (Nat.add o25 0) s22 fun v26 => ko e21 1 fun v27
  => onSlx v26 fun b28 o29 q30 => oni v27 fun n32 => onON (nat n32) fun i31 => ifX (Nat.blt i31 q30) (bnr (ldnP 7 b28 (Nat.add (Nat.add o29 (Nat.mul i31 8))
  0) s22) fun v33 s34 => bnr (eNew [.i (.ofNat 0), .i (.ofNat 0), .i (.ofNat 0), .i (.ofNat 0), .i (.ofNat 0), .i (.ofNat 0), .ns] .nil s34 cl) fun v35 s36 =>
  onp v35 fun b37 o38 => onAx v33 fun l39 => bnr (stnA 7 b37 o38 l39 s36) fun v40 s41 => nx (fun e42 s43 => ko e42 6 fun v44 => onp v44 fun b45 o46 => ldK
  b45 (Nat.add o46 6) s43 fun v47 => bnr (cl 334 [v47] s43) fun v48 s49 => ko e42 6 fun v50 => onp v50 fun b51 o52 => bnr (stV b51 (Nat.add o52 6) v48 s49)
  fun v53 s54 => nx (fun e55 s56 => ko e55 6 fun v57 => onp v57 fun b58 o59 => bnr (ldnP 7 b58 o59 s56) fun v60 s61 => ko e55 4 fun v62 => onp v62 fun b63
  o64 => onAx v60 fun l65 => bnr (stnA 7 b63 o64 l65 s61) fun v66 s67 => nx (fun e68 s69 => .ok .r e68 s69) (kset e55 5 (.b true)) s67) e42 s54) (kset e21 6
  v35) s41)) fun k9 => ko e7 8 fun v10 => cdK v10 (bnr (oL (fill .nil [.i (.ofNat 0), .i (.ofNat 0), .i (.ofNat 0), .i (.ofNat 0), .i (.ofNat 0), .i (.ofNat
  0), .ns] .nil) okA s8) fun v11 s12 => ko e7 4 fun v13 => onp v13 fun b14 o15 => onAx v11 fun l16 => bnr (stnA 7 b14 o15 l16 s12) fun v17 s18 => nx (fun e19
  s20 => .ok .r e19 s20) (kset e7 5 (.b false)) s18) (k9 e7 s8)) (kset e3 8 (.b (cmI .lt n6 (.ofNat 0)))) s4) (kset (kset env 4 v1) 5 (.b false)) s2
theorem fe311 : rf311 = fastOf kf311 := by kernel_rfl
noncomputable def rf312 : RFun := .mk 2 [.t 4] fun cl env s => ko env 1 fun v1 => bnr (boxV v1 s) fun v2 s3 => nx (fun e4 s5 => ko e4 0 fun v6 => onp v6 fun b7 o8 => ldK b7 (Nat.add o8 0) s5 fun v9 => ko e4 3 fun v10 =>
  bnr (cl 356 [v9, (.fn 357 [] [v10])] s5) fun v11 s12 => nx (fun e13 s14 => .ok .r e13 s14) (kset e4 4 v11) s12) (kset (kset env 3 v2) 4 (.i (.ofNat 0))) s3
theorem fe312 : rf312 = fastOf kf312 := by kernel_rfl
noncomputable def rf314 : RFun := .mk 5 [.cn 10 2, .t 11] fun cl env s => ko env 0 fun v1 => bnr (boxV v1 s) fun v2 s3 => bnr (eNew [.b false, .ns] .nil s3 cl) fun v4 s5 => nx (fun e6 s7 => bindX (scR (hC.hAt (.seq (.reg [12, 13]
  [kW 18 5 9, kM 19 4, .s 20 (.call 358 [(.t 18), (.t 19)]), kM 17 20, kE 21 17 0, kE 22 17 1, kM 12 21, kM 13 22]) (.seq (.reg [14, 15] [kW 24 5 9, kM 25 1, .s
  26 (.call 173 [(.t 24), (.t 25)]), kM 23 26, kE 27 23 0, kE 28 23 1, .s 14 (.new [.b false, .ns]), .n (.stn (.t 14) (.t 27) 2), kM 15 28]) (.seq (.reg [16] [.s
  16 (.mv (kI 0))]) (.seq (.seq (.reg [34] [kW 29 5 9, .s 30 (.call 115 [(.t 29)]), .s 31 (.cm .ne (.t 30) (kI 0)), kM 32 31, .gs 32 false 33 (.mv (.t 12)), .s
  34 (.pick (.t 32) (.c (.b true)) (.t 33))]) (.cond (.t 34) (.seq (.reg [16] [.s 16 (.mv (kI 1))]) (.goto 0)) .skip)) (.seq (.seq (.reg [42] [kM 35 15, .s 36
  (.not (.t 35)), kM 37 36, .gs 37 false 38 (.off (.t 14) 0), .gs 37 false 39 (.ld (.t 38)), .gs 37 false 40 (.mv (.t 3)), .gs 37 false 41 (.bne (.t 39) (.t
  40)), .s 42 (.pick (.t 37) (.c (.b true)) (.t 41))]) (.cond (.t 42) (.seq (.reg [16] [.s 16 (.mv (kI 4))]) (.goto 0)) .skip)) (.seq (.seq (.reg [46] [kW 43 14
  2, kM 44 2, .s 45 (.call 259 [(.t 43), (.t 44)]), .s 46 (.cm .lt (.t 45) (kI 0))]) (.cond (.t 46) (.seq (.reg [16] [.s 16 (.mv (kI 5))]) (.goto 0)) .skip))
  (.seq (.seq (.reg [55] [kM 47 4, .s 48 (.len (.t 47)), kW 49 14 2, kM 50 2, .s 51 (.call 259 [(.t 49), (.t 50)]), .s 52 (.cm .ne (.t 48) (.t 51)), kM 53 52,
  .gs 53 false 54 (.mv (.t 13)), .s 55 (.pick (.t 53) (.c (.b true)) (.t 54))]) (.cond (.t 55) (.reg [16] [.s 16 (.mv (kI 2))]) .skip)) (.seq (.label 0) (.seq
  (.reg [11] [kW 56 14 2, kM 57 16, .n (.stn (.t 10) (.t 56) 2), kM 11 57]) .ret)))))))))) lpFuel (fun cl e8 s9 => ko e8 5 fun v10 => onp v10 fun b11 o12 =>
  bnr (ldnP 9 b11 o12 s9) fun v13 s14 => ko e8 4 fun v15 => bnr (cl 358 [v13, v15] s14) fun v16 s17 => extK v16 0 fun v18 => extK v16 1 fun v19 => nx (fun
  e20 s21 => ko e20 5 fun v22 => onp v22 fun b23 o24 => bnr (ldnP 9 b23 o24 s21) fun v25 s26 => ko e20 1 fun v27 => bnr (cl 173 [v25, v27] s26) fun v28 s29
  => extK v28 0 fun v30 => extK v28 1 fun v31 => bnr (eNew [.b false, .ns] .nil s29 cl) fun v32 s33 => onp v32 fun b34 o35 => onAx v30 fun l36 => bnr (stnA
  2 b34 o35 l36 s33) fun v37 s38 => nx (fun e39 s40 => nx (fun e41 s42 => ko e41 5 fun v43 => onp v43 fun b44 o45 => bnr (ldnP 9 b44 o45 s42) fun v46 s47 =>
  bnr (cl 115 [v46] s47) fun v48 s49 => oni v48 fun n50 => gdK (.b (cmI .ne n50 (.ofNat 0))) false (fun k51 => ko e41 12 fun v54 => k51 v54 s49) s49 fun v52
  s53 => pkK (.b (cmI .ne n50 (.ofNat 0))) (.ok (.b true)) (.ok v52) fun v55 => nx (fun e56 s57 => jn (fun e62 s63 => ko e62 15 fun v64 => onBx v64 fun c65 =>
  gdK (.b (neg c65)) false (fun k66 => ko e62 14 fun v69 => onp v69 fun b70 o71 => k66 (.p b70 (Nat.add o71 0)) s63) s63 fun v67 s68 => gdK (.b (neg c65)) false
  (fun k72 => onp v67 fun b75 o76 => ldK b75 o76 s68 fun v77 => k72 v77 s68) s68 fun v73 s74 => gdK (.b (neg c65)) false (fun k78 => ko e62 3 fun v81 => k78 v81
  s74) s74 fun v79 s80 => gdK (.b (neg c65)) false (fun k82 => onBx v73 fun c85 => onBx v79 fun c86 => k82 (.b (neg (eqB c85 c86))) s80) s80 fun v83 s84 => pkK
  (.b (neg c65)) (.ok (.b true)) (.ok v83) fun v87 => nx (fun e88 s89 => jn (fun e94 s95 => ko e94 14 fun v96 => onp v96 fun b97 o98 => bnr (ldnP 2 b97 o98
  s95) fun v99 s100 => ko e94 2 fun v101 => bnr (cl 259 [v99, v101] s100) fun v102 s103 => oni v102 fun n104 => nx (fun e105 s106 => jn (fun e111 s112 => ko
  e111 4 fun v113 => bnr (lenV v113 s112) fun v114 s115 => ko e111 14 fun v116 => onp v116 fun b117 o118 => bnr (ldnP 2 b117 o118 s115) fun v119 s120 => ko
  e111 2 fun v121 => bnr (cl 259 [v119, v121] s120) fun v122 s123 => oni v114 fun n124 => oni v122 fun n125 => gdK (.b (cmI .ne n124 n125)) false (fun k126
  => ko e111 13 fun v129 => k126 v129 s123) s123 fun v127 s128 => pkK (.b (cmI .ne n124 n125)) (.ok (.b true)) (.ok v127) fun v130 => nx (fun e131 s132 => jn
  (fun e135 s136 => (fun e137 s138 => ko e137 14 fun v139 => onp v139 fun b140 o141 => bnr (ldnP 2 b140 o141 s138) fun v142 s143 => ko e137 16 fun v144 => ko
  e137 10 fun v145 => onp v145 fun b146 o147 => onAx v142 fun l148 => bnr (stnA 2 b146 o147 l148 s143) fun v149 s150 => nx (fun e151 s152 => .ok .r e151 s152)
  (kset e137 11 v144) s150) e135 s136) fun k133 => ko e131 55 fun v134 => cdK v134 (nx (k133) (kset e131 16 (.i (.ofNat 2))) s132) (k133 e131 s132)) (kset e111
  55 v130) s128) fun k107 => ko e105 46 fun v108 => cdK v108 (nx (fun e109 s110 => .ok (.g 0) e109 s110) (kset e105 16 (.i (.ofNat 5))) s106) (k107 e105 s106))
  (kset e94 46 (.b (cmI .lt n104 (.ofNat 0)))) s103) fun k90 => ko e88 42 fun v91 => cdK v91 (nx (fun e92 s93 => .ok (.g 0) e92 s93) (kset e88 16 (.i (.ofNat
  4))) s89) (k90 e88 s89)) (kset e62 42 v87) s84) fun k58 => ko e56 34 fun v59 => cdK v59 (nx (fun e60 s61 => .ok (.g 0) e60 s61) (kset e56 16 (.i (.ofNat 1)))
  s57) (k58 e56 s57)) (kset e41 34 v55) s53) (kset e39 16 (.i (.ofNat 0))) s40) (kset (kset e20 14 v32) 15 v31) s38) (kset (kset e8 12 v18) 13 v19) s17) cl e6
  s7) (idk)) (kset (kset (kset env 5 v2) 10 v4) 11 (.i (.ofNat 0))) s5
theorem fe314 : rf314 = fastOf kf314 := by kernel_rfl
noncomputable def rf315 : RFun := .mk 2 [.t 4] fun cl env s => nx (fun e1 s2 => ko e1 0 fun v3 => oni v3 fun n4 => gdK (.b (cmI .lt n4 (.ofNat 0))) false (fun k5 => ko e1 0 fun v8 => k5 v8 s2) s2 fun v6 s7 => gdK (.b (cmI
  .lt n4 (.ofNat 0))) false (fun k9 => oni v6 fun n12 => k9 (.b (cmI .gt n12 (.ofNat 1099511627776))) s7) s7 fun v10 s11 => pkK (.b (cmI .lt n4 (.ofNat 0)))
  (.ok (.b true)) (.ok v10) fun v13 => gdK v13 false (fun k14 => ko e1 1 fun v17 => k14 v17 s11) s11 fun v15 s16 => gdK v13 false (fun k18 => oni v15 fun n21 =>
  k18 (.b (cmI .lt n21 (.ofNat 0))) s16) s16 fun v19 s20 => pkK v13 (.ok (.b true)) (.ok v19) fun v22 => gdK v22 false (fun k23 => ko e1 1 fun v26 => k23 v26
  s20) s20 fun v24 s25 => gdK v22 false (fun k27 => oni v24 fun n30 => k27 (.b (cmI .gt n30 (.ofNat 1099511627776))) s25) s25 fun v28 s29 => pkK v22 (.ok (.b
  true)) (.ok v28) fun v31 => nx (fun e32 s33 => jn (fun e38 s39 => ko e38 0 fun v40 => bnr (eKp (.q (.cif (.c v40))) .nil s39 cl) fun v41 s42 => ko e38 1 fun
  v43 => bnr (eKp (.q (.cif (.c v43))) .nil s42 cl) fun v44 s45 => bnr (eKp (.q (.cplx (.c v41) (.c v44))) .nil s45 cl) fun v46 s47 => nx (fun e48 s49 => .ok
  .r e48 s49) (kset e38 4 v46) s47) fun k34 => ko e32 18 fun v35 => cdK v35 (nx (fun e36 s37 => .ok .r e36 s37) (kset e32 4 (.z 0 0)) s33) (k34 e32 s33)) (kset
  e1 18 v31) s29) (kset env 4 (.z 0 0)) s
theorem fe315 : rf315 = fastOf kf315 := by kernel_rfl
noncomputable def rf316 : RFun := .mk 1 [.t 2] fun cl env s => nx (fun e1 s2 => nx (fun e3 s4 => bkK (bindX (lpR (fun cl e5 s6 => ko e5 3 fun v7 => ko e5 0 fun v8 => bnr (lenV v8 s6) fun v9 s10 => oni v7 fun n11 => oni
  v9 fun n12 => nx (fun e13 s14 => jn (fun e17 s18 => bkK (ko e17 0 fun v19 => ko e17 3 fun v20 => oni v20 fun n21 => frcI (wrapI (arI .sub n21 (.ofNat 1))) fun
  n22 => onSlx v19 fun b23 o24 q25 => onON (nat n22) fun i26 => ifX (Nat.blt i26 q25) (ldK b23 (Nat.add o24 (Nat.mul i26 1)) s18 fun v27 => oni v27 fun n28 =>
  gdK (.b (cmI .eq n28 (.ofNat 9223372036854775807))) false (fun k29 => ko e17 0 fun v32 => k29 v32 s18) s18 fun v30 s31 => gdK (.b (cmI .eq n28 (.ofNat
  9223372036854775807))) false (fun k33 => ko e17 3 fun v36 => k33 v36 s18) s18 fun v34 s35 => gdK (.b (cmI .eq n28 (.ofNat 9223372036854775807))) false (fun k37
  => onSlx v30 fun b40 o41 q42 => oni v34 fun n44 => onON (nat n44) fun i43 => ifX (Nat.blt i43 q42) (k37 (.p b40 (Nat.add o41 (Nat.mul i43 1))) s18)) s18 fun
  v38 s39 => gdK (.b (cmI .eq n28 (.ofNat 9223372036854775807))) false (fun k45 => onp v38 fun b48 o49 => ldK b48 o49 s18 fun v50 => k45 v50 s18) s18 fun v46
  s47 => gdK (.b (cmI .eq n28 (.ofNat 9223372036854775807))) false (fun k51 => ko e17 0 fun v54 => k51 v54 s18) s18 fun v52 s53 => gdK (.b (cmI .eq n28 (.ofNat
  9223372036854775807))) false (fun k55 => ko e17 3 fun v58 => k55 v58 s18) s18 fun v56 s57 => gdK (.b (cmI .eq n28 (.ofNat 9223372036854775807))) false (fun k59
  => oni v56 fun n62 => frcI (wrapI (arI .sub n62 (.ofNat 1))) fun n63 => k59 (.i n63) s18) s18 fun v60 s61 => gdK (.b (cmI .eq n28 (.ofNat
  9223372036854775807))) false (fun k64 => onSlx v52 fun b67 o68 q69 => oni v60 fun n71 => onON (nat n71) fun i70 => ifX (Nat.blt i70 q69) (k64 (.p b67 (Nat.add
  o68 (Nat.mul i70 1))) s18)) s18 fun v65 s66 => gdK (.b (cmI .eq n28 (.ofNat 9223372036854775807))) false (fun k72 => onp v65 fun b75 o76 => ldK b75 o76 s18
  fun v77 => k72 v77 s18) s18 fun v73 s74 => gdK (.b (cmI .eq n28 (.ofNat 9223372036854775807))) false (fun k78 => oni v73 fun n81 => frcI (wrapI (arI .add n81
  (.ofNat 1))) fun n82 => k78 (.i n82) s18) s18 fun v79 s80 => gdK (.b (cmI .eq n28 (.ofNat 9223372036854775807))) false (fun k83 => oni v46 fun n86 => oni v79
  fun n87 => k83 (.b (cmI .ne n86 n87)) s18) s18 fun v84 s85 => pkK (.b (cmI .eq n28 (.ofNat 9223372036854775807))) (.ok (.b true)) (.ok v84) fun v88 => nx (fun
  e89 s90 => jn (idk) fun k91 => ko e89 28 fun v92 => cdK v92 (nx (fun e93 s94 => .ok .r e93 s94) (kset e89 2 (.b false)) s90) (k91 e89 s90)) (kset e17 28 v88)
  s18)) 1 (fun e95 s96 => ko e95 3 fun v97 => oni v97 fun n98 => frcI (wrapI (arI .add n98 (.ofNat 1))) fun n99 => nx (idk) (kset e95 3 (.i n99)) s96)) fun k15
  => ko e13 7 fun v16 => cdK v16 (k15 e13 s14) (.ok (.x 0) e13 s14)) (kset e5 7 (.b (cmI .lt n11 n12))) s10) lpFuel cl e3 s4) (idk)) 0 (fun e100 s101 => nx (fun
  e102 s103 => .ok .r e102 s103) (kset e100 2 (.b true)) s101)) (kset e1 3 (.i (.ofNat 1))) s2) (kset env 2 (.b false)) s
theorem fe316 : rf316 = fastOf kf316 := by kernel_rfl
noncomputable def rf317 : RFun := .mk 3 [] fun cl env s => ko env 0 fun v1 => bnr (boxV v1 s) fun v2 s3 => nx (fun e4 s5 => ko e4 3 fun v6 => onp v6 fun b7 o8 => ldK b7 (Nat.add o8 1) s5 fun v9 => bnr (lenV v9 s5)
  fun v10 s11 => nx (fun e12 s13 => bkK (bindX (lpR (fun cl e14 s15 => ko e14 14 fun v16 => ko e14 13 fun v17 => oni v16 fun n18 => oni v17 fun n19 => nx (fun
  e20 s21 => jn (fun e24 s25 => bkK (ko e24 14 fun v26 => ko e24 12 fun v27 => ko e24 14 fun v28 => onSlx v27 fun b29 o30 q31 => oni v28 fun n33 => onON (nat
  n33) fun i32 => ifX (Nat.blt i32 q31) (ldK b29 (Nat.add o30 (Nat.mul i32 1)) s25 fun v34 => nx (fun e35 s36 => ko e35 3 fun v37 => onp v37 fun b38 o39 =>
  bnr (ldnP 2 b38 o39 s36) fun v40 s41 => ko e35 6 fun v42 => bnr (cl 260 [v40, v42] s41) fun v43 s44 => extK v43 0 fun v45 => extK v43 1 fun v46 => extK v43
  2 fun v47 => nx (fun e48 s49 => ko e48 10 fun v50 => gdK v50 true (fun k51 => ko e48 8 fun v54 => k51 v54 s49) s49 fun v52 s53 => gdK v50 true (fun k55 => ko
  e48 1 fun v58 => k55 v58 s53) s53 fun v56 s57 => gdK v50 true (fun k59 => oni v52 fun n62 => oni v56 fun n63 => k59 (.b (cmI .eq n62 n63)) s57) s57 fun v60
  s61 => pkK v50 (.ok v60) (.ok (.b false)) fun v64 => nx (fun e65 s66 => jn (idk) fun k67 => ko e65 31 fun v68 => cdK v68 (ko e65 2 fun v69 => ko e65 9 fun v70
  => ko e65 7 fun v71 => bnr (cl 323 [v71] s66) fun v72 s73 => onp v69 fun b74 o75 => bnr (eKp (.q (.iar (.c (.p b74 o75)) (.c v70) 1 8)) .nil s66 cl) fun
  v76 s77 => onp v76 fun b78 o79 => bnr (stV b78 o79 v72 s66) fun v80 s81 => nx (k67) e65 s81) (k67 e65 s66)) (kset e48 31 v64) s61) (kset (kset (kset e35 8
  v45) 9 v46) 10 v47) s44) (kset (kset e24 6 v26) 7 v34) s25)) 1 (fun e82 s83 => ko e82 14 fun v84 => oni v84 fun n85 => frcI (wrapI (arI .add n85 (.ofNat 1)))
  fun n86 => nx (idk) (kset e82 14 (.i n86)) s83)) fun k22 => ko e20 15 fun v23 => cdK v23 (k22 e20 s21) (.ok (.x 0) e20 s21)) (kset e14 15 (.b (cmI .lt n18
  n19))) s15) lpFuel cl e12 s13) (idk)) 0 (idk)) (kset (kset (kset e4 12 v9) 13 v10) 14 (.i (.ofNat 0))) s11) (kset env 3 v2) s3
theorem fe317 : rf317 = fastOf kf317 := by kernel_rfl
noncomputable def rf318 : RFun := .mk 4 [.t 8] fun cl env s => ko env 0 fun v1 => bnr (boxV v1 s) fun v2 s3 => ko env 3 fun v4 => bnr (boxV v4 s3) fun v5 s6 => nx (fun e7 s8 => ko e7 7 fun v9 => onp v9 fun b10 o11 =>
  bnr (ldnP 8 b10 o11 s8) fun v12 s13 => nx (fun e14 s15 => bkK (bindX (lpR (fun cl e16 s17 => ko e16 14 fun v18 => oni v18 fun n19 => nx (fun e20 s21 => jn
  (fun e24 s25 => bkK (ko e24 14 fun v26 => ko e24 13 fun v27 => ko e24 14 fun v28 => bnr (eKp (.q (.ixa (.c v27) (.c v28) 8)) .nil s25 cl) fun v29 s30 => nx
  (fun e31 s32 => ko e31 4 fun v33 => onp v33 fun b34 o35 => bnr (ldnP 9 b34 o35 s32) fun v36 s37 => ko e31 2 fun v38 => ko e31 9 fun v39 => bnr (cl 254
  [v36, v38, v39] s37) fun v40 s41 => extK v40 0 fun v42 => extK v40 1 fun v43 => nx (fun e44 s45 => ko e44 1 fun v46 => ko e44 11 fun v47 => ko e44 10 fun v48
  => bnr (oL (fill (.cons 0 1 (.c v47) (.cons 1 1 (.c v48) .nil)) [.i (.ofNat 0), .z 0 0] .nil) okA s45) fun v49 s50 => bnr (oL (fill (.cons 0 2 (.c v49)
  .nil) (repL [.i (.ofNat 0), .z 0 0] 1) .nil) (bsl1 1 (lenL [.i (.ofNat 0), .z 0 0])) s50) fun v51 s52 => bnr (ap0 2 24 (.ok v51) v46 s52) fun v53 s54 => nx
  (idk) (kset e44 1 v53) s54) (kset e31 11 v42) s41) (kset (kset e24 9 v26) 10 v29) s30) 1 (fun e55 s56 => ko e55 14 fun v57 => oni v57 fun n58 => frcI (wrapI
  (arI .add n58 (.ofNat 1))) fun n59 => nx (idk) (kset e55 14 (.i n59)) s56)) fun k22 => ko e20 15 fun v23 => cdK v23 (k22 e20 s21) (.ok (.x 0) e20 s21)) (kset
  e16 15 (.b (cmI .lt n19 (.ofNat 8)))) s17) lpFuel cl e14 s15) (idk)) 0 (fun e60 s61 => ko e60 1 fun v62 => nx (fun e63 s64 => .ok .r e63 s64) (kset e60 8 v62)
  s61)) (kset (kset e7 13 v12) 14 (.i (.ofNat 0))) s13) (kset (kset (kset env 4 v2) 7 v5) 8 (.ns)) s6
theorem fe318 : rf318 = fastOf kf318 := by kernel_rfl
noncomputable def rf323 : RFun := .mk 1 [.t 2] fun cl env s => nx (fun e1 s2 => ko e1 0 fun v3 => nx (fun e4 s5 => jn (fun e12 s13 => bnr (cl 226 [(.i (.ofNat 0))] s13) fun v14 s15 => nx (fun e16 s17 => .ok .r e16 s17)
  (kset e12 2 v14) s15) fun k6 => ko e4 3 fun v7 => cdK v7 (bnr (cl 123 [] s5) fun v8 s9 => nx (fun e10 s11 => .ok .r e10 s11) (kset e4 2 v8) s9) (k6 e4 s5))
  (kset e1 3 v3) s2) (kset env 2 (.z 0 0)) s
theorem fe323 : rf323 = fastOf kf323 := by kernel_rfl
noncomputable def rf329 : RFun := .mk 2 [.t 4, .t 5] fun cl env s => nx (fun e1 s2 => ko e1 1 fun v3 => oni v3 fun n4 => nx (fun e5 s6 => jn (fun e11 s12 => nx (fun e13 s14 => ko e13 0 fun v15 => onp v15 fun b16 o17 => ldK b16
  (Nat.add o17 0) s14 fun v18 => bnr (lenV v18 s14) fun v19 s20 => oni v19 fun n21 => frcI (wrapI (arI .sub n21 (.ofNat 1))) fun n22 => nx (fun e23 s24 => bkK
  (bindX (lpR (fun cl e25 s26 => ko e25 7 fun v27 => oni v27 fun n28 => nx (fun e29 s30 => jn (fun e33 s34 => bkK (ko e33 0 fun v35 => onp v35 fun b36 o37 =>
  ldK b36 (Nat.add o37 0) s34 fun v38 => ko e33 7 fun v39 => onSlx v38 fun b40 o41 q42 => oni v39 fun n44 => onON (nat n44) fun i43 => ifX (Nat.blt i43 q42)
  (ldK b40 (Nat.add o41 (Nat.mul i43 1)) s34 fun v45 => onBx v45 fun c46 => nx (fun e47 s48 => jn (fun e53 s54 => ko e53 6 fun v55 => oni v55 fun n56 => frcI
  (wrapI (arI .add n56 (.ofNat 1))) fun n57 => nx (fun e58 s59 => ko e58 6 fun v60 => ko e58 1 fun v61 => oni v60 fun n62 => oni v61 fun n63 => nx (fun e64 s65
  => jn (idk) fun k66 => ko e64 32 fun v67 => cdK v67 (ko e64 7 fun v68 => nx (fun e69 s70 => .ok .r e69 s70) (kset (kset e64 4 v68) 5 (.b true)) s65) (k66 e64
  s65)) (kset e58 32 (.b (cmI .eq n62 n63))) s59) (kset e53 6 (.i n57)) s54) fun k49 => ko e47 27 fun v50 => cdK v50 (nx (fun e51 s52 => .ok (.x 1) e51 s52)
  (kset e47 6 (.i (.ofNat 0))) s48) (k49 e47 s48)) (kset e33 27 (.b (neg c46))) s34)) 1 (fun e71 s72 => ko e71 7 fun v73 => oni v73 fun n74 => frcI (wrapI (arI
  .sub n74 (.ofNat 1))) fun n75 => nx (idk) (kset e71 7 (.i n75)) s72)) fun k31 => ko e29 17 fun v32 => cdK v32 (k31 e29 s30) (.ok (.x 0) e29 s30)) (kset e25 17
  (.b (cmI .ge n28 (.ofNat 0)))) s26) lpFuel cl e23 s24) (idk)) 0 (fun e76 s77 => nx (fun e78 s79 => .ok .r e78 s79) (kset (kset e76 4 (.i (.ofNat 0))) 5 (.b
  false)) s77)) (kset e13 7 (.i n22)) s20) (kset e11 6 (.i (.ofNat 0))) s12) fun k7 => ko e5 9 fun v8 => cdK v8 (nx (fun e9 s10 => .ok .r e9 s10) (kset (kset e5
  4 (.i (.ofNat 0))) 5 (.b false)) s6) (k7 e5 s6)) (kset e1 9 (.b (cmI .lt n4 (.ofNat 1)))) s2) (kset (kset env 4 (.i (.ofNat 0))) 5 (.b false)) s
theorem fe329 : rf329 = fastOf kf329 := by kernel_rfl
noncomputable def rf331 : RFun := .mk 2 [.t 4, .t 5] fun cl env s => nx (fun e1 s2 => ko e1 1 fun v3 => oni v3 fun n4 => gdK (.b (cmI .lt n4 (.ofNat 1))) false (fun k5 => ko e1 1 fun v8 => k5 v8 s2) s2 fun v6 s7 => gdK (.b (cmI
  .lt n4 (.ofNat 1))) false (fun k9 => ko e1 0 fun v12 => k9 v12 s7) s7 fun v10 s11 => gdK (.b (cmI .lt n4 (.ofNat 1))) false (fun k13 => onp v10 fun b16 o17 =>
  k13 (.p b16 o17) s11) s11 fun v14 s15 => gdK (.b (cmI .lt n4 (.ofNat 1))) false (fun k18 => onp v14 fun b21 o22 => k18 (.p b21 (Nat.add o22 1)) s15) s15 fun
  v19 s20 => gdK (.b (cmI .lt n4 (.ofNat 1))) false (fun k23 => onp v19 fun b26 o27 => ldK b26 o27 s20 fun v28 => k23 v28 s20) s20 fun v24 s25 => gdK (.b (cmI
  .lt n4 (.ofNat 1))) false (fun k29 => oni v6 fun n32 => oni v24 fun n33 => k29 (.b (cmI .gt n32 n33)) s25) s25 fun v30 s31 => pkK (.b (cmI .lt n4 (.ofNat
  1))) (.ok (.b true)) (.ok v30) fun v34 => nx (fun e35 s36 => jn (fun e41 s42 => ko e41 0 fun v43 => ko e41 1 fun v44 => bnr (cl 329 [v43, v44] s42) fun v45
  s46 => extK v45 0 fun v47 => extK v45 1 fun v48 => nx (fun e49 s50 => ko e49 7 fun v51 => onBx v51 fun c52 => nx (fun e53 s54 => jn (fun e63 s64 => nx (fun e65
  s66 => ko e65 6 fun v67 => nx (fun e68 s69 => bkK (bindX (lpR (fun cl e70 s71 => ko e70 9 fun v72 => ko e70 6 fun v73 => ko e70 1 fun v74 => oni v73 fun n75
  => oni v74 fun n76 => frcI (wrapI (arI .add n75 n76)) fun n77 => oni v72 fun n78 => nx (fun e79 s80 => jn (fun e83 s84 => bkK (ko e83 0 fun v85 => ko e83 9
  fun v86 => bnr (cl 371 [v85, v86] s84) fun v87 s88 => nx (fun e89 s90 => ko e89 8 fun v91 => ko e89 9 fun v92 => bnr (oL (fill (.cons 0 1 (.c v92) .nil)
  (repL [.i (.ofNat 0)] 1) .nil) (bsl1 1 (lenL [.i (.ofNat 0)])) s90) fun v93 s94 => bnr (ap0 1 8 (.ok v93) v91 s94) fun v95 s96 => nx (idk) (kset e89 8 v95)
  s96) e83 s88) 1 (fun e97 s98 => ko e97 9 fun v99 => oni v99 fun n100 => frcI (wrapI (arI .add n100 (.ofNat 1))) fun n101 => nx (idk) (kset e97 9 (.i n101))
  s98)) fun k81 => ko e79 36 fun v82 => cdK v82 (k81 e79 s80) (.ok (.x 0) e79 s80)) (kset e70 36 (.b (cmI .lt n78 n77))) s71) lpFuel cl e68 s69) (idk)) 0 (fun
  e102 s103 => ko e102 8 fun v104 => nx (fun e105 s106 => .ok .r e105 s106) (kset (kset e102 4 v104) 5 (.b true)) s103)) (kset e65 9 v67) s66) (kset e63 8 (.ns))
  s64) fun k55 => ko e53 27 fun v56 => cdK v56 (ko e53 0 fun v57 => ko e53 1 fun v58 => bnr (cl 348 [v57, v58] s54) fun v59 s60 => nx (fun e61 s62 => .ok .r
  e61 s62) (kset (kset e53 4 v59) 5 (.b true)) s60) (k55 e53 s54)) (kset e49 27 (.b (neg c52))) s50) (kset (kset e41 6 v47) 7 v48) s46) fun k37 => ko e35 19 fun
  v38 => cdK v38 (nx (fun e39 s40 => .ok .r e39 s40) (kset (kset e35 4 (.ns)) 5 (.b false)) s36) (k37 e35 s36)) (kset e1 19 v34) s31) (kset (kset env 4 (.ns)) 5
  (.b false)) s
theorem fe331 : rf331 = fastOf kf331 := by kernel_rfl
noncomputable def rf344 : RFun := .mk 2 [.t 4] fun cl env s => nx (fun e1 s2 => ko e1 0 fun v3 => bnr (lenV v3 s2) fun v4 s5 => nx (fun e6 s7 => bkK (bindX (lpR (fun cl e8 s9 => ko e8 8 fun v10 => ko e8 7 fun v11 => oni
  v10 fun n12 => oni v11 fun n13 => nx (fun e14 s15 => jn (fun e18 s19 => bkK (ko e18 8 fun v20 => nx (fun e21 s22 => ko e21 1 fun v23 => ko e21 0 fun v24 => ko
  e21 5 fun v25 => onSlx v24 fun b26 o27 q28 => oni v25 fun n30 => onON (nat n30) fun i29 => ifX (Nat.blt i29 q28) (bnr (ldnP 2 b26 (Nat.add o27 (Nat.mul i29
  2)) s22) fun v31 s32 => cvK v23 [v31] s32 cl fun v33 s34 => nx (fun e35 s36 => jn (idk) fun k37 => ko e35 16 fun v38 => cdK v38 (ko e35 5 fun v39 => nx (fun
  e40 s41 => .ok .r e40 s41) (kset e35 4 v39) s36) (k37 e35 s36)) (kset e21 16 v33) s34)) (kset e18 5 v20) s19) 1 (fun e42 s43 => ko e42 8 fun v44 => oni v44
  fun n45 => frcI (wrapI (arI .add n45 (.ofNat 1))) fun n46 => nx (idk) (kset e42 8 (.i n46)) s43)) fun k16 => ko e14 9 fun v17 => cdK v17 (k16 e14 s15) (.ok (.x
  0) e14 s15)) (kset e8 9 (.b (cmI .lt n12 n13))) s9) lpFuel cl e6 s7) (idk)) 0 (fun e47 s48 => nx (fun e49 s50 => .ok .r e49 s50) (kset e47 4 (.i (.negSucc 0)))
  s48)) (kset (kset e1 7 v4) 8 (.i (.ofNat 0))) s5) (kset env 4 (.i (.ofNat 0))) s
theorem fe344 : rf344 = fastOf kf344 := by kernel_rfl
noncomputable def rf346 : RFun := .mk 2 [.t 4, .t 5] fun cl env s => nx (fun e1 s2 => ko e1 1 fun v3 => oni v3 fun n4 => gdK (.b (cmI .lt n4 (.ofNat 1))) false (fun k5 => ko e1 1 fun v8 => k5 v8 s2) s2 fun v6 s7 => gdK (.b (cmI
  .lt n4 (.ofNat 1))) false (fun k9 => ko e1 0 fun v12 => k9 v12 s7) s7 fun v10 s11 => gdK (.b (cmI .lt n4 (.ofNat 1))) false (fun k13 => onp v10 fun b16 o17 =>
  k13 (.p b16 o17) s11) s11 fun v14 s15 => gdK (.b (cmI .lt n4 (.ofNat 1))) false (fun k18 => onp v14 fun b21 o22 => k18 (.p b21 (Nat.add o22 0)) s15) s15 fun
  v19 s20 => gdK (.b (cmI .lt n4 (.ofNat 1))) false (fun k23 => onp v19 fun b26 o27 => ldK b26 o27 s20 fun v28 => k23 v28 s20) s20 fun v24 s25 => gdK (.b (cmI
  .lt n4 (.ofNat 1))) false (fun k29 => bnr (lenV v24 s25) fun v32 s33 => k29 v32 s33) s25 fun v30 s31 => gdK (.b (cmI .lt n4 (.ofNat 1))) false (fun k34 =>
  oni v6 fun n37 => oni v30 fun n38 => k34 (.b (cmI .gt n37 n38)) s31) s31 fun v35 s36 => pkK (.b (cmI .lt n4 (.ofNat 1))) (.ok (.b true)) (.ok v35) fun v39 =>
  nx (fun e40 s41 => jn (fun e46 s47 => ko e46 0 fun v48 => onp v48 fun b49 o50 => ldK b49 (Nat.add o50 0) s47 fun v51 => ko e46 1 fun v52 => bnr (eKp (.q
  (.sli (.c v51) 1 .no (.ok (.c v52)))) .nil s47 cl) fun v53 s54 => bnr (cl 334 [v53] s54) fun v55 s56 => nx (fun e57 s58 => ko e57 0 fun v59 => ko e57 0 fun
  v60 => onp v60 fun b61 o62 => ldK b61 (Nat.add o62 0) s58 fun v63 => ko e57 1 fun v64 => bnr (eKp (.q (.sli (.c v63) 1 (.ok (.c v64)) .no)) .nil s58 cl) fun
  v65 s66 => bnr (cl 334 [v65] s66) fun v67 s68 => onp v59 fun b69 o70 => bnr (stV b69 (Nat.add o70 0) v67 s68) fun v71 s72 => nx (fun e73 s74 => ko e73 6
  fun v75 => nx (fun e76 s77 => .ok .r e76 s77) (kset (kset e73 4 v75) 5 (.b true)) s74) e57 s72) (kset e46 6 v55) s56) fun k42 => ko e40 17 fun v43 => cdK v43
  (nx (fun e44 s45 => .ok .r e44 s45) (kset (kset e40 4 (.ns)) 5 (.b false)) s41) (k42 e40 s41)) (kset e1 17 v39) s36) (kset (kset env 4 (.ns)) 5 (.b false)) s
theorem fe346 : rf346 = fastOf kf346 := by kernel_rfl
noncomputable def rf348 : RFun := .mk 2 [.t 4] fun cl env s => nx (fun e1 s2 => nx (fun e3 s4 => nx (fun e5 s6 => bkK (bindX (lpR (fun cl e7 s8 => ko e7 6 fun v9 => ko e7 0 fun v10 => onp v10 fun b11 o12 => ldK b11 (Nat.add
  o12 0) s8 fun v13 => bnr (lenV v13 s8) fun v14 s15 => oni v9 fun n16 => oni v14 fun n17 => gdK (.b (cmI .lt n16 n17)) true (fun k18 => ko e7 5 fun v21 =>
  k18 v21 s15) s15 fun v19 s20 => gdK (.b (cmI .lt n16 n17)) true (fun k22 => bnr (lenV v19 s20) fun v25 s26 => k22 v25 s26) s20 fun v23 s24 => gdK (.b (cmI
  .lt n16 n17)) true (fun k27 => ko e7 1 fun v30 => k27 v30 s24) s24 fun v28 s29 => gdK (.b (cmI .lt n16 n17)) true (fun k31 => oni v23 fun n34 => oni v28 fun
  n35 => k31 (.b (cmI .lt n34 n35)) s29) s29 fun v32 s33 => pkK (.b (cmI .lt n16 n17)) (.ok v32) (.ok (.b false)) fun v36 => nx (fun e37 s38 => jn (fun e41 s42
  => bkK (ko e41 0 fun v43 => onp v43 fun b44 o45 => ldK b44 (Nat.add o45 0) s42 fun v46 => ko e41 6 fun v47 => onSlx v46 fun b48 o49 q50 => oni v47 fun n52 =>
  onON (nat n52) fun i51 => ifX (Nat.blt i51 q50) (ldK b48 (Nat.add o49 (Nat.mul i51 1)) s42 fun v53 => nx (fun e54 s55 => jn (idk) fun k56 => ko e54 28 fun v57
  => cdK v57 (ko e54 0 fun v58 => ko e54 6 fun v59 => bnr (cl 371 [v58, v59] s55) fun v60 s61 => nx (fun e62 s63 => ko e62 5 fun v64 => ko e62 6 fun v65 =>
  bnr (oL (fill (.cons 0 1 (.c v65) .nil) (repL [.i (.ofNat 0)] 1) .nil) (bsl1 1 (lenL [.i (.ofNat 0)])) s63) fun v66 s67 => bnr (ap0 1 8 (.ok v66) v64 s67)
  fun v68 s69 => nx (k56) (kset e62 5 v68) s69) e54 s61) (k56 e54 s55)) (kset e41 28 v53) s42)) 1 (fun e70 s71 => ko e70 6 fun v72 => oni v72 fun n73 => frcI
  (wrapI (arI .add n73 (.ofNat 1))) fun n74 => nx (idk) (kset e70 6 (.i n74)) s71)) fun k39 => ko e37 19 fun v40 => cdK v40 (k39 e37 s38) (.ok (.x 0) e37 s38))
  (kset e7 19 v36) s33) lpFuel cl e5 s6) (idk)) 0 (fun e75 s76 => ko e75 5 fun v77 => nx (fun e78 s79 => .ok .r e78 s79) (kset e75 4 v77) s76)) (kset e3 6 (.i
  (.ofNat 0))) s4) (kset e1 5 (.ns)) s2) (kset env 4 (.ns)) s
theorem fe348 : rf348 = fastOf kf348 := by kernel_rfl
noncomputable def rf349 : RFun := .mk 1 [.t 2] fun cl env s => nx (fun e1 s2 => ko e1 0 fun v3 => onp v3 fun b4 o5 => ldK b4 (Nat.add o5 1) s2 fun v6 => ko e1 0 fun v7 => onp v7 fun b8 o9 => ldK b8 (Nat.add o9 0) s2 fun
  v10 => bnr (lenV v10 s2) fun v11 s12 => oni v6 fun n13 => oni v11 fun n14 => frcI (wrapI (arI .sub n13 n14)) fun n15 => nx (fun e16 s17 => .ok .r e16 s17)
  (kset e1 2 (.i n15)) s2) (kset env 2 (.i (.ofNat 0))) s
theorem fe349 : rf349 = fastOf kf349 := by kernel_rfl
noncomputable def rf350 : RFun := .mk 2 [.t 4] fun cl env s => nx (fun e1 s2 => ko e1 1 fun v3 => bnr (lenV v3 s2) fun v4 s5 => ko e1 0 fun v6 => bnr (cl 349 [v6] s5) fun v7 s8 => oni v4 fun n9 => oni v7 fun n10 => nx
  (fun e11 s12 => jn (fun e17 s18 => ko e17 0 fun v19 => ko e17 0 fun v20 => onp v20 fun b21 o22 => ldK b21 (Nat.add o22 0) s18 fun v23 => ko e17 1 fun v24 =>
  bnr (ap0 1 8 (.ok v24) v23 s18) fun v25 s26 => onp v19 fun b27 o28 => bnr (stV b27 (Nat.add o28 0) v25 s26) fun v29 s30 => nx (fun e31 s32 => nx (fun e33
  s34 => .ok .r e33 s34) (kset e31 4 (.b true)) s32) e17 s30) fun k13 => ko e11 9 fun v14 => cdK v14 (nx (fun e15 s16 => .ok .r e15 s16) (kset e11 4 (.b false))
  s12) (k13 e11 s12)) (kset e1 9 (.b (cmI .gt n9 n10))) s8) (kset env 4 (.b false)) s
theorem fe350 : rf350 = fastOf kf350 := by kernel_rfl
noncomputable def rf356 : RFun := .mk 2 [.t 4] fun cl env s => nx (fun e1 s2 => ko e1 0 fun v3 => bnr (lenV v3 s2) fun v4 s5 => nx (fun e6 s7 => bkK (bindX (lpR (fun cl e8 s9 => ko e8 8 fun v10 => ko e8 7 fun v11 => oni
  v10 fun n12 => oni v11 fun n13 => nx (fun e14 s15 => jn (fun e18 s19 => bkK (ko e18 8 fun v20 => nx (fun e21 s22 => ko e21 1 fun v23 => ko e21 0 fun v24 => ko
  e21 5 fun v25 => onSlx v24 fun b26 o27 q28 => oni v25 fun n30 => onON (nat n30) fun i29 => ifX (Nat.blt i29 q28) (bnr (ldnP 8 b26 (Nat.add o27 (Nat.mul i29
  8)) s22) fun v31 s32 => cvK v23 [v31] s32 cl fun v33 s34 => nx (fun e35 s36 => jn (idk) fun k37 => ko e35 16 fun v38 => cdK v38 (ko e35 5 fun v39 => nx (fun
  e40 s41 => .ok .r e40 s41) (kset e35 4 v39) s36) (k37 e35 s36)) (kset e21 16 v33) s34)) (kset e18 5 v20) s19) 1 (fun e42 s43 => ko e42 8 fun v44 => oni v44
  fun n45 => frcI (wrapI (arI .add n45 (.ofNat 1))) fun n46 => nx (idk) (kset e42 8 (.i n46)) s43)) fun k16 => ko e14 9 fun v17 => cdK v17 (k16 e14 s15) (.ok (.x
  0) e14 s15)) (kset e8 9 (.b (cmI .lt n12 n13))) s9) lpFuel cl e6 s7) (idk)) 0 (fun e47 s48 => nx (fun e49 s50 => .ok .r e49 s50) (kset e47 4 (.i (.negSucc 0)))
  s48)) (kset (kset e1 7 v4) 8 (.i (.ofNat 0))) s5) (kset env 4 (.i (.ofNat 0))) s
theorem fe356 : rf356 = fastOf kf356 := by kernel_rfl
noncomputable def rf358 : RFun := .mk 2 [.t 4, .t 5] fun cl env s => ko env 0 fun v1 => bnr (boxV v1 s) fun v2 s3 => nx (fun e4 s5 => bnr (eKp (.q .mkm) .nil s5 cl) fun v6 s7 => nx (fun e8 s9 => ko e8 1 fun v10 => bnr (lenV
  v10 s9) fun v11 s12 => nx (fun e13 s14 => bkK (bindX (lpR (fun cl e15 s16 => ko e15 14 fun v17 => ko e15 13 fun v18 => oni v17 fun n19 => oni v18 fun n20 =>
  nx (fun e21 s22 => jn (fun e25 s26 => bkK (ko e25 12 fun v27 => ko e25 14 fun v28 => onSlx v27 fun b29 o30 q31 => oni v28 fun n33 => onON (nat n33) fun i32 =>
  ifX (Nat.blt i32 q31) (ldK b29 (Nat.add o30 (Nat.mul i32 1)) s26 fun v34 => nx (fun e35 s36 => ko e35 2 fun v37 => onp v37 fun b38 o39 => bnr (ldnP 9 b38
  o39 s36) fun v40 s41 => ko e35 8 fun v42 => bnr (cl 254 [v40, v42, (.i (.ofNat 0))] s41) fun v43 s44 => extK v43 0 fun v45 => extK v43 1 fun v46 => nx (fun
  e47 s48 => ko e47 10 fun v49 => oni v49 fun n50 => nx (fun e51 s52 => jn (fun e57 s58 => ko e57 6 fun v59 => ko e57 8 fun v60 => bnr (eKp (.q (.mup (.c v59)
  (.c v60) (.c (.b true)))) .nil s58 cl) fun v61 s62 => nx (idk) e57 s62) fun k53 => ko e51 25 fun v54 => cdK v54 (nx (fun e55 s56 => .ok .r e55 s56) (kset (kset
  e51 4 (.b true)) 5 (.b false)) s52) (k53 e51 s52)) (kset e47 25 (.b (cmI .ne n50 (.ofNat 0)))) s48) (kset e35 10 v46) s44) (kset e25 8 v34) s26)) 1 (fun e63
  s64 => ko e63 14 fun v65 => oni v65 fun n66 => frcI (wrapI (arI .add n66 (.ofNat 1))) fun n67 => nx (idk) (kset e63 14 (.i n67)) s64)) fun k23 => ko e21 15
  fun v24 => cdK v24 (k23 e21 s22) (.ok (.x 0) e21 s22)) (kset e15 15 (.b (cmI .lt n19 n20))) s16) lpFuel cl e13 s14) (idk)) 0 (fun e68 s69 => ko e68 6 fun v70
  => bnr (eKp (.q (.lenm (.c v70))) .nil s69 cl) fun v71 s72 => ko e68 1 fun v73 => bnr (lenV v73 s72) fun v74 s75 => oni v71 fun n76 => oni v74 fun n77 =>
  nx (fun e78 s79 => .ok .r e78 s79) (kset (kset e68 4 (.b false)) 5 (.b (cmI .lt n76 n77))) s75)) (kset (kset (kset e8 12 v10) 13 v11) 14 (.i (.ofNat 0))) s12)
  (kset e4 6 v6) s7) (kset (kset (kset env 2 v2) 4 (.b false)) 5 (.b false)) s3
theorem fe358 : rf358 = fastOf kf358 := by kernel_rfl
noncomputable def rf371 : RFun := .mk 2 [] fun cl env s => ko env 0 fun v1 => onp v1 fun b2 o3 => ldK b2 (Nat.add o3 0) s fun v4 => ko env 1 fun v5 => onSlx v4 fun b6 o7 q8 => oni v5 fun n10 => onON (nat n10) fun i9 =>
  ifX (Nat.blt i9 q8) (bnr (stV b6 (Nat.add o7 (Nat.mul i9 1)) (.b false) s) fun v11 s12 => nx (fun e13 s14 => ko e13 0 fun v15 => onp v15 fun b16 o17 => ldK
  b16 (Nat.add o17 1) s14 fun v18 => oni v18 fun n19 => frcI (wrapI (arI .sub n19 (.ofNat 1))) fun n20 => onp v15 fun b21 o22 => bnr (stV b21 (Nat.add o22 1)
  (.i n20) s14) fun v23 s24 => nx (idk) e13 s24) env s12)
theorem fe371 : rf371 = fastOf kf371 := by kernel_rfl
end Go.Kx
