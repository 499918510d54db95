/-
  Functions in the fast form; that they are the others. Printed by a program of ours.
-/
import Derived.Test.YtkggojngcnkabaaGreatKxH
import Derived.Test.YtkggojngcnkabaaGreatB10
set_option linter.unusedVariables false
set_option linter.unusedSimpArgs false
set_option maxRecDepth 1000000
namespace Go.Kx
noncomputable def rf3 : RFun := .mk 2 [.t 4] fun cl env s => nx (fun e1 s2 => bnr (cl 14 [] s2) fun v3 s4 => onBx v3 fun c5 => nx (fun e6 s7 => jn (fun e12 s13 => ko e12 1 fun v14 => oni v14 fun n15 => gdK (.b (cmI .lt
  n15 (.ofNat 0))) false (fun k16 => ko e12 1 fun v19 => k16 v19 s13) s13 fun v17 s18 => gdK (.b (cmI .lt n15 (.ofNat 0))) false (fun k20 => oni v17 fun n23 =>
  k20 (.b (cmI .gt n23 (.ofNat 20))) s18) s18 fun v21 s22 => pkK (.b (cmI .lt n15 (.ofNat 0))) (.ok (.b true)) (.ok v21) fun v24 => nx (fun e25 s26 => jn (fun
  e33 s34 => nx (fun e35 s36 => nx (fun e37 s38 => bkK (bindX (lpR (fun cl e39 s40 => ko e39 6 fun v41 => ko e39 1 fun v42 => oni v41 fun n43 => oni v42 fun
  n44 => nx (fun e45 s46 => jn (fun e49 s50 => bkK (ko e49 5 fun v51 => ko e49 6 fun v52 => bnr (eKp (.q (.rem (.c v52) (.c (.i (.ofNat 3))))) .nil s50 cl) fun
  v53 s54 => bnr (oL (fill (.cons 0 1 (.c (.i (.ofNat 1))) (.cons 1 1 (.c v53) .nil)) [.i (.ofNat 0), .i (.ofNat 0), .i (.ofNat 0), .i (.ofNat 0), .i (.ofNat
  0), .z 0 0] .nil) okA s54) fun v55 s56 => bnr (oL (fill (.cons 0 6 (.c v55) .nil) (repL [.i (.ofNat 0), .i (.ofNat 0), .i (.ofNat 0), .i (.ofNat 0), .i
  (.ofNat 0), .z 0 0] 1) .nil) (bsl1 1 (lenL [.i (.ofNat 0), .i (.ofNat 0), .i (.ofNat 0), .i (.ofNat 0), .i (.ofNat 0), .z 0 0])) s56) fun v57 s58 => bnr (ap0
  6 56 (.ok v57) v51 s58) fun v59 s60 => nx (idk) (kset e49 5 v59) s60) 1 (fun e61 s62 => ko e61 6 fun v63 => oni v63 fun n64 => frcI (wrapI (arI .add n64
  (.ofNat 1))) fun n65 => nx (idk) (kset e61 6 (.i n65)) s62)) fun k47 => ko e45 33 fun v48 => cdK v48 (k47 e45 s46) (.ok (.x 0) e45 s46)) (kset e39 33 (.b (cmI
  .lt n43 n44))) s40) lpFuel cl e37 s38) (idk)) 0 (fun e66 s67 => ko e66 0 fun v68 => nx (fun e69 s70 => jn (fun e82 s83 => ko e82 5 fun v84 => bnr (cl 15
  [v84, (.ns)] s83) fun v85 s86 => extK v85 0 fun v87 => extK v85 1 fun v88 => extK v85 2 fun v89 => nx (fun e90 s91 => ko e90 7 fun v92 => bnr (nilpV true v92
  s91) fun v93 s94 => nx (fun e95 s96 => jn (fun e101 s102 => nx (fun e103 s104 => nx (fun e105 s106 => bkK (bindX (lpR (fun cl e107 s108 => ko e107 11 fun v109
  => oni v109 fun n110 => gdK (.b (cmI .lt n110 (.ofNat 2000))) true (fun k111 => ko e107 8 fun v114 => k111 v114 s108) s108 fun v112 s113 => gdK (.b (cmI .lt
  n110 (.ofNat 2000))) true (fun k115 => bnr (cl 16 [v112] s113) fun v118 s119 => k115 v118 s119) s113 fun v116 s117 => gdK (.b (cmI .lt n110 (.ofNat 2000)))
  true (fun k120 => oni v116 fun n123 => k120 (.b (cmI .ne n123 (.ofNat 4))) s117) s117 fun v121 s122 => pkK (.b (cmI .lt n110 (.ofNat 2000))) (.ok v121) (.ok
  (.b false)) fun v124 => nx (fun e125 s126 => jn (fun e129 s130 => bkK (ko e129 8 fun v131 => ko e129 7 fun v132 => bnr (cl 17 [v131, v132] s130) fun v133
  s134 => extK v133 0 fun v135 => extK v133 1 fun v136 => bnr (eNew [.i (.ofNat 0), .i (.ofNat 0), .i (.ofNat 0), .b false, .z 0 0] .nil s134 cl) fun v137 s138
  => onp v137 fun b139 o140 => onAx v135 fun l141 => bnr (stnA 5 b139 o140 l141 s138) fun v142 s143 => nx (fun e144 s145 => ko e144 13 fun v146 => nx (fun
  e147 s148 => jn (idk) fun k149 => ko e147 71 fun v150 => cdK v150 (ko e147 10 fun v151 => oni v151 fun n152 => frcI (wrapI (arI .add n152 (.ofNat 1))) fun
  n153 => nx (k149) (kset e147 10 (.i n153)) s148) (k149 e147 s148)) (kset e144 71 v146) s145) (kset e129 13 v136) s143) 3 (fun e154 s155 => ko e154 11 fun v156
  => oni v156 fun n157 => frcI (wrapI (arI .add n157 (.ofNat 1))) fun n158 => nx (idk) (kset e154 11 (.i n158)) s155)) fun k127 => ko e125 62 fun v128 => cdK
  v128 (k127 e125 s126) (.ok (.x 2) e125 s126)) (kset e107 62 v124) s122) lpFuel cl e105 s106) (idk)) 2 (fun e159 s160 => ko e159 8 fun v161 => bnr (cl 18
  [v161] s160) fun v162 s163 => nx (fun e164 s165 => nx (fun e166 s167 => bkK (bindX (lpR (fun cl e168 s169 => ko e168 15 fun v170 => ko e168 14 fun v171 =>
  bnr (lenV v171 s169) fun v172 s173 => oni v170 fun n174 => oni v172 fun n175 => nx (fun e176 s177 => jn (fun e180 s181 => bkK (ko e180 14 fun v182 => ko
  e180 15 fun v183 => onSlx v182 fun b184 o185 q186 => oni v183 fun n188 => onON (nat n188) fun i187 => ifX (Nat.blt i187 q186) (ldK b184 (Nat.add (Nat.add o185
  (Nat.mul i187 2)) 0) s181 fun v189 => gdK v189 false (fun k190 => ko e180 14 fun v193 => k190 v193 s181) s181 fun v191 s192 => gdK v189 false (fun k194 => ko
  e180 15 fun v197 => k194 v197 s192) s192 fun v195 s196 => gdK v189 false (fun k198 => onSlx v191 fun b201 o202 q203 => oni v195 fun n205 => onON (nat n205)
  fun i204 => ifX (Nat.blt i204 q203) (k198 (.p b201 (Nat.add o202 (Nat.mul i204 2))) s196)) s196 fun v199 s200 => gdK v189 false (fun k206 => onp v199 fun b209
  o210 => k206 (.p b209 (Nat.add o210 1)) s200) s200 fun v207 s208 => gdK v189 false (fun k211 => onp v207 fun b214 o215 => ldK b214 o215 s208 fun v216 => k211
  v216 s208) s208 fun v212 s213 => gdK v189 false (fun k217 => bnr (cl 19 [v212, (.z 0 0)] s213) fun v220 s221 => k217 v220 s221) s213 fun v218 s219 => gdK
  v189 false (fun k222 => onBx v218 fun c225 => k222 (.b (neg c225)) s219) s219 fun v223 s224 => pkK v189 (.ok (.b true)) (.ok v223) fun v226 => nx (fun e227
  s228 => jn (idk) fun k229 => ko e227 95 fun v230 => cdK v230 (nx (fun e231 s232 => .ok .r e231 s232) (kset e227 4 (.b false)) s228) (k229 e227 s228)) (kset
  e180 95 v226) s224)) 5 (fun e233 s234 => ko e233 15 fun v235 => oni v235 fun n236 => frcI (wrapI (arI .add n236 (.ofNat 1))) fun n237 => nx (idk) (kset e233
  15 (.i n237)) s234)) fun k178 => ko e176 79 fun v179 => cdK v179 (k178 e176 s177) (.ok (.x 4) e176 s177)) (kset e168 79 (.b (cmI .lt n174 n175))) s173) lpFuel
  cl e166 s167) (idk)) 4 (fun e238 s239 => ko e238 8 fun v240 => ko e238 7 fun v241 => bnr (cl 17 [v240, v241] s239) fun v242 s243 => extK v242 0 fun v244 =>
  extK v242 1 fun v245 => bnr (eNew [.i (.ofNat 0), .i (.ofNat 0), .i (.ofNat 0), .b false, .z 0 0] .nil s243 cl) fun v246 s247 => onp v246 fun b248 o249 =>
  onAx v244 fun l250 => bnr (stnA 5 b248 o249 l250 s247) fun v251 s252 => nx (fun e253 s254 => nx (fun e255 s256 => ko e255 0 fun v257 => nx (fun e258 s259 =>
  jn (fun e262 s263 => ko e262 7 fun v264 => onp v264 fun b265 o266 => ldK b265 (Nat.add o266 10) s263 fun v267 => onp v267 fun b268 o269 => bnr (ldnP 1 b268
  (Nat.add o269 0) s263) fun v270 s271 => bnr (cl 20 [v270] s271) fun v272 s273 => bnr (cl 21 [v272] s273) fun v274 s275 => extK v274 0 fun v276 => extK v274
  1 fun v277 => extK v274 2 fun v278 => nx (fun e279 s280 => bnr (cl 14 [] s280) fun v281 s282 => gdK v281 true (fun k283 => ko e279 8 fun v286 => k283 v286
  s282) s282 fun v284 s285 => gdK v281 true (fun k287 => bnr (cl 16 [v284] s285) fun v290 s291 => k287 v290 s291) s285 fun v288 s289 => gdK v281 true (fun k292
  => oni v288 fun n295 => k292 (.b (cmI .eq n295 (.ofNat 4))) s289) s289 fun v293 s294 => pkK v281 (.ok v293) (.ok (.b false)) fun v296 => gdK v296 true (fun
  k297 => ko e279 10 fun v300 => k297 v300 s294) s294 fun v298 s299 => gdK v296 true (fun k301 => ko e279 1 fun v304 => k301 v304 s299) s299 fun v302 s303 => gdK
  v296 true (fun k305 => ko e279 18 fun v308 => k305 v308 s303) s303 fun v306 s307 => gdK v296 true (fun k309 => oni v302 fun n312 => oni v306 fun n313 => frcI
  (wrapI (arI .add n312 n313)) fun n314 => k309 (.i n314) s307) s307 fun v310 s311 => gdK v296 true (fun k315 => oni v298 fun n318 => oni v310 fun n319 => k315
  (.b (cmI .eq n318 n319)) s311) s311 fun v316 s317 => pkK v296 (.ok v316) (.ok (.b false)) fun v320 => gdK v320 true (fun k321 => ko e279 7 fun v324 => k321
  v324 s317) s317 fun v322 s323 => gdK v320 true (fun k325 => onp v322 fun b328 o329 => k325 (.p b328 o329) s323) s323 fun v326 s327 => gdK v320 true (fun k330
  => onp v326 fun b333 o334 => k330 (.p b333 (Nat.add o334 12)) s327) s327 fun v331 s332 => gdK v320 true (fun k335 => onp v331 fun b338 o339 => ldK b338 o339
  s332 fun v340 => k335 v340 s332) s332 fun v336 s337 => gdK v320 true (fun k341 => bnr (cl 22 [v336, (.i (.ofNat 0))] s337) fun v344 s345 => k341 v344 s345)
  s337 fun v342 s343 => gdK v320 true (fun k346 => oni v342 fun n349 => k346 (.b (cmI .eq n349 (.negSucc 0))) s343) s343 fun v347 s348 => pkK v320 (.ok v347)
  (.ok (.b false)) fun v350 => gdK v350 true (fun k351 => ko e279 20 fun v354 => k351 v354 s348) s348 fun v352 s353 => gdK v350 true (fun k355 => oni v352 fun
  n358 => k355 (.b (cmI .eq n358 (.ofNat 0))) s353) s353 fun v356 s357 => pkK v350 (.ok v356) (.ok (.b false)) fun v359 => gdK v359 true (fun k360 => ko e279 21
  fun v363 => k360 v363 s357) s357 fun v361 s362 => gdK v359 true (fun k364 => ko e279 1 fun v367 => k364 v367 s362) s362 fun v365 s366 => gdK v359 true (fun
  k368 => oni v361 fun n371 => oni v365 fun n372 => k368 (.b (cmI .eq n371 n372)) s366) s366 fun v369 s370 => pkK v359 (.ok v369) (.ok (.b false)) fun v373 =>
  gdK v373 true (fun k374 => ko e279 17 fun v377 => k374 v377 s370) s370 fun v375 s376 => gdK v373 true (fun k378 => onBx v375 fun c381 => k378 (.b (neg c381))
  s376) s376 fun v379 s380 => pkK v373 (.ok v379) (.ok (.b false)) fun v382 => gdK v382 true (fun k383 => ko e279 14 fun v386 => k383 v386 s380) s380 fun v384
  s385 => gdK v382 true (fun k387 => bnr (lenV v384 s385) fun v390 s391 => k387 v390 s391) s385 fun v388 s389 => gdK v382 true (fun k392 => oni v388 fun n395
  => k392 (.b (cmI .eq n395 (.ofNat 3))) s389) s389 fun v393 s394 => pkK v382 (.ok v393) (.ok (.b false)) fun v396 => nx (fun e397 s398 => .ok .r e397 s398)
  (kset e279 4 v396) s394) (kset (kset e262 20 v277) 21 v278) s275) fun k260 => ko e258 102 fun v261 => cdK v261 (nx (k260) (kset e258 18 (.i (.ofNat 1))) s259)
  (k260 e258 s259)) (kset e255 102 v257) s256) (kset e253 18 (.i (.ofNat 0))) s254) (kset e238 17 v245) s252)) (kset e164 15 (.i (.ofNat 0))) s165) (kset e159 14
  v162) s163)) (kset e103 11 (.i (.ofNat 0))) s104) (kset e101 10 (.i (.ofNat 0))) s102) fun k97 => ko e95 55 fun v98 => cdK v98 (nx (fun e99 s100 => .ok .r e99
  s100) (kset e95 4 (.b false)) s96) (k97 e95 s96)) (kset e90 55 v93) s94) (kset (kset e82 7 v87) 8 v88) s86) fun k71 => ko e69 42 fun v72 => cdK v72 (ko e69 5
  fun v73 => bnr (oL (fill (.cons 0 1 (.c (.i (.ofNat 18))) .nil) [.i (.ofNat 0), .i (.ofNat 0), .i (.ofNat 0), .i (.ofNat 0), .i (.ofNat 0), .z 0 0] .nil) okA
  s70) fun v74 s75 => bnr (oL (fill (.cons 0 1 (.c (.i (.ofNat 1))) (.cons 1 1 (.c (.i (.ofNat 0))) .nil)) [.i (.ofNat 0), .i (.ofNat 0), .i (.ofNat 0), .i
  (.ofNat 0), .i (.ofNat 0), .z 0 0] .nil) okA s75) fun v76 s77 => bnr (oL (fill (.cons 0 6 (.c v74) (.cons 6 6 (.c v76) .nil)) (repL [.i (.ofNat 0), .i
  (.ofNat 0), .i (.ofNat 0), .i (.ofNat 0), .i (.ofNat 0), .z 0 0] 2) .nil) (bsl1 2 (lenL [.i (.ofNat 0), .i (.ofNat 0), .i (.ofNat 0), .i (.ofNat 0), .i (.ofNat
  0), .z 0 0])) s77) fun v78 s79 => bnr (ap0 6 56 (.ok v78) v73 s79) fun v80 s81 => nx (k71) (kset e69 5 v80) s81) (k71 e69 s70)) (kset e66 42 v68) s67)) (kset
  e35 6 (.i (.ofNat 0))) s36) (kset e33 5 (.ns)) s34) fun k27 => ko e25 29 fun v28 => cdK v28 (bnr (cl 14 [] s26) fun v29 s30 => nx (fun e31 s32 => .ok .r e31
  s32) (kset e25 4 v29) s30) (k27 e25 s26)) (kset e12 29 v24) s22) fun k8 => ko e6 23 fun v9 => cdK v9 (nx (fun e10 s11 => .ok .r e10 s11) (kset e6 4 (.b false))
  s7) (k8 e6 s7)) (kset e1 23 (.b (neg c5))) s4) (kset env 4 (.b false)) s
theorem fe3 : rf3 = fastOf kf3 := by kernel_rfl
noncomputable def rf14 : RFun := .mk 0 [.t 0] fun cl env s => nx (fun e1 s2 => bnr (oL (fill .nil [.b false, .ns] .nil) okA s2) fun v3 s4 => bnr (oL (fill (.cons 0 2 (.c v3) .nil) (repL [.b false, .ns] 1) .nil) (bsl1 1
  (lenL [.b false, .ns])) s4) fun v5 s6 => bnr (oL (fill (.cons 0 1 (.c (.i (.ofNat 4))) (.cons 3 1 (.c (.i (.ofNat 1))) (.cons 4 1 (.c (.i (.ofNat 1))) (.cons
  6 1 (.c (.i (.ofNat 1))) (.cons 8 1 (.c v5) .nil))))) [.i (.ofNat 0), .i (.ofNat 0), .i (.ofNat 0), .i (.ofNat 0), .i (.ofNat 0), .i (.ofNat 0), .i (.ofNat 0),
  .i (.ofNat 0), .ns] .nil) okA s6) fun v7 s8 => bnr (cl 68 [v7] s8) fun v9 s10 => extK v9 0 fun v11 => extK v9 1 fun v12 => nx (fun e13 s14 => bnr (oL (fill
  (.cons 0 1 (.c (.i (.ofNat 12))) (.cons 5 1 (.c (.z 4617315517961601024 0)) .nil)) [.i (.ofNat 0), .i (.ofNat 0), .i (.ofNat 0), .i (.ofNat 0), .i (.ofNat 0),
  .z 0 0] .nil) okA s14) fun v15 s16 => bnr (oL (fill (.cons 0 6 (.c v15) .nil) (repL [.i (.ofNat 0), .i (.ofNat 0), .i (.ofNat 0), .i (.ofNat 0), .i (.ofNat
  0), .z 0 0] 1) .nil) (bsl1 1 (lenL [.i (.ofNat 0), .i (.ofNat 0), .i (.ofNat 0), .i (.ofNat 0), .i (.ofNat 0), .z 0 0])) s16) fun v17 s18 => bnr (cl 69 [(.i
  (.ofNat 0)), (.i (.ofNat 1)), v17] s18) fun v19 s20 => nx (fun e21 s22 => ko e21 1 fun v23 => bnr (nilpV true v23 s22) fun v24 s25 => gdK v24 false (fun k26
  => ko e21 3 fun v29 => k26 v29 s25) s25 fun v27 s28 => gdK v24 false (fun k30 => bnr (nilpV true v27 s28) fun v33 s34 => k30 v33 s34) s28 fun v31 s32 => pkK
  v24 (.ok (.b true)) (.ok v31) fun v35 => gdK v35 false (fun k36 => ko e21 2 fun v39 => k36 v39 s32) s32 fun v37 s38 => gdK v35 false (fun k40 => oni v37 fun
  n43 => k40 (.b (cmI .ne n43 (.ofNat 0))) s38) s38 fun v41 s42 => pkK v35 (.ok (.b true)) (.ok v41) fun v44 => gdK v44 false (fun k45 => ko e21 3 fun v48 => k45
  v48 s42) s42 fun v46 s47 => gdK v44 false (fun k49 => bnr (cl 16 [v46] s47) fun v52 s53 => k49 v52 s53) s47 fun v50 s51 => gdK v44 false (fun k54 => oni v50
  fun n57 => k54 (.b (cmI .ne n57 (.ofNat 0))) s51) s51 fun v55 s56 => pkK v44 (.ok (.b true)) (.ok v55) fun v58 => nx (fun e59 s60 => jn (fun e65 s66 => ko e65
  3 fun v67 => ko e65 1 fun v68 => bnr (cl 17 [v67, v68] s66) fun v69 s70 => extK v69 0 fun v71 => extK v69 1 fun v72 => bnr (eNew [.i (.ofNat 0), .i (.ofNat
  0), .i (.ofNat 0), .b false, .z 0 0] .nil s70 cl) fun v73 s74 => onp v73 fun b75 o76 => onAx v71 fun l77 => bnr (stnA 5 b75 o76 l77 s74) fun v78 s79 => nx
  (fun e80 s81 => ko e80 3 fun v82 => ko e80 1 fun v83 => bnr (cl 17 [v82, v83] s81) fun v84 s85 => extK v84 0 fun v86 => extK v84 1 fun v87 => bnr (eNew [.i
  (.ofNat 0), .i (.ofNat 0), .i (.ofNat 0), .b false, .z 0 0] .nil s85 cl) fun v88 s89 => onp v88 fun b90 o91 => onAx v86 fun l92 => bnr (stnA 5 b90 o91 l92
  s89) fun v93 s94 => nx (fun e95 s96 => ko e95 3 fun v97 => ko e95 1 fun v98 => bnr (cl 17 [v97, v98] s96) fun v99 s100 => extK v99 0 fun v101 => extK v99 1
  fun v102 => bnr (eNew [.i (.ofNat 0), .i (.ofNat 0), .i (.ofNat 0), .b false, .z 0 0] .nil s100 cl) fun v103 s104 => onp v103 fun b105 o106 => onAx v101 fun
  l107 => bnr (stnA 5 b105 o106 l107 s104) fun v108 s109 => nx (fun e110 s111 => ko e110 5 fun v112 => onBx v112 fun c113 => gdK (.b (neg c113)) true (fun k114
  => ko e110 7 fun v117 => k114 v117 s111) s111 fun v115 s116 => gdK (.b (neg c113)) true (fun k118 => onBx v115 fun c121 => k118 (.b (neg c121)) s116) s116 fun
  v119 s120 => pkK (.b (neg c113)) (.ok v119) (.ok (.b false)) fun v122 => gdK v122 true (fun k123 => ko e110 9 fun v126 => k123 v126 s120) s120 fun v124 s125 =>
  pkK v122 (.ok v124) (.ok (.b false)) fun v127 => gdK v127 true (fun k128 => ko e110 8 fun v131 => onp v131 fun b132 o133 => k128 (.p b132 (Nat.add o133 1))
  s125) s125 fun v129 s130 => gdK v127 true (fun k134 => onp v129 fun b137 o138 => ldK b137 o138 s130 fun v139 => k134 v139 s130) s130 fun v135 s136 => gdK v127
  true (fun k140 => oni v135 fun n143 => k140 (.b (cmI .eq n143 (.ofNat 1))) s136) s136 fun v141 s142 => pkK v127 (.ok v141) (.ok (.b false)) fun v144 => gdK
  v144 true (fun k145 => ko e110 8 fun v148 => onp v148 fun b149 o150 => k145 (.p b149 (Nat.add o150 2)) s142) s142 fun v146 s147 => gdK v144 true (fun k151 =>
  onp v146 fun b154 o155 => ldK b154 o155 s147 fun v156 => k151 v156 s147) s147 fun v152 s153 => gdK v144 true (fun k157 => oni v152 fun n160 => k157 (.b (cmI
  .eq n160 (.ofNat 0))) s153) s153 fun v158 s159 => pkK v144 (.ok v158) (.ok (.b false)) fun v161 => gdK v161 true (fun k162 => ko e110 8 fun v165 => onp v165
  fun b166 o167 => k162 (.p b166 (Nat.add o167 3)) s159) s159 fun v163 s164 => gdK v161 true (fun k168 => onp v163 fun b171 o172 => k168 (.p b171 (Nat.add o172
  1)) s164) s164 fun v169 s170 => gdK v161 true (fun k173 => onp v169 fun b176 o177 => ldK b176 o177 s170 fun v178 => k173 v178 s170) s170 fun v174 s175 => gdK
  v161 true (fun k179 => bnr (cl 19 [v174, (.z 4617315517961601024 0)] s175) fun v182 s183 => k179 v182 s183) s175 fun v180 s181 => pkK v161 (.ok v180) (.ok
  (.b false)) fun v184 => gdK v184 true (fun k185 => ko e110 1 fun v188 => k185 v188 s181) s181 fun v186 s187 => gdK v184 true (fun k189 => bnr (cl 70 [v186]
  s187) fun v192 s193 => k189 v192 s193) s187 fun v190 s191 => gdK v184 true (fun k194 => oni v190 fun n197 => k194 (.b (cmI .eq n197 (.ofNat 2))) s191) s191
  fun v195 s196 => pkK v184 (.ok v195) (.ok (.b false)) fun v198 => nx (fun e199 s200 => .ok .r e199 s200) (kset e110 0 v198) s196) (kset (kset e95 8 v103) 9
  v102) s109) (kset e80 7 v87) s94) (kset e65 5 v72) s79) fun k61 => ko e59 34 fun v62 => cdK v62 (nx (fun e63 s64 => .ok .r e63 s64) (kset e59 0 (.b false))
  s60) (k61 e59 s60)) (kset e21 34 v58) s56) (kset e13 3 v19) s20) (kset (kset e1 1 v11) 2 v12) s10) (kset env 0 (.b false)) s
theorem fe14 : rf14 = fastOf kf14 := by kernel_rfl
noncomputable def rf15 : RFun := .mk 2 [.t 4, .t 5, .t 6] fun cl env s => nx (fun e1 s2 => bnr (oL (fill (.cons 0 1 (.c (.b true)) (.cons 1 1 (.c (.b true)) (.cons 2 1 (.c (.b false)) .nil))) (repL [.b false] 3) .nil) (bsl1 3 (lenL
  [.b false])) s2) fun v3 s4 => bnr (oL (fill (.cons 1 1 (.c v3) .nil) [.b false, .ns] .nil) okA s4) fun v5 s6 => bnr (oL (fill (.cons 0 1 (.c (.b true))
  .nil) (repL [.b false] 1) .nil) (bsl1 1 (lenL [.b false])) s6) fun v7 s8 => bnr (oL (fill (.cons 0 1 (.c (.b true)) (.cons 1 1 (.c v7) .nil)) [.b false, .ns]
  .nil) okA s8) fun v9 s10 => bnr (oL (fill (.cons 0 2 (.c v5) (.cons 2 2 (.c v9) .nil)) (repL [.b false, .ns] 2) .nil) (bsl1 2 (lenL [.b false, .ns])) s10)
  fun v11 s12 => bnr (oL (fill (.cons 0 1 (.c (.i (.ofNat 40))) (.cons 1 1 (.c (.i (.ofNat 40))) (.cons 2 1 (.c (.i (.ofNat 2))) (.cons 3 1 (.c (.i (.ofNat
  2))) (.cons 4 1 (.c (.i (.ofNat 3))) (.cons 6 1 (.c (.i (.ofNat 9))) (.cons 8 1 (.c v11) .nil))))))) [.i (.ofNat 0), .i (.ofNat 0), .i (.ofNat 0), .i (.ofNat
  0), .i (.ofNat 0), .i (.ofNat 0), .i (.ofNat 0), .i (.ofNat 0), .ns] .nil) okA s12) fun v13 s14 => bnr (eNew [.i (.ofNat 0), .i (.ofNat 0), .i (.ofNat 0), .i
  (.ofNat 0), .i (.ofNat 0), .i (.ofNat 0), .i (.ofNat 0), .i (.ofNat 0), .ns] .nil s14 cl) fun v15 s16 => onp v15 fun b17 o18 => onAx v13 fun l19 => bnr
  (stnA 9 b17 o18 l19 s16) fun v20 s21 => nx (fun e22 s23 => ko e22 7 fun v24 => onp v24 fun b25 o26 => bnr (ldnP 9 b25 o26 s23) fun v27 s28 => bnr (cl 68
  [v27] s28) fun v29 s30 => extK v29 0 fun v31 => extK v29 1 fun v32 => nx (fun e33 s34 => ko e33 0 fun v35 => bnr (cl 69 [(.i (.ofNat 0)), (.i (.ofNat 3)),
  v35] s34) fun v36 s37 => ko e33 1 fun v38 => bnr (cl 69 [(.i (.ofNat 1)), (.i (.ofNat 3)), v38] s37) fun v39 s40 => nx (fun e41 s42 => ko e41 8 fun v43 =>
  bnr (nilpV true v43 s42) fun v44 s45 => gdK v44 false (fun k46 => ko e41 9 fun v49 => k46 v49 s45) s45 fun v47 s48 => gdK v44 false (fun k50 => oni v47 fun
  n53 => k50 (.b (cmI .ne n53 (.ofNat 0))) s48) s48 fun v51 s52 => pkK v44 (.ok (.b true)) (.ok v51) fun v54 => gdK v54 false (fun k55 => ko e41 10 fun v58 =>
  k55 v58 s52) s52 fun v56 s57 => gdK v54 false (fun k59 => bnr (nilpV true v56 s57) fun v62 s63 => k59 v62 s63) s57 fun v60 s61 => pkK v54 (.ok (.b true))
  (.ok v60) fun v64 => gdK v64 false (fun k65 => ko e41 11 fun v68 => k65 v68 s61) s61 fun v66 s67 => gdK v64 false (fun k69 => bnr (nilpV true v66 s67) fun
  v72 s73 => k69 v72 s73) s67 fun v70 s71 => pkK v64 (.ok (.b true)) (.ok v70) fun v74 => gdK v74 false (fun k75 => ko e41 8 fun v78 => k75 v78 s71) s71 fun v76
  s77 => gdK v74 false (fun k79 => onp v76 fun b82 o83 => k79 (.p b82 o83) s77) s77 fun v80 s81 => gdK v74 false (fun k84 => onp v80 fun b87 o88 => k84 (.p b87
  (Nat.add o88 12)) s81) s81 fun v85 s86 => gdK v74 false (fun k89 => onp v85 fun b92 o93 => ldK b92 o93 s86 fun v94 => k89 v94 s86) s86 fun v90 s91 => gdK v74
  false (fun k95 => bnr (nilpV true v90 s91) fun v98 s99 => k95 v98 s99) s91 fun v96 s97 => pkK v74 (.ok (.b true)) (.ok v96) fun v100 => gdK v100 false (fun
  k101 => ko e41 8 fun v104 => k101 v104 s97) s97 fun v102 s103 => gdK v100 false (fun k105 => onp v102 fun b108 o109 => k105 (.p b108 o109) s103) s103 fun v106
  s107 => gdK v100 false (fun k110 => onp v106 fun b113 o114 => k110 (.p b113 (Nat.add o114 10)) s107) s107 fun v111 s112 => gdK v100 false (fun k115 => onp
  v111 fun b118 o119 => ldK b118 o119 s112 fun v120 => k115 v120 s112) s112 fun v116 s117 => gdK v100 false (fun k121 => bnr (nilpV true v116 s117) fun v124
  s125 => k121 v124 s125) s117 fun v122 s123 => pkK v100 (.ok (.b true)) (.ok v122) fun v126 => gdK v126 false (fun k127 => ko e41 8 fun v130 => k127 v130 s123)
  s123 fun v128 s129 => gdK v126 false (fun k131 => onp v128 fun b134 o135 => k131 (.p b134 o135) s129) s129 fun v132 s133 => gdK v126 false (fun k136 => onp
  v132 fun b139 o140 => k136 (.p b139 (Nat.add o140 10)) s133) s133 fun v137 s138 => gdK v126 false (fun k141 => onp v137 fun b144 o145 => ldK b144 o145 s138
  fun v146 => k141 v146 s138) s138 fun v142 s143 => gdK v126 false (fun k147 => onp v142 fun b150 o151 => k147 (.p b150 o151) s143) s143 fun v148 s149 => gdK
  v126 false (fun k152 => onp v148 fun b155 o156 => k152 (.p b155 (Nat.add o156 0)) s149) s149 fun v153 s154 => gdK v126 false (fun k157 => onp v153 fun b160
  o161 => bnr (ldnP 1 b160 o161 s154) fun v162 s163 => k157 v162 s163) s154 fun v158 s159 => gdK v126 false (fun k164 => bnr (cl 20 [v158] s159) fun v167
  s168 => k164 v167 s168) s159 fun v165 s166 => gdK v126 false (fun k169 => bnr (nilpV true v165 s166) fun v172 s173 => k169 v172 s173) s166 fun v170 s171 =>
  pkK v126 (.ok (.b true)) (.ok v170) fun v174 => gdK v174 false (fun k175 => ko e41 8 fun v178 => k175 v178 s171) s171 fun v176 s177 => gdK v174 false (fun k179
  => onp v176 fun b182 o183 => k179 (.p b182 o183) s177) s177 fun v180 s181 => gdK v174 false (fun k184 => onp v180 fun b187 o188 => k184 (.p b187 (Nat.add
  o188 11)) s181) s181 fun v185 s186 => gdK v174 false (fun k189 => onp v185 fun b192 o193 => ldK b192 o193 s186 fun v194 => k189 v194 s186) s186 fun v190 s191
  => gdK v174 false (fun k195 => bnr (nilpV true v190 s191) fun v198 s199 => k195 v198 s199) s191 fun v196 s197 => pkK v174 (.ok (.b true)) (.ok v196) fun v200
  => gdK v200 false (fun k201 => ko e41 8 fun v204 => k201 v204 s197) s197 fun v202 s203 => gdK v200 false (fun k205 => onp v202 fun b208 o209 => k205 (.p b208
  o209) s203) s203 fun v206 s207 => gdK v200 false (fun k210 => onp v206 fun b213 o214 => k210 (.p b213 (Nat.add o214 9)) s207) s207 fun v211 s212 => gdK v200
  false (fun k215 => onp v211 fun b218 o219 => ldK b218 o219 s212 fun v220 => k215 v220 s212) s212 fun v216 s217 => gdK v200 false (fun k221 => bnr (nilpV
  true v216 s217) fun v224 s225 => k221 v224 s225) s217 fun v222 s223 => pkK v200 (.ok (.b true)) (.ok v222) fun v226 => nx (fun e227 s228 => jn (fun e233 s234
  => ko e233 8 fun v235 => ko e233 10 fun v236 => ko e233 11 fun v237 => nx (fun e238 s239 => .ok .r e238 s239) (kset (kset (kset e233 4 v235) 5 v236) 6 v237)
  s234) fun k229 => ko e227 79 fun v230 => cdK v230 (nx (fun e231 s232 => .ok .r e231 s232) (kset (kset (kset e227 4 (.np)) 5 (.np)) 6 (.np)) s228) (k229 e227
  s228)) (kset e41 79 v226) s223) (kset (kset e33 10 v36) 11 v39) s40) (kset (kset e22 8 v31) 9 v32) s30) (kset e1 7 v15) s21) (kset (kset (kset env 4 (.np)) 5
  (.np)) 6 (.np)) s
theorem fe15 : rf15 = fastOf kf15 := by kernel_rfl
noncomputable def rf16 : RFun := .mk 1 [.t 2] fun cl env s => nx (fun e1 s2 => ko e1 0 fun v3 => onp v3 fun b4 o5 => ldK b4 (Nat.add o5 3) s2 fun v6 => nx (fun e7 s8 => .ok .r e7 s8) (kset e1 2 v6) s2) (kset env 2 (.i
  (.ofNat 0))) s
theorem fe16 : rf16 = fastOf kf16 := by kernel_rfl
noncomputable def rf17 : RFun := .mk 2 [.cn 4 5, .t 5] fun cl env s => bnr (eNew [.i (.ofNat 0), .i (.ofNat 0), .i (.ofNat 0), .b false, .z 0 0] .nil s cl) fun v1 s2 => nx (fun e3 s4 => ko e3 0 fun v5 => onp v5 fun b6 o7 => ldK
  b6 (Nat.add o7 3) s4 fun v8 => nx (fun e9 s10 => bkK (ko e9 12 fun v11 => oni v11 fun n12 => nx (fun e13 s14 => jn (idk) fun k15 => ko e13 13 fun v16 => cdK
  v16 (ko e13 1 fun v17 => onp v17 fun b18 o19 => ldK b18 (Nat.add o19 12) s14 fun v20 => ko e13 0 fun v21 => onp v21 fun b22 o23 => ldK b22 (Nat.add o23 0)
  s14 fun v24 => bnr (cl 71 [v20, v24] s14) fun v25 s26 => extK v25 0 fun v27 => extK v25 1 fun v28 => extK v25 2 fun v29 => nx (fun e30 s31 => ko e30 8 fun
  v32 => onBx v32 fun c33 => nx (fun e34 s35 => jn (fun e45 s46 => ko e45 0 fun v47 => ko e45 0 fun v48 => ko e45 6 fun v49 => ko e45 7 fun v50 => onp v47 fun
  b51 o52 => bnr (stV b51 (Nat.add o52 4) v49 s46) fun v53 s54 => onp v48 fun b55 o56 => bnr (stV b55 (Nat.add o56 5) v50 s54) fun v57 s58 => nx (fun e59
  s60 => ko e59 0 fun v61 => ko e59 0 fun v62 => onp v61 fun b63 o64 => bnr (stV b63 (Nat.add o64 3) (.i (.ofNat 1)) s60) fun v65 s66 => onp v62 fun b67 o68
  => bnr (stV b67 (Nat.add o68 7) (.i (.ofNat 0)) s66) fun v69 s70 => nx (k15) e59 s70) e45 s58) fun k36 => ko e34 29 fun v37 => cdK v37 (ko e34 0 fun v38 =>
  onp v38 fun b39 o40 => bnr (stV b39 (Nat.add o40 3) (.i (.ofNat 4)) s35) fun v41 s42 => nx (fun e43 s44 => .ok (.x 0) e43 s44) e34 s42) (k36 e34 s35)) (kset
  e30 29 (.b (neg c33))) s31) (kset (kset (kset e13 6 v27) 7 v28) 8 v29) s26) (ko e13 12 fun v71 => oni v71 fun n72 => nx (fun e73 s74 => jn (k15) fun k75 => ko
  e73 47 fun v76 => cdK v76 (ko e73 0 fun v77 => ko e73 1 fun v78 => bnr (cl 72 [v77, v78] s74) fun v79 s80 => nx (k75) e73 s80) (ko e73 12 fun v81 => oni v81
  fun n82 => nx (fun e83 s84 => jn (k75) fun k85 => ko e83 52 fun v86 => cdK v86 (ko e83 0 fun v87 => onp v87 fun b88 o89 => ldK b88 (Nat.add (Nat.add o89 10)
  0) s84 fun v90 => oni v90 fun n91 => frcI (wrapI (arI .add n91 (.ofNat 1))) fun n92 => onp v87 fun b93 o94 => bnr (stV b93 (Nat.add (Nat.add o94 10) 0) (.i
  n92) s84) fun v95 s96 => nx (fun e97 s98 => ko e97 0 fun v99 => ko e97 1 fun v100 => bnr (cl 73 [v99, v100] s98) fun v101 s102 => extK v101 0 fun v103 =>
  extK v101 1 fun v104 => ko e97 4 fun v105 => onp v105 fun b106 o107 => onAx v103 fun l108 => bnr (stnA 5 b106 o107 l108 s102) fun v109 s110 => nx (fun e111
  s112 => .ok .r e111 s112) (kset e97 5 v104) s110) e83 s96) (ko e83 12 fun v113 => oni v113 fun n114 => nx (fun e115 s116 => jn (k85) fun k117 => ko e115 68
  fun v118 => cdK v118 (ko e115 0 fun v119 => onp v119 fun b120 o121 => ldK b120 (Nat.add (Nat.add o121 10) 0) s116 fun v122 => oni v122 fun n123 => frcI
  (wrapI (arI .add n123 (.ofNat 1))) fun n124 => onp v119 fun b125 o126 => bnr (stV b125 (Nat.add (Nat.add o126 10) 0) (.i n124) s116) fun v127 s128 => nx
  (fun e129 s130 => ko e129 0 fun v131 => ko e129 1 fun v132 => bnr (cl 74 [v131, v132] s130) fun v133 s134 => extK v133 0 fun v135 => extK v133 1 fun v136 =>
  ko e129 4 fun v137 => onp v137 fun b138 o139 => onAx v135 fun l140 => bnr (stnA 5 b138 o139 l140 s134) fun v141 s142 => nx (fun e143 s144 => .ok .r e143
  s144) (kset e129 5 v136) s142) e115 s128) (k117 e115 s116)) (kset e83 68 (.b (cmI .eq n114 (.ofNat 3)))) s84)) (kset e73 52 (.b (cmI .eq n82 (.ofNat 2))))
  s74)) (kset e13 47 (.b (cmI .eq n72 (.ofNat 1)))) s14)) (kset e9 13 (.b (cmI .eq n12 (.ofNat 0)))) s10) 0 (fun e145 s146 => bnr (oL (fill .nil [.i (.ofNat
  0), .i (.ofNat 0), .i (.ofNat 0), .b false, .z 0 0] .nil) okA s146) fun v147 s148 => ko e145 4 fun v149 => onp v149 fun b150 o151 => onAx v147 fun l152 =>
  bnr (stnA 5 b150 o151 l152 s148) fun v153 s154 => nx (fun e155 s156 => .ok .r e155 s156) (kset e145 5 (.b false)) s154)) (kset e3 12 v8) s4) (kset (kset env
  4 v1) 5 (.b false)) s2
theorem fe17 : rf17 = fastOf kf17 := by kernel_rfl
noncomputable def rf18 : RFun := .mk 1 [.t 2] fun cl env s => nx (fun e1 s2 => ko e1 0 fun v3 => onp v3 fun b4 o5 => ldK b4 (Nat.add o5 2) s2 fun v6 => bnr (cl 75 [v6] s2) fun v7 s8 => nx (fun e9 s10 => .ok .r e9 s10)
  (kset e1 2 v7) s8) (kset env 2 (.ns)) s
theorem fe18 : rf18 = fastOf kf18 := by kernel_rfl
noncomputable def rf19 : RFun := .mk 2 [.t 4] fun cl env s => nx (fun e1 s2 => ko e1 0 fun v3 => bnr (onZ reZ v3 s2) fun v4 s5 => bnr (cl 76 [v4] s5) fun v6 s7 => ko e1 1 fun v8 => bnr (onZ reZ v8 s7) fun v9 s10 =>
  bnr (cl 76 [v9] s10) fun v11 s12 => bnr (onK (cmk1 .eq (.ok v11)) v6 s12) fun v13 s14 => gdK v13 true (fun k15 => ko e1 0 fun v18 => k15 v18 s14) s14 fun
  v16 s17 => gdK v13 true (fun k19 => bnr (onZ imZ v16 s17) fun v22 s23 => k19 v22 s23) s17 fun v20 s21 => gdK v13 true (fun k24 => bnr (cl 76 [v20] s21) fun
  v27 s28 => k24 v27 s28) s21 fun v25 s26 => gdK v13 true (fun k29 => ko e1 1 fun v32 => k29 v32 s26) s26 fun v30 s31 => gdK v13 true (fun k33 => bnr (onZ imZ
  v30 s31) fun v36 s37 => k33 v36 s37) s31 fun v34 s35 => gdK v13 true (fun k38 => bnr (cl 76 [v34] s35) fun v41 s42 => k38 v41 s42) s35 fun v39 s40 => gdK v13
  true (fun k43 => bnr (onK (cmk1 .eq (.ok v39)) v25 s40) fun v46 s47 => k43 v46 s47) s40 fun v44 s45 => pkK v13 (.ok v44) (.ok (.b false)) fun v48 => nx (fun
  e49 s50 => .ok .r e49 s50) (kset e1 4 v48) s45) (kset env 4 (.b false)) s
theorem fe19 : rf19 = fastOf kf19 := by kernel_rfl
noncomputable def rf20 : RFun := .mk 1 [.t 2] fun cl env s => ko env 0 fun v1 => bnr (boxV v1 s) fun v2 s3 => nx (fun e4 s5 => ko e4 1 fun v6 => onp v6 fun b7 o8 => ldK b7 (Nat.add o8 0) s5 fun v9 => nx (fun e10 s11 =>
  .ok .r e10 s11) (kset e4 2 v9) s5) (kset (kset env 1 v2) 2 (.np)) s3
theorem fe20 : rf20 = fastOf kf20 := by kernel_rfl
noncomputable def rf21 : RFun := .mk 1 [.t 2, .t 3, .t 4] fun cl env s => nx (fun e1 s2 => ko e1 0 fun v3 => onp v3 fun b4 o5 => bnr (eKp (.q (.iar (.c (.p b4 (Nat.add o5 1))) (.c (.i (.ofNat 0))) 1 3)) .nil s2 cl) fun v6 s7 => onp
  v6 fun b8 o9 => ldK b8 o9 s2 fun v10 => ko e1 0 fun v11 => onp v11 fun b12 o13 => bnr (eKp (.q (.iar (.c (.p b12 (Nat.add o13 1))) (.c (.i (.ofNat 1))) 1
  3)) .nil s2 cl) fun v14 s15 => onp v14 fun b16 o17 => ldK b16 o17 s2 fun v18 => ko e1 0 fun v19 => onp v19 fun b20 o21 => bnr (eKp (.q (.iar (.c (.p b20
  (Nat.add o21 1))) (.c (.i (.ofNat 2))) 1 3)) .nil s2 cl) fun v22 s23 => onp v22 fun b24 o25 => ldK b24 o25 s2 fun v26 => nx (fun e27 s28 => .ok .r e27 s28)
  (kset (kset (kset e1 2 v10) 3 v18) 4 v26) s2) (kset (kset (kset env 2 (.i (.ofNat 0))) 3 (.i (.ofNat 0))) 4 (.i (.ofNat 0))) s
theorem fe21 : rf21 = fastOf kf21 := by kernel_rfl
noncomputable def rf22 : RFun := .mk 2 [.t 4] fun cl env s => nx (fun e1 s2 => ko e1 1 fun v3 => oni v3 fun n4 => gdK (.b (cmI .lt n4 (.ofNat 0))) false (fun k5 => ko e1 1 fun v8 => k5 v8 s2) s2 fun v6 s7 => gdK (.b (cmI
  .lt n4 (.ofNat 0))) false (fun k9 => ko e1 0 fun v12 => k9 v12 s7) s7 fun v10 s11 => gdK (.b (cmI .lt n4 (.ofNat 0))) false (fun k13 => onp v10 fun b16 o17 =>
  k13 (.p b16 o17) s11) s11 fun v14 s15 => gdK (.b (cmI .lt n4 (.ofNat 0))) false (fun k18 => onp v14 fun b21 o22 => k18 (.p b21 (Nat.add o22 2)) s15) s15 fun
  v19 s20 => gdK (.b (cmI .lt n4 (.ofNat 0))) false (fun k23 => onp v19 fun b26 o27 => ldK b26 o27 s20 fun v28 => k23 v28 s20) s20 fun v24 s25 => gdK (.b (cmI
  .lt n4 (.ofNat 0))) false (fun k29 => bnr (lenV v24 s25) fun v32 s33 => k29 v32 s33) s25 fun v30 s31 => gdK (.b (cmI .lt n4 (.ofNat 0))) false (fun k34 =>
  oni v6 fun n37 => oni v30 fun n38 => k34 (.b (cmI .ge n37 n38)) s31) s31 fun v35 s36 => pkK (.b (cmI .lt n4 (.ofNat 0))) (.ok (.b true)) (.ok v35) fun v39 =>
  nx (fun e40 s41 => jn (fun e46 s47 => ko e46 0 fun v48 => onp v48 fun b49 o50 => ldK b49 (Nat.add o50 2) s47 fun v51 => ko e46 1 fun v52 => onSlx v51 fun b53
  o54 q55 => oni v52 fun n57 => onON (nat n57) fun i56 => ifX (Nat.blt i56 q55) (ldK b53 (Nat.add o54 (Nat.mul i56 1)) s47 fun v58 => nx (fun e59 s60 => .ok .r
  e59 s60) (kset e46 4 v58) s47)) fun k42 => ko e40 15 fun v43 => cdK v43 (nx (fun e44 s45 => .ok .r e44 s45) (kset e40 4 (.i (.negSucc 0))) s41) (k42 e40 s41))
  (kset e1 15 v39) s36) (kset env 4 (.i (.ofNat 0))) s
theorem fe22 : rf22 = fastOf kf22 := by kernel_rfl
noncomputable def rf68 : RFun := .mk 1 [.t 2, .t 3] fun cl env s => ko env 0 fun v1 => bnr (boxV v1 s) fun v2 s3 => nx (fun e4 s5 => ko e4 1 fun v6 => onp v6 fun b7 o8 => bnr (ldnP 9 b7 o8 s5) fun v9 s10 => bnr (cl 115
  [v9] s10) fun v11 s12 => nx (fun e13 s14 => ko e13 4 fun v15 => oni v15 fun n16 => nx (fun e17 s18 => jn (fun e24 s25 => ko e24 1 fun v26 => onp v26 fun b27
  o28 => bnr (ldnP 9 b27 o28 s25) fun v29 s30 => bnr (cl 117 [v29] s30) fun v31 s32 => bnr (cl 116 [v31] s32) fun v33 s34 => extK v33 0 fun v35 => extK v33
  1 fun v36 => nx (fun e37 s38 => ko e37 6 fun v39 => oni v39 fun n40 => nx (fun e41 s42 => jn (fun e48 s49 => ko e48 1 fun v50 => onp v50 fun b51 o52 => ldK
  b51 (Nat.add o52 0) s49 fun v53 => ko e48 1 fun v54 => onp v54 fun b55 o56 => ldK b55 (Nat.add o56 6) s49 fun v57 => bnr (cl 118 [v53, v57] s49) fun v58 s59
  => extK v58 0 fun v60 => extK v58 1 fun v61 => nx (fun e62 s63 => ko e62 6 fun v64 => oni v64 fun n65 => nx (fun e66 s67 => jn (fun e73 s74 => ko e73 1 fun
  v75 => onp v75 fun b76 o77 => bnr (ldnP 9 b76 o77 s74) fun v78 s79 => ko e73 7 fun v80 => onp v80 fun b81 o82 => bnr (ldnP 1 b81 (Nat.add o82 0) s74) fun
  v83 s84 => bnr (cl 20 [v83] s74) fun v85 s86 => ko e73 1 fun v87 => onp v87 fun b88 o89 => bnr (ldnP 9 b88 o89 s86) fun v90 s91 => ifX (eqV v78 v90)
  (bnr (cl 119 [v90, v85] s86) fun v92 s93 => extK v92 0 fun v94 => extK v92 1 fun v95 => nx (fun e96 s97 => ko e96 6 fun v98 => oni v98 fun n99 => nx (fun
  e100 s101 => jn (fun e107 s108 => ko e107 1 fun v109 => onp v109 fun b110 o111 => ldK b110 (Nat.add o111 3) s108 fun v112 => bnr (cl 120 [v112] s108) fun
  v113 s114 => extK v113 0 fun v115 => extK v113 1 fun v116 => nx (fun e117 s118 => ko e117 6 fun v119 => oni v119 fun n120 => nx (fun e121 s122 => jn (fun e128
  s129 => ko e128 1 fun v130 => onp v130 fun b131 o132 => ldK b131 (Nat.add o132 2) s129 fun v133 => nx (fun e134 s135 => bkK (bindX (lpR (fun cl e136 s137 =>
  ko e136 62 fun v138 => ko e136 61 fun v139 => oni v138 fun n140 => oni v139 fun n141 => nx (fun e142 s143 => jn (fun e146 s147 => bkK (ko e146 62 fun v148 =>
  nx (fun e149 s150 => ko e149 1 fun v151 => onp v151 fun b152 o153 => bnr (ldnP 9 b152 o153 s150) fun v154 s155 => ko e149 10 fun v156 => bnr (cl 121
  [v154, v156] s155) fun v157 s158 => extK v157 0 fun v159 => extK v157 1 fun v160 => nx (fun e161 s162 => ko e161 5 fun v163 => ko e161 11 fun v164 => bnr (cl
  123 [] s162) fun v165 s166 => bnr (cl 122 [v163, v164, v165] s166) fun v167 s168 => nx (idk) e161 s168) (kset e149 11 v159) s158) (kset e146 10 v148) s147) 1
  (fun e169 s170 => ko e169 62 fun v171 => oni v171 fun n172 => frcI (wrapI (arI .add n172 (.ofNat 1))) fun n173 => nx (idk) (kset e169 62 (.i n173)) s170)) fun
  k144 => ko e142 63 fun v145 => cdK v145 (k144 e142 s143) (.ok (.x 0) e142 s143)) (kset e136 63 (.b (cmI .lt n140 n141))) s137) lpFuel cl e134 s135) (idk)) 0
  (fun e174 s175 => ko e174 1 fun v176 => onp v176 fun b177 o178 => bnr (ldnP 9 b177 o178 s175) fun v179 s180 => bnr (cl 124 [v179] s180) fun v181 s182 =>
  ko e174 5 fun v183 => ko e174 7 fun v184 => ko e174 8 fun v185 => ko e174 9 fun v186 => bnr (oL (fill (.cons 0 9 (.c v181) (.cons 9 1 (.c v183) (.cons 10 1
  (.c v184) (.cons 11 1 (.c v185) (.cons 12 1 (.c v186) .nil))))) [.i (.ofNat 0), .i (.ofNat 0), .i (.ofNat 0), .i (.ofNat 0), .i (.ofNat 0), .i (.ofNat 0), .i
  (.ofNat 0), .i (.ofNat 0), .ns, .np, .np, .np, .np] .nil) okA s182) fun v187 s188 => bnr (boxV v187 s188) fun v189 s190 => nx (fun e191 s192 => .ok .r e191
  s192) (kset (kset e174 2 v189) 3 (.i (.ofNat 0))) s190)) (kset (kset e128 61 v133) 62 (.i (.ofNat 0))) s129) fun k123 => ko e121 58 fun v124 => cdK v124 (ko
  e121 6 fun v125 => nx (fun e126 s127 => .ok .r e126 s127) (kset (kset e121 2 (.np)) 3 v125) s122) (k123 e121 s122)) (kset e117 58 (.b (cmI .ne n120 (.ofNat
  0)))) s118) (kset (kset e107 9 v115) 6 v116) s114) fun k102 => ko e100 49 fun v103 => cdK v103 (ko e100 6 fun v104 => nx (fun e105 s106 => .ok .r e105 s106)
  (kset (kset e100 2 (.np)) 3 v104) s101) (k102 e100 s101)) (kset e96 49 (.b (cmI .ne n99 (.ofNat 0)))) s97) (kset (kset e73 8 v94) 6 v95) s93)) fun k68 => ko
  e66 36 fun v69 => cdK v69 (ko e66 6 fun v70 => nx (fun e71 s72 => .ok .r e71 s72) (kset (kset e66 2 (.np)) 3 v70) s67) (k68 e66 s67)) (kset e62 36 (.b (cmI .ne
  n65 (.ofNat 0)))) s63) (kset (kset e48 7 v60) 6 v61) s59) fun k43 => ko e41 25 fun v44 => cdK v44 (ko e41 6 fun v45 => nx (fun e46 s47 => .ok .r e46 s47) (kset
  (kset e41 2 (.np)) 3 v45) s42) (k43 e41 s42)) (kset e37 25 (.b (cmI .ne n40 (.ofNat 0)))) s38) (kset (kset e24 5 v35) 6 v36) s34) fun k19 => ko e17 16 fun v20
  => cdK v20 (ko e17 4 fun v21 => nx (fun e22 s23 => .ok .r e22 s23) (kset (kset e17 2 (.np)) 3 v21) s18) (k19 e17 s18)) (kset e13 16 (.b (cmI .ne n16 (.ofNat
  0)))) s14) (kset e4 4 v11) s12) (kset (kset (kset env 1 v2) 2 (.np)) 3 (.i (.ofNat 0))) s3
theorem fe68 : rf68 = fastOf kf68 := by kernel_rfl
noncomputable def rf69 : RFun := .mk 3 [.t 6] fun cl env s => nx (fun e1 s2 => noX (klk e1 12) (ko e1 0 fun v3 => ko e1 2 fun v4 => ko e1 1 fun v5 => bnr (eKp (.q (.max (.c v5) (.c (.i (.ofNat 0))))) .nil s2 cl) fun v6 s7
  => bnr (cl 125 [v4] s2) fun v8 s9 => ko e1 0 fun v10 => ifX (eqV v3 v10) (ko e1 1 fun v11 => ifX (eqV v5 v11) (bnr (eKp (.q (.max (.c v11) (.c (.i (.ofNat
  0))))) .nil s9 cl) fun v12 s13 => ifX (eqV v6 v12) (bnr (eKp (.q (.mks [.b false, .z 0 0] 24 (.c v6) (.c v6))) .nil s9 cl) fun v14 s15 => ko e1 0 fun v16 =>
  ifX (eqV v10 v16) (bnr (oL (fill (.cons 0 1 (.c v16) (.cons 1 1 (.c v8) (.cons 2 1 (.c v14) .nil))) [.i (.ofNat 0), .ns, .ns, .i (.ofNat 0), .i (.ofNat 0),
  .b false, .i (.ofNat 0), .i (.ofNat 0), .i (.ofNat 0), .ns, .i (.ofNat 0), .i (.ofNat 0), .np, .i (.ofNat 0), .b false, .z 0 0, .z 0 0, .ns, .ns] .nil) okA
  s15) fun v17 s18 => bnr (boxV v17 s15) fun v19 s20 => nx (fun e21 s22 => .ok .r e21 s22) (kset e1 6 v19) s20)))))) (kset env 6 (.np)) s
theorem fe69 : rf69 = fastOf kf69 := by kernel_rfl
noncomputable def rf70 : RFun := .mk 1 [.t 2] fun cl env s => nx (fun e1 s2 => ko e1 0 fun v3 => onp v3 fun b4 o5 => ldK b4 (Nat.add o5 9) s2 fun v6 => bnr (cl 126 [v6] s2) fun v7 s8 => ko e1 0 fun v9 => onp v9 fun b10
  o11 => ldK b10 (Nat.add o11 10) s2 fun v12 => bnr (cl 127 [v12] s2) fun v13 s14 => oni v7 fun n15 => oni v13 fun n16 => frcI (wrapI (arI .add n15 n16)) fun
  n17 => ko e1 0 fun v18 => onp v18 fun b19 o20 => ldK b19 (Nat.add o20 11) s2 fun v21 => bnr (cl 128 [v21] s2) fun v22 s23 => oni v22 fun n24 => frcI (wrapI
  (arI .add n17 n24)) fun n25 => ko e1 0 fun v26 => onp v26 fun b27 o28 => ldK b27 (Nat.add o28 12) s2 fun v29 => bnr (cl 129 [v29] s2) fun v30 s31 => oni
  v30 fun n32 => frcI (wrapI (arI .add n25 n32)) fun n33 => nx (fun e34 s35 => .ok .r e34 s35) (kset e1 2 (.i n33)) s2) (kset env 2 (.i (.ofNat 0))) s
theorem fe70 : rf70 = fastOf kf70 := by kernel_rfl
noncomputable def rf71 : RFun := .mk 2 [.t 4, .t 5, .t 6] fun cl env s => nx (fun e1 s2 => ko e1 0 fun v3 => onp v3 fun b4 o5 => ldK b4 (Nat.add o5 3) s2 fun v6 => oni v6 fun n7 => frcI (wrapI (arI .add n7 (.ofNat 1))) fun n8 => onp
  v3 fun b9 o10 => bnr (stV b9 (Nat.add o10 3) (.i n8) s2) fun v11 s12 => nx (fun e13 s14 => ko e13 1 fun v15 => oni v15 fun n16 => gdK (.b (cmI .lt n16
  (.ofNat 0))) false (fun k17 => ko e13 1 fun v20 => k17 v20 s14) s14 fun v18 s19 => gdK (.b (cmI .lt n16 (.ofNat 0))) false (fun k21 => ko e13 0 fun v24 => k21
  v24 s19) s19 fun v22 s23 => gdK (.b (cmI .lt n16 (.ofNat 0))) false (fun k25 => onp v22 fun b28 o29 => k25 (.p b28 o29) s23) s23 fun v26 s27 => gdK (.b (cmI
  .lt n16 (.ofNat 0))) false (fun k30 => onp v26 fun b33 o34 => k30 (.p b33 (Nat.add o34 2)) s27) s27 fun v31 s32 => gdK (.b (cmI .lt n16 (.ofNat 0))) false
  (fun k35 => onp v31 fun b38 o39 => ldK b38 o39 s32 fun v40 => k35 v40 s32) s32 fun v36 s37 => gdK (.b (cmI .lt n16 (.ofNat 0))) false (fun k41 => bnr (lenV
  v36 s37) fun v44 s45 => k41 v44 s45) s37 fun v42 s43 => gdK (.b (cmI .lt n16 (.ofNat 0))) false (fun k46 => oni v18 fun n49 => oni v42 fun n50 => k46 (.b
  (cmI .ge n49 n50)) s43) s43 fun v47 s48 => pkK (.b (cmI .lt n16 (.ofNat 0))) (.ok (.b true)) (.ok v47) fun v51 => gdK v51 false (fun k52 => ko e13 0 fun v55 =>
  k52 v55 s48) s48 fun v53 s54 => gdK v51 false (fun k56 => onp v53 fun b59 o60 => k56 (.p b59 o60) s54) s54 fun v57 s58 => gdK v51 false (fun k61 => onp v57
  fun b64 o65 => k61 (.p b64 (Nat.add o65 2)) s58) s58 fun v62 s63 => gdK v51 false (fun k66 => onp v62 fun b69 o70 => ldK b69 o70 s63 fun v71 => k66 v71 s63)
  s63 fun v67 s68 => gdK v51 false (fun k72 => ko e13 1 fun v75 => k72 v75 s68) s68 fun v73 s74 => gdK v51 false (fun k76 => onSlx v67 fun b79 o80 q81 => oni
  v73 fun n83 => onON (nat n83) fun i82 => ifX (Nat.blt i82 q81) (k76 (.p b79 (Nat.add o80 (Nat.mul i82 1))) s74)) s74 fun v77 s78 => gdK v51 false (fun k84 =>
  onp v77 fun b87 o88 => ldK b87 o88 s78 fun v89 => k84 v89 s78) s78 fun v85 s86 => gdK v51 false (fun k90 => oni v85 fun n93 => k90 (.b (cmI .ne n93 (.negSucc
  0))) s86) s86 fun v91 s92 => pkK v51 (.ok (.b true)) (.ok v91) fun v94 => nx (fun e95 s96 => jn (fun e101 s102 => ko e101 0 fun v103 => onp v103 fun b104 o105
  => ldK b104 (Nat.add o105 2) s102 fun v106 => ko e101 1 fun v107 => ko e101 0 fun v108 => onp v108 fun b109 o110 => ldK b109 (Nat.add o110 0) s102 fun v111 =>
  onSlx v106 fun b112 o113 q114 => oni v107 fun n116 => onON (nat n116) fun i115 => ifX (Nat.blt i115 q114) (bnr (stV b112 (Nat.add o113 (Nat.mul i115 1))
  v111 s102) fun v117 s118 => nx (fun e119 s120 => ko e119 0 fun v121 => onp v121 fun b122 o123 => ldK b122 (Nat.add o123 0) s120 fun v124 => ko e119 0 fun v125
  => onp v125 fun b126 o127 => ldK b126 (Nat.add o127 1) s120 fun v128 => nx (fun e129 s130 => .ok .r e129 s130) (kset (kset (kset e119 4 v124) 5 v128) 6 (.b
  true)) s120) e101 s118)) fun k97 => ko e95 34 fun v98 => cdK v98 (nx (fun e99 s100 => .ok .r e99 s100) (kset (kset (kset e95 4 (.i (.ofNat 0))) 5 (.b false)) 6
  (.b false)) s96) (k97 e95 s96)) (kset e13 34 v94) s92) e1 s12) (kset (kset (kset env 4 (.i (.ofNat 0))) 5 (.b false)) 6 (.b false)) s
theorem fe71 : rf71 = fastOf kf71 := by kernel_rfl
noncomputable def rf72 : RFun := .mk 2 [] fun cl env s => ko env 0 fun v1 => onp v1 fun b2 o3 => ldK b2 (Nat.add o3 7) s fun v4 => nx (fun e5 s6 => bkK (ko e5 7 fun v7 => oni v7 fun n8 => nx (fun e9 s10 => jn (idk)
  fun k11 => ko e9 8 fun v12 => cdK v12 (bkK (ko e9 0 fun v13 => ko e9 1 fun v14 => bnr (cl 130 [v13, v14] s10) fun v15 s16 => onBx v15 fun c17 => nx (fun e18
  s19 => jn (idk) fun k20 => ko e18 17 fun v21 => cdK v21 (k20 e18 s19) (ko e18 0 fun v22 => onp v22 fun b23 o24 => ldK b23 (Nat.add o24 6) s19 fun v25 => ko
  e18 0 fun v26 => onp v26 fun b27 o28 => ldK b27 (Nat.add o28 1) s19 fun v29 => bnr (lenV v29 s19) fun v30 s31 => oni v25 fun n32 => oni v30 fun n33 => nx
  (fun e34 s35 => jn (k20) fun k36 => ko e34 22 fun v37 => cdK v37 (ko e34 0 fun v38 => onp v38 fun b39 o40 => bnr (stV b39 (Nat.add o40 7) (.i (.ofNat 3))
  s35) fun v41 s42 => nx (k36) e34 s42) (ko e34 0 fun v43 => ko e34 0 fun v44 => bnr (oL (fill .nil [.i (.ofNat 0), .i (.ofNat 0), .np, .i (.ofNat 0), .b
  false, .z 0 0, .z 0 0, .ns, .ns] .nil) okA s35) fun v45 s46 => onp v43 fun b47 o48 => bnr (stV b47 (Nat.add o48 3) (.i (.ofNat 2)) s46) fun v49 s50 => onp
  v44 fun b51 o52 => onAx v45 fun l53 => bnr (stnA 9 b51 (Nat.add o52 10) l53 s50) fun v54 s55 => nx (k36) e34 s55)) (kset e18 22 (.b (cmI .ge n32 n33))) s19))
  (kset e9 17 (.b (neg c17))) s16) 1 (k11)) (ko e9 7 fun v56 => oni v56 fun n57 => nx (fun e58 s59 => jn (fun e64 s65 => jn (k11) fun k66 => ko e64 36 fun v67
  => cdK v67 (ko e64 0 fun v68 => ko e64 1 fun v69 => bnr (cl 131 [v68, v69] s65) fun v70 s71 => nx (fun e72 s73 => jn (k66) fun k74 => ko e72 41 fun v75 =>
  cdK v75 (ko e72 0 fun v76 => onp v76 fun b77 o78 => bnr (stV b77 (Nat.add o78 7) (.i (.ofNat 0)) s73) fun v79 s80 => nx (k74) e72 s80) (k74 e72 s73)) (kset
  e64 41 v70) s71) (ko e64 7 fun v81 => oni v81 fun n82 => nx (fun e83 s84 => jn (k66) fun k85 => ko e83 45 fun v86 => cdK v86 (ko e83 1 fun v87 => onp v87 fun
  b88 o89 => ldK b88 (Nat.add o89 11) s84 fun v90 => ko e83 0 fun v91 => onp v91 fun b92 o93 => ldK b92 (Nat.add o93 0) s84 fun v94 => bnr (cl 132 [v90, v94]
  s84) fun v95 s96 => nx (fun e97 s98 => ko e97 0 fun v99 => onp v99 fun b100 o101 => bnr (stV b100 (Nat.add o101 7) (.i (.ofNat 4)) s98) fun v102 s103 => nx
  (k85) e97 s103) e83 s96) (ko e83 7 fun v104 => oni v104 fun n105 => nx (fun e106 s107 => jn (k85) fun k108 => ko e106 59 fun v109 => cdK v109 (ko e106 0 fun
  v110 => ko e106 1 fun v111 => bnr (cl 133 [v110, v111] s107) fun v112 s113 => nx (k108) e106 s113) (k108 e106 s107)) (kset e83 59 (.b (cmI .eq n105 (.ofNat
  4)))) s84)) (kset e64 45 (.b (cmI .eq n82 (.ofNat 3)))) s65)) fun k60 => ko e58 36 fun v61 => cdK v61 (k60 e58 s59) (ko e58 7 fun v62 => oni v62 fun n63 => nx
  (k60) (kset e58 36 (.b (cmI .eq n63 (.ofNat 2)))) s59)) (kset e9 36 (.b (cmI .eq n57 (.ofNat 1)))) s10)) (kset e5 8 (.b (cmI .eq n8 (.ofNat 0)))) s6) 0 (idk))
  (kset env 7 v4) s
theorem fe72 : rf72 = fastOf kf72 := by kernel_rfl
noncomputable def rf73 : RFun := .mk 2 [.cn 4 5, .t 5] fun cl env s => bnr (eNew [.i (.ofNat 0), .i (.ofNat 0), .i (.ofNat 0), .b false, .z 0 0] .nil s cl) fun v1 s2 => nx (fun e3 s4 => ko e3 0 fun v5 => onp v5 fun b6 o7 => ldK
  b6 (Nat.add o7 1) s4 fun v8 => ko e3 0 fun v9 => onp v9 fun b10 o11 => ldK b10 (Nat.add o11 6) s4 fun v12 => onSlx v8 fun b13 o14 q15 => oni v12 fun n17 =>
  onON (nat n17) fun i16 => ifX (Nat.blt i16 q15) (bnr (ldnP 6 b13 (Nat.add o14 (Nat.mul i16 6)) s4) fun v18 s19 => bnr (eNew [.i (.ofNat 0), .i (.ofNat 0),
  .i (.ofNat 0), .i (.ofNat 0), .i (.ofNat 0), .z 0 0] .nil s4 cl) fun v20 s21 => ko e3 0 fun v22 => ifX (eqV v5 v22) (onp v22 fun b23 o24 => ifX (eqV (.p b6
  o7) (.p b23 o24)) (ifX (eqV (.p b6 (Nat.add o7 1)) (.p b23 (Nat.add o24 1))) (ldK b23 (Nat.add o24 1) s21 fun v25 => ifX (eqV v8 v25) (ko e3 0 fun v26 => ifX
  (eqV v9 v26) (onp v26 fun b27 o28 => ifX (eqV (.p b10 o11) (.p b27 o28)) (ifX (eqV (.p b10 (Nat.add o11 6)) (.p b27 (Nat.add o28 6))) (ldK b27 (Nat.add o28 6)
  s21 fun v29 => ifX (eqV v12 v29) (onSlx v25 fun b30 o31 q32 => oni v29 fun n34 => onON (nat n34) fun i33 => ifX (Nat.blt i33 q32) (ifX (eqV (.p b13 (Nat.add
  o14 (Nat.mul i16 6))) (.p b30 (Nat.add o31 (Nat.mul i33 6)))) (bnr (ldnP 6 b30 (Nat.add o31 (Nat.mul i33 6)) s21) fun v35 s36 => ifX (eqV v18 v35) (onp v20
  fun b37 o38 => onAx v35 fun l39 => bnr (stnA 6 b37 o38 l39 s21) fun v40 s41 => nx (fun e42 s43 => ko e42 0 fun v44 => onp v44 fun b45 o46 => ldK b45
  (Nat.add (Nat.add o46 10) 1) s43 fun v47 => nx (fun e48 s49 => bkK (ko e48 21 fun v50 => oni v50 fun n51 => nx (fun e52 s53 => jn (idk) fun k54 => ko e52 22
  fun v55 => cdK v55 (ko e52 0 fun v56 => ko e52 1 fun v57 => ko e52 6 fun v58 => onp v58 fun b59 o60 => bnr (ldnP 6 b59 o60 s53) fun v61 s62 => bnr (cl 134
  [v56, v57, v61] s62) fun v63 s64 => extK v63 0 fun v65 => extK v63 1 fun v66 => ko e52 4 fun v67 => onp v67 fun b68 o69 => onAx v65 fun l70 => bnr (stnA 5
  b68 o69 l70 s64) fun v71 s72 => nx (fun e73 s74 => .ok .r e73 s74) (kset e52 5 v66) s72) (ko e52 21 fun v75 => oni v75 fun n76 => nx (fun e77 s78 => jn (k54)
  fun k79 => ko e77 30 fun v80 => cdK v80 (ko e77 0 fun v81 => ko e77 1 fun v82 => ko e77 6 fun v83 => onp v83 fun b84 o85 => bnr (ldnP 6 b84 o85 s78) fun v86
  s87 => bnr (cl 135 [v81, v82, v86] s87) fun v88 s89 => extK v88 0 fun v90 => extK v88 1 fun v91 => ko e77 4 fun v92 => onp v92 fun b93 o94 => onAx v90 fun
  l95 => bnr (stnA 5 b93 o94 l95 s89) fun v96 s97 => nx (fun e98 s99 => .ok .r e98 s99) (kset e77 5 v91) s97) (ko e77 21 fun v100 => oni v100 fun n101 => nx
  (fun e102 s103 => jn (k79) fun k104 => ko e102 38 fun v105 => cdK v105 (ko e102 0 fun v106 => ko e102 1 fun v107 => ko e102 6 fun v108 => onp v108 fun b109
  o110 => bnr (ldnP 6 b109 o110 s103) fun v111 s112 => bnr (cl 136 [v106, v107, v111] s112) fun v113 s114 => extK v113 0 fun v115 => extK v113 1 fun v116 =>
  ko e102 4 fun v117 => onp v117 fun b118 o119 => onAx v115 fun l120 => bnr (stnA 5 b118 o119 l120 s114) fun v121 s122 => nx (fun e123 s124 => .ok .r e123
  s124) (kset e102 5 v116) s122) (ko e102 21 fun v125 => oni v125 fun n126 => nx (fun e127 s128 => jn (k104) fun k129 => ko e127 46 fun v130 => cdK v130 (ko
  e127 0 fun v131 => ko e127 1 fun v132 => bnr (cl 137 [v131, v132] s128) fun v133 s134 => extK v133 0 fun v135 => extK v133 1 fun v136 => ko e127 4 fun v137
  => onp v137 fun b138 o139 => onAx v135 fun l140 => bnr (stnA 5 b138 o139 l140 s134) fun v141 s142 => nx (fun e143 s144 => .ok .r e143 s144) (kset e127 5
  v136) s142) (ko e127 21 fun v145 => oni v145 fun n146 => nx (fun e147 s148 => jn (k129) fun k149 => ko e147 53 fun v150 => cdK v150 (ko e147 0 fun v151 => ko
  e147 1 fun v152 => ko e147 6 fun v153 => onp v153 fun b154 o155 => bnr (ldnP 6 b154 o155 s148) fun v156 s157 => bnr (cl 138 [v151, v152, v156] s157) fun
  v158 s159 => extK v158 0 fun v160 => extK v158 1 fun v161 => ko e147 4 fun v162 => onp v162 fun b163 o164 => onAx v160 fun l165 => bnr (stnA 5 b163 o164
  l165 s159) fun v166 s167 => nx (fun e168 s169 => .ok .r e168 s169) (kset e147 5 v161) s167) (ko e147 21 fun v170 => oni v170 fun n171 => nx (fun e172 s173 =>
  jn (k149) fun k174 => ko e172 61 fun v175 => cdK v175 (ko e172 0 fun v176 => ko e172 1 fun v177 => ko e172 6 fun v178 => onp v178 fun b179 o180 => bnr (ldnP
  6 b179 o180 s173) fun v181 s182 => bnr (cl 139 [v176, v177, v181] s182) fun v183 s184 => extK v183 0 fun v185 => extK v183 1 fun v186 => ko e172 4 fun v187
  => onp v187 fun b188 o189 => onAx v185 fun l190 => bnr (stnA 5 b188 o189 l190 s184) fun v191 s192 => nx (fun e193 s194 => .ok .r e193 s194) (kset e172 5
  v186) s192) (ko e172 21 fun v195 => oni v195 fun n196 => nx (fun e197 s198 => jn (k174) fun k199 => ko e197 69 fun v200 => cdK v200 (ko e197 0 fun v201 => ko
  e197 1 fun v202 => bnr (cl 133 [v201, v202] s198) fun v203 s204 => nx (fun e205 s206 => ko e205 0 fun v207 => bnr (oL (fill .nil [.b false, .z 0 0] .nil)
  okA s206) fun v208 s209 => bnr (cl 140 [v207, v208, (.i (.ofNat 0))] s209) fun v210 s211 => extK v210 0 fun v212 => extK v210 1 fun v213 => ko e205 4 fun
  v214 => onp v214 fun b215 o216 => onAx v212 fun l217 => bnr (stnA 5 b215 o216 l217 s211) fun v218 s219 => nx (fun e220 s221 => .ok .r e220 s221) (kset e205
  5 v213) s219) e197 s204) (k199 e197 s198)) (kset e172 69 (.b (cmI .eq n196 (.ofNat 10)))) s173)) (kset e147 61 (.b (cmI .eq n171 (.ofNat 9)))) s148)) (kset
  e127 53 (.b (cmI .eq n146 (.ofNat 8)))) s128)) (kset e102 46 (.b (cmI .eq n126 (.ofNat 7)))) s103)) (kset e77 38 (.b (cmI .eq n101 (.ofNat 2)))) s78)) (kset
  e52 30 (.b (cmI .eq n76 (.ofNat 1)))) s53)) (kset e48 22 (.b (cmI .eq n51 (.ofNat 0)))) s49) 0 (fun e222 s223 => ko e222 0 fun v224 => ko e222 1 fun v225 =>
  bnr (cl 141 [v224, v225] s223) fun v226 s227 => extK v226 0 fun v228 => extK v226 1 fun v229 => ko e222 4 fun v230 => onp v230 fun b231 o232 => onAx v228
  fun l233 => bnr (stnA 5 b231 o232 l233 s227) fun v234 s235 => nx (fun e236 s237 => .ok .r e236 s237) (kset e222 5 v229) s235)) (kset e42 21 v47) s43) (kset
  e3 6 v20) s41))))))))))))) (kset (kset env 4 v1) 5 (.b false)) s2
theorem fe73 : rf73 = fastOf kf73 := by kernel_rfl
noncomputable def rf75 : RFun := .mk 1 [.t 2] fun cl env s => nx (fun e1 s2 => ko e1 0 fun v3 => bnr (nilsV true v3 s2) fun v4 s5 => nx (fun e6 s7 => jn (fun e12 s13 => bnr (oL (fill .nil (repL [.b false, .z 0 0] 0)
  .nil) (bsl1 0 (lenL [.b false, .z 0 0])) s13) fun v14 s15 => ko e12 0 fun v16 => bnr (ap0 2 24 (.ok v16) v14 s15) fun v17 s18 => nx (fun e19 s20 => .ok .r
  e19 s20) (kset e12 2 v17) s18) fun k8 => ko e6 4 fun v9 => cdK v9 (nx (fun e10 s11 => .ok .r e10 s11) (kset e6 2 (.ns)) s7) (k8 e6 s7)) (kset e1 4 v4) s5)
  (kset env 2 (.ns)) s
theorem fe75 : rf75 = fastOf kf75 := by kernel_rfl
noncomputable def rf76 : RFun := .mk 1 [.t 2] fun cl env s => nx (fun e1 s2 => ko e1 0 fun v3 => bnr (eKp (.q (.f64b (.c v3))) .nil s2 cl) fun v4 s5 => nx (fun e6 s7 => ko e6 3 fun v8 => bnr (eKp (.q (.shl (.c v8) (.c
  (.k .u64 (.ofNat 1))))) .nil s7 cl) fun v9 s10 => bnr (onK (cmk1 .gt (.ok (.k .u64 (.ofNat 18437736874454810624)))) v9 s10) fun v11 s12 => nx (fun e13 s14 =>
  jn (fun e19 s20 => ko e19 3 fun v21 => nx (fun e22 s23 => .ok .r e22 s23) (kset e19 2 v21) s20) fun k15 => ko e13 8 fun v16 => cdK v16 (nx (fun e17 s18 => .ok
  .r e17 s18) (kset e13 2 (.k .u64 (.ofNat 9221120237041090560))) s14) (k15 e13 s14)) (kset e6 8 v11) s12) (kset e1 3 v4) s5) (kset env 2 (.k .u64 (.ofNat 0))) s
theorem fe76 : rf76 = fastOf kf76 := by kernel_rfl
noncomputable def rf78 : RFun := .mk 2 [.t 4] fun cl env s => nx (fun e1 s2 => ko e1 0 fun v3 => ko e1 1 fun v4 => bnr (cl 79 [v3, v4] s2) fun v5 s6 => onBx v5 fun c7 => nx (fun e8 s9 => jn (fun e14 s15 => ko e14 0 fun
  v16 => onp v16 fun b17 o18 => ldK b17 (Nat.add o18 0) s15 fun v19 => ko e14 1 fun v20 => onSlx v19 fun b21 o22 q23 => oni v20 fun n25 => onON (nat n25) fun
  i24 => ifX (Nat.blt i24 q23) (ldK b21 (Nat.add (Nat.add o22 (Nat.mul i24 3)) 0) s15 fun v26 => nx (fun e27 s28 => .ok .r e27 s28) (kset e14 4 v26) s15)) fun
  k10 => ko e8 8 fun v11 => cdK v11 (nx (fun e12 s13 => .ok .r e12 s13) (kset e8 4 (.i (.ofNat 0))) s9) (k10 e8 s9)) (kset e1 8 (.b (neg c7))) s6) (kset env 4
  (.i (.ofNat 0))) s
theorem fe78 : rf78 = fastOf kf78 := by kernel_rfl
noncomputable def rf79 : RFun := .mk 2 [.t 4] fun cl env s => nx (fun e1 s2 => ko e1 1 fun v3 => oni v3 fun n4 => gdK (.b (cmI .ge n4 (.ofNat 0))) true (fun k5 => ko e1 1 fun v8 => k5 v8 s2) s2 fun v6 s7 => gdK (.b (cmI
  .ge n4 (.ofNat 0))) true (fun k9 => ko e1 0 fun v12 => k9 v12 s7) s7 fun v10 s11 => gdK (.b (cmI .ge n4 (.ofNat 0))) true (fun k13 => onp v10 fun b16 o17 =>
  k13 (.p b16 o17) s11) s11 fun v14 s15 => gdK (.b (cmI .ge n4 (.ofNat 0))) true (fun k18 => onp v14 fun b21 o22 => k18 (.p b21 (Nat.add o22 0)) s15) s15 fun
  v19 s20 => gdK (.b (cmI .ge n4 (.ofNat 0))) true (fun k23 => onp v19 fun b26 o27 => ldK b26 o27 s20 fun v28 => k23 v28 s20) s20 fun v24 s25 => gdK (.b (cmI
  .ge n4 (.ofNat 0))) true (fun k29 => bnr (lenV v24 s25) fun v32 s33 => k29 v32 s33) s25 fun v30 s31 => gdK (.b (cmI .ge n4 (.ofNat 0))) true (fun k34 => oni
  v6 fun n37 => oni v30 fun n38 => k34 (.b (cmI .lt n37 n38)) s31) s31 fun v35 s36 => pkK (.b (cmI .ge n4 (.ofNat 0))) (.ok v35) (.ok (.b false)) fun v39 => nx
  (fun e40 s41 => .ok .r e40 s41) (kset e1 4 v39) s36) (kset env 4 (.b false)) s
theorem fe79 : rf79 = fastOf kf79 := by kernel_rfl
noncomputable def rf94 : RFun := .mk 1 [.t 2, .t 3] fun cl env s => nx (fun e1 s2 => ko e1 0 fun v3 => onp v3 fun b4 o5 => ldK b4 (Nat.add o5 3) s2 fun v6 => oni v6 fun n7 => frcI (wrapI (arI .add n7 (.ofNat 1))) fun n8 => onp
  v3 fun b9 o10 => bnr (stV b9 (Nat.add o10 3) (.i n8) s2) fun v11 s12 => nx (fun e13 s14 => ko e13 0 fun v15 => onp v15 fun b16 o17 => ldK b16 (Nat.add o17
  0) s14 fun v18 => ko e13 0 fun v19 => onp v19 fun b20 o21 => ldK b20 (Nat.add o21 1) s14 fun v22 => nx (fun e23 s24 => .ok .r e23 s24) (kset (kset e13 2 v18)
  3 v22) s14) e1 s12) (kset (kset env 2 (.i (.ofNat 0))) 3 (.b false)) s
theorem fe94 : rf94 = fastOf kf94 := by kernel_rfl
noncomputable def rf95 : RFun := .mk 1 [.t 2] fun cl env s => nx (fun e1 s2 => ko e1 0 fun v3 => onp v3 fun b4 o5 => ldK b4 (Nat.add o5 1) s2 fun v6 => nx (fun e7 s8 => .ok .r e7 s8) (kset e1 2 v6) s2) (kset env 2 (.i
  (.ofNat 0))) s
theorem fe95 : rf95 = fastOf kf95 := by kernel_rfl
noncomputable def rf98 : RFun := .mk 1 [.t 2] fun cl env s => ko env 0 fun v1 => bnr (boxV v1 s) fun v2 s3 => nx (fun e4 s5 => ko e4 1 fun v6 => onp v6 fun b7 o8 => ldK b7 (Nat.add o8 11) s5 fun v9 => bnr (cl 169 [v9]
  s5) fun v10 s11 => nx (fun e12 s13 => .ok .r e12 s13) (kset e4 2 v10) s11) (kset (kset env 1 v2) 2 (.i (.ofNat 0))) s3
theorem fe98 : rf98 = fastOf kf98 := by kernel_rfl
noncomputable def rf115 : RFun := .mk 1 [.t 2] fun cl env s => ko env 0 fun v1 => bnr (boxV v1 s) fun v2 s3 => nx (fun e4 s5 => ko e4 1 fun v6 => onp v6 fun b7 o8 => ldK b7 (Nat.add o8 0) s5 fun v9 => bnr (cl 187 [v9,
  (.i (.ofNat 4)), (.i (.ofNat 1024))] s5) fun v10 s11 => ko e4 1 fun v12 => onp v12 fun b13 o14 => ldK b13 (Nat.add o14 1) s5 fun v15 => bnr (cl 187 [v15,
  (.i (.ofNat 0)), (.i (.ofNat 2048))] s5) fun v16 s17 => ko e4 1 fun v18 => onp v18 fun b19 o20 => ldK b19 (Nat.add o20 2) s5 fun v21 => bnr (cl 187 [v21,
  (.i (.ofNat 0)), (.i (.ofNat 8))] s5) fun v22 s23 => ko e4 1 fun v24 => onp v24 fun b25 o26 => ldK b25 (Nat.add o26 3) s5 fun v27 => bnr (cl 187 [v27, (.i
  (.ofNat 1)), (.i (.ofNat 16))] s5) fun v28 s29 => ko e4 1 fun v30 => onp v30 fun b31 o32 => ldK b31 (Nat.add o32 4) s5 fun v33 => bnr (cl 187 [v33, (.i
  (.ofNat 1)), (.i (.ofNat 8))] s5) fun v34 s35 => ko e4 1 fun v36 => onp v36 fun b37 o38 => ldK b37 (Nat.add o38 5) s5 fun v39 => bnr (cl 187 [v39, (.i
  (.ofNat 0)), (.i (.ofNat 8))] s5) fun v40 s41 => ko e4 1 fun v42 => onp v42 fun b43 o44 => ldK b43 (Nat.add o44 6) s5 fun v45 => bnr (cl 187 [v45, (.i
  (.ofNat 1)), (.i (.ofNat 256))] s5) fun v46 s47 => ko e4 1 fun v48 => onp v48 fun b49 o50 => ldK b49 (Nat.add o50 7) s5 fun v51 => ko e4 1 fun v52 => onp v52
  fun b53 o54 => ldK b53 (Nat.add o54 0) s5 fun v55 => bnr (cl 187 [v51, (.i (.ofNat 0)), v55] s5) fun v56 s57 => bnr (oL (fill (.cons 0 1 (.c v10) (.cons 1
  1 (.c v16) (.cons 2 1 (.c v22) (.cons 3 1 (.c v28) (.cons 4 1 (.c v34) (.cons 5 1 (.c v40) (.cons 6 1 (.c v46) (.cons 7 1 (.c v56) .nil)))))))) (repL [.b
  false] 8) .nil) (bsl1 8 (lenL [.b false])) s5) fun v58 s59 => bnr (lenV v58 s59) fun v60 s61 => ifX (eqV (.i (.ofNat 0)) (.i (.ofNat 0))) (nx (fun e62 s63 =>
  bkK (bindX (lpR (fun cl e64 s65 => ko e64 33 fun v66 => ko e64 32 fun v67 => oni v66 fun n68 => oni v67 fun n69 => nx (fun e70 s71 => jn (fun e74 s75 => bkK
  (ko e74 31 fun v76 => ko e74 33 fun v77 => onSlx v76 fun b78 o79 q80 => oni v77 fun n82 => onON (nat n82) fun i81 => ifX (Nat.blt i81 q80) (ldK b78 (Nat.add
  o79 (Nat.mul i81 1)) s75 fun v83 => nx (fun e84 s85 => ko e84 4 fun v86 => onBx v86 fun c87 => nx (fun e88 s89 => jn (idk) fun k90 => ko e88 38 fun v91 => cdK
  v91 (nx (fun e92 s93 => .ok .r e92 s93) (kset e88 2 (.i (.ofNat 1))) s89) (k90 e88 s89)) (kset e84 38 (.b (neg c87))) s85) (kset e74 4 v83) s75)) 1 (fun e94
  s95 => ko e94 33 fun v96 => oni v96 fun n97 => frcI (wrapI (arI .add n97 (.ofNat 1))) fun n98 => nx (idk) (kset e94 33 (.i n98)) s95)) fun k72 => ko e70 34
  fun v73 => cdK v73 (k72 e70 s71) (.ok (.x 0) e70 s71)) (kset e64 34 (.b (cmI .lt n68 n69))) s65) lpFuel cl e62 s63) (idk)) 0 (fun e99 s100 => ko e99 1 fun v101
  => onp v101 fun b102 o103 => ldK b102 (Nat.add o103 3) s100 fun v104 => ko e99 1 fun v105 => onp v105 fun b106 o107 => ldK b106 (Nat.add o107 5) s100 fun
  v108 => oni v104 fun n109 => oni v108 fun n110 => frcI (wrapI (arI .mul n109 n110)) fun n111 => ko e99 1 fun v112 => onp v112 fun b113 o114 => ldK b113
  (Nat.add o114 0) s100 fun v115 => oni v115 fun n116 => nx (fun e117 s118 => jn (fun e123 s124 => ko e123 1 fun v125 => onp v125 fun b126 o127 => ldK b126
  (Nat.add o127 8) s124 fun v128 => bnr (lenV v128 s124) fun v129 s130 => bnr (cl 187 [v129, (.i (.ofNat 1)), (.i (.ofNat 8))] s130) fun v131 s132 => onBx
  v131 fun c133 => gdK (.b (neg c133)) false (fun k134 => ko e123 1 fun v137 => onp v137 fun b138 o139 => k134 (.p b138 (Nat.add o139 8)) s132) s132 fun v135
  s136 => gdK (.b (neg c133)) false (fun k140 => onp v135 fun b143 o144 => ldK b143 o144 s136 fun v145 => k140 v145 s136) s136 fun v141 s142 => gdK (.b (neg
  c133)) false (fun k146 => bnr (cl 188 [v141, (.fn 189 [] [])] s142) fun v149 s150 => k146 v149 s150) s142 fun v147 s148 => pkK (.b (neg c133)) (.ok (.b
  true)) (.ok v147) fun v151 => nx (fun e152 s153 => jn (fun e158 s159 => nx (fun e160 s161 => .ok .r e160 s161) (kset e158 2 (.i (.ofNat 0))) s159) fun k154 =>
  ko e152 57 fun v155 => cdK v155 (nx (fun e156 s157 => .ok .r e156 s157) (kset e152 2 (.i (.ofNat 4))) s153) (k154 e152 s153)) (kset e123 57 v151) s148) fun
  k119 => ko e117 47 fun v120 => cdK v120 (nx (fun e121 s122 => .ok .r e121 s122) (kset e117 2 (.i (.ofNat 1))) s118) (k119 e117 s118)) (kset e99 47 (.b (cmI .gt
  n111 n116))) s100)) (kset (kset (kset e4 31 v58) 32 v60) 33 (.i (.ofNat 0))) s59)) (kset (kset env 1 v2) 2 (.i (.ofNat 0))) s3
theorem fe115 : rf115 = fastOf kf115 := by kernel_rfl
noncomputable def rf116 : RFun := .mk 1 [.t 2, .t 3] fun cl env s => nx (fun e1 s2 => ko e1 0 fun v3 => oni v3 fun n4 => gdK (.b (cmI .lt n4 (.ofNat 0))) false (fun k5 => ko e1 0 fun v8 => k5 v8 s2) s2 fun v6 s7 => gdK (.b (cmI
  .lt n4 (.ofNat 0))) false (fun k9 => oni v6 fun n12 => k9 (.b (cmI .gt n12 (.ofNat 1048576))) s7) s7 fun v10 s11 => pkK (.b (cmI .lt n4 (.ofNat 0))) (.ok (.b
  true)) (.ok v10) fun v13 => nx (fun e14 s15 => jn (fun e20 s21 => ko e20 0 fun v22 => bnr (eKp (.q (.mks [.z 0 0] 16 (.c v22) (.c v22))) .nil s21 cl) fun v23
  s24 => bnr (oL (fill (.cons 0 1 (.c v23) .nil) [.ns, .i (.ofNat 0)] .nil) okA s24) fun v25 s26 => bnr (boxV v25 s26) fun v27 s28 => nx (fun e29 s30 => .ok
  .r e29 s30) (kset (kset e20 2 v27) 3 (.i (.ofNat 0))) s28) fun k16 => ko e14 9 fun v17 => cdK v17 (nx (fun e18 s19 => .ok .r e18 s19) (kset (kset e14 2 (.np))
  3 (.i (.ofNat 1))) s15) (k16 e14 s15)) (kset e1 9 v13) s11) (kset (kset env 2 (.np)) 3 (.i (.ofNat 0))) s
theorem fe116 : rf116 = fastOf kf116 := by kernel_rfl
noncomputable def rf117 : RFun := .mk 1 [.t 2] fun cl env s => ko env 0 fun v1 => bnr (boxV v1 s) fun v2 s3 => nx (fun e4 s5 => nx (fun e6 s7 => ko e6 1 fun v8 => onp v8 fun b9 o10 => bnr (ldnP 9 b9 o10 s7) fun v11 s12
  => bnr (cl 191 [v11] s12) fun v13 s14 => nx (fun e15 s16 => bkK (bindX (lpR (fun cl e17 s18 => ko e17 8 fun v19 => oni v19 fun n20 => nx (fun e21 s22 => jn
  (fun e25 s26 => bkK (ko e25 7 fun v27 => ko e25 8 fun v28 => bnr (eKp (.q (.ixa (.c v27) (.c v28) 4)) .nil s26 cl) fun v29 s30 => nx (fun e31 s32 => ko e31 3
  fun v33 => ko e31 5 fun v34 => oni v33 fun n35 => oni v34 fun n36 => frcI (wrapI (arI .add n35 n36)) fun n37 => nx (idk) (kset e31 3 (.i n37)) s32) (kset e25
  5 v29) s30) 1 (fun e38 s39 => ko e38 8 fun v40 => oni v40 fun n41 => frcI (wrapI (arI .add n41 (.ofNat 1))) fun n42 => nx (idk) (kset e38 8 (.i n42)) s39))
  fun k23 => ko e21 9 fun v24 => cdK v24 (k23 e21 s22) (.ok (.x 0) e21 s22)) (kset e17 9 (.b (cmI .lt n20 (.ofNat 4)))) s18) lpFuel cl e15 s16) (idk)) 0 (fun e43
  s44 => ko e43 3 fun v45 => nx (fun e46 s47 => .ok .r e46 s47) (kset e43 2 v45) s44)) (kset (kset e6 7 v13) 8 (.i (.ofNat 0))) s14) (kset e4 3 (.i (.ofNat 0)))
  s5) (kset (kset env 1 v2) 2 (.i (.ofNat 0))) s3
theorem fe117 : rf117 = fastOf kf117 := by kernel_rfl
noncomputable def rf118 : RFun := .mk 2 [.t 4, .t 5] fun cl env s => nx (fun e1 s2 => ko e1 0 fun v3 => bnr (cl 192 [v3] s2) fun v4 s5 => extK v4 0 fun v6 => extK v4 1 fun v7 => nx (fun e8 s9 => ko e8 7 fun v10 => oni v10 fun
  n11 => nx (fun e12 s13 => jn (fun e19 s20 => ko e19 1 fun v21 => bnr (cl 193 [v21] s20) fun v22 s23 => extK v22 0 fun v24 => extK v22 1 fun v25 => nx (fun
  e26 s27 => ko e26 7 fun v28 => oni v28 fun n29 => nx (fun e30 s31 => jn (fun e37 s38 => ko e37 6 fun v39 => bnr (oL (fill (.cons 0 1 (.c v39) .nil) [.np]
  .nil) okA s38) fun v40 s41 => ko e37 8 fun v42 => bnr (oL (fill (.cons 0 1 (.c v40) (.cons 1 1 (.c v42) .nil)) [.np, .np, .i (.ofNat 0)] .nil) okA s41) fun
  v43 s44 => bnr (boxV v43 s44) fun v45 s46 => nx (fun e47 s48 => .ok .r e47 s48) (kset (kset e37 4 v45) 5 (.i (.ofNat 0))) s46) fun k32 => ko e30 23 fun v33
  => cdK v33 (ko e30 7 fun v34 => nx (fun e35 s36 => .ok .r e35 s36) (kset (kset e30 4 (.np)) 5 v34) s31) (k32 e30 s31)) (kset e26 23 (.b (cmI .ne n29 (.ofNat
  0)))) s27) (kset (kset e19 8 v24) 7 v25) s23) fun k14 => ko e12 15 fun v15 => cdK v15 (ko e12 7 fun v16 => nx (fun e17 s18 => .ok .r e17 s18) (kset (kset e12 4
  (.np)) 5 v16) s13) (k14 e12 s13)) (kset e8 15 (.b (cmI .ne n11 (.ofNat 0)))) s9) (kset (kset e1 6 v6) 7 v7) s5) (kset (kset env 4 (.np)) 5 (.i (.ofNat 0))) s
theorem fe118 : rf118 = fastOf kf118 := by kernel_rfl
noncomputable def rf119 : RFun := .mk 2 [.t 4, .t 5] fun cl env s => ko env 0 fun v1 => bnr (boxV v1 s) fun v2 s3 => nx (fun e4 s5 => ko e4 2 fun v6 => onp v6 fun b7 o8 => bnr (ldnP 9 b7 o8 s5) fun v9 s10 => bnr (cl 115
  [v9] s10) fun v11 s12 => nx (fun e13 s14 => ko e13 6 fun v15 => oni v15 fun n16 => nx (fun e17 s18 => jn (fun e24 s25 => ko e24 1 fun v26 => bnr (cl 194
  [v26] s25) fun v27 s28 => ko e24 2 fun v29 => onp v29 fun b30 o31 => ldK b30 (Nat.add o31 0) s25 fun v32 => oni v27 fun n33 => oni v32 fun n34 => nx (fun
  e35 s36 => jn (fun e41 s42 => ko e41 2 fun v43 => onp v43 fun b44 o45 => ldK b44 (Nat.add o45 0) s42 fun v46 => bnr (cl 195 [v46] s42) fun v47 s48 => extK
  v47 0 fun v49 => extK v47 1 fun v50 => nx (fun e51 s52 => ko e51 8 fun v53 => oni v53 fun n54 => nx (fun e55 s56 => jn (fun e62 s63 => ko e62 2 fun v64 =>
  onp v64 fun b65 o66 => ldK b65 (Nat.add o66 1) s63 fun v67 => bnr (cl 196 [v67] s63) fun v68 s69 => extK v68 0 fun v70 => extK v68 1 fun v71 => nx (fun e72
  s73 => ko e72 8 fun v74 => oni v74 fun n75 => nx (fun e76 s77 => jn (fun e83 s84 => ko e83 1 fun v85 => ko e83 2 fun v86 => onp v86 fun b87 o88 => bnr
  (ldnP 9 b87 o88 s84) fun v89 s90 => bnr (cl 124 [v89] s90) fun v91 s92 => ko e83 7 fun v93 => ko e83 9 fun v94 => bnr (cl 197 [] s92) fun v95 s96 => bnr
  (oL (fill (.cons 0 9 (.c v91) (.cons 9 1 (.c v93) (.cons 10 1 (.c v94) (.cons 11 1 (.c v95) .nil)))) [.i (.ofNat 0), .i (.ofNat 0), .i (.ofNat 0), .i (.ofNat
  0), .i (.ofNat 0), .i (.ofNat 0), .i (.ofNat 0), .i (.ofNat 0), .ns, .np, .np, .np] .nil) okA s96) fun v97 s98 => bnr (oL (fill (.cons 0 1 (.c v85) (.cons 4
  12 (.c v97) .nil)) [.np, .ns, .b false, .i (.ofNat 0), .i (.ofNat 0), .i (.ofNat 0), .i (.ofNat 0), .i (.ofNat 0), .i (.ofNat 0), .i (.ofNat 0), .i (.ofNat 0),
  .i (.ofNat 0), .ns, .np, .np, .np] .nil) okA s98) fun v99 s100 => bnr (boxV v99 s100) fun v101 s102 => nx (fun e103 s104 => ko e103 2 fun v105 => onp v105
  fun b106 o107 => ldK b106 (Nat.add o107 3) s104 fun v108 => nx (fun e109 s110 => bkK (bindX (lpR (fun cl e111 s112 => ko e111 52 fun v113 => ko e111 51 fun
  v114 => oni v113 fun n115 => oni v114 fun n116 => nx (fun e117 s118 => jn (fun e121 s122 => bkK (ko e121 2 fun v123 => onp v123 fun b124 o125 => ldK b124
  (Nat.add o125 5) s122 fun v126 => bnr (cl 198 [v126] s122) fun v127 s128 => extK v127 0 fun v129 => extK v127 1 fun v130 => nx (fun e131 s132 => ko e131 12
  fun v133 => oni v133 fun n134 => nx (fun e135 s136 => jn (fun e142 s143 => ko e142 10 fun v144 => ko e142 10 fun v145 => onp v145 fun b146 o147 => ldK b146
  (Nat.add o147 1) s143 fun v148 => ko e142 11 fun v149 => bnr (oL (fill (.cons 0 1 (.c v149) .nil) (repL [.np] 1) .nil) (bsl1 1 (lenL [.np])) s143) fun v150
  s151 => bnr (ap0 1 8 (.ok v150) v148 s151) fun v152 s153 => onp v144 fun b154 o155 => bnr (stV b154 (Nat.add o155 1) v152 s153) fun v156 s157 => nx (idk)
  e142 s157) fun k137 => ko e135 61 fun v138 => cdK v138 (ko e135 12 fun v139 => nx (fun e140 s141 => .ok .r e140 s141) (kset (kset e135 4 (.np)) 5 v139) s136)
  (k137 e135 s136)) (kset e131 61 (.b (cmI .ne n134 (.ofNat 0)))) s132) (kset (kset e121 11 v129) 12 v130) s128) 1 (fun e158 s159 => ko e158 52 fun v160 => oni
  v160 fun n161 => frcI (wrapI (arI .add n161 (.ofNat 1))) fun n162 => nx (idk) (kset e158 52 (.i n162)) s159)) fun k119 => ko e117 53 fun v120 => cdK v120 (k119
  e117 s118) (.ok (.x 0) e117 s118)) (kset e111 53 (.b (cmI .lt n115 n116))) s112) lpFuel cl e109 s110) (idk)) 0 (fun e163 s164 => ko e163 10 fun v165 => nx (fun
  e166 s167 => .ok .r e166 s167) (kset (kset e163 4 v165) 5 (.i (.ofNat 0))) s164)) (kset (kset e103 51 v108) 52 (.i (.ofNat 0))) s104) (kset e83 10 v101) s102)
  fun k78 => ko e76 39 fun v79 => cdK v79 (ko e76 8 fun v80 => nx (fun e81 s82 => .ok .r e81 s82) (kset (kset e76 4 (.np)) 5 v80) s77) (k78 e76 s77)) (kset e72
  39 (.b (cmI .ne n75 (.ofNat 0)))) s73) (kset (kset e62 9 v70) 8 v71) s69) fun k57 => ko e55 30 fun v58 => cdK v58 (ko e55 8 fun v59 => nx (fun e60 s61 => .ok
  .r e60 s61) (kset (kset e55 4 (.np)) 5 v59) s56) (k57 e55 s56)) (kset e51 30 (.b (cmI .ne n54 (.ofNat 0)))) s52) (kset (kset e41 7 v49) 8 v50) s48) fun k37 =>
  ko e35 22 fun v38 => cdK v38 (nx (fun e39 s40 => .ok .r e39 s40) (kset (kset e35 4 (.np)) 5 (.i (.ofNat 1))) s36) (k37 e35 s36)) (kset e24 22 (.b (cmI .ne n33
  n34))) s25) fun k19 => ko e17 16 fun v20 => cdK v20 (ko e17 6 fun v21 => nx (fun e22 s23 => .ok .r e22 s23) (kset (kset e17 4 (.np)) 5 v21) s18) (k19 e17 s18))
  (kset e13 16 (.b (cmI .ne n16 (.ofNat 0)))) s14) (kset e4 6 v11) s12) (kset (kset (kset env 2 v2) 4 (.np)) 5 (.i (.ofNat 0))) s3
theorem fe119 : rf119 = fastOf kf119 := by kernel_rfl
noncomputable def rf120 : RFun := .mk 1 [.t 2, .t 3] fun cl env s => nx (fun e1 s2 => ko e1 0 fun v3 => oni v3 fun n4 => gdK (.b (cmI .lt n4 (.ofNat 1))) false (fun k5 => ko e1 0 fun v8 => k5 v8 s2) s2 fun v6 s7 => gdK (.b (cmI
  .lt n4 (.ofNat 1))) false (fun k9 => oni v6 fun n12 => k9 (.b (cmI .gt n12 (.ofNat 16))) s7) s7 fun v10 s11 => pkK (.b (cmI .lt n4 (.ofNat 1))) (.ok (.b
  true)) (.ok v10) fun v13 => nx (fun e14 s15 => jn (fun e20 s21 => ko e20 0 fun v22 => bnr (eKp (.q (.mks [.i (.ofNat 0)] 8 (.c v22) (.c v22))) .nil s21 cl)
  fun v23 s24 => bnr (oL (fill (.cons 2 1 (.c v23) .nil) [.i (.ofNat 0), .b false, .ns, .i (.ofNat 0)] .nil) okA s24) fun v25 s26 => bnr (boxV v25 s26) fun
  v27 s28 => nx (fun e29 s30 => ko e29 4 fun v31 => onp v31 fun b32 o33 => ldK b32 (Nat.add o33 2) s30 fun v34 => bnr (lenV v34 s30) fun v35 s36 => nx (fun
  e37 s38 => bkK (bindX (lpR (fun cl e39 s40 => ko e39 21 fun v41 => ko e39 20 fun v42 => oni v41 fun n43 => oni v42 fun n44 => nx (fun e45 s46 => jn (fun e49
  s50 => bkK (ko e49 21 fun v51 => nx (fun e52 s53 => ko e52 4 fun v54 => onp v54 fun b55 o56 => ldK b55 (Nat.add o56 2) s53 fun v57 => ko e52 5 fun v58 =>
  onSlx v57 fun b59 o60 q61 => oni v58 fun n63 => onON (nat n63) fun i62 => ifX (Nat.blt i62 q61) (bnr (stV b59 (Nat.add o60 (Nat.mul i62 1)) (.i (.negSucc
  0)) s53) fun v64 s65 => nx (idk) e52 s65)) (kset e49 5 v51) s50) 1 (fun e66 s67 => ko e66 21 fun v68 => oni v68 fun n69 => frcI (wrapI (arI .add n69 (.ofNat
  1))) fun n70 => nx (idk) (kset e66 21 (.i n70)) s67)) fun k47 => ko e45 22 fun v48 => cdK v48 (k47 e45 s46) (.ok (.x 0) e45 s46)) (kset e39 22 (.b (cmI .lt n43
  n44))) s40) lpFuel cl e37 s38) (idk)) 0 (fun e71 s72 => ko e71 4 fun v73 => nx (fun e74 s75 => .ok .r e74 s75) (kset (kset e71 2 v73) 3 (.i (.ofNat 0))) s72))
  (kset (kset e29 20 v35) 21 (.i (.ofNat 0))) s36) (kset e20 4 v27) s28) fun k16 => ko e14 11 fun v17 => cdK v17 (nx (fun e18 s19 => .ok .r e18 s19) (kset (kset
  e14 2 (.np)) 3 (.i (.ofNat 1))) s15) (k16 e14 s15)) (kset e1 11 v13) s11) (kset (kset env 2 (.np)) 3 (.i (.ofNat 0))) s
theorem fe120 : rf120 = fastOf kf120 := by kernel_rfl
noncomputable def rf121 : RFun := .mk 2 [.t 4, .t 5] fun cl env s => ko env 0 fun v1 => bnr (boxV v1 s) fun v2 s3 => nx (fun e4 s5 => ko e4 2 fun v6 => onp v6 fun b7 o8 => bnr (ldnP 9 b7 o8 s5) fun v9 s10 => ko e4 1 fun v11
  => bnr (cl 199 [v9, (.i (.ofNat 4)), v11] s10) fun v12 s13 => extK v12 0 fun v14 => extK v12 1 fun v15 => nx (fun e16 s17 => .ok .r e16 s17) (kset (kset e4 4
  v14) 5 v15) s13) (kset (kset (kset env 2 v2) 4 (.i (.ofNat 0))) 5 (.i (.ofNat 0))) s3
theorem fe121 : rf121 = fastOf kf121 := by kernel_rfl
noncomputable def rf122 : RFun := .mk 3 [] fun cl env s => ko env 0 fun v1 => ko env 1 fun v2 => bnr (cl 200 [v1, v2] s) fun v3 s4 => nx (fun e5 s6 => jn (idk) fun k7 => ko e5 8 fun v8 => cdK v8 (ko e5 0 fun v9 => onp
  v9 fun b10 o11 => ldK b10 (Nat.add o11 0) s6 fun v12 => ko e5 1 fun v13 => ko e5 2 fun v14 => onSlx v12 fun b15 o16 q17 => oni v13 fun n19 => onON (nat n19)
  fun i18 => ifX (Nat.blt i18 q17) (bnr (stV b15 (Nat.add o16 (Nat.mul i18 1)) v14 s6) fun v20 s21 => nx (k7) e5 s21)) (k7 e5 s6)) (kset env 8 v3) s4
theorem fe122 : rf122 = fastOf kf122 := by kernel_rfl
noncomputable def rf123 : RFun := .mk 0 [.t 0] fun cl env s => nx (fun e1 s2 => nx (fun e3 s4 => .ok .r e3 s4) (kset e1 0 (.z 0 4607182418800017408)) s2) (kset env 0 (.z 0 0)) s
theorem fe123 : rf123 = fastOf kf123 := by kernel_rfl
noncomputable def rf124 : RFun := .mk 1 [.cn 2 9] fun cl env s => ko env 0 fun v1 => bnr (boxV v1 s) fun v2 s3 => bnr (eNew [.i (.ofNat 0), .i (.ofNat 0), .i (.ofNat 0), .i (.ofNat 0), .i (.ofNat 0), .i (.ofNat 0), .i
  (.ofNat 0), .i (.ofNat 0), .ns] .nil s3 cl) fun v4 s5 => nx (fun e6 s7 => nx (fun e8 s9 => ko e8 1 fun v10 => onp v10 fun b11 o12 => ldK b11 (Nat.add o12 8)
  s9 fun v13 => bnr (lenV v13 s9) fun v14 s15 => nx (fun e16 s17 => bkK (bindX (lpR (fun cl e18 s19 => ko e18 9 fun v20 => ko e18 8 fun v21 => oni v20 fun n22
  => oni v21 fun n23 => nx (fun e24 s25 => jn (fun e28 s29 => bkK (ko e28 7 fun v30 => ko e28 9 fun v31 => onSlx v30 fun b32 o33 q34 => oni v31 fun n36 => onON
  (nat n36) fun i35 => ifX (Nat.blt i35 q34) (bnr (ldnP 2 b32 (Nat.add o33 (Nat.mul i35 2)) s29) fun v37 s38 => bnr (eNew [.b false, .ns] .nil s38 cl) fun
  v39 s40 => onp v39 fun b41 o42 => onAx v37 fun l43 => bnr (stnA 2 b41 o42 l43 s40) fun v44 s45 => nx (fun e46 s47 => ko e46 3 fun v48 => ko e46 5 fun v49 =>
  onp v49 fun b50 o51 => bnr (ldnP 2 b50 o51 s47) fun v52 s53 => bnr (cl 201 [v52] s53) fun v54 s55 => bnr (oL (fill (.cons 0 2 (.c v54) .nil) (repL [.b
  false, .ns] 1) .nil) (bsl1 1 (lenL [.b false, .ns])) s55) fun v56 s57 => bnr (ap0 2 32 (.ok v56) v48 s57) fun v58 s59 => nx (idk) (kset e46 3 v58) s59) (kset
  e28 5 v39) s45)) 1 (fun e60 s61 => ko e60 9 fun v62 => oni v62 fun n63 => frcI (wrapI (arI .add n63 (.ofNat 1))) fun n64 => nx (idk) (kset e60 9 (.i n64))
  s61)) fun k26 => ko e24 10 fun v27 => cdK v27 (k26 e24 s25) (.ok (.x 0) e24 s25)) (kset e18 10 (.b (cmI .lt n22 n23))) s19) lpFuel cl e16 s17) (idk)) 0 (fun
  e65 s66 => ko e65 3 fun v67 => ko e65 1 fun v68 => onp v68 fun b69 o70 => bnr (stV b69 (Nat.add o70 8) v67 s66) fun v71 s72 => nx (fun e73 s74 => ko e73 1
  fun v75 => onp v75 fun b76 o77 => bnr (ldnP 9 b76 o77 s74) fun v78 s79 => ko e73 2 fun v80 => onp v80 fun b81 o82 => onAx v78 fun l83 => bnr (stnA 9 b81
  o82 l83 s79) fun v84 s85 => nx (fun e86 s87 => .ok .r e86 s87) e73 s85) e65 s72)) (kset (kset (kset e8 7 v13) 8 v14) 9 (.i (.ofNat 0))) s15) (kset e6 3 (.ns))
  s7) (kset (kset env 1 v2) 2 v4) s5
theorem fe124 : rf124 = fastOf kf124 := by kernel_rfl
noncomputable def rf125 : RFun := .mk 1 [.t 2] fun cl env s => nx (fun e1 s2 => ko e1 0 fun v3 => bnr (nilsV true v3 s2) fun v4 s5 => nx (fun e6 s7 => jn (fun e12 s13 => bnr (oL (fill .nil (repL [.i (.ofNat 0), .i
  (.ofNat 0), .i (.ofNat 0), .i (.ofNat 0), .i (.ofNat 0), .z 0 0] 0) .nil) (bsl1 0 (lenL [.i (.ofNat 0), .i (.ofNat 0), .i (.ofNat 0), .i (.ofNat 0), .i (.ofNat
  0), .z 0 0])) s13) fun v14 s15 => ko e12 0 fun v16 => bnr (ap0 6 56 (.ok v16) v14 s15) fun v17 s18 => nx (fun e19 s20 => .ok .r e19 s20) (kset e12 2 v17)
  s18) fun k8 => ko e6 4 fun v9 => cdK v9 (nx (fun e10 s11 => .ok .r e10 s11) (kset e6 2 (.ns)) s7) (k8 e6 s7)) (kset e1 4 v4) s5) (kset env 2 (.ns)) s
theorem fe125 : rf125 = fastOf kf125 := by kernel_rfl
noncomputable def rf126 : RFun := .mk 1 [.t 2] fun cl env s => nx (fun e1 s2 => ko e1 0 fun v3 => onp v3 fun b4 o5 => ldK b4 (Nat.add o5 1) s2 fun v6 => nx (fun e7 s8 => .ok .r e7 s8) (kset e1 2 v6) s2) (kset env 2 (.i
  (.ofNat 0))) s
theorem fe126 : rf126 = fastOf kf126 := by kernel_rfl
noncomputable def rf127 : RFun := .mk 1 [.t 2] fun cl env s => nx (fun e1 s2 => ko e1 0 fun v3 => onp v3 fun b4 o5 => ldK b4 (Nat.add o5 2) s2 fun v6 => nx (fun e7 s8 => .ok .r e7 s8) (kset e1 2 v6) s2) (kset env 2 (.i
  (.ofNat 0))) s
theorem fe127 : rf127 = fastOf kf127 := by kernel_rfl
noncomputable def rf128 : RFun := .mk 1 [.t 2] fun cl env s => nx (fun e1 s2 => ko e1 0 fun v3 => onp v3 fun b4 o5 => ldK b4 (Nat.add o5 3) s2 fun v6 => nx (fun e7 s8 => .ok .r e7 s8) (kset e1 2 v6) s2) (kset env 2 (.i
  (.ofNat 0))) s
theorem fe128 : rf128 = fastOf kf128 := by kernel_rfl
noncomputable def rf129 : RFun := .mk 1 [.t 2] fun cl env s => nx (fun e1 s2 => ko e1 0 fun v3 => onp v3 fun b4 o5 => ldK b4 (Nat.add o5 3) s2 fun v6 => nx (fun e7 s8 => .ok .r e7 s8) (kset e1 2 v6) s2) (kset env 2 (.i
  (.ofNat 0))) s
theorem fe129 : rf129 = fastOf kf129 := by kernel_rfl
noncomputable def rf130 : RFun := .mk 2 [.t 4] fun cl env s => nx (fun e1 s2 => ko e1 1 fun v3 => onp v3 fun b4 o5 => ldK b4 (Nat.add o5 12) s2 fun v6 => bnr (cl 94 [v6] s2) fun v7 s8 => extK v7 0 fun v9 => extK v7 1 fun
  v10 => nx (fun e11 s12 => ko e11 5 fun v13 => ko e11 0 fun v14 => onp v14 fun b15 o16 => ldK b15 (Nat.add o16 4) s12 fun v17 => oni v13 fun n18 => oni v17
  fun n19 => nx (fun e20 s21 => jn (fun e26 s27 => ko e26 0 fun v28 => ko e26 0 fun v29 => ko e26 0 fun v30 => ko e26 5 fun v31 => onp v28 fun b32 o33 => bnr
  (stV b32 (Nat.add o33 8) v31 s27) fun v34 s35 => onp v29 fun b36 o37 => bnr (stV b36 (Nat.add o37 9) (.ns) s35) fun v38 s39 => onp v30 fun b40 o41 => bnr
  (stV b40 (Nat.add o41 7) (.i (.ofNat 2)) s39) fun v42 s43 => nx (fun e44 s45 => ko e44 5 fun v46 => nx (fun e47 s48 => bkK (ko e47 35 fun v49 => oni v49 fun
  n50 => nx (fun e51 s52 => jn (idk) fun k53 => ko e51 36 fun v54 => cdK v54 (ko e51 0 fun v55 => ko e51 6 fun v56 => onp v55 fun b57 o58 => bnr (stV b57
  (Nat.add o58 5) v56 s52) fun v59 s60 => nx (k53) e51 s60) (ko e51 35 fun v61 => oni v61 fun n62 => nx (fun e63 s64 => jn (k53) fun k65 => ko e63 42 fun v66 =>
  cdK v66 (ko e63 0 fun v67 => onp v67 fun b68 o69 => ldK b68 (Nat.add o69 2) s64 fun v70 => bnr (lenV v70 s64) fun v71 s72 => nx (fun e73 s74 => bkK (bindX
  (lpR (fun cl e75 s76 => ko e75 49 fun v77 => ko e75 48 fun v78 => oni v77 fun n79 => oni v78 fun n80 => nx (fun e81 s82 => jn (fun e85 s86 => bkK (ko e85 47
  fun v87 => ko e85 49 fun v88 => onSlx v87 fun b89 o90 q91 => oni v88 fun n93 => onON (nat n93) fun i92 => ifX (Nat.blt i92 q91) (bnr (ldnP 2 b89 (Nat.add
  o90 (Nat.mul i92 2)) s86) fun v94 s95 => bnr (eNew [.b false, .z 0 0] .nil s95 cl) fun v96 s97 => onp v96 fun b98 o99 => onAx v94 fun l100 => bnr (stnA 2
  b98 o99 l100 s97) fun v101 s102 => nx (fun e103 s104 => ko e103 8 fun v105 => onp v105 fun b106 o107 => ldK b106 (Nat.add o107 1) s104 fun v108 => bnr (cl
  150 [v108] s104) fun v109 s110 => extK v109 0 fun v111 => extK v109 1 fun v112 => nx (fun e113 s114 => ko e113 8 fun v115 => onp v115 fun b116 o117 => ldK
  b116 (Nat.add o117 0) s114 fun v118 => gdK v118 true (fun k119 => ko e113 10 fun v122 => k119 v122 s114) s114 fun v120 s121 => pkK v118 (.ok v120) (.ok (.b
  false)) fun v123 => nx (fun e124 s125 => jn (idk) fun k126 => ko e124 63 fun v127 => cdK v127 (ko e124 0 fun v128 => ko e124 0 fun v129 => onp v129 fun b130
  o131 => ldK b130 (Nat.add o131 9) s125 fun v132 => ko e124 9 fun v133 => bnr (oL (fill (.cons 0 1 (.c v133) .nil) (repL [.i (.ofNat 0)] 1) .nil) (bsl1 1
  (lenL [.i (.ofNat 0)])) s125) fun v134 s135 => bnr (ap0 1 8 (.ok v134) v132 s135) fun v136 s137 => onp v128 fun b138 o139 => bnr (stV b138 (Nat.add o139
  9) v136 s137) fun v140 s141 => nx (fun e142 s143 => ko e142 0 fun v144 => onp v144 fun b145 o146 => bnr (stV b145 (Nat.add o146 7) (.i (.ofNat 1)) s143) fun
  v147 s148 => nx (k126) e142 s148) e124 s141) (k126 e124 s125)) (kset e113 63 v123) s121) (kset (kset e103 9 v111) 10 v112) s110) (kset e85 8 v96) s102)) 2 (fun
  e149 s150 => ko e149 49 fun v151 => oni v151 fun n152 => frcI (wrapI (arI .add n152 (.ofNat 1))) fun n153 => nx (idk) (kset e149 49 (.i n153)) s150)) fun k83
  => ko e81 50 fun v84 => cdK v84 (k83 e81 s82) (.ok (.x 1) e81 s82)) (kset e75 50 (.b (cmI .lt n79 n80))) s76) lpFuel cl e73 s74) (idk)) 1 (k65)) (kset (kset
  (kset e63 47 v70) 48 v71) 49 (.i (.ofNat 0))) s72) (k65 e63 s64)) (kset e51 42 (.b (cmI .eq n62 (.ofNat 3)))) s52)) (kset e47 36 (.b (cmI .eq n50 (.ofNat 1))))
  s48) 0 (fun e154 s155 => nx (fun e156 s157 => .ok .r e156 s157) (kset e154 4 (.b false)) s155)) (kset e44 35 v46) s45) e26 s43) fun k22 => ko e20 24 fun v23 =>
  cdK v23 (nx (fun e24 s25 => .ok .r e24 s25) (kset e20 4 (.b true)) s21) (k22 e20 s21)) (kset e11 24 (.b (cmI .eq n18 n19))) s12) (kset (kset e1 5 v9) 6 v10)
  s8) (kset env 4 (.b false)) s
theorem fe130 : rf130 = fastOf kf130 := by kernel_rfl
noncomputable def rf132 : RFun := .mk 2 [.t 4] fun cl env s => nx (fun e1 s2 => ko e1 0 fun v3 => onp v3 fun b4 o5 => ldK b4 (Nat.add o5 3) s2 fun v6 => oni v6 fun n7 => frcI (wrapI (arI .add n7 (.ofNat 1))) fun n8 => onp
  v3 fun b9 o10 => bnr (stV b9 (Nat.add o10 3) (.i n8) s2) fun v11 s12 => nx (fun e13 s14 => ko e13 0 fun v15 => ko e13 1 fun v16 => bnr (cl 203 [v15, v16]
  s14) fun v17 s18 => nx (fun e19 s20 => ko e19 5 fun v21 => bnr (nilpV true v21 s20) fun v22 s23 => nx (fun e24 s25 => jn (fun e30 s31 => ko e30 5 fun v32 =>
  bnr (cl 204 [v32] s31) fun v33 s34 => nx (fun e35 s36 => ko e35 6 fun v37 => bnr (lenV v37 s36) fun v38 s39 => nx (fun e40 s41 => bkK (bindX (lpR (fun cl
  e42 s43 => ko e42 25 fun v44 => ko e42 24 fun v45 => oni v44 fun n46 => oni v45 fun n47 => nx (fun e48 s49 => jn (fun e52 s53 => bkK (ko e52 23 fun v54 => ko
  e52 25 fun v55 => onSlx v54 fun b56 o57 q58 => oni v55 fun n60 => onON (nat n60) fun i59 => ifX (Nat.blt i59 q58) (ldK b56 (Nat.add o57 (Nat.mul i59 1)) s53
  fun v61 => nx (fun e62 s63 => ko e62 0 fun v64 => ko e62 8 fun v65 => bnr (cl 205 [v64, v65] s63) fun v66 s67 => nx (idk) e62 s67) (kset e52 8 v61) s53)) 1
  (fun e68 s69 => ko e68 25 fun v70 => oni v70 fun n71 => frcI (wrapI (arI .add n71 (.ofNat 1))) fun n72 => nx (idk) (kset e68 25 (.i n72)) s69)) fun k50 => ko
  e48 26 fun v51 => cdK v51 (k50 e48 s49) (.ok (.x 0) e48 s49)) (kset e42 26 (.b (cmI .lt n46 n47))) s43) lpFuel cl e40 s41) (idk)) 0 (fun e73 s74 => ko e73 6
  fun v75 => bnr (lenV v75 s74) fun v76 s77 => nx (fun e78 s79 => .ok .r e78 s79) (kset e73 4 v76) s77)) (kset (kset (kset e35 23 v37) 24 v38) 25 (.i (.ofNat
  0))) s39) (kset e30 6 v33) s34) fun k26 => ko e24 20 fun v27 => cdK v27 (nx (fun e28 s29 => .ok .r e28 s29) (kset e24 4 (.i (.ofNat 0))) s25) (k26 e24 s25))
  (kset e19 20 v22) s23) (kset e13 5 v17) s18) e1 s12) (kset env 4 (.i (.ofNat 0))) s
theorem fe132 : rf132 = fastOf kf132 := by kernel_rfl
noncomputable def rf133 : RFun := .mk 2 [] fun cl env s => ko env 1 fun v1 => onp v1 fun b2 o3 => ldK b2 (Nat.add o3 12) s fun v4 => ko env 0 fun v5 => onp v5 fun b6 o7 => ldK b6 (Nat.add o7 0) s fun v8 => bnr (cl
  206 [v4, v8] s) fun v9 s10 => nx (fun e11 s12 => ko e11 0 fun v13 => onp v13 fun b14 o15 => bnr (stV b14 (Nat.add o15 3) (.i (.ofNat 4)) s12) fun v16 s17 =>
  nx (fun e18 s19 => ko e18 0 fun v20 => onp v20 fun b21 o22 => ldK b21 (Nat.add o22 2) s19 fun v23 => bnr (eKp (.q (.clr [.b false, .z 0 0] (.c v23))) .nil
  s19 cl) fun v24 s25 => nx (idk) e18 s25) e11 s17) env s10
theorem fe133 : rf133 = fastOf kf133 := by kernel_rfl
noncomputable def rf134 : RFun := .mk 3 [.cn 6 5, .t 7] fun cl env s => ko env 2 fun v1 => bnr (boxV v1 s) fun v2 s3 => bnr (eNew [.i (.ofNat 0), .i (.ofNat 0), .i (.ofNat 0), .b false, .z 0 0] .nil s3 cl) fun v4 s5 => nx (fun e6
  s7 => ko e6 1 fun v8 => onp v8 fun b9 o10 => bnr (ldnP 9 b9 (Nat.add o10 0) s7) fun v11 s12 => ko e6 5 fun v13 => onp v13 fun b14 o15 => bnr (ldnP 6 b14
  o15 s7) fun v16 s17 => bnr (cl 207 [v11, v16] s7) fun v18 s19 => nx (fun e20 s21 => ko e20 8 fun v22 => oni v22 fun n23 => nx (fun e24 s25 => jn (fun e36
  s37 => ko e36 8 fun v38 => oni v38 fun n39 => nx (fun e40 s41 => jn (fun e58 s59 => ko e58 0 fun v60 => ko e58 5 fun v61 => onp v61 fun b62 o63 => bnr
  (ldnP 6 b62 o63 s59) fun v64 s65 => bnr (cl 209 [v60, v64] s65) fun v66 s67 => extK v66 0 fun v68 => extK v66 1 fun v69 => bnr (eNew [.b false, .z 0 0]
  .nil s67 cl) fun v70 s71 => onp v70 fun b72 o73 => onAx v68 fun l74 => bnr (stnA 2 b72 o73 l74 s71) fun v75 s76 => nx (fun e77 s78 => ko e77 10 fun v79 =>
  nx (fun e80 s81 => jn (fun e106 s107 => ko e106 5 fun v108 => onp v108 fun b109 o110 => ldK b109 (Nat.add o110 0) s107 fun v111 => nx (fun e112 s113 => bkK
  (ko e112 44 fun v114 => oni v114 fun n115 => nx (fun e116 s117 => jn (fun e122 s123 => jn (idk) fun k124 => ko e122 45 fun v125 => cdK v125 (ko e122 0 fun
  v126 => ko e122 1 fun v127 => ko e122 5 fun v128 => onp v128 fun b129 o130 => bnr (ldnP 6 b129 o130 s123) fun v131 s132 => bnr (cl 211 [v126, v127, v131]
  s132) fun v133 s134 => extK v133 0 fun v135 => extK v133 1 fun v136 => ko e122 6 fun v137 => onp v137 fun b138 o139 => onAx v135 fun l140 => bnr (stnA 5
  b138 o139 l140 s134) fun v141 s142 => nx (fun e143 s144 => .ok .r e143 s144) (kset e122 7 v136) s142) (ko e122 44 fun v145 => oni v145 fun n146 => nx (fun
  e147 s148 => jn (fun e165 s166 => jn (k124) fun k167 => ko e165 54 fun v168 => cdK v168 (ko e165 0 fun v169 => ko e165 1 fun v170 => ko e165 5 fun v171 => onp
  v171 fun b172 o173 => bnr (ldnP 6 b172 o173 s166) fun v174 s175 => ko e165 0 fun v176 => bnr (cl 212 [v170, v174, (.fn 213 [v176] [])] s175) fun v177 s178
  => onp v169 fun b179 o180 => bnr (stV b179 (Nat.add (Nat.add o180 10) 2) v177 s178) fun v181 s182 => nx (fun e183 s184 => ko e183 0 fun v185 => ko e183 1
  fun v186 => ko e183 5 fun v187 => onp v187 fun b188 o189 => bnr (ldnP 6 b188 o189 s184) fun v190 s191 => bnr (cl 135 [v185, v186, v190] s191) fun v192
  s193 => extK v192 0 fun v194 => extK v192 1 fun v195 => ko e183 6 fun v196 => onp v196 fun b197 o198 => onAx v194 fun l199 => bnr (stnA 5 b197 o198 l199
  s193) fun v200 s201 => nx (fun e202 s203 => .ok .r e202 s203) (kset e183 7 v195) s201) e165 s182) (ko e165 44 fun v204 => oni v204 fun n205 => nx (fun e206
  s207 => jn (fun e212 s213 => jn (k167) fun k214 => ko e212 74 fun v215 => cdK v215 (ko e212 0 fun v216 => ko e212 1 fun v217 => onp v217 fun b218 o219 =>
  bnr (ldnP 9 b218 (Nat.add o219 0) s213) fun v220 s221 => ko e212 5 fun v222 => onp v222 fun b223 o224 => ldK b223 (Nat.add o224 4) s213 fun v225 => bnr
  (cl 121 [v220, v225] s213) fun v226 s227 => ko e212 0 fun v228 => ifX (eqV v216 v228) (extK v226 0 fun v229 => extK v226 1 fun v230 => onp v228 fun b231 o232
  => bnr (stV b231 (Nat.add (Nat.add o232 10) 3) v229 s227) fun v233 s234 => extK v226 1 fun v235 => ifX (eqV v230 v235) (nx (fun e236 s237 => ko e236 0 fun
  v238 => onp v238 fun b239 o240 => bnr (stV b239 (Nat.add (Nat.add o240 10) 4) (.b true) s237) fun v241 s242 => nx (fun e243 s244 => ko e243 5 fun v245 =>
  onp v245 fun b246 o247 => ldK b246 (Nat.add o247 0) s244 fun v248 => oni v248 fun n249 => nx (fun e250 s251 => jn (fun e273 s274 => ko e273 0 fun v275 => ko
  e273 5 fun v276 => onp v276 fun b277 o278 => bnr (ldnP 6 b277 o278 s274) fun v279 s280 => bnr (cl 214 [v275, v279] s280) fun v281 s282 => nx (fun e283
  s284 => ko e283 0 fun v285 => ko e283 1 fun v286 => bnr (cl 141 [v285, v286] s284) fun v287 s288 => extK v287 0 fun v289 => extK v287 1 fun v290 => ko e283 6
  fun v291 => onp v291 fun b292 o293 => onAx v289 fun l294 => bnr (stnA 5 b292 o293 l294 s288) fun v295 s296 => nx (fun e297 s298 => .ok .r e297 s298) (kset
  e283 7 v290) s296) e273 s282) fun k252 => ko e250 97 fun v253 => cdK v253 (ko e250 0 fun v254 => ko e250 1 fun v255 => ko e250 5 fun v256 => onp v256 fun b257
  o258 => bnr (ldnP 6 b257 o258 s251) fun v259 s260 => bnr (cl 136 [v254, v255, v259] s260) fun v261 s262 => extK v261 0 fun v263 => extK v261 1 fun v264 =>
  ko e250 6 fun v265 => onp v265 fun b266 o267 => onAx v263 fun l268 => bnr (stnA 5 b266 o267 l268 s262) fun v269 s270 => nx (fun e271 s272 => .ok .r e271
  s272) (kset e250 7 v264) s270) (k252 e250 s251)) (kset e243 97 (.b (cmI .eq n249 (.ofNat 7)))) s244) e236 s242) e212 s234))) (ko e212 44 fun v299 => oni v299
  fun n300 => nx (fun e301 s302 => jn (fun e307 s308 => jn (k214) fun k309 => ko e307 112 fun v310 => cdK v310 (ko e307 0 fun v311 => ko e307 1 fun v312 => ko
  e307 5 fun v313 => onp v313 fun b314 o315 => bnr (ldnP 6 b314 o315 s308) fun v316 s317 => bnr (cl 215 [v311, v312, v316] s317) fun v318 s319 => extK v318
  0 fun v320 => extK v318 1 fun v321 => ko e307 6 fun v322 => onp v322 fun b323 o324 => onAx v320 fun l325 => bnr (stnA 5 b323 o324 l325 s319) fun v326 s327
  => nx (fun e328 s329 => .ok .r e328 s329) (kset e307 7 v321) s327) (ko e307 44 fun v330 => oni v330 fun n331 => nx (fun e332 s333 => jn (k309) fun k334 => ko
  e332 121 fun v335 => cdK v335 (ko e332 1 fun v336 => onp v336 fun b337 o338 => ldK b337 (Nat.add o338 11) s333 fun v339 => bnr (cl 34 [v339] s333) fun v340
  s341 => nx (fun e342 s343 => ko e342 0 fun v344 => bnr (oL (fill .nil [.b false, .z 0 0] .nil) okA s343) fun v345 s346 => bnr (cl 140 [v344, v345, (.i
  (.ofNat 0))] s346) fun v347 s348 => extK v347 0 fun v349 => extK v347 1 fun v350 => ko e342 6 fun v351 => onp v351 fun b352 o353 => onAx v349 fun l354 =>
  bnr (stnA 5 b352 o353 l354 s348) fun v355 s356 => nx (fun e357 s358 => .ok .r e357 s358) (kset e342 7 v350) s356) e332 s341) (k334 e332 s333)) (kset e307 121
  (.b (cmI .eq n331 (.ofNat 17)))) s308)) fun k303 => ko e301 112 fun v304 => cdK v304 (k303 e301 s302) (ko e301 44 fun v305 => oni v305 fun n306 => nx (k303)
  (kset e301 112 (.b (cmI .eq n306 (.ofNat 11)))) s302)) (kset e212 112 (.b (cmI .eq n300 (.ofNat 10)))) s213)) fun k208 => ko e206 74 fun v209 => cdK v209 (k208
  e206 s207) (ko e206 44 fun v210 => oni v210 fun n211 => nx (k208) (kset e206 74 (.b (cmI .eq n211 (.ofNat 8)))) s207)) (kset e165 74 (.b (cmI .eq n205 (.ofNat
  7)))) s166)) fun k149 => ko e147 54 fun v150 => cdK v150 (k149 e147 s148) (ko e147 44 fun v151 => oni v151 fun n152 => nx (fun e153 s154 => jn (k149) fun k155
  => ko e153 54 fun v156 => cdK v156 (k155 e153 s154) (ko e153 44 fun v157 => oni v157 fun n158 => nx (fun e159 s160 => jn (k155) fun k161 => ko e159 54 fun
  v162 => cdK v162 (k161 e159 s160) (ko e159 44 fun v163 => oni v163 fun n164 => nx (k161) (kset e159 54 (.b (cmI .eq n164 (.ofNat 6)))) s160)) (kset e153 54
  (.b (cmI .eq n158 (.ofNat 5)))) s154)) (kset e147 54 (.b (cmI .eq n152 (.ofNat 4)))) s148)) (kset e122 54 (.b (cmI .eq n146 (.ofNat 3)))) s123)) fun k118 => ko
  e116 45 fun v119 => cdK v119 (k118 e116 s117) (ko e116 44 fun v120 => oni v120 fun n121 => nx (k118) (kset e116 45 (.b (cmI .eq n121 (.ofNat 2)))) s117))
  (kset e112 45 (.b (cmI .eq n115 (.ofNat 1)))) s113) 0 (fun e359 s360 => ko e359 1 fun v361 => onp v361 fun b362 o363 => ldK b362 (Nat.add o363 11) s360 fun
  v364 => ko e359 0 fun v365 => onp v365 fun b366 o367 => ldK b366 (Nat.add o367 0) s360 fun v368 => bnr (cl 132 [v364, v368] s360) fun v369 s370 => nx (fun
  e371 s372 => ko e371 0 fun v373 => onp v373 fun b374 o375 => bnr (stV b374 (Nat.add (Nat.add o375 10) 1) (.i (.ofNat 10)) s372) fun v376 s377 => nx (fun
  e378 s379 => bnr (oL (fill .nil [.i (.ofNat 0), .i (.ofNat 0), .i (.ofNat 0), .b false, .z 0 0] .nil) okA s379) fun v380 s381 => ko e378 6 fun v382 => onp
  v382 fun b383 o384 => onAx v380 fun l385 => bnr (stnA 5 b383 o384 l385 s381) fun v386 s387 => nx (fun e388 s389 => .ok .r e388 s389) (kset e378 7 (.b false))
  s387) e371 s377) e359 s370)) (kset e106 44 v111) s107) fun k82 => ko e80 35 fun v83 => cdK v83 (ko e80 0 fun v84 => ko e80 5 fun v85 => onp v85 fun b86 o87 =>
  ldK b86 (Nat.add o87 1) s81 fun v88 => ko e80 9 fun v89 => onp v89 fun b90 o91 => bnr (ldnP 2 b90 o91 s81) fun v92 s93 => bnr (cl 210 [v84, v88, v92] s93)
  fun v94 s95 => extK v94 0 fun v96 => extK v94 1 fun v97 => ko e80 6 fun v98 => onp v98 fun b99 o100 => onAx v96 fun l101 => bnr (stnA 5 b99 o100 l101 s95)
  fun v102 s103 => nx (fun e104 s105 => .ok .r e104 s105) (kset e80 7 v97) s103) (k82 e80 s81)) (kset e77 35 v79) s78) (kset (kset e58 9 v70) 10 v69) s76) fun
  k42 => ko e40 23 fun v43 => cdK v43 (ko e40 0 fun v44 => ko e40 8 fun v45 => bnr (cl 144 [v44, v45] s41) fun v46 s47 => extK v46 0 fun v48 => extK v46 1 fun
  v49 => ko e40 6 fun v50 => onp v50 fun b51 o52 => onAx v48 fun l53 => bnr (stnA 5 b51 o52 l53 s47) fun v54 s55 => nx (fun e56 s57 => .ok .r e56 s57) (kset
  e40 7 v49) s55) (k42 e40 s41)) (kset e36 23 (.b (cmI .ne n39 (.ofNat 0)))) s37) fun k26 => ko e24 18 fun v27 => cdK v27 (ko e24 0 fun v28 => ko e24 5 fun v29
  => onp v29 fun b30 o31 => bnr (ldnP 6 b30 o31 s25) fun v32 s33 => bnr (cl 208 [v28, v32] s33) fun v34 s35 => nx (k26) (kset e24 8 v34) s35) (k26 e24 s25))
  (kset e20 18 (.b (cmI .eq n23 (.ofNat 0)))) s21) (kset e6 8 v18) s19) (kset (kset (kset env 5 v2) 6 v4) 7 (.b false)) s5
theorem fe134 : rf134 = fastOf kf134 := by kernel_rfl
noncomputable def rf137 : RFun := .mk 2 [.cn 4 5, .t 5] fun cl env s => bnr (eNew [.i (.ofNat 0), .i (.ofNat 0), .i (.ofNat 0), .b false, .z 0 0] .nil s cl) fun v1 s2 => nx (fun e3 s4 => ko e3 1 fun v5 => onp v5 fun b6 o7 => ldK
  b6 (Nat.add o7 9) s4 fun v8 => ko e3 0 fun v9 => onp v9 fun b10 o11 => ldK b10 (Nat.add (Nat.add o11 10) 8) s4 fun v12 => onSlx v12 fun b13 o14 q15 => onON
  (nat (.ofNat 0)) fun i16 => ifX (Nat.blt i16 q15) (ldK b13 (Nat.add (Nat.add o14 (Nat.mul i16 2)) 0) s4 fun v17 => ko e3 0 fun v18 => onp v18 fun b19 o20 =>
  ldK b19 (Nat.add (Nat.add o20 10) 8) s4 fun v21 => onSlx v21 fun b22 o23 q24 => onON (nat (.ofNat 0)) fun i25 => ifX (Nat.blt i25 q24) (ldK b22 (Nat.add
  (Nat.add o23 (Nat.mul i25 2)) 1) s4 fun v26 => bnr (cl 221 [v8, v17, v26] s4) fun v27 s28 => oni v27 fun n29 => nx (fun e30 s31 => jn (fun e47 s48 => ko e47
  0 fun v49 => ko e47 0 fun v50 => onp v50 fun b51 o52 => ldK b51 (Nat.add (Nat.add o52 10) 8) s48 fun v53 => bnr (eKp (.q (.sli (.c v53) 2 (.ok (.c (.i
  (.ofNat 1)))) .no)) .nil s48 cl) fun v54 s55 => onp v49 fun b56 o57 => bnr (stV b56 (Nat.add (Nat.add o57 10) 8) v54 s55) fun v58 s59 => nx (fun e60 s61 =>
  ko e60 0 fun v62 => onp v62 fun b63 o64 => ldK b63 (Nat.add (Nat.add o64 10) 8) s61 fun v65 => bnr (lenV v65 s61) fun v66 s67 => oni v66 fun n68 => nx (fun
  e69 s70 => jn (fun e78 s79 => bnr (oL (fill .nil [.i (.ofNat 0), .i (.ofNat 0), .i (.ofNat 0), .b false, .z 0 0] .nil) okA s79) fun v80 s81 => ko e78 4 fun
  v82 => onp v82 fun b83 o84 => onAx v80 fun l85 => bnr (stnA 5 b83 o84 l85 s81) fun v86 s87 => nx (fun e88 s89 => .ok .r e88 s89) (kset e78 5 (.b false))
  s87) fun k71 => ko e69 48 fun v72 => cdK v72 (ko e69 0 fun v73 => onp v73 fun b74 o75 => bnr (stV b74 (Nat.add (Nat.add o75 10) 1) (.i (.ofNat 8)) s70) fun
  v76 s77 => nx (k71) e69 s77) (k71 e69 s70)) (kset e60 48 (.b (cmI .eq n68 (.ofNat 0)))) s67) e47 s59) fun k32 => ko e30 27 fun v33 => cdK v33 (ko e30 0 fun v34
  => bnr (cl 144 [v34, (.i (.ofNat 10))] s31) fun v35 s36 => extK v35 0 fun v37 => extK v35 1 fun v38 => ko e30 4 fun v39 => onp v39 fun b40 o41 => onAx v37
  fun l42 => bnr (stnA 5 b40 o41 l42 s36) fun v43 s44 => nx (fun e45 s46 => .ok .r e45 s46) (kset e30 5 v38) s44) (k32 e30 s31)) (kset e3 27 (.b (cmI .ne n29
  (.ofNat 0)))) s28))) (kset (kset env 4 v1) 5 (.b false)) s2
theorem fe137 : rf137 = fastOf kf137 := by kernel_rfl
noncomputable def rf138 : RFun := .mk 3 [.cn 6 5, .t 7] fun cl env s => ko env 2 fun v1 => bnr (boxV v1 s) fun v2 s3 => bnr (eNew [.i (.ofNat 0), .i (.ofNat 0), .i (.ofNat 0), .b false, .z 0 0] .nil s3 cl) fun v4 s5 => nx (fun e6
  s7 => ko e6 1 fun v8 => onp v8 fun b9 o10 => ldK b9 (Nat.add o10 11) s7 fun v11 => ko e6 0 fun v12 => onp v12 fun b13 o14 => ldK b13 (Nat.add (Nat.add o14
  10) 7) s7 fun v15 => onSlx v15 fun b16 o17 q18 => onON (nat (.ofNat 0)) fun i19 => ifX (Nat.blt i19 q18) (ldK b16 (Nat.add o17 (Nat.mul i19 1)) s7 fun v20 =>
  bnr (cl 222 [v11, v20] s7) fun v21 s22 => onBx v21 fun c23 => nx (fun e24 s25 => jn (fun e41 s42 => ko e41 0 fun v43 => ko e41 5 fun v44 => onp v44 fun b45
  o46 => ldK b45 (Nat.add o46 1) s42 fun v47 => ko e41 0 fun v48 => onp v48 fun b49 o50 => ldK b49 (Nat.add (Nat.add o50 10) 7) s42 fun v51 => onSlx v51 fun b52
  o53 q54 => onON (nat (.ofNat 0)) fun i55 => ifX (Nat.blt i55 q54) (ldK b52 (Nat.add o53 (Nat.mul i55 1)) s42 fun v56 => bnr (cl 223 [v56] s42) fun v57 s58 =>
  bnr (oL (fill (.cons 0 1 (.c (.b true)) (.cons 1 1 (.c v57) .nil)) [.b false, .z 0 0] .nil) okA s42) fun v59 s60 => bnr (cl 210 [v43, v47, v59] s42) fun
  v61 s62 => extK v61 0 fun v63 => extK v61 1 fun v64 => ko e41 6 fun v65 => onp v65 fun b66 o67 => onAx v63 fun l68 => bnr (stnA 5 b66 o67 l68 s62) fun v69
  s70 => nx (fun e71 s72 => .ok .r e71 s72) (kset e41 7 v64) s70)) fun k26 => ko e24 20 fun v27 => cdK v27 (ko e24 0 fun v28 => bnr (cl 144 [v28, (.i (.ofNat
  10))] s25) fun v29 s30 => extK v29 0 fun v31 => extK v29 1 fun v32 => ko e24 6 fun v33 => onp v33 fun b34 o35 => onAx v31 fun l36 => bnr (stnA 5 b34 o35 l36
  s30) fun v37 s38 => nx (fun e39 s40 => .ok .r e39 s40) (kset e24 7 v32) s38) (k26 e24 s25)) (kset e6 20 (.b (neg c23))) s22)) (kset (kset (kset env 5 v2) 6 v4)
  7 (.b false)) s5
theorem fe138 : rf138 = fastOf kf138 := by kernel_rfl
end Go.Kx
