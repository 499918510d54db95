/-
  Functions in the fast form; that they are the others. Printed by a program of ours.
-/
import Derived.Test.YtkggojngcnkabaaGreatKxH
import Derived.Test.YtkggojngcnkabaaGreatB10
set_option linter.unusedVariables false
set_option linter.unusedSimpArgs false
set_option maxRecDepth 1000000
noncomputable section
namespace Go.Kx
def rf10 : RFun := .mk 1 [.t 2] λ cl env s=>nx (λ e1 s2=>bnr (cl 43 [] s2) λ v3 s4=>onBx v3 λ c5=>nx (λ e6 s7=>jn (λ e12 s13=>ko e12 0 λ v14=>oni v14 λ n15=>gdK (.b (cmI .lt
  n15 (.ofNat 2))) false (λ k16=>ko e12 0 λ v19=>k16 v19 s13) s13 λ v17 s18=>gdK (.b (cmI .lt n15 (.ofNat 2))) false (λ k20=>oni v17 λ n23=>
  k20 (.b (cmI .gt n23 (.ofNat 8))) s18) s18 λ v21 s22=>pkK (.b (cmI .lt n15 (.ofNat 2))) (.ok (.b true)) (.ok v21) λ v24=>nx (λ e25 s26=>jn (λ e33
  s34=>nx (λ e35 s36=>nx (λ e37 s38=>bkK (bindX (lpR (λ cl e39 s40=>ko e39 4 λ v41=>ko e39 0 λ v42=>oni v41 λ n43=>oni v42 λ n44=>
  nx (λ e45 s46=>jn (λ e49 s50=>bkK (ko e49 3 λ v51=>bnr (oL (fill (.cons 0 1 (.c (.i (.ofNat 1))) (.cons 1 1 (.c (.i (.ofNat 0))) .nil)) [.i
  (.ofNat 0),.i (.ofNat 0),.i (.ofNat 0),.i (.ofNat 0),.i (.ofNat 0),.z 0 0] .nil) okA s50) λ v52 s53=>bnr (oL (fill (.cons 0 1 (.c (.i (.ofNat 7)))
  (.cons 1 1 (.c (.i (.ofNat 1))) .nil)) [.i (.ofNat 0),.i (.ofNat 0),.i (.ofNat 0),.i (.ofNat 0),.i (.ofNat 0),.z 0 0] .nil) okA s53) λ v54 s55=>bnr
  (oL (fill (.cons 0 1 (.c (.i (.ofNat 4))) (.cons 1 1 (.c (.i (.ofNat 0))) (.cons 2 1 (.c (.i (.ofNat 1))) .nil))) [.i (.ofNat 0),.i (.ofNat 0),.i (.ofNat 0),
  .i (.ofNat 0),.i (.ofNat 0),.z 0 0] .nil) okA s55) λ v56 s57=>bnr (oL (fill (.cons 0 1 (.c (.i (.ofNat 8))) (.cons 2 1 (.c (.i (.ofNat 0))) .nil)) [.i
  (.ofNat 0),.i (.ofNat 0),.i (.ofNat 0),.i (.ofNat 0),.i (.ofNat 0),.z 0 0] .nil) okA s57) λ v58 s59=>bnr (oL (fill (.cons 0 6 (.c v52) (.cons 6 6
  (.c v54) (.cons 12 6 (.c v56) (.cons 18 6 (.c v58) .nil)))) (repL [.i (.ofNat 0),.i (.ofNat 0),.i (.ofNat 0),.i (.ofNat 0),.i (.ofNat 0),.z 0 0] 4) .nil)
  (bsl1 4 (lenL [.i (.ofNat 0),.i (.ofNat 0),.i (.ofNat 0),.i (.ofNat 0),.i (.ofNat 0),.z 0 0])) s59) λ v60 s61=>bnr (ap0 6 56 (.ok v60) v51 s61) λ
  v62 s63=>nx (idk) (kst e49 3 v62) s63) 1 (λ e64 s65=>ko e64 4 λ v66=>oni v66 λ n67=>frcI (wrapI (arI .add n67 (.ofNat 1))) λ n68=>nx (idk)
  (kst e64 4 (.i n68)) s65)) λ k47=>ko e45 30 λ v48=>cdK v48 (k47 e45 s46) (.ok (.x 0) e45 s46)) (kst e39 30 (.b (cmI .lt n43 n44))) s40) lpFuel cl e37
  s38) (idk)) 0 (λ e69 s70=>ko e69 3 λ v71=>ko e69 0 λ v72=>oni v72 λ n73=>frcI (wrapI (arI .sub (.ofNat 9) n73)) λ n74=>frcI (wrapI (arI
  .mul (.ofNat 8) n74)) λ n75=>bnr (oL (fill (.cons 0 1 (.c (.i (.ofNat 2))) (.cons 1 1 (.c (.i (.ofNat 2))) (.cons 2 1 (.c (.i (.ofNat 2))) (.cons 4 1 (.c
  (.i n75)) .nil)))) [.i (.ofNat 0),.i (.ofNat 0),.i (.ofNat 0),.i (.ofNat 0),.i (.ofNat 0),.z 0 0] .nil) okA s70) λ v76 s77=>bnr (oL (fill (.cons 0 1
  (.c (.i (.ofNat 13))) (.cons 1 1 (.c (.i (.ofNat 0))) .nil)) [.i (.ofNat 0),.i (.ofNat 0),.i (.ofNat 0),.i (.ofNat 0),.i (.ofNat 0),.z 0 0] .nil) okA s77)
  λ v78 s79=>bnr (oL (fill (.cons 0 1 (.c (.i (.ofNat 13))) (.cons 1 1 (.c (.i (.ofNat 1))) .nil)) [.i (.ofNat 0),.i (.ofNat 0),.i (.ofNat 0),.i (.ofNat
  0),.i (.ofNat 0),.z 0 0] .nil) okA s79) λ v80 s81=>bnr (oL (fill (.cons 0 1 (.c (.i (.ofNat 8))) (.cons 2 1 (.c (.i (.ofNat 1))) .nil)) [.i (.ofNat 0),
  .i (.ofNat 0),.i (.ofNat 0),.i (.ofNat 0),.i (.ofNat 0),.z 0 0] .nil) okA s81) λ v82 s83=>ko e69 0 λ v84=>oni v84 λ n85=>frcI (wrapI (arI .sub
  (.ofNat 9) n85)) λ n86=>frcI (wrapI (arI .mul (.ofNat 8) n86)) λ n87=>bnr (oL (fill (.cons 0 1 (.c (.i (.ofNat 2))) (.cons 1 1 (.c (.i (.ofNat 2)))
  (.cons 2 1 (.c (.i (.ofNat 2))) (.cons 4 1 (.c (.i n87)) .nil)))) [.i (.ofNat 0),.i (.ofNat 0),.i (.ofNat 0),.i (.ofNat 0),.i (.ofNat 0),.z 0 0] .nil) okA
  s83) λ v88 s89=>bnr (oL (fill (.cons 0 6 (.c v76) (.cons 6 6 (.c v78) (.cons 12 6 (.c v80) (.cons 18 6 (.c v82) (.cons 24 6 (.c v88) .nil))))) (repL [.i
  (.ofNat 0),.i (.ofNat 0),.i (.ofNat 0),.i (.ofNat 0),.i (.ofNat 0),.z 0 0] 5) .nil) (bsl1 5 (lenL [.i (.ofNat 0),.i (.ofNat 0),.i (.ofNat 0),.i (.ofNat
  0),.i (.ofNat 0),.z 0 0])) s89) λ v90 s91=>bnr (ap0 6 56 (.ok v90) v71 s91) λ v92 s93=>nx (λ e94 s95=>bnr (cl 45 [(.i (.ofNat 9)),(.i
  (.ofNat 0))] s95) λ v96 s97=>ko e94 3 λ v98=>bnr (oL (fill (.cons 0 1 (.c v98) .nil) (repL [.ns] 1) .nil) (bsl1 1 (lenL [.ns])) s97) λ v99 s100=>
  bnr (cl 44 [v96,v99] s100) λ v101 s102=>extK v101 0 λ v103=>extK v101 1 λ v104=>nx (λ e105 s106=>ko e105 5 λ v107=>bnr (nilpV true
  v107 s106) λ v108 s109=>gdK v108 false (λ k110=>ko e105 6 λ v113=>k110 v113 s109) s109 λ v111 s112=>gdK v108 false (λ k114=>oni v111 λ
  n117=>k114 (.b (cmI .ne n117 (.ofNat 0))) s112) s112 λ v115 s116=>pkK v108 (.ok (.b true)) (.ok v115) λ v118=>nx (λ e119 s120=>jn (λ e125 s126
 =>ko e125 0 λ v127=>oni v127 λ n128=>frcI (wrapI (arI .mul (.ofNat 4) n128)) λ n129=>nx (λ e130 s131=>nx (λ e132 s133=>bkK (bindX (lpR
  (λ cl e134 s135=>ko e134 8 λ v136=>oni v136 λ n137=>nx (λ e138 s139=>jn (λ e142 s143=>bkK (ko e142 5 λ v144=>ko e142 8 λ v145=>
  bnr (eKp (.q (.bits .and (.c v145) (.c (.i (.ofNat 1))))) .nil s143 cl) λ v146 s147=>bnr (cl 46 [v144,v146] s147) λ v148 s149=>bnr (eNew [.i
  (.ofNat 0),.b false,.i (.ofNat 0),.i (.ofNat 0),.i (.ofNat 0),.b false,.z 0 0] .nil s149 cl) λ v150 s151=>onp v150 λ b152 o153=>onAx v148 λ
  l154=>bnr (stnA 7 b152 o153 l154 s151) λ v155 s156=>nx (λ e157 s158=>ko e157 9 λ v159=>onp v159 λ b160 o161=>ldK b160 (Nat.add o161 1)
  s158 λ v162=>onBx v162 λ c163=>nx (λ e164 s165=>jn (λ e168 s169=>ko e168 9 λ v170=>onp v170 λ b171 o172=>bnr (ldnP 5 b171 (Nat.add
  o172 2) s169) λ v173 s174=>bnr (eNew [.i (.ofNat 0),.i (.ofNat 0),.i (.ofNat 0),.b false,.z 0 0] .nil s174 cl) λ v175 s176=>onp v175 λ b177
  o178=>onAx v173 λ l179=>bnr (stnA 5 b177 o178 l179 s176) λ v180 s181=>nx (λ e182 s183=>ko e182 10 λ v184=>onp v184 λ b185 o186=>ldK
  b185 (Nat.add o186 0) s183 λ v187=>ko e182 7 λ v188=>oni v187 λ n189=>oni v188 λ n190=>nx (λ e191 s192=>jn (λ e282 s283=>ko e282 10
  λ v284=>onp v284 λ b285 o286=>ldK b285 (Nat.add o286 2) s283 λ v287=>oni v287 λ n288=>nx (λ e289 s290=>jn (λ e295 s296=>ko e295 10
  λ v297=>onp v297 λ b298 o299=>ldK b298 (Nat.add o299 0) s296 λ v300=>ko e295 7 λ v301=>oni v301 λ n302=>frcI (wrapI (arI .add n302
  (.ofNat 4))) λ n303=>oni v300 λ n304=>nx (λ e305 s306=>jn (idk) λ k307=>ko e305 129 λ v308=>cdK v308 (ko e305 5 λ v309=>bnr (cl 48
  [v309] s306) λ v310 s311=>extK v310 0 λ v312=>extK v310 1 λ v313=>extK v310 2 λ v314=>nx (λ e315 s316=>bnr (cl 43 [] s316) λ v317 s318
 =>gdK v317 true (λ k319=>ko e315 18 λ v322=>k319 v322 s318) s318 λ v320 s321=>gdK v317 true (λ k323=>ko e315 0 λ v326=>k323 v326 s321)
  s321 λ v324 s325=>gdK v317 true (λ k327=>oni v324 λ n330=>frcI (wrapI (arI .sub (.ofNat 10) n330)) λ n331=>k327 (.i n331) s325) s325 λ v328
  s329=>gdK v317 true (λ k332=>oni v320 λ n335=>oni v328 λ n336=>k332 (.b (cmI .eq n335 n336)) s329) s329 λ v333 s334=>pkK v317 (.ok v333)
  (.ok (.b false)) λ v337=>nx (λ e338 s339=>.ok .r e338 s339) (kst e315 2 v337) s334) (kst e305 18 v314) s311) (k307 e305 s306)) (kst e295 129 (.b
  (cmI .eq n304 n303))) s296) λ k291=>ko e289 124 λ v292=>cdK v292 (nx (λ e293 s294=>.ok .r e293 s294) (kst e289 2 (.b false)) s290) (k291 e289
  s290)) (kst e282 124 (.b (cmI .ne n288 (.ofNat 0)))) s283) λ k193=>ko e191 85 λ v194=>cdK v194 (ko e191 5 λ v195=>onp v195 λ b196 o197=>bnr
  (ldnP 1 b196 (Nat.add o197 1) s192) λ v198 s199=>bnr (cl 47 [v198] s199) λ v200 s201=>extK v200 0 λ v202=>extK v200 1 λ v203=>nx (λ e204
  s205=>ko e204 5 λ v206=>bnr (cl 52 [v206,(.i (.ofNat 0))] s205) λ v207 s208=>extK v207 0 λ v209=>extK v207 1 λ v210=>extK v207 2 λ v211
 =>nx (λ e212 s213=>ko e212 10 λ v214=>onp v214 λ b215 o216=>ldK b215 (Nat.add o216 2) s213 λ v217=>oni v217 λ n218=>gdK (.b (cmI .ne
  n218 (.ofNat 6))) false (λ k219=>ko e212 11 λ v222=>k219 v222 s213) s213 λ v220 s221=>gdK (.b (cmI .ne n218 (.ofNat 6))) false (λ k223=>oni
  v220 λ n226=>k223 (.b (cmI .lt n226 (.ofNat 2))) s221) s221 λ v224 s225=>pkK (.b (cmI .ne n218 (.ofNat 6))) (.ok (.b true)) (.ok v224) λ v227=>gdK
  v227 false (λ k228=>ko e212 12 λ v231=>k228 v231 s225) s225 λ v229 s230=>gdK v227 false (λ k232=>oni v229 λ n235=>k232 (.b (cmI .lt n235
  (.ofNat 1))) s230) s230 λ v233 s234=>pkK v227 (.ok (.b true)) (.ok v233) λ v236=>gdK v236 false (λ k237=>ko e212 15 λ v240=>k237 v240 s234)
  s234 λ v238 s239=>gdK v236 false (λ k241=>bnr (lenV v238 s239) λ v244 s245=>k241 v244 s245) s239 λ v242 s243=>gdK v236 false (λ k246=>
  oni v242 λ n249=>k246 (.b (cmI .ne n249 (.ofNat 3))) s243) s243 λ v247 s248=>pkK v236 (.ok (.b true)) (.ok v247) λ v250=>gdK v250 false (λ k251
 =>ko e212 15 λ v254=>k251 v254 s248) s248 λ v252 s253=>gdK v250 false (λ k255=>onSlx v252 λ b258 o259 q260=>onON (nat (.ofNat 2)) λ i261=>
  ifX (Nat.blt i261 q260) (k255 (.p b258 (Nat.add o259 (Nat.mul i261 2))) s253)) s253 λ v256 s257=>gdK v250 false (λ k262=>onp v256 λ b265 o266=>
  k262 (.p b265 (Nat.add o266 0)) s257) s257 λ v263 s264=>gdK v250 false (λ k267=>onp v263 λ b270 o271=>ldK b270 o271 s264 λ v272=>k267 v272
  s264) s264 λ v268 s269=>pkK v250 (.ok (.b true)) (.ok v268) λ v273=>nx (λ e274 s275=>jn (λ e280 s281=>.ok (.x 3) e280 s281) λ k276=>ko e274
  121 λ v277=>cdK v277 (nx (λ e278 s279=>.ok .r e278 s279) (kst e274 2 (.b false)) s275) (k276 e274 s275)) (kst e212 121 v273) s269) (kst e204 15
  v211) s208) (kst (kst e191 11 v202) 12 v203) s201) (k193 e191 s192)) (kst e182 85 (.b (cmI .eq n189 n190))) s183) (kst e168 10 v175) s181) λ k166=>ko
  e164 79 λ v167=>cdK v167 (.ok (.x 3) e164 s165) (k166 e164 s165)) (kst e157 79 (.b (neg c163))) s158) (kst e142 9 v150) s156) 3 (λ e340 s341=>ko e340
  8 λ v342=>oni v342 λ n343=>frcI (wrapI (arI .add n343 (.ofNat 1))) λ n344=>nx (idk) (kst e340 8 (.i n344)) s341)) λ k140=>ko e138 70 λ v141
 =>cdK v141 (k140 e138 s139) (.ok (.x 2) e138 s139)) (kst e134 70 (.b (cmI .lt n137 (.ofNat 60000)))) s135) lpFuel cl e132 s133) (idk)) 2 (λ e345 s346=>nx
  (λ e347 s348=>.ok .r e347 s348) (kst e345 2 (.b false)) s346)) (kst e130 8 (.i (.ofNat 0))) s131) (kst e125 7 (.i n129)) s126) λ k121=>ko e119 66
  λ v122=>cdK v122 (nx (λ e123 s124=>.ok .r e123 s124) (kst e119 2 (.b false)) s120) (k121 e119 s120)) (kst e105 66 v118) s116) (kst (kst e94 5 v103)
  6 v104) s102) (kst e69 3 v92) s93)) (kst e35 4 (.i (.ofNat 0))) s36) (kst e33 3 (.ns)) s34) λ k27=>ko e25 26 λ v28=>cdK v28 (bnr (cl 43 [] s26)
  λ v29 s30=>nx (λ e31 s32=>.ok .r e31 s32) (kst e25 2 v29) s30) (k27 e25 s26)) (kst e12 26 v24) s22) λ k8=>ko e6 20 λ v9=>cdK v9 (nx (λ e10
  s11=>.ok .r e10 s11) (kst e6 2 (.b false)) s7) (k8 e6 s7)) (kst e1 20 (.b (neg c5))) s4) (kst env 2 (.b false)) s
theorem fe10 : rf10 = fastOf kf10 := by kernel_rfl
def rf16 : RFun := .mk 1 [.t 2] λ cl env s=>nx (λ e1 s2=>ko e1 0 λ v3=>onp v3 λ b4 o5=>ldK b4 (Nat.add o5 3) s2 λ v6=>nx (λ e7 s8=>.ok .r e7 s8) (kst e1 2 v6) s2) (kst env 2 (.i
  (.ofNat 0))) s
theorem fe16 : rf16 = fastOf kf16 := by kernel_rfl
def rf17 : RFun := .mk 2 [.cn 4 5,.t 5] λ cl env s=>bnr (eNew [.i (.ofNat 0),.i (.ofNat 0),.i (.ofNat 0),.b false,.z 0 0] .nil s cl) λ v1 s2=>nx (λ e3 s4=>ko e3 0 λ v5=>onp v5 λ b6 o7=>ldK
  b6 (Nat.add o7 3) s4 λ v8=>nx (λ e9 s10=>bkK (ko e9 12 λ v11=>oni v11 λ n12=>nx (λ e13 s14=>jn (idk) λ k15=>ko e13 13 λ v16=>cdK
  v16 (ko e13 1 λ v17=>onp v17 λ b18 o19=>ldK b18 (Nat.add o19 12) s14 λ v20=>ko e13 0 λ v21=>onp v21 λ b22 o23=>ldK b22 (Nat.add o23 0)
  s14 λ v24=>bnr (cl 71 [v20,v24] s14) λ v25 s26=>extK v25 0 λ v27=>extK v25 1 λ v28=>extK v25 2 λ v29=>nx (λ e30 s31=>ko e30 8 λ
  v32=>onBx v32 λ c33=>nx (λ e34 s35=>jn (λ e45 s46=>ko e45 0 λ v47=>ko e45 0 λ v48=>ko e45 6 λ v49=>ko e45 7 λ v50=>onp v47 λ
  b51 o52=>bnr (stV b51 (Nat.add o52 4) v49 s46) λ v53 s54=>onp v48 λ b55 o56=>bnr (stV b55 (Nat.add o56 5) v50 s54) λ v57 s58=>nx (λ e59
  s60=>ko e59 0 λ v61=>ko e59 0 λ v62=>onp v61 λ b63 o64=>bnr (stV b63 (Nat.add o64 3) (.i (.ofNat 1)) s60) λ v65 s66=>onp v62 λ b67 o68
 =>bnr (stV b67 (Nat.add o68 7) (.i (.ofNat 0)) s66) λ v69 s70=>nx (k15) e59 s70) e45 s58) λ k36=>ko e34 29 λ v37=>cdK v37 (ko e34 0 λ v38=>
  onp v38 λ b39 o40=>bnr (stV b39 (Nat.add o40 3) (.i (.ofNat 4)) s35) λ v41 s42=>nx (λ e43 s44=>.ok (.x 0) e43 s44) e34 s42) (k36 e34 s35)) (kst
  e30 29 (.b (neg c33))) s31) (kst (kst (kst e13 6 v27) 7 v28) 8 v29) s26) (ko e13 12 λ v71=>oni v71 λ n72=>nx (λ e73 s74=>jn (k15) λ k75=>ko
  e73 47 λ v76=>cdK v76 (ko e73 0 λ v77=>ko e73 1 λ v78=>bnr (cl 72 [v77,v78] s74) λ v79 s80=>nx (k75) e73 s80) (ko e73 12 λ v81=>oni v81
  λ n82=>nx (λ e83 s84=>jn (k75) λ k85=>ko e83 52 λ v86=>cdK v86 (ko e83 0 λ v87=>onp v87 λ b88 o89=>ldK b88 (Nat.add (Nat.add o89 10)
  0) s84 λ v90=>oni v90 λ n91=>frcI (wrapI (arI .add n91 (.ofNat 1))) λ n92=>onp v87 λ b93 o94=>bnr (stV b93 (Nat.add (Nat.add o94 10) 0) (.i
  n92) s84) λ v95 s96=>nx (λ e97 s98=>ko e97 0 λ v99=>ko e97 1 λ v100=>bnr (cl 73 [v99,v100] s98) λ v101 s102=>extK v101 0 λ v103=>
  extK v101 1 λ v104=>ko e97 4 λ v105=>onp v105 λ b106 o107=>onAx v103 λ l108=>bnr (stnA 5 b106 o107 l108 s102) λ v109 s110=>nx (λ e111
  s112=>.ok .r e111 s112) (kst e97 5 v104) s110) e83 s96) (ko e83 12 λ v113=>oni v113 λ n114=>nx (λ e115 s116=>jn (k85) λ k117=>ko e115 68
  λ v118=>cdK v118 (ko e115 0 λ v119=>onp v119 λ b120 o121=>ldK b120 (Nat.add (Nat.add o121 10) 0) s116 λ v122=>oni v122 λ n123=>frcI
  (wrapI (arI .add n123 (.ofNat 1))) λ n124=>onp v119 λ b125 o126=>bnr (stV b125 (Nat.add (Nat.add o126 10) 0) (.i n124) s116) λ v127 s128=>nx
  (λ e129 s130=>ko e129 0 λ v131=>ko e129 1 λ v132=>bnr (cl 74 [v131,v132] s130) λ v133 s134=>extK v133 0 λ v135=>extK v133 1 λ v136=>
  ko e129 4 λ v137=>onp v137 λ b138 o139=>onAx v135 λ l140=>bnr (stnA 5 b138 o139 l140 s134) λ v141 s142=>nx (λ e143 s144=>.ok .r e143
  s144) (kst e129 5 v136) s142) e115 s128) (k117 e115 s116)) (kst e83 68 (.b (cmI .eq n114 (.ofNat 3)))) s84)) (kst e73 52 (.b (cmI .eq n82 (.ofNat 2))))
  s74)) (kst e13 47 (.b (cmI .eq n72 (.ofNat 1)))) s14)) (kst e9 13 (.b (cmI .eq n12 (.ofNat 0)))) s10) 0 (λ e145 s146=>bnr (oL (fill .nil [.i (.ofNat
  0),.i (.ofNat 0),.i (.ofNat 0),.b false,.z 0 0] .nil) okA s146) λ v147 s148=>ko e145 4 λ v149=>onp v149 λ b150 o151=>onAx v147 λ l152=>
  bnr (stnA 5 b150 o151 l152 s148) λ v153 s154=>nx (λ e155 s156=>.ok .r e155 s156) (kst e145 5 (.b false)) s154)) (kst e3 12 v8) s4) (kst (kst env
  4 v1) 5 (.b false)) s2
theorem fe17 : rf17 = fastOf kf17 := by kernel_rfl
def rf18 : RFun := .mk 1 [.t 2] λ cl env s=>nx (λ e1 s2=>ko e1 0 λ v3=>onp v3 λ b4 o5=>ldK b4 (Nat.add o5 2) s2 λ v6=>bnr (cl 75 [v6] s2) λ v7 s8=>nx (λ e9 s10=>.ok .r e9 s10)
  (kst e1 2 v7) s8) (kst env 2 (.ns)) s
theorem fe18 : rf18 = fastOf kf18 := by kernel_rfl
def rf20 : RFun := .mk 1 [.t 2] λ cl env s=>ko env 0 λ v1=>bnr (boxV v1 s) λ v2 s3=>nx (λ e4 s5=>ko e4 1 λ v6=>onp v6 λ b7 o8=>ldK b7 (Nat.add o8 0) s5 λ v9=>nx (λ e10 s11=>
  .ok .r e10 s11) (kst e4 2 v9) s5) (kst (kst env 1 v2) 2 (.np)) s3
theorem fe20 : rf20 = fastOf kf20 := by kernel_rfl
def rf21 : RFun := .mk 1 [.t 2,.t 3,.t 4] λ cl env s=>nx (λ e1 s2=>ko e1 0 λ v3=>onp v3 λ b4 o5=>bnr (eKp (.q (.iar (.c (.p b4 (Nat.add o5 1))) (.c (.i (.ofNat 0))) 1 3)) .nil s2 cl) λ v6 s7=>onp
  v6 λ b8 o9=>ldK b8 o9 s2 λ v10=>ko e1 0 λ v11=>onp v11 λ b12 o13=>bnr (eKp (.q (.iar (.c (.p b12 (Nat.add o13 1))) (.c (.i (.ofNat 1))) 1
  3)) .nil s2 cl) λ v14 s15=>onp v14 λ b16 o17=>ldK b16 o17 s2 λ v18=>ko e1 0 λ v19=>onp v19 λ b20 o21=>bnr (eKp (.q (.iar (.c (.p b20
  (Nat.add o21 1))) (.c (.i (.ofNat 2))) 1 3)) .nil s2 cl) λ v22 s23=>onp v22 λ b24 o25=>ldK b24 o25 s2 λ v26=>nx (λ e27 s28=>.ok .r e27 s28)
  (kst (kst (kst e1 2 v10) 3 v18) 4 v26) s2) (kst (kst (kst env 2 (.i (.ofNat 0))) 3 (.i (.ofNat 0))) 4 (.i (.ofNat 0))) s
theorem fe21 : rf21 = fastOf kf21 := by kernel_rfl
def rf22 : RFun := .mk 2 [.t 4] λ cl env s=>nx (λ e1 s2=>ko e1 1 λ v3=>oni v3 λ n4=>gdK (.b (cmI .lt n4 (.ofNat 0))) false (λ k5=>ko e1 1 λ v8=>k5 v8 s2) s2 λ v6 s7=>gdK (.b (cmI
  .lt n4 (.ofNat 0))) false (λ k9=>ko e1 0 λ v12=>k9 v12 s7) s7 λ v10 s11=>gdK (.b (cmI .lt n4 (.ofNat 0))) false (λ k13=>onp v10 λ b16 o17=>
  k13 (.p b16 o17) s11) s11 λ v14 s15=>gdK (.b (cmI .lt n4 (.ofNat 0))) false (λ k18=>onp v14 λ b21 o22=>k18 (.p b21 (Nat.add o22 2)) s15) s15 λ
  v19 s20=>gdK (.b (cmI .lt n4 (.ofNat 0))) false (λ k23=>onp v19 λ b26 o27=>ldK b26 o27 s20 λ v28=>k23 v28 s20) s20 λ v24 s25=>gdK (.b (cmI
  .lt n4 (.ofNat 0))) false (λ k29=>bnr (lenV v24 s25) λ v32 s33=>k29 v32 s33) s25 λ v30 s31=>gdK (.b (cmI .lt n4 (.ofNat 0))) false (λ k34=>
  oni v6 λ n37=>oni v30 λ n38=>k34 (.b (cmI .ge n37 n38)) s31) s31 λ v35 s36=>pkK (.b (cmI .lt n4 (.ofNat 0))) (.ok (.b true)) (.ok v35) λ v39=>
  nx (λ e40 s41=>jn (λ e46 s47=>ko e46 0 λ v48=>onp v48 λ b49 o50=>ldK b49 (Nat.add o50 2) s47 λ v51=>ko e46 1 λ v52=>onSlx v51 λ b53
  o54 q55=>oni v52 λ n57=>onON (nat n57) λ i56=>ifX (Nat.blt i56 q55) (ldK b53 (Nat.add o54 (Nat.mul i56 1)) s47 λ v58=>nx (λ e59 s60=>.ok .r
  e59 s60) (kst e46 4 v58) s47)) λ k42=>ko e40 15 λ v43=>cdK v43 (nx (λ e44 s45=>.ok .r e44 s45) (kst e40 4 (.i (.negSucc 0))) s41) (k42 e40 s41))
  (kst e1 15 v39) s36) (kst env 4 (.i (.ofNat 0))) s
theorem fe22 : rf22 = fastOf kf22 := by kernel_rfl
def rf25 : RFun := .mk 3 [.t 6] λ cl env s=>nx (λ e1 s2=>ko e1 0 λ v3=>onp v3 λ b4 o5=>ldK b4 (Nat.add o5 3) s2 λ v6=>oni v6 λ n7=>frcI (wrapI (arI .add n7 (.ofNat 1))) λ n8=>onp
  v3 λ b9 o10=>bnr (stV b9 (Nat.add o10 3) (.i n8) s2) λ v11 s12=>nx (λ e13 s14=>ko e13 1 λ v15=>bnr (cl 77 [v15] s14) λ v16 s17=>onBx
  v16 λ c18=>nx (λ e19 s20=>jn (λ e25 s26=>ko e25 0 λ v27=>ko e25 1 λ v28=>onp v27 λ b29 o30=>bnr (stV b29 (Nat.add o30 0) v28 s26)
  λ v31 s32=>nx (λ e33 s34=>ko e33 0 λ v35=>ko e33 0 λ v36=>onp v36 λ b37 o38=>ldK b37 (Nat.add o38 1) s34 λ v39=>ko e33 2 λ v40=>
  onBx v39 λ c41=>onBx v40 λ c42=>onp v35 λ b43 o44=>bnr (stV b43 (Nat.add o44 1) (.b (neg (eqB c41 c42))) s34) λ v45 s46=>nx (λ e47 s48=>
  nx (λ e49 s50=>.ok .r e49 s50) (kst e47 6 (.b true)) s48) e33 s46) e25 s32) λ k21=>ko e19 16 λ v22=>cdK v22 (nx (λ e23 s24=>.ok .r e23 s24)
  (kst e19 6 (.b false)) s20) (k21 e19 s20)) (kst e13 16 (.b (neg c18))) s17) e1 s12) (kst env 6 (.b false)) s
theorem fe25 : rf25 = fastOf kf25 := by kernel_rfl
def rf26 : RFun := .mk 1 [.t 2] λ cl env s=>nx (λ e1 s2=>ko e1 0 λ v3=>onp v3 λ b4 o5=>ldK b4 (Nat.add o5 4) s2 λ v6=>nx (λ e7 s8=>.ok .r e7 s8) (kst e1 2 v6) s2) (kst env 2 (.i
  (.ofNat 0))) s
theorem fe26 : rf26 = fastOf kf26 := by kernel_rfl
def rf28 : RFun := .mk 3 [.t 6] λ cl env s=>nx (λ e1 s2=>ko e1 0 λ v3=>ko e1 1 λ v4=>bnr (cl 78 [v3,v4] s2) λ v5 s6=>oni v5 λ n7=>gdK (.b (cmI .eq n7 (.ofNat 2))) true (λ k8=>ko
  e1 0 λ v11=>k8 v11 s6) s6 λ v9 s10=>gdK (.b (cmI .eq n7 (.ofNat 2))) true (λ k12=>onp v9 λ b15 o16=>k12 (.p b15 o16) s10) s10 λ v13 s14=>
  gdK (.b (cmI .eq n7 (.ofNat 2))) true (λ k17=>onp v13 λ b20 o21=>k17 (.p b20 (Nat.add o21 0)) s14) s14 λ v18 s19=>gdK (.b (cmI .eq n7 (.ofNat 2)))
  true (λ k22=>onp v18 λ b25 o26=>ldK b25 o26 s19 λ v27=>k22 v27 s19) s19 λ v23 s24=>gdK (.b (cmI .eq n7 (.ofNat 2))) true (λ k28=>ko e1 1
  λ v31=>k28 v31 s24) s24 λ v29 s30=>gdK (.b (cmI .eq n7 (.ofNat 2))) true (λ k32=>onSlx v23 λ b35 o36 q37=>oni v29 λ n39=>onON (nat n39)
  λ i38=>ifX (Nat.blt i38 q37) (k32 (.p b35 (Nat.add o36 (Nat.mul i38 3))) s30)) s30 λ v33 s34=>gdK (.b (cmI .eq n7 (.ofNat 2))) true (λ k40=>onp
  v33 λ b43 o44=>k40 (.p b43 (Nat.add o44 2)) s34) s34 λ v41 s42=>gdK (.b (cmI .eq n7 (.ofNat 2))) true (λ k45=>onp v41 λ b48 o49=>ldK b48 o49
  s42 λ v50=>k45 v50 s42) s42 λ v46 s47=>gdK (.b (cmI .eq n7 (.ofNat 2))) true (λ k51=>ko e1 2 λ v54=>k51 v54 s47) s47 λ v52 s53=>gdK (.b
  (cmI .eq n7 (.ofNat 2))) true (λ k55=>onBx v46 λ c58=>onBx v52 λ c59=>k55 (.b (eqB c58 c59)) s53) s53 λ v56 s57=>pkK (.b (cmI .eq n7 (.ofNat
  2))) (.ok v56) (.ok (.b false)) λ v60=>nx (λ e61 s62=>.ok .r e61 s62) (kst e1 6 v60) s57) (kst env 6 (.b false)) s
theorem fe28 : rf28 = fastOf kf28 := by kernel_rfl
def rf29 : RFun := .mk 2 [.t 4] λ cl env s=>nx (λ e1 s2=>ko e1 0 λ v3=>ko e1 1 λ v4=>bnr (cl 79 [v3,v4] s2) λ v5 s6=>gdK v5 true (λ k7=>ko e1 0 λ v10=>k7 v10 s6) s6 λ v8 s9=>
  gdK v5 true (λ k11=>onp v8 λ b14 o15=>k11 (.p b14 o15) s9) s9 λ v12 s13=>gdK v5 true (λ k16=>onp v12 λ b19 o20=>k16 (.p b19 (Nat.add o20
  0)) s13) s13 λ v17 s18=>gdK v5 true (λ k21=>onp v17 λ b24 o25=>ldK b24 o25 s18 λ v26=>k21 v26 s18) s18 λ v22 s23=>gdK v5 true (λ k27=>
  ko e1 1 λ v30=>k27 v30 s23) s23 λ v28 s29=>gdK v5 true (λ k31=>onSlx v22 λ b34 o35 q36=>oni v28 λ n38=>onON (nat n38) λ i37=>ifX
  (Nat.blt i37 q36) (k31 (.p b34 (Nat.add o35 (Nat.mul i37 3))) s29)) s29 λ v32 s33=>gdK v5 true (λ k39=>onp v32 λ b42 o43=>k39 (.p b42 (Nat.add o43
  1)) s33) s33 λ v40 s41=>gdK v5 true (λ k44=>onp v40 λ b47 o48=>ldK b47 o48 s41 λ v49=>k44 v49 s41) s41 λ v45 s46=>pkK v5 (.ok v45) (.ok
  (.b false)) λ v50=>nx (λ e51 s52=>.ok .r e51 s52) (kst e1 4 v50) s46) (kst env 4 (.b false)) s
theorem fe29 : rf29 = fastOf kf29 := by kernel_rfl
def rf35 : RFun := .mk 1 [.t 2] λ cl env s=>nx (λ e1 s2=>ko e1 0 λ v3=>onp v3 λ b4 o5=>ldK b4 (Nat.add o5 9) s2 λ v6=>nx (λ e7 s8=>.ok .r e7 s8) (kst e1 2 v6) s2) (kst env 2 (.i
  (.ofNat 0))) s
theorem fe35 : rf35 = fastOf kf35 := by kernel_rfl
def rf36 : RFun := .mk 2 [] λ cl env s=>ko env 0 λ v1=>onp v1 λ b2 o3=>ldK b2 (Nat.add o3 13) s λ v4=>oni v4 λ n5=>nx (λ e6 s7=>jn (λ e10 s11=>ko e10 0 λ v12=>onp v12 λ
  b13 o14=>ldK b13 (Nat.add o14 8) s11 λ v15=>oni v15 λ n16=>nx (λ e17 s18=>jn (λ e31 s32=>ko e31 0 λ v33=>onp v33 λ b34 o35=>ldK b34
  (Nat.add o35 0) s32 λ v36=>nx (λ e37 s38=>bkK (ko e37 24 λ v39=>oni v39 λ n40=>nx (λ e41 s42=>jn (idk) λ k43=>ko e41 28 λ v44=>cdK
  v44 (ko e41 1 λ v45=>onp v45 λ b46 o47=>ldK b46 (Nat.add o47 11) s42 λ v48=>bnr (cl 83 [v48] s42) λ v49 s50=>nx (λ e51 s52=>jn (k43) λ
  k53=>ko e51 34 λ v54=>cdK v54 (ko e51 0 λ v55=>bnr (cl 84 [v55,(.i (.ofNat 1))] s52) λ v56 s57=>nx (k53) e51 s57) (k53 e51 s52)) (kst e41 34
  v49) s50) (ko e41 24 λ v58=>oni v58 λ n59=>nx (λ e60 s61=>jn (k43) λ k62=>ko e60 37 λ v63=>cdK v63 (ko e60 0 λ v64=>ko e60 1 λ v65
 =>bnr (cl 85 [v64,v65] s61) λ v66 s67=>nx (k62) e60 s67) (ko e60 24 λ v68=>oni v68 λ n69=>nx (λ e70 s71=>jn (k62) λ k72=>ko e70 42 λ
  v73=>cdK v73 (ko e70 0 λ v74=>ko e70 1 λ v75=>bnr (cl 86 [v74,v75,(.i (.ofNat 2)),(.i (.ofNat 3))] s71) λ v76 s77=>nx (k72) e70 s77) (ko e70
  24 λ v78=>oni v78 λ n79=>nx (λ e80 s81=>jn (k72) λ k82=>ko e80 47 λ v83=>cdK v83 (ko e80 0 λ v84=>ko e80 1 λ v85=>bnr (cl 86
  [v84,v85,(.i (.ofNat 3)),(.i (.ofNat 4))] s81) λ v86 s87=>nx (k82) e80 s87) (ko e80 24 λ v88=>oni v88 λ n89=>nx (λ e90 s91=>jn (k82) λ
  k92=>ko e90 52 λ v93=>cdK v93 (ko e90 0 λ v94=>ko e90 1 λ v95=>bnr (cl 87 [v94,v95] s91) λ v96 s97=>nx (k92) e90 s97) (ko e90 24 λ v98
 =>oni v98 λ n99=>nx (λ e100 s101=>jn (k92) λ k102=>ko e100 57 λ v103=>cdK v103 (ko e100 0 λ v104=>ko e100 1 λ v105=>bnr (cl 88
  [v104,v105] s101) λ v106 s107=>nx (k102) e100 s107) (ko e100 24 λ v108=>oni v108 λ n109=>nx (λ e110 s111=>jn (k102) λ k112=>ko e110 62
  λ v113=>cdK v113 (ko e110 0 λ v114=>ko e110 1 λ v115=>bnr (cl 89 [v114,v115] s111) λ v116 s117=>nx (k112) e110 s117) (ko e110 24 λ v118=>
  oni v118 λ n119=>nx (λ e120 s121=>jn (k112) λ k122=>ko e120 67 λ v123=>cdK v123 (ko e120 0 λ v124=>ko e120 1 λ v125=>bnr (cl 90
  [v124,v125] s121) λ v126 s127=>nx (k122) e120 s127) (ko e120 24 λ v128=>oni v128 λ n129=>nx (λ e130 s131=>jn (k122) λ k132=>ko e130 72
  λ v133=>cdK v133 (ko e130 0 λ v134=>ko e130 1 λ v135=>bnr (cl 91 [v134,v135] s131) λ v136 s137=>nx (k132) e130 s137) (ko e130 24 λ v138=>
  oni v138 λ n139=>nx (λ e140 s141=>jn (k132) λ k142=>ko e140 77 λ v143=>cdK v143 (ko e140 0 λ v144=>ko e140 1 λ v145=>bnr (cl 92
  [v144,v145] s141) λ v146 s147=>nx (k142) e140 s147) (ko e140 0 λ v148=>ko e140 1 λ v149=>bnr (cl 93 [v148,v149] s141) λ v150 s151=>nx
  (k142) e140 s151)) (kst e130 77 (.b (cmI .eq n139 (.ofNat 9)))) s131)) (kst e120 72 (.b (cmI .eq n129 (.ofNat 8)))) s121)) (kst e110 67 (.b (cmI .eq n119
  (.ofNat 7)))) s111)) (kst e100 62 (.b (cmI .eq n109 (.ofNat 6)))) s101)) (kst e90 57 (.b (cmI .eq n99 (.ofNat 5)))) s91)) (kst e80 52 (.b (cmI .eq n89
  (.ofNat 4)))) s81)) (kst e70 47 (.b (cmI .eq n79 (.ofNat 3)))) s71)) (kst e60 42 (.b (cmI .eq n69 (.ofNat 2)))) s61)) (kst e41 37 (.b (cmI .eq n59 (.ofNat
  1)))) s42)) (kst e37 28 (.b (cmI .eq n40 (.ofNat 0)))) s38) 0 (idk)) (kst e31 24 v36) s32) λ k19=>ko e17 13 λ v20=>cdK v20 (ko e17 0 λ v21=>onp
  v21 λ b22 o23=>ldK b22 (Nat.add o23 12) s18 λ v24=>oni v24 λ n25=>frcI (wrapI (arI .add n25 (.ofNat 1))) λ n26=>onp v21 λ b27 o28=>bnr
  (stV b27 (Nat.add o28 12) (.i n26) s18) λ v29 s30=>nx (k19) e17 s30) (k19 e17 s18)) (kst e10 13 (.b (cmI .gt n16 (.ofNat 0)))) s11) λ k8=>ko e6 8 λ
  v9=>cdK v9 (.ok .r e6 s7) (k8 e6 s7)) (kst env 8 (.b (cmI .ne n5 (.ofNat 0)))) s
theorem fe36 : rf36 = fastOf kf36 := by kernel_rfl
def rf42 : RFun := .mk 1 [.t 2] λ cl env s=>ko env 0 λ v1=>bnr (boxV v1 s) λ v2 s3=>nx (λ e4 s5=>ko e4 1 λ v6=>onp v6 λ b7 o8=>ldK b7 (Nat.add o8 9) s5 λ v9=>bnr (cl 95 [v9]
  s5) λ v10 s11=>nx (λ e12 s13=>.ok .r e12 s13) (kst e4 2 v10) s11) (kst (kst env 1 v2) 2 (.i (.ofNat 0))) s3
theorem fe42 : rf42 = fastOf kf42 := by kernel_rfl
def rf43 : RFun := .mk 0 [.t 0] λ cl env s=>nx (λ e1 s2=>bnr (oL (fill .nil [.b false,.ns] .nil) okA s2) λ v3 s4=>bnr (oL (fill (.cons 0 2 (.c v3) .nil) (repL [.b false,.ns] 1) .nil) (bsl1 1
  (lenL [.b false,.ns])) s4) λ v5 s6=>bnr (oL (fill (.cons 0 1 (.c (.i (.ofNat 4))) (.cons 3 1 (.c (.i (.ofNat 1))) (.cons 4 1 (.c (.i (.ofNat 1))) (.cons
  6 1 (.c (.i (.ofNat 1))) (.cons 8 1 (.c v5) .nil))))) [.i (.ofNat 0),.i (.ofNat 0),.i (.ofNat 0),.i (.ofNat 0),.i (.ofNat 0),.i (.ofNat 0),.i (.ofNat 0),
  .i (.ofNat 0),.ns] .nil) okA s6) λ v7 s8=>bnr (cl 44 [v7,(.ns)] s8) λ v9 s10=>extK v9 0 λ v11=>extK v9 1 λ v12=>nx (λ e13 s14=>ko e13 1
  λ v15=>bnr (nilpV true v15 s14) λ v16 s17=>gdK v16 false (λ k18=>ko e13 2 λ v21=>k18 v21 s17) s17 λ v19 s20=>gdK v16 false (λ k22=>
  oni v19 λ n25=>k22 (.b (cmI .ne n25 (.ofNat 0))) s20) s20 λ v23 s24=>pkK v16 (.ok (.b true)) (.ok v23) λ v26=>nx (λ e27 s28=>jn (λ e33 s34
 =>ko e33 1 λ v35=>bnr (cl 46 [v35,(.i (.ofNat 1))] s34) λ v36 s37=>bnr (eNew [.i (.ofNat 0),.b false,.i (.ofNat 0),.i (.ofNat 0),.i (.ofNat
  0),.b false,.z 0 0] .nil s37 cl) λ v38 s39=>onp v38 λ b40 o41=>onAx v36 λ l42=>bnr (stnA 7 b40 o41 l42 s39) λ v43 s44=>nx (λ e45 s46=>
  ko e45 3 λ v47=>onp v47 λ b48 o49=>ldK b48 (Nat.add o49 0) s46 λ v50=>oni v50 λ n51=>gdK (.b (cmI .eq n51 (.ofNat 1))) true (λ k52=>ko
  e45 3 λ v55=>onp v55 λ b56 o57=>k52 (.p b56 (Nat.add o57 1)) s46) s46 λ v53 s54=>gdK (.b (cmI .eq n51 (.ofNat 1))) true (λ k58=>onp v53 λ
  b61 o62=>ldK b61 o62 s54 λ v63=>k58 v63 s54) s54 λ v59 s60=>gdK (.b (cmI .eq n51 (.ofNat 1))) true (λ k64=>onBx v59 λ c67=>k64 (.b (neg c67))
  s60) s60 λ v65 s66=>pkK (.b (cmI .eq n51 (.ofNat 1))) (.ok v65) (.ok (.b false)) λ v68=>gdK v68 true (λ k69=>ko e45 1 λ v72=>k69 v72 s66) s66
  λ v70 s71=>gdK v68 true (λ k73=>bnr (cl 96 [v70] s71) λ v76 s77=>k73 v76 s77) s71 λ v74 s75=>gdK v68 true (λ k78=>oni v74 λ n81=>k78
  (.b (cmI .eq n81 (.ofNat 0))) s75) s75 λ v79 s80=>pkK v68 (.ok v79) (.ok (.b false)) λ v82=>gdK v82 true (λ k83=>ko e45 1 λ v86=>k83 v86 s80)
  s80 λ v84 s85=>gdK v82 true (λ k87=>bnr (cl 97 [v84] s85) λ v90 s91=>k87 v90 s91) s85 λ v88 s89=>gdK v82 true (λ k92=>oni v88 λ n95=>
  k92 (.b (cmI .eq n95 (.ofNat 0))) s89) s89 λ v93 s94=>pkK v82 (.ok v93) (.ok (.b false)) λ v96=>gdK v96 true (λ k97=>ko e45 1 λ v100=>k97 v100
  s94) s94 λ v98 s99=>gdK v96 true (λ k101=>bnr (cl 46 [v98,(.i (.ofNat 0))] s99) λ v104 s105=>k101 v104 s105) s99 λ v102 s103=>gdK v96 true
  (λ k106=>bnr (eKp (.q (.fld (.c v102) 0)) .nil s103 cl) λ v109 s110=>k106 v109 s110) s103 λ v107 s108=>gdK v96 true (λ k111=>oni v107 λ
  n114=>k111 (.b (cmI .eq n114 (.ofNat 0))) s108) s108 λ v112 s113=>pkK v96 (.ok v112) (.ok (.b false)) λ v115=>gdK v115 true (λ k116=>ko e45 1 λ
  v119=>k116 v119 s113) s113 λ v117 s118=>gdK v115 true (λ k120=>bnr (cl 96 [v117] s118) λ v123 s124=>k120 v123 s124) s118 λ v121 s122=>gdK
  v115 true (λ k125=>oni v121 λ n128=>k125 (.b (cmI .eq n128 (.ofNat 1))) s122) s122 λ v126 s127=>pkK v115 (.ok v126) (.ok (.b false)) λ v129=>
  nx (λ e130 s131=>.ok .r e130 s131) (kst e45 0 v129) s127) (kst e33 3 v38) s44) λ k29=>ko e27 16 λ v30=>cdK v30 (nx (λ e31 s32=>.ok .r e31
  s32) (kst e27 0 (.b false)) s28) (k29 e27 s28)) (kst e13 16 v26) s24) (kst (kst e1 1 v11) 2 v12) s10) (kst env 0 (.b false)) s
theorem fe43 : rf43 = fastOf kf43 := by kernel_rfl
def rf44 : RFun := .mk 2 [.t 4,.t 5] λ cl env s=>ko env 0 λ v1=>bnr (boxV v1 s) λ v2 s3=>nx (λ e4 s5=>ko e4 2 λ v6=>onp v6 λ b7 o8=>bnr (ldnP 9 b7 o8 s5) λ v9 s10=>bnr (cl 68 [v9]
  s10) λ v11 s12=>extK v11 0 λ v13=>extK v11 1 λ v14=>nx (λ e15 s16=>ko e15 7 λ v17=>oni v17 λ n18=>nx (λ e19 s20=>jn (λ e26 s27
 =>ko e26 1 λ v28=>bnr (lenV v28 s27) λ v29 s30=>ko e26 2 λ v31=>onp v31 λ b32 o33=>ldK b32 (Nat.add o33 3) s30 λ v34=>oni v29 λ n35
 =>oni v34 λ n36=>nx (λ e37 s38=>jn (λ e43 s44=>ko e43 6 λ v45=>bnr (cl 80 [] s44) λ v46 s47=>bnr (oL (fill (.cons 0 1 (.c v46) .nil)
  [.np] .nil) okA s47) λ v48 s49=>bnr (oL (fill (.cons 0 1 (.c v45) (.cons 1 1 (.c v48) .nil)) [.np,.np,.ns,.i (.ofNat 0)] .nil) okA s49) λ v50 s51=>
  bnr (boxV v50 s51) λ v52 s53=>nx (λ e54 s55=>ko e54 1 λ v56=>bnr (lenV v56 s55) λ v57 s58=>nx (λ e59 s60=>bkK (bindX (lpR (λ cl e61
  s62=>ko e61 31 λ v63=>ko e61 30 λ v64=>oni v63 λ n65=>oni v64 λ n66=>nx (λ e67 s68=>jn (λ e71 s72=>bkK (ko e71 31 λ v73=>ko e71
  29 λ v74=>ko e71 31 λ v75=>onSlx v74 λ b76 o77 q78=>oni v75 λ n80=>onON (nat n80) λ i79=>ifX (Nat.blt i79 q78) (ldK b76 (Nat.add o77
  (Nat.mul i79 1)) s72 λ v81=>nx (λ e82 s83=>ko e82 10 λ v84=>bnr (lenV v84 s83) λ v85 s86=>oni v85 λ n87=>nx (λ e88 s89=>jn (λ e94
  s95=>ko e94 8 λ v96=>ko e94 8 λ v97=>onp v97 λ b98 o99=>ldK b98 (Nat.add o99 2) s95 λ v100=>ko e94 9 λ v101=>ko e94 2 λ v102=>onp
  v102 λ b103 o104=>ldK b103 (Nat.add o104 4) s95 λ v105=>ko e94 10 λ v106=>bnr (cl 69 [v101,v105,v106] s95) λ v107 s108=>ko e94 8 λ v109
 =>ifX (eqV v96 v109) (ko e94 8 λ v110=>ifX (eqV v97 v110) (onp v110 λ b111 o112=>ifX (eqV (.p b98 o99) (.p b111 o112)) (ifX (eqV (.p b98 (Nat.add o99
  2)) (.p b111 (Nat.add o112 2))) (ldK b111 (Nat.add o112 2) s108 λ v113=>ifX (eqV v100 v113) (bnr (oL (fill (.cons 0 1 (.c v107) .nil) (repL [.np] 1)
  .nil) (bsl1 1 (lenL [.np])) s108) λ v114 s115=>ko e94 8 λ v116=>ifX (eqV v109 v116) (ko e94 8 λ v117=>ifX (eqV v110 v117) (onp v117 λ b118 o119
 =>ifX (eqV (.p b111 o112) (.p b118 o119)) (ifX (eqV (.p b111 (Nat.add o112 2)) (.p b118 (Nat.add o119 2))) (ldK b118 (Nat.add o119 2) s115 λ v120=>ifX
  (eqV v113 v120) (bnr (ap0 1 8 (.ok v114) v120 s115) λ v121 s122=>ko e94 8 λ v123=>ifX (eqV v116 v123) (onp v123 λ b124 o125=>bnr (stV b124
  (Nat.add o125 2) v121 s122) λ v126 s127=>nx (idk) e94 s127)))))))))))) λ k90=>ko e88 38 λ v91=>cdK v91 (nx (λ e92 s93=>.ok .r e92 s93) (kst
  (kst e88 4 (.np)) 5 (.i (.ofNat 1))) s89) (k90 e88 s89)) (kst e82 38 (.b (cmI .gt n87 (.ofNat 1000)))) s86) (kst (kst e71 9 v73) 10 v81) s72)) 1 (λ e128
  s129=>ko e128 31 λ v130=>oni v130 λ n131=>frcI (wrapI (arI .add n131 (.ofNat 1))) λ n132=>nx (idk) (kst e128 31 (.i n132)) s129)) λ k69=>ko
  e67 32 λ v70=>cdK v70 (k69 e67 s68) (.ok (.x 0) e67 s68)) (kst e61 32 (.b (cmI .lt n65 n66))) s62) lpFuel cl e59 s60) (idk)) 0 (λ e133 s134=>ko e133 8
  λ v135=>nx (λ e136 s137=>.ok .r e136 s137) (kst (kst e133 4 v135) 5 (.i (.ofNat 0))) s134)) (kst (kst (kst e54 29 v56) 30 v57) 31 (.i (.ofNat 0)))
  s58) (kst e43 8 v52) s53) λ k39=>ko e37 23 λ v40=>cdK v40 (nx (λ e41 s42=>.ok .r e41 s42) (kst (kst e37 4 (.np)) 5 (.i (.ofNat 1))) s38) (k39
  e37 s38)) (kst e26 23 (.b (cmI .gt n35 n36))) s30) λ k21=>ko e19 17 λ v22=>cdK v22 (ko e19 7 λ v23=>nx (λ e24 s25=>.ok .r e24 s25) (kst (kst
  e19 4 (.np)) 5 v23) s20) (k21 e19 s20)) (kst e15 17 (.b (cmI .ne n18 (.ofNat 0)))) s16) (kst (kst e4 6 v13) 7 v14) s12) (kst (kst (kst env 2 v2) 4 (.np))
  5 (.i (.ofNat 0))) s3
theorem fe44 : rf44 = fastOf kf44 := by kernel_rfl
def rf45 : RFun := .mk 2 [.cn 4 9] λ cl env s=>bnr (eNew [.i (.ofNat 0),.i (.ofNat 0),.i (.ofNat 0),.i (.ofNat 0),.i (.ofNat 0),.i (.ofNat 0),.i (.ofNat 0),.i (.ofNat 0),.ns] .nil s cl) λ v1 s2=>
  nx (λ e3 s4=>ko e3 0 λ v5=>ko e3 1 λ v6=>bnr (oL (fill (.cons 0 1 (.c (.b true)) (.cons 1 1 (.c (.b true)) (.cons 2 1 (.c (.b false)) .nil)))
  (repL [.b false] 3) .nil) (bsl1 3 (lenL [.b false])) s4) λ v7 s8=>bnr (oL (fill (.cons 1 1 (.c v7) .nil) [.b false,.ns] .nil) okA s8) λ v9 s10=>
  bnr (oL (fill (.cons 0 1 (.c (.b true)) .nil) (repL [.b false] 1) .nil) (bsl1 1 (lenL [.b false])) s10) λ v11 s12=>bnr (oL (fill (.cons 0 1 (.c (.b
  true)) (.cons 1 1 (.c v11) .nil)) [.b false,.ns] .nil) okA s12) λ v13 s14=>bnr (oL (fill (.cons 0 1 (.c (.b false)) .nil) (repL [.b false] 1) .nil)
  (bsl1 1 (lenL [.b false])) s14) λ v15 s16=>bnr (oL (fill (.cons 0 1 (.c (.b true)) (.cons 1 1 (.c v15) .nil)) [.b false,.ns] .nil) okA s16) λ v17 s18
 =>bnr (oL (fill (.cons 0 2 (.c v9) (.cons 2 2 (.c v13) (.cons 4 2 (.c v17) .nil))) (repL [.b false,.ns] 3) .nil) (bsl1 3 (lenL [.b false,.ns])) s18) λ
  v19 s20=>bnr (oL (fill (.cons 0 1 (.c v5) (.cons 1 1 (.c (.i (.ofNat 40))) (.cons 2 1 (.c (.i (.ofNat 2))) (.cons 3 1 (.c (.i (.ofNat 2))) (.cons 4 1 (.c
  (.i (.ofNat 3))) (.cons 6 1 (.c (.i (.ofNat 3))) (.cons 7 1 (.c v6) (.cons 8 1 (.c v19) .nil)))))))) [.i (.ofNat 0),.i (.ofNat 0),.i (.ofNat 0),.i (.ofNat
  0),.i (.ofNat 0),.i (.ofNat 0),.i (.ofNat 0),.i (.ofNat 0),.ns] .nil) okA s20) λ v21 s22=>ko e3 4 λ v23=>onp v23 λ b24 o25=>onAx v21 λ l26
 =>bnr (stnA 9 b24 o25 l26 s22) λ v27 s28=>nx (λ e29 s30=>.ok .r e29 s30) e3 s28) (kst env 4 v1) s2
theorem fe45 : rf45 = fastOf kf45 := by kernel_rfl
def rf46 : RFun := .mk 2 [.cn 4 7] λ cl env s=>bnr (eNew [.i (.ofNat 0),.b false,.i (.ofNat 0),.i (.ofNat 0),.i (.ofNat 0),.b false,.z 0 0] .nil s cl) λ v1 s2=>nx (λ e3 s4=>ko e3 1 λ v5=>
  bnr (oL (fill (.cons 0 1 (.c v5) .nil) [.i (.ofNat 0),.b false,.i (.ofNat 0),.i (.ofNat 0),.i (.ofNat 0),.b false,.z 0 0] .nil) okA s4) λ v6 s7=>
  bnr (eNew [.i (.ofNat 0),.b false,.i (.ofNat 0),.i (.ofNat 0),.i (.ofNat 0),.b false,.z 0 0] .nil s7 cl) λ v8 s9=>onp v8 λ b10 o11=>onAx v6
  λ l12=>bnr (stnA 7 b10 o11 l12 s9) λ v13 s14=>nx (λ e15 s16=>ko e15 1 λ v17=>oni v17 λ n18=>gdK (.b (cmI .lt n18 (.ofNat 0))) false (λ
  k19=>ko e15 1 λ v22=>k19 v22 s16) s16 λ v20 s21=>gdK (.b (cmI .lt n18 (.ofNat 0))) false (λ k23=>ko e15 0 λ v26=>k23 v26 s21) s21 λ v24 s25
 =>gdK (.b (cmI .lt n18 (.ofNat 0))) false (λ k27=>onp v24 λ b30 o31=>k27 (.p b30 o31) s25) s25 λ v28 s29=>gdK (.b (cmI .lt n18 (.ofNat 0))) false
  (λ k32=>onp v28 λ b35 o36=>k32 (.p b35 (Nat.add o36 2)) s29) s29 λ v33 s34=>gdK (.b (cmI .lt n18 (.ofNat 0))) false (λ k37=>onp v33 λ b40
  o41=>ldK b40 o41 s34 λ v42=>k37 v42 s34) s34 λ v38 s39=>gdK (.b (cmI .lt n18 (.ofNat 0))) false (λ k43=>bnr (lenV v38 s39) λ v46 s47=>k43
  v46 s47) s39 λ v44 s45=>gdK (.b (cmI .lt n18 (.ofNat 0))) false (λ k48=>oni v20 λ n51=>oni v44 λ n52=>k48 (.b (cmI .gt n51 n52)) s45) s45 λ
  v49 s50=>pkK (.b (cmI .lt n18 (.ofNat 0))) (.ok (.b true)) (.ok v49) λ v53=>nx (λ e54 s55=>jn (λ e71 s72=>ko e71 0 λ v73=>onp v73 λ b74
  o75=>ldK b74 (Nat.add o75 3) s72 λ v76=>oni v76 λ n77=>frcI (wrapI (arI .add n77 (.ofNat 1))) λ n78=>onp v73 λ b79 o80=>bnr (stV b79
  (Nat.add o80 3) (.i n78) s72) λ v81 s82=>nx (λ e83 s84=>ko e83 1 λ v85=>oni v85 λ n86=>nx (λ e87 s88=>jn (λ e116 s117=>ko e116 0 λ
  v118=>onp v118 λ b119 o120=>ldK b119 (Nat.add o120 2) s117 λ v121=>ko e116 1 λ v122=>oni v122 λ n123=>frcI (wrapI (arI .sub n123 (.ofNat
  1))) λ n124=>onSlx v121 λ b125 o126 q127=>onON (nat n124) λ i128=>ifX (Nat.blt i128 q127) (ldK b125 (Nat.add o126 (Nat.mul i128 1)) s117 λ v129
 =>ko e116 0 λ v130=>onp v130 λ b131 o132=>ldK b131 (Nat.add o132 0) s117 λ v133=>bnr (cl 17 [v129,v133] s117) λ v134 s135=>extK v134 0 λ
  v136=>extK v134 1 λ v137=>ko e116 5 λ v138=>onp v138 λ b139 o140=>onAx v136 λ l141=>bnr (stnA 5 b139 (Nat.add o140 2) l141 s135) λ v142
  s143=>extK v134 1 λ v144=>ifX (eqV v137 v144) (ko e116 5 λ v145=>onp v145 λ b146 o147=>bnr (stV b146 (Nat.add o147 1) v144 s143) λ v148 s149
 =>nx (λ e150 s151=>ko e150 5 λ v152=>onp v152 λ b153 o154=>bnr (ldnP 7 b153 o154 s151) λ v155 s156=>ko e150 4 λ v157=>onp v157 λ
  b158 o159=>onAx v155 λ l160=>bnr (stnA 7 b158 o159 l160 s156) λ v161 s162=>nx (λ e163 s164=>.ok .r e163 s164) e150 s162) e116 s149))) λ k89
 =>ko e87 28 λ v90=>cdK v90 (ko e87 0 λ v91=>onp v91 λ b92 o93=>ldK b92 (Nat.add (Nat.add o93 1) 0) s88 λ v94=>ko e87 0 λ v95=>onp v95
  λ b96 o97=>ldK b96 (Nat.add o97 0) s88 λ v98=>bnr (cl 36 [v94,v98] s88) λ v99 s100=>nx (λ e101 s102=>ko e101 5 λ v103=>onp v103 λ
  b104 o105=>bnr (ldnP 7 b104 o105 s102) λ v106 s107=>ko e101 4 λ v108=>onp v108 λ b109 o110=>onAx v106 λ l111=>bnr (stnA 7 b109 o110 l111
  s107) λ v112 s113=>nx (λ e114 s115=>.ok .r e114 s115) e101 s113) e87 s100) (k89 e87 s88)) (kst e83 28 (.b (cmI .eq n86 (.ofNat 0)))) s84) e71 s82) λ
  k56=>ko e54 18 λ v57=>cdK v57 (ko e54 5 λ v58=>onp v58 λ b59 o60=>bnr (ldnP 7 b59 o60 s55) λ v61 s62=>ko e54 4 λ v63=>onp v63 λ b64
  o65=>onAx v61 λ l66=>bnr (stnA 7 b64 o65 l66 s62) λ v67 s68=>nx (λ e69 s70=>.ok .r e69 s70) e54 s68) (k56 e54 s55)) (kst e15 18 v53) s50)
  (kst e3 5 v8) s14) (kst env 4 v1) s2
theorem fe46 : rf46 = fastOf kf46 := by kernel_rfl
def rf47 : RFun := .mk 1 [.t 2,.t 3] λ cl env s=>ko env 0 λ v1=>bnr (boxV v1 s) λ v2 s3=>nx (λ e4 s5=>ko e4 1 λ v6=>onp v6 λ b7 o8=>ldK b7 (Nat.add o8 0) s5 λ v9=>bnr (cl 81 [v9]
  s5) λ v10 s11=>ko e4 1 λ v12=>onp v12 λ b13 o14=>ldK b13 (Nat.add o14 0) s5 λ v15=>bnr (cl 35 [v15] s5) λ v16 s17=>nx (λ e18 s19=>
  .ok .r e18 s19) (kst (kst e4 2 v10) 3 v16) s5) (kst (kst (kst env 1 v2) 2 (.i (.ofNat 0))) 3 (.i (.ofNat 0))) s3
theorem fe47 : rf47 = fastOf kf47 := by kernel_rfl
def rf48 : RFun := .mk 1 [.t 2,.t 3,.t 4] λ cl env s=>nx (λ e1 s2=>ko e1 0 λ v3=>onp v3 λ b4 o5=>ldK b4 (Nat.add o5 0) s2 λ v6=>onp v6 λ b7 o8=>ldK b7 (Nat.add o8 10) s2 λ v9=>onp v9 λ
  b10 o11=>bnr (ldnP 1 b10 (Nat.add o11 0) s2) λ v12 s13=>bnr (cl 20 [v12] s13) λ v14 s15=>bnr (cl 21 [v14] s15) λ v16 s17=>extK v16 0 λ
  v18=>extK v16 1 λ v19=>extK v16 2 λ v20=>nx (λ e21 s22=>.ok .r e21 s22) (kst (kst (kst e1 2 v18) 3 v19) 4 v20) s17) (kst (kst (kst env 2
  (.i (.ofNat 0))) 3 (.i (.ofNat 0))) 4 (.i (.ofNat 0))) s
theorem fe48 : rf48 = fastOf kf48 := by kernel_rfl
def rf52 : RFun := .mk 2 [.t 4,.t 5,.t 6] λ cl env s=>nx (λ e1 s2=>ko e1 1 λ v3=>oni v3 λ n4=>gdK (.b (cmI .lt n4 (.ofNat 0))) false (λ k5=>ko e1 1 λ v8=>k5 v8 s2) s2 λ v6 s7=>gdK (.b (cmI
  .lt n4 (.ofNat 0))) false (λ k9=>ko e1 0 λ v12=>k9 v12 s7) s7 λ v10 s11=>gdK (.b (cmI .lt n4 (.ofNat 0))) false (λ k13=>onp v10 λ b16 o17=>
  k13 (.p b16 o17) s11) s11 λ v14 s15=>gdK (.b (cmI .lt n4 (.ofNat 0))) false (λ k18=>onp v14 λ b21 o22=>k18 (.p b21 (Nat.add o22 2)) s15) s15 λ
  v19 s20=>gdK (.b (cmI .lt n4 (.ofNat 0))) false (λ k23=>onp v19 λ b26 o27=>ldK b26 o27 s20 λ v28=>k23 v28 s20) s20 λ v24 s25=>gdK (.b (cmI
  .lt n4 (.ofNat 0))) false (λ k29=>bnr (lenV v24 s25) λ v32 s33=>k29 v32 s33) s25 λ v30 s31=>gdK (.b (cmI .lt n4 (.ofNat 0))) false (λ k34=>
  oni v6 λ n37=>oni v30 λ n38=>k34 (.b (cmI .ge n37 n38)) s31) s31 λ v35 s36=>pkK (.b (cmI .lt n4 (.ofNat 0))) (.ok (.b true)) (.ok v35) λ v39=>
  nx (λ e40 s41=>jn (λ e46 s47=>ko e46 0 λ v48=>onp v48 λ b49 o50=>ldK b49 (Nat.add o50 2) s47 λ v51=>ko e46 1 λ v52=>onSlx v51 λ b53
  o54 q55=>oni v52 λ n57=>onON (nat n57) λ i56=>ifX (Nat.blt i56 q55) (ldK b53 (Nat.add o54 (Nat.mul i56 1)) s47 λ v58=>nx (λ e59 s60=>ko e59
  7 λ v61=>bnr (cl 16 [v61] s60) λ v62 s63=>ko e59 7 λ v64=>bnr (cl 26 [v64] s63) λ v65 s66=>ko e59 7 λ v67=>bnr (cl 18 [v67] s66) λ
  v68 s69=>nx (λ e70 s71=>.ok .r e70 s71) (kst (kst (kst e59 4 v62) 5 v65) 6 v68) s69) (kst e46 7 v58) s47)) λ k42=>ko e40 18 λ v43=>cdK v43
  (nx (λ e44 s45=>.ok .r e44 s45) (kst (kst (kst e40 4 (.i (.negSucc 0))) 5 (.i (.negSucc 0))) 6 (.ns)) s41) (k42 e40 s41)) (kst e1 18 v39) s36) (kst
  (kst (kst env 4 (.i (.ofNat 0))) 5 (.i (.ofNat 0))) 6 (.ns)) s
theorem fe52 : rf52 = fastOf kf52 := by kernel_rfl
def rf68 : RFun := .mk 1 [.t 2,.t 3] λ cl env s=>ko env 0 λ v1=>bnr (boxV v1 s) λ v2 s3=>nx (λ e4 s5=>ko e4 1 λ v6=>onp v6 λ b7 o8=>bnr (ldnP 9 b7 o8 s5) λ v9 s10=>bnr (cl 115
  [v9] s10) λ v11 s12=>nx (λ e13 s14=>ko e13 4 λ v15=>oni v15 λ n16=>nx (λ e17 s18=>jn (λ e24 s25=>ko e24 1 λ v26=>onp v26 λ b27
  o28=>bnr (ldnP 9 b27 o28 s25) λ v29 s30=>bnr (cl 117 [v29] s30) λ v31 s32=>bnr (cl 116 [v31] s32) λ v33 s34=>extK v33 0 λ v35=>extK v33
  1 λ v36=>nx (λ e37 s38=>ko e37 6 λ v39=>oni v39 λ n40=>nx (λ e41 s42=>jn (λ e48 s49=>ko e48 1 λ v50=>onp v50 λ b51 o52=>ldK
  b51 (Nat.add o52 0) s49 λ v53=>ko e48 1 λ v54=>onp v54 λ b55 o56=>ldK b55 (Nat.add o56 6) s49 λ v57=>bnr (cl 118 [v53,v57] s49) λ v58 s59
 =>extK v58 0 λ v60=>extK v58 1 λ v61=>nx (λ e62 s63=>ko e62 6 λ v64=>oni v64 λ n65=>nx (λ e66 s67=>jn (λ e73 s74=>ko e73 1 λ
  v75=>onp v75 λ b76 o77=>bnr (ldnP 9 b76 o77 s74) λ v78 s79=>ko e73 7 λ v80=>onp v80 λ b81 o82=>bnr (ldnP 1 b81 (Nat.add o82 0) s74) λ
  v83 s84=>bnr (cl 20 [v83] s74) λ v85 s86=>ko e73 1 λ v87=>onp v87 λ b88 o89=>bnr (ldnP 9 b88 o89 s86) λ v90 s91=>ifX (eqV v78 v90)
  (bnr (cl 119 [v90,v85] s86) λ v92 s93=>extK v92 0 λ v94=>extK v92 1 λ v95=>nx (λ e96 s97=>ko e96 6 λ v98=>oni v98 λ n99=>nx (λ
  e100 s101=>jn (λ e107 s108=>ko e107 1 λ v109=>onp v109 λ b110 o111=>ldK b110 (Nat.add o111 3) s108 λ v112=>bnr (cl 120 [v112] s108) λ
  v113 s114=>extK v113 0 λ v115=>extK v113 1 λ v116=>nx (λ e117 s118=>ko e117 6 λ v119=>oni v119 λ n120=>nx (λ e121 s122=>jn (λ e128
  s129=>ko e128 1 λ v130=>onp v130 λ b131 o132=>ldK b131 (Nat.add o132 2) s129 λ v133=>nx (λ e134 s135=>bkK (bindX (lpR (λ cl e136 s137=>
  ko e136 62 λ v138=>ko e136 61 λ v139=>oni v138 λ n140=>oni v139 λ n141=>nx (λ e142 s143=>jn (λ e146 s147=>bkK (ko e146 62 λ v148=>
  nx (λ e149 s150=>ko e149 1 λ v151=>onp v151 λ b152 o153=>bnr (ldnP 9 b152 o153 s150) λ v154 s155=>ko e149 10 λ v156=>bnr (cl 121
  [v154,v156] s155) λ v157 s158=>extK v157 0 λ v159=>extK v157 1 λ v160=>nx (λ e161 s162=>ko e161 5 λ v163=>ko e161 11 λ v164=>bnr (cl
  123 [] s162) λ v165 s166=>bnr (cl 122 [v163,v164,v165] s166) λ v167 s168=>nx (idk) e161 s168) (kst e149 11 v159) s158) (kst e146 10 v148) s147) 1
  (λ e169 s170=>ko e169 62 λ v171=>oni v171 λ n172=>frcI (wrapI (arI .add n172 (.ofNat 1))) λ n173=>nx (idk) (kst e169 62 (.i n173)) s170)) λ
  k144=>ko e142 63 λ v145=>cdK v145 (k144 e142 s143) (.ok (.x 0) e142 s143)) (kst e136 63 (.b (cmI .lt n140 n141))) s137) lpFuel cl e134 s135) (idk)) 0
  (λ e174 s175=>ko e174 1 λ v176=>onp v176 λ b177 o178=>bnr (ldnP 9 b177 o178 s175) λ v179 s180=>bnr (cl 124 [v179] s180) λ v181 s182=>
  ko e174 5 λ v183=>ko e174 7 λ v184=>ko e174 8 λ v185=>ko e174 9 λ v186=>bnr (oL (fill (.cons 0 9 (.c v181) (.cons 9 1 (.c v183) (.cons 10 1
  (.c v184) (.cons 11 1 (.c v185) (.cons 12 1 (.c v186) .nil))))) [.i (.ofNat 0),.i (.ofNat 0),.i (.ofNat 0),.i (.ofNat 0),.i (.ofNat 0),.i (.ofNat 0),.i
  (.ofNat 0),.i (.ofNat 0),.ns,.np,.np,.np,.np] .nil) okA s182) λ v187 s188=>bnr (boxV v187 s188) λ v189 s190=>nx (λ e191 s192=>.ok .r e191
  s192) (kst (kst e174 2 v189) 3 (.i (.ofNat 0))) s190)) (kst (kst e128 61 v133) 62 (.i (.ofNat 0))) s129) λ k123=>ko e121 58 λ v124=>cdK v124 (ko
  e121 6 λ v125=>nx (λ e126 s127=>.ok .r e126 s127) (kst (kst e121 2 (.np)) 3 v125) s122) (k123 e121 s122)) (kst e117 58 (.b (cmI .ne n120 (.ofNat
  0)))) s118) (kst (kst e107 9 v115) 6 v116) s114) λ k102=>ko e100 49 λ v103=>cdK v103 (ko e100 6 λ v104=>nx (λ e105 s106=>.ok .r e105 s106)
  (kst (kst e100 2 (.np)) 3 v104) s101) (k102 e100 s101)) (kst e96 49 (.b (cmI .ne n99 (.ofNat 0)))) s97) (kst (kst e73 8 v94) 6 v95) s93)) λ k68=>ko
  e66 36 λ v69=>cdK v69 (ko e66 6 λ v70=>nx (λ e71 s72=>.ok .r e71 s72) (kst (kst e66 2 (.np)) 3 v70) s67) (k68 e66 s67)) (kst e62 36 (.b (cmI .ne
  n65 (.ofNat 0)))) s63) (kst (kst e48 7 v60) 6 v61) s59) λ k43=>ko e41 25 λ v44=>cdK v44 (ko e41 6 λ v45=>nx (λ e46 s47=>.ok .r e46 s47) (kst
  (kst e41 2 (.np)) 3 v45) s42) (k43 e41 s42)) (kst e37 25 (.b (cmI .ne n40 (.ofNat 0)))) s38) (kst (kst e24 5 v35) 6 v36) s34) λ k19=>ko e17 16 λ v20
 =>cdK v20 (ko e17 4 λ v21=>nx (λ e22 s23=>.ok .r e22 s23) (kst (kst e17 2 (.np)) 3 v21) s18) (k19 e17 s18)) (kst e13 16 (.b (cmI .ne n16 (.ofNat
  0)))) s14) (kst e4 4 v11) s12) (kst (kst (kst env 1 v2) 2 (.np)) 3 (.i (.ofNat 0))) s3
theorem fe68 : rf68 = fastOf kf68 := by kernel_rfl
def rf69 : RFun := .mk 3 [.t 6] λ cl env s=>nx (λ e1 s2=>noX (klk e1 12) (ko e1 0 λ v3=>ko e1 2 λ v4=>ko e1 1 λ v5=>bnr (eKp (.q (.max (.c v5) (.c (.i (.ofNat 0))))) .nil s2 cl) λ v6 s7
 =>bnr (cl 125 [v4] s2) λ v8 s9=>ko e1 0 λ v10=>ifX (eqV v3 v10) (ko e1 1 λ v11=>ifX (eqV v5 v11) (bnr (eKp (.q (.max (.c v11) (.c (.i (.ofNat
  0))))) .nil s9 cl) λ v12 s13=>ifX (eqV v6 v12) (bnr (eKp (.q (.mks [.b false,.z 0 0] 24 (.c v6) (.c v6))) .nil s9 cl) λ v14 s15=>ko e1 0 λ v16=>
  ifX (eqV v10 v16) (bnr (oL (fill (.cons 0 1 (.c v16) (.cons 1 1 (.c v8) (.cons 2 1 (.c v14) .nil))) [.i (.ofNat 0),.ns,.ns,.i (.ofNat 0),.i (.ofNat 0),
  .b false,.i (.ofNat 0),.i (.ofNat 0),.i (.ofNat 0),.ns,.i (.ofNat 0),.i (.ofNat 0),.np,.i (.ofNat 0),.b false,.z 0 0,.z 0 0,.ns,.ns] .nil) okA
  s15) λ v17 s18=>bnr (boxV v17 s15) λ v19 s20=>nx (λ e21 s22=>.ok .r e21 s22) (kst e1 6 v19) s20)))))) (kst env 6 (.np)) s
theorem fe69 : rf69 = fastOf kf69 := by kernel_rfl
def rf70 : RFun := .mk 1 [.t 2] λ cl env s=>nx (λ e1 s2=>ko e1 0 λ v3=>onp v3 λ b4 o5=>ldK b4 (Nat.add o5 9) s2 λ v6=>bnr (cl 126 [v6] s2) λ v7 s8=>ko e1 0 λ v9=>onp v9 λ b10
  o11=>ldK b10 (Nat.add o11 10) s2 λ v12=>bnr (cl 127 [v12] s2) λ v13 s14=>oni v7 λ n15=>oni v13 λ n16=>frcI (wrapI (arI .add n15 n16)) λ
  n17=>ko e1 0 λ v18=>onp v18 λ b19 o20=>ldK b19 (Nat.add o20 11) s2 λ v21=>bnr (cl 128 [v21] s2) λ v22 s23=>oni v22 λ n24=>frcI (wrapI
  (arI .add n17 n24)) λ n25=>ko e1 0 λ v26=>onp v26 λ b27 o28=>ldK b27 (Nat.add o28 12) s2 λ v29=>bnr (cl 129 [v29] s2) λ v30 s31=>oni
  v30 λ n32=>frcI (wrapI (arI .add n25 n32)) λ n33=>nx (λ e34 s35=>.ok .r e34 s35) (kst e1 2 (.i n33)) s2) (kst env 2 (.i (.ofNat 0))) s
theorem fe70 : rf70 = fastOf kf70 := by kernel_rfl
def rf71 : RFun := .mk 2 [.t 4,.t 5,.t 6] λ cl env s=>nx (λ e1 s2=>ko e1 0 λ v3=>onp v3 λ b4 o5=>ldK b4 (Nat.add o5 3) s2 λ v6=>oni v6 λ n7=>frcI (wrapI (arI .add n7 (.ofNat 1))) λ n8=>onp
  v3 λ b9 o10=>bnr (stV b9 (Nat.add o10 3) (.i n8) s2) λ v11 s12=>nx (λ e13 s14=>ko e13 1 λ v15=>oni v15 λ n16=>gdK (.b (cmI .lt n16
  (.ofNat 0))) false (λ k17=>ko e13 1 λ v20=>k17 v20 s14) s14 λ v18 s19=>gdK (.b (cmI .lt n16 (.ofNat 0))) false (λ k21=>ko e13 0 λ v24=>k21
  v24 s19) s19 λ v22 s23=>gdK (.b (cmI .lt n16 (.ofNat 0))) false (λ k25=>onp v22 λ b28 o29=>k25 (.p b28 o29) s23) s23 λ v26 s27=>gdK (.b (cmI
  .lt n16 (.ofNat 0))) false (λ k30=>onp v26 λ b33 o34=>k30 (.p b33 (Nat.add o34 2)) s27) s27 λ v31 s32=>gdK (.b (cmI .lt n16 (.ofNat 0))) false
  (λ k35=>onp v31 λ b38 o39=>ldK b38 o39 s32 λ v40=>k35 v40 s32) s32 λ v36 s37=>gdK (.b (cmI .lt n16 (.ofNat 0))) false (λ k41=>bnr (lenV
  v36 s37) λ v44 s45=>k41 v44 s45) s37 λ v42 s43=>gdK (.b (cmI .lt n16 (.ofNat 0))) false (λ k46=>oni v18 λ n49=>oni v42 λ n50=>k46 (.b
  (cmI .ge n49 n50)) s43) s43 λ v47 s48=>pkK (.b (cmI .lt n16 (.ofNat 0))) (.ok (.b true)) (.ok v47) λ v51=>gdK v51 false (λ k52=>ko e13 0 λ v55=>
  k52 v55 s48) s48 λ v53 s54=>gdK v51 false (λ k56=>onp v53 λ b59 o60=>k56 (.p b59 o60) s54) s54 λ v57 s58=>gdK v51 false (λ k61=>onp v57
  λ b64 o65=>k61 (.p b64 (Nat.add o65 2)) s58) s58 λ v62 s63=>gdK v51 false (λ k66=>onp v62 λ b69 o70=>ldK b69 o70 s63 λ v71=>k66 v71 s63)
  s63 λ v67 s68=>gdK v51 false (λ k72=>ko e13 1 λ v75=>k72 v75 s68) s68 λ v73 s74=>gdK v51 false (λ k76=>onSlx v67 λ b79 o80 q81=>oni
  v73 λ n83=>onON (nat n83) λ i82=>ifX (Nat.blt i82 q81) (k76 (.p b79 (Nat.add o80 (Nat.mul i82 1))) s74)) s74 λ v77 s78=>gdK v51 false (λ k84=>
  onp v77 λ b87 o88=>ldK b87 o88 s78 λ v89=>k84 v89 s78) s78 λ v85 s86=>gdK v51 false (λ k90=>oni v85 λ n93=>k90 (.b (cmI .ne n93 (.negSucc
  0))) s86) s86 λ v91 s92=>pkK v51 (.ok (.b true)) (.ok v91) λ v94=>nx (λ e95 s96=>jn (λ e101 s102=>ko e101 0 λ v103=>onp v103 λ b104 o105
 =>ldK b104 (Nat.add o105 2) s102 λ v106=>ko e101 1 λ v107=>ko e101 0 λ v108=>onp v108 λ b109 o110=>ldK b109 (Nat.add o110 0) s102 λ v111=>
  onSlx v106 λ b112 o113 q114=>oni v107 λ n116=>onON (nat n116) λ i115=>ifX (Nat.blt i115 q114) (bnr (stV b112 (Nat.add o113 (Nat.mul i115 1))
  v111 s102) λ v117 s118=>nx (λ e119 s120=>ko e119 0 λ v121=>onp v121 λ b122 o123=>ldK b122 (Nat.add o123 0) s120 λ v124=>ko e119 0 λ v125
 =>onp v125 λ b126 o127=>ldK b126 (Nat.add o127 1) s120 λ v128=>nx (λ e129 s130=>.ok .r e129 s130) (kst (kst (kst e119 4 v124) 5 v128) 6 (.b
  true)) s120) e101 s118)) λ k97=>ko e95 34 λ v98=>cdK v98 (nx (λ e99 s100=>.ok .r e99 s100) (kst (kst (kst e95 4 (.i (.ofNat 0))) 5 (.b false)) 6
  (.b false)) s96) (k97 e95 s96)) (kst e13 34 v94) s92) e1 s12) (kst (kst (kst env 4 (.i (.ofNat 0))) 5 (.b false)) 6 (.b false)) s
theorem fe71 : rf71 = fastOf kf71 := by kernel_rfl
def rf72 : RFun := .mk 2 [] λ cl env s=>ko env 0 λ v1=>onp v1 λ b2 o3=>ldK b2 (Nat.add o3 7) s λ v4=>nx (λ e5 s6=>bkK (ko e5 7 λ v7=>oni v7 λ n8=>nx (λ e9 s10=>jn (idk)
  λ k11=>ko e9 8 λ v12=>cdK v12 (bkK (ko e9 0 λ v13=>ko e9 1 λ v14=>bnr (cl 130 [v13,v14] s10) λ v15 s16=>onBx v15 λ c17=>nx (λ e18
  s19=>jn (idk) λ k20=>ko e18 17 λ v21=>cdK v21 (k20 e18 s19) (ko e18 0 λ v22=>onp v22 λ b23 o24=>ldK b23 (Nat.add o24 6) s19 λ v25=>ko
  e18 0 λ v26=>onp v26 λ b27 o28=>ldK b27 (Nat.add o28 1) s19 λ v29=>bnr (lenV v29 s19) λ v30 s31=>oni v25 λ n32=>oni v30 λ n33=>nx
  (λ e34 s35=>jn (k20) λ k36=>ko e34 22 λ v37=>cdK v37 (ko e34 0 λ v38=>onp v38 λ b39 o40=>bnr (stV b39 (Nat.add o40 7) (.i (.ofNat 3))
  s35) λ v41 s42=>nx (k36) e34 s42) (ko e34 0 λ v43=>ko e34 0 λ v44=>bnr (oL (fill .nil [.i (.ofNat 0),.i (.ofNat 0),.np,.i (.ofNat 0),.b
  false,.z 0 0,.z 0 0,.ns,.ns] .nil) okA s35) λ v45 s46=>onp v43 λ b47 o48=>bnr (stV b47 (Nat.add o48 3) (.i (.ofNat 2)) s46) λ v49 s50=>onp
  v44 λ b51 o52=>onAx v45 λ l53=>bnr (stnA 9 b51 (Nat.add o52 10) l53 s50) λ v54 s55=>nx (k36) e34 s55)) (kst e18 22 (.b (cmI .ge n32 n33))) s19))
  (kst e9 17 (.b (neg c17))) s16) 1 (k11)) (ko e9 7 λ v56=>oni v56 λ n57=>nx (λ e58 s59=>jn (λ e64 s65=>jn (k11) λ k66=>ko e64 36 λ v67
 =>cdK v67 (ko e64 0 λ v68=>ko e64 1 λ v69=>bnr (cl 131 [v68,v69] s65) λ v70 s71=>nx (λ e72 s73=>jn (k66) λ k74=>ko e72 41 λ v75=>
  cdK v75 (ko e72 0 λ v76=>onp v76 λ b77 o78=>bnr (stV b77 (Nat.add o78 7) (.i (.ofNat 0)) s73) λ v79 s80=>nx (k74) e72 s80) (k74 e72 s73)) (kst
  e64 41 v70) s71) (ko e64 7 λ v81=>oni v81 λ n82=>nx (λ e83 s84=>jn (k66) λ k85=>ko e83 45 λ v86=>cdK v86 (ko e83 1 λ v87=>onp v87 λ
  b88 o89=>ldK b88 (Nat.add o89 11) s84 λ v90=>ko e83 0 λ v91=>onp v91 λ b92 o93=>ldK b92 (Nat.add o93 0) s84 λ v94=>bnr (cl 132 [v90,v94]
  s84) λ v95 s96=>nx (λ e97 s98=>ko e97 0 λ v99=>onp v99 λ b100 o101=>bnr (stV b100 (Nat.add o101 7) (.i (.ofNat 4)) s98) λ v102 s103=>nx
  (k85) e97 s103) e83 s96) (ko e83 7 λ v104=>oni v104 λ n105=>nx (λ e106 s107=>jn (k85) λ k108=>ko e106 59 λ v109=>cdK v109 (ko e106 0 λ
  v110=>ko e106 1 λ v111=>bnr (cl 133 [v110,v111] s107) λ v112 s113=>nx (k108) e106 s113) (k108 e106 s107)) (kst e83 59 (.b (cmI .eq n105 (.ofNat
  4)))) s84)) (kst e64 45 (.b (cmI .eq n82 (.ofNat 3)))) s65)) λ k60=>ko e58 36 λ v61=>cdK v61 (k60 e58 s59) (ko e58 7 λ v62=>oni v62 λ n63=>nx
  (k60) (kst e58 36 (.b (cmI .eq n63 (.ofNat 2)))) s59)) (kst e9 36 (.b (cmI .eq n57 (.ofNat 1)))) s10)) (kst e5 8 (.b (cmI .eq n8 (.ofNat 0)))) s6) 0 (idk))
  (kst env 7 v4) s
theorem fe72 : rf72 = fastOf kf72 := by kernel_rfl
def rf73 : RFun := .mk 2 [.cn 4 5,.t 5] λ cl env s=>bnr (eNew [.i (.ofNat 0),.i (.ofNat 0),.i (.ofNat 0),.b false,.z 0 0] .nil s cl) λ v1 s2=>nx (λ e3 s4=>ko e3 0 λ v5=>onp v5 λ b6 o7=>ldK
  b6 (Nat.add o7 1) s4 λ v8=>ko e3 0 λ v9=>onp v9 λ b10 o11=>ldK b10 (Nat.add o11 6) s4 λ v12=>onSlx v8 λ b13 o14 q15=>oni v12 λ n17=>
  onON (nat n17) λ i16=>ifX (Nat.blt i16 q15) (bnr (ldnP 6 b13 (Nat.add o14 (Nat.mul i16 6)) s4) λ v18 s19=>bnr (eNew [.i (.ofNat 0),.i (.ofNat 0),
  .i (.ofNat 0),.i (.ofNat 0),.i (.ofNat 0),.z 0 0] .nil s4 cl) λ v20 s21=>ko e3 0 λ v22=>ifX (eqV v5 v22) (onp v22 λ b23 o24=>ifX (eqV (.p b6
  o7) (.p b23 o24)) (ifX (eqV (.p b6 (Nat.add o7 1)) (.p b23 (Nat.add o24 1))) (ldK b23 (Nat.add o24 1) s21 λ v25=>ifX (eqV v8 v25) (ko e3 0 λ v26=>ifX
  (eqV v9 v26) (onp v26 λ b27 o28=>ifX (eqV (.p b10 o11) (.p b27 o28)) (ifX (eqV (.p b10 (Nat.add o11 6)) (.p b27 (Nat.add o28 6))) (ldK b27 (Nat.add o28 6)
  s21 λ v29=>ifX (eqV v12 v29) (onSlx v25 λ b30 o31 q32=>oni v29 λ n34=>onON (nat n34) λ i33=>ifX (Nat.blt i33 q32) (ifX (eqV (.p b13 (Nat.add
  o14 (Nat.mul i16 6))) (.p b30 (Nat.add o31 (Nat.mul i33 6)))) (bnr (ldnP 6 b30 (Nat.add o31 (Nat.mul i33 6)) s21) λ v35 s36=>ifX (eqV v18 v35) (onp v20
  λ b37 o38=>onAx v35 λ l39=>bnr (stnA 6 b37 o38 l39 s21) λ v40 s41=>nx (λ e42 s43=>ko e42 0 λ v44=>onp v44 λ b45 o46=>ldK b45
  (Nat.add (Nat.add o46 10) 1) s43 λ v47=>nx (λ e48 s49=>bkK (ko e48 21 λ v50=>oni v50 λ n51=>nx (λ e52 s53=>jn (idk) λ k54=>ko e52 22
  λ v55=>cdK v55 (ko e52 0 λ v56=>ko e52 1 λ v57=>ko e52 6 λ v58=>onp v58 λ b59 o60=>bnr (ldnP 6 b59 o60 s53) λ v61 s62=>bnr (cl 134
  [v56,v57,v61] s62) λ v63 s64=>extK v63 0 λ v65=>extK v63 1 λ v66=>ko e52 4 λ v67=>onp v67 λ b68 o69=>onAx v65 λ l70=>bnr (stnA 5
  b68 o69 l70 s64) λ v71 s72=>nx (λ e73 s74=>.ok .r e73 s74) (kst e52 5 v66) s72) (ko e52 21 λ v75=>oni v75 λ n76=>nx (λ e77 s78=>jn (k54)
  λ k79=>ko e77 30 λ v80=>cdK v80 (ko e77 0 λ v81=>ko e77 1 λ v82=>ko e77 6 λ v83=>onp v83 λ b84 o85=>bnr (ldnP 6 b84 o85 s78) λ v86
  s87=>bnr (cl 135 [v81,v82,v86] s87) λ v88 s89=>extK v88 0 λ v90=>extK v88 1 λ v91=>ko e77 4 λ v92=>onp v92 λ b93 o94=>onAx v90 λ
  l95=>bnr (stnA 5 b93 o94 l95 s89) λ v96 s97=>nx (λ e98 s99=>.ok .r e98 s99) (kst e77 5 v91) s97) (ko e77 21 λ v100=>oni v100 λ n101=>nx
  (λ e102 s103=>jn (k79) λ k104=>ko e102 38 λ v105=>cdK v105 (ko e102 0 λ v106=>ko e102 1 λ v107=>ko e102 6 λ v108=>onp v108 λ b109
  o110=>bnr (ldnP 6 b109 o110 s103) λ v111 s112=>bnr (cl 136 [v106,v107,v111] s112) λ v113 s114=>extK v113 0 λ v115=>extK v113 1 λ v116=>
  ko e102 4 λ v117=>onp v117 λ b118 o119=>onAx v115 λ l120=>bnr (stnA 5 b118 o119 l120 s114) λ v121 s122=>nx (λ e123 s124=>.ok .r e123
  s124) (kst e102 5 v116) s122) (ko e102 21 λ v125=>oni v125 λ n126=>nx (λ e127 s128=>jn (k104) λ k129=>ko e127 46 λ v130=>cdK v130 (ko
  e127 0 λ v131=>ko e127 1 λ v132=>bnr (cl 137 [v131,v132] s128) λ v133 s134=>extK v133 0 λ v135=>extK v133 1 λ v136=>ko e127 4 λ v137
 =>onp v137 λ b138 o139=>onAx v135 λ l140=>bnr (stnA 5 b138 o139 l140 s134) λ v141 s142=>nx (λ e143 s144=>.ok .r e143 s144) (kst e127 5
  v136) s142) (ko e127 21 λ v145=>oni v145 λ n146=>nx (λ e147 s148=>jn (k129) λ k149=>ko e147 53 λ v150=>cdK v150 (ko e147 0 λ v151=>ko
  e147 1 λ v152=>ko e147 6 λ v153=>onp v153 λ b154 o155=>bnr (ldnP 6 b154 o155 s148) λ v156 s157=>bnr (cl 138 [v151,v152,v156] s157) λ
  v158 s159=>extK v158 0 λ v160=>extK v158 1 λ v161=>ko e147 4 λ v162=>onp v162 λ b163 o164=>onAx v160 λ l165=>bnr (stnA 5 b163 o164
  l165 s159) λ v166 s167=>nx (λ e168 s169=>.ok .r e168 s169) (kst e147 5 v161) s167) (ko e147 21 λ v170=>oni v170 λ n171=>nx (λ e172 s173=>
  jn (k149) λ k174=>ko e172 61 λ v175=>cdK v175 (ko e172 0 λ v176=>ko e172 1 λ v177=>ko e172 6 λ v178=>onp v178 λ b179 o180=>bnr (ldnP
  6 b179 o180 s173) λ v181 s182=>bnr (cl 139 [v176,v177,v181] s182) λ v183 s184=>extK v183 0 λ v185=>extK v183 1 λ v186=>ko e172 4 λ v187
 =>onp v187 λ b188 o189=>onAx v185 λ l190=>bnr (stnA 5 b188 o189 l190 s184) λ v191 s192=>nx (λ e193 s194=>.ok .r e193 s194) (kst e172 5
  v186) s192) (ko e172 21 λ v195=>oni v195 λ n196=>nx (λ e197 s198=>jn (k174) λ k199=>ko e197 69 λ v200=>cdK v200 (ko e197 0 λ v201=>ko
  e197 1 λ v202=>bnr (cl 133 [v201,v202] s198) λ v203 s204=>nx (λ e205 s206=>ko e205 0 λ v207=>bnr (oL (fill .nil [.b false,.z 0 0] .nil)
  okA s206) λ v208 s209=>bnr (cl 140 [v207,v208,(.i (.ofNat 0))] s209) λ v210 s211=>extK v210 0 λ v212=>extK v210 1 λ v213=>ko e205 4 λ
  v214=>onp v214 λ b215 o216=>onAx v212 λ l217=>bnr (stnA 5 b215 o216 l217 s211) λ v218 s219=>nx (λ e220 s221=>.ok .r e220 s221) (kst e205
  5 v213) s219) e197 s204) (k199 e197 s198)) (kst e172 69 (.b (cmI .eq n196 (.ofNat 10)))) s173)) (kst e147 61 (.b (cmI .eq n171 (.ofNat 9)))) s148)) (kst
  e127 53 (.b (cmI .eq n146 (.ofNat 8)))) s128)) (kst e102 46 (.b (cmI .eq n126 (.ofNat 7)))) s103)) (kst e77 38 (.b (cmI .eq n101 (.ofNat 2)))) s78)) (kst
  e52 30 (.b (cmI .eq n76 (.ofNat 1)))) s53)) (kst e48 22 (.b (cmI .eq n51 (.ofNat 0)))) s49) 0 (λ e222 s223=>ko e222 0 λ v224=>ko e222 1 λ v225=>
  bnr (cl 141 [v224,v225] s223) λ v226 s227=>extK v226 0 λ v228=>extK v226 1 λ v229=>ko e222 4 λ v230=>onp v230 λ b231 o232=>onAx v228
  λ l233=>bnr (stnA 5 b231 o232 l233 s227) λ v234 s235=>nx (λ e236 s237=>.ok .r e236 s237) (kst e222 5 v229) s235)) (kst e42 21 v47) s43) (kst
  e3 6 v20) s41))))))))))))) (kst (kst env 4 v1) 5 (.b false)) s2
theorem fe73 : rf73 = fastOf kf73 := by kernel_rfl
def rf74 : RFun := .mk 2 [.cn 4 5,.t 5] λ cl env s=>bnr (eNew [.i (.ofNat 0),.i (.ofNat 0),.i (.ofNat 0),.b false,.z 0 0] .nil s cl) λ v1 s2=>nx (λ e3 s4=>ko e3 0 λ v5=>onp v5 λ b6 o7=>ldK
  b6 (Nat.add o7 7) s4 λ v8=>nx (λ e9 s10=>bkK (ko e9 10 λ v11=>oni v11 λ n12=>nx (λ e13 s14=>jn (idk) λ k15=>ko e13 17 λ v16=>cdK
  v16 (noX (klk e13 6) (ko e13 1 λ v17=>onp v17 λ b18 o19=>ldK b18 (Nat.add o19 11) s14 λ v20=>ko e13 0 λ v21=>onp v21 λ b22 o23=>ldK b22
  (Nat.add o23 0) s14 λ v24=>bnr (cl 142 [v20,v24] s14) λ v25 s26=>bnr (eNew [.i (.ofNat 0),.ns,.i (.ofNat 0)] .nil s26 cl) λ v27 s28=>onp
  v27 λ b29 o30=>onAx v25 λ l31=>bnr (stnA 3 b29 o30 l31 s28) λ v32 s33=>nx (λ e34 s35=>ko e34 6 λ v36=>onp v36 λ b37 o38=>ldK b37
  (Nat.add o38 0) s35 λ v39=>nx (λ e40 s41=>bkK (ko e40 29 λ v42=>oni v42 λ n43=>nx (λ e44 s45=>jn (idk) λ k46=>ko e44 34 λ v47=>cdK
  v47 (ko e44 0 λ v48=>onp v48 λ b49 o50=>bnr (stV b49 (Nat.add o50 7) (.i (.ofNat 0)) s45) λ v51 s52=>nx (k46) e44 s52) (ko e44 29 λ v53=>
  oni v53 λ n54=>nx (λ e55 s56=>jn (k46) λ k57=>ko e55 39 λ v58=>cdK v58 (ko e55 0 λ v59=>ko e55 1 λ v60=>ko e55 0 λ v61=>onp v61
  λ b62 o63=>ldK b62 (Nat.add o63 1) s56 λ v64=>ko e55 0 λ v65=>onp v65 λ b66 o67=>ldK b66 (Nat.add o67 6) s56 λ v68=>onSlx v64 λ b69 o70
  q71=>oni v68 λ n73=>onON (nat n73) λ i72=>ifX (Nat.blt i72 q71) (bnr (ldnP 6 b69 (Nat.add o70 (Nat.mul i72 6)) s56) λ v74 s75=>ko e55 6 λ
  v76=>onp v76 λ b77 o78=>bnr (ldnP 3 b77 o78 s56) λ v79 s80=>bnr (cl 143 [v59,v60,v74,v79] s56) λ v81 s82=>onBx v81 λ c83=>nx (λ e84
  s85=>jn (k57) λ k86=>ko e84 55 λ v87=>cdK v87 (ko e84 0 λ v88=>bnr (cl 144 [v88,(.i (.ofNat 10))] s85) λ v89 s90=>extK v89 0 λ v91=>
  extK v89 1 λ v92=>ko e84 4 λ v93=>onp v93 λ b94 o95=>onAx v91 λ l96=>bnr (stnA 5 b94 o95 l96 s90) λ v97 s98=>nx (λ e99 s100=>.ok .r
  e99 s100) (kst e84 5 v92) s98) (k86 e84 s85)) (kst e55 55 (.b (neg c83))) s82)) (ko e55 29 λ v101=>oni v101 λ n102=>nx (λ e103 s104=>jn (k57)
  λ k105=>ko e103 60 λ v106=>cdK v106 (ko e103 0 λ v107=>bnr (cl 144 [v107,(.i (.ofNat 6))] s104) λ v108 s109=>extK v108 0 λ v110=>extK
  v108 1 λ v111=>ko e103 4 λ v112=>onp v112 λ b113 o114=>onAx v110 λ l115=>bnr (stnA 5 b113 o114 l115 s109) λ v116 s117=>nx (λ e118 s119
 =>.ok .r e118 s119) (kst e103 5 v111) s117) (ko e103 0 λ v120=>bnr (cl 144 [v120,(.i (.ofNat 10))] s104) λ v121 s122=>extK v121 0 λ v123=>extK
  v121 1 λ v124=>ko e103 4 λ v125=>onp v125 λ b126 o127=>onAx v123 λ l128=>bnr (stnA 5 b126 o127 l128 s122) λ v129 s130=>nx (λ e131 s132
 =>.ok .r e131 s132) (kst e103 5 v124) s130)) (kst e55 60 (.b (cmI .eq n102 (.ofNat 2)))) s56)) (kst e44 39 (.b (cmI .eq n54 (.ofNat 1)))) s45)) (kst e40
  34 (.b (cmI .eq n43 (.ofNat 0)))) s41) 1 (k15)) (kst e34 29 v39) s35) (kst e13 6 v27) s33)) (ko e13 10 λ v133=>oni v133 λ n134=>nx (λ e135 s136=>
  jn (k15) λ k137=>ko e135 66 λ v138=>cdK v138 (ko e135 0 λ v139=>ko e135 1 λ v140=>bnr (cl 130 [v139,v140] s136) λ v141 s142=>nx (λ
  e143 s144=>jn (k137) λ k145=>ko e143 70 λ v146=>cdK v146 (ko e143 0 λ v147=>onp v147 λ b148 o149=>bnr (stV b148 (Nat.add o149 7) (.i
  (.ofNat 5)) s144) λ v150 s151=>nx (k145) e143 s151) (k145 e143 s144)) (kst e135 70 v141) s142) (ko e135 0 λ v152=>ko e135 1 λ v153=>bnr (cl 131
  [v152,v153] s136) λ v154 s155=>nx (λ e156 s157=>jn (k137) λ k158=>ko e156 13 λ v159=>cdK v159 (ko e156 0 λ v160=>onp v160 λ b161 o162
 =>bnr (stV b161 (Nat.add o162 7) (.i (.ofNat 5)) s157) λ v163 s164=>nx (k158) e156 s164) (k158 e156 s157)) (kst e135 13 v154) s155)) (kst e13 66 (.b
  (cmI .eq n134 (.ofNat 0)))) s14)) (kst e9 17 (.b (cmI .eq n12 (.ofNat 5)))) s10) 0 (λ e165 s166=>bnr (oL (fill .nil [.i (.ofNat 0),.i (.ofNat 0),.i
  (.ofNat 0),.b false,.z 0 0] .nil) okA s166) λ v167 s168=>ko e165 4 λ v169=>onp v169 λ b170 o171=>onAx v167 λ l172=>bnr (stnA 5 b170 o171
  l172 s168) λ v173 s174=>nx (λ e175 s176=>.ok .r e175 s176) (kst e165 5 (.b false)) s174)) (kst e3 10 v8) s4) (kst (kst env 4 v1) 5 (.b false)) s2
theorem fe74 : rf74 = fastOf kf74 := by kernel_rfl
def rf75 : RFun := .mk 1 [.t 2] λ cl env s=>nx (λ e1 s2=>ko e1 0 λ v3=>bnr (nilsV true v3 s2) λ v4 s5=>nx (λ e6 s7=>jn (λ e12 s13=>bnr (oL (fill .nil (repL [.b false,.z 0 0] 0)
  .nil) (bsl1 0 (lenL [.b false,.z 0 0])) s13) λ v14 s15=>ko e12 0 λ v16=>bnr (ap0 2 24 (.ok v16) v14 s15) λ v17 s18=>nx (λ e19 s20=>.ok .r
  e19 s20) (kst e12 2 v17) s18) λ k8=>ko e6 4 λ v9=>cdK v9 (nx (λ e10 s11=>.ok .r e10 s11) (kst e6 2 (.ns)) s7) (k8 e6 s7)) (kst e1 4 v4) s5)
  (kst env 2 (.ns)) s
theorem fe75 : rf75 = fastOf kf75 := by kernel_rfl
def rf77 : RFun := .mk 1 [.t 2] λ cl env s=>nx (λ e1 s2=>ko e1 0 λ v3=>oni v3 λ n4=>gdK (.b (cmI .ge n4 (.ofNat 0))) true (λ k5=>ko e1 0 λ v8=>k5 v8 s2) s2 λ v6 s7=>gdK (.b (cmI
  .ge n4 (.ofNat 0))) true (λ k9=>oni v6 λ n12=>k9 (.b (cmI .le n12 (.ofNat 4))) s7) s7 λ v10 s11=>pkK (.b (cmI .ge n4 (.ofNat 0))) (.ok v10) (.ok
  (.b false)) λ v13=>nx (λ e14 s15=>.ok .r e14 s15) (kst e1 2 v13) s11) (kst env 2 (.b false)) s
theorem fe77 : rf77 = fastOf kf77 := by kernel_rfl
def rf78 : RFun := .mk 2 [.t 4] λ cl env s=>nx (λ e1 s2=>ko e1 0 λ v3=>ko e1 1 λ v4=>bnr (cl 79 [v3,v4] s2) λ v5 s6=>onBx v5 λ c7=>nx (λ e8 s9=>jn (λ e14 s15=>ko e14 0 λ
  v16=>onp v16 λ b17 o18=>ldK b17 (Nat.add o18 0) s15 λ v19=>ko e14 1 λ v20=>onSlx v19 λ b21 o22 q23=>oni v20 λ n25=>onON (nat n25) λ
  i24=>ifX (Nat.blt i24 q23) (ldK b21 (Nat.add (Nat.add o22 (Nat.mul i24 3)) 0) s15 λ v26=>nx (λ e27 s28=>.ok .r e27 s28) (kst e14 4 v26) s15)) λ
  k10=>ko e8 8 λ v11=>cdK v11 (nx (λ e12 s13=>.ok .r e12 s13) (kst e8 4 (.i (.ofNat 0))) s9) (k10 e8 s9)) (kst e1 8 (.b (neg c7))) s6) (kst env 4
  (.i (.ofNat 0))) s
theorem fe78 : rf78 = fastOf kf78 := by kernel_rfl
def rf79 : RFun := .mk 2 [.t 4] λ cl env s=>nx (λ e1 s2=>ko e1 1 λ v3=>oni v3 λ n4=>gdK (.b (cmI .ge n4 (.ofNat 0))) true (λ k5=>ko e1 1 λ v8=>k5 v8 s2) s2 λ v6 s7=>gdK (.b (cmI
  .ge n4 (.ofNat 0))) true (λ k9=>ko e1 0 λ v12=>k9 v12 s7) s7 λ v10 s11=>gdK (.b (cmI .ge n4 (.ofNat 0))) true (λ k13=>onp v10 λ b16 o17=>
  k13 (.p b16 o17) s11) s11 λ v14 s15=>gdK (.b (cmI .ge n4 (.ofNat 0))) true (λ k18=>onp v14 λ b21 o22=>k18 (.p b21 (Nat.add o22 0)) s15) s15 λ
  v19 s20=>gdK (.b (cmI .ge n4 (.ofNat 0))) true (λ k23=>onp v19 λ b26 o27=>ldK b26 o27 s20 λ v28=>k23 v28 s20) s20 λ v24 s25=>gdK (.b (cmI
  .ge n4 (.ofNat 0))) true (λ k29=>bnr (lenV v24 s25) λ v32 s33=>k29 v32 s33) s25 λ v30 s31=>gdK (.b (cmI .ge n4 (.ofNat 0))) true (λ k34=>oni
  v6 λ n37=>oni v30 λ n38=>k34 (.b (cmI .lt n37 n38)) s31) s31 λ v35 s36=>pkK (.b (cmI .ge n4 (.ofNat 0))) (.ok v35) (.ok (.b false)) λ v39=>nx
  (λ e40 s41=>.ok .r e40 s41) (kst e1 4 v39) s36) (kst env 4 (.b false)) s
theorem fe79 : rf79 = fastOf kf79 := by kernel_rfl
def rf80 : RFun := .mk 0 [.t 0] λ cl env s=>nx (λ e1 s2=>bnr (oL (fill .nil [.i (.ofNat 0),.i (.ofNat 0),.i (.ofNat 0),.i (.ofNat 0),.b false,.np,.np,.b false,.i (.ofNat 0),.i (.ofNat 0),.i
  (.ofNat 0),.i (.ofNat 0),.i (.ofNat 0),.i (.ofNat 0)] .nil) okA s2) λ v3 s4=>bnr (boxV v3 s4) λ v5 s6=>nx (λ e7 s8=>.ok .r e7 s8) (kst e1 0
  v5) s6) (kst env 0 (.np)) s
theorem fe80 : rf80 = fastOf kf80 := by kernel_rfl
def rf81 : RFun := .mk 1 [.t 2] λ cl env s=>nx (λ e1 s2=>ko e1 0 λ v3=>onp v3 λ b4 o5=>ldK b4 (Nat.add o5 8) s2 λ v6=>nx (λ e7 s8=>.ok .r e7 s8) (kst e1 2 v6) s2) (kst env 2 (.i
  (.ofNat 0))) s
theorem fe81 : rf81 = fastOf kf81 := by kernel_rfl
def rf83 : RFun := .mk 1 [.t 2] λ cl env s=>nx (λ e1 s2=>ko e1 0 λ v3=>onp v3 λ b4 o5=>ldK b4 (Nat.add o5 3) s2 λ v6=>oni v6 λ n7=>frcI (wrapI (arI .add n7 (.ofNat 1))) λ n8=>onp
  v3 λ b9 o10=>bnr (stV b9 (Nat.add o10 3) (.i n8) s2) λ v11 s12=>nx (λ e13 s14=>ko e13 0 λ v15=>onp v15 λ b16 o17=>bnr (ldnP 12 b16
  (Nat.add o17 4) s14) λ v18 s19=>bnr (cl 98 [v18] s14) λ v20 s21=>oni v20 λ n22=>gdK (.b (cmI .gt n22 (.ofNat 0))) false (λ k23=>ko e13 0 λ
  v26=>k23 v26 s21) s21 λ v24 s25=>gdK (.b (cmI .gt n22 (.ofNat 0))) false (λ k27=>onp v24 λ b30 o31=>k27 (.p b30 o31) s21) s21 λ v28 s29=>gdK
  (.b (cmI .gt n22 (.ofNat 0))) false (λ k32=>onp v28 λ b35 o36=>k32 (.p b35 (Nat.add o36 4)) s21) s21 λ v33 s34=>gdK (.b (cmI .gt n22 (.ofNat 0)))
  false (λ k37=>onp v33 λ b40 o41=>bnr (ldnP 12 b40 o41 s21) λ v42 s43=>k37 v42 s43) s21 λ v38 s39=>gdK (.b (cmI .gt n22 (.ofNat 0))) false
  (λ k44=>ko e13 0 λ v47=>k44 v47 s21) s21 λ v45 s46=>gdK (.b (cmI .gt n22 (.ofNat 0))) false (λ k48=>onp v45 λ b51 o52=>k48 (.p b51 o52)
  s21) s21 λ v49 s50=>gdK (.b (cmI .gt n22 (.ofNat 0))) false (λ k53=>onp v49 λ b56 o57=>k53 (.p b56 (Nat.add o57 4)) s21) s21 λ v54 s55=>gdK
  (.b (cmI .gt n22 (.ofNat 0))) false (λ k58=>onp v54 λ b61 o62=>k58 (.p b61 (Nat.add o62 0)) s21) s21 λ v59 s60=>gdK (.b (cmI .gt n22 (.ofNat 0)))
  false (λ k63=>onp v59 λ b66 o67=>k63 (.p b66 (Nat.add o67 7)) s21) s21 λ v64 s65=>gdK (.b (cmI .gt n22 (.ofNat 0))) false (λ k68=>onp v64 λ
  b71 o72=>ldK b71 o72 s21 λ v73=>k68 v73 s21) s21 λ v69 s70=>gdX (.b (cmI .gt n22 (.ofNat 0))) false (bnr (cl 42 [v38] s21) λ v74 s75=>gdK (.b
  (cmI .gt n22 (.ofNat 0))) false (λ k76=>ko e13 0 λ v79=>k76 v79 s75) s75 λ v77 s78=>ifX (eqV v45 v77) (gdK (.b (cmI .gt n22 (.ofNat 0))) false (λ
  k80=>onp v77 λ b83 o84=>k80 (.p b83 o84) s75) s75 λ v81 s82=>ifX (eqV v49 v81) (gdK (.b (cmI .gt n22 (.ofNat 0))) false (λ k85=>onp v81 λ b88
  o89=>k85 (.p b88 (Nat.add o89 4)) s75) s75 λ v86 s87=>ifX (eqV v54 v86) (gdK (.b (cmI .gt n22 (.ofNat 0))) false (λ k90=>onp v86 λ b93 o94=>k90
  (.p b93 (Nat.add o94 0)) s75) s75 λ v91 s92=>ifX (eqV v59 v91) (gdK (.b (cmI .gt n22 (.ofNat 0))) false (λ k95=>onp v91 λ b98 o99=>k95 (.p b98
  (Nat.add o99 7)) s75) s75 λ v96 s97=>ifX (eqV v64 v96) (gdK (.b (cmI .gt n22 (.ofNat 0))) false (λ k100=>onp v96 λ b103 o104=>ldK b103 o104 s75
  λ v105=>k100 v105 s75) s75 λ v101 s102=>ifX (eqV v69 v101) (gdK (.b (cmI .gt n22 (.ofNat 0))) false (λ k106=>oni v74 λ n109=>oni v101 λ
  n110=>k106 (.b (cmI .lt n109 n110)) s75) s75 λ v107 s108=>pkK (.b (cmI .gt n22 (.ofNat 0))) (.ok (.b true)) (.ok v107) λ v111=>gdK v111 false (λ
  k112=>ko e13 0 λ v115=>k112 v115 s75) s75 λ v113 s114=>gdK v111 false (λ k116=>onp v113 λ b119 o120=>k116 (.p b119 o120) s75) s75 λ v117
  s118=>gdK v111 false (λ k121=>onp v117 λ b124 o125=>k121 (.p b124 (Nat.add o125 2)) s75) s75 λ v122 s123=>gdK v111 false (λ k126=>onp v122
  λ b129 o130=>ldK b129 o130 s75 λ v131=>k126 v131 s75) s75 λ v127 s128=>pkK v111 (.ok (.b true)) (.ok v127) λ v132=>nx (λ e133 s134=>.ok .r
  e133 s134) (kst e13 2 v132) s75))))))) (oni v20 λ n135=>gdK (.b (cmI .gt n135 (.ofNat 0))) false (λ k136=>ko e13 0 λ v139=>k136 v139 s21) s21 λ
  v137 s138=>gdK (.b (cmI .gt n135 (.ofNat 0))) false (λ k140=>onp v137 λ b143 o144=>k140 (.p b143 o144) s21) s21 λ v141 s142=>gdK (.b (cmI .gt
  n135 (.ofNat 0))) false (λ k145=>onp v141 λ b148 o149=>k145 (.p b148 (Nat.add o149 4)) s21) s21 λ v146 s147=>gdK (.b (cmI .gt n135 (.ofNat 0)))
  false (λ k150=>onp v146 λ b153 o154=>bnr (ldnP 12 b153 o154 s21) λ v155 s156=>k150 v155 s156) s21 λ v151 s152=>gdK (.b (cmI .gt n135 (.ofNat
  0))) false (λ k157=>.no) s21 λ v158 s159=>gdK (.b (cmI .gt n135 (.ofNat 0))) false (λ k162=>ko e13 0 λ v165=>k162 v165 s21) s21 λ v163 s164
 =>gdK (.b (cmI .gt n135 (.ofNat 0))) false (λ k166=>onp v163 λ b169 o170=>k166 (.p b169 o170) s21) s21 λ v167 s168=>gdK (.b (cmI .gt n135 (.ofNat
  0))) false (λ k171=>onp v167 λ b174 o175=>k171 (.p b174 (Nat.add o175 4)) s21) s21 λ v172 s173=>gdK (.b (cmI .gt n135 (.ofNat 0))) false (λ k176
 =>onp v172 λ b179 o180=>k176 (.p b179 (Nat.add o180 0)) s21) s21 λ v177 s178=>gdK (.b (cmI .gt n135 (.ofNat 0))) false (λ k181=>onp v177 λ
  b184 o185=>k181 (.p b184 (Nat.add o185 7)) s21) s21 λ v182 s183=>gdK (.b (cmI .gt n135 (.ofNat 0))) false (λ k186=>onp v182 λ b189 o190=>ldK
  b189 o190 s21 λ v191=>k186 v191 s21) s21 λ v187 s188=>gdK (.b (cmI .gt n135 (.ofNat 0))) false (λ k192=>oni v158 λ n195=>oni v187 λ n196=>
  k192 (.b (cmI .lt n195 n196)) s21) s21 λ v193 s194=>pkK (.b (cmI .gt n135 (.ofNat 0))) (.ok (.b true)) (.ok v193) λ v197=>gdK v197 false (λ k198=>
  ko e13 0 λ v201=>k198 v201 s21) s21 λ v199 s200=>gdK v197 false (λ k202=>onp v199 λ b205 o206=>k202 (.p b205 o206) s21) s21 λ v203 s204=>
  gdK v197 false (λ k207=>onp v203 λ b210 o211=>k207 (.p b210 (Nat.add o211 2)) s21) s21 λ v208 s209=>gdK v197 false (λ k212=>onp v208 λ b215
  o216=>ldK b215 o216 s21 λ v217=>k212 v217 s21) s21 λ v213 s214=>pkK v197 (.ok (.b true)) (.ok v213) λ v218=>nx (λ e219 s220=>.ok .r e219
  s220) (kst e13 2 v218) s21)) e1 s12) (kst env 2 (.b false)) s
theorem fe83 : rf83 = fastOf kf83 := by kernel_rfl
def rf84 : RFun := .mk 2 [] λ cl env s=>ko env 0 λ v1=>ko env 0 λ v2=>ko env 0 λ v3=>ko env 1 λ v4=>onp v1 λ b5 o6=>bnr (stV b5 (Nat.add o6 0) v4 s) λ v7 s8=>onp v2 λ b9
  o10=>bnr (stV b9 (Nat.add o10 1) (.i (.ofNat 0)) s8) λ v11 s12=>onp v3 λ b13 o14=>bnr (stV b13 (Nat.add o14 2) (.i (.ofNat 0)) s12) λ v15 s16
 =>nx (idk) env s16
theorem fe84 : rf84 = fastOf kf84 := by kernel_rfl
def rf85 : RFun := .mk 2 [] λ cl env s=>ko env 0 λ v1=>onp v1 λ b2 o3=>ldK b2 (Nat.add o3 1) s λ v4=>oni v4 λ n5=>nx (λ e6 s7=>jn (λ e25 s26=>ko e25 1 λ v27=>onp v27 λ
  b28 o29=>ldK b28 (Nat.add o29 12) s26 λ v30=>bnr (cl 25 [v30,(.i (.ofNat 1)),(.b true)] s26) λ v31 s32=>nx (λ e33 s34=>ko e33 0 λ v35=>
  onp v35 λ b36 o37=>ldK b36 (Nat.add o37 8) s34 λ v38=>oni v38 λ n39=>frcI (wrapI (arI .add n39 (.ofNat 1))) λ n40=>onp v35 λ b41 o42=>
  bnr (stV b41 (Nat.add o42 8) (.i n40) s34) λ v43 s44=>nx (λ e45 s46=>ko e45 0 λ v47=>ko e45 0 λ v48=>ko e45 0 λ v49=>onp v49 λ b50 o51
 =>ldK b50 (Nat.add o51 7) s46 λ v52=>onBx v52 λ c53=>onp v47 λ b54 o55=>bnr (stV b54 (Nat.add o55 7) (.b (neg c53)) s46) λ v56 s57=>onp
  v48 λ b58 o59=>bnr (stV b58 (Nat.add o59 12) (.i (.ofNat 0)) s57) λ v60 s61=>nx (λ e62 s63=>ko e62 0 λ v64=>bnr (cl 84 [v64,(.i (.ofNat
  2))] s63) λ v65 s66=>nx (idk) e62 s66) e45 s61) e33 s44) e25 s32) λ k8=>ko e6 8 λ v9=>cdK v9 (ko e6 1 λ v10=>onp v10 λ b11 o12=>ldK b11
  (Nat.add o12 11) s7 λ v13=>bnr (cl 146 [v13] s7) λ v14 s15=>nx (λ e16 s17=>ko e16 0 λ v18=>onp v18 λ b19 o20=>bnr (stV b19 (Nat.add
  o20 1) (.i (.ofNat 2)) s17) λ v21 s22=>nx (λ e23 s24=>.ok .r e23 s24) e16 s22) e6 s15) (k8 e6 s7)) (kst env 8 (.b (cmI .eq n5 (.ofNat 0)))) s
theorem fe85 : rf85 = fastOf kf85 := by kernel_rfl
def rf86 : RFun := .mk 4 [] λ cl env s=>ko env 0 λ v1=>onp v1 λ b2 o3=>ldK b2 (Nat.add o3 1) s λ v4=>oni v4 λ n5=>nx (λ e6 s7=>jn (λ e25 s26=>ko e25 1 λ v27=>onp v27 λ
  b28 o29=>ldK b28 (Nat.add o29 12) s26 λ v30=>ko e25 2 λ v31=>bnr (cl 25 [v30,v31,(.b false)] s26) λ v32 s33=>nx (λ e34 s35=>ko e34 0 λ
  v36=>ko e34 3 λ v37=>bnr (cl 84 [v36,v37] s35) λ v38 s39=>nx (idk) e34 s39) e25 s33) λ k8=>ko e6 12 λ v9=>cdK v9 (ko e6 0 λ v10=>ko e6
  1 λ v11=>bnr (cl 147 [v10,v11] s7) λ v12 s13=>nx (λ e14 s15=>jn (λ e23 s24=>.ok .r e23 s24) λ k16=>ko e14 15 λ v17=>cdK v17 (ko e14
  0 λ v18=>onp v18 λ b19 o20=>bnr (stV b19 (Nat.add o20 1) (.i (.ofNat 2)) s15) λ v21 s22=>nx (k16) e14 s22) (k16 e14 s15)) (kst e6 15 v12) s13)
  (k8 e6 s7)) (kst env 12 (.b (cmI .eq n5 (.ofNat 0)))) s
theorem fe86 : rf86 = fastOf kf86 := by kernel_rfl
def rf87 : RFun := .mk 2 [] λ cl env s=>bindX (scR (hC.hAt (.seq (.reg [4] [.s 4 (.mv (.c (.z 0 0)))]) (.seq (.reg [5] [.s 5 (.mv (kI 0))]) (.seq (.reg [6] [.s 6 (.mv (.c (.b false)))]) (.seq (.seq
  (.reg [11] [kM 7 0,kC 8 7,kO 9 8 1,kL 10 9,.s 11 (.cm .eq (.t 10) (kI 3))]) (.cond (.t 11) (.seq (.drw [] [.mk 0 1 true (kM 12 1),.mk 1 3 true (kC 13 12),
  .mk 2 7 true (kO 14 13 10),.mk 3 15 true (kL 15 14),.mk 4 16 true (kM 16 0),.mk 5 48 true (kC 17 16),.mk 6 112 true (kO 18 17 3),.mk 7 240 true (kL 19
  18),.mk 8 256 true (kM 20 0),.mk 9 768 true (kC 21 20),.mk 10 1792 true (kO 22 21 7),.mk 11 3840 true (kL 23 22),.mk 12 8191 false (.s 24 (.call 148 [(.t
  15),(.t 19),(.t 23)]))] [.mk 4096 8191 (.s 24 (.call 148 [(.t 15),(.t 19),(.t 23)]))]) (.goto 0)) .skip)) (.seq (.seq (.drw [41] [.mk 0 1 true (kM 25 0),
  .mk 1 3 true (kC 26 25),.mk 2 7 true (kO 27 26 2),.mk 3 15 true (kL 28 27),.mk 4 16 true (kM 29 1),.mk 5 48 true (kC 30 29),.mk 6 112 true (kO 31 30 0),
  .mk 7 240 true (kO 32 31 2),.mk 8 496 true (kL 33 32),.mk 9 1023 true (.s 34 (.cm .ge (.t 28) (.t 33))),.mk 10 2047 true (kM 35 34),.mk 11 4095 true (.gs
  35 false 36 (.mv (.t 0))),.mk 12 8191 true (.gs 35 false 37 (.ck (.t 36))),.mk 13 16383 true (.gs 35 false 38 (.off (.t 37) 1)),.mk 14 32767 true (.gs 35
  false 39 (.ld (.t 38))),.mk 15 65535 true (.gs 35 false 40 (.cm .eq (.t 39) (kI 1))),.mk 16 131071 true (.s 41 (.pick (.t 35) (.c (.b true)) (.t 40)))] [])
  (.cond (.t 41) (.goto 1) .skip)) (.seq (.drw [5] [.mk 0 1 true (kM 43 0),.mk 1 2 true (kM 44 1),.mk 2 6 true (kC 45 44),.mk 3 14 true (kO 46 45 0),.mk 4 30
  true (kW 47 46 9),.mk 5 32 true (kM 48 0),.mk 6 96 true (kC 49 48),.mk 7 224 true (kO 50 49 2),.mk 8 480 true (kL 51 50),.mk 9 1022 false (.s 52 (.call
  121 [(.t 47),(.t 51)])),.mk 10 2046 true (kM 42 52),.mk 11 4094 true (kE 53 42 0),.mk 12 6142 true (kE 54 42 1),.mk 13 12287 true (kC 55 43),.mk 14 28671
  true (kO 56 55 3),.mk 15 61439 false (.n (.st (.t 56) (.t 53))),.mk 16 131071 true (kM 5 54)] [.mk 33280 1022 (.s 52 (.call 121 [(.t 47),(.t 51)])),.mk
  32768 61439 (.n (.st (.t 56) (.t 53)))]) (.seq (.seq (.reg [58] [kM 57 5,.s 58 (.cm .eq (.t 57) (kI 0))]) (.cond (.t 58) (.drw [4,5] [.mk 0 1 true (kM 60 1),
  .mk 1 3 true (kC 61 60),.mk 2 7 true (kO 62 61 9),.mk 3 15 true (kL 63 62),.mk 4 16 true (kM 64 0),.mk 5 48 true (kC 65 64),.mk 6 112 true (kO 66 65 3),
  .mk 7 240 true (kL 67 66),.mk 8 511 false (.s 68 (.call 149 [(.t 63),(.t 67)])),.mk 9 1023 true (kM 59 68),.mk 10 2047 true (kE 69 59 0),.mk 11 3071 true
  (kE 70 59 1),.mk 12 6143 true (kM 4 69),.mk 13 16383 true (kM 5 70)] [.mk 256 511 (.s 68 (.call 149 [(.t 63),(.t 67)]))]) .skip)) (.seq (.seq (.reg [72] [kM
  71 5,.s 72 (.cm .ne (.t 71) (kI 0))]) (.cond (.t 72) (.seq (.reg [] [kM 73 0,kC 74 73,kO 75 74 13,.n (.st (.t 75) (kI 10))]) .ret) .skip)) (.seq (.seq
  (.reg [6] [kM 77 0,kM 78 4,.s 79 (.call 150 [(.t 78)]),kM 76 79,kE 80 76 0,kE 81 76 1,kC 82 77,kO 83 82 3,.n (.st (.t 83) (.t 80)),kM 6 81]) (.seq
  (.reg [84] [kM 84 6]) (.cond (.t 84) (.seq (.reg [] [kM 85 0,kC 86 85,kO 87 86 1,.n (.st (.t 87) (kI 3))]) .ret) .skip))) (.seq (.label 0) (.seq (.reg []
  [kM 88 0,kC 89 88,kO 90 89 1,.n (.st (.t 90) (kI 0))]) (.seq (.reg [] [kM 91 0,kC 92 91,kO 93 92 2,kL 94 93,.s 95 (.ar .add (.t 94) (kI 1)),kC 96 91,
  kO 97 96 2,.n (.st (.t 97) (.t 95))]) (.seq .ret (.seq (.label 1) (.seq (.seq (.reg [102] [kM 98 0,kC 99 98,kO 100 99 1,kL 101 100,.s 102 (.cm .eq (.t
  101) (kI 0))]) (.cond (.t 102) (.reg [] [kM 103 0,kM 104 0,kC 105 103,kO 106 105 1,.n (.st (.t 106) (kI 1)),kC 107 104,kO 108 107 2,.n (.st (.t 108) (kI
  0))]) .skip)) (.seq (.reg [111] [kM 109 0,kM 110 1,.s 111 (.call 147 [(.t 109),(.t 110)])]) (.cond (.t 111) (.reg [] [kM 112 0,.s 113 (.call 84 [(.t 112),
  (kI 5)])]) .skip)))))))))))))))))) lpFuel (λ cl e1 s2=>nx (λ e3 s4=>nx (λ e5 s6=>nx (λ e7 s8=>ko e7 0 λ v9=>onp v9 λ b10 o11=>ldK b10
  (Nat.add o11 1) s8 λ v12=>oni v12 λ n13=>nx (λ e14 s15=>jn (λ e34 s35=>ko e34 0 λ v36=>onp v36 λ b37 o38=>ldK b37 (Nat.add o38 2) s35
  λ v39=>ko e34 1 λ v40=>onp v40 λ b41 o42=>ldK b41 (Nat.add (Nat.add o42 0) 2) s35 λ v43=>oni v39 λ n44=>oni v43 λ n45=>gdK (.b (cmI
  .ge n44 n45)) false (λ k46=>ko e34 0 λ v49=>k46 v49 s35) s35 λ v47 s48=>gdK (.b (cmI .ge n44 n45)) false (λ k50=>onp v47 λ b53 o54=>k50
  (.p b53 o54) s35) s35 λ v51 s52=>gdK (.b (cmI .ge n44 n45)) false (λ k55=>onp v51 λ b58 o59=>k55 (.p b58 (Nat.add o59 1)) s35) s35 λ v56 s57=>
  gdK (.b (cmI .ge n44 n45)) false (λ k60=>onp v56 λ b63 o64=>ldK b63 o64 s35 λ v65=>k60 v65 s35) s35 λ v61 s62=>gdK (.b (cmI .ge n44 n45))
  false (λ k66=>oni v61 λ n69=>k66 (.b (cmI .eq n69 (.ofNat 1))) s35) s35 λ v67 s68=>pkK (.b (cmI .ge n44 n45)) (.ok (.b true)) (.ok v67) λ v70=>
  nx (λ e71 s72=>jn (λ e75 s76=>ko e75 0 λ v77=>ko e75 1 λ v78=>onp v78 λ b79 o80=>bnr (ldnP 9 b79 (Nat.add o80 0) s76) λ v81 s82=>ko
  e75 0 λ v83=>onp v83 λ b84 o85=>ldK b84 (Nat.add o85 2) s76 λ v86=>bnr (cl 121 [v81,v86] s76) λ v87 s88=>ko e75 0 λ v89=>ifX (eqV v77
  v89) (extK v87 0 λ v90=>extK v87 1 λ v91=>onp v89 λ b92 o93=>bnr (stV b92 (Nat.add o93 3) v90 s88) λ v94 s95=>extK v87 1 λ v96=>ifX (eqV
  v91 v96) (nx (λ e97 s98=>ko e97 5 λ v99=>oni v99 λ n100=>nx (λ e101 s102=>jn (λ e117 s118=>ko e117 5 λ v119=>oni v119 λ n120=>nx
  (λ e121 s122=>jn (λ e132 s133=>ko e132 0 λ v134=>ko e132 4 λ v135=>bnr (cl 150 [v135] s133) λ v136 s137=>extK v136 0 λ v138=>extK
  v136 1 λ v139=>onp v134 λ b140 o141=>bnr (stV b140 (Nat.add o141 3) v138 s137) λ v142 s143=>nx (λ e144 s145=>ko e144 6 λ v146=>nx (λ
  e147 s148=>jn (λ e158 s159=>(λ e160 s161=>ko e160 0 λ v162=>onp v162 λ b163 o164=>bnr (stV b163 (Nat.add o164 1) (.i (.ofNat 0)) s161) λ
  v165 s166=>nx (λ e167 s168=>ko e167 0 λ v169=>onp v169 λ b170 o171=>ldK b170 (Nat.add o171 2) s168 λ v172=>oni v172 λ n173=>frcI (wrapI
  (arI .add n173 (.ofNat 1))) λ n174=>onp v169 λ b175 o176=>bnr (stV b175 (Nat.add o176 2) (.i n174) s168) λ v177 s178=>nx (λ e179 s180=>.ok
  .r e179 s180) e167 s178) e160 s166) e158 s159) λ k149=>ko e147 84 λ v150=>cdK v150 (ko e147 0 λ v151=>onp v151 λ b152 o153=>bnr (stV b152
  (Nat.add o153 1) (.i (.ofNat 3)) s148) λ v154 s155=>nx (λ e156 s157=>.ok .r e156 s157) e147 s155) (k149 e147 s148)) (kst e144 84 v146) s145) (kst
  e132 6 v139) s143) λ k123=>ko e121 72 λ v124=>cdK v124 (ko e121 0 λ v125=>onp v125 λ b126 o127=>bnr (stV b126 (Nat.add o127 13) (.i (.ofNat
  10)) s122) λ v128 s129=>nx (λ e130 s131=>.ok .r e130 s131) e121 s129) (k123 e121 s122)) (kst e117 72 (.b (cmI .ne n120 (.ofNat 0)))) s118) λ k103=>
  ko e101 58 λ v104=>cdK v104 (ko e101 1 λ v105=>onp v105 λ b106 o107=>ldK b106 (Nat.add o107 9) s102 λ v108=>ko e101 0 λ v109=>onp v109
  λ b110 o111=>ldK b110 (Nat.add o111 3) s102 λ v112=>bnr (cl 149 [v108,v112] s102) λ v113 s114=>extK v113 0 λ v115=>extK v113 1 λ v116=>
  nx (k103) (kst (kst e101 4 v115) 5 v116) s114) (k103 e101 s102)) (kst e97 58 (.b (cmI .eq n100 (.ofNat 0)))) s98) (kst e75 5 v96) s95))) λ k73=>ko e71
  41 λ v74=>cdK v74 (.ok (.g 1) e71 s72) (k73 e71 s72)) (kst e34 41 v70) s35) λ k16=>ko e14 11 λ v17=>cdK v17 (ko e14 1 λ v18=>onp v18 λ b19
  o20=>ldK b19 (Nat.add o20 10) s15 λ v21=>ko e14 0 λ v22=>onp v22 λ b23 o24=>ldK b23 (Nat.add o24 3) s15 λ v25=>ko e14 0 λ v26=>onp v26
  λ b27 o28=>ldK b27 (Nat.add o28 7) s15 λ v29=>bnr (cl 148 [v21,v25,v29] s15) λ v30 s31=>nx (λ e32 s33=>.ok (.g 0) e32 s33) e14 s31) (k16
  e14 s15)) (kst e7 11 (.b (cmI .eq n13 (.ofNat 3)))) s8) (kst e5 6 (.b false)) s6) (kst e3 5 (.i (.ofNat 0))) s4) (kst e1 4 (.z 0 0)) s2) cl env s) (idk)
theorem fe87 : rf87 = fastOf kf87 := by kernel_rfl
def rf88 : RFun := .mk 2 [] λ cl env s=>bindX (scR (hC.hAt (.seq (.reg [4] [.s 4 (.mv (.c (.b false)))]) (.seq (.seq (.reg [8] [kM 5 0,kC 6 5,kO 7 6 1,kL 8 7]) (.blk 0 (.seq (.reg [9] [.s 10 (.cm
  .eq (.t 8) (kI 4)),kM 9 10]) (.cond (.t 9) (.goto 0) (.seq (.reg [11] [.s 12 (.cm .eq (.t 8) (kI 5)),kM 11 12]) (.cond (.t 11) (.goto 1) (.seq (.reg [13] [.s
  14 (.cm .eq (.t 8) (kI 6)),kM 13 14]) (.cond (.t 13) (.goto 2) .skip)))))))) (.seq (.reg [4] [kM 16 0,kM 17 1,kC 18 17,kO 19 18 10,kL 20 19,.s 21 (.call
  151 [(.t 20)]),kM 15 21,kE 22 15 0,kE 23 15 1,kC 24 16,kO 25 24 3,.n (.st (.t 25) (.t 22)),kM 4 23]) (.seq (.reg [] [kM 26 0,kM 27 0,kC 28 26,kO 29
  28 1,.n (.st (.t 29) (kI 5)),kC 30 27,kO 31 30 4,.n (.st (.t 31) (.c (.b false)))]) (.seq (.seq (.reg [32] [kM 32 4]) (.cond (.t 32) (.drw [] [.mk 0 1 true
  (kM 33 0),.mk 1 2 true (kM 34 0),.mk 2 4 true (kM 35 1),.mk 3 12 true (kC 36 35),.mk 4 28 true (kO 37 36 0),.mk 5 60 true (kW 38 37 9),.mk 6 64 true (kM
  39 0),.mk 7 192 true (kC 40 39),.mk 8 448 true (kO 41 40 3),.mk 9 960 true (kL 42 41),.mk 10 1024 true (kM 43 0),.mk 11 3072 true (kC 44 43),.mk 12 7168
  true (kO 45 44 7),.mk 13 15360 true (kL 46 45),.mk 14 32764 false (.s 47 (.call 152 [(.t 38),(.t 42),(.t 46)])),.mk 15 65533 true (kC 48 33),.mk 16
  131069 true (kO 49 48 5),.mk 17 262141 false (.n (.st (.t 49) (.t 47))),.mk 18 524287 true (kC 50 34),.mk 19 1048575 true (kO 51 50 1),.mk 20 2097151 false
  (.n (.st (.t 51) (kI 4)))] [.mk 1196032 32764 (.s 47 (.call 152 [(.t 38),(.t 42),(.t 46)])),.mk 1179648 262141 (.n (.st (.t 49) (.t 47))),.mk 1048576
  2097151 (.n (.st (.t 51) (kI 4)))]) .skip)) (.seq .ret (.seq (.label 0) (.seq (.seq (.reg [55] [kM 52 0,kM 53 1,.s 54 (.call 153 [(.t 52),(.t 53)]),.s 55
  (.not (.t 54))]) (.cond (.t 55) .ret .skip)) (.seq (.reg [] [kM 56 0,kC 57 56,kO 58 57 1,.n (.st (.t 58) (kI 0))]) (.seq (.seq (.reg [62] [kM 59 0,kC 60
  59,kO 61 60 4,kL 62 61]) (.cond (.t 62) (.reg [] [kM 63 0,kM 64 1,.s 65 (.call 154 [(.t 63),(.t 64)])]) .skip)) (.seq .ret (.seq (.label 1) (.seq (.seq
  (.reg [71] [kM 66 1,kC 67 66,kO 68 67 10,kL 69 68,.s 70 (.call 155 [(.t 69)]),.s 71 (.not (.t 70))]) (.cond (.t 71) (.seq (.reg [] [kM 72 0,.s 73 (.call
  84 [(.t 72),(kI 6)])]) .ret) .skip)) (.seq (.reg [] [kM 74 0,kM 75 0,kC 76 74,kO 77 76 1,.n (.st (.t 77) (kI 6)),kC 78 75,kO 79 78 2,.n (.st (.t 79)
  (kI 0))]) (.seq .ret (.seq (.label 2) (.seq (.seq (.drw [92] [.mk 0 1 true (kM 80 1),.mk 1 3 true (kC 81 80),.mk 2 7 true (kO 82 81 10),.mk 3 15 true (kL 83
  82),.mk 4 16 true (kM 84 0),.mk 5 48 true (kC 85 84),.mk 6 112 true (kO 86 85 2),.mk 7 240 true (kL 87 86),.mk 8 256 true (kM 88 0),.mk 9 768 true (kC 89
  88),.mk 10 1792 true (kO 90 89 7),.mk 11 3840 true (kL 91 90),.mk 12 8191 false (.s 92 (.call 156 [(.t 83),(.t 87),(.t 91)]))] [.mk 4096 8191 (.s 92
  (.call 156 [(.t 83),(.t 87),(.t 91)]))]) (.cond (.t 92) (.seq (.drw [] [.mk 0 1 true (kM 93 0),.mk 1 2 true (kM 94 0),.mk 2 4 true (kM 95 0),.mk 3 8 true
  (kM 96 1),.mk 4 24 true (kC 97 96),.mk 5 56 true (kO 98 97 0),.mk 6 120 true (kW 99 98 9),.mk 7 128 true (kM 100 0),.mk 8 384 true (kC 101 100),.mk 9 896
  true (kO 102 101 2),.mk 10 1920 true (kL 103 102),.mk 11 2048 true (kM 104 0),.mk 12 6144 true (kC 105 104),.mk 13 14336 true (kO 106 105 7),.mk 14 30720
  true (kL 107 106),.mk 15 65528 false (.s 108 (.call 152 [(.t 99),(.t 103),(.t 107)])),.mk 16 131065 true (kC 109 93),.mk 17 262137 true (kO 110 109 5),
  .mk 18 524281 false (.n (.st (.t 110) (.t 108))),.mk 19 1048571 true (kC 111 94),.mk 20 2097147 true (kO 112 111 1),.mk 21 4194299 false (.n (.st (.t 112)
  (kI 4))),.mk 22 8388607 true (kC 113 95),.mk 23 16777215 true (kO 114 113 4),.mk 24 33554431 false (.n (.st (.t 114) (.c (.b true))))] [.mk 19169280 65528
  (.s 108 (.call 152 [(.t 99),(.t 103),(.t 107)])),.mk 19136512 524281 (.n (.st (.t 110) (.t 108))),.mk 18874368 4194299 (.n (.st (.t 112) (kI 4))),.mk
  16777216 33554431 (.n (.st (.t 114) (.c (.b true))))]) .ret) .skip)) (.reg [] [kM 115 0,kM 116 1,.s 117 (.call 154 [(.t 115),(.t 116)])])))))))))))))))))))
  lpFuel (λ cl e1 s2=>nx (λ e3 s4=>ko e3 0 λ v5=>onp v5 λ b6 o7=>ldK b6 (Nat.add o7 1) s4 λ v8=>nx (λ e9 s10=>bkK (ko e9 8 λ v11=>
  oni v11 λ n12=>nx (λ e13 s14=>jn (idk) λ k15=>ko e13 9 λ v16=>cdK v16 (.ok (.g 0) e13 s14) (ko e13 8 λ v17=>oni v17 λ n18=>nx (λ
  e19 s20=>jn (k15) λ k21=>ko e19 11 λ v22=>cdK v22 (.ok (.g 1) e19 s20) (ko e19 8 λ v23=>oni v23 λ n24=>nx (λ e25 s26=>jn (k21) λ k27
 =>ko e25 13 λ v28=>cdK v28 (.ok (.g 2) e25 s26) (k27 e25 s26)) (kst e19 13 (.b (cmI .eq n24 (.ofNat 6)))) s20)) (kst e13 11 (.b (cmI .eq n18 (.ofNat
  5)))) s14)) (kst e9 9 (.b (cmI .eq n12 (.ofNat 4)))) s10) 0 (λ e29 s30=>ko e29 0 λ v31=>ko e29 1 λ v32=>onp v32 λ b33 o34=>ldK b33 (Nat.add
  o34 10) s30 λ v35=>bnr (cl 151 [v35] s30) λ v36 s37=>extK v36 0 λ v38=>extK v36 1 λ v39=>onp v31 λ b40 o41=>bnr (stV b40 (Nat.add o41
  3) v38 s37) λ v42 s43=>nx (λ e44 s45=>ko e44 0 λ v46=>ko e44 0 λ v47=>onp v46 λ b48 o49=>bnr (stV b48 (Nat.add o49 1) (.i (.ofNat 5))
  s45) λ v50 s51=>onp v47 λ b52 o53=>bnr (stV b52 (Nat.add o53 4) (.b false) s51) λ v54 s55=>nx (λ e56 s57=>ko e56 4 λ v58=>nx (λ e59
  s60=>jn (λ e91 s92=>.ok .r e91 s92) λ k61=>ko e59 32 λ v62=>cdK v62 (ko e59 0 λ v63=>ko e59 0 λ v64=>ko e59 1 λ v65=>onp v65 λ b66
  o67=>bnr (ldnP 9 b66 (Nat.add o67 0) s60) λ v68 s69=>ko e59 0 λ v70=>onp v70 λ b71 o72=>ldK b71 (Nat.add o72 3) s60 λ v73=>ko e59 0 λ
  v74=>onp v74 λ b75 o76=>ldK b75 (Nat.add o76 7) s60 λ v77=>bnr (cl 152 [v68,v73,v77] s60) λ v78 s79=>ko e59 0 λ v80=>ifX (eqV v63 v80)
  (ko e59 0 λ v81=>ifX (eqV v64 v81) (onp v80 λ b82 o83=>bnr (stV b82 (Nat.add o83 5) v78 s79) λ v84 s85=>ko e59 0 λ v86=>ifX (eqV v81 v86)
  (onp v86 λ b87 o88=>bnr (stV b87 (Nat.add o88 1) (.i (.ofNat 4)) s85) λ v89 s90=>nx (k61) e59 s90)))) (k61 e59 s60)) (kst e56 32 v58) s57) e44 s55)
  (kst e29 4 v39) s43)) (kst e3 8 v8) s4) (kst e1 4 (.b false)) s2) cl env s) (idk)
theorem fe88 : rf88 = fastOf kf88 := by kernel_rfl
def rf89 : RFun := .mk 2 [] λ cl env s=>ko env 0 λ v1=>onp v1 λ b2 o3=>ldK b2 (Nat.add o3 1) s λ v4=>nx (λ e5 s6=>bkK (ko e5 7 λ v7=>oni v7 λ n8=>nx (λ e9 s10=>jn (idk)
  λ k11=>ko e9 16 λ v12=>cdK v12 (ko e9 1 λ v13=>onp v13 λ b14 o15=>ldK b14 (Nat.add o15 11) s10 λ v16=>bnr (cl 157 [v16] s10) λ v17 s18
 =>nx (λ e19 s20=>ko e19 0 λ v21=>onp v21 λ b22 o23=>bnr (stV b22 (Nat.add o23 1) (.i (.ofNat 2)) s20) λ v24 s25=>nx (k11) e19 s25) e9 s18)
  (ko e9 7 λ v26=>oni v26 λ n27=>nx (λ e28 s29=>jn (k11) λ k30=>ko e28 26 λ v31=>cdK v31 (ko e28 1 λ v32=>onp v32 λ b33 o34=>ldK
  b33 (Nat.add o34 12) s29 λ v35=>bnr (cl 25 [v35,(.i (.ofNat 4)),(.b false)] s29) λ v36 s37=>nx (λ e38 s39=>ko e38 0 λ v40=>onp v40 λ b41
  o42=>bnr (stV b41 (Nat.add o42 1) (.i (.ofNat 1)) s39) λ v43 s44=>nx (k30) e38 s44) e28 s37) (ko e28 0 λ v45=>ko e28 1 λ v46=>bnr (cl 147
  [v45,v46] s29) λ v47 s48=>nx (λ e49 s50=>jn (k30) λ k51=>ko e49 10 λ v52=>cdK v52 (ko e49 0 λ v53=>bnr (cl 84 [v53,(.i (.ofNat 7))]
  s50) λ v54 s55=>nx (λ e56 s57=>ko e56 0 λ v58=>onp v58 λ b59 o60=>bnr (stV b59 (Nat.add o60 6) (.np) s57) λ v61 s62=>nx (k51) e56 s62)
  e49 s55) (k51 e49 s50)) (kst e28 10 v47) s48)) (kst e9 26 (.b (cmI .eq n27 (.ofNat 2)))) s10)) (kst e5 16 (.b (cmI .eq n8 (.ofNat 0)))) s6) 0 (idk)) (kst
  env 7 v4) s
theorem fe89 : rf89 = fastOf kf89 := by kernel_rfl
end Go.Kx
