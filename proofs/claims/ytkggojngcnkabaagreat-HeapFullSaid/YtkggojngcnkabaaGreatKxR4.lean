/-
  Functions in the fast form; that they are the others. Printed by a program of ours.
-/
import Derived.Test.YtkggojngcnkabaaGreatKxH
import Derived.Test.YtkggojngcnkabaaGreatB10
set_option linter.unusedVariables false
set_option linter.unusedSimpArgs false
set_option maxRecDepth 1000000
noncomputable section
namespace Go.Kx
def rf232 : RFun := .mk 5 [.t 10,.t 11] λ cl env s=>ko env 0 λ v1=>bnr (boxV v1 s) λ v2 s3=>nx (λ e4 s5=>bindX (scR (hC.hAt (.seq (.reg [12] [.s 12 (.mv (.c (.ns)))]) (.seq (.reg [13] [.s 13 (.new
  [.z 0 0,.z 0 0,.z 0 0,.z 0 0,.z 0 0,.z 0 0,.z 0 0,.z 0 0])]) (.seq (.reg [14,15] [.s 14 (.mv (kI 0)),.s 15 (.mv (kI 1))]) (.seq (.reg [16,17] [kW 22
  5 9,kM 23 1,kM 24 2,kM 25 3,.s 26 (.call 314 [(.t 22),(.t 23),(.t 24),(.c (.b true)),(.t 25)]),kM 21 26,kE 27 21 0,kE 28 21 1,.s 16 (.new [.b
  false,.ns]),.n (.stn (.t 16) (.t 27) 2),kM 17 28]) (.seq (.seq (.reg [30] [kM 29 17,.s 30 (.cm .ne (.t 29) (kI 0))]) (.cond (.t 30) (.goto 0) .skip)) (.seq
  (.reg [14] [kM 31 2,.s 32 (.call 320 [(.t 31)]),kM 33 3,.s 34 (.call 319 [(.t 32),(.t 33)]),kM 14 34]) (.seq (.seq (.drw [45] [.mk 0 1 true (kM 35 14),
  .mk 1 3 true (.s 36 (.cm .eq (.t 35) (kI 1))),.mk 2 7 true (kM 37 36),.mk 3 15 true (.gs 37 true 38 (.ldn (.t 5) 9)),.mk 4 23 true (.gs 37 true 39 (.mv (.t
  4))),.mk 5 39 true (.gs 37 true 40 (.ldn (.t 16) 2)),.mk 6 71 true (.gs 37 true 41 (.mv (.t 2))),.mk 7 231 false (.gs 37 true 42 (.call 294 [(.t 40),(.t
  41)])),.mk 8 511 false (.gs 37 true 43 (.call 321 [(.t 38),(.t 39),(.t 42)])),.mk 9 1023 true (.gs 37 true 44 (.not (.t 43))),.mk 10 2047 true (.s 45
  (.pick (.t 37) (.t 44) (.c (.b false))))] [.mk 384 231 (.gs 37 true 42 (.call 294 [(.t 40),(.t 41)])),.mk 256 511 (.gs 37 true 43 (.call 321 [(.t 38),(.t
  39),(.t 42)]))]) (.cond (.t 45) (.seq (.reg [17] [.s 17 (.mv (kI 2))]) (.goto 0)) .skip)) (.seq (.drw [12] [.mk 0 1 true (kW 46 5 9),.mk 1 2 true (kM 47 12),
  .mk 2 4 true (kM 48 3),.mk 3 12 true (.s 49 (.ixp (.t 48) (kI 0) 1)),.mk 4 28 true (kL 50 49),.mk 5 32 true (kM 51 1),.mk 6 64 true (kM 52 2),.mk 7 128
  true (kM 53 14),.mk 8 256 true (kM 54 3),.mk 9 512 true (kM 55 4),.mk 10 2016 false (.s 56 (.call 322 [(.t 51),(.t 52),(.t 53),(.t 54),(.t 55)])),.mk
  11 4095 false (.s 57 (.call 318 [(.t 46),(.t 47),(.t 50),(.t 56)])),.mk 12 8191 true (kM 12 57)] [.mk 3072 2016 (.s 56 (.call 322 [(.t 51),(.t 52),(.t
  53),(.t 54),(.t 55)])),.mk 2048 4095 (.s 57 (.call 318 [(.t 46),(.t 47),(.t 50),(.t 56)]))]) (.seq (.seq (.reg [58] [.s 58 (.mv (kI 0))]) (.blk 0 (.loop
  (.seq (.reg [59] [.s 59 (.cm .lt (.t 58) (kI 8))]) (.seq (.cond (.t 59) .skip (.exit 0)) (.seq (.blk 1 (.seq (.reg [18] [kM 60 58,kM 18 60]) (.reg [] [kM 61
  18,kO 62 16 1,kL 63 62,.s 64 (.ixp (.t 63) (kI 0) 1),kL 65 64,.s 66 (.call 323 [(.t 65)]),.s 67 (.q (.iar (.t 13) (.t 61) 1 8)),.n (.st (.t 67) (.t
  66))]))) (.reg [58] [.s 68 (.ar .add (.t 58) (kI 1)),kM 58 68]))))))) (.seq (.label 1) (.seq (.seq (.reg [72] [kM 69 15,kM 70 3,.s 71 (.len (.t 70)),.s 72
  (.cm .lt (.t 69) (.t 71))]) (.cond (.t 72) (.seq (.drw [12] [.mk 0 1 true (kW 73 5 9),.mk 1 2 true (kM 74 12),.mk 2 4 true (kM 75 3),.mk 3 8 true (kM 76
  15),.mk 4 28 true (.s 77 (.ixp (.t 75) (.t 76) 1)),.mk 5 60 true (kL 78 77),.mk 6 64 true (kW 79 13 8),.mk 7 255 false (.s 80 (.call 318 [(.t 73),(.t 74),
  (.t 78),(.t 79)])),.mk 8 511 true (kM 12 80)] [.mk 128 255 (.s 80 (.call 318 [(.t 73),(.t 74),(.t 78),(.t 79)]))]) (.seq (.reg [15] [kM 81 15,.s 82 (.ar
  .add (.t 81) (kI 1)),kM 15 82]) (.goto 1))) .skip)) (.seq (.seq (.reg [84] [kM 83 14,.s 84 (.cm .eq (.t 83) (kI 1))]) (.cond (.t 84) (.seq (.reg [12] [kM 85
  12,kM 86 4,kM 87 3,.s 88 (.ixp (.t 87) (kI 0) 1),kL 89 88,.s 90 (.call 223 [(.t 89)]),.s 91 (.bld [.i (.ofNat 0),.z 0 0] (.cons 0 1 (.t 86) (.cons 1 1
  (.t 90) .nil))),kM 92 4,.s 93 (.ar .add (.t 92) (kI 1)),kM 94 3,.s 95 (.len (.t 94)),.s 96 (.ar .sub (.t 95) (kI 1)),.s 97 (.call 226 [(.t 96)]),.s 98
  (.bld [.i (.ofNat 0),.z 0 0] (.cons 0 1 (.t 93) (.cons 1 1 (.t 97) .nil))),.s 99 (.bsl [.i (.ofNat 0),.z 0 0] 2 (.cons 0 2 (.t 91) (.cons 2 2 (.t 98)
  .nil))),.s 100 (.app 2 24 (.t 85) (.t 99)),kM 12 100]) (.seq (.reg [102,103,104] [kM 101 3,.s 102 (.q (.sli (.t 101) 1 (.ok (kI 1)) .no)),.s 103 (.len
  (.t 102)),.s 104 (.mv (kI 0))]) (.blk 2 (.loop (.seq (.reg [105] [.s 105 (.cm .lt (.t 104) (.t 103))]) (.seq (.cond (.t 105) .skip (.exit 2)) (.seq (.blk 3
  (.seq (.reg [19,20] [kM 106 104,.s 107 (.ixp (.t 102) (.t 104) 1),kL 108 107,kM 19 106,kM 20 108]) (.reg [12] [kM 109 12,kM 110 4,.s 111 (.ar .add (.t
  110) (kI 2)),kM 112 19,.s 113 (.ar .add (.t 111) (.t 112)),kM 114 20,.s 115 (.call 223 [(.t 114)]),.s 116 (.bld [.i (.ofNat 0),.z 0 0] (.cons 0 1 (.t
  113) (.cons 1 1 (.t 115) .nil))),.s 117 (.bsl [.i (.ofNat 0),.z 0 0] 1 (.cons 0 2 (.t 116) .nil)),.s 118 (.app 2 24 (.t 109) (.t 117)),kM 12 118]))) (.reg
  [104] [.s 119 (.ar .add (.t 104) (kI 1)),kM 104 119])))))))) .skip)) (.seq (.label 0) (.seq (.reg [10,11] [kM 120 12,kM 121 17,kM 10 120,kM 11 121])
  .ret))))))))))))))) lpFuel (λ cl e6 s7=>nx (λ e8 s9=>bnr (eNew [.z 0 0,.z 0 0,.z 0 0,.z 0 0,.z 0 0,.z 0 0,.z 0 0,.z 0 0] .nil s9 cl) λ v10
  s11=>nx (λ e12 s13=>nx (λ e14 s15=>ko e14 5 λ v16=>onp v16 λ b17 o18=>bnr (ldnP 9 b17 o18 s15) λ v19 s20=>ko e14 1 λ v21=>ko e14 2
  λ v22=>ko e14 3 λ v23=>bnr (cl 314 [v19,v21,v22,(.b true),v23] s20) λ v24 s25=>extK v24 0 λ v26=>extK v24 1 λ v27=>bnr (eNew [.b
  false,.ns] .nil s25 cl) λ v28 s29=>onp v28 λ b30 o31=>onAx v26 λ l32=>bnr (stnA 2 b30 o31 l32 s29) λ v33 s34=>nx (λ e35 s36=>ko e35 17
  λ v37=>oni v37 λ n38=>nx (λ e39 s40=>jn (λ e43 s44=>ko e43 2 λ v45=>bnr (cl 320 [v45] s44) λ v46 s47=>ko e43 3 λ v48=>bnr (cl
  319 [v46,v48] s47) λ v49 s50=>nx (λ e51 s52=>ko e51 14 λ v53=>oni v53 λ n54=>gdK (.b (cmI .eq n54 (.ofNat 1))) true (λ k55=>ko e51 5 λ
  v58=>onp v58 λ b59 o60=>bnr (ldnP 9 b59 o60 s52) λ v61 s62=>k55 v61 s62) s52 λ v56 s57=>gdK (.b (cmI .eq n54 (.ofNat 1))) true (λ k63=>ko
  e51 4 λ v66=>k63 v66 s52) s52 λ v64 s65=>gdK (.b (cmI .eq n54 (.ofNat 1))) true (λ k67=>ko e51 16 λ v70=>onp v70 λ b71 o72=>bnr (ldnP 2
  b71 o72 s52) λ v73 s74=>k67 v73 s74) s52 λ v68 s69=>gdK (.b (cmI .eq n54 (.ofNat 1))) true (λ k75=>ko e51 2 λ v78=>k75 v78 s52) s52 λ v76 s77
 =>gdX (.b (cmI .eq n54 (.ofNat 1))) true (bnr (cl 294 [v68,v76] s52) λ v79 s80=>gdK (.b (cmI .eq n54 (.ofNat 1))) true (λ k81=>ko e51 5 λ v84=>
  onp v84 λ b85 o86=>bnr (ldnP 9 b85 o86 s80) λ v87 s88=>k81 v87 s88) s80 λ v82 s83=>ifX (eqV v56 v82) (gdK (.b (cmI .eq n54 (.ofNat 1))) true
  (λ k89=>ko e51 4 λ v92=>k89 v92 s80) s80 λ v90 s91=>ifX (eqV v64 v90) (gdX (.b (cmI .eq n54 (.ofNat 1))) true (bnr (cl 321 [v82,v90,v79] s80)
  λ v93 s94=>gdK (.b (cmI .eq n54 (.ofNat 1))) true (λ k95=>onBx v93 λ c98=>k95 (.b (neg c98)) s94) s94 λ v96 s97=>pkK (.b (cmI .eq n54 (.ofNat
  1))) (.ok v96) (.ok (.b false)) λ v99=>nx (λ e100 s101=>jn (λ e106 s107=>ko e106 5 λ v108=>onp v108 λ b109 o110=>bnr (ldnP 9 b109 o110
  s107) λ v111 s112=>ko e106 12 λ v113=>ko e106 3 λ v114=>onSlx v114 λ b115 o116 q117=>onON (nat (.ofNat 0)) λ i118=>ifX (Nat.blt i118 q117)
  (ldK b115 (Nat.add o116 (Nat.mul i118 1)) s107 λ v119=>ko e106 1 λ v120=>ko e106 2 λ v121=>ko e106 14 λ v122=>ko e106 3 λ v123=>ko e106 4
  λ v124=>bnr (cl 322 [v120,v121,v122,v123,v124] s107) λ v125 s126=>ko e106 5 λ v127=>onp v127 λ b128 o129=>bnr (ldnP 9 b128 o129 s126)
  λ v130 s131=>ifX (eqV v111 v130) (ko e106 12 λ v132=>ifX (eqV v113 v132) (ko e106 3 λ v133=>ifX (eqV v114 v133) (onSlx v133 λ b134 o135 q136=>
  onON (nat (.ofNat 0)) λ i137=>ifX (Nat.blt i137 q136) (ifX (eqV (.p b115 (Nat.add o116 (Nat.mul i118 1))) (.p b134 (Nat.add o135 (Nat.mul i137 1)))) (ldK
  b134 (Nat.add o135 (Nat.mul i137 1)) s126 λ v138=>ifX (eqV v119 v138) (bnr (cl 318 [v130,v132,v138,v125] s126) λ v139 s140=>nx (λ e141 s142=>
  nx (λ e143 s144=>bkK (bindX (lpR (λ cl e145 s146=>ko e145 58 λ v147=>oni v147 λ n148=>nx (λ e149 s150=>jn (λ e153 s154=>bkK (ko e153
  58 λ v155=>nx (λ e156 s157=>ko e156 18 λ v158=>ko e156 16 λ v159=>onp v159 λ b160 o161=>ldK b160 (Nat.add o161 1) s157 λ v162=>onSlx
  v162 λ b163 o164 q165=>onON (nat (.ofNat 0)) λ i166=>ifX (Nat.blt i166 q165) (ldK b163 (Nat.add o164 (Nat.mul i166 1)) s157 λ v167=>bnr (cl 323
  [v167] s157) λ v168 s169=>ko e156 13 λ v170=>bnr (eKp (.q (.iar (.c v170) (.c v158) 1 8)) .nil s169 cl) λ v171 s172=>onp v171 λ b173 o174=>
  bnr (stV b173 o174 v168 s172) λ v175 s176=>nx (idk) e156 s176)) (kst e153 18 v155) s154) 1 (λ e177 s178=>ko e177 58 λ v179=>oni v179 λ n180
 =>frcI (wrapI (arI .add n180 (.ofNat 1))) λ n181=>nx (idk) (kst e177 58 (.i n181)) s178)) λ k151=>ko e149 59 λ v152=>cdK v152 (k151 e149 s150)
  (.ok (.x 0) e149 s150)) (kst e145 59 (.b (cmI .lt n148 (.ofNat 8)))) s146) lpFuel cl e143 s144) (idk)) 0 (λ e182 s183=>(λ e184 s185=>ko e184 15 λ
  v186=>ko e184 3 λ v187=>bnr (lenV v187 s185) λ v188 s189=>oni v186 λ n190=>oni v188 λ n191=>nx (λ e192 s193=>jn (λ e224 s225=>ko
  e224 14 λ v226=>oni v226 λ n227=>nx (λ e228 s229=>jn (λ e313 s314=>(λ e315 s316=>ko e315 12 λ v317=>ko e315 17 λ v318=>nx (λ
  e319 s320=>.ok .r e319 s320) (kst (kst e315 10 v317) 11 v318) s316) e313 s314) λ k230=>ko e228 84 λ v231=>cdK v231 (ko e228 12 λ v232=>ko e228
  4 λ v233=>ko e228 3 λ v234=>onSlx v234 λ b235 o236 q237=>onON (nat (.ofNat 0)) λ i238=>ifX (Nat.blt i238 q237) (ldK b235 (Nat.add o236 (Nat.mul
  i238 1)) s229 λ v239=>bnr (cl 223 [v239] s229) λ v240 s241=>bnr (oL (fill (.cons 0 1 (.c v233) (.cons 1 1 (.c v240) .nil)) [.i (.ofNat 0),.z 0 0]
  .nil) okA s241) λ v242 s243=>ko e228 4 λ v244=>oni v244 λ n245=>frcI (wrapI (arI .add n245 (.ofNat 1))) λ n246=>ko e228 3 λ v247=>bnr
  (lenV v247 s243) λ v248 s249=>oni v248 λ n250=>frcI (wrapI (arI .sub n250 (.ofNat 1))) λ n251=>bnr (cl 226 [(.i n251)] s249) λ v252 s253=>
  bnr (oL (fill (.cons 0 1 (.c (.i n246)) (.cons 1 1 (.c v252) .nil)) [.i (.ofNat 0),.z 0 0] .nil) okA s253) λ v254 s255=>bnr (oL (fill (.cons 0 2 (.c
  v242) (.cons 2 2 (.c v254) .nil)) (repL [.i (.ofNat 0),.z 0 0] 2) .nil) (bsl1 2 (lenL [.i (.ofNat 0),.z 0 0])) s255) λ v256 s257=>bnr (ap0 2 24 (.ok
  v256) v232 s257) λ v258 s259=>nx (λ e260 s261=>ko e260 3 λ v262=>bnr (eKp (.q (.sli (.c v262) 1 (.ok (.c (.i (.ofNat 1)))) .no)) .nil s261 cl)
  λ v263 s264=>bnr (lenV v263 s264) λ v265 s266=>nx (λ e267 s268=>bkK (bindX (lpR (λ cl e269 s270=>ko e269 104 λ v271=>ko e269 103 λ v272
 =>oni v271 λ n273=>oni v272 λ n274=>nx (λ e275 s276=>jn (λ e279 s280=>bkK (ko e279 104 λ v281=>ko e279 102 λ v282=>ko e279 104 λ
  v283=>onSlx v282 λ b284 o285 q286=>oni v283 λ n288=>onON (nat n288) λ i287=>ifX (Nat.blt i287 q286) (ldK b284 (Nat.add o285 (Nat.mul i287 1))
  s280 λ v289=>nx (λ e290 s291=>ko e290 12 λ v292=>ko e290 4 λ v293=>oni v293 λ n294=>frcI (wrapI (arI .add n294 (.ofNat 2))) λ n295=>ko
  e290 19 λ v296=>oni v296 λ n297=>frcI (wrapI (arI .add n295 n297)) λ n298=>ko e290 20 λ v299=>bnr (cl 223 [v299] s291) λ v300 s301=>
  bnr (oL (fill (.cons 0 1 (.c (.i n298)) (.cons 1 1 (.c v300) .nil)) [.i (.ofNat 0),.z 0 0] .nil) okA s301) λ v302 s303=>bnr (oL (fill (.cons 0 2 (.c
  v302) .nil) (repL [.i (.ofNat 0),.z 0 0] 1) .nil) (bsl1 1 (lenL [.i (.ofNat 0),.z 0 0])) s303) λ v304 s305=>bnr (ap0 2 24 (.ok v304) v292 s305) λ
  v306 s307=>nx (idk) (kst e290 12 v306) s307) (kst (kst e279 19 v281) 20 v289) s280)) 3 (λ e308 s309=>ko e308 104 λ v310=>oni v310 λ n311=>
  frcI (wrapI (arI .add n311 (.ofNat 1))) λ n312=>nx (idk) (kst e308 104 (.i n312)) s309)) λ k277=>ko e275 105 λ v278=>cdK v278 (k277 e275 s276)
  (.ok (.x 2) e275 s276)) (kst e269 105 (.b (cmI .lt n273 n274))) s270) lpFuel cl e267 s268) (idk)) 2 (k230)) (kst (kst (kst e260 102 v263) 103 v265) 104 (.i
  (.ofNat 0))) s266) (kst e228 12 v258) s259)) (k230 e228 s229)) (kst e224 84 (.b (cmI .eq n227 (.ofNat 1)))) s225) λ k194=>ko e192 72 λ v195=>cdK v195
  (ko e192 5 λ v196=>onp v196 λ b197 o198=>bnr (ldnP 9 b197 o198 s193) λ v199 s200=>ko e192 12 λ v201=>ko e192 3 λ v202=>ko e192 15 λ
  v203=>onSlx v202 λ b204 o205 q206=>oni v203 λ n208=>onON (nat n208) λ i207=>ifX (Nat.blt i207 q206) (ldK b204 (Nat.add o205 (Nat.mul i207 1))
  s193 λ v209=>ko e192 13 λ v210=>onp v210 λ b211 o212=>bnr (ldnP 8 b211 o212 s193) λ v213 s214=>bnr (cl 318 [v199,v201,v209,v213] s193)
  λ v215 s216=>nx (λ e217 s218=>ko e217 15 λ v219=>oni v219 λ n220=>frcI (wrapI (arI .add n220 (.ofNat 1))) λ n221=>nx (λ e222 s223=>.ok
  (.g 1) e222 s223) (kst e217 15 (.i n221)) s218) (kst e192 12 v215) s216)) (k194 e192 s193)) (kst e184 72 (.b (cmI .lt n190 n191))) s189) e182 s183)) (kst
  e141 58 (.i (.ofNat 0))) s142) (kst e106 12 v139) s140)))))))) λ k102=>ko e100 45 λ v103=>cdK v103 (nx (λ e104 s105=>.ok (.g 0) e104 s105) (kst
  e100 17 (.i (.ofNat 2))) s101) (k102 e100 s101)) (kst e51 45 v99) s94) (gdK (.b (cmI .eq n54 (.ofNat 1))) true (λ k321=>ko e51 5 λ v324=>onp v324 λ
  b325 o326=>bnr (ldnP 9 b325 o326 s80) λ v327 s328=>k321 v327 s328) s80 λ v322 s323=>ifX (eqV v56 v322) (gdK (.b (cmI .eq n54 (.ofNat 1))) true (λ
  k329=>ko e51 4 λ v332=>k329 v332 s80) s80 λ v330 s331=>ifX (eqV v64 v330) (gdK (.b (cmI .eq n54 (.ofNat 1))) true (λ k333=>.no) s80 λ v334 s335
 =>gdK (.b (cmI .eq n54 (.ofNat 1))) true (λ k338=>onBx v334 λ c341=>k338 (.b (neg c341)) s80) s80 λ v339 s340=>pkK (.b (cmI .eq n54 (.ofNat 1)))
  (.ok v339) (.ok (.b false)) λ v342=>nx (λ e343 s344=>jn (λ e349 s350=>ko e349 5 λ v351=>onp v351 λ b352 o353=>bnr (ldnP 9 b352 o353
  s350) λ v354 s355=>ko e349 12 λ v356=>ko e349 3 λ v357=>onSlx v357 λ b358 o359 q360=>onON (nat (.ofNat 0)) λ i361=>ifX (Nat.blt i361 q360)
  (ldK b358 (Nat.add o359 (Nat.mul i361 1)) s350 λ v362=>ko e349 1 λ v363=>ko e349 2 λ v364=>ko e349 14 λ v365=>ko e349 3 λ v366=>ko e349 4
  λ v367=>bnr (cl 322 [v363,v364,v365,v366,v367] s350) λ v368 s369=>ko e349 5 λ v370=>onp v370 λ b371 o372=>bnr (ldnP 9 b371 o372 s369)
  λ v373 s374=>ifX (eqV v354 v373) (ko e349 12 λ v375=>ifX (eqV v356 v375) (ko e349 3 λ v376=>ifX (eqV v357 v376) (onSlx v376 λ b377 o378 q379=>
  onON (nat (.ofNat 0)) λ i380=>ifX (Nat.blt i380 q379) (ifX (eqV (.p b358 (Nat.add o359 (Nat.mul i361 1))) (.p b377 (Nat.add o378 (Nat.mul i380 1)))) (ldK
  b377 (Nat.add o378 (Nat.mul i380 1)) s369 λ v381=>ifX (eqV v362 v381) (bnr (cl 318 [v373,v375,v381,v368] s369) λ v382 s383=>nx (λ e384 s385=>
  nx (λ e386 s387=>bkK (bindX (lpR (λ cl e388 s389=>ko e388 58 λ v390=>oni v390 λ n391=>nx (λ e392 s393=>jn (λ e396 s397=>bkK (ko e396
  58 λ v398=>nx (λ e399 s400=>ko e399 18 λ v401=>ko e399 16 λ v402=>onp v402 λ b403 o404=>ldK b403 (Nat.add o404 1) s400 λ v405=>onSlx
  v405 λ b406 o407 q408=>onON (nat (.ofNat 0)) λ i409=>ifX (Nat.blt i409 q408) (ldK b406 (Nat.add o407 (Nat.mul i409 1)) s400 λ v410=>bnr (cl 323
  [v410] s400) λ v411 s412=>ko e399 13 λ v413=>bnr (eKp (.q (.iar (.c v413) (.c v401) 1 8)) .nil s412 cl) λ v414 s415=>onp v414 λ b416 o417=>
  bnr (stV b416 o417 v411 s415) λ v418 s419=>nx (idk) e399 s419)) (kst e396 18 v398) s397) 1 (λ e420 s421=>ko e420 58 λ v422=>oni v422 λ n423
 =>frcI (wrapI (arI .add n423 (.ofNat 1))) λ n424=>nx (idk) (kst e420 58 (.i n424)) s421)) λ k394=>ko e392 59 λ v395=>cdK v395 (k394 e392 s393)
  (.ok (.x 0) e392 s393)) (kst e388 59 (.b (cmI .lt n391 (.ofNat 8)))) s389) lpFuel cl e386 s387) (idk)) 0 (λ e425 s426=>(λ e427 s428=>ko e427 15 λ
  v429=>ko e427 3 λ v430=>bnr (lenV v430 s428) λ v431 s432=>oni v429 λ n433=>oni v431 λ n434=>nx (λ e435 s436=>jn (λ e467 s468=>ko
  e467 14 λ v469=>oni v469 λ n470=>nx (λ e471 s472=>jn (λ e556 s557=>(λ e558 s559=>ko e558 12 λ v560=>ko e558 17 λ v561=>nx (λ
  e562 s563=>.ok .r e562 s563) (kst (kst e558 10 v560) 11 v561) s559) e556 s557) λ k473=>ko e471 84 λ v474=>cdK v474 (ko e471 12 λ v475=>ko e471
  4 λ v476=>ko e471 3 λ v477=>onSlx v477 λ b478 o479 q480=>onON (nat (.ofNat 0)) λ i481=>ifX (Nat.blt i481 q480) (ldK b478 (Nat.add o479 (Nat.mul
  i481 1)) s472 λ v482=>bnr (cl 223 [v482] s472) λ v483 s484=>bnr (oL (fill (.cons 0 1 (.c v476) (.cons 1 1 (.c v483) .nil)) [.i (.ofNat 0),.z 0 0]
  .nil) okA s484) λ v485 s486=>ko e471 4 λ v487=>oni v487 λ n488=>frcI (wrapI (arI .add n488 (.ofNat 1))) λ n489=>ko e471 3 λ v490=>bnr
  (lenV v490 s486) λ v491 s492=>oni v491 λ n493=>frcI (wrapI (arI .sub n493 (.ofNat 1))) λ n494=>bnr (cl 226 [(.i n494)] s492) λ v495 s496=>
  bnr (oL (fill (.cons 0 1 (.c (.i n489)) (.cons 1 1 (.c v495) .nil)) [.i (.ofNat 0),.z 0 0] .nil) okA s496) λ v497 s498=>bnr (oL (fill (.cons 0 2 (.c
  v485) (.cons 2 2 (.c v497) .nil)) (repL [.i (.ofNat 0),.z 0 0] 2) .nil) (bsl1 2 (lenL [.i (.ofNat 0),.z 0 0])) s498) λ v499 s500=>bnr (ap0 2 24 (.ok
  v499) v475 s500) λ v501 s502=>nx (λ e503 s504=>ko e503 3 λ v505=>bnr (eKp (.q (.sli (.c v505) 1 (.ok (.c (.i (.ofNat 1)))) .no)) .nil s504 cl)
  λ v506 s507=>bnr (lenV v506 s507) λ v508 s509=>nx (λ e510 s511=>bkK (bindX (lpR (λ cl e512 s513=>ko e512 104 λ v514=>ko e512 103 λ v515
 =>oni v514 λ n516=>oni v515 λ n517=>nx (λ e518 s519=>jn (λ e522 s523=>bkK (ko e522 104 λ v524=>ko e522 102 λ v525=>ko e522 104 λ
  v526=>onSlx v525 λ b527 o528 q529=>oni v526 λ n531=>onON (nat n531) λ i530=>ifX (Nat.blt i530 q529) (ldK b527 (Nat.add o528 (Nat.mul i530 1))
  s523 λ v532=>nx (λ e533 s534=>ko e533 12 λ v535=>ko e533 4 λ v536=>oni v536 λ n537=>frcI (wrapI (arI .add n537 (.ofNat 2))) λ n538=>ko
  e533 19 λ v539=>oni v539 λ n540=>frcI (wrapI (arI .add n538 n540)) λ n541=>ko e533 20 λ v542=>bnr (cl 223 [v542] s534) λ v543 s544=>
  bnr (oL (fill (.cons 0 1 (.c (.i n541)) (.cons 1 1 (.c v543) .nil)) [.i (.ofNat 0),.z 0 0] .nil) okA s544) λ v545 s546=>bnr (oL (fill (.cons 0 2 (.c
  v545) .nil) (repL [.i (.ofNat 0),.z 0 0] 1) .nil) (bsl1 1 (lenL [.i (.ofNat 0),.z 0 0])) s546) λ v547 s548=>bnr (ap0 2 24 (.ok v547) v535 s548) λ
  v549 s550=>nx (idk) (kst e533 12 v549) s550) (kst (kst e522 19 v524) 20 v532) s523)) 3 (λ e551 s552=>ko e551 104 λ v553=>oni v553 λ n554=>
  frcI (wrapI (arI .add n554 (.ofNat 1))) λ n555=>nx (idk) (kst e551 104 (.i n555)) s552)) λ k520=>ko e518 105 λ v521=>cdK v521 (k520 e518 s519)
  (.ok (.x 2) e518 s519)) (kst e512 105 (.b (cmI .lt n516 n517))) s513) lpFuel cl e510 s511) (idk)) 2 (k473)) (kst (kst (kst e503 102 v506) 103 v508) 104 (.i
  (.ofNat 0))) s509) (kst e471 12 v501) s502)) (k473 e471 s472)) (kst e467 84 (.b (cmI .eq n470 (.ofNat 1)))) s468) λ k437=>ko e435 72 λ v438=>cdK v438
  (ko e435 5 λ v439=>onp v439 λ b440 o441=>bnr (ldnP 9 b440 o441 s436) λ v442 s443=>ko e435 12 λ v444=>ko e435 3 λ v445=>ko e435 15 λ
  v446=>onSlx v445 λ b447 o448 q449=>oni v446 λ n451=>onON (nat n451) λ i450=>ifX (Nat.blt i450 q449) (ldK b447 (Nat.add o448 (Nat.mul i450 1))
  s436 λ v452=>ko e435 13 λ v453=>onp v453 λ b454 o455=>bnr (ldnP 8 b454 o455 s436) λ v456 s457=>bnr (cl 318 [v442,v444,v452,v456] s436)
  λ v458 s459=>nx (λ e460 s461=>ko e460 15 λ v462=>oni v462 λ n463=>frcI (wrapI (arI .add n463 (.ofNat 1))) λ n464=>nx (λ e465 s466=>.ok
  (.g 1) e465 s466) (kst e460 15 (.i n464)) s461) (kst e435 12 v458) s459)) (k437 e435 s436)) (kst e427 72 (.b (cmI .lt n433 n434))) s432) e425 s426)) (kst
  e384 58 (.i (.ofNat 0))) s385) (kst e349 12 v382) s383)))))))) λ k345=>ko e343 45 λ v346=>cdK v346 (nx (λ e347 s348=>.ok (.g 0) e347 s348) (kst
  e343 17 (.i (.ofNat 2))) s344) (k345 e343 s344)) (kst e51 45 v342) s80)))))) (ko e51 14 λ v564=>oni v564 λ n565=>gdK (.b (cmI .eq n565 (.ofNat 1)))
  true (λ k566=>ko e51 5 λ v569=>onp v569 λ b570 o571=>bnr (ldnP 9 b570 o571 s52) λ v572 s573=>k566 v572 s573) s52 λ v567 s568=>gdK (.b
  (cmI .eq n565 (.ofNat 1))) true (λ k574=>ko e51 4 λ v577=>k574 v577 s52) s52 λ v575 s576=>gdK (.b (cmI .eq n565 (.ofNat 1))) true (λ k578=>ko
  e51 16 λ v581=>onp v581 λ b582 o583=>bnr (ldnP 2 b582 o583 s52) λ v584 s585=>k578 v584 s585) s52 λ v579 s580=>gdK (.b (cmI .eq n565 (.ofNat
  1))) true (λ k586=>ko e51 2 λ v589=>k586 v589 s52) s52 λ v587 s588=>gdK (.b (cmI .eq n565 (.ofNat 1))) true (λ k590=>.no) s52 λ v591 s592=>
  gdX (.b (cmI .eq n565 (.ofNat 1))) true (bnr (cl 321 [v567,v575,v591] s52) λ v595 s596=>gdK (.b (cmI .eq n565 (.ofNat 1))) true (λ k597=>onBx v595
  λ c600=>k597 (.b (neg c600)) s596) s596 λ v598 s599=>pkK (.b (cmI .eq n565 (.ofNat 1))) (.ok v598) (.ok (.b false)) λ v601=>nx (λ e602 s603=>jn
  (λ e608 s609=>ko e608 5 λ v610=>onp v610 λ b611 o612=>bnr (ldnP 9 b611 o612 s609) λ v613 s614=>ko e608 12 λ v615=>ko e608 3 λ v616=>
  onSlx v616 λ b617 o618 q619=>onON (nat (.ofNat 0)) λ i620=>ifX (Nat.blt i620 q619) (ldK b617 (Nat.add o618 (Nat.mul i620 1)) s609 λ v621=>ko e608 1
  λ v622=>ko e608 2 λ v623=>ko e608 14 λ v624=>ko e608 3 λ v625=>ko e608 4 λ v626=>bnr (cl 322 [v622,v623,v624,v625,v626] s609) λ
  v627 s628=>ko e608 5 λ v629=>onp v629 λ b630 o631=>bnr (ldnP 9 b630 o631 s628) λ v632 s633=>ifX (eqV v613 v632) (ko e608 12 λ v634=>ifX
  (eqV v615 v634) (ko e608 3 λ v635=>ifX (eqV v616 v635) (onSlx v635 λ b636 o637 q638=>onON (nat (.ofNat 0)) λ i639=>ifX (Nat.blt i639 q638) (ifX
  (eqV (.p b617 (Nat.add o618 (Nat.mul i620 1))) (.p b636 (Nat.add o637 (Nat.mul i639 1)))) (ldK b636 (Nat.add o637 (Nat.mul i639 1)) s628 λ v640=>ifX (eqV
  v621 v640) (bnr (cl 318 [v632,v634,v640,v627] s628) λ v641 s642=>nx (λ e643 s644=>nx (λ e645 s646=>bkK (bindX (lpR (λ cl e647 s648=>ko
  e647 58 λ v649=>oni v649 λ n650=>nx (λ e651 s652=>jn (λ e655 s656=>bkK (ko e655 58 λ v657=>nx (λ e658 s659=>ko e658 18 λ v660=>ko
  e658 16 λ v661=>onp v661 λ b662 o663=>ldK b662 (Nat.add o663 1) s659 λ v664=>onSlx v664 λ b665 o666 q667=>onON (nat (.ofNat 0)) λ i668=>
  ifX (Nat.blt i668 q667) (ldK b665 (Nat.add o666 (Nat.mul i668 1)) s659 λ v669=>bnr (cl 323 [v669] s659) λ v670 s671=>ko e658 13 λ v672=>bnr
  (eKp (.q (.iar (.c v672) (.c v660) 1 8)) .nil s671 cl) λ v673 s674=>onp v673 λ b675 o676=>bnr (stV b675 o676 v670 s674) λ v677 s678=>nx (idk)
  e658 s678)) (kst e655 18 v657) s656) 1 (λ e679 s680=>ko e679 58 λ v681=>oni v681 λ n682=>frcI (wrapI (arI .add n682 (.ofNat 1))) λ n683=>nx
  (idk) (kst e679 58 (.i n683)) s680)) λ k653=>ko e651 59 λ v654=>cdK v654 (k653 e651 s652) (.ok (.x 0) e651 s652)) (kst e647 59 (.b (cmI .lt n650
  (.ofNat 8)))) s648) lpFuel cl e645 s646) (idk)) 0 (λ e684 s685=>(λ e686 s687=>ko e686 15 λ v688=>ko e686 3 λ v689=>bnr (lenV v689 s687) λ
  v690 s691=>oni v688 λ n692=>oni v690 λ n693=>nx (λ e694 s695=>jn (λ e726 s727=>ko e726 14 λ v728=>oni v728 λ n729=>nx (λ e730
  s731=>jn (λ e815 s816=>(λ e817 s818=>ko e817 12 λ v819=>ko e817 17 λ v820=>nx (λ e821 s822=>.ok .r e821 s822) (kst (kst e817 10 v819)
  11 v820) s818) e815 s816) λ k732=>ko e730 84 λ v733=>cdK v733 (ko e730 12 λ v734=>ko e730 4 λ v735=>ko e730 3 λ v736=>onSlx v736 λ b737
  o738 q739=>onON (nat (.ofNat 0)) λ i740=>ifX (Nat.blt i740 q739) (ldK b737 (Nat.add o738 (Nat.mul i740 1)) s731 λ v741=>bnr (cl 223 [v741] s731)
  λ v742 s743=>bnr (oL (fill (.cons 0 1 (.c v735) (.cons 1 1 (.c v742) .nil)) [.i (.ofNat 0),.z 0 0] .nil) okA s743) λ v744 s745=>ko e730 4 λ v746
 =>oni v746 λ n747=>frcI (wrapI (arI .add n747 (.ofNat 1))) λ n748=>ko e730 3 λ v749=>bnr (lenV v749 s745) λ v750 s751=>oni v750 λ n752
 =>frcI (wrapI (arI .sub n752 (.ofNat 1))) λ n753=>bnr (cl 226 [(.i n753)] s751) λ v754 s755=>bnr (oL (fill (.cons 0 1 (.c (.i n748)) (.cons 1 1
  (.c v754) .nil)) [.i (.ofNat 0),.z 0 0] .nil) okA s755) λ v756 s757=>bnr (oL (fill (.cons 0 2 (.c v744) (.cons 2 2 (.c v756) .nil)) (repL [.i (.ofNat
  0),.z 0 0] 2) .nil) (bsl1 2 (lenL [.i (.ofNat 0),.z 0 0])) s757) λ v758 s759=>bnr (ap0 2 24 (.ok v758) v734 s759) λ v760 s761=>nx (λ e762 s763=>
  ko e762 3 λ v764=>bnr (eKp (.q (.sli (.c v764) 1 (.ok (.c (.i (.ofNat 1)))) .no)) .nil s763 cl) λ v765 s766=>bnr (lenV v765 s766) λ v767 s768=>
  nx (λ e769 s770=>bkK (bindX (lpR (λ cl e771 s772=>ko e771 104 λ v773=>ko e771 103 λ v774=>oni v773 λ n775=>oni v774 λ n776=>nx (λ
  e777 s778=>jn (λ e781 s782=>bkK (ko e781 104 λ v783=>ko e781 102 λ v784=>ko e781 104 λ v785=>onSlx v784 λ b786 o787 q788=>oni v785 λ
  n790=>onON (nat n790) λ i789=>ifX (Nat.blt i789 q788) (ldK b786 (Nat.add o787 (Nat.mul i789 1)) s782 λ v791=>nx (λ e792 s793=>ko e792 12 λ v794
 =>ko e792 4 λ v795=>oni v795 λ n796=>frcI (wrapI (arI .add n796 (.ofNat 2))) λ n797=>ko e792 19 λ v798=>oni v798 λ n799=>frcI (wrapI
  (arI .add n797 n799)) λ n800=>ko e792 20 λ v801=>bnr (cl 223 [v801] s793) λ v802 s803=>bnr (oL (fill (.cons 0 1 (.c (.i n800)) (.cons 1 1 (.c
  v802) .nil)) [.i (.ofNat 0),.z 0 0] .nil) okA s803) λ v804 s805=>bnr (oL (fill (.cons 0 2 (.c v804) .nil) (repL [.i (.ofNat 0),.z 0 0] 1) .nil) (bsl1 1
  (lenL [.i (.ofNat 0),.z 0 0])) s805) λ v806 s807=>bnr (ap0 2 24 (.ok v806) v794 s807) λ v808 s809=>nx (idk) (kst e792 12 v808) s809) (kst (kst
  e781 19 v783) 20 v791) s782)) 3 (λ e810 s811=>ko e810 104 λ v812=>oni v812 λ n813=>frcI (wrapI (arI .add n813 (.ofNat 1))) λ n814=>nx (idk)
  (kst e810 104 (.i n814)) s811)) λ k779=>ko e777 105 λ v780=>cdK v780 (k779 e777 s778) (.ok (.x 2) e777 s778)) (kst e771 105 (.b (cmI .lt n775 n776)))
  s772) lpFuel cl e769 s770) (idk)) 2 (k732)) (kst (kst (kst e762 102 v765) 103 v767) 104 (.i (.ofNat 0))) s768) (kst e730 12 v760) s761)) (k732 e730 s731))
  (kst e726 84 (.b (cmI .eq n729 (.ofNat 1)))) s727) λ k696=>ko e694 72 λ v697=>cdK v697 (ko e694 5 λ v698=>onp v698 λ b699 o700=>bnr (ldnP 9
  b699 o700 s695) λ v701 s702=>ko e694 12 λ v703=>ko e694 3 λ v704=>ko e694 15 λ v705=>onSlx v704 λ b706 o707 q708=>oni v705 λ n710=>
  onON (nat n710) λ i709=>ifX (Nat.blt i709 q708) (ldK b706 (Nat.add o707 (Nat.mul i709 1)) s695 λ v711=>ko e694 13 λ v712=>onp v712 λ b713 o714
 =>bnr (ldnP 8 b713 o714 s695) λ v715 s716=>bnr (cl 318 [v701,v703,v711,v715] s695) λ v717 s718=>nx (λ e719 s720=>ko e719 15 λ v721=>
  oni v721 λ n722=>frcI (wrapI (arI .add n722 (.ofNat 1))) λ n723=>nx (λ e724 s725=>.ok (.g 1) e724 s725) (kst e719 15 (.i n723)) s720) (kst e694
  12 v717) s718)) (k696 e694 s695)) (kst e686 72 (.b (cmI .lt n692 n693))) s691) e684 s685)) (kst e643 58 (.i (.ofNat 0))) s644) (kst e608 12 v641)
  s642)))))))) λ k604=>ko e602 45 λ v605=>cdK v605 (nx (λ e606 s607=>.ok (.g 0) e606 s607) (kst e602 17 (.i (.ofNat 2))) s603) (k604 e602 s603))
  (kst e51 45 v601) s596) (ko e51 14 λ v823=>oni v823 λ n824=>gdK (.b (cmI .eq n824 (.ofNat 1))) true (λ k825=>ko e51 5 λ v828=>onp v828 λ
  b829 o830=>bnr (ldnP 9 b829 o830 s52) λ v831 s832=>k825 v831 s832) s52 λ v826 s827=>gdK (.b (cmI .eq n824 (.ofNat 1))) true (λ k833=>ko e51 4
  λ v836=>k833 v836 s52) s52 λ v834 s835=>gdK (.b (cmI .eq n824 (.ofNat 1))) true (λ k837=>ko e51 16 λ v840=>onp v840 λ b841 o842=>bnr
  (ldnP 2 b841 o842 s52) λ v843 s844=>k837 v843 s844) s52 λ v838 s839=>gdK (.b (cmI .eq n824 (.ofNat 1))) true (λ k845=>ko e51 2 λ v848=>k845
  v848 s52) s52 λ v846 s847=>gdK (.b (cmI .eq n824 (.ofNat 1))) true (λ k849=>.no) s52 λ v850 s851=>gdK (.b (cmI .eq n824 (.ofNat 1))) true (λ k854
 =>.no) s52 λ v855 s856=>gdK (.b (cmI .eq n824 (.ofNat 1))) true (λ k859=>onBx v855 λ c862=>k859 (.b (neg c862)) s52) s52 λ v860 s861=>pkK (.b
  (cmI .eq n824 (.ofNat 1))) (.ok v860) (.ok (.b false)) λ v863=>nx (λ e864 s865=>jn (λ e870 s871=>ko e870 5 λ v872=>onp v872 λ b873 o874=>
  bnr (ldnP 9 b873 o874 s871) λ v875 s876=>ko e870 12 λ v877=>ko e870 3 λ v878=>onSlx v878 λ b879 o880 q881=>onON (nat (.ofNat 0)) λ i882=>
  ifX (Nat.blt i882 q881) (ldK b879 (Nat.add o880 (Nat.mul i882 1)) s871 λ v883=>ko e870 1 λ v884=>ko e870 2 λ v885=>ko e870 14 λ v886=>ko e870 3
  λ v887=>ko e870 4 λ v888=>bnr (cl 322 [v884,v885,v886,v887,v888] s871) λ v889 s890=>ko e870 5 λ v891=>onp v891 λ b892 o893=>bnr
  (ldnP 9 b892 o893 s890) λ v894 s895=>ifX (eqV v875 v894) (ko e870 12 λ v896=>ifX (eqV v877 v896) (ko e870 3 λ v897=>ifX (eqV v878 v897) (onSlx v897
  λ b898 o899 q900=>onON (nat (.ofNat 0)) λ i901=>ifX (Nat.blt i901 q900) (ifX (eqV (.p b879 (Nat.add o880 (Nat.mul i882 1))) (.p b898 (Nat.add o899
  (Nat.mul i901 1)))) (ldK b898 (Nat.add o899 (Nat.mul i901 1)) s890 λ v902=>ifX (eqV v883 v902) (bnr (cl 318 [v894,v896,v902,v889] s890) λ v903 s904
 =>nx (λ e905 s906=>nx (λ e907 s908=>bkK (bindX (lpR (λ cl e909 s910=>ko e909 58 λ v911=>oni v911 λ n912=>nx (λ e913 s914=>jn (λ
  e917 s918=>bkK (ko e917 58 λ v919=>nx (λ e920 s921=>ko e920 18 λ v922=>ko e920 16 λ v923=>onp v923 λ b924 o925=>ldK b924 (Nat.add o925
  1) s921 λ v926=>onSlx v926 λ b927 o928 q929=>onON (nat (.ofNat 0)) λ i930=>ifX (Nat.blt i930 q929) (ldK b927 (Nat.add o928 (Nat.mul i930 1)) s921
  λ v931=>bnr (cl 323 [v931] s921) λ v932 s933=>ko e920 13 λ v934=>bnr (eKp (.q (.iar (.c v934) (.c v922) 1 8)) .nil s933 cl) λ v935 s936=>
  onp v935 λ b937 o938=>bnr (stV b937 o938 v932 s936) λ v939 s940=>nx (idk) e920 s940)) (kst e917 18 v919) s918) 1 (λ e941 s942=>ko e941 58 λ
  v943=>oni v943 λ n944=>frcI (wrapI (arI .add n944 (.ofNat 1))) λ n945=>nx (idk) (kst e941 58 (.i n945)) s942)) λ k915=>ko e913 59 λ v916=>
  cdK v916 (k915 e913 s914) (.ok (.x 0) e913 s914)) (kst e909 59 (.b (cmI .lt n912 (.ofNat 8)))) s910) lpFuel cl e907 s908) (idk)) 0 (λ e946 s947=>(λ e948
  s949=>ko e948 15 λ v950=>ko e948 3 λ v951=>bnr (lenV v951 s949) λ v952 s953=>oni v950 λ n954=>oni v952 λ n955=>nx (λ e956 s957=>
  jn (λ e988 s989=>ko e988 14 λ v990=>oni v990 λ n991=>nx (λ e992 s993=>jn (λ e1077 s1078=>(λ e1079 s1080=>ko e1079 12 λ v1081=>ko
  e1079 17 λ v1082=>nx (λ e1083 s1084=>.ok .r e1083 s1084) (kst (kst e1079 10 v1081) 11 v1082) s1080) e1077 s1078) λ k994=>ko e992 84 λ v995=>
  cdK v995 (ko e992 12 λ v996=>ko e992 4 λ v997=>ko e992 3 λ v998=>onSlx v998 λ b999 o1000 q1001=>onON (nat (.ofNat 0)) λ i1002=>ifX (Nat.blt
  i1002 q1001) (ldK b999 (Nat.add o1000 (Nat.mul i1002 1)) s993 λ v1003=>bnr (cl 223 [v1003] s993) λ v1004 s1005=>bnr (oL (fill (.cons 0 1 (.c v997)
  (.cons 1 1 (.c v1004) .nil)) [.i (.ofNat 0),.z 0 0] .nil) okA s1005) λ v1006 s1007=>ko e992 4 λ v1008=>oni v1008 λ n1009=>frcI (wrapI (arI .add
  n1009 (.ofNat 1))) λ n1010=>ko e992 3 λ v1011=>bnr (lenV v1011 s1007) λ v1012 s1013=>oni v1012 λ n1014=>frcI (wrapI (arI .sub n1014 (.ofNat
  1))) λ n1015=>bnr (cl 226 [(.i n1015)] s1013) λ v1016 s1017=>bnr (oL (fill (.cons 0 1 (.c (.i n1010)) (.cons 1 1 (.c v1016) .nil)) [.i (.ofNat 0),
  .z 0 0] .nil) okA s1017) λ v1018 s1019=>bnr (oL (fill (.cons 0 2 (.c v1006) (.cons 2 2 (.c v1018) .nil)) (repL [.i (.ofNat 0),.z 0 0] 2) .nil) (bsl1 2
  (lenL [.i (.ofNat 0),.z 0 0])) s1019) λ v1020 s1021=>bnr (ap0 2 24 (.ok v1020) v996 s1021) λ v1022 s1023=>nx (λ e1024 s1025=>ko e1024 3 λ
  v1026=>bnr (eKp (.q (.sli (.c v1026) 1 (.ok (.c (.i (.ofNat 1)))) .no)) .nil s1025 cl) λ v1027 s1028=>bnr (lenV v1027 s1028) λ v1029 s1030=>nx
  (λ e1031 s1032=>bkK (bindX (lpR (λ cl e1033 s1034=>ko e1033 104 λ v1035=>ko e1033 103 λ v1036=>oni v1035 λ n1037=>oni v1036 λ n1038=>
  nx (λ e1039 s1040=>jn (λ e1043 s1044=>bkK (ko e1043 104 λ v1045=>ko e1043 102 λ v1046=>ko e1043 104 λ v1047=>onSlx v1046 λ b1048 o1049
  q1050=>oni v1047 λ n1052=>onON (nat n1052) λ i1051=>ifX (Nat.blt i1051 q1050) (ldK b1048 (Nat.add o1049 (Nat.mul i1051 1)) s1044 λ v1053=>nx
  (λ e1054 s1055=>ko e1054 12 λ v1056=>ko e1054 4 λ v1057=>oni v1057 λ n1058=>frcI (wrapI (arI .add n1058 (.ofNat 2))) λ n1059=>ko e1054 19
  λ v1060=>oni v1060 λ n1061=>frcI (wrapI (arI .add n1059 n1061)) λ n1062=>ko e1054 20 λ v1063=>bnr (cl 223 [v1063] s1055) λ v1064 s1065=>
  bnr (oL (fill (.cons 0 1 (.c (.i n1062)) (.cons 1 1 (.c v1064) .nil)) [.i (.ofNat 0),.z 0 0] .nil) okA s1065) λ v1066 s1067=>bnr (oL (fill (.cons 0 2
  (.c v1066) .nil) (repL [.i (.ofNat 0),.z 0 0] 1) .nil) (bsl1 1 (lenL [.i (.ofNat 0),.z 0 0])) s1067) λ v1068 s1069=>bnr (ap0 2 24 (.ok v1068) v1056
  s1069) λ v1070 s1071=>nx (idk) (kst e1054 12 v1070) s1071) (kst (kst e1043 19 v1045) 20 v1053) s1044)) 3 (λ e1072 s1073=>ko e1072 104 λ v1074=>
  oni v1074 λ n1075=>frcI (wrapI (arI .add n1075 (.ofNat 1))) λ n1076=>nx (idk) (kst e1072 104 (.i n1076)) s1073)) λ k1041=>ko e1039 105 λ v1042
 =>cdK v1042 (k1041 e1039 s1040) (.ok (.x 2) e1039 s1040)) (kst e1033 105 (.b (cmI .lt n1037 n1038))) s1034) lpFuel cl e1031 s1032) (idk)) 2 (k994)) (kst
  (kst (kst e1024 102 v1027) 103 v1029) 104 (.i (.ofNat 0))) s1030) (kst e992 12 v1022) s1023)) (k994 e992 s993)) (kst e988 84 (.b (cmI .eq n991 (.ofNat
  1)))) s989) λ k958=>ko e956 72 λ v959=>cdK v959 (ko e956 5 λ v960=>onp v960 λ b961 o962=>bnr (ldnP 9 b961 o962 s957) λ v963 s964=>ko
  e956 12 λ v965=>ko e956 3 λ v966=>ko e956 15 λ v967=>onSlx v966 λ b968 o969 q970=>oni v967 λ n972=>onON (nat n972) λ i971=>ifX
  (Nat.blt i971 q970) (ldK b968 (Nat.add o969 (Nat.mul i971 1)) s957 λ v973=>ko e956 13 λ v974=>onp v974 λ b975 o976=>bnr (ldnP 8 b975 o976 s957)
  λ v977 s978=>bnr (cl 318 [v963,v965,v973,v977] s957) λ v979 s980=>nx (λ e981 s982=>ko e981 15 λ v983=>oni v983 λ n984=>frcI (wrapI
  (arI .add n984 (.ofNat 1))) λ n985=>nx (λ e986 s987=>.ok (.g 1) e986 s987) (kst e981 15 (.i n985)) s982) (kst e956 12 v979) s980)) (k958 e956 s957))
  (kst e948 72 (.b (cmI .lt n954 n955))) s953) e946 s947)) (kst e905 58 (.i (.ofNat 0))) s906) (kst e870 12 v903) s904)))))))) λ k866=>ko e864 45 λ v867
 =>cdK v867 (nx (λ e868 s869=>.ok (.g 0) e868 s869) (kst e864 17 (.i (.ofNat 2))) s865) (k866 e864 s865)) (kst e51 45 v863) s52))) (kst e43 14 v49) s50)
  λ k41=>ko e39 30 λ v42=>cdK v42 (.ok (.g 0) e39 s40) (k41 e39 s40)) (kst e35 30 (.b (cmI .ne n38 (.ofNat 0)))) s36) (kst (kst e14 16 v28) 17 v27)
  s34) (kst (kst e12 14 (.i (.ofNat 0))) 15 (.i (.ofNat 1))) s13) (kst e8 13 v10) s11) (kst e6 12 (.ns)) s7) cl e4 s5) (idk)) (kst (kst (kst env 5 v2) 10
  (.ns)) 11 (.i (.ofNat 0))) s3
theorem fe232 : rf232 = fastOf kf232 := by kernel_rfl
def rf233 : RFun := .mk 1 [] λ cl env s=>ko env 0 λ v1=>onp v1 λ b2 o3=>ldK b2 (Nat.add o3 0) s λ v4=>bnr (lenV v4 s) λ v5 s6=>nx (λ e7 s8=>bkK (bindX (lpR (λ cl e9 s10=>ko e9
  8 λ v11=>ko e9 7 λ v12=>oni v11 λ n13=>oni v12 λ n14=>nx (λ e15 s16=>jn (λ e19 s20=>bkK (ko e19 8 λ v21=>nx (λ e22 s23=>ko
  e22 0 λ v24=>onp v24 λ b25 o26=>ldK b25 (Nat.add o26 0) s23 λ v27=>ko e22 2 λ v28=>ko e22 0 λ v29=>onp v29 λ b30 o31=>ldK b30
  (Nat.add o31 0) s23 λ v32=>ko e22 2 λ v33=>onSlx v32 λ b34 o35 q36=>oni v33 λ n38=>onON (nat n38) λ i37=>ifX (Nat.blt i37 q36) (ldK b34
  (Nat.add (Nat.add (Nat.add o35 (Nat.mul i37 8)) 0) 3) s23 λ v39=>oni v39 λ n40=>onSlx v27 λ b41 o42 q43=>oni v28 λ n45=>onON (nat n45) λ
  i44=>ifX (Nat.blt i44 q43) (bnr (stV b41 (Nat.add (Nat.add o42 (Nat.mul i44 8)) 7) (.b (cmI .eq n40 (.ofNat 0))) s23) λ v46 s47=>nx (idk) e22 s47)))
  (kst e19 2 v21) s20) 1 (λ e48 s49=>ko e48 8 λ v50=>oni v50 λ n51=>frcI (wrapI (arI .add n51 (.ofNat 1))) λ n52=>nx (idk) (kst e48 8 (.i
  n52)) s49)) λ k17=>ko e15 9 λ v18=>cdK v18 (k17 e15 s16) (.ok (.x 0) e15 s16)) (kst e9 9 (.b (cmI .lt n13 n14))) s10) lpFuel cl e7 s8) (idk)) 0 (idk))
  (kst (kst env 7 v5) 8 (.i (.ofNat 0))) s6
theorem fe233 : rf233 = fastOf kf233 := by kernel_rfl
def rf234 : RFun := .mk 2 [.t 4] λ cl env s=>nx (λ e1 s2=>ko e1 0 λ v3=>onp v3 λ b4 o5=>ldK b4 (Nat.add o5 3) s2 λ v6=>oni v6 λ n7=>frcI (wrapI (arI .add n7 (.ofNat 1))) λ n8=>onp
  v3 λ b9 o10=>bnr (stV b9 (Nat.add o10 3) (.i n8) s2) λ v11 s12=>nx (λ e13 s14=>ko e13 0 λ v15=>ko e13 1 λ v16=>bnr (cl 22 [v15,v16]
  s14) λ v17 s18=>nx (λ e19 s20=>ko e19 5 λ v21=>oni v21 λ n22=>gdK (.b (cmI .eq n22 (.negSucc 0))) false (λ k23=>ko e19 5 λ v26=>k23
  v26 s20) s20 λ v24 s25=>gdK (.b (cmI .eq n22 (.negSucc 0))) false (λ k27=>ko e19 0 λ v30=>k27 v30 s25) s25 λ v28 s29=>gdK (.b (cmI .eq n22
  (.negSucc 0))) false (λ k31=>onp v28 λ b34 o35=>k31 (.p b34 o35) s29) s29 λ v32 s33=>gdK (.b (cmI .eq n22 (.negSucc 0))) false (λ k36=>onp
  v32 λ b39 o40=>k36 (.p b39 (Nat.add o40 0)) s33) s33 λ v37 s38=>gdK (.b (cmI .eq n22 (.negSucc 0))) false (λ k41=>onp v37 λ b44 o45=>ldK b44
  o45 s38 λ v46=>k41 v46 s38) s38 λ v42 s43=>gdK (.b (cmI .eq n22 (.negSucc 0))) false (λ k47=>oni v24 λ n50=>oni v42 λ n51=>k47 (.b (cmI
  .eq n50 n51)) s43) s43 λ v48 s49=>pkK (.b (cmI .eq n22 (.negSucc 0))) (.ok (.b true)) (.ok v48) λ v52=>nx (λ e53 s54=>.ok .r e53 s54) (kst e19 4
  v52) s49) (kst e13 5 v17) s18) e1 s12) (kst env 4 (.b false)) s
theorem fe234 : rf234 = fastOf kf234 := by kernel_rfl
def rf235 : RFun := .mk 3 [.t 6] λ cl env s=>ko env 0 λ v1=>bnr (boxV v1 s) λ v2 s3=>nx (λ e4 s5=>ko e4 3 λ v6=>onp v6 λ b7 o8=>ldK b7 (Nat.add o8 0) s5 λ v9=>ko e4 1 λ v10=>
  bnr (cl 29 [v9,v10] s5) λ v11 s12=>gdK v11 true (λ k13=>ko e4 3 λ v16=>onp v16 λ b17 o18=>k13 (.p b17 (Nat.add o18 0)) s12) s12 λ v14 s15
 =>gdK v11 true (λ k19=>onp v14 λ b22 o23=>ldK b22 o23 s15 λ v24=>k19 v24 s15) s15 λ v20 s21=>gdK v11 true (λ k25=>ko e4 1 λ v28=>k25
  v28 s21) s21 λ v26 s27=>gdK v11 true (λ k29=>ko e4 2 λ v32=>k29 v32 s27) s27 λ v30 s31=>gdK v11 true (λ k33=>bnr (cl 28 [v20,v26,v30]
  s31) λ v36 s37=>k33 v36 s37) s31 λ v34 s35=>gdK v11 true (λ k38=>onBx v34 λ c41=>k38 (.b (neg c41)) s35) s35 λ v39 s40=>pkK v11 (.ok v39)
  (.ok (.b false)) λ v42=>nx (λ e43 s44=>.ok .r e43 s44) (kst e4 6 v42) s40) (kst (kst env 3 v2) 6 (.b false)) s3
theorem fe235 : rf235 = fastOf kf235 := by kernel_rfl
def rf236 : RFun := .mk 3 [.t 6] λ cl env s=>nx (λ e1 s2=>ko e1 0 λ v3=>ko e1 1 λ v4=>bnr (cl 78 [v3,v4] s2) λ v5 s6=>oni v5 λ n7=>gdK (.b (cmI .ne n7 (.ofNat 2))) false (λ k8=>
  ko e1 0 λ v11=>k8 v11 s6) s6 λ v9 s10=>gdK (.b (cmI .ne n7 (.ofNat 2))) false (λ k12=>ko e1 1 λ v15=>k12 v15 s10) s10 λ v13 s14=>gdK (.b
  (cmI .ne n7 (.ofNat 2))) false (λ k16=>ko e1 2 λ v19=>k16 v19 s14) s14 λ v17 s18=>gdK (.b (cmI .ne n7 (.ofNat 2))) false (λ k20=>bnr (cl 28
  [v9,v13,v17] s18) λ v23 s24=>k20 v23 s24) s18 λ v21 s22=>pkK (.b (cmI .ne n7 (.ofNat 2))) (.ok (.b true)) (.ok v21) λ v25=>nx (λ e26 s27=>jn
  (λ e32 s33=>ko e32 0 λ v34=>onp v34 λ b35 o36=>ldK b35 (Nat.add o36 0) s33 λ v37=>ko e32 1 λ v38=>ko e32 2 λ v39=>onSlx v37 λ b40
  o41 q42=>oni v38 λ n44=>onON (nat n44) λ i43=>ifX (Nat.blt i43 q42) (bnr (stV b40 (Nat.add (Nat.add o41 (Nat.mul i43 3)) 2) v39 s33) λ v45 s46
 =>nx (λ e47 s48=>nx (λ e49 s50=>.ok .r e49 s50) (kst e47 6 (.b true)) s48) e32 s46)) λ k28=>ko e26 16 λ v29=>cdK v29 (nx (λ e30 s31=>.ok
  .r e30 s31) (kst e26 6 (.b false)) s27) (k28 e26 s27)) (kst e1 16 v25) s22) (kst env 6 (.b false)) s
theorem fe236 : rf236 = fastOf kf236 := by kernel_rfl
def rf237 : RFun := .mk 2 [.t 4] λ cl env s=>nx (λ e1 s2=>ko e1 0 λ v3=>onp v3 λ b4 o5=>ldK b4 (Nat.add o5 0) s2 λ v6=>bnr (lenV v6 s2) λ v7 s8=>ko e1 0 λ v9=>onp v9 λ b10 o11
 =>ldK b10 (Nat.add o11 1) s2 λ v12=>oni v7 λ n13=>oni v12 λ n14=>nx (λ e15 s16=>jn (λ e28 s29=>ko e28 0 λ v30=>ko e28 0 λ v31=>
  onp v31 λ b32 o33=>ldK b32 (Nat.add o33 0) s29 λ v34=>ko e28 1 λ v35=>bnr (oL (fill (.cons 0 1 (.c v35) .nil) (repL [.i (.ofNat 0)] 1) .nil)
  (bsl1 1 (lenL [.i (.ofNat 0)])) s29) λ v36 s37=>bnr (ap0 1 8 (.ok v36) v34 s37) λ v38 s39=>onp v30 λ b40 o41=>bnr (stV b40 (Nat.add o41 0) v38
  s39) λ v42 s43=>nx (λ e44 s45=>nx (λ e46 s47=>.ok .r e46 s47) (kst e44 4 (.b true)) s45) e28 s43) λ k17=>ko e15 14 λ v18=>cdK v18 (ko e15
  0 λ v19=>onp v19 λ b20 o21=>bnr (stV b20 (Nat.add o21 2) (.b true) s16) λ v22 s23=>nx (λ e24 s25=>nx (λ e26 s27=>.ok .r e26 s27) (kst
  e24 4 (.b false)) s25) e15 s23) (k17 e15 s16)) (kst e1 14 (.b (cmI .eq n13 n14))) s2) (kst env 4 (.b false)) s
theorem fe237 : rf237 = fastOf kf237 := by kernel_rfl
def rf238 : RFun := .mk 2 [.t 4] λ cl env s=>nx (λ e1 s2=>ko e1 0 λ v3=>bnr (cl 324 [v3] s2) λ v4 s5=>extK v4 0 λ v6=>extK v4 1 λ v7=>nx (λ e8 s9=>ko e8 1 λ v10=>bnr (cl 324
  [v10] s9) λ v11 s12=>extK v11 0 λ v13=>extK v11 1 λ v14=>nx (λ e15 s16=>ko e15 5 λ v17=>ko e15 7 λ v18=>bnr (onK (cmk1 .eq (.ok v18))
  v17 s16) λ v19 s20=>gdK v19 true (λ k21=>ko e15 6 λ v24=>k21 v24 s20) s20 λ v22 s23=>gdK v19 true (λ k25=>ko e15 8 λ v28=>k25 v28 s23)
  s23 λ v26 s27=>gdK v19 true (λ k29=>bnr (onK (cmk1 .eq (.ok v26)) v22 s27) λ v32 s33=>k29 v32 s33) s27 λ v30 s31=>pkK v19 (.ok v30) (.ok (.b
  false)) λ v34=>nx (λ e35 s36=>.ok .r e35 s36) (kst e15 4 v34) s31) (kst (kst e8 7 v13) 8 v14) s12) (kst (kst e1 5 v6) 6 v7) s5) (kst env 4 (.b
  false)) s
theorem fe238 : rf238 = fastOf kf238 := by kernel_rfl
def rf239 : RFun := .mk 1 [.t 2,.t 3] λ cl env s=>nx (λ e1 s2=>ko e1 0 λ v3=>onp v3 λ b4 o5=>ldK b4 (Nat.add o5 0) s2 λ v6=>bnr (lenV v6 s2) λ v7 s8=>oni v7 λ n9=>frcI (wrapI (arI
  .sub n9 (.ofNat 1))) λ n10=>nx (λ e11 s12=>ko e11 4 λ v13=>oni v13 λ n14=>nx (λ e15 s16=>jn (λ e21 s22=>ko e21 0 λ v23=>onp v23
  λ b24 o25=>ldK b24 (Nat.add o25 0) s22 λ v26=>ko e21 4 λ v27=>onSlx v26 λ b28 o29 q30=>oni v27 λ n32=>onON (nat n32) λ i31=>ifX
  (Nat.blt i31 q30) (ldK b28 (Nat.add o29 (Nat.mul i31 1)) s22 λ v33=>nx (λ e34 s35=>ko e34 0 λ v36=>ko e34 0 λ v37=>onp v37 λ b38 o39=>ldK
  b38 (Nat.add o39 0) s35 λ v40=>ko e34 4 λ v41=>bnr (eKp (.q (.sli (.c v40) 1 .no (.ok (.c v41)))) .nil s35 cl) λ v42 s43=>onp v36 λ b44 o45=>
  bnr (stV b44 (Nat.add o45 0) v42 s43) λ v46 s47=>nx (λ e48 s49=>ko e48 5 λ v50=>nx (λ e51 s52=>.ok .r e51 s52) (kst (kst e48 2 v50) 3 (.b
  true)) s49) e34 s47) (kst e21 5 v33) s22)) λ k17=>ko e15 13 λ v18=>cdK v18 (nx (λ e19 s20=>.ok .r e19 s20) (kst (kst e15 2 (.i (.ofNat 0))) 3
  (.b false)) s16) (k17 e15 s16)) (kst e11 13 (.b (cmI .lt n14 (.ofNat 0)))) s12) (kst e1 4 (.i n10)) s8) (kst (kst env 2 (.i (.ofNat 0))) 3 (.b false)) s
theorem fe239 : rf239 = fastOf kf239 := by kernel_rfl
def rf240 : RFun := .mk 3 [.t 6] λ cl env s=>nx (λ e1 s2=>ko e1 0 λ v3=>onp v3 λ b4 o5=>ldK b4 (Nat.add o5 11) s2 λ v6=>oni v6 λ n7=>nx (λ e8 s9=>jn (λ e14 s15=>ko e14 0 λ
  v16=>onp v16 λ b17 o18=>ldK b17 (Nat.add o18 22) s15 λ v19=>oni v19 λ n20=>frcI (wrapI (arI .add n20 (.ofNat 1))) λ n21=>onp v16 λ b22
  o23=>bnr (stV b22 (Nat.add o23 22) (.i n21) s15) λ v24 s25=>nx (λ e26 s27=>ko e26 0 λ v28=>ko e26 1 λ v29=>ko e26 2 λ v30=>bnr (cl
  325 [v28,v29,v30] s27) λ v31 s32=>onBx v31 λ c33=>nx (λ e34 s35=>jn (λ e48 s49=>ko e48 0 λ v50=>onp v50 λ b51 o52=>ldK b51 (Nat.add
  o52 11) s49 λ v53=>oni v53 λ n54=>nx (λ e55 s56=>.ok .r e55 s56) (kst e48 6 (.b (cmI .eq n54 (.ofNat 9)))) s49) λ k36=>ko e34 23 λ v37=>
  cdK v37 (ko e34 0 λ v38=>ko e34 0 λ v39=>onp v38 λ b40 o41=>bnr (stV b40 (Nat.add o41 11) (.i (.ofNat 9)) s35) λ v42 s43=>onp v39 λ b44
  o45=>bnr (stV b44 (Nat.add o45 21) (.i (.ofNat 10)) s43) λ v46 s47=>nx (k36) e34 s47) (k36 e34 s35)) (kst e26 23 (.b (neg c33))) s32) e14 s25) λ k10
 =>ko e8 11 λ v11=>cdK v11 (nx (λ e12 s13=>.ok .r e12 s13) (kst e8 6 (.b true)) s9) (k10 e8 s9)) (kst e1 11 (.b (cmI .eq n7 (.ofNat 9)))) s2) (kst
  env 6 (.b false)) s
theorem fe240 : rf240 = fastOf kf240 := by kernel_rfl
def rf241 : RFun := .mk 1 [.t 2] λ cl env s=>nx (λ e1 s2=>ko e1 0 λ v3=>onp v3 λ b4 o5=>ldK b4 (Nat.add o5 21) s2 λ v6=>nx (λ e7 s8=>.ok .r e7 s8) (kst e1 2 v6) s2) (kst env 2 (.i
  (.ofNat 0))) s
theorem fe241 : rf241 = fastOf kf241 := by kernel_rfl
def rf242 : RFun := .mk 1 [.t 2] λ cl env s=>nx (λ e1 s2=>ko e1 0 λ v3=>onp v3 λ b4 o5=>ldK b4 (Nat.add o5 2) s2 λ v6=>nx (λ e7 s8=>.ok .r e7 s8) (kst e1 2 v6) s2) (kst env 2 (.b
  false)) s
theorem fe242 : rf242 = fastOf kf242 := by kernel_rfl
def rf243 : RFun := .mk 1 [] λ cl env s=>ko env 0 λ v1=>onp v1 λ b2 o3=>bnr (stV b2 (Nat.add o3 2) (.b false) s) λ v4 s5=>nx (idk) env s5
theorem fe243 : rf243 = fastOf kf243 := by kernel_rfl
def rf244 : RFun := .mk 1 [.t 2] λ cl env s=>nx (λ e1 s2=>ko e1 0 λ v3=>ko e1 0 λ v4=>onp v4 λ b5 o6=>ldK b5 (Nat.add o6 1) s2 λ v7=>oni v7 λ n8=>frcI (wrapI (arI .sub (.ofNat 1)
  n8)) λ n9=>onp v3 λ b10 o11=>bnr (eKp (.q (.iar (.c (.p b10 (Nat.add o11 2))) (.c (.i n9)) 1 2)) .nil s2 cl) λ v12 s13=>onp v12 λ b14 o15=>
  ldK b14 o15 s2 λ v16=>oni v16 λ n17=>nx (λ e18 s19=>jn (λ e24 s25=>ko e24 0 λ v26=>ko e24 0 λ v27=>ko e24 0 λ v28=>onp v28 λ
  b29 o30=>ldK b29 (Nat.add o30 1) s25 λ v31=>onp v27 λ b32 o33=>bnr (eKp (.q (.iar (.c (.p b32 (Nat.add o33 2))) (.c v31) 1 2)) .nil s25 cl) λ
  v34 s35=>onp v34 λ b36 o37=>ldK b36 o37 s25 λ v38=>onp v26 λ b39 o40=>bnr (stV b39 (Nat.add o40 4) v38 s25) λ v41 s42=>nx (λ e43 s44=>
  ko e43 0 λ v45=>ko e43 0 λ v46=>onp v46 λ b47 o48=>ldK b47 (Nat.add o48 1) s44 λ v49=>oni v49 λ n50=>frcI (wrapI (arI .sub (.ofNat 1)
  n50)) λ n51=>onp v45 λ b52 o53=>bnr (stV b52 (Nat.add o53 1) (.i n51) s44) λ v54 s55=>nx (λ e56 s57=>nx (λ e58 s59=>.ok .r e58 s59)
  (kst e56 2 (.b true)) s57) e43 s55) e24 s42) λ k20=>ko e18 13 λ v21=>cdK v21 (nx (λ e22 s23=>.ok .r e22 s23) (kst e18 2 (.b false)) s19) (k20 e18
  s19)) (kst e1 13 (.b (cmI .gt n17 (.ofNat 0)))) s2) (kst env 2 (.b false)) s
theorem fe244 : rf244 = fastOf kf244 := by kernel_rfl
def rf245 : RFun := .mk 4 [.t 8] λ cl env s=>nx (λ e1 s2=>bkK (ko e1 0 λ v3=>onp v3 λ b4 o5=>bnr (ldnP 9 b4 (Nat.add o5 0) s2) λ v6 s7=>bnr (cl 115 [v6] s2) λ v8 s9=>oni v8 λ n10
 =>gdK (.b (cmI .ne n10 (.ofNat 0))) false (λ k11=>ko e1 0 λ v14=>k11 v14 s9) s9 λ v12 s13=>gdK (.b (cmI .ne n10 (.ofNat 0))) false (λ k15=>
  onp v12 λ b18 o19=>k15 (.p b18 o19) s9) s9 λ v16 s17=>gdK (.b (cmI .ne n10 (.ofNat 0))) false (λ k20=>onp v16 λ b23 o24=>k20 (.p b23 (Nat.add
  o24 9)) s9) s9 λ v21 s22=>gdK (.b (cmI .ne n10 (.ofNat 0))) false (λ k25=>onp v21 λ b28 o29=>ldK b28 o29 s9 λ v30=>k25 v30 s9) s9 λ v26 s27
 =>gdK (.b (cmI .ne n10 (.ofNat 0))) false (λ k31=>oni v26 λ n34=>k31 (.b (cmI .ne n34 (.ofNat 0))) s9) s9 λ v32 s33=>gdK (.b (cmI .ne n10 (.ofNat
  0))) false (λ k35=>k35 v32 s9) s9 λ v36 s37=>gdK v36 true (λ k38=>ko e1 0 λ v41=>k38 v41 s9) s9 λ v39 s40=>gdK v36 true (λ k42=>onp
  v39 λ b45 o46=>k42 (.p b45 o46) s9) s9 λ v43 s44=>gdK v36 true (λ k47=>onp v43 λ b50 o51=>k47 (.p b50 (Nat.add o51 9)) s9) s9 λ v48 s49=>
  gdK v36 true (λ k52=>onp v48 λ b55 o56=>ldK b55 o56 s9 λ v57=>k52 v57 s9) s9 λ v53 s54=>gdK v36 true (λ k58=>oni v53 λ n61=>k58 (.b
  (cmI .ne n61 (.ofNat 1))) s9) s9 λ v59 s60=>gdK (.b (cmI .ne n10 (.ofNat 0))) false (λ k62=>pkK v36 (.ok v59) (.ok (.b false)) λ v65=>k62 v65 s9)
  s9 λ v63 s64=>pkK (.b (cmI .ne n10 (.ofNat 0))) (.ok (.b true)) (.ok v63) λ v66=>gdK v66 false (λ k67=>ko e1 0 λ v70=>k67 v70 s9) s9 λ v68
  s69=>gdK v66 false (λ k71=>onp v68 λ b74 o75=>k71 (.p b74 o75) s9) s9 λ v72 s73=>gdK v66 false (λ k76=>onp v72 λ b79 o80=>k76 (.p b79
  (Nat.add o80 10)) s9) s9 λ v77 s78=>gdK v66 false (λ k81=>onp v77 λ b84 o85=>ldK b84 o85 s9 λ v86=>k81 v86 s9) s9 λ v82 s83=>gdK v66 false
  (λ k87=>oni v82 λ n90=>k87 (.b (cmI .lt n90 (.ofNat 0))) s9) s9 λ v88 s89=>pkK v66 (.ok (.b true)) (.ok v88) λ v91=>gdK v91 false (λ k92=>
  ko e1 0 λ v95=>k92 v95 s9) s9 λ v93 s94=>gdK v91 false (λ k96=>onp v93 λ b99 o100=>k96 (.p b99 o100) s9) s9 λ v97 s98=>gdK v91 false (λ
  k101=>onp v97 λ b104 o105=>k101 (.p b104 (Nat.add o105 10)) s9) s9 λ v102 s103=>gdK v91 false (λ k106=>onp v102 λ b109 o110=>ldK b109 o110
  s9 λ v111=>k106 v111 s9) s9 λ v107 s108=>gdK v91 false (λ k112=>ko e1 0 λ v115=>k112 v115 s9) s9 λ v113 s114=>gdK v91 false (λ k116=>
  onp v113 λ b119 o120=>k116 (.p b119 o120) s9) s9 λ v117 s118=>gdK v91 false (λ k121=>onp v117 λ b124 o125=>k121 (.p b124 (Nat.add o125 0))
  s9) s9 λ v122 s123=>gdK v91 false (λ k126=>onp v122 λ b129 o130=>k126 (.p b129 (Nat.add o130 1)) s9) s9 λ v127 s128=>gdK v91 false (λ k131
 =>onp v127 λ b134 o135=>ldK b134 o135 s9 λ v136=>k131 v136 s9) s9 λ v132 s133=>gdK v91 false (λ k137=>oni v107 λ n140=>oni v132 λ
  n141=>k137 (.b (cmI .gt n140 n141)) s9) s9 λ v138 s139=>pkK v91 (.ok (.b true)) (.ok v138) λ v142=>nx (λ e143 s144=>jn (idk) λ k145=>ko e143
  9 λ v146=>cdK v146 (nx (λ e147 s148=>.ok .r e147 s148) (kst e143 8 (.b false)) s144) (ko e143 0 λ v149=>onp v149 λ b150 o151=>ldK b150
  (Nat.add o151 12) s144 λ v152=>oni v152 λ n153=>nx (λ e154 s155=>jn (k145) λ k156=>ko e154 49 λ v157=>cdK v157 (ko e154 0 λ v158=>ko
  e154 1 λ v159=>ko e154 2 λ v160=>bnr (cl 326 [v158,v159,v160] s155) λ v161 s162=>nx (λ e163 s164=>.ok .r e163 s164) (kst e154 8 v161)
  s162) (k156 e154 s155)) (kst e143 49 (.b (cmI .lt n153 (.ofNat 4)))) s144)) (kst e1 9 v142) s9) 0 (λ e165 s166=>ko e165 0 λ v167=>ko e165 1 λ v168
 =>ko e165 3 λ v169=>bnr (cl 327 [v167,v168,v169] s166) λ v170 s171=>nx (λ e172 s173=>.ok .r e172 s173) (kst e165 8 v170) s171)) (kst env 8
  (.b false)) s
theorem fe245 : rf245 = fastOf kf245 := by kernel_rfl
def rf246 : RFun := .mk 1 [.t 2] λ cl env s=>nx (λ e1 s2=>ko e1 0 λ v3=>onp v3 λ b4 o5=>ldK b4 (Nat.add o5 4) s2 λ v6=>oni v6 λ n7=>nx (λ e8 s9=>jn (λ e14 s15=>ko e14 0 λ v16
 =>ko e14 0 λ v17=>onp v17 λ b18 o19=>ldK b18 (Nat.add o19 1) s15 λ v20=>oni v20 λ n21=>frcI (wrapI (arI .sub (.ofNat 1) n21)) λ n22=>
  onp v16 λ b23 o24=>bnr (eKp (.q (.iar (.c (.p b23 (Nat.add o24 2))) (.c (.i n22)) 1 2)) .nil s15 cl) λ v25 s26=>onp v25 λ b27 o28=>bnr (stV
  b27 o28 (.i (.ofNat 0)) s15) λ v29 s30=>nx (λ e31 s32=>nx (λ e33 s34=>.ok .r e33 s34) (kst e31 2 (.b true)) s32) e14 s30) λ k10=>ko e8 7 λ
  v11=>cdK v11 (nx (λ e12 s13=>.ok .r e12 s13) (kst e8 2 (.b false)) s9) (k10 e8 s9)) (kst e1 7 (.b (cmI .gt n7 (.ofNat 0)))) s2) (kst env 2 (.b false))
  s
theorem fe246 : rf246 = fastOf kf246 := by kernel_rfl
def rf247 : RFun := .mk 1 [] λ cl env s=>ko env 0 λ v1=>onp v1 λ b2 o3=>ldK b2 (Nat.add o3 0) s λ v4=>bnr (lenV v4 s) λ v5 s6=>nx (λ e7 s8=>bkK (bindX (lpR (λ cl e9 s10=>ko e9
  9 λ v11=>ko e9 8 λ v12=>oni v11 λ n13=>oni v12 λ n14=>nx (λ e15 s16=>jn (λ e19 s20=>bkK (ko e19 9 λ v21=>nx (λ e22 s23=>ko
  e22 0 λ v24=>onp v24 λ b25 o26=>ldK b25 (Nat.add o26 0) s23 λ v27=>ko e22 2 λ v28=>onSlx v27 λ b29 o30 q31=>oni v28 λ n33=>onON (nat
  n33) λ i32=>ifX (Nat.blt i32 q31) (nx (λ e34 s35=>ko e34 3 λ v36=>onp v36 λ b37 o38=>ldK b37 (Nat.add o38 7) s35 λ v39=>gdK v39 true (λ
  k40=>ko e34 3 λ v43=>k40 v43 s35) s35 λ v41 s42=>gdK v39 true (λ k44=>onp v41 λ b47 o48=>k44 (.p b47 o48) s42) s42 λ v45 s46=>gdK v39
  true (λ k49=>onp v45 λ b52 o53=>k49 (.p b52 (Nat.add o53 0)) s46) s46 λ v50 s51=>gdK v39 true (λ k54=>onp v50 λ b57 o58=>k54 (.p b57
  (Nat.add o58 3)) s51) s51 λ v55 s56=>gdK v39 true (λ k59=>onp v55 λ b62 o63=>ldK b62 o63 s56 λ v64=>k59 v64 s56) s56 λ v60 s61=>gdK v39
  true (λ k65=>oni v60 λ n68=>k65 (.b (cmI .eq n68 (.ofNat 0))) s61) s61 λ v66 s67=>pkK v39 (.ok v66) (.ok (.b false)) λ v69=>nx (λ e70 s71=>
  jn (λ e84 s85=>ko e84 3 λ v86=>onp v86 λ b87 o88=>bnr (stV b87 (Nat.add o88 7) (.b false) s85) λ v89 s90=>nx (idk) e84 s90) λ k72=>ko
  e70 29 λ v73=>cdK v73 (ko e70 3 λ v74=>onp v74 λ b75 o76=>ldK b75 (Nat.add (Nat.add o76 0) 4) s71 λ v77=>oni v77 λ n78=>frcI (wrapI (arI
  .add n78 (.ofNat 1))) λ n79=>onp v74 λ b80 o81=>bnr (stV b80 (Nat.add (Nat.add o81 0) 4) (.i n79) s71) λ v82 s83=>nx (k72) e70 s83) (k72 e70
  s71)) (kst e34 29 v69) s67) (kst e22 3 (.p b29 (Nat.add o30 (Nat.mul i32 8)))) s23)) (kst e19 2 v21) s20) 1 (λ e91 s92=>ko e91 9 λ v93=>oni v93 λ
  n94=>frcI (wrapI (arI .add n94 (.ofNat 1))) λ n95=>nx (idk) (kst e91 9 (.i n95)) s92)) λ k17=>ko e15 10 λ v18=>cdK v18 (k17 e15 s16) (.ok (.x 0)
  e15 s16)) (kst e9 10 (.b (cmI .lt n13 n14))) s10) lpFuel cl e7 s8) (idk)) 0 (idk)) (kst (kst env 8 v5) 9 (.i (.ofNat 0))) s6
theorem fe247 : rf247 = fastOf kf247 := by kernel_rfl
def rf248 : RFun := .mk 1 [.cn 2 7,.t 3] λ cl env s=>bnr (eNew [.i (.ofNat 0),.i (.ofNat 0),.i (.ofNat 0),.i (.ofNat 0),.i (.ofNat 0),.i (.ofNat 0),.ns] .nil s cl) λ v1 s2=>nx (λ e3 s4=>ko e3 0 λ
  v5=>ko e3 0 λ v6=>bnr (cl 328 [v6] s4) λ v7 s8=>bnr (cl 311 [v5,v7] s8) λ v9 s10=>extK v9 0 λ v11=>extK v9 1 λ v12=>ko e3 2 λ v13
 =>onp v13 λ b14 o15=>onAx v11 λ l16=>bnr (stnA 7 b14 o15 l16 s10) λ v17 s18=>nx (λ e19 s20=>.ok .r e19 s20) (kst e3 3 v12) s18) (kst
  (kst env 2 v1) 3 (.b false)) s2
theorem fe248 : rf248 = fastOf kf248 := by kernel_rfl
def rf249 : RFun := .mk 3 [.t 6] λ cl env s=>ko env 0 λ v1=>bnr (boxV v1 s) λ v2 s3=>nx (λ e4 s5=>ko e4 3 λ v6=>onp v6 λ b7 o8=>ldK b7 (Nat.add o8 9) s5 λ v9=>bnr (cl 95 [v9]
  s5) λ v10 s11=>ko e4 1 λ v12=>oni v10 λ n13=>oni v12 λ n14=>nx (λ e15 s16=>jn (λ e21 s22=>ko e21 3 λ v23=>onp v23 λ b24 o25=>
  ldK b24 (Nat.add o25 9) s22 λ v26=>ko e21 1 λ v27=>bnr (cl 329 [v26,v27] s22) λ v28 s29=>extK v28 0 λ v30=>extK v28 1 λ v31=>nx (λ e32
  s33=>ko e32 2 λ v34=>oni v34 λ n35=>gdK (.b (cmI .eq n35 (.ofNat 0))) false (λ k36=>ko e32 8 λ v39=>k36 v39 s33) s33 λ v37 s38=>pkK (.b
  (cmI .eq n35 (.ofNat 0))) (.ok (.b true)) (.ok v37) λ v40=>gdK v40 false (λ k41=>ko e32 3 λ v44=>onp v44 λ b45 o46=>k41 (.p b45 (Nat.add o46
  10)) s38) s38 λ v42 s43=>gdK v40 false (λ k47=>onp v42 λ b50 o51=>ldK b50 o51 s43 λ v52=>k47 v52 s43) s43 λ v48 s49=>gdK v40 false (λ
  k53=>bnr (cl 330 [v48] s49) λ v56 s57=>k53 v56 s57) s49 λ v54 s55=>gdK v40 false (λ k58=>ko e32 2 λ v61=>k58 v61 s55) s55 λ v59 s60=>
  gdK v40 false (λ k62=>oni v54 λ n65=>oni v59 λ n66=>k62 (.b (cmI .ge n65 n66)) s60) s60 λ v63 s64=>pkK v40 (.ok (.b true)) (.ok v63) λ v67
 =>nx (λ e68 s69=>.ok .r e68 s69) (kst e32 6 v67) s64) (kst e21 8 v31) s29) λ k17=>ko e15 13 λ v18=>cdK v18 (nx (λ e19 s20=>.ok .r e19 s20)
  (kst e15 6 (.b false)) s16) (k17 e15 s16)) (kst e4 13 (.b (cmI .lt n13 n14))) s11) (kst (kst env 3 v2) 6 (.b false)) s3
theorem fe249 : rf249 = fastOf kf249 := by kernel_rfl
def rf250 : RFun := .mk 3 [.t 6,.t 7] λ cl env s=>ko env 0 λ v1=>bnr (boxV v1 s) λ v2 s3=>nx (λ e4 s5=>ko e4 3 λ v6=>onp v6 λ b7 o8=>ldK b7 (Nat.add o8 9) s5 λ v9=>ko e4 1 λ v10=>
  bnr (cl 331 [v9,v10] s5) λ v11 s12=>extK v11 0 λ v13=>extK v11 1 λ v14=>nx (λ e15 s16=>ko e15 2 λ v17=>oni v17 λ n18=>gdK (.b (cmI
  .eq n18 (.ofNat 0))) false (λ k19=>ko e15 8 λ v22=>k19 v22 s16) s16 λ v20 s21=>gdK (.b (cmI .eq n18 (.ofNat 0))) false (λ k23=>bnr (cl 316
  [v20] s21) λ v26 s27=>k23 v26 s27) s21 λ v24 s25=>pkK (.b (cmI .eq n18 (.ofNat 0))) (.ok (.b true)) (.ok v24) λ v28=>nx (λ e29 s30=>jn (λ e36
  s37=>ko e36 3 λ v38=>onp v38 λ b39 o40=>ldK b39 (Nat.add o40 10) s37 λ v41=>ko e36 2 λ v42=>bnr (cl 332 [v41,v42] s37) λ v43 s44=>
  extK v43 0 λ v45=>extK v43 1 λ v46=>nx (λ e47 s48=>ko e47 3 λ v49=>onp v49 λ b50 o51=>bnr (ldnP 9 b50 (Nat.add o51 0) s48) λ v52 s53
 =>ko e47 3 λ v54=>onp v54 λ b55 o56=>ldK b55 (Nat.add o56 10) s48 λ v57=>bnr (cl 159 [v57] s48) λ v58 s59=>ko e47 10 λ v60=>bnr (cl
  333 [v52,v58,v60] s48) λ v61 s62=>extK v61 0 λ v63=>extK v61 1 λ v64=>nx (λ e65 s66=>ko e65 8 λ v67=>ko e65 12 λ v68=>nx (λ e69 s70
 =>.ok .r e69 s70) (kst (kst e65 6 v67) 7 v68) s66) (kst e47 12 v63) s62) (kst e36 10 v45) s44) λ k31=>ko e29 26 λ v32=>cdK v32 (ko e29 8 λ v33
 =>nx (λ e34 s35=>.ok .r e34 s35) (kst (kst e29 6 v33) 7 (.i (.negSucc 0))) s30) (k31 e29 s30)) (kst e15 26 v28) s25) (kst e4 8 v13) s12) (kst (kst
  (kst env 3 v2) 6 (.ns)) 7 (.i (.ofNat 0))) s3
theorem fe250 : rf250 = fastOf kf250 := by kernel_rfl
def rf251 : RFun := .mk 4 [] λ cl env s=>ko env 1 λ v1=>bnr (lenV v1 s) λ v2 s3=>nx (λ e4 s5=>bkK (bindX (lpR (λ cl e6 s7=>ko e6 12 λ v8=>ko e6 11 λ v9=>oni v8 λ n10=>oni
  v9 λ n11=>nx (λ e12 s13=>jn (λ e16 s17=>bkK (ko e16 10 λ v18=>ko e16 12 λ v19=>onSlx v18 λ b20 o21 q22=>oni v19 λ n24=>onON (nat
  n24) λ i23=>ifX (Nat.blt i23 q22) (ldK b20 (Nat.add o21 (Nat.mul i23 1)) s17 λ v25=>nx (λ e26 s27=>ko e26 0 λ v28=>onp v28 λ b29 o30=>ldK
  b29 (Nat.add o30 0) s27 λ v31=>ko e26 9 λ v32=>ko e26 2 λ v33=>ko e26 3 λ v34=>bnr (cl 289 [v31,v32,v33,(.b false),v34] s27) λ v35 s36
 =>nx (idk) e26 s36) (kst e16 9 v25) s17)) 1 (λ e37 s38=>ko e37 12 λ v39=>oni v39 λ n40=>frcI (wrapI (arI .add n40 (.ofNat 1))) λ n41=>nx
  (idk) (kst e37 12 (.i n41)) s38)) λ k14=>ko e12 13 λ v15=>cdK v15 (k14 e12 s13) (.ok (.x 0) e12 s13)) (kst e6 13 (.b (cmI .lt n10 n11))) s7) lpFuel
  cl e4 s5) (idk)) 0 (idk)) (kst (kst (kst env 10 v1) 11 v2) 12 (.i (.ofNat 0))) s3
theorem fe251 : rf251 = fastOf kf251 := by kernel_rfl
def rf252 : RFun := .mk 3 [.t 6] λ cl env s=>nx (λ e1 s2=>ko e1 0 λ v3=>bnr (cl 328 [v3] s2) λ v4 s5=>nx (λ e6 s7=>ko e6 7 λ v8=>oni v8 λ n9=>nx (λ e10 s11=>jn (λ e16 s17=>
  ko e16 0 λ v18=>onp v18 λ b19 o20=>ldK b19 (Nat.add o20 0) s17 λ v21=>ko e16 7 λ v22=>onSlx v21 λ b23 o24 q25=>oni v22 λ n27=>onON
  (nat n27) λ i26=>ifX (Nat.blt i26 q25) (nx (λ e28 s29=>ko e28 8 λ v30=>ko e28 8 λ v31=>ko e28 8 λ v32=>ko e28 1 λ v33=>bnr (cl 334
  [v33] s29) λ v34 s35=>ko e28 2 λ v36=>onp v30 λ b37 o38=>bnr (stV b37 (Nat.add o38 3) (.i (.ofNat 1)) s35) λ v39 s40=>onp v31 λ b41 o42
 =>bnr (stV b41 (Nat.add o42 6) v34 s40) λ v43 s44=>onp v32 λ b45 o46=>bnr (stV b45 (Nat.add o46 5) v36 s44) λ v47 s48=>nx (λ e49 s50=>nx
  (λ e51 s52=>.ok .r e51 s52) (kst e49 6 (.b true)) s50) e28 s48) (kst e16 8 (.p b23 (Nat.add (Nat.add o24 (Nat.mul i26 8)) 0))) s17)) λ k12=>ko e10 12
  λ v13=>cdK v13 (nx (λ e14 s15=>.ok .r e14 s15) (kst e10 6 (.b false)) s11) (k12 e10 s11)) (kst e6 12 (.b (cmI .lt n9 (.ofNat 0)))) s7) (kst e1 7 v4)
  s5) (kst env 6 (.b false)) s
theorem fe252 : rf252 = fastOf kf252 := by kernel_rfl
def rf253 : RFun := .mk 1 [.t 2] λ cl env s=>nx (λ e1 s2=>ko e1 0 λ v3=>bnr (cl 328 [v3] s2) λ v4 s5=>nx (λ e6 s7=>ko e6 3 λ v8=>oni v8 λ n9=>nx (λ e10 s11=>jn (λ e16 s17=>
  ko e16 0 λ v18=>onp v18 λ b19 o20=>ldK b19 (Nat.add o20 0) s17 λ v21=>ko e16 3 λ v22=>onSlx v21 λ b23 o24 q25=>oni v22 λ n27=>onON
  (nat n27) λ i26=>ifX (Nat.blt i26 q25) (bnr (stV b23 (Nat.add (Nat.add (Nat.add o24 (Nat.mul i26 8)) 0) 3) (.i (.ofNat 2)) s17) λ v28 s29=>nx (λ
  e30 s31=>nx (λ e32 s33=>.ok .r e32 s33) (kst e30 2 (.b true)) s31) e16 s29)) λ k12=>ko e10 7 λ v13=>cdK v13 (nx (λ e14 s15=>.ok .r e14 s15)
  (kst e10 2 (.b false)) s11) (k12 e10 s11)) (kst e6 7 (.b (cmI .lt n9 (.ofNat 0)))) s7) (kst e1 3 v4) s5) (kst env 2 (.b false)) s
theorem fe253 : rf253 = fastOf kf253 := by kernel_rfl
def rf254 : RFun := .mk 3 [.t 6,.t 7] λ cl env s=>ko env 0 λ v1=>bnr (boxV v1 s) λ v2 s3=>nx (λ e4 s5=>ko e4 1 λ v6=>oni v6 λ n7=>gdK (.b (cmI .lt n7 (.ofNat 0))) false (λ k8=>ko e4 1
  λ v11=>k8 v11 s5) s5 λ v9 s10=>gdK (.b (cmI .lt n7 (.ofNat 0))) false (λ k12=>ko e4 3 λ v15=>onp v15 λ b16 o17=>k12 (.p b16 (Nat.add o17
  0)) s10) s10 λ v13 s14=>gdK (.b (cmI .lt n7 (.ofNat 0))) false (λ k18=>onp v13 λ b21 o22=>ldK b21 o22 s14 λ v23=>k18 v23 s14) s14 λ v19 s20
 =>gdK (.b (cmI .lt n7 (.ofNat 0))) false (λ k24=>oni v9 λ n27=>oni v19 λ n28=>k24 (.b (cmI .ge n27 n28)) s20) s20 λ v25 s26=>pkK (.b (cmI
  .lt n7 (.ofNat 0))) (.ok (.b true)) (.ok v25) λ v29=>gdK v29 false (λ k30=>ko e4 2 λ v33=>k30 v33 s26) s26 λ v31 s32=>gdK v29 false (λ k34=>
  oni v31 λ n37=>k34 (.b (cmI .lt n37 (.ofNat 0))) s32) s32 λ v35 s36=>pkK v29 (.ok (.b true)) (.ok v35) λ v38=>gdK v38 false (λ k39=>ko e4 2
  λ v42=>k39 v42 s36) s36 λ v40 s41=>gdK v38 false (λ k43=>oni v40 λ n46=>k43 (.b (cmI .ge n46 (.ofNat 8))) s41) s41 λ v44 s45=>pkK v38 (.ok
  (.b true)) (.ok v44) λ v47=>gdK v47 false (λ k48=>ko e4 3 λ v51=>onp v51 λ b52 o53=>bnr (ldnP 9 b52 o53 s45) λ v54 s55=>k48 v54 s55) s45
  λ v49 s50=>gdK v47 false (λ k56=>bnr (cl 115 [v49] s50) λ v59 s60=>k56 v59 s60) s50 λ v57 s58=>gdK v47 false (λ k61=>oni v57 λ n64=>
  k61 (.b (cmI .ne n64 (.ofNat 0))) s58) s58 λ v62 s63=>pkK v47 (.ok (.b true)) (.ok v62) λ v65=>nx (λ e66 s67=>jn (λ e72 s73=>ko e72 3 λ v74
 =>onp v74 λ b75 o76=>bnr (ldnP 9 b75 o76 s73) λ v77 s78=>ko e72 1 λ v79=>oni v79 λ n80=>frcI (wrapI (arI .mul n80 (.ofNat 8))) λ n81=>
  ko e72 2 λ v82=>oni v82 λ n83=>frcI (wrapI (arI .add n81 n83)) λ n84=>bnr (cl 199 [v77,(.i (.ofNat 1)),(.i n84)] s78) λ v85 s86=>extK v85
  0 λ v87=>extK v85 1 λ v88=>nx (λ e89 s90=>.ok .r e89 s90) (kst (kst e72 6 v87) 7 v88) s86) λ k68=>ko e66 28 λ v69=>cdK v69 (nx (λ e70
  s71=>.ok .r e70 s71) (kst (kst e66 6 (.i (.ofNat 0))) 7 (.i (.ofNat 1))) s67) (k68 e66 s67)) (kst e4 28 v65) s63) (kst (kst (kst env 3 v2) 6 (.i
  (.ofNat 0))) 7 (.i (.ofNat 0))) s3
theorem fe254 : rf254 = fastOf kf254 := by kernel_rfl
def rf259 : RFun := .mk 2 [.t 4] λ cl env s=>ko env 0 λ v1=>bnr (boxV v1 s) λ v2 s3=>nx (λ e4 s5=>ko e4 2 λ v6=>onp v6 λ b7 o8=>ldK b7 (Nat.add o8 1) s5 λ v9=>bnr (lenV v9 s5)
  λ v10 s11=>nx (λ e12 s13=>bkK (ko e12 2 λ v14=>onp v14 λ b15 o16=>bnr (ldnP 2 b15 o16 s13) λ v17 s18=>bnr (cl 190 [v17] s18) λ v19
  s20=>onBx v19 λ c21=>gdK (.b (neg c21)) false (λ k22=>ko e12 1 λ v25=>k22 v25 s20) s20 λ v23 s24=>gdK (.b (neg c21)) false (λ k26=>oni
  v23 λ n29=>k26 (.b (cmI .lt n29 (.ofNat 0))) s24) s24 λ v27 s28=>pkK (.b (neg c21)) (.ok (.b true)) (.ok v27) λ v30=>gdK v30 false (λ k31=>ko
  e12 1 λ v34=>k31 v34 s28) s28 λ v32 s33=>gdK v30 false (λ k35=>oni v32 λ n38=>k35 (.b (cmI .gt n38 (.ofNat 512))) s33) s33 λ v36 s37=>pkK
  v30 (.ok (.b true)) (.ok v36) λ v39=>gdK v39 false (λ k40=>ko e12 2 λ v43=>onp v43 λ b44 o45=>k40 (.p b44 (Nat.add o45 0)) s37) s37 λ v41
  s42=>gdK v39 false (λ k46=>onp v41 λ b49 o50=>ldK b49 o50 s42 λ v51=>k46 v51 s42) s42 λ v47 s48=>gdK v39 false (λ k52=>onBx v47 λ c55
 =>k52 (.b (neg c55)) s48) s48 λ v53 s54=>gdK v39 false (λ k56=>k56 v53 s54) s54 λ v57 s58=>gdK v57 true (λ k59=>ko e12 1 λ v62=>k59 v62
  s58) s58 λ v60 s61=>gdK v57 true (λ k63=>oni v60 λ n66=>k63 (.b (cmI .gt n66 (.ofNat 0))) s61) s61 λ v64 s65=>gdK v39 false (λ k67=>pkK
  v57 (.ok v64) (.ok (.b false)) λ v70=>k67 v70 s65) s65 λ v68 s69=>pkK v39 (.ok (.b true)) (.ok v68) λ v71=>nx (λ e72 s73=>jn (idk) λ k74=>
  ko e72 9 λ v75=>cdK v75 (nx (λ e76 s77=>.ok .r e76 s77) (kst e72 4 (.i (.negSucc 0))) s73) (ko e72 2 λ v78=>onp v78 λ b79 o80=>ldK b79
  (Nat.add o80 0) s73 λ v81=>nx (λ e82 s83=>jn (k74) λ k84=>ko e82 30 λ v85=>cdK v85 (ko e82 1 λ v86=>bnr (cl 320 [v86] s83) λ v87 s88=>
  oni v87 λ n89=>frcI (wrapI (arI .add (.ofNat 1) n89)) λ n90=>nx (λ e91 s92=>.ok .r e91 s92) (kst e82 4 (.i n90)) s88) (ko e82 5 λ v93=>oni
  v93 λ n94=>nx (λ e95 s96=>jn (k84) λ k97=>ko e95 36 λ v98=>cdK v98 (nx (λ e99 s100=>.ok .r e99 s100) (kst e95 4 (.i (.ofNat 1))) s96) (k97
  e95 s96)) (kst e82 36 (.b (cmI .le n94 (.ofNat 6)))) s83)) (kst e72 30 v81) s73)) (kst e12 9 v71) s69) 0 (λ e101 s102=>ko e101 5 λ v103=>oni v103
  λ n104=>frcI (wrapI (arI .sub n104 (.ofNat 6))) λ n105=>bnr (cl 335 [(.i n105),(.i (.ofNat 7))] s102) λ v106 s107=>oni v106 λ n108=>frcI
  (wrapI (arI .add (.ofNat 1) n108)) λ n109=>nx (λ e110 s111=>.ok .r e110 s111) (kst e101 4 (.i n109)) s107)) (kst e4 5 v10) s11) (kst (kst env 2 v2)
  4 (.i (.ofNat 0))) s3
theorem fe259 : rf259 = fastOf kf259 := by kernel_rfl
def rf260 : RFun := .mk 2 [.t 4,.t 5,.t 6] λ cl env s=>ko env 0 λ v1=>bnr (boxV v1 s) λ v2 s3=>nx (λ e4 s5=>bkK (ko e4 2 λ v6=>onp v6 λ b7 o8=>bnr (ldnP 2 b7 o8 s5) λ v9 s10=>bnr (cl
  190 [v9] s10) λ v11 s12=>onBx v11 λ c13=>gdK (.b (neg c13)) false (λ k14=>ko e4 2 λ v17=>onp v17 λ b18 o19=>k14 (.p b18 (Nat.add o19 0))
  s12) s12 λ v15 s16=>gdK (.b (neg c13)) false (λ k20=>onp v15 λ b23 o24=>ldK b23 o24 s16 λ v25=>k20 v25 s16) s16 λ v21 s22=>pkK (.b (neg
  c13)) (.ok (.b true)) (.ok v21) λ v26=>gdK v26 false (λ k27=>ko e4 1 λ v30=>k27 v30 s22) s22 λ v28 s29=>gdK v26 false (λ k31=>oni v28 λ
  n34=>k31 (.b (cmI .lt n34 (.ofNat 0))) s29) s29 λ v32 s33=>pkK v26 (.ok (.b true)) (.ok v32) λ v35=>gdK v35 false (λ k36=>ko e4 1 λ v39=>k36
  v39 s33) s33 λ v37 s38=>gdK v35 false (λ k40=>ko e4 2 λ v43=>onp v43 λ b44 o45=>k40 (.p b44 (Nat.add o45 1)) s38) s38 λ v41 s42=>gdK v35
  false (λ k46=>onp v41 λ b49 o50=>ldK b49 o50 s42 λ v51=>k46 v51 s42) s42 λ v47 s48=>gdK v35 false (λ k52=>bnr (lenV v47 s48) λ v55 s56
 =>k52 v55 s56) s48 λ v53 s54=>gdK v35 false (λ k57=>oni v37 λ n60=>oni v53 λ n61=>k57 (.b (cmI .ge n60 n61)) s54) s54 λ v58 s59=>pkK v35
  (.ok (.b true)) (.ok v58) λ v62=>nx (λ e63 s64=>jn (idk) λ k65=>ko e63 7 λ v66=>cdK v66 (nx (λ e67 s68=>.ok .r e67 s68) (kst (kst (kst
  e63 4 (.i (.ofNat 0))) 5 (.i (.ofNat 0))) 6 (.b false)) s64) (ko e63 1 λ v69=>oni v69 λ n70=>nx (λ e71 s72=>jn (k65) λ k73=>ko e71 26 λ v74
 =>cdK v74 (ko e71 1 λ v75=>oni v75 λ n76=>frcI (wrapI (arI .add (.ofNat 2) n76)) λ n77=>nx (λ e78 s79=>.ok .r e78 s79) (kst (kst (kst e71
  4 (.i (.ofNat 0))) 5 (.i n77)) 6 (.b true)) s72) (k73 e71 s72)) (kst e63 26 (.b (cmI .lt n70 (.ofNat 6)))) s64)) (kst e4 7 v62) s59) 0 (λ e80 s81=>ko e80
  1 λ v82=>oni v82 λ n83=>frcI (wrapI (arI .sub n83 (.ofNat 6))) λ n84=>bnr (eKp (.q (.quo (.c (.i n84)) (.c (.i (.ofNat 7))))) .nil s81 cl) λ
  v85 s86=>oni v85 λ n87=>frcI (wrapI (arI .add (.ofNat 1) n87)) λ n88=>ko e80 1 λ v89=>oni v89 λ n90=>frcI (wrapI (arI .sub n90 (.ofNat 6)))
  λ n91=>bnr (eKp (.q (.rem (.c (.i n91)) (.c (.i (.ofNat 7))))) .nil s86 cl) λ v92 s93=>oni v92 λ n94=>frcI (wrapI (arI .add (.ofNat 1) n94)) λ
  n95=>nx (λ e96 s97=>.ok .r e96 s97) (kst (kst (kst e80 4 (.i n88)) 5 (.i n95)) 6 (.b true)) s93)) (kst (kst (kst (kst env 2 v2) 4 (.i (.ofNat 0)))
  5 (.i (.ofNat 0))) 6 (.b false)) s3
theorem fe260 : rf260 = fastOf kf260 := by kernel_rfl
def rf287 : RFun := .mk 2 [.t 4] λ cl env s=>nx (λ e1 s2=>ko e1 0 λ v3=>bnr (lenV v3 s2) λ v4 s5=>nx (λ e6 s7=>bkK (bindX (lpR (λ cl e8 s9=>ko e8 8 λ v10=>ko e8 7 λ v11=>oni
  v10 λ n12=>oni v11 λ n13=>nx (λ e14 s15=>jn (λ e18 s19=>bkK (ko e18 8 λ v20=>nx (λ e21 s22=>ko e21 1 λ v23=>ko e21 0 λ v24=>ko
  e21 5 λ v25=>onSlx v24 λ b26 o27 q28=>oni v25 λ n30=>onON (nat n30) λ i29=>ifX (Nat.blt i29 q28) (bnr (ldnP 2 b26 (Nat.add o27 (Nat.mul i29
  2)) s22) λ v31 s32=>cvK v23 [v31] s32 cl λ v33 s34=>nx (λ e35 s36=>jn (idk) λ k37=>ko e35 16 λ v38=>cdK v38 (ko e35 5 λ v39=>nx (λ
  e40 s41=>.ok .r e40 s41) (kst e35 4 v39) s36) (k37 e35 s36)) (kst e21 16 v33) s34)) (kst e18 5 v20) s19) 1 (λ e42 s43=>ko e42 8 λ v44=>oni v44
  λ n45=>frcI (wrapI (arI .add n45 (.ofNat 1))) λ n46=>nx (idk) (kst e42 8 (.i n46)) s43)) λ k16=>ko e14 9 λ v17=>cdK v17 (k16 e14 s15) (.ok (.x
  0) e14 s15)) (kst e8 9 (.b (cmI .lt n12 n13))) s9) lpFuel cl e6 s7) (idk)) 0 (λ e47 s48=>nx (λ e49 s50=>.ok .r e49 s50) (kst e47 4 (.i (.negSucc 0)))
  s48)) (kst (kst e1 7 v4) 8 (.i (.ofNat 0))) s5) (kst env 4 (.i (.ofNat 0))) s
theorem fe287 : rf287 = fastOf kf287 := by kernel_rfl
def rf288 : RFun := .mk 1 [.t 2] λ cl env s=>nx (λ e1 s2=>ko e1 0 λ v3=>bnr (nilsV true v3 s2) λ v4 s5=>nx (λ e6 s7=>jn (λ e12 s13=>bnr (oL (fill .nil (repL [.b false] 0) .nil) (bsl1
  0 (lenL [.b false])) s13) λ v14 s15=>ko e12 0 λ v16=>bnr (ap0 1 1 (.ok v16) v14 s15) λ v17 s18=>nx (λ e19 s20=>.ok .r e19 s20) (kst e12 2
  v17) s18) λ k8=>ko e6 4 λ v9=>cdK v9 (nx (λ e10 s11=>.ok .r e10 s11) (kst e6 2 (.ns)) s7) (k8 e6 s7)) (kst e1 4 v4) s5) (kst env 2 (.ns)) s
theorem fe288 : rf288 = fastOf kf288 := by kernel_rfl
def rf289 : RFun := .mk 5 [.t 10] λ cl env s=>nx (λ e1 s2=>ko e1 0 λ v3=>ko e1 1 λ v4=>bnr (cl 79 [v3,v4] s2) λ v5 s6=>onBx v5 λ c7=>gdK (.b (neg c7)) false (λ k8=>ko e1 2 λ v11
 =>k8 v11 s6) s6 λ v9 s10=>gdK (.b (neg c7)) false (λ k12=>oni v9 λ n15=>k12 (.b (cmI .lt n15 (.ofNat 0))) s10) s10 λ v13 s14=>pkK (.b (neg
  c7)) (.ok (.b true)) (.ok v13) λ v16=>gdK v16 false (λ k17=>ko e1 2 λ v20=>k17 v20 s14) s14 λ v18 s19=>gdK v16 false (λ k21=>oni v18 λ
  n24=>k21 (.b (cmI .gt n24 (.ofNat 2))) s19) s19 λ v22 s23=>pkK v16 (.ok (.b true)) (.ok v22) λ v25=>nx (λ e26 s27=>jn (λ e32 s33=>ko e32 0
  λ v34=>ko e32 0 λ v35=>onp v35 λ b36 o37=>ldK b36 (Nat.add o37 0) s33 λ v38=>ko e32 1 λ v39=>onSlx v38 λ b40 o41 q42=>oni v39 λ n44
 =>onON (nat n44) λ i43=>ifX (Nat.blt i43 q42) (ldK b40 (Nat.add (Nat.add o41 (Nat.mul i43 3)) 0) s33 λ v45=>onp v34 λ b46 o47=>bnr (eKp (.q
  (.iar (.c (.p b46 (Nat.add o47 1))) (.c v45) 1 3)) .nil s33 cl) λ v48 s49=>onp v48 λ b50 o51=>ldK b50 o51 s33 λ v52=>oni v52 λ n53=>frcI
  (wrapI (arI .sub n53 (.ofNat 1))) λ n54=>onp v34 λ b55 o56=>bnr (eKp (.q (.iar (.c (.p b55 (Nat.add o56 1))) (.c v45) 1 3)) .nil s33 cl) λ v57 s58
 =>onp v57 λ b59 o60=>bnr (stV b59 o60 (.i n54) s33) λ v61 s62=>nx (λ e63 s64=>ko e63 0 λ v65=>ko e63 2 λ v66=>onp v65 λ b67 o68=>
  bnr (eKp (.q (.iar (.c (.p b67 (Nat.add o68 1))) (.c v66) 1 3)) .nil s64 cl) λ v69 s70=>onp v69 λ b71 o72=>ldK b71 o72 s64 λ v73=>oni v73 λ
  n74=>frcI (wrapI (arI .add n74 (.ofNat 1))) λ n75=>onp v65 λ b76 o77=>bnr (eKp (.q (.iar (.c (.p b76 (Nat.add o77 1))) (.c v66) 1 3)) .nil s64 cl)
  λ v78 s79=>onp v78 λ b80 o81=>bnr (stV b80 o81 (.i n75) s64) λ v82 s83=>nx (λ e84 s85=>ko e84 0 λ v86=>onp v86 λ b87 o88=>ldK b87
  (Nat.add o88 0) s85 λ v89=>ko e84 1 λ v90=>ko e84 2 λ v91=>ko e84 3 λ v92=>gdK v92 true (λ k93=>ko e84 2 λ v96=>k93 v96 s85) s85 λ
  v94 s95=>gdK v92 true (λ k97=>oni v94 λ n100=>k97 (.b (cmI .eq n100 (.ofNat 2))) s95) s95 λ v98 s99=>pkK v92 (.ok v98) (.ok (.b false)) λ v101
 =>ko e84 4 λ v102=>bnr (oL (fill (.cons 0 1 (.c v91) (.cons 1 1 (.c v101) (.cons 2 1 (.c v102) .nil))) [.i (.ofNat 0),.b false,.b false] .nil) okA
  s99) λ v103 s104=>onSlx v89 λ b105 o106 q107=>oni v90 λ n109=>onON (nat n109) λ i108=>ifX (Nat.blt i108 q107) (onAx v103 λ l110=>bnr
  (stnA 3 b105 (Nat.add o106 (Nat.mul i108 3)) l110 s104) λ v111 s112=>nx (λ e113 s114=>nx (λ e115 s116=>.ok .r e115 s116) (kst e113 10 (.b true))
  s114) e84 s112)) e63 s83) e32 s62)) λ k28=>ko e26 22 λ v29=>cdK v29 (nx (λ e30 s31=>.ok .r e30 s31) (kst e26 10 (.b false)) s27) (k28 e26 s27))
  (kst e1 22 v25) s23) (kst env 10 (.b false)) s
theorem fe289 : rf289 = fastOf kf289 := by kernel_rfl
def rf290 : RFun := .mk 2 [.t 4] λ cl env s=>nx (λ e1 s2=>ko e1 1 λ v3=>oni v3 λ n4=>gdK (.b (cmI .lt n4 (.ofNat 0))) false (λ k5=>ko e1 1 λ v8=>k5 v8 s2) s2 λ v6 s7=>gdK (.b (cmI
  .lt n4 (.ofNat 0))) false (λ k9=>ko e1 0 λ v12=>k9 v12 s7) s7 λ v10 s11=>gdK (.b (cmI .lt n4 (.ofNat 0))) false (λ k13=>onp v10 λ b16 o17=>
  k13 (.p b16 o17) s11) s11 λ v14 s15=>gdK (.b (cmI .lt n4 (.ofNat 0))) false (λ k18=>onp v14 λ b21 o22=>k18 (.p b21 (Nat.add o22 0)) s15) s15 λ
  v19 s20=>gdK (.b (cmI .lt n4 (.ofNat 0))) false (λ k23=>onp v19 λ b26 o27=>ldK b26 o27 s20 λ v28=>k23 v28 s20) s20 λ v24 s25=>gdK (.b (cmI
  .lt n4 (.ofNat 0))) false (λ k29=>bnr (lenV v24 s25) λ v32 s33=>k29 v32 s33) s25 λ v30 s31=>gdK (.b (cmI .lt n4 (.ofNat 0))) false (λ k34=>
  oni v6 λ n37=>oni v30 λ n38=>k34 (.b (cmI .ge n37 n38)) s31) s31 λ v35 s36=>pkK (.b (cmI .lt n4 (.ofNat 0))) (.ok (.b true)) (.ok v35) λ v39=>
  gdK v39 false (λ k40=>ko e1 0 λ v43=>k40 v43 s36) s36 λ v41 s42=>gdK v39 false (λ k44=>onp v41 λ b47 o48=>k44 (.p b47 o48) s42) s42 λ
  v45 s46=>gdK v39 false (λ k49=>onp v45 λ b52 o53=>k49 (.p b52 (Nat.add o53 0)) s46) s46 λ v50 s51=>gdK v39 false (λ k54=>onp v50 λ b57
  o58=>ldK b57 o58 s51 λ v59=>k54 v59 s51) s51 λ v55 s56=>gdK v39 false (λ k60=>ko e1 1 λ v63=>k60 v63 s56) s56 λ v61 s62=>gdK v39 false
  (λ k64=>onSlx v55 λ b67 o68 q69=>oni v61 λ n71=>onON (nat n71) λ i70=>ifX (Nat.blt i70 q69) (k64 (.p b67 (Nat.add o68 (Nat.mul i70 1))) s62))
  s62 λ v65 s66=>gdK v39 false (λ k72=>onp v65 λ b75 o76=>ldK b75 o76 s66 λ v77=>k72 v77 s66) s66 λ v73 s74=>pkK v39 (.ok (.b true)) (.ok
  v73) λ v78=>nx (λ e79 s80=>jn (λ e85 s86=>ko e85 0 λ v87=>onp v87 λ b88 o89=>ldK b88 (Nat.add o89 0) s86 λ v90=>ko e85 1 λ v91=>
  onSlx v90 λ b92 o93 q94=>oni v91 λ n96=>onON (nat n96) λ i95=>ifX (Nat.blt i95 q94) (bnr (stV b92 (Nat.add o93 (Nat.mul i95 1)) (.b true) s86)
  λ v97 s98=>nx (λ e99 s100=>ko e99 0 λ v101=>onp v101 λ b102 o103=>ldK b102 (Nat.add o103 1) s100 λ v104=>oni v104 λ n105=>frcI (wrapI
  (arI .add n105 (.ofNat 1))) λ n106=>onp v101 λ b107 o108=>bnr (stV b107 (Nat.add o108 1) (.i n106) s100) λ v109 s110=>nx (λ e111 s112=>nx
  (λ e113 s114=>.ok .r e113 s114) (kst e111 4 (.b true)) s112) e99 s110) e85 s98)) λ k81=>ko e79 24 λ v82=>cdK v82 (nx (λ e83 s84=>.ok .r e83
  s84) (kst e79 4 (.b false)) s80) (k81 e79 s80)) (kst e1 24 v78) s74) (kst env 4 (.b false)) s
theorem fe290 : rf290 = fastOf kf290 := by kernel_rfl
def rf291 : RFun := .mk 1 [.t 2,.t 3] λ cl env s=>nx (λ e1 s2=>bnr (oL (fill (.cons 0 1 (.c (.s [])) (.cons 1 1 (.c (.s [])) .nil)) [.s [],.s []] .nil) okA s2) λ v3 s4=>bnr (oL (fill (.cons 0 1 (.c
  (.s [110,101,119])) (.cons 1 1 (.c (.s [97,107])) .nil)) [.s [],.s []] .nil) okA s4) λ v5 s6=>bnr (oL (fill (.cons 0 1 (.c (.s [97,114,114,97,
  121])) (.cons 1 1 (.c (.s [97,107,110])) .nil)) [.s [],.s []] .nil) okA s6) λ v7 s8=>bnr (oL (fill (.cons 0 1 (.c (.s [108,111,97,100])) (.cons 1 1
  (.c (.s [97,98,110])) .nil)) [.s [],.s []] .nil) okA s8) λ v9 s10=>bnr (oL (fill (.cons 0 1 (.c (.s [115,116,111,114,101])) (.cons 1 1 (.c (.s
  [97,110,98])) .nil)) [.s [],.s []] .nil) okA s10) λ v11 s12=>bnr (oL (fill (.cons 0 1 (.c (.s [103,101,116])) (.cons 1 1 (.c (.s [97,98,110]))
  .nil)) [.s [],.s []] .nil) okA s12) λ v13 s14=>bnr (oL (fill (.cons 0 1 (.c (.s [112,117,116])) (.cons 1 1 (.c (.s [97,110,98])) .nil)) [.s [],.s
  []] .nil) okA s14) λ v15 s16=>bnr (oL (fill (.cons 0 1 (.c (.s [108,111,111,107])) (.cons 1 1 (.c (.s [97,103])) .nil)) [.s [],.s []] .nil) okA s16)
  λ v17 s18=>bnr (oL (fill (.cons 0 1 (.c (.s [115,101,116])) (.cons 1 1 (.c (.s [103,98])) .nil)) [.s [],.s []] .nil) okA s18) λ v19 s20=>bnr
  (oL (fill (.cons 0 1 (.c (.s [115,97,109,101])) (.cons 1 1 (.c (.s [97,98,99])) .nil)) [.s [],.s []] .nil) okA s20) λ v21 s22=>bnr (oL (fill (.cons
  0 1 (.c (.s [108,101,110,103,116,104])) (.cons 1 1 (.c (.s [97,98])) .nil)) [.s [],.s []] .nil) okA s22) λ v23 s24=>bnr (oL (fill (.cons 0 1 (.c
  (.s [107,105,110,100])) (.cons 1 1 (.c (.s [97,98])) .nil)) [.s [],.s []] .nil) okA s24) λ v25 s26=>bnr (oL (fill (.cons 0 1 (.c (.s [110,117,109,
  98,101,114])) (.cons 1 1 (.c (.s [97,122])) .nil)) [.s [],.s []] .nil) okA s26) λ v27 s28=>bnr (oL (fill (.cons 0 1 (.c (.s [99,108,101,97,114]))
  (.cons 1 1 (.c (.s [97])) .nil)) [.s [],.s []] .nil) okA s28) λ v29 s30=>bnr (oL (fill (.cons 0 1 (.c (.s [99,111,112,121])) (.cons 1 1 (.c (.s [97,
  98])) .nil)) [.s [],.s []] .nil) okA s30) λ v31 s32=>bnr (oL (fill (.cons 0 1 (.c (.s [97,100,100])) (.cons 1 1 (.c (.s [97,98,99])) .nil)) [.s [],
  .s []] .nil) okA s32) λ v33 s34=>bnr (oL (fill (.cons 0 1 (.c (.s [109,117,108])) (.cons 1 1 (.c (.s [97,98,99])) .nil)) [.s [],.s []] .nil) okA
  s34) λ v35 s36=>bnr (oL (fill (.cons 0 1 (.c (.s [99,111,108,108,101,99,116])) (.cons 1 1 (.c (.s [])) .nil)) [.s [],.s []] .nil) okA s36) λ v37
  s38=>bnr (oL (fill (.cons 0 1 (.c (.s [108,101,97,118,101])) (.cons 1 1 (.c (.s [])) .nil)) [.s [],.s []] .nil) okA s38) λ v39 s40=>bnr (oL
  (fill (.cons 0 2 (.c v3) (.cons 2 2 (.c v5) (.cons 4 2 (.c v7) (.cons 6 2 (.c v9) (.cons 8 2 (.c v11) (.cons 10 2 (.c v13) (.cons 12 2 (.c v15) (.cons 14 2 (.c
  v17) (.cons 16 2 (.c v19) (.cons 18 2 (.c v21) (.cons 20 2 (.c v23) (.cons 22 2 (.c v25) (.cons 24 2 (.c v27) (.cons 26 2 (.c v29) (.cons 28 2 (.c v31) (.cons
  30 2 (.c v33) (.cons 32 2 (.c v35) (.cons 34 2 (.c v37) (.cons 36 2 (.c v39) .nil))))))))))))))))))) (repL [.s [],.s []] 19) .nil) (bsl1 19 (lenL [.s [],.s
  []])) s40) λ v41 s42=>nx (λ e43 s44=>ko e43 0 λ v45=>oni v45 λ n46=>gdK (.b (cmI .lt n46 (.ofNat 0))) false (λ k47=>ko e43 0 λ v50=>
  k47 v50 s44) s44 λ v48 s49=>gdK (.b (cmI .lt n46 (.ofNat 0))) false (λ k51=>ko e43 4 λ v54=>k51 v54 s49) s49 λ v52 s53=>gdK (.b (cmI .lt n46
  (.ofNat 0))) false (λ k55=>bnr (lenV v52 s53) λ v58 s59=>k55 v58 s59) s53 λ v56 s57=>gdK (.b (cmI .lt n46 (.ofNat 0))) false (λ k60=>oni v48
  λ n63=>oni v56 λ n64=>k60 (.b (cmI .ge n63 n64)) s57) s57 λ v61 s62=>pkK (.b (cmI .lt n46 (.ofNat 0))) (.ok (.b true)) (.ok v61) λ v65=>nx
  (λ e66 s67=>jn (λ e72 s73=>ko e72 4 λ v74=>ko e72 0 λ v75=>onSlx v74 λ b76 o77 q78=>oni v75 λ n80=>onON (nat n80) λ i79=>ifX
  (Nat.blt i79 q78) (bnr (eKp (.q (.iar (.c (.p b76 (Nat.add o77 (Nat.mul i79 2)))) (.c (.i (.ofNat 0))) 1 2)) .nil s73 cl) λ v81 s82=>onp v81 λ b83 o84
 =>ldK b83 o84 s73 λ v85=>ko e72 4 λ v86=>ko e72 0 λ v87=>onSlx v86 λ b88 o89 q90=>oni v87 λ n92=>onON (nat n92) λ i91=>ifX (Nat.blt
  i91 q90) (bnr (eKp (.q (.iar (.c (.p b88 (Nat.add o89 (Nat.mul i91 2)))) (.c (.i (.ofNat 1))) 1 2)) .nil s73 cl) λ v93 s94=>onp v93 λ b95 o96=>ldK
  b95 o96 s73 λ v97=>nx (λ e98 s99=>.ok .r e98 s99) (kst (kst e72 2 v85) 3 v97) s73))) λ k68=>ko e66 32 λ v69=>cdK v69 (nx (λ e70 s71=>.ok
  .r e70 s71) (kst (kst e66 2 (.s [])) 3 (.s [])) s67) (k68 e66 s67)) (kst e43 32 v65) s62) (kst e1 4 v41) s42) (kst (kst env 2 (.s [])) 3 (.s [])) s
theorem fe291 : rf291 = fastOf kf291 := by kernel_rfl
def rf292 : RFun := .mk 2 [.t 4] λ cl env s=>nx (λ e1 s2=>ko e1 1 λ v3=>nx (λ e4 s5=>bkK (ko e4 5 λ v6=>bnr (onK (cmk1 .eq (.ok (.k .i32 (.ofNat 97)))) v6 s5) λ v7 s8=>nx (λ e9 s10
 =>jn (idk) λ k11=>ko e9 6 λ v12=>cdK v12 (ko e9 0 λ v13=>onp v13 λ b14 o15=>nx (λ e16 s17=>.ok .r e16 s17) (kst e9 4 (.p b14 (Nat.add
  o15 1))) s10) (ko e9 5 λ v18=>bnr (onK (cmk1 .eq (.ok (.k .i32 (.ofNat 98)))) v18 s10) λ v19 s20=>nx (λ e21 s22=>jn (λ e28 s29=>jn (k11) λ
  k30=>ko e28 11 λ v31=>cdK v31 (ko e28 0 λ v32=>onp v32 λ b33 o34=>nx (λ e35 s36=>.ok .r e35 s36) (kst e28 4 (.p b33 (Nat.add o34 2))) s29)
  (ko e28 5 λ v37=>bnr (onK (cmk1 .eq (.ok (.k .i32 (.ofNat 99)))) v37 s29) λ v38 s39=>nx (λ e40 s41=>jn (k30) λ k42=>ko e40 17 λ v43=>cdK
  v43 (ko e40 0 λ v44=>onp v44 λ b45 o46=>nx (λ e47 s48=>.ok .r e47 s48) (kst e40 4 (.p b45 (Nat.add o46 3))) s41) (k42 e40 s41)) (kst e28 17 v38)
  s39)) λ k23=>ko e21 11 λ v24=>cdK v24 (k23 e21 s22) (ko e21 5 λ v25=>bnr (onK (cmk1 .eq (.ok (.k .i32 (.ofNat 107)))) v25 s22) λ v26 s27=>nx
  (k23) (kst e21 11 v26) s27)) (kst e9 11 v19) s20)) (kst e4 6 v7) s8) 0 (λ e49 s50=>ko e49 0 λ v51=>onp v51 λ b52 o53=>nx (λ e54 s55=>.ok .r
  e54 s55) (kst e49 4 (.p b52 (Nat.add o53 4))) s50)) (kst e1 5 v3) s2) (kst env 4 (.np)) s
theorem fe292 : rf292 = fastOf kf292 := by kernel_rfl
def rf293 : RFun := .mk 2 [.t 4] λ cl env s=>ko env 0 λ v1=>bnr (boxV v1 s) λ v2 s3=>ko env 1 λ v4=>bnr (boxV v4 s3) λ v5 s6=>nx (λ e7 s8=>ko e7 3 λ v9=>onp v9 λ b10 o11=>
  ldK b10 (Nat.add o11 0) s8 λ v12=>oni v12 λ n13=>nx (λ e14 s15=>jn (λ e31 s32=>ko e31 2 λ v33=>onp v33 λ b34 o35=>bnr (ldnP 2 b34
  o35 s32) λ v36 s37=>bnr (cl 259 [v36,(.i (.ofNat 0))] s37) λ v38 s39=>nx (λ e40 s41=>.ok .r e40 s41) (kst e31 4 v38) s39) λ k16=>ko e14 7
  λ v17=>cdK v17 (ko e14 2 λ v18=>onp v18 λ b19 o20=>bnr (ldnP 2 b19 o20 s15) λ v21 s22=>ko e14 3 λ v23=>onp v23 λ b24 o25=>ldK b24
  (Nat.add o25 4) s22 λ v26=>bnr (cl 259 [v21,v26] s22) λ v27 s28=>nx (λ e29 s30=>.ok .r e29 s30) (kst e14 4 v27) s28) (k16 e14 s15)) (kst e7 7
  (.b (cmI .eq n13 (.ofNat 2)))) s8) (kst (kst (kst env 2 v2) 3 v5) 4 (.i (.ofNat 0))) s6
theorem fe293 : rf293 = fastOf kf293 := by kernel_rfl
def rf294 : RFun := .mk 2 [.t 4] λ cl env s=>ko env 0 λ v1=>bnr (boxV v1 s) λ v2 s3=>nx (λ e4 s5=>ko e4 2 λ v6=>onp v6 λ b7 o8=>bnr (ldnP 2 b7 o8 s5) λ v9 s10=>bnr (cl 190
  [v9] s10) λ v11 s12=>onBx v11 λ c13=>gdK (.b (neg c13)) false (λ k14=>ko e4 2 λ v17=>onp v17 λ b18 o19=>k14 (.p b18 (Nat.add o19 0)) s12)
  s12 λ v15 s16=>gdK (.b (neg c13)) false (λ k20=>onp v15 λ b23 o24=>ldK b23 o24 s16 λ v25=>k20 v25 s16) s16 λ v21 s22=>gdK (.b (neg c13))
  false (λ k26=>onBx v21 λ c29=>k26 (.b (neg c29)) s22) s22 λ v27 s28=>pkK (.b (neg c13)) (.ok (.b true)) (.ok v27) λ v30=>gdK v30 false (λ k31
 =>ko e4 1 λ v34=>k31 v34 s28) s28 λ v32 s33=>gdK v30 false (λ k35=>bnr (cl 320 [v32] s33) λ v38 s39=>k35 v38 s39) s33 λ v36 s37=>gdK v30
  false (λ k40=>oni v36 λ n43=>k40 (.b (cmI .le n43 (.ofNat 4))) s37) s37 λ v41 s42=>pkK v30 (.ok (.b true)) (.ok v41) λ v44=>nx (λ e45 s46=>
  jn (λ e51 s52=>ko e51 1 λ v53=>bnr (cl 320 [v53] s52) λ v54 s55=>oni v54 λ n56=>frcI (wrapI (arI .add n56 (.ofNat 2))) λ n57=>nx (λ
  e58 s59=>.ok .r e58 s59) (kst e51 4 (.i n57)) s55) λ k47=>ko e45 17 λ v48=>cdK v48 (nx (λ e49 s50=>.ok .r e49 s50) (kst e45 4 (.i (.ofNat 0)))
  s46) (k47 e45 s46)) (kst e4 17 v44) s42) (kst (kst env 2 v2) 4 (.i (.ofNat 0))) s3
theorem fe294 : rf294 = fastOf kf294 := by kernel_rfl
def rf295 : RFun := .mk 2 [.t 4] λ cl env s=>nx (λ e1 s2=>ko e1 0 λ v3=>ko e1 1 λ v4=>bnr (cl 344 [v3,v4] s2) λ v5 s6=>oni v5 λ n7=>nx (λ e8 s9=>.ok .r e8 s9) (kst e1 4 (.b (cmI
  .ge n7 (.ofNat 0)))) s6) (kst env 4 (.b false)) s
theorem fe295 : rf295 = fastOf kf295 := by kernel_rfl
def rf296 : RFun := .mk 2 [.t 3] λ cl env s=>ko env 0 λ v1=>bnr (boxV v1 s) λ v2 s3=>nx (λ e4 s5=>ko e4 2 λ v6=>onp v6 λ b7 o8=>ldK b7 (Nat.add o8 0) s5 λ v9=>ko e4 1 λ v10=>
  onp v10 λ b11 o12=>ldK b11 o12 s5 λ v13=>onBx v9 λ c14=>onBx v13 λ c15=>nx (λ e16 s17=>.ok .r e16 s17) (kst e4 3 (.b (neg (eqB c14
  c15)))) s5) (kst (kst env 2 v2) 3 (.b false)) s3
theorem fe296 : rf296 = fastOf kf296 := by kernel_rfl
def rf297 : RFun := .mk 1 [.t 2] λ cl env s=>ko env 0 λ v1=>bnr (boxV v1 s) λ v2 s3=>nx (λ e4 s5=>ko e4 1 λ v6=>onp v6 λ b7 o8=>ldK b7 (Nat.add o8 1) s5 λ v9=>bnr (cl 123 [] s5)
  λ v10 s11=>bnr (cl 238 [v9,v10] s5) λ v12 s13=>nx (λ e14 s15=>.ok .r e14 s15) (kst e4 2 v12) s5) (kst (kst env 1 v2) 2 (.b false)) s3
theorem fe297 : rf297 = fastOf kf297 := by kernel_rfl
def rf301 : RFun := .mk 2 [.t 4,.t 5] λ cl env s=>ko env 0 λ v1=>bnr (boxV v1 s) λ v2 s3=>ko env 1 λ v4=>bnr (boxV v4 s3) λ v5 s6=>nx (λ e7 s8=>ko e7 3 λ v9=>onp v9 λ b10 o11=>
  ldK b10 (Nat.add o11 0) s8 λ v12=>oni v12 λ n13=>gdK (.b (cmI .ne n13 (.ofNat 1))) true (λ k14=>ko e7 3 λ v17=>onp v17 λ b18 o19=>k14 (.p
  b18 (Nat.add o19 0)) s8) s8 λ v15 s16=>gdK (.b (cmI .ne n13 (.ofNat 1))) true (λ k20=>onp v15 λ b23 o24=>ldK b23 o24 s16 λ v25=>k20 v25 s16)
  s16 λ v21 s22=>gdK (.b (cmI .ne n13 (.ofNat 1))) true (λ k26=>oni v21 λ n29=>k26 (.b (cmI .ne n29 (.ofNat 2))) s22) s22 λ v27 s28=>pkK (.b
  (cmI .ne n13 (.ofNat 1))) (.ok v27) (.ok (.b false)) λ v30=>gdK v30 false (λ k31=>ko e7 2 λ v34=>onp v34 λ b35 o36=>bnr (ldnP 9 b35 o36 s28)
  λ v37 s38=>k31 v37 s38) s28 λ v32 s33=>gdK v30 false (λ k39=>ko e7 3 λ v42=>onp v42 λ b43 o44=>bnr (ldnP 6 b43 o44 s33) λ v45 s46=>
  k39 v45 s46) s33 λ v40 s41=>gdK v30 false (λ k47=>bnr (cl 207 [v32,v40] s41) λ v50 s51=>k47 v50 s51) s41 λ v48 s49=>gdK v30 false (λ k52
 =>oni v48 λ n55=>k52 (.b (cmI .ne n55 (.ofNat 0))) s49) s49 λ v53 s54=>pkK v30 (.ok (.b true)) (.ok v53) λ v56=>nx (λ e57 s58=>jn (λ e63
  s64=>ko e63 2 λ v65=>onp v65 λ b66 o67=>bnr (ldnP 9 b66 o67 s64) λ v68 s69=>ko e63 3 λ v70=>onp v70 λ b71 o72=>ldK b71 (Nat.add o72
  2) s69 λ v73=>bnr (cl 173 [v68,v73] s69) λ v74 s75=>extK v74 0 λ v76=>extK v74 1 λ v77=>bnr (eNew [.b false,.ns] .nil s75 cl) λ v78 s79
 =>onp v78 λ b80 o81=>onAx v76 λ l82=>bnr (stnA 2 b80 o81 l82 s79) λ v83 s84=>nx (λ e85 s86=>ko e85 6 λ v87=>onp v87 λ b88 o89=>
  bnr (ldnP 2 b88 o89 s86) λ v90 s91=>ko e85 3 λ v92=>onp v92 λ b93 o94=>bnr (ldnP 6 b93 o94 s86) λ v95 s96=>ko e85 6 λ v97=>onp v97
  λ b98 o99=>bnr (ldnP 2 b98 o99 s86) λ v100 s101=>ko e85 3 λ v102=>onp v102 λ b103 o104=>ldK b103 (Nat.add o104 4) s86 λ v105=>bnr (cl
  293 [v90,v95] s86) λ v106 s107=>ko e85 6 λ v108=>onp v108 λ b109 o110=>bnr (ldnP 2 b109 o110 s107) λ v111 s112=>ifX (eqV v100 v111) (ko e85
  3 λ v113=>onp v113 λ b114 o115=>ifX (eqV (.p b103 (Nat.add o104 4)) (.p b114 (Nat.add o115 4))) (ldK b114 (Nat.add o115 4) s107 λ v116=>ifX (eqV
  v105 v116) (bnr (cl 294 [v111,v116] s107) λ v117 s118=>nx (λ e119 s120=>.ok .r e119 s120) (kst (kst e85 4 v106) 5 v117) s118)))) (kst e63 6 v78)
  s84) λ k59=>ko e57 21 λ v60=>cdK v60 (nx (λ e61 s62=>.ok .r e61 s62) (kst (kst e57 4 (.i (.ofNat 0))) 5 (.i (.ofNat 0))) s58) (k59 e57 s58))
  (kst e7 21 v56) s54) (kst (kst (kst (kst env 2 v2) 3 v5) 4 (.i (.ofNat 0))) 5 (.i (.ofNat 0))) s6
theorem fe301 : rf301 = fastOf kf301 := by kernel_rfl
def rf302 : RFun := .mk 5 [.cn 10 3] λ cl env s=>bnr (eNew [.i (.ofNat 0),.ns,.i (.ofNat 0)] .nil s cl) λ v1 s2=>nx (λ e3 s4=>ko e3 0 λ v5=>onp v5 λ b6 o7=>ldK b6 (Nat.add o7 3) s4 λ v8
 =>oni v8 λ n9=>frcI (wrapI (arI .add n9 (.ofNat 1))) λ n10=>onp v5 λ b11 o12=>bnr (stV b11 (Nat.add o12 3) (.i n10) s4) λ v13 s14=>nx (λ
  e15 s16=>ko e15 0 λ v17=>ko e15 1 λ v18=>bnr (cl 203 [v17,v18] s16) λ v19 s20=>nx (λ e21 s22=>ko e21 0 λ v23=>onp v23 λ b24 o25=>
  ldK b24 (Nat.add (Nat.add o25 4) 11) s22 λ v26=>ko e21 1 λ v27=>bnr (cl 228 [v26,v27] s22) λ v28 s29=>extK v28 0 λ v30=>extK v28 1 λ v31
 =>bnr (eNew [.i (.ofNat 0),.i (.ofNat 0),.i (.ofNat 0),.i (.ofNat 0),.i (.ofNat 0),.i (.ofNat 0),.ns] .nil s29 cl) λ v32 s33=>onp v32 λ b34 o35
 =>onAx v30 λ l36=>bnr (stnA 7 b34 o35 l36 s33) λ v37 s38=>nx (λ e39 s40=>ko e39 11 λ v41=>bnr (nilpV true v41 s40) λ v42 s43=>gdK v42
  false (λ k44=>ko e39 2 λ v47=>k44 v47 s43) s43 λ v45 s46=>gdK v42 false (λ k48=>oni v45 λ n51=>k48 (.b (cmI .lt n51 (.ofNat 1))) s46) s46
  λ v49 s50=>pkK v42 (.ok (.b true)) (.ok v49) λ v52=>gdK v52 false (λ k53=>ko e39 3 λ v56=>k53 v56 s50) s50 λ v54 s55=>gdK v52 false (λ
  k57=>oni v54 λ n60=>k57 (.b (cmI .lt n60 (.ofNat 0))) s55) s55 λ v58 s59=>pkK v52 (.ok (.b true)) (.ok v58) λ v61=>gdK v61 false (λ k62=>ko
  e39 13 λ v65=>k62 v65 s59) s59 λ v63 s64=>pkK v61 (.ok (.b true)) (.ok v63) λ v66=>nx (λ e67 s68=>jn (λ e81 s82=>ko e81 3 λ v83=>oni
  v83 λ n84=>nx (λ e85 s86=>jn (λ e120 s121=>ko e120 0 λ v122=>onp v122 λ b123 o124=>bnr (ldnP 12 b123 (Nat.add o124 4) s121) λ v125
  s126=>bnr (cl 98 [v125] s126) λ v127 s128=>oni v127 λ n129=>gdK (.b (cmI .gt n129 (.ofNat 0))) false (λ k130=>ko e120 0 λ v133=>k130 v133
  s128) s128 λ v131 s132=>gdK (.b (cmI .gt n129 (.ofNat 0))) false (λ k134=>onp v131 λ b137 o138=>k134 (.p b137 o138) s132) s132 λ v135 s136=>
  gdK (.b (cmI .gt n129 (.ofNat 0))) false (λ k139=>onp v135 λ b142 o143=>k139 (.p b142 (Nat.add o143 4)) s136) s136 λ v140 s141=>gdK (.b (cmI .gt
  n129 (.ofNat 0))) false (λ k144=>onp v140 λ b147 o148=>bnr (ldnP 12 b147 o148 s141) λ v149 s150=>k144 v149 s150) s141 λ v145 s146=>gdK (.b
  (cmI .gt n129 (.ofNat 0))) false (λ k151=>ko e120 2 λ v154=>k151 v154 s146) s146 λ v152 s153=>gdK (.b (cmI .gt n129 (.ofNat 0))) false (λ k155=>
  ko e120 3 λ v158=>k155 v158 s153) s153 λ v156 s157=>gdK (.b (cmI .gt n129 (.ofNat 0))) false (λ k159=>bnr (cl 249 [v145,v152,v156] s157) λ
  v162 s163=>k159 v162 s163) s157 λ v160 s161=>gdK (.b (cmI .gt n129 (.ofNat 0))) false (λ k164=>onBx v160 λ c167=>k164 (.b (neg c167)) s161) s161
  λ v165 s166=>pkK (.b (cmI .gt n129 (.ofNat 0))) (.ok (.b true)) (.ok v165) λ v168=>nx (λ e169 s170=>jn (λ e196 s197=>ko e196 0 λ v198=>onp
  v198 λ b199 o200=>bnr (ldnP 12 b199 (Nat.add o200 4) s197) λ v201 s202=>ko e196 2 λ v203=>ko e196 3 λ v204=>bnr (cl 250 [v201,v203,v204]
  s202) λ v205 s206=>extK v205 0 λ v207=>extK v205 1 λ v208=>nx (λ e209 s210=>ko e209 0 λ v211=>ko e209 16 λ v212=>ko e209 4 λ v213=>
  bnr (cl 251 [v211,v212,(.i (.ofNat 2)),v213] s210) λ v214 s215=>nx (λ e216 s217=>ko e216 0 λ v218=>onp v218 λ b219 o220=>ldK b219
  (Nat.add (Nat.add o220 4) 9) s217 λ v221=>ko e216 11 λ v222=>bnr (cl 349 [v222] s217) λ v223 s224=>bnr (cl 348 [v221,v223] s217) λ v225 s226
 =>nx (λ e227 s228=>ko e227 0 λ v229=>ko e227 18 λ v230=>ko e227 4 λ v231=>bnr (cl 251 [v229,v230,(.i (.ofNat 1)),v231] s228) λ v232
  s233=>nx (λ e234 s235=>ko e234 11 λ v236=>ko e234 18 λ v237=>bnr (cl 350 [v236,v237] s235) λ v238 s239=>nx (λ e240 s241=>ko e240 16
  λ v242=>ko e240 17 λ v243=>bnr (oL (fill (.cons 0 1 (.c (.i (.ofNat 1))) (.cons 1 1 (.c v242) (.cons 2 1 (.c v243) .nil))) [.i (.ofNat 0),.ns,.i
  (.ofNat 0)] .nil) okA s241) λ v244 s245=>ko e240 10 λ v246=>onp v246 λ b247 o248=>onAx v244 λ l249=>bnr (stnA 3 b247 o248 l249 s245) λ
  v250 s251=>nx (λ e252 s253=>.ok .r e252 s253) e240 s251) e234 s239) e227 s233) (kst e216 18 v225) s226) e209 s215) (kst (kst e196 16 v207) 17 v208)
  s206) λ k171=>ko e169 83 λ v172=>cdK v172 (ko e169 0 λ v173=>onp v173 λ b174 o175=>ldK b174 (Nat.add (Nat.add o175 4) 11) s170 λ v176=>ko
  e169 1 λ v177=>ko e169 2 λ v178=>ko e169 3 λ v179=>bnr (oL (fill (.cons 0 1 (.c v177) (.cons 1 1 (.c v178) (.cons 2 1 (.c v179) .nil))) [.i
  (.ofNat 0),.i (.ofNat 0),.i (.ofNat 0),.i (.ofNat 0),.i (.ofNat 0),.i (.ofNat 0),.ns] .nil) okA s170) λ v180 s181=>bnr (cl 347 [v176,v180] s181)
  λ v182 s183=>nx (λ e184 s185=>bnr (cl 229 [(.i (.ofNat 0))] s185) λ v186 s187=>ko e184 10 λ v188=>onp v188 λ b189 o190=>onAx v186 λ
  l191=>bnr (stnA 3 b189 o190 l191 s187) λ v192 s193=>nx (λ e194 s195=>.ok .r e194 s195) e184 s193) e169 s183) (k171 e169 s170)) (kst e120 83 v168)
  s166) λ k87=>ko e85 54 λ v88=>cdK v88 (ko e85 11 λ v89=>ko e85 2 λ v90=>bnr (cl 346 [v89,v90] s86) λ v91 s92=>extK v91 0 λ v93=>extK
  v91 1 λ v94=>nx (λ e95 s96=>ko e95 15 λ v97=>nx (λ e98 s99=>jn (k87) λ k100=>ko e98 61 λ v101=>cdK v101 (ko e98 0 λ v102=>ko e98 14
  λ v103=>ko e98 4 λ v104=>bnr (cl 251 [v102,v103,(.i (.ofNat 2)),v104] s99) λ v105 s106=>nx (λ e107 s108=>ko e107 14 λ v109=>bnr (oL
  (fill (.cons 0 1 (.c (.i (.ofNat 1))) (.cons 1 1 (.c v109) (.cons 2 1 (.c (.i (.negSucc 0))) .nil))) [.i (.ofNat 0),.ns,.i (.ofNat 0)] .nil) okA s108) λ
  v110 s111=>ko e107 10 λ v112=>onp v112 λ b113 o114=>onAx v110 λ l115=>bnr (stnA 3 b113 o114 l115 s111) λ v116 s117=>nx (λ e118 s119=>
  .ok .r e118 s119) e107 s117) e98 s106) (k100 e98 s99)) (kst e95 61 v97) s96) (kst (kst e85 14 v93) 15 v94) s92) (k87 e85 s86)) (kst e81 54 (.b (cmI .eq n84
  (.ofNat 0)))) s82) λ k69=>ko e67 51 λ v70=>cdK v70 (bnr (cl 229 [(.i (.ofNat 3))] s68) λ v71 s72=>ko e67 10 λ v73=>onp v73 λ b74 o75=>
  onAx v71 λ l76=>bnr (stnA 3 b74 o75 l76 s72) λ v77 s78=>nx (λ e79 s80=>.ok .r e79 s80) e67 s78) (k69 e67 s68)) (kst e39 51 v66) s64) (kst e21
  13 v31) s38) (kst e15 11 v19) s20) e3 s14) (kst env 10 v1) s2
theorem fe302 : rf302 = fastOf kf302 := by kernel_rfl
end Go.Kx
