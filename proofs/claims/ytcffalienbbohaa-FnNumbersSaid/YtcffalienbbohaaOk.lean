/- The evaluator's code is the program's. -/
import Derived.Test.YtcffalienbbohaaNat1
import Derived.Test.YtcffalienbbohaaCode
import Derived.Test.YtcffalienbbohaaChecked
import Derived.KernelRfl
namespace Go.Proofs.Ytcffalienbbohaa.VS
set_option linter.unusedVariables false
open Go.Proofs
def fid : Nat → FuncId
  | 13 => 26
  | 14 => 25
  | 18 => 79
  | 19 => 78
  | 27 => 30
  | 28 => 29
  | 29 => 80
  | 30 => 76
  | 31 => 77
  | 33 => 28
  | 34 => 27
  | 36 => 52
  | 37 => 51
  | 38 => 56
  | 39 => 57
  | 41 => 9
  | 42 => 42
  | 43 => 37
  | 44 => 12
  | 45 => 85
  | 46 => 86
  | 47 => 93
  | 48 => 89
  | 50 => 44
  | 51 => 43
  | 53 => 62
  | 54 => 61
  | 55 => 96
  | 56 => 109
  | 59 => 34
  | 60 => 33
  | 61 => 82
  | 62 => 83
  | 77 => 23
  | 82 => 24
  | 93 => 81
  | 94 => 104
  | 95 => 105
  | 96 => 106
  | 97 => 111
  | 106 => 54
  | 107 => 92
  | 108 => 94
  | 109 => 95
  | 112 => 58
  | 114 => 32
  | 115 => 31
  | 120 => 60
  | 121 => 59
  | 133 => 16
  | 155 => 102
  | 156 => 73
  | 159 => 75
  | 160 => 90
  | 162 => 87
  | 165 => 103
  | 188 => 45
  | 195 => 72
  | 196 => 74
  | 198 => 7
  | 199 => 49
  | 200 => 50
  | 201 => 53
  | 202 => 55
  | 203 => 88
  | 204 => 91
  | 205 => 6
  | 206 => 35
  | 207 => 10
  | 208 => 8
  | 209 => 39
  | 210 => 40
  | 211 => 41
  | 212 => 38
  | 213 => 46
  | 214 => 36
  | 215 => 47
  | 216 => 48
  | 217 => 63
  | 218 => 64
  | 219 => 98
  | 220 => 97
  | 221 => 110
  | 222 => 65
  | 223 => 67
  | 224 => 66
  | 225 => 68
  | 226 => 70
  | 227 => 69
  | 228 => 101
  | 229 => 100
  | 230 => 99
  | 231 => 84
  | 232 => 4
  | 233 => 17
  | 234 => 18
  | 235 => 19
  | 236 => 20
  | 237 => 21
  | 238 => 22
  | 344 => 13
  | 345 => 71
  | 351 => 11
  | 352 => 14
  | 354 => 5
  | 355 => 3
  | 356 => 15
  | _ => 0
theorem ok_13 : ∃ fn, Try.prog.funcs[fid 13]? = some fn ∧ okFn Try.prog fid fn v13 = true := ⟨Try.f26, Try.func26, by kernel_rfl⟩
theorem ok_14 : ∃ fn, Try.prog.funcs[fid 14]? = some fn ∧ okFn Try.prog fid fn v14 = true := ⟨Try.f25, Try.func25, by kernel_rfl⟩
theorem ok_18 : ∃ fn, Try.prog.funcs[fid 18]? = some fn ∧ okFn Try.prog fid fn v18 = true := ⟨Try.f79, Try.func79, by kernel_rfl⟩
theorem ok_19 : ∃ fn, Try.prog.funcs[fid 19]? = some fn ∧ okFn Try.prog fid fn v19 = true := ⟨Try.f78, Try.func78, by kernel_rfl⟩
theorem ok_27 : ∃ fn, Try.prog.funcs[fid 27]? = some fn ∧ okFn Try.prog fid fn v27 = true := ⟨Try.f30, Try.func30, by kernel_rfl⟩
theorem ok_28 : ∃ fn, Try.prog.funcs[fid 28]? = some fn ∧ okFn Try.prog fid fn v28 = true := ⟨Try.f29, Try.func29, by kernel_rfl⟩
theorem ok_29 : ∃ fn, Try.prog.funcs[fid 29]? = some fn ∧ okFn Try.prog fid fn v29 = true := ⟨Try.f80, Try.func80, by kernel_rfl⟩
theorem ok_30 : ∃ fn, Try.prog.funcs[fid 30]? = some fn ∧ okFn Try.prog fid fn v30 = true := ⟨Try.f76, Try.func76, by kernel_rfl⟩
theorem ok_31 : ∃ fn, Try.prog.funcs[fid 31]? = some fn ∧ okFn Try.prog fid fn v31 = true := ⟨Try.f77, Try.func77, by kernel_rfl⟩
theorem ok_33 : ∃ fn, Try.prog.funcs[fid 33]? = some fn ∧ okFn Try.prog fid fn v33 = true := ⟨Try.f28, Try.func28, by kernel_rfl⟩
theorem ok_34 : ∃ fn, Try.prog.funcs[fid 34]? = some fn ∧ okFn Try.prog fid fn v34 = true := ⟨Try.f27, Try.func27, by kernel_rfl⟩
theorem ok_36 : ∃ fn, Try.prog.funcs[fid 36]? = some fn ∧ okFn Try.prog fid fn v36 = true := ⟨Try.f52, Try.func52, by kernel_rfl⟩
theorem ok_37 : ∃ fn, Try.prog.funcs[fid 37]? = some fn ∧ okFn Try.prog fid fn v37 = true := ⟨Try.f51, Try.func51, by kernel_rfl⟩
theorem ok_38 : ∃ fn, Try.prog.funcs[fid 38]? = some fn ∧ okFn Try.prog fid fn v38 = true := ⟨Try.f56, Try.func56, by kernel_rfl⟩
theorem ok_39 : ∃ fn, Try.prog.funcs[fid 39]? = some fn ∧ okFn Try.prog fid fn v39 = true := ⟨Try.f57, Try.func57, by kernel_rfl⟩
theorem ok_41 : ∃ fn, Try.prog.funcs[fid 41]? = some fn ∧ okFn Try.prog fid fn v41 = true := ⟨Try.f9, Try.func9, by kernel_rfl⟩
theorem ok_42 : ∃ fn, Try.prog.funcs[fid 42]? = some fn ∧ okFn Try.prog fid fn v42 = true := ⟨Try.f42, Try.func42, by kernel_rfl⟩
theorem ok_43 : ∃ fn, Try.prog.funcs[fid 43]? = some fn ∧ okFn Try.prog fid fn v43 = true := ⟨Try.f37, Try.func37, by kernel_rfl⟩
theorem ok_44 : ∃ fn, Try.prog.funcs[fid 44]? = some fn ∧ okFn Try.prog fid fn v44 = true := ⟨Try.f12, Try.func12, by kernel_rfl⟩
theorem ok_45 : ∃ fn, Try.prog.funcs[fid 45]? = some fn ∧ okFn Try.prog fid fn v45 = true := ⟨Try.f85, Try.func85, by kernel_rfl⟩
theorem ok_46 : ∃ fn, Try.prog.funcs[fid 46]? = some fn ∧ okFn Try.prog fid fn v46 = true := ⟨Try.f86, Try.func86, by kernel_rfl⟩
theorem ok_47 : ∃ fn, Try.prog.funcs[fid 47]? = some fn ∧ okFn Try.prog fid fn v47 = true := ⟨Try.f93, Try.func93, by kernel_rfl⟩
theorem ok_48 : ∃ fn, Try.prog.funcs[fid 48]? = some fn ∧ okFn Try.prog fid fn v48 = true := ⟨Try.f89, Try.func89, by kernel_rfl⟩
theorem ok_50 : ∃ fn, Try.prog.funcs[fid 50]? = some fn ∧ okFn Try.prog fid fn v50 = true := ⟨Try.f44, Try.func44, by kernel_rfl⟩
theorem ok_51 : ∃ fn, Try.prog.funcs[fid 51]? = some fn ∧ okFn Try.prog fid fn v51 = true := ⟨Try.f43, Try.func43, by kernel_rfl⟩
theorem ok_53 : ∃ fn, Try.prog.funcs[fid 53]? = some fn ∧ okFn Try.prog fid fn v53 = true := ⟨Try.f62, Try.func62, by kernel_rfl⟩
theorem ok_54 : ∃ fn, Try.prog.funcs[fid 54]? = some fn ∧ okFn Try.prog fid fn v54 = true := ⟨Try.f61, Try.func61, by kernel_rfl⟩
theorem ok_55 : ∃ fn, Try.prog.funcs[fid 55]? = some fn ∧ okFn Try.prog fid fn v55 = true := ⟨Try.f96, Try.func96, by kernel_rfl⟩
theorem ok_56 : ∃ fn, Try.prog.funcs[fid 56]? = some fn ∧ okFn Try.prog fid fn v56 = true := ⟨Try.f109, Try.func109, by kernel_rfl⟩
theorem ok_59 : ∃ fn, Try.prog.funcs[fid 59]? = some fn ∧ okFn Try.prog fid fn v59 = true := ⟨Try.f34, Try.func34, by kernel_rfl⟩
theorem ok_60 : ∃ fn, Try.prog.funcs[fid 60]? = some fn ∧ okFn Try.prog fid fn v60 = true := ⟨Try.f33, Try.func33, by kernel_rfl⟩
theorem ok_61 : ∃ fn, Try.prog.funcs[fid 61]? = some fn ∧ okFn Try.prog fid fn v61 = true := ⟨Try.f82, Try.func82, by kernel_rfl⟩
theorem ok_62 : ∃ fn, Try.prog.funcs[fid 62]? = some fn ∧ okFn Try.prog fid fn v62 = true := ⟨Try.f83, Try.func83, by kernel_rfl⟩
theorem ok_77 : ∃ fn, Try.prog.funcs[fid 77]? = some fn ∧ okFn Try.prog fid fn v77 = true := ⟨Try.f23, Try.func23, by kernel_rfl⟩
theorem ok_82 : ∃ fn, Try.prog.funcs[fid 82]? = some fn ∧ okFn Try.prog fid fn v82 = true := ⟨Try.f24, Try.func24, by kernel_rfl⟩
theorem ok_106 : ∃ fn, Try.prog.funcs[fid 106]? = some fn ∧ okFn Try.prog fid fn v106 = true := ⟨Try.f54, Try.func54, by kernel_rfl⟩
theorem ok_107 : ∃ fn, Try.prog.funcs[fid 107]? = some fn ∧ okFn Try.prog fid fn v107 = true := ⟨Try.f92, Try.func92, by kernel_rfl⟩
theorem ok_108 : ∃ fn, Try.prog.funcs[fid 108]? = some fn ∧ okFn Try.prog fid fn v108 = true := ⟨Try.f94, Try.func94, by kernel_rfl⟩
theorem ok_112 : ∃ fn, Try.prog.funcs[fid 112]? = some fn ∧ okFn Try.prog fid fn v112 = true := ⟨Try.f58, Try.func58, by kernel_rfl⟩
theorem ok_114 : ∃ fn, Try.prog.funcs[fid 114]? = some fn ∧ okFn Try.prog fid fn v114 = true := ⟨Try.f32, Try.func32, by kernel_rfl⟩
theorem ok_115 : ∃ fn, Try.prog.funcs[fid 115]? = some fn ∧ okFn Try.prog fid fn v115 = true := ⟨Try.f31, Try.func31, by kernel_rfl⟩
theorem ok_120 : ∃ fn, Try.prog.funcs[fid 120]? = some fn ∧ okFn Try.prog fid fn v120 = true := ⟨Try.f60, Try.func60, by kernel_rfl⟩
theorem ok_121 : ∃ fn, Try.prog.funcs[fid 121]? = some fn ∧ okFn Try.prog fid fn v121 = true := ⟨Try.f59, Try.func59, by kernel_rfl⟩
theorem ok_133 : ∃ fn, Try.prog.funcs[fid 133]? = some fn ∧ okFn Try.prog fid fn v133 = true := ⟨Try.f16, Try.func16, by kernel_rfl⟩
theorem ok_155 : ∃ fn, Try.prog.funcs[fid 155]? = some fn ∧ okFn Try.prog fid fn v155 = true := ⟨Try.f102, Try.func102, by kernel_rfl⟩
theorem ok_156 : ∃ fn, Try.prog.funcs[fid 156]? = some fn ∧ okFn Try.prog fid fn v156 = true := ⟨Try.f73, Try.func73, by kernel_rfl⟩
theorem ok_159 : ∃ fn, Try.prog.funcs[fid 159]? = some fn ∧ okFn Try.prog fid fn v159 = true := ⟨Try.f75, Try.func75, by kernel_rfl⟩
theorem ok_160 : ∃ fn, Try.prog.funcs[fid 160]? = some fn ∧ okFn Try.prog fid fn v160 = true := ⟨Try.f90, Try.func90, by kernel_rfl⟩
theorem ok_162 : ∃ fn, Try.prog.funcs[fid 162]? = some fn ∧ okFn Try.prog fid fn v162 = true := ⟨Try.f87, Try.func87, by kernel_rfl⟩
theorem ok_165 : ∃ fn, Try.prog.funcs[fid 165]? = some fn ∧ okFn Try.prog fid fn v165 = true := ⟨Try.f103, Try.func103, by kernel_rfl⟩
theorem ok_188 : ∃ fn, Try.prog.funcs[fid 188]? = some fn ∧ okFn Try.prog fid fn v188 = true := ⟨Try.f45, Try.func45, by kernel_rfl⟩
theorem ok_195 : ∃ fn, Try.prog.funcs[fid 195]? = some fn ∧ okFn Try.prog fid fn v195 = true := ⟨Try.f72, Try.func72, by kernel_rfl⟩
theorem ok_196 : ∃ fn, Try.prog.funcs[fid 196]? = some fn ∧ okFn Try.prog fid fn v196 = true := ⟨Try.f74, Try.func74, by kernel_rfl⟩
theorem ok_198 : ∃ fn, Try.prog.funcs[fid 198]? = some fn ∧ okFn Try.prog fid fn v198 = true := ⟨Try.f7, Try.func7, by kernel_rfl⟩
theorem ok_199 : ∃ fn, Try.prog.funcs[fid 199]? = some fn ∧ okFn Try.prog fid fn v199 = true := ⟨Try.f49, Try.func49, by kernel_rfl⟩
theorem ok_200 : ∃ fn, Try.prog.funcs[fid 200]? = some fn ∧ okFn Try.prog fid fn v200 = true := ⟨Try.f50, Try.func50, by kernel_rfl⟩
theorem ok_201 : ∃ fn, Try.prog.funcs[fid 201]? = some fn ∧ okFn Try.prog fid fn v201 = true := ⟨Try.f53, Try.func53, by kernel_rfl⟩
theorem ok_202 : ∃ fn, Try.prog.funcs[fid 202]? = some fn ∧ okFn Try.prog fid fn v202 = true := ⟨Try.f55, Try.func55, by kernel_rfl⟩
theorem ok_203 : ∃ fn, Try.prog.funcs[fid 203]? = some fn ∧ okFn Try.prog fid fn v203 = true := ⟨Try.f88, Try.func88, by kernel_rfl⟩
theorem ok_204 : ∃ fn, Try.prog.funcs[fid 204]? = some fn ∧ okFn Try.prog fid fn v204 = true := ⟨Try.f91, Try.func91, by kernel_rfl⟩
theorem ok_205 : ∃ fn, Try.prog.funcs[fid 205]? = some fn ∧ okFn Try.prog fid fn v205 = true := ⟨Try.f6, Try.func6, by kernel_rfl⟩
theorem ok_206 : ∃ fn, Try.prog.funcs[fid 206]? = some fn ∧ okFn Try.prog fid fn v206 = true := ⟨Try.f35, Try.func35, by kernel_rfl⟩
theorem ok_207 : ∃ fn, Try.prog.funcs[fid 207]? = some fn ∧ okFn Try.prog fid fn v207 = true := ⟨Try.f10, Try.func10, by kernel_rfl⟩
theorem ok_208 : ∃ fn, Try.prog.funcs[fid 208]? = some fn ∧ okFn Try.prog fid fn v208 = true := ⟨Try.f8, Try.func8, by kernel_rfl⟩
theorem ok_209 : ∃ fn, Try.prog.funcs[fid 209]? = some fn ∧ okFn Try.prog fid fn v209 = true := ⟨Try.f39, Try.func39, by kernel_rfl⟩
theorem ok_210 : ∃ fn, Try.prog.funcs[fid 210]? = some fn ∧ okFn Try.prog fid fn v210 = true := ⟨Try.f40, Try.func40, by kernel_rfl⟩
theorem ok_211 : ∃ fn, Try.prog.funcs[fid 211]? = some fn ∧ okFn Try.prog fid fn v211 = true := ⟨Try.f41, Try.func41, by kernel_rfl⟩
theorem ok_212 : ∃ fn, Try.prog.funcs[fid 212]? = some fn ∧ okFn Try.prog fid fn v212 = true := ⟨Try.f38, Try.func38, by kernel_rfl⟩
theorem ok_213 : ∃ fn, Try.prog.funcs[fid 213]? = some fn ∧ okFn Try.prog fid fn v213 = true := ⟨Try.f46, Try.func46, by kernel_rfl⟩
theorem ok_214 : ∃ fn, Try.prog.funcs[fid 214]? = some fn ∧ okFn Try.prog fid fn v214 = true := ⟨Try.f36, Try.func36, by kernel_rfl⟩
theorem ok_215 : ∃ fn, Try.prog.funcs[fid 215]? = some fn ∧ okFn Try.prog fid fn v215 = true := ⟨Try.f47, Try.func47, by kernel_rfl⟩
theorem ok_216 : ∃ fn, Try.prog.funcs[fid 216]? = some fn ∧ okFn Try.prog fid fn v216 = true := ⟨Try.f48, Try.func48, by kernel_rfl⟩
theorem ok_217 : ∃ fn, Try.prog.funcs[fid 217]? = some fn ∧ okFn Try.prog fid fn v217 = true := ⟨Try.f63, Try.func63, by kernel_rfl⟩
theorem ok_218 : ∃ fn, Try.prog.funcs[fid 218]? = some fn ∧ okFn Try.prog fid fn v218 = true := ⟨Try.f64, Try.func64, by kernel_rfl⟩
theorem ok_219 : ∃ fn, Try.prog.funcs[fid 219]? = some fn ∧ okFn Try.prog fid fn v219 = true := ⟨Try.f98, Try.func98, by kernel_rfl⟩
theorem ok_220 : ∃ fn, Try.prog.funcs[fid 220]? = some fn ∧ okFn Try.prog fid fn v220 = true := ⟨Try.f97, Try.func97, by kernel_rfl⟩
theorem ok_221 : ∃ fn, Try.prog.funcs[fid 221]? = some fn ∧ okFn Try.prog fid fn v221 = true := ⟨Try.f110, Try.func110, by kernel_rfl⟩
theorem ok_222 : ∃ fn, Try.prog.funcs[fid 222]? = some fn ∧ okFn Try.prog fid fn v222 = true := ⟨Try.f65, Try.func65, by kernel_rfl⟩
theorem ok_223 : ∃ fn, Try.prog.funcs[fid 223]? = some fn ∧ okFn Try.prog fid fn v223 = true := ⟨Try.f67, Try.func67, by kernel_rfl⟩
theorem ok_224 : ∃ fn, Try.prog.funcs[fid 224]? = some fn ∧ okFn Try.prog fid fn v224 = true := ⟨Try.f66, Try.func66, by kernel_rfl⟩
theorem ok_225 : ∃ fn, Try.prog.funcs[fid 225]? = some fn ∧ okFn Try.prog fid fn v225 = true := ⟨Try.f68, Try.func68, by kernel_rfl⟩
theorem ok_226 : ∃ fn, Try.prog.funcs[fid 226]? = some fn ∧ okFn Try.prog fid fn v226 = true := ⟨Try.f70, Try.func70, by kernel_rfl⟩
theorem ok_227 : ∃ fn, Try.prog.funcs[fid 227]? = some fn ∧ okFn Try.prog fid fn v227 = true := ⟨Try.f69, Try.func69, by kernel_rfl⟩
theorem ok_228 : ∃ fn, Try.prog.funcs[fid 228]? = some fn ∧ okFn Try.prog fid fn v228 = true := ⟨Try.f101, Try.func101, by kernel_rfl⟩
theorem ok_230 : ∃ fn, Try.prog.funcs[fid 230]? = some fn ∧ okFn Try.prog fid fn v230 = true := ⟨Try.f99, Try.func99, by kernel_rfl⟩
theorem ok_231 : ∃ fn, Try.prog.funcs[fid 231]? = some fn ∧ okFn Try.prog fid fn v231 = true := ⟨Try.f84, Try.func84, by kernel_rfl⟩
theorem ok_232 : ∃ fn, Try.prog.funcs[fid 232]? = some fn ∧ okFn Try.prog fid fn v232 = true := ⟨Try.f4, Try.func4, by kernel_rfl⟩
theorem ok_233 : ∃ fn, Try.prog.funcs[fid 233]? = some fn ∧ okFn Try.prog fid fn v233 = true := ⟨Try.f17, Try.func17, by kernel_rfl⟩
theorem ok_234 : ∃ fn, Try.prog.funcs[fid 234]? = some fn ∧ okFn Try.prog fid fn v234 = true := ⟨Try.f18, Try.func18, by kernel_rfl⟩
theorem ok_235 : ∃ fn, Try.prog.funcs[fid 235]? = some fn ∧ okFn Try.prog fid fn v235 = true := ⟨Try.f19, Try.func19, by kernel_rfl⟩
theorem ok_236 : ∃ fn, Try.prog.funcs[fid 236]? = some fn ∧ okFn Try.prog fid fn v236 = true := ⟨Try.f20, Try.func20, by kernel_rfl⟩
theorem ok_237 : ∃ fn, Try.prog.funcs[fid 237]? = some fn ∧ okFn Try.prog fid fn v237 = true := ⟨Try.f21, Try.func21, by kernel_rfl⟩
theorem ok_238 : ∃ fn, Try.prog.funcs[fid 238]? = some fn ∧ okFn Try.prog fid fn v238 = true := ⟨Try.f22, Try.func22, by kernel_rfl⟩
theorem ok_344 : ∃ fn, Try.prog.funcs[fid 344]? = some fn ∧ okFn Try.prog fid fn v344 = true := ⟨Try.f13, Try.func13, by kernel_rfl⟩
theorem ok_345 : ∃ fn, Try.prog.funcs[fid 345]? = some fn ∧ okFn Try.prog fid fn v345 = true := ⟨Try.f71, Try.func71, by kernel_rfl⟩
theorem ok_351 : ∃ fn, Try.prog.funcs[fid 351]? = some fn ∧ okFn Try.prog fid fn v351 = true := ⟨Try.f11, Try.func11, by kernel_rfl⟩
theorem ok_352 : ∃ fn, Try.prog.funcs[fid 352]? = some fn ∧ okFn Try.prog fid fn v352 = true := ⟨Try.f14, Try.func14, by kernel_rfl⟩
theorem ok_354 : ∃ fn, Try.prog.funcs[fid 354]? = some fn ∧ okFn Try.prog fid fn v354 = true := ⟨Try.f5, Try.func5, by kernel_rfl⟩
theorem ok_355 : ∃ fn, Try.prog.funcs[fid 355]? = some fn ∧ okFn Try.prog fid fn v355 = true := ⟨Try.f3, Try.func3, by kernel_rfl⟩
theorem ok_356 : ∃ fn, Try.prog.funcs[fid 356]? = some fn ∧ okFn Try.prog fid fn v356 = true := ⟨Try.f15, Try.func15, by kernel_rfl⟩
theorem look_mem : ∀ {l : List (Nat × VFn)} {k : Nat} {v : VFn}, look l k = some v → (k, v) ∈ l
  | [], _, _, h => by simp [look] at h
  | (a, u) :: r, k, v, h => by
    simp only [look] at h
    split at h
    · rename_i hk
      simp at h; subst h; subst hk; simp
    · exact List.mem_cons_of_mem _ (look_mem h)
theorem codes_ok : ∀ q, q ∈ codes → ∃ fn, Try.prog.funcs[fid q.1]? = some fn ∧ okFn Try.prog fid fn q.2 = true :=
  List.forall_mem_cons.2 ⟨ok_13, List.forall_mem_cons.2 ⟨ok_14, List.forall_mem_cons.2 ⟨ok_18, List.forall_mem_cons.2 ⟨ok_19, List.forall_mem_cons.2 ⟨ok_27, List.forall_mem_cons.2 ⟨ok_28, List.forall_mem_cons.2 ⟨ok_29, List.forall_mem_cons.2 ⟨ok_30, List.forall_mem_cons.2 ⟨ok_31, List.forall_mem_cons.2 ⟨ok_33, List.forall_mem_cons.2 ⟨ok_34, List.forall_mem_cons.2 ⟨ok_36, List.forall_mem_cons.2 ⟨ok_37, List.forall_mem_cons.2 ⟨ok_38, List.forall_mem_cons.2 ⟨ok_39, List.forall_mem_cons.2 ⟨ok_41, List.forall_mem_cons.2 ⟨ok_42, List.forall_mem_cons.2 ⟨ok_43, List.forall_mem_cons.2 ⟨ok_44, List.forall_mem_cons.2 ⟨ok_45, List.forall_mem_cons.2 ⟨ok_46, List.forall_mem_cons.2 ⟨ok_47, List.forall_mem_cons.2 ⟨ok_48, List.forall_mem_cons.2 ⟨ok_50, List.forall_mem_cons.2 ⟨ok_51, List.forall_mem_cons.2 ⟨ok_53, List.forall_mem_cons.2 ⟨ok_54, List.forall_mem_cons.2 ⟨ok_55, List.forall_mem_cons.2 ⟨ok_56, List.forall_mem_cons.2 ⟨ok_59, List.forall_mem_cons.2 ⟨ok_60, List.forall_mem_cons.2 ⟨ok_61, List.forall_mem_cons.2 ⟨ok_62, List.forall_mem_cons.2 ⟨ok_77, List.forall_mem_cons.2 ⟨ok_82, List.forall_mem_cons.2 ⟨ok_106, List.forall_mem_cons.2 ⟨ok_107, List.forall_mem_cons.2 ⟨ok_108, List.forall_mem_cons.2 ⟨ok_112, List.forall_mem_cons.2 ⟨ok_114, List.forall_mem_cons.2 ⟨ok_115, List.forall_mem_cons.2 ⟨ok_120, List.forall_mem_cons.2 ⟨ok_121, List.forall_mem_cons.2 ⟨ok_133, List.forall_mem_cons.2 ⟨ok_155, List.forall_mem_cons.2 ⟨ok_156, List.forall_mem_cons.2 ⟨ok_159, List.forall_mem_cons.2 ⟨ok_160, List.forall_mem_cons.2 ⟨ok_162, List.forall_mem_cons.2 ⟨ok_165, List.forall_mem_cons.2 ⟨ok_188, List.forall_mem_cons.2 ⟨ok_195, List.forall_mem_cons.2 ⟨ok_196, List.forall_mem_cons.2 ⟨ok_198, List.forall_mem_cons.2 ⟨ok_199, List.forall_mem_cons.2 ⟨ok_200, List.forall_mem_cons.2 ⟨ok_201, List.forall_mem_cons.2 ⟨ok_202, List.forall_mem_cons.2 ⟨ok_203, List.forall_mem_cons.2 ⟨ok_204, List.forall_mem_cons.2 ⟨ok_205, List.forall_mem_cons.2 ⟨ok_206, List.forall_mem_cons.2 ⟨ok_207, List.forall_mem_cons.2 ⟨ok_208, List.forall_mem_cons.2 ⟨ok_209, List.forall_mem_cons.2 ⟨ok_210, List.forall_mem_cons.2 ⟨ok_211, List.forall_mem_cons.2 ⟨ok_212, List.forall_mem_cons.2 ⟨ok_213, List.forall_mem_cons.2 ⟨ok_214, List.forall_mem_cons.2 ⟨ok_215, List.forall_mem_cons.2 ⟨ok_216, List.forall_mem_cons.2 ⟨ok_217, List.forall_mem_cons.2 ⟨ok_218, List.forall_mem_cons.2 ⟨ok_219, List.forall_mem_cons.2 ⟨ok_220, List.forall_mem_cons.2 ⟨ok_221, List.forall_mem_cons.2 ⟨ok_222, List.forall_mem_cons.2 ⟨ok_223, List.forall_mem_cons.2 ⟨ok_224, List.forall_mem_cons.2 ⟨ok_225, List.forall_mem_cons.2 ⟨ok_226, List.forall_mem_cons.2 ⟨ok_227, List.forall_mem_cons.2 ⟨ok_228, List.forall_mem_cons.2 ⟨ok_230, List.forall_mem_cons.2 ⟨ok_231, List.forall_mem_cons.2 ⟨ok_232, List.forall_mem_cons.2 ⟨ok_233, List.forall_mem_cons.2 ⟨ok_234, List.forall_mem_cons.2 ⟨ok_235, List.forall_mem_cons.2 ⟨ok_236, List.forall_mem_cons.2 ⟨ok_237, List.forall_mem_cons.2 ⟨ok_238, List.forall_mem_cons.2 ⟨ok_344, List.forall_mem_cons.2 ⟨ok_345, List.forall_mem_cons.2 ⟨ok_351, List.forall_mem_cons.2 ⟨ok_352, List.forall_mem_cons.2 ⟨ok_354, List.forall_mem_cons.2 ⟨ok_355, List.forall_mem_cons.2 ⟨ok_356, List.forall_mem_nil _⟩⟩⟩⟩⟩⟩⟩⟩⟩⟩⟩⟩⟩⟩⟩⟩⟩⟩⟩⟩⟩⟩⟩⟩⟩⟩⟩⟩⟩⟩⟩⟩⟩⟩⟩⟩⟩⟩⟩⟩⟩⟩⟩⟩⟩⟩⟩⟩⟩⟩⟩⟩⟩⟩⟩⟩⟩⟩⟩⟩⟩⟩⟩⟩⟩⟩⟩⟩⟩⟩⟩⟩⟩⟩⟩⟩⟩⟩⟩⟩⟩⟩⟩⟩⟩⟩⟩⟩⟩⟩⟩⟩⟩⟩⟩⟩⟩⟩⟩⟩
theorem envW_ok : EnvOK Try.prog fid ⟨look codes, fun _ => none⟩ := ⟨fun k vf _ h => codes_ok (k, vf) (look_mem h), fun k f h => by simp at h, by kernel_rfl⟩
end Go.Proofs.Ytcffalienbbohaa.VS
