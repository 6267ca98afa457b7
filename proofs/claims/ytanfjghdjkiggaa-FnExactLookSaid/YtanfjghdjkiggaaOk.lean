/- The evaluator's code is the program's. -/
import Derived.Test.YtanfjghdjkiggaaNat1
import Derived.Test.YtanfjghdjkiggaaCode
import Derived.Test.YtanfjghdjkiggaaChecked
import Derived.KernelRfl
namespace Go.Proofs.Ytanfjghdjkiggaa.VS
set_option linter.unusedVariables false
open Go.Proofs
def fid : Nat → FuncId
  | 1 => 30
  | 2 => 32
  | 3 => 90
  | 5 => 25
  | 6 => 96
  | 7 => 57
  | 8 => 63
  | 9 => 61
  | 11 => 34
  | 12 => 36
  | 13 => 100
  | 14 => 103
  | 15 => 38
  | 16 => 73
  | 17 => 67
  | 18 => 110
  | 19 => 109
  | 20 => 79
  | 22 => 86
  | 23 => 92
  | 24 => 104
  | 25 => 64
  | 29 => 105
  | 30 => 43
  | 31 => 101
  | 33 => 89
  | 34 => 95
  | 41 => 19
  | 44 => 13
  | 47 => 47
  | 53 => 44
  | 54 => 46
  | 55 => 81
  | 56 => 97
  | 59 => 99
  | 60 => 102
  | 61 => 107
  | 62 => 108
  | 65 => 21
  | 66 => 23
  | 69 => 26
  | 70 => 74
  | 73 => 75
  | 74 => 94
  | 75 => 66
  | 77 => 91
  | 78 => 93
  | 79 => 78
  | 80 => 68
  | 81 => 69
  | 82 => 85
  | 83 => 87
  | 84 => 72
  | 85 => 88
  | 86 => 58
  | 87 => 53
  | 88 => 50
  | 102 => 71
  | 103 => 77
  | 104 => 33
  | 105 => 65
  | 106 => 20
  | 107 => 45
  | 108 => 48
  | 109 => 49
  | 110 => 31
  | 111 => 62
  | 112 => 18
  | 117 => 70
  | 118 => 76
  | 144 => 24
  | 145 => 22
  | 146 => 51
  | 147 => 52
  | 148 => 54
  | 149 => 55
  | 150 => 56
  | 151 => 84
  | 178 => 37
  | 179 => 35
  | 212 => 12
  | 213 => 10
  | 243 => 41
  | 244 => 59
  | 292 => 60
  | 293 => 27
  | 294 => 80
  | 308 => 28
  | 338 => 8
  | 339 => 39
  | 340 => 40
  | 341 => 29
  | 342 => 7
  | 343 => 6
  | 344 => 16
  | 345 => 17
  | 346 => 5
  | 347 => 4
  | 348 => 3
  | 349 => 9
  | 350 => 11
  | 351 => 14
  | 352 => 15
  | 353 => 42
  | _ => 0
theorem ok_1 : ∃ fn, Try.prog.funcs[fid 1]? = some fn ∧ okFn Try.prog fid fn v1 = true := ⟨Try.f30, Try.func30, by kernel_rfl⟩
theorem ok_2 : ∃ fn, Try.prog.funcs[fid 2]? = some fn ∧ okFn Try.prog fid fn v2 = true := ⟨Try.f32, Try.func32, by kernel_rfl⟩
theorem ok_3 : ∃ fn, Try.prog.funcs[fid 3]? = some fn ∧ okFn Try.prog fid fn v3 = true := ⟨Try.f90, Try.func90, by kernel_rfl⟩
theorem ok_5 : ∃ fn, Try.prog.funcs[fid 5]? = some fn ∧ okFn Try.prog fid fn v5 = true := ⟨Try.f25, Try.func25, by kernel_rfl⟩
theorem ok_6 : ∃ fn, Try.prog.funcs[fid 6]? = some fn ∧ okFn Try.prog fid fn v6 = true := ⟨Try.f96, Try.func96, by kernel_rfl⟩
theorem ok_7 : ∃ fn, Try.prog.funcs[fid 7]? = some fn ∧ okFn Try.prog fid fn v7 = true := ⟨Try.f57, Try.func57, by kernel_rfl⟩
theorem ok_8 : ∃ fn, Try.prog.funcs[fid 8]? = some fn ∧ okFn Try.prog fid fn v8 = true := ⟨Try.f63, Try.func63, by kernel_rfl⟩
theorem ok_9 : ∃ fn, Try.prog.funcs[fid 9]? = some fn ∧ okFn Try.prog fid fn v9 = true := ⟨Try.f61, Try.func61, by kernel_rfl⟩
theorem ok_11 : ∃ fn, Try.prog.funcs[fid 11]? = some fn ∧ okFn Try.prog fid fn v11 = true := ⟨Try.f34, Try.func34, by kernel_rfl⟩
theorem ok_12 : ∃ fn, Try.prog.funcs[fid 12]? = some fn ∧ okFn Try.prog fid fn v12 = true := ⟨Try.f36, Try.func36, by kernel_rfl⟩
theorem ok_13 : ∃ fn, Try.prog.funcs[fid 13]? = some fn ∧ okFn Try.prog fid fn v13 = true := ⟨Try.f100, Try.func100, by kernel_rfl⟩
theorem ok_14 : ∃ fn, Try.prog.funcs[fid 14]? = some fn ∧ okFn Try.prog fid fn v14 = true := ⟨Try.f103, Try.func103, by kernel_rfl⟩
theorem ok_15 : ∃ fn, Try.prog.funcs[fid 15]? = some fn ∧ okFn Try.prog fid fn v15 = true := ⟨Try.f38, Try.func38, by kernel_rfl⟩
theorem ok_16 : ∃ fn, Try.prog.funcs[fid 16]? = some fn ∧ okFn Try.prog fid fn v16 = true := ⟨Try.f73, Try.func73, by kernel_rfl⟩
theorem ok_17 : ∃ fn, Try.prog.funcs[fid 17]? = some fn ∧ okFn Try.prog fid fn v17 = true := ⟨Try.f67, Try.func67, by kernel_rfl⟩
theorem ok_18 : ∃ fn, Try.prog.funcs[fid 18]? = some fn ∧ okFn Try.prog fid fn v18 = true := ⟨Try.f110, Try.func110, by kernel_rfl⟩
theorem ok_19 : ∃ fn, Try.prog.funcs[fid 19]? = some fn ∧ okFn Try.prog fid fn v19 = true := ⟨Try.f109, Try.func109, by kernel_rfl⟩
theorem ok_20 : ∃ fn, Try.prog.funcs[fid 20]? = some fn ∧ okFn Try.prog fid fn v20 = true := ⟨Try.f79, Try.func79, by kernel_rfl⟩
theorem ok_22 : ∃ fn, Try.prog.funcs[fid 22]? = some fn ∧ okFn Try.prog fid fn v22 = true := ⟨Try.f86, Try.func86, by kernel_rfl⟩
theorem ok_23 : ∃ fn, Try.prog.funcs[fid 23]? = some fn ∧ okFn Try.prog fid fn v23 = true := ⟨Try.f92, Try.func92, by kernel_rfl⟩
theorem ok_24 : ∃ fn, Try.prog.funcs[fid 24]? = some fn ∧ okFn Try.prog fid fn v24 = true := ⟨Try.f104, Try.func104, by kernel_rfl⟩
theorem ok_25 : ∃ fn, Try.prog.funcs[fid 25]? = some fn ∧ okFn Try.prog fid fn v25 = true := ⟨Try.f64, Try.func64, by kernel_rfl⟩
theorem ok_29 : ∃ fn, Try.prog.funcs[fid 29]? = some fn ∧ okFn Try.prog fid fn v29 = true := ⟨Try.f105, Try.func105, by kernel_rfl⟩
theorem ok_30 : ∃ fn, Try.prog.funcs[fid 30]? = some fn ∧ okFn Try.prog fid fn v30 = true := ⟨Try.f43, Try.func43, by kernel_rfl⟩
theorem ok_31 : ∃ fn, Try.prog.funcs[fid 31]? = some fn ∧ okFn Try.prog fid fn v31 = true := ⟨Try.f101, Try.func101, by kernel_rfl⟩
theorem ok_33 : ∃ fn, Try.prog.funcs[fid 33]? = some fn ∧ okFn Try.prog fid fn v33 = true := ⟨Try.f89, Try.func89, by kernel_rfl⟩
theorem ok_34 : ∃ fn, Try.prog.funcs[fid 34]? = some fn ∧ okFn Try.prog fid fn v34 = true := ⟨Try.f95, Try.func95, by kernel_rfl⟩
theorem ok_41 : ∃ fn, Try.prog.funcs[fid 41]? = some fn ∧ okFn Try.prog fid fn v41 = true := ⟨Try.f19, Try.func19, by kernel_rfl⟩
theorem ok_44 : ∃ fn, Try.prog.funcs[fid 44]? = some fn ∧ okFn Try.prog fid fn v44 = true := ⟨Try.f13, Try.func13, by kernel_rfl⟩
theorem ok_47 : ∃ fn, Try.prog.funcs[fid 47]? = some fn ∧ okFn Try.prog fid fn v47 = true := ⟨Try.f47, Try.func47, by kernel_rfl⟩
theorem ok_53 : ∃ fn, Try.prog.funcs[fid 53]? = some fn ∧ okFn Try.prog fid fn v53 = true := ⟨Try.f44, Try.func44, by kernel_rfl⟩
theorem ok_54 : ∃ fn, Try.prog.funcs[fid 54]? = some fn ∧ okFn Try.prog fid fn v54 = true := ⟨Try.f46, Try.func46, by kernel_rfl⟩
theorem ok_55 : ∃ fn, Try.prog.funcs[fid 55]? = some fn ∧ okFn Try.prog fid fn v55 = true := ⟨Try.f81, Try.func81, by kernel_rfl⟩
theorem ok_56 : ∃ fn, Try.prog.funcs[fid 56]? = some fn ∧ okFn Try.prog fid fn v56 = true := ⟨Try.f97, Try.func97, by kernel_rfl⟩
theorem ok_59 : ∃ fn, Try.prog.funcs[fid 59]? = some fn ∧ okFn Try.prog fid fn v59 = true := ⟨Try.f99, Try.func99, by kernel_rfl⟩
theorem ok_60 : ∃ fn, Try.prog.funcs[fid 60]? = some fn ∧ okFn Try.prog fid fn v60 = true := ⟨Try.f102, Try.func102, by kernel_rfl⟩
theorem ok_61 : ∃ fn, Try.prog.funcs[fid 61]? = some fn ∧ okFn Try.prog fid fn v61 = true := ⟨Try.f107, Try.func107, by kernel_rfl⟩
theorem ok_62 : ∃ fn, Try.prog.funcs[fid 62]? = some fn ∧ okFn Try.prog fid fn v62 = true := ⟨Try.f108, Try.func108, by kernel_rfl⟩
theorem ok_65 : ∃ fn, Try.prog.funcs[fid 65]? = some fn ∧ okFn Try.prog fid fn v65 = true := ⟨Try.f21, Try.func21, by kernel_rfl⟩
theorem ok_66 : ∃ fn, Try.prog.funcs[fid 66]? = some fn ∧ okFn Try.prog fid fn v66 = true := ⟨Try.f23, Try.func23, by kernel_rfl⟩
theorem ok_69 : ∃ fn, Try.prog.funcs[fid 69]? = some fn ∧ okFn Try.prog fid fn v69 = true := ⟨Try.f26, Try.func26, by kernel_rfl⟩
theorem ok_70 : ∃ fn, Try.prog.funcs[fid 70]? = some fn ∧ okFn Try.prog fid fn v70 = true := ⟨Try.f74, Try.func74, by kernel_rfl⟩
theorem ok_73 : ∃ fn, Try.prog.funcs[fid 73]? = some fn ∧ okFn Try.prog fid fn v73 = true := ⟨Try.f75, Try.func75, by kernel_rfl⟩
theorem ok_74 : ∃ fn, Try.prog.funcs[fid 74]? = some fn ∧ okFn Try.prog fid fn v74 = true := ⟨Try.f94, Try.func94, by kernel_rfl⟩
theorem ok_75 : ∃ fn, Try.prog.funcs[fid 75]? = some fn ∧ okFn Try.prog fid fn v75 = true := ⟨Try.f66, Try.func66, by kernel_rfl⟩
theorem ok_77 : ∃ fn, Try.prog.funcs[fid 77]? = some fn ∧ okFn Try.prog fid fn v77 = true := ⟨Try.f91, Try.func91, by kernel_rfl⟩
theorem ok_78 : ∃ fn, Try.prog.funcs[fid 78]? = some fn ∧ okFn Try.prog fid fn v78 = true := ⟨Try.f93, Try.func93, by kernel_rfl⟩
theorem ok_79 : ∃ fn, Try.prog.funcs[fid 79]? = some fn ∧ okFn Try.prog fid fn v79 = true := ⟨Try.f78, Try.func78, by kernel_rfl⟩
theorem ok_80 : ∃ fn, Try.prog.funcs[fid 80]? = some fn ∧ okFn Try.prog fid fn v80 = true := ⟨Try.f68, Try.func68, by kernel_rfl⟩
theorem ok_81 : ∃ fn, Try.prog.funcs[fid 81]? = some fn ∧ okFn Try.prog fid fn v81 = true := ⟨Try.f69, Try.func69, by kernel_rfl⟩
theorem ok_82 : ∃ fn, Try.prog.funcs[fid 82]? = some fn ∧ okFn Try.prog fid fn v82 = true := ⟨Try.f85, Try.func85, by kernel_rfl⟩
theorem ok_83 : ∃ fn, Try.prog.funcs[fid 83]? = some fn ∧ okFn Try.prog fid fn v83 = true := ⟨Try.f87, Try.func87, by kernel_rfl⟩
theorem ok_84 : ∃ fn, Try.prog.funcs[fid 84]? = some fn ∧ okFn Try.prog fid fn v84 = true := ⟨Try.f72, Try.func72, by kernel_rfl⟩
theorem ok_85 : ∃ fn, Try.prog.funcs[fid 85]? = some fn ∧ okFn Try.prog fid fn v85 = true := ⟨Try.f88, Try.func88, by kernel_rfl⟩
theorem ok_86 : ∃ fn, Try.prog.funcs[fid 86]? = some fn ∧ okFn Try.prog fid fn v86 = true := ⟨Try.f58, Try.func58, by kernel_rfl⟩
theorem ok_87 : ∃ fn, Try.prog.funcs[fid 87]? = some fn ∧ okFn Try.prog fid fn v87 = true := ⟨Try.f53, Try.func53, by kernel_rfl⟩
theorem ok_88 : ∃ fn, Try.prog.funcs[fid 88]? = some fn ∧ okFn Try.prog fid fn v88 = true := ⟨Try.f50, Try.func50, by kernel_rfl⟩
theorem ok_102 : ∃ fn, Try.prog.funcs[fid 102]? = some fn ∧ okFn Try.prog fid fn v102 = true := ⟨Try.f71, Try.func71, by kernel_rfl⟩
theorem ok_103 : ∃ fn, Try.prog.funcs[fid 103]? = some fn ∧ okFn Try.prog fid fn v103 = true := ⟨Try.f77, Try.func77, by kernel_rfl⟩
theorem ok_104 : ∃ fn, Try.prog.funcs[fid 104]? = some fn ∧ okFn Try.prog fid fn v104 = true := ⟨Try.f33, Try.func33, by kernel_rfl⟩
theorem ok_105 : ∃ fn, Try.prog.funcs[fid 105]? = some fn ∧ okFn Try.prog fid fn v105 = true := ⟨Try.f65, Try.func65, by kernel_rfl⟩
theorem ok_106 : ∃ fn, Try.prog.funcs[fid 106]? = some fn ∧ okFn Try.prog fid fn v106 = true := ⟨Try.f20, Try.func20, by kernel_rfl⟩
theorem ok_107 : ∃ fn, Try.prog.funcs[fid 107]? = some fn ∧ okFn Try.prog fid fn v107 = true := ⟨Try.f45, Try.func45, by kernel_rfl⟩
theorem ok_108 : ∃ fn, Try.prog.funcs[fid 108]? = some fn ∧ okFn Try.prog fid fn v108 = true := ⟨Try.f48, Try.func48, by kernel_rfl⟩
theorem ok_110 : ∃ fn, Try.prog.funcs[fid 110]? = some fn ∧ okFn Try.prog fid fn v110 = true := ⟨Try.f31, Try.func31, by kernel_rfl⟩
theorem ok_111 : ∃ fn, Try.prog.funcs[fid 111]? = some fn ∧ okFn Try.prog fid fn v111 = true := ⟨Try.f62, Try.func62, by kernel_rfl⟩
theorem ok_112 : ∃ fn, Try.prog.funcs[fid 112]? = some fn ∧ okFn Try.prog fid fn v112 = true := ⟨Try.f18, Try.func18, by kernel_rfl⟩
theorem ok_117 : ∃ fn, Try.prog.funcs[fid 117]? = some fn ∧ okFn Try.prog fid fn v117 = true := ⟨Try.f70, Try.func70, by kernel_rfl⟩
theorem ok_118 : ∃ fn, Try.prog.funcs[fid 118]? = some fn ∧ okFn Try.prog fid fn v118 = true := ⟨Try.f76, Try.func76, by kernel_rfl⟩
theorem ok_144 : ∃ fn, Try.prog.funcs[fid 144]? = some fn ∧ okFn Try.prog fid fn v144 = true := ⟨Try.f24, Try.func24, by kernel_rfl⟩
theorem ok_145 : ∃ fn, Try.prog.funcs[fid 145]? = some fn ∧ okFn Try.prog fid fn v145 = true := ⟨Try.f22, Try.func22, by kernel_rfl⟩
theorem ok_146 : ∃ fn, Try.prog.funcs[fid 146]? = some fn ∧ okFn Try.prog fid fn v146 = true := ⟨Try.f51, Try.func51, by kernel_rfl⟩
theorem ok_147 : ∃ fn, Try.prog.funcs[fid 147]? = some fn ∧ okFn Try.prog fid fn v147 = true := ⟨Try.f52, Try.func52, by kernel_rfl⟩
theorem ok_148 : ∃ fn, Try.prog.funcs[fid 148]? = some fn ∧ okFn Try.prog fid fn v148 = true := ⟨Try.f54, Try.func54, by kernel_rfl⟩
theorem ok_149 : ∃ fn, Try.prog.funcs[fid 149]? = some fn ∧ okFn Try.prog fid fn v149 = true := ⟨Try.f55, Try.func55, by kernel_rfl⟩
theorem ok_150 : ∃ fn, Try.prog.funcs[fid 150]? = some fn ∧ okFn Try.prog fid fn v150 = true := ⟨Try.f56, Try.func56, by kernel_rfl⟩
theorem ok_151 : ∃ fn, Try.prog.funcs[fid 151]? = some fn ∧ okFn Try.prog fid fn v151 = true := ⟨Try.f84, Try.func84, by kernel_rfl⟩
theorem ok_178 : ∃ fn, Try.prog.funcs[fid 178]? = some fn ∧ okFn Try.prog fid fn v178 = true := ⟨Try.f37, Try.func37, by kernel_rfl⟩
theorem ok_179 : ∃ fn, Try.prog.funcs[fid 179]? = some fn ∧ okFn Try.prog fid fn v179 = true := ⟨Try.f35, Try.func35, by kernel_rfl⟩
theorem ok_212 : ∃ fn, Try.prog.funcs[fid 212]? = some fn ∧ okFn Try.prog fid fn v212 = true := ⟨Try.f12, Try.func12, by kernel_rfl⟩
theorem ok_213 : ∃ fn, Try.prog.funcs[fid 213]? = some fn ∧ okFn Try.prog fid fn v213 = true := ⟨Try.f10, Try.func10, by kernel_rfl⟩
theorem ok_243 : ∃ fn, Try.prog.funcs[fid 243]? = some fn ∧ okFn Try.prog fid fn v243 = true := ⟨Try.f41, Try.func41, by kernel_rfl⟩
theorem ok_244 : ∃ fn, Try.prog.funcs[fid 244]? = some fn ∧ okFn Try.prog fid fn v244 = true := ⟨Try.f59, Try.func59, by kernel_rfl⟩
theorem ok_292 : ∃ fn, Try.prog.funcs[fid 292]? = some fn ∧ okFn Try.prog fid fn v292 = true := ⟨Try.f60, Try.func60, by kernel_rfl⟩
theorem ok_293 : ∃ fn, Try.prog.funcs[fid 293]? = some fn ∧ okFn Try.prog fid fn v293 = true := ⟨Try.f27, Try.func27, by kernel_rfl⟩
theorem ok_294 : ∃ fn, Try.prog.funcs[fid 294]? = some fn ∧ okFn Try.prog fid fn v294 = true := ⟨Try.f80, Try.func80, by kernel_rfl⟩
theorem ok_308 : ∃ fn, Try.prog.funcs[fid 308]? = some fn ∧ okFn Try.prog fid fn v308 = true := ⟨Try.f28, Try.func28, by kernel_rfl⟩
theorem ok_338 : ∃ fn, Try.prog.funcs[fid 338]? = some fn ∧ okFn Try.prog fid fn v338 = true := ⟨Try.f8, Try.func8, by kernel_rfl⟩
theorem ok_339 : ∃ fn, Try.prog.funcs[fid 339]? = some fn ∧ okFn Try.prog fid fn v339 = true := ⟨Try.f39, Try.func39, by kernel_rfl⟩
theorem ok_340 : ∃ fn, Try.prog.funcs[fid 340]? = some fn ∧ okFn Try.prog fid fn v340 = true := ⟨Try.f40, Try.func40, by kernel_rfl⟩
theorem ok_341 : ∃ fn, Try.prog.funcs[fid 341]? = some fn ∧ okFn Try.prog fid fn v341 = true := ⟨Try.f29, Try.func29, by kernel_rfl⟩
theorem ok_342 : ∃ fn, Try.prog.funcs[fid 342]? = some fn ∧ okFn Try.prog fid fn v342 = true := ⟨Try.f7, Try.func7, by kernel_rfl⟩
theorem ok_343 : ∃ fn, Try.prog.funcs[fid 343]? = some fn ∧ okFn Try.prog fid fn v343 = true := ⟨Try.f6, Try.func6, by kernel_rfl⟩
theorem ok_344 : ∃ fn, Try.prog.funcs[fid 344]? = some fn ∧ okFn Try.prog fid fn v344 = true := ⟨Try.f16, Try.func16, by kernel_rfl⟩
theorem ok_345 : ∃ fn, Try.prog.funcs[fid 345]? = some fn ∧ okFn Try.prog fid fn v345 = true := ⟨Try.f17, Try.func17, by kernel_rfl⟩
theorem ok_346 : ∃ fn, Try.prog.funcs[fid 346]? = some fn ∧ okFn Try.prog fid fn v346 = true := ⟨Try.f5, Try.func5, by kernel_rfl⟩
theorem ok_347 : ∃ fn, Try.prog.funcs[fid 347]? = some fn ∧ okFn Try.prog fid fn v347 = true := ⟨Try.f4, Try.func4, by kernel_rfl⟩
theorem ok_348 : ∃ fn, Try.prog.funcs[fid 348]? = some fn ∧ okFn Try.prog fid fn v348 = true := ⟨Try.f3, Try.func3, by kernel_rfl⟩
theorem ok_349 : ∃ fn, Try.prog.funcs[fid 349]? = some fn ∧ okFn Try.prog fid fn v349 = true := ⟨Try.f9, Try.func9, by kernel_rfl⟩
theorem ok_350 : ∃ fn, Try.prog.funcs[fid 350]? = some fn ∧ okFn Try.prog fid fn v350 = true := ⟨Try.f11, Try.func11, by kernel_rfl⟩
theorem ok_351 : ∃ fn, Try.prog.funcs[fid 351]? = some fn ∧ okFn Try.prog fid fn v351 = true := ⟨Try.f14, Try.func14, by kernel_rfl⟩
theorem ok_352 : ∃ fn, Try.prog.funcs[fid 352]? = some fn ∧ okFn Try.prog fid fn v352 = true := ⟨Try.f15, Try.func15, by kernel_rfl⟩
theorem ok_353 : ∃ fn, Try.prog.funcs[fid 353]? = some fn ∧ okFn Try.prog fid fn v353 = true := ⟨Try.f42, Try.func42, by kernel_rfl⟩
theorem look_mem : ∀ {l : List (Nat × VFn)} {k : Nat} {v : VFn}, look l k = some v → (k, v) ∈ l
  | [], _, _, h => by simp [look] at h
  | (a, u) :: r, k, v, h => by
    simp only [look] at h
    split at h
    · rename_i hk
      simp at h; subst h; subst hk; simp
    · exact List.mem_cons_of_mem _ (look_mem h)
theorem codes_ok : ∀ q, q ∈ codes → ∃ fn, Try.prog.funcs[fid q.1]? = some fn ∧ okFn Try.prog fid fn q.2 = true :=
  List.forall_mem_cons.2 ⟨ok_1, List.forall_mem_cons.2 ⟨ok_2, List.forall_mem_cons.2 ⟨ok_3, List.forall_mem_cons.2 ⟨ok_5, List.forall_mem_cons.2 ⟨ok_6, List.forall_mem_cons.2 ⟨ok_7, List.forall_mem_cons.2 ⟨ok_8, List.forall_mem_cons.2 ⟨ok_9, List.forall_mem_cons.2 ⟨ok_11, List.forall_mem_cons.2 ⟨ok_12, List.forall_mem_cons.2 ⟨ok_13, List.forall_mem_cons.2 ⟨ok_14, List.forall_mem_cons.2 ⟨ok_15, List.forall_mem_cons.2 ⟨ok_16, List.forall_mem_cons.2 ⟨ok_17, List.forall_mem_cons.2 ⟨ok_18, List.forall_mem_cons.2 ⟨ok_19, List.forall_mem_cons.2 ⟨ok_20, List.forall_mem_cons.2 ⟨ok_22, List.forall_mem_cons.2 ⟨ok_23, List.forall_mem_cons.2 ⟨ok_24, List.forall_mem_cons.2 ⟨ok_25, List.forall_mem_cons.2 ⟨ok_29, List.forall_mem_cons.2 ⟨ok_30, List.forall_mem_cons.2 ⟨ok_31, List.forall_mem_cons.2 ⟨ok_33, List.forall_mem_cons.2 ⟨ok_34, List.forall_mem_cons.2 ⟨ok_41, List.forall_mem_cons.2 ⟨ok_44, List.forall_mem_cons.2 ⟨ok_47, List.forall_mem_cons.2 ⟨ok_53, List.forall_mem_cons.2 ⟨ok_54, List.forall_mem_cons.2 ⟨ok_55, List.forall_mem_cons.2 ⟨ok_56, List.forall_mem_cons.2 ⟨ok_59, List.forall_mem_cons.2 ⟨ok_60, List.forall_mem_cons.2 ⟨ok_61, List.forall_mem_cons.2 ⟨ok_62, List.forall_mem_cons.2 ⟨ok_65, List.forall_mem_cons.2 ⟨ok_66, List.forall_mem_cons.2 ⟨ok_69, List.forall_mem_cons.2 ⟨ok_70, List.forall_mem_cons.2 ⟨ok_73, List.forall_mem_cons.2 ⟨ok_74, List.forall_mem_cons.2 ⟨ok_75, List.forall_mem_cons.2 ⟨ok_77, List.forall_mem_cons.2 ⟨ok_78, List.forall_mem_cons.2 ⟨ok_79, List.forall_mem_cons.2 ⟨ok_80, List.forall_mem_cons.2 ⟨ok_81, List.forall_mem_cons.2 ⟨ok_82, List.forall_mem_cons.2 ⟨ok_83, List.forall_mem_cons.2 ⟨ok_84, List.forall_mem_cons.2 ⟨ok_85, List.forall_mem_cons.2 ⟨ok_86, List.forall_mem_cons.2 ⟨ok_87, List.forall_mem_cons.2 ⟨ok_88, List.forall_mem_cons.2 ⟨ok_102, List.forall_mem_cons.2 ⟨ok_103, List.forall_mem_cons.2 ⟨ok_104, List.forall_mem_cons.2 ⟨ok_105, List.forall_mem_cons.2 ⟨ok_106, List.forall_mem_cons.2 ⟨ok_107, List.forall_mem_cons.2 ⟨ok_108, List.forall_mem_cons.2 ⟨ok_110, List.forall_mem_cons.2 ⟨ok_111, List.forall_mem_cons.2 ⟨ok_112, List.forall_mem_cons.2 ⟨ok_117, List.forall_mem_cons.2 ⟨ok_118, List.forall_mem_cons.2 ⟨ok_144, List.forall_mem_cons.2 ⟨ok_145, List.forall_mem_cons.2 ⟨ok_146, List.forall_mem_cons.2 ⟨ok_147, List.forall_mem_cons.2 ⟨ok_148, List.forall_mem_cons.2 ⟨ok_149, List.forall_mem_cons.2 ⟨ok_150, List.forall_mem_cons.2 ⟨ok_151, List.forall_mem_cons.2 ⟨ok_178, List.forall_mem_cons.2 ⟨ok_179, List.forall_mem_cons.2 ⟨ok_212, List.forall_mem_cons.2 ⟨ok_213, List.forall_mem_cons.2 ⟨ok_243, List.forall_mem_cons.2 ⟨ok_244, List.forall_mem_cons.2 ⟨ok_292, List.forall_mem_cons.2 ⟨ok_293, List.forall_mem_cons.2 ⟨ok_294, List.forall_mem_cons.2 ⟨ok_308, List.forall_mem_cons.2 ⟨ok_338, List.forall_mem_cons.2 ⟨ok_339, List.forall_mem_cons.2 ⟨ok_340, List.forall_mem_cons.2 ⟨ok_341, List.forall_mem_cons.2 ⟨ok_342, List.forall_mem_cons.2 ⟨ok_343, List.forall_mem_cons.2 ⟨ok_344, List.forall_mem_cons.2 ⟨ok_345, List.forall_mem_cons.2 ⟨ok_346, List.forall_mem_cons.2 ⟨ok_347, List.forall_mem_cons.2 ⟨ok_348, List.forall_mem_cons.2 ⟨ok_349, List.forall_mem_cons.2 ⟨ok_350, List.forall_mem_cons.2 ⟨ok_351, List.forall_mem_cons.2 ⟨ok_352, List.forall_mem_cons.2 ⟨ok_353, List.forall_mem_nil _⟩⟩⟩⟩⟩⟩⟩⟩⟩⟩⟩⟩⟩⟩⟩⟩⟩⟩⟩⟩⟩⟩⟩⟩⟩⟩⟩⟩⟩⟩⟩⟩⟩⟩⟩⟩⟩⟩⟩⟩⟩⟩⟩⟩⟩⟩⟩⟩⟩⟩⟩⟩⟩⟩⟩⟩⟩⟩⟩⟩⟩⟩⟩⟩⟩⟩⟩⟩⟩⟩⟩⟩⟩⟩⟩⟩⟩⟩⟩⟩⟩⟩⟩⟩⟩⟩⟩⟩⟩⟩⟩⟩⟩⟩⟩⟩⟩⟩⟩⟩⟩⟩⟩
theorem envW_ok : EnvOK Try.prog fid ⟨look codes, fun _ => none⟩ := ⟨fun k vf _ h => codes_ok (k, vf) (look_mem h), fun k f h => by simp at h, by kernel_rfl⟩
end Go.Proofs.Ytanfjghdjkiggaa.VS
