/- The evaluator's code is the program's. -/
import Derived.Test.YtpmjooeehnmkcaaNat1
import Derived.Test.YtpmjooeehnmkcaaCode
import Derived.Test.YtpmjooeehnmkcaaChecked
import Derived.KernelRfl
namespace Go.Proofs.Ytpmjooeehnmkcaa.VS
set_option linter.unusedVariables false
open Go.Proofs
def fid : Nat → FuncId
  | 1 => 15
  | 2 => 17
  | 3 => 60
  | 5 => 19
  | 6 => 61
  | 7 => 59
  | 8 => 55
  | 9 => 53
  | 11 => 22
  | 12 => 24
  | 13 => 64
  | 14 => 68
  | 15 => 26
  | 16 => 66
  | 17 => 62
  | 18 => 92
  | 19 => 91
  | 20 => 70
  | 22 => 80
  | 23 => 82
  | 24 => 99
  | 25 => 56
  | 29 => 79
  | 30 => 69
  | 31 => 65
  | 33 => 75
  | 34 => 76
  | 38 => 73
  | 39 => 72
  | 41 => 33
  | 44 => 35
  | 47 => 106
  | 53 => 111
  | 54 => 105
  | 55 => 112
  | 56 => 115
  | 59 => 63
  | 60 => 67
  | 61 => 89
  | 62 => 90
  | 64 => 14
  | 65 => 46
  | 66 => 48
  | 67 => 51
  | 68 => 52
  | 69 => 50
  | 70 => 45
  | 71 => 88
  | 72 => 87
  | 73 => 18
  | 74 => 57
  | 75 => 58
  | 76 => 100
  | 77 => 25
  | 78 => 83
  | 79 => 21
  | 80 => 44
  | 81 => 16
  | 82 => 23
  | 83 => 81
  | 84 => 20
  | 85 => 54
  | 86 => 86
  | 87 => 85
  | 88 => 84
  | 89 => 13
  | 90 => 47
  | 91 => 49
  | 92 => 43
  | 93 => 74
  | 94 => 93
  | 95 => 94
  | 96 => 95
  | 97 => 101
  | 98 => 42
  | 99 => 12
  | 100 => 11
  | 101 => 10
  | 102 => 40
  | 103 => 41
  | 104 => 78
  | 105 => 97
  | 106 => 98
  | 107 => 104
  | 108 => 107
  | 109 => 108
  | 110 => 77
  | 111 => 96
  | 112 => 103
  | 113 => 9
  | 114 => 38
  | 115 => 39
  | 116 => 8
  | 117 => 36
  | 118 => 37
  | 119 => 7
  | 120 => 32
  | 121 => 34
  | 122 => 6
  | 123 => 27
  | 124 => 29
  | 125 => 28
  | 126 => 30
  | 127 => 31
  | 128 => 71
  | 129 => 5
  | 130 => 4
  | 131 => 3
  | _ => 0
theorem ok_1 : ∃ fn, Try.prog.funcs[fid 1]? = some fn ∧ okFn Try.prog fid fn v1 = true := ⟨Try.f15, Try.func15, by kernel_rfl⟩
theorem ok_2 : ∃ fn, Try.prog.funcs[fid 2]? = some fn ∧ okFn Try.prog fid fn v2 = true := ⟨Try.f17, Try.func17, by kernel_rfl⟩
theorem ok_3 : ∃ fn, Try.prog.funcs[fid 3]? = some fn ∧ okFn Try.prog fid fn v3 = true := ⟨Try.f60, Try.func60, by kernel_rfl⟩
theorem ok_5 : ∃ fn, Try.prog.funcs[fid 5]? = some fn ∧ okFn Try.prog fid fn v5 = true := ⟨Try.f19, Try.func19, by kernel_rfl⟩
theorem ok_6 : ∃ fn, Try.prog.funcs[fid 6]? = some fn ∧ okFn Try.prog fid fn v6 = true := ⟨Try.f61, Try.func61, by kernel_rfl⟩
theorem ok_7 : ∃ fn, Try.prog.funcs[fid 7]? = some fn ∧ okFn Try.prog fid fn v7 = true := ⟨Try.f59, Try.func59, by kernel_rfl⟩
theorem ok_8 : ∃ fn, Try.prog.funcs[fid 8]? = some fn ∧ okFn Try.prog fid fn v8 = true := ⟨Try.f55, Try.func55, by kernel_rfl⟩
theorem ok_9 : ∃ fn, Try.prog.funcs[fid 9]? = some fn ∧ okFn Try.prog fid fn v9 = true := ⟨Try.f53, Try.func53, by kernel_rfl⟩
theorem ok_11 : ∃ fn, Try.prog.funcs[fid 11]? = some fn ∧ okFn Try.prog fid fn v11 = true := ⟨Try.f22, Try.func22, by kernel_rfl⟩
theorem ok_12 : ∃ fn, Try.prog.funcs[fid 12]? = some fn ∧ okFn Try.prog fid fn v12 = true := ⟨Try.f24, Try.func24, by kernel_rfl⟩
theorem ok_13 : ∃ fn, Try.prog.funcs[fid 13]? = some fn ∧ okFn Try.prog fid fn v13 = true := ⟨Try.f64, Try.func64, by kernel_rfl⟩
theorem ok_14 : ∃ fn, Try.prog.funcs[fid 14]? = some fn ∧ okFn Try.prog fid fn v14 = true := ⟨Try.f68, Try.func68, by kernel_rfl⟩
theorem ok_15 : ∃ fn, Try.prog.funcs[fid 15]? = some fn ∧ okFn Try.prog fid fn v15 = true := ⟨Try.f26, Try.func26, by kernel_rfl⟩
theorem ok_16 : ∃ fn, Try.prog.funcs[fid 16]? = some fn ∧ okFn Try.prog fid fn v16 = true := ⟨Try.f66, Try.func66, by kernel_rfl⟩
theorem ok_17 : ∃ fn, Try.prog.funcs[fid 17]? = some fn ∧ okFn Try.prog fid fn v17 = true := ⟨Try.f62, Try.func62, by kernel_rfl⟩
theorem ok_18 : ∃ fn, Try.prog.funcs[fid 18]? = some fn ∧ okFn Try.prog fid fn v18 = true := ⟨Try.f92, Try.func92, by kernel_rfl⟩
theorem ok_19 : ∃ fn, Try.prog.funcs[fid 19]? = some fn ∧ okFn Try.prog fid fn v19 = true := ⟨Try.f91, Try.func91, by kernel_rfl⟩
theorem ok_20 : ∃ fn, Try.prog.funcs[fid 20]? = some fn ∧ okFn Try.prog fid fn v20 = true := ⟨Try.f70, Try.func70, by kernel_rfl⟩
theorem ok_22 : ∃ fn, Try.prog.funcs[fid 22]? = some fn ∧ okFn Try.prog fid fn v22 = true := ⟨Try.f80, Try.func80, by kernel_rfl⟩
theorem ok_23 : ∃ fn, Try.prog.funcs[fid 23]? = some fn ∧ okFn Try.prog fid fn v23 = true := ⟨Try.f82, Try.func82, by kernel_rfl⟩
theorem ok_24 : ∃ fn, Try.prog.funcs[fid 24]? = some fn ∧ okFn Try.prog fid fn v24 = true := ⟨Try.f99, Try.func99, by kernel_rfl⟩
theorem ok_25 : ∃ fn, Try.prog.funcs[fid 25]? = some fn ∧ okFn Try.prog fid fn v25 = true := ⟨Try.f56, Try.func56, by kernel_rfl⟩
theorem ok_29 : ∃ fn, Try.prog.funcs[fid 29]? = some fn ∧ okFn Try.prog fid fn v29 = true := ⟨Try.f79, Try.func79, by kernel_rfl⟩
theorem ok_30 : ∃ fn, Try.prog.funcs[fid 30]? = some fn ∧ okFn Try.prog fid fn v30 = true := ⟨Try.f69, Try.func69, by kernel_rfl⟩
theorem ok_31 : ∃ fn, Try.prog.funcs[fid 31]? = some fn ∧ okFn Try.prog fid fn v31 = true := ⟨Try.f65, Try.func65, by kernel_rfl⟩
theorem ok_33 : ∃ fn, Try.prog.funcs[fid 33]? = some fn ∧ okFn Try.prog fid fn v33 = true := ⟨Try.f75, Try.func75, by kernel_rfl⟩
theorem ok_34 : ∃ fn, Try.prog.funcs[fid 34]? = some fn ∧ okFn Try.prog fid fn v34 = true := ⟨Try.f76, Try.func76, by kernel_rfl⟩
theorem ok_38 : ∃ fn, Try.prog.funcs[fid 38]? = some fn ∧ okFn Try.prog fid fn v38 = true := ⟨Try.f73, Try.func73, by kernel_rfl⟩
theorem ok_39 : ∃ fn, Try.prog.funcs[fid 39]? = some fn ∧ okFn Try.prog fid fn v39 = true := ⟨Try.f72, Try.func72, by kernel_rfl⟩
theorem ok_41 : ∃ fn, Try.prog.funcs[fid 41]? = some fn ∧ okFn Try.prog fid fn v41 = true := ⟨Try.f33, Try.func33, by kernel_rfl⟩
theorem ok_44 : ∃ fn, Try.prog.funcs[fid 44]? = some fn ∧ okFn Try.prog fid fn v44 = true := ⟨Try.f35, Try.func35, by kernel_rfl⟩
theorem ok_47 : ∃ fn, Try.prog.funcs[fid 47]? = some fn ∧ okFn Try.prog fid fn v47 = true := ⟨Try.f106, Try.func106, by kernel_rfl⟩
theorem ok_53 : ∃ fn, Try.prog.funcs[fid 53]? = some fn ∧ okFn Try.prog fid fn v53 = true := ⟨Try.f111, Try.func111, by kernel_rfl⟩
theorem ok_54 : ∃ fn, Try.prog.funcs[fid 54]? = some fn ∧ okFn Try.prog fid fn v54 = true := ⟨Try.f105, Try.func105, by kernel_rfl⟩
theorem ok_55 : ∃ fn, Try.prog.funcs[fid 55]? = some fn ∧ okFn Try.prog fid fn v55 = true := ⟨Try.f112, Try.func112, by kernel_rfl⟩
theorem ok_56 : ∃ fn, Try.prog.funcs[fid 56]? = some fn ∧ okFn Try.prog fid fn v56 = true := ⟨Try.f115, Try.func115, by kernel_rfl⟩
theorem ok_59 : ∃ fn, Try.prog.funcs[fid 59]? = some fn ∧ okFn Try.prog fid fn v59 = true := ⟨Try.f63, Try.func63, by kernel_rfl⟩
theorem ok_60 : ∃ fn, Try.prog.funcs[fid 60]? = some fn ∧ okFn Try.prog fid fn v60 = true := ⟨Try.f67, Try.func67, by kernel_rfl⟩
theorem ok_61 : ∃ fn, Try.prog.funcs[fid 61]? = some fn ∧ okFn Try.prog fid fn v61 = true := ⟨Try.f89, Try.func89, by kernel_rfl⟩
theorem ok_62 : ∃ fn, Try.prog.funcs[fid 62]? = some fn ∧ okFn Try.prog fid fn v62 = true := ⟨Try.f90, Try.func90, by kernel_rfl⟩
theorem ok_64 : ∃ fn, Try.prog.funcs[fid 64]? = some fn ∧ okFn Try.prog fid fn v64 = true := ⟨Try.f14, Try.func14, by kernel_rfl⟩
theorem ok_65 : ∃ fn, Try.prog.funcs[fid 65]? = some fn ∧ okFn Try.prog fid fn v65 = true := ⟨Try.f46, Try.func46, by kernel_rfl⟩
theorem ok_66 : ∃ fn, Try.prog.funcs[fid 66]? = some fn ∧ okFn Try.prog fid fn v66 = true := ⟨Try.f48, Try.func48, by kernel_rfl⟩
theorem ok_67 : ∃ fn, Try.prog.funcs[fid 67]? = some fn ∧ okFn Try.prog fid fn v67 = true := ⟨Try.f51, Try.func51, by kernel_rfl⟩
theorem ok_68 : ∃ fn, Try.prog.funcs[fid 68]? = some fn ∧ okFn Try.prog fid fn v68 = true := ⟨Try.f52, Try.func52, by kernel_rfl⟩
theorem ok_69 : ∃ fn, Try.prog.funcs[fid 69]? = some fn ∧ okFn Try.prog fid fn v69 = true := ⟨Try.f50, Try.func50, by kernel_rfl⟩
theorem ok_70 : ∃ fn, Try.prog.funcs[fid 70]? = some fn ∧ okFn Try.prog fid fn v70 = true := ⟨Try.f45, Try.func45, by kernel_rfl⟩
theorem ok_71 : ∃ fn, Try.prog.funcs[fid 71]? = some fn ∧ okFn Try.prog fid fn v71 = true := ⟨Try.f88, Try.func88, by kernel_rfl⟩
theorem ok_72 : ∃ fn, Try.prog.funcs[fid 72]? = some fn ∧ okFn Try.prog fid fn v72 = true := ⟨Try.f87, Try.func87, by kernel_rfl⟩
theorem ok_73 : ∃ fn, Try.prog.funcs[fid 73]? = some fn ∧ okFn Try.prog fid fn v73 = true := ⟨Try.f18, Try.func18, by kernel_rfl⟩
theorem ok_74 : ∃ fn, Try.prog.funcs[fid 74]? = some fn ∧ okFn Try.prog fid fn v74 = true := ⟨Try.f57, Try.func57, by kernel_rfl⟩
theorem ok_75 : ∃ fn, Try.prog.funcs[fid 75]? = some fn ∧ okFn Try.prog fid fn v75 = true := ⟨Try.f58, Try.func58, by kernel_rfl⟩
theorem ok_76 : ∃ fn, Try.prog.funcs[fid 76]? = some fn ∧ okFn Try.prog fid fn v76 = true := ⟨Try.f100, Try.func100, by kernel_rfl⟩
theorem ok_77 : ∃ fn, Try.prog.funcs[fid 77]? = some fn ∧ okFn Try.prog fid fn v77 = true := ⟨Try.f25, Try.func25, by kernel_rfl⟩
theorem ok_78 : ∃ fn, Try.prog.funcs[fid 78]? = some fn ∧ okFn Try.prog fid fn v78 = true := ⟨Try.f83, Try.func83, by kernel_rfl⟩
theorem ok_79 : ∃ fn, Try.prog.funcs[fid 79]? = some fn ∧ okFn Try.prog fid fn v79 = true := ⟨Try.f21, Try.func21, by kernel_rfl⟩
theorem ok_80 : ∃ fn, Try.prog.funcs[fid 80]? = some fn ∧ okFn Try.prog fid fn v80 = true := ⟨Try.f44, Try.func44, by kernel_rfl⟩
theorem ok_81 : ∃ fn, Try.prog.funcs[fid 81]? = some fn ∧ okFn Try.prog fid fn v81 = true := ⟨Try.f16, Try.func16, by kernel_rfl⟩
theorem ok_82 : ∃ fn, Try.prog.funcs[fid 82]? = some fn ∧ okFn Try.prog fid fn v82 = true := ⟨Try.f23, Try.func23, by kernel_rfl⟩
theorem ok_83 : ∃ fn, Try.prog.funcs[fid 83]? = some fn ∧ okFn Try.prog fid fn v83 = true := ⟨Try.f81, Try.func81, by kernel_rfl⟩
theorem ok_84 : ∃ fn, Try.prog.funcs[fid 84]? = some fn ∧ okFn Try.prog fid fn v84 = true := ⟨Try.f20, Try.func20, by kernel_rfl⟩
theorem ok_85 : ∃ fn, Try.prog.funcs[fid 85]? = some fn ∧ okFn Try.prog fid fn v85 = true := ⟨Try.f54, Try.func54, by kernel_rfl⟩
theorem ok_86 : ∃ fn, Try.prog.funcs[fid 86]? = some fn ∧ okFn Try.prog fid fn v86 = true := ⟨Try.f86, Try.func86, by kernel_rfl⟩
theorem ok_87 : ∃ fn, Try.prog.funcs[fid 87]? = some fn ∧ okFn Try.prog fid fn v87 = true := ⟨Try.f85, Try.func85, by kernel_rfl⟩
theorem ok_88 : ∃ fn, Try.prog.funcs[fid 88]? = some fn ∧ okFn Try.prog fid fn v88 = true := ⟨Try.f84, Try.func84, by kernel_rfl⟩
theorem ok_89 : ∃ fn, Try.prog.funcs[fid 89]? = some fn ∧ okFn Try.prog fid fn v89 = true := ⟨Try.f13, Try.func13, by kernel_rfl⟩
theorem ok_90 : ∃ fn, Try.prog.funcs[fid 90]? = some fn ∧ okFn Try.prog fid fn v90 = true := ⟨Try.f47, Try.func47, by kernel_rfl⟩
theorem ok_91 : ∃ fn, Try.prog.funcs[fid 91]? = some fn ∧ okFn Try.prog fid fn v91 = true := ⟨Try.f49, Try.func49, by kernel_rfl⟩
theorem ok_92 : ∃ fn, Try.prog.funcs[fid 92]? = some fn ∧ okFn Try.prog fid fn v92 = true := ⟨Try.f43, Try.func43, by kernel_rfl⟩
theorem ok_98 : ∃ fn, Try.prog.funcs[fid 98]? = some fn ∧ okFn Try.prog fid fn v98 = true := ⟨Try.f42, Try.func42, by kernel_rfl⟩
theorem ok_99 : ∃ fn, Try.prog.funcs[fid 99]? = some fn ∧ okFn Try.prog fid fn v99 = true := ⟨Try.f12, Try.func12, by kernel_rfl⟩
theorem ok_100 : ∃ fn, Try.prog.funcs[fid 100]? = some fn ∧ okFn Try.prog fid fn v100 = true := ⟨Try.f11, Try.func11, by kernel_rfl⟩
theorem ok_101 : ∃ fn, Try.prog.funcs[fid 101]? = some fn ∧ okFn Try.prog fid fn v101 = true := ⟨Try.f10, Try.func10, by kernel_rfl⟩
theorem ok_102 : ∃ fn, Try.prog.funcs[fid 102]? = some fn ∧ okFn Try.prog fid fn v102 = true := ⟨Try.f40, Try.func40, by kernel_rfl⟩
theorem ok_103 : ∃ fn, Try.prog.funcs[fid 103]? = some fn ∧ okFn Try.prog fid fn v103 = true := ⟨Try.f41, Try.func41, by kernel_rfl⟩
theorem ok_104 : ∃ fn, Try.prog.funcs[fid 104]? = some fn ∧ okFn Try.prog fid fn v104 = true := ⟨Try.f78, Try.func78, by kernel_rfl⟩
theorem ok_105 : ∃ fn, Try.prog.funcs[fid 105]? = some fn ∧ okFn Try.prog fid fn v105 = true := ⟨Try.f97, Try.func97, by kernel_rfl⟩
theorem ok_106 : ∃ fn, Try.prog.funcs[fid 106]? = some fn ∧ okFn Try.prog fid fn v106 = true := ⟨Try.f98, Try.func98, by kernel_rfl⟩
theorem ok_107 : ∃ fn, Try.prog.funcs[fid 107]? = some fn ∧ okFn Try.prog fid fn v107 = true := ⟨Try.f104, Try.func104, by kernel_rfl⟩
theorem ok_108 : ∃ fn, Try.prog.funcs[fid 108]? = some fn ∧ okFn Try.prog fid fn v108 = true := ⟨Try.f107, Try.func107, by kernel_rfl⟩
theorem ok_110 : ∃ fn, Try.prog.funcs[fid 110]? = some fn ∧ okFn Try.prog fid fn v110 = true := ⟨Try.f77, Try.func77, by kernel_rfl⟩
theorem ok_111 : ∃ fn, Try.prog.funcs[fid 111]? = some fn ∧ okFn Try.prog fid fn v111 = true := ⟨Try.f96, Try.func96, by kernel_rfl⟩
theorem ok_112 : ∃ fn, Try.prog.funcs[fid 112]? = some fn ∧ okFn Try.prog fid fn v112 = true := ⟨Try.f103, Try.func103, by kernel_rfl⟩
theorem ok_113 : ∃ fn, Try.prog.funcs[fid 113]? = some fn ∧ okFn Try.prog fid fn v113 = true := ⟨Try.f9, Try.func9, by kernel_rfl⟩
theorem ok_114 : ∃ fn, Try.prog.funcs[fid 114]? = some fn ∧ okFn Try.prog fid fn v114 = true := ⟨Try.f38, Try.func38, by kernel_rfl⟩
theorem ok_115 : ∃ fn, Try.prog.funcs[fid 115]? = some fn ∧ okFn Try.prog fid fn v115 = true := ⟨Try.f39, Try.func39, by kernel_rfl⟩
theorem ok_116 : ∃ fn, Try.prog.funcs[fid 116]? = some fn ∧ okFn Try.prog fid fn v116 = true := ⟨Try.f8, Try.func8, by kernel_rfl⟩
theorem ok_117 : ∃ fn, Try.prog.funcs[fid 117]? = some fn ∧ okFn Try.prog fid fn v117 = true := ⟨Try.f36, Try.func36, by kernel_rfl⟩
theorem ok_118 : ∃ fn, Try.prog.funcs[fid 118]? = some fn ∧ okFn Try.prog fid fn v118 = true := ⟨Try.f37, Try.func37, by kernel_rfl⟩
theorem ok_119 : ∃ fn, Try.prog.funcs[fid 119]? = some fn ∧ okFn Try.prog fid fn v119 = true := ⟨Try.f7, Try.func7, by kernel_rfl⟩
theorem ok_120 : ∃ fn, Try.prog.funcs[fid 120]? = some fn ∧ okFn Try.prog fid fn v120 = true := ⟨Try.f32, Try.func32, by kernel_rfl⟩
theorem ok_121 : ∃ fn, Try.prog.funcs[fid 121]? = some fn ∧ okFn Try.prog fid fn v121 = true := ⟨Try.f34, Try.func34, by kernel_rfl⟩
theorem ok_122 : ∃ fn, Try.prog.funcs[fid 122]? = some fn ∧ okFn Try.prog fid fn v122 = true := ⟨Try.f6, Try.func6, by kernel_rfl⟩
theorem ok_123 : ∃ fn, Try.prog.funcs[fid 123]? = some fn ∧ okFn Try.prog fid fn v123 = true := ⟨Try.f27, Try.func27, by kernel_rfl⟩
theorem ok_124 : ∃ fn, Try.prog.funcs[fid 124]? = some fn ∧ okFn Try.prog fid fn v124 = true := ⟨Try.f29, Try.func29, by kernel_rfl⟩
theorem ok_125 : ∃ fn, Try.prog.funcs[fid 125]? = some fn ∧ okFn Try.prog fid fn v125 = true := ⟨Try.f28, Try.func28, by kernel_rfl⟩
theorem ok_126 : ∃ fn, Try.prog.funcs[fid 126]? = some fn ∧ okFn Try.prog fid fn v126 = true := ⟨Try.f30, Try.func30, by kernel_rfl⟩
theorem ok_127 : ∃ fn, Try.prog.funcs[fid 127]? = some fn ∧ okFn Try.prog fid fn v127 = true := ⟨Try.f31, Try.func31, by kernel_rfl⟩
theorem ok_128 : ∃ fn, Try.prog.funcs[fid 128]? = some fn ∧ okFn Try.prog fid fn v128 = true := ⟨Try.f71, Try.func71, by kernel_rfl⟩
theorem ok_129 : ∃ fn, Try.prog.funcs[fid 129]? = some fn ∧ okFn Try.prog fid fn v129 = true := ⟨Try.f5, Try.func5, by kernel_rfl⟩
theorem ok_130 : ∃ fn, Try.prog.funcs[fid 130]? = some fn ∧ okFn Try.prog fid fn v130 = true := ⟨Try.f4, Try.func4, by kernel_rfl⟩
theorem ok_131 : ∃ fn, Try.prog.funcs[fid 131]? = some fn ∧ okFn Try.prog fid fn v131 = true := ⟨Try.f3, Try.func3, by kernel_rfl⟩
theorem look_mem : ∀ {l : List (Nat × VFn)} {k : Nat} {v : VFn}, look l k = some v → (k, v) ∈ l
  | [], _, _, h => by simp [look] at h
  | (a, u) :: r, k, v, h => by
    simp only [look] at h
    split at h
    · rename_i hk
      simp at h; subst h; subst hk; simp
    · exact List.mem_cons_of_mem _ (look_mem h)
theorem codes_ok : ∀ q, q ∈ codes → ∃ fn, Try.prog.funcs[fid q.1]? = some fn ∧ okFn Try.prog fid fn q.2 = true :=
  List.forall_mem_cons.2 ⟨ok_1, List.forall_mem_cons.2 ⟨ok_2, List.forall_mem_cons.2 ⟨ok_3, List.forall_mem_cons.2 ⟨ok_5, List.forall_mem_cons.2 ⟨ok_6, List.forall_mem_cons.2 ⟨ok_7, List.forall_mem_cons.2 ⟨ok_8, List.forall_mem_cons.2 ⟨ok_9, List.forall_mem_cons.2 ⟨ok_11, List.forall_mem_cons.2 ⟨ok_12, List.forall_mem_cons.2 ⟨ok_13, List.forall_mem_cons.2 ⟨ok_14, List.forall_mem_cons.2 ⟨ok_15, List.forall_mem_cons.2 ⟨ok_16, List.forall_mem_cons.2 ⟨ok_17, List.forall_mem_cons.2 ⟨ok_18, List.forall_mem_cons.2 ⟨ok_19, List.forall_mem_cons.2 ⟨ok_20, List.forall_mem_cons.2 ⟨ok_22, List.forall_mem_cons.2 ⟨ok_23, List.forall_mem_cons.2 ⟨ok_24, List.forall_mem_cons.2 ⟨ok_25, List.forall_mem_cons.2 ⟨ok_29, List.forall_mem_cons.2 ⟨ok_30, List.forall_mem_cons.2 ⟨ok_31, List.forall_mem_cons.2 ⟨ok_33, List.forall_mem_cons.2 ⟨ok_34, List.forall_mem_cons.2 ⟨ok_38, List.forall_mem_cons.2 ⟨ok_39, List.forall_mem_cons.2 ⟨ok_41, List.forall_mem_cons.2 ⟨ok_44, List.forall_mem_cons.2 ⟨ok_47, List.forall_mem_cons.2 ⟨ok_53, List.forall_mem_cons.2 ⟨ok_54, List.forall_mem_cons.2 ⟨ok_55, List.forall_mem_cons.2 ⟨ok_56, List.forall_mem_cons.2 ⟨ok_59, List.forall_mem_cons.2 ⟨ok_60, List.forall_mem_cons.2 ⟨ok_61, List.forall_mem_cons.2 ⟨ok_62, List.forall_mem_cons.2 ⟨ok_64, List.forall_mem_cons.2 ⟨ok_65, List.forall_mem_cons.2 ⟨ok_66, List.forall_mem_cons.2 ⟨ok_67, List.forall_mem_cons.2 ⟨ok_68, List.forall_mem_cons.2 ⟨ok_69, List.forall_mem_cons.2 ⟨ok_70, List.forall_mem_cons.2 ⟨ok_71, List.forall_mem_cons.2 ⟨ok_72, List.forall_mem_cons.2 ⟨ok_73, List.forall_mem_cons.2 ⟨ok_74, List.forall_mem_cons.2 ⟨ok_75, List.forall_mem_cons.2 ⟨ok_76, List.forall_mem_cons.2 ⟨ok_77, List.forall_mem_cons.2 ⟨ok_78, List.forall_mem_cons.2 ⟨ok_79, List.forall_mem_cons.2 ⟨ok_80, List.forall_mem_cons.2 ⟨ok_81, List.forall_mem_cons.2 ⟨ok_82, List.forall_mem_cons.2 ⟨ok_83, List.forall_mem_cons.2 ⟨ok_84, List.forall_mem_cons.2 ⟨ok_85, List.forall_mem_cons.2 ⟨ok_86, List.forall_mem_cons.2 ⟨ok_87, List.forall_mem_cons.2 ⟨ok_88, List.forall_mem_cons.2 ⟨ok_89, List.forall_mem_cons.2 ⟨ok_90, List.forall_mem_cons.2 ⟨ok_91, List.forall_mem_cons.2 ⟨ok_92, List.forall_mem_cons.2 ⟨ok_98, List.forall_mem_cons.2 ⟨ok_99, List.forall_mem_cons.2 ⟨ok_100, List.forall_mem_cons.2 ⟨ok_101, List.forall_mem_cons.2 ⟨ok_102, List.forall_mem_cons.2 ⟨ok_103, List.forall_mem_cons.2 ⟨ok_104, List.forall_mem_cons.2 ⟨ok_105, List.forall_mem_cons.2 ⟨ok_106, List.forall_mem_cons.2 ⟨ok_107, List.forall_mem_cons.2 ⟨ok_108, List.forall_mem_cons.2 ⟨ok_110, List.forall_mem_cons.2 ⟨ok_111, List.forall_mem_cons.2 ⟨ok_112, List.forall_mem_cons.2 ⟨ok_113, List.forall_mem_cons.2 ⟨ok_114, List.forall_mem_cons.2 ⟨ok_115, List.forall_mem_cons.2 ⟨ok_116, List.forall_mem_cons.2 ⟨ok_117, List.forall_mem_cons.2 ⟨ok_118, List.forall_mem_cons.2 ⟨ok_119, List.forall_mem_cons.2 ⟨ok_120, List.forall_mem_cons.2 ⟨ok_121, List.forall_mem_cons.2 ⟨ok_122, List.forall_mem_cons.2 ⟨ok_123, List.forall_mem_cons.2 ⟨ok_124, List.forall_mem_cons.2 ⟨ok_125, List.forall_mem_cons.2 ⟨ok_126, List.forall_mem_cons.2 ⟨ok_127, List.forall_mem_cons.2 ⟨ok_128, List.forall_mem_cons.2 ⟨ok_129, List.forall_mem_cons.2 ⟨ok_130, List.forall_mem_cons.2 ⟨ok_131, List.forall_mem_nil _⟩⟩⟩⟩⟩⟩⟩⟩⟩⟩⟩⟩⟩⟩⟩⟩⟩⟩⟩⟩⟩⟩⟩⟩⟩⟩⟩⟩⟩⟩⟩⟩⟩⟩⟩⟩⟩⟩⟩⟩⟩⟩⟩⟩⟩⟩⟩⟩⟩⟩⟩⟩⟩⟩⟩⟩⟩⟩⟩⟩⟩⟩⟩⟩⟩⟩⟩⟩⟩⟩⟩⟩⟩⟩⟩⟩⟩⟩⟩⟩⟩⟩⟩⟩⟩⟩⟩⟩⟩⟩⟩⟩⟩⟩⟩⟩⟩⟩⟩⟩⟩⟩
theorem envW_ok : EnvOK Try.prog fid ⟨look codes, fun _ => none⟩ := ⟨fun k vf _ h => codes_ok (k, vf) (look_mem h), fun k f h => by simp at h, by kernel_rfl⟩
end Go.Proofs.Ytpmjooeehnmkcaa.VS
