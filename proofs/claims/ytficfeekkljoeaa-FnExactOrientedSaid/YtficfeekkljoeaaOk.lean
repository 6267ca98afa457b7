/- The evaluator's code is the program's. -/
import Derived.Test.YtficfeekkljoeaaNat1
import Derived.Test.YtficfeekkljoeaaCode
import Derived.Test.YtficfeekkljoeaaChecked
import Derived.KernelRfl
namespace Go.Proofs.Ytficfeekkljoeaa.VS
set_option linter.unusedVariables false
open Go.Proofs
def fid : Nat → FuncId
  | 1 => 20
  | 2 => 23
  | 3 => 91
  | 5 => 25
  | 6 => 101
  | 7 => 54
  | 8 => 51
  | 9 => 47
  | 11 => 19
  | 12 => 22
  | 13 => 103
  | 14 => 106
  | 15 => 26
  | 16 => 50
  | 17 => 46
  | 18 => 117
  | 19 => 116
  | 20 => 55
  | 22 => 86
  | 23 => 93
  | 24 => 107
  | 25 => 95
  | 29 => 108
  | 30 => 45
  | 31 => 59
  | 33 => 90
  | 34 => 100
  | 41 => 7
  | 43 => 17
  | 44 => 10
  | 45 => 43
  | 46 => 44
  | 47 => 69
  | 48 => 62
  | 50 => 32
  | 51 => 39
  | 53 => 113
  | 54 => 110
  | 55 => 118
  | 56 => 121
  | 59 => 102
  | 60 => 105
  | 61 => 114
  | 62 => 115
  | 70 => 77
  | 73 => 79
  | 74 => 99
  | 75 => 97
  | 77 => 92
  | 78 => 94
  | 79 => 82
  | 80 => 70
  | 81 => 72
  | 82 => 85
  | 83 => 87
  | 84 => 75
  | 85 => 89
  | 102 => 74
  | 103 => 81
  | 104 => 78
  | 105 => 96
  | 106 => 98
  | 107 => 109
  | 108 => 111
  | 109 => 112
  | 110 => 71
  | 111 => 88
  | 112 => 104
  | 117 => 73
  | 118 => 80
  | 133 => 14
  | 146 => 49
  | 150 => 52
  | 151 => 76
  | 156 => 41
  | 159 => 66
  | 160 => 68
  | 162 => 67
  | 165 => 84
  | 178 => 53
  | 179 => 48
  | 206 => 15
  | 207 => 8
  | 208 => 6
  | 212 => 18
  | 214 => 16
  | 217 => 30
  | 218 => 31
  | 219 => 61
  | 220 => 60
  | 221 => 83
  | 222 => 33
  | 223 => 35
  | 224 => 34
  | 225 => 36
  | 226 => 38
  | 227 => 37
  | 228 => 65
  | 229 => 64
  | 230 => 63
  | 231 => 42
  | 243 => 27
  | 244 => 57
  | 292 => 58
  | 294 => 56
  | 308 => 28
  | 338 => 5
  | 339 => 21
  | 340 => 24
  | 341 => 29
  | 344 => 11
  | 345 => 40
  | 351 => 9
  | 352 => 12
  | 354 => 4
  | 355 => 3
  | 356 => 13
  | _ => 0
theorem ok_1 : ∃ fn, Try.prog.funcs[fid 1]? = some fn ∧ okFn Try.prog fid fn v1 = true := ⟨Try.f20, Try.func20, by kernel_rfl⟩
theorem ok_2 : ∃ fn, Try.prog.funcs[fid 2]? = some fn ∧ okFn Try.prog fid fn v2 = true := ⟨Try.f23, Try.func23, by kernel_rfl⟩
theorem ok_3 : ∃ fn, Try.prog.funcs[fid 3]? = some fn ∧ okFn Try.prog fid fn v3 = true := ⟨Try.f91, Try.func91, by kernel_rfl⟩
theorem ok_5 : ∃ fn, Try.prog.funcs[fid 5]? = some fn ∧ okFn Try.prog fid fn v5 = true := ⟨Try.f25, Try.func25, by kernel_rfl⟩
theorem ok_6 : ∃ fn, Try.prog.funcs[fid 6]? = some fn ∧ okFn Try.prog fid fn v6 = true := ⟨Try.f101, Try.func101, by kernel_rfl⟩
theorem ok_7 : ∃ fn, Try.prog.funcs[fid 7]? = some fn ∧ okFn Try.prog fid fn v7 = true := ⟨Try.f54, Try.func54, by kernel_rfl⟩
theorem ok_8 : ∃ fn, Try.prog.funcs[fid 8]? = some fn ∧ okFn Try.prog fid fn v8 = true := ⟨Try.f51, Try.func51, by kernel_rfl⟩
theorem ok_9 : ∃ fn, Try.prog.funcs[fid 9]? = some fn ∧ okFn Try.prog fid fn v9 = true := ⟨Try.f47, Try.func47, by kernel_rfl⟩
theorem ok_11 : ∃ fn, Try.prog.funcs[fid 11]? = some fn ∧ okFn Try.prog fid fn v11 = true := ⟨Try.f19, Try.func19, by kernel_rfl⟩
theorem ok_12 : ∃ fn, Try.prog.funcs[fid 12]? = some fn ∧ okFn Try.prog fid fn v12 = true := ⟨Try.f22, Try.func22, by kernel_rfl⟩
theorem ok_13 : ∃ fn, Try.prog.funcs[fid 13]? = some fn ∧ okFn Try.prog fid fn v13 = true := ⟨Try.f103, Try.func103, by kernel_rfl⟩
theorem ok_14 : ∃ fn, Try.prog.funcs[fid 14]? = some fn ∧ okFn Try.prog fid fn v14 = true := ⟨Try.f106, Try.func106, by kernel_rfl⟩
theorem ok_15 : ∃ fn, Try.prog.funcs[fid 15]? = some fn ∧ okFn Try.prog fid fn v15 = true := ⟨Try.f26, Try.func26, by kernel_rfl⟩
theorem ok_16 : ∃ fn, Try.prog.funcs[fid 16]? = some fn ∧ okFn Try.prog fid fn v16 = true := ⟨Try.f50, Try.func50, by kernel_rfl⟩
theorem ok_17 : ∃ fn, Try.prog.funcs[fid 17]? = some fn ∧ okFn Try.prog fid fn v17 = true := ⟨Try.f46, Try.func46, by kernel_rfl⟩
theorem ok_18 : ∃ fn, Try.prog.funcs[fid 18]? = some fn ∧ okFn Try.prog fid fn v18 = true := ⟨Try.f117, Try.func117, by kernel_rfl⟩
theorem ok_19 : ∃ fn, Try.prog.funcs[fid 19]? = some fn ∧ okFn Try.prog fid fn v19 = true := ⟨Try.f116, Try.func116, by kernel_rfl⟩
theorem ok_20 : ∃ fn, Try.prog.funcs[fid 20]? = some fn ∧ okFn Try.prog fid fn v20 = true := ⟨Try.f55, Try.func55, by kernel_rfl⟩
theorem ok_22 : ∃ fn, Try.prog.funcs[fid 22]? = some fn ∧ okFn Try.prog fid fn v22 = true := ⟨Try.f86, Try.func86, by kernel_rfl⟩
theorem ok_23 : ∃ fn, Try.prog.funcs[fid 23]? = some fn ∧ okFn Try.prog fid fn v23 = true := ⟨Try.f93, Try.func93, by kernel_rfl⟩
theorem ok_24 : ∃ fn, Try.prog.funcs[fid 24]? = some fn ∧ okFn Try.prog fid fn v24 = true := ⟨Try.f107, Try.func107, by kernel_rfl⟩
theorem ok_25 : ∃ fn, Try.prog.funcs[fid 25]? = some fn ∧ okFn Try.prog fid fn v25 = true := ⟨Try.f95, Try.func95, by kernel_rfl⟩
theorem ok_29 : ∃ fn, Try.prog.funcs[fid 29]? = some fn ∧ okFn Try.prog fid fn v29 = true := ⟨Try.f108, Try.func108, by kernel_rfl⟩
theorem ok_30 : ∃ fn, Try.prog.funcs[fid 30]? = some fn ∧ okFn Try.prog fid fn v30 = true := ⟨Try.f45, Try.func45, by kernel_rfl⟩
theorem ok_31 : ∃ fn, Try.prog.funcs[fid 31]? = some fn ∧ okFn Try.prog fid fn v31 = true := ⟨Try.f59, Try.func59, by kernel_rfl⟩
theorem ok_33 : ∃ fn, Try.prog.funcs[fid 33]? = some fn ∧ okFn Try.prog fid fn v33 = true := ⟨Try.f90, Try.func90, by kernel_rfl⟩
theorem ok_34 : ∃ fn, Try.prog.funcs[fid 34]? = some fn ∧ okFn Try.prog fid fn v34 = true := ⟨Try.f100, Try.func100, by kernel_rfl⟩
theorem ok_47 : ∃ fn, Try.prog.funcs[fid 47]? = some fn ∧ okFn Try.prog fid fn v47 = true := ⟨Try.f69, Try.func69, by kernel_rfl⟩
theorem ok_53 : ∃ fn, Try.prog.funcs[fid 53]? = some fn ∧ okFn Try.prog fid fn v53 = true := ⟨Try.f113, Try.func113, by kernel_rfl⟩
theorem ok_54 : ∃ fn, Try.prog.funcs[fid 54]? = some fn ∧ okFn Try.prog fid fn v54 = true := ⟨Try.f110, Try.func110, by kernel_rfl⟩
theorem ok_55 : ∃ fn, Try.prog.funcs[fid 55]? = some fn ∧ okFn Try.prog fid fn v55 = true := ⟨Try.f118, Try.func118, by kernel_rfl⟩
theorem ok_56 : ∃ fn, Try.prog.funcs[fid 56]? = some fn ∧ okFn Try.prog fid fn v56 = true := ⟨Try.f121, Try.func121, by kernel_rfl⟩
theorem ok_59 : ∃ fn, Try.prog.funcs[fid 59]? = some fn ∧ okFn Try.prog fid fn v59 = true := ⟨Try.f102, Try.func102, by kernel_rfl⟩
theorem ok_60 : ∃ fn, Try.prog.funcs[fid 60]? = some fn ∧ okFn Try.prog fid fn v60 = true := ⟨Try.f105, Try.func105, by kernel_rfl⟩
theorem ok_61 : ∃ fn, Try.prog.funcs[fid 61]? = some fn ∧ okFn Try.prog fid fn v61 = true := ⟨Try.f114, Try.func114, by kernel_rfl⟩
theorem ok_62 : ∃ fn, Try.prog.funcs[fid 62]? = some fn ∧ okFn Try.prog fid fn v62 = true := ⟨Try.f115, Try.func115, by kernel_rfl⟩
theorem ok_70 : ∃ fn, Try.prog.funcs[fid 70]? = some fn ∧ okFn Try.prog fid fn v70 = true := ⟨Try.f77, Try.func77, by kernel_rfl⟩
theorem ok_73 : ∃ fn, Try.prog.funcs[fid 73]? = some fn ∧ okFn Try.prog fid fn v73 = true := ⟨Try.f79, Try.func79, by kernel_rfl⟩
theorem ok_74 : ∃ fn, Try.prog.funcs[fid 74]? = some fn ∧ okFn Try.prog fid fn v74 = true := ⟨Try.f99, Try.func99, by kernel_rfl⟩
theorem ok_75 : ∃ fn, Try.prog.funcs[fid 75]? = some fn ∧ okFn Try.prog fid fn v75 = true := ⟨Try.f97, Try.func97, by kernel_rfl⟩
theorem ok_77 : ∃ fn, Try.prog.funcs[fid 77]? = some fn ∧ okFn Try.prog fid fn v77 = true := ⟨Try.f92, Try.func92, by kernel_rfl⟩
theorem ok_78 : ∃ fn, Try.prog.funcs[fid 78]? = some fn ∧ okFn Try.prog fid fn v78 = true := ⟨Try.f94, Try.func94, by kernel_rfl⟩
theorem ok_79 : ∃ fn, Try.prog.funcs[fid 79]? = some fn ∧ okFn Try.prog fid fn v79 = true := ⟨Try.f82, Try.func82, by kernel_rfl⟩
theorem ok_80 : ∃ fn, Try.prog.funcs[fid 80]? = some fn ∧ okFn Try.prog fid fn v80 = true := ⟨Try.f70, Try.func70, by kernel_rfl⟩
theorem ok_81 : ∃ fn, Try.prog.funcs[fid 81]? = some fn ∧ okFn Try.prog fid fn v81 = true := ⟨Try.f72, Try.func72, by kernel_rfl⟩
theorem ok_82 : ∃ fn, Try.prog.funcs[fid 82]? = some fn ∧ okFn Try.prog fid fn v82 = true := ⟨Try.f85, Try.func85, by kernel_rfl⟩
theorem ok_83 : ∃ fn, Try.prog.funcs[fid 83]? = some fn ∧ okFn Try.prog fid fn v83 = true := ⟨Try.f87, Try.func87, by kernel_rfl⟩
theorem ok_84 : ∃ fn, Try.prog.funcs[fid 84]? = some fn ∧ okFn Try.prog fid fn v84 = true := ⟨Try.f75, Try.func75, by kernel_rfl⟩
theorem ok_85 : ∃ fn, Try.prog.funcs[fid 85]? = some fn ∧ okFn Try.prog fid fn v85 = true := ⟨Try.f89, Try.func89, by kernel_rfl⟩
theorem ok_102 : ∃ fn, Try.prog.funcs[fid 102]? = some fn ∧ okFn Try.prog fid fn v102 = true := ⟨Try.f74, Try.func74, by kernel_rfl⟩
theorem ok_103 : ∃ fn, Try.prog.funcs[fid 103]? = some fn ∧ okFn Try.prog fid fn v103 = true := ⟨Try.f81, Try.func81, by kernel_rfl⟩
theorem ok_104 : ∃ fn, Try.prog.funcs[fid 104]? = some fn ∧ okFn Try.prog fid fn v104 = true := ⟨Try.f78, Try.func78, by kernel_rfl⟩
theorem ok_105 : ∃ fn, Try.prog.funcs[fid 105]? = some fn ∧ okFn Try.prog fid fn v105 = true := ⟨Try.f96, Try.func96, by kernel_rfl⟩
theorem ok_106 : ∃ fn, Try.prog.funcs[fid 106]? = some fn ∧ okFn Try.prog fid fn v106 = true := ⟨Try.f98, Try.func98, by kernel_rfl⟩
theorem ok_107 : ∃ fn, Try.prog.funcs[fid 107]? = some fn ∧ okFn Try.prog fid fn v107 = true := ⟨Try.f109, Try.func109, by kernel_rfl⟩
theorem ok_108 : ∃ fn, Try.prog.funcs[fid 108]? = some fn ∧ okFn Try.prog fid fn v108 = true := ⟨Try.f111, Try.func111, by kernel_rfl⟩
theorem ok_110 : ∃ fn, Try.prog.funcs[fid 110]? = some fn ∧ okFn Try.prog fid fn v110 = true := ⟨Try.f71, Try.func71, by kernel_rfl⟩
theorem ok_111 : ∃ fn, Try.prog.funcs[fid 111]? = some fn ∧ okFn Try.prog fid fn v111 = true := ⟨Try.f88, Try.func88, by kernel_rfl⟩
theorem ok_112 : ∃ fn, Try.prog.funcs[fid 112]? = some fn ∧ okFn Try.prog fid fn v112 = true := ⟨Try.f104, Try.func104, by kernel_rfl⟩
theorem ok_117 : ∃ fn, Try.prog.funcs[fid 117]? = some fn ∧ okFn Try.prog fid fn v117 = true := ⟨Try.f73, Try.func73, by kernel_rfl⟩
theorem ok_118 : ∃ fn, Try.prog.funcs[fid 118]? = some fn ∧ okFn Try.prog fid fn v118 = true := ⟨Try.f80, Try.func80, by kernel_rfl⟩
theorem ok_146 : ∃ fn, Try.prog.funcs[fid 146]? = some fn ∧ okFn Try.prog fid fn v146 = true := ⟨Try.f49, Try.func49, by kernel_rfl⟩
theorem ok_150 : ∃ fn, Try.prog.funcs[fid 150]? = some fn ∧ okFn Try.prog fid fn v150 = true := ⟨Try.f52, Try.func52, by kernel_rfl⟩
theorem ok_151 : ∃ fn, Try.prog.funcs[fid 151]? = some fn ∧ okFn Try.prog fid fn v151 = true := ⟨Try.f76, Try.func76, by kernel_rfl⟩
theorem ok_178 : ∃ fn, Try.prog.funcs[fid 178]? = some fn ∧ okFn Try.prog fid fn v178 = true := ⟨Try.f53, Try.func53, by kernel_rfl⟩
theorem ok_179 : ∃ fn, Try.prog.funcs[fid 179]? = some fn ∧ okFn Try.prog fid fn v179 = true := ⟨Try.f48, Try.func48, by kernel_rfl⟩
theorem ok_243 : ∃ fn, Try.prog.funcs[fid 243]? = some fn ∧ okFn Try.prog fid fn v243 = true := ⟨Try.f27, Try.func27, by kernel_rfl⟩
theorem ok_244 : ∃ fn, Try.prog.funcs[fid 244]? = some fn ∧ okFn Try.prog fid fn v244 = true := ⟨Try.f57, Try.func57, by kernel_rfl⟩
theorem ok_292 : ∃ fn, Try.prog.funcs[fid 292]? = some fn ∧ okFn Try.prog fid fn v292 = true := ⟨Try.f58, Try.func58, by kernel_rfl⟩
theorem ok_294 : ∃ fn, Try.prog.funcs[fid 294]? = some fn ∧ okFn Try.prog fid fn v294 = true := ⟨Try.f56, Try.func56, by kernel_rfl⟩
theorem ok_308 : ∃ fn, Try.prog.funcs[fid 308]? = some fn ∧ okFn Try.prog fid fn v308 = true := ⟨Try.f28, Try.func28, by kernel_rfl⟩
theorem ok_338 : ∃ fn, Try.prog.funcs[fid 338]? = some fn ∧ okFn Try.prog fid fn v338 = true := ⟨Try.f5, Try.func5, by kernel_rfl⟩
theorem ok_339 : ∃ fn, Try.prog.funcs[fid 339]? = some fn ∧ okFn Try.prog fid fn v339 = true := ⟨Try.f21, Try.func21, by kernel_rfl⟩
theorem ok_340 : ∃ fn, Try.prog.funcs[fid 340]? = some fn ∧ okFn Try.prog fid fn v340 = true := ⟨Try.f24, Try.func24, by kernel_rfl⟩
theorem ok_341 : ∃ fn, Try.prog.funcs[fid 341]? = some fn ∧ okFn Try.prog fid fn v341 = true := ⟨Try.f29, Try.func29, by kernel_rfl⟩
theorem look_mem : ∀ {l : List (Nat × VFn)} {k : Nat} {v : VFn}, look l k = some v → (k, v) ∈ l
  | [], _, _, h => by simp [look] at h
  | (a, u) :: r, k, v, h => by
    simp only [look] at h
    split at h
    · rename_i hk
      simp at h; subst h; subst hk; simp
    · exact List.mem_cons_of_mem _ (look_mem h)
theorem codes_ok : ∀ q, q ∈ codes → ∃ fn, Try.prog.funcs[fid q.1]? = some fn ∧ okFn Try.prog fid fn q.2 = true :=
  List.forall_mem_cons.2 ⟨ok_1, List.forall_mem_cons.2 ⟨ok_2, List.forall_mem_cons.2 ⟨ok_3, List.forall_mem_cons.2 ⟨ok_5, List.forall_mem_cons.2 ⟨ok_6, List.forall_mem_cons.2 ⟨ok_7, List.forall_mem_cons.2 ⟨ok_8, List.forall_mem_cons.2 ⟨ok_9, List.forall_mem_cons.2 ⟨ok_11, List.forall_mem_cons.2 ⟨ok_12, List.forall_mem_cons.2 ⟨ok_13, List.forall_mem_cons.2 ⟨ok_14, List.forall_mem_cons.2 ⟨ok_15, List.forall_mem_cons.2 ⟨ok_16, List.forall_mem_cons.2 ⟨ok_17, List.forall_mem_cons.2 ⟨ok_18, List.forall_mem_cons.2 ⟨ok_19, List.forall_mem_cons.2 ⟨ok_20, List.forall_mem_cons.2 ⟨ok_22, List.forall_mem_cons.2 ⟨ok_23, List.forall_mem_cons.2 ⟨ok_24, List.forall_mem_cons.2 ⟨ok_25, List.forall_mem_cons.2 ⟨ok_29, List.forall_mem_cons.2 ⟨ok_30, List.forall_mem_cons.2 ⟨ok_31, List.forall_mem_cons.2 ⟨ok_33, List.forall_mem_cons.2 ⟨ok_34, List.forall_mem_cons.2 ⟨ok_47, List.forall_mem_cons.2 ⟨ok_53, List.forall_mem_cons.2 ⟨ok_54, List.forall_mem_cons.2 ⟨ok_55, List.forall_mem_cons.2 ⟨ok_56, List.forall_mem_cons.2 ⟨ok_59, List.forall_mem_cons.2 ⟨ok_60, List.forall_mem_cons.2 ⟨ok_61, List.forall_mem_cons.2 ⟨ok_62, List.forall_mem_cons.2 ⟨ok_70, List.forall_mem_cons.2 ⟨ok_73, List.forall_mem_cons.2 ⟨ok_74, List.forall_mem_cons.2 ⟨ok_75, List.forall_mem_cons.2 ⟨ok_77, List.forall_mem_cons.2 ⟨ok_78, List.forall_mem_cons.2 ⟨ok_79, List.forall_mem_cons.2 ⟨ok_80, List.forall_mem_cons.2 ⟨ok_81, List.forall_mem_cons.2 ⟨ok_82, List.forall_mem_cons.2 ⟨ok_83, List.forall_mem_cons.2 ⟨ok_84, List.forall_mem_cons.2 ⟨ok_85, List.forall_mem_cons.2 ⟨ok_102, List.forall_mem_cons.2 ⟨ok_103, List.forall_mem_cons.2 ⟨ok_104, List.forall_mem_cons.2 ⟨ok_105, List.forall_mem_cons.2 ⟨ok_106, List.forall_mem_cons.2 ⟨ok_107, List.forall_mem_cons.2 ⟨ok_108, List.forall_mem_cons.2 ⟨ok_110, List.forall_mem_cons.2 ⟨ok_111, List.forall_mem_cons.2 ⟨ok_112, List.forall_mem_cons.2 ⟨ok_117, List.forall_mem_cons.2 ⟨ok_118, List.forall_mem_cons.2 ⟨ok_146, List.forall_mem_cons.2 ⟨ok_150, List.forall_mem_cons.2 ⟨ok_151, List.forall_mem_cons.2 ⟨ok_178, List.forall_mem_cons.2 ⟨ok_179, List.forall_mem_cons.2 ⟨ok_243, List.forall_mem_cons.2 ⟨ok_244, List.forall_mem_cons.2 ⟨ok_292, List.forall_mem_cons.2 ⟨ok_294, List.forall_mem_cons.2 ⟨ok_308, List.forall_mem_cons.2 ⟨ok_338, List.forall_mem_cons.2 ⟨ok_339, List.forall_mem_cons.2 ⟨ok_340, List.forall_mem_cons.2 ⟨ok_341, List.forall_mem_nil _⟩⟩⟩⟩⟩⟩⟩⟩⟩⟩⟩⟩⟩⟩⟩⟩⟩⟩⟩⟩⟩⟩⟩⟩⟩⟩⟩⟩⟩⟩⟩⟩⟩⟩⟩⟩⟩⟩⟩⟩⟩⟩⟩⟩⟩⟩⟩⟩⟩⟩⟩⟩⟩⟩⟩⟩⟩⟩⟩⟩⟩⟩⟩⟩⟩⟩⟩⟩⟩⟩⟩⟩⟩⟩⟩
theorem envW_ok : EnvOK Try.prog fid ⟨look codes, fun _ => none, fun _ => none⟩ := ⟨fun k vf _ h => codes_ok (k, vf) (look_mem h), fun k f h => by simp at h, fun k sf h => by simp at h, by kernel_rfl⟩
end Go.Proofs.Ytficfeekkljoeaa.VS
