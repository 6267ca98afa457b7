/- The evaluator's code is the program's. -/
import Derived.Test.YtnjgnjejkmcgmaaNat1
import Derived.Test.YtnjgnjejkmcgmaaCode
import Derived.Test.YtnjgnjejkmcgmaaChecked
import Derived.KernelRfl
namespace Go.Proofs.Ytnjgnjejkmcgmaa.VS
set_option linter.unusedVariables false
open Go.Proofs
def fid : Nat → FuncId
  | 1 => 9
  | 2 => 12
  | 3 => 61
  | 4 => 63
  | 5 => 14
  | 6 => 42
  | 7 => 23
  | 8 => 21
  | 9 => 19
  | 11 => 8
  | 12 => 11
  | 13 => 92
  | 14 => 94
  | 15 => 15
  | 16 => 39
  | 17 => 36
  | 18 => 101
  | 19 => 100
  | 20 => 43
  | 22 => 82
  | 23 => 86
  | 24 => 95
  | 25 => 88
  | 29 => 49
  | 30 => 66
  | 31 => 46
  | 33 => 37
  | 34 => 40
  | 59 => 91
  | 60 => 93
  | 61 => 98
  | 62 => 99
  | 65 => 25
  | 66 => 27
  | 67 => 60
  | 68 => 62
  | 69 => 29
  | 70 => 72
  | 71 => 74
  | 72 => 73
  | 73 => 75
  | 74 => 89
  | 75 => 68
  | 76 => 57
  | 77 => 85
  | 78 => 87
  | 79 => 96
  | 80 => 70
  | 81 => 71
  | 82 => 81
  | 83 => 83
  | 84 => 64
  | 85 => 84
  | 86 => 55
  | 87 => 53
  | 88 => 51
  | 135 => 28
  | 137 => 32
  | 141 => 26
  | 142 => 31
  | 144 => 69
  | 145 => 67
  | 146 => 56
  | 147 => 78
  | 148 => 79
  | 149 => 80
  | 150 => 59
  | 151 => 50
  | 152 => 52
  | 153 => 10
  | 154 => 38
  | 164 => 47
  | 167 => 58
  | 168 => 54
  | 169 => 13
  | 170 => 41
  | 171 => 65
  | 172 => 76
  | 173 => 77
  | 174 => 90
  | 175 => 97
  | 192 => 22
  | 193 => 20
  | 197 => 48
  | 243 => 16
  | 244 => 24
  | 291 => 33
  | 292 => 45
  | 293 => 30
  | 294 => 44
  | 298 => 35
  | 300 => 34
  | 308 => 17
  | 341 => 18
  | 357 => 7
  | 358 => 6
  | 359 => 5
  | 360 => 4
  | 361 => 3
  | _ => 0
theorem ok_1 : ∃ fn, Try.prog.funcs[fid 1]? = some fn ∧ okFn Try.prog fid fn v1 = true := ⟨Try.f9, Try.func9, by kernel_rfl⟩
theorem ok_2 : ∃ fn, Try.prog.funcs[fid 2]? = some fn ∧ okFn Try.prog fid fn v2 = true := ⟨Try.f12, Try.func12, by kernel_rfl⟩
theorem ok_3 : ∃ fn, Try.prog.funcs[fid 3]? = some fn ∧ okFn Try.prog fid fn v3 = true := ⟨Try.f61, Try.func61, by kernel_rfl⟩
theorem ok_5 : ∃ fn, Try.prog.funcs[fid 5]? = some fn ∧ okFn Try.prog fid fn v5 = true := ⟨Try.f14, Try.func14, by kernel_rfl⟩
theorem ok_6 : ∃ fn, Try.prog.funcs[fid 6]? = some fn ∧ okFn Try.prog fid fn v6 = true := ⟨Try.f42, Try.func42, by kernel_rfl⟩
theorem ok_7 : ∃ fn, Try.prog.funcs[fid 7]? = some fn ∧ okFn Try.prog fid fn v7 = true := ⟨Try.f23, Try.func23, by kernel_rfl⟩
theorem ok_8 : ∃ fn, Try.prog.funcs[fid 8]? = some fn ∧ okFn Try.prog fid fn v8 = true := ⟨Try.f21, Try.func21, by kernel_rfl⟩
theorem ok_9 : ∃ fn, Try.prog.funcs[fid 9]? = some fn ∧ okFn Try.prog fid fn v9 = true := ⟨Try.f19, Try.func19, by kernel_rfl⟩
theorem ok_11 : ∃ fn, Try.prog.funcs[fid 11]? = some fn ∧ okFn Try.prog fid fn v11 = true := ⟨Try.f8, Try.func8, by kernel_rfl⟩
theorem ok_12 : ∃ fn, Try.prog.funcs[fid 12]? = some fn ∧ okFn Try.prog fid fn v12 = true := ⟨Try.f11, Try.func11, by kernel_rfl⟩
theorem ok_15 : ∃ fn, Try.prog.funcs[fid 15]? = some fn ∧ okFn Try.prog fid fn v15 = true := ⟨Try.f15, Try.func15, by kernel_rfl⟩
theorem ok_16 : ∃ fn, Try.prog.funcs[fid 16]? = some fn ∧ okFn Try.prog fid fn v16 = true := ⟨Try.f39, Try.func39, by kernel_rfl⟩
theorem ok_17 : ∃ fn, Try.prog.funcs[fid 17]? = some fn ∧ okFn Try.prog fid fn v17 = true := ⟨Try.f36, Try.func36, by kernel_rfl⟩
theorem ok_20 : ∃ fn, Try.prog.funcs[fid 20]? = some fn ∧ okFn Try.prog fid fn v20 = true := ⟨Try.f43, Try.func43, by kernel_rfl⟩
theorem ok_29 : ∃ fn, Try.prog.funcs[fid 29]? = some fn ∧ okFn Try.prog fid fn v29 = true := ⟨Try.f49, Try.func49, by kernel_rfl⟩
theorem ok_30 : ∃ fn, Try.prog.funcs[fid 30]? = some fn ∧ okFn Try.prog fid fn v30 = true := ⟨Try.f66, Try.func66, by kernel_rfl⟩
theorem ok_31 : ∃ fn, Try.prog.funcs[fid 31]? = some fn ∧ okFn Try.prog fid fn v31 = true := ⟨Try.f46, Try.func46, by kernel_rfl⟩
theorem ok_33 : ∃ fn, Try.prog.funcs[fid 33]? = some fn ∧ okFn Try.prog fid fn v33 = true := ⟨Try.f37, Try.func37, by kernel_rfl⟩
theorem ok_34 : ∃ fn, Try.prog.funcs[fid 34]? = some fn ∧ okFn Try.prog fid fn v34 = true := ⟨Try.f40, Try.func40, by kernel_rfl⟩
theorem ok_65 : ∃ fn, Try.prog.funcs[fid 65]? = some fn ∧ okFn Try.prog fid fn v65 = true := ⟨Try.f25, Try.func25, by kernel_rfl⟩
theorem ok_66 : ∃ fn, Try.prog.funcs[fid 66]? = some fn ∧ okFn Try.prog fid fn v66 = true := ⟨Try.f27, Try.func27, by kernel_rfl⟩
theorem ok_69 : ∃ fn, Try.prog.funcs[fid 69]? = some fn ∧ okFn Try.prog fid fn v69 = true := ⟨Try.f29, Try.func29, by kernel_rfl⟩
theorem ok_75 : ∃ fn, Try.prog.funcs[fid 75]? = some fn ∧ okFn Try.prog fid fn v75 = true := ⟨Try.f68, Try.func68, by kernel_rfl⟩
theorem ok_76 : ∃ fn, Try.prog.funcs[fid 76]? = some fn ∧ okFn Try.prog fid fn v76 = true := ⟨Try.f57, Try.func57, by kernel_rfl⟩
theorem ok_84 : ∃ fn, Try.prog.funcs[fid 84]? = some fn ∧ okFn Try.prog fid fn v84 = true := ⟨Try.f64, Try.func64, by kernel_rfl⟩
theorem ok_86 : ∃ fn, Try.prog.funcs[fid 86]? = some fn ∧ okFn Try.prog fid fn v86 = true := ⟨Try.f55, Try.func55, by kernel_rfl⟩
theorem ok_87 : ∃ fn, Try.prog.funcs[fid 87]? = some fn ∧ okFn Try.prog fid fn v87 = true := ⟨Try.f53, Try.func53, by kernel_rfl⟩
theorem ok_88 : ∃ fn, Try.prog.funcs[fid 88]? = some fn ∧ okFn Try.prog fid fn v88 = true := ⟨Try.f51, Try.func51, by kernel_rfl⟩
theorem ok_135 : ∃ fn, Try.prog.funcs[fid 135]? = some fn ∧ okFn Try.prog fid fn v135 = true := ⟨Try.f28, Try.func28, by kernel_rfl⟩
theorem ok_137 : ∃ fn, Try.prog.funcs[fid 137]? = some fn ∧ okFn Try.prog fid fn v137 = true := ⟨Try.f32, Try.func32, by kernel_rfl⟩
theorem ok_141 : ∃ fn, Try.prog.funcs[fid 141]? = some fn ∧ okFn Try.prog fid fn v141 = true := ⟨Try.f26, Try.func26, by kernel_rfl⟩
theorem ok_142 : ∃ fn, Try.prog.funcs[fid 142]? = some fn ∧ okFn Try.prog fid fn v142 = true := ⟨Try.f31, Try.func31, by kernel_rfl⟩
theorem ok_144 : ∃ fn, Try.prog.funcs[fid 144]? = some fn ∧ okFn Try.prog fid fn v144 = true := ⟨Try.f69, Try.func69, by kernel_rfl⟩
theorem ok_145 : ∃ fn, Try.prog.funcs[fid 145]? = some fn ∧ okFn Try.prog fid fn v145 = true := ⟨Try.f67, Try.func67, by kernel_rfl⟩
theorem ok_146 : ∃ fn, Try.prog.funcs[fid 146]? = some fn ∧ okFn Try.prog fid fn v146 = true := ⟨Try.f56, Try.func56, by kernel_rfl⟩
theorem ok_147 : ∃ fn, Try.prog.funcs[fid 147]? = some fn ∧ okFn Try.prog fid fn v147 = true := ⟨Try.f78, Try.func78, by kernel_rfl⟩
theorem ok_148 : ∃ fn, Try.prog.funcs[fid 148]? = some fn ∧ okFn Try.prog fid fn v148 = true := ⟨Try.f79, Try.func79, by kernel_rfl⟩
theorem ok_149 : ∃ fn, Try.prog.funcs[fid 149]? = some fn ∧ okFn Try.prog fid fn v149 = true := ⟨Try.f80, Try.func80, by kernel_rfl⟩
theorem ok_150 : ∃ fn, Try.prog.funcs[fid 150]? = some fn ∧ okFn Try.prog fid fn v150 = true := ⟨Try.f59, Try.func59, by kernel_rfl⟩
theorem ok_151 : ∃ fn, Try.prog.funcs[fid 151]? = some fn ∧ okFn Try.prog fid fn v151 = true := ⟨Try.f50, Try.func50, by kernel_rfl⟩
theorem ok_152 : ∃ fn, Try.prog.funcs[fid 152]? = some fn ∧ okFn Try.prog fid fn v152 = true := ⟨Try.f52, Try.func52, by kernel_rfl⟩
theorem ok_153 : ∃ fn, Try.prog.funcs[fid 153]? = some fn ∧ okFn Try.prog fid fn v153 = true := ⟨Try.f10, Try.func10, by kernel_rfl⟩
theorem ok_154 : ∃ fn, Try.prog.funcs[fid 154]? = some fn ∧ okFn Try.prog fid fn v154 = true := ⟨Try.f38, Try.func38, by kernel_rfl⟩
theorem ok_167 : ∃ fn, Try.prog.funcs[fid 167]? = some fn ∧ okFn Try.prog fid fn v167 = true := ⟨Try.f58, Try.func58, by kernel_rfl⟩
theorem ok_168 : ∃ fn, Try.prog.funcs[fid 168]? = some fn ∧ okFn Try.prog fid fn v168 = true := ⟨Try.f54, Try.func54, by kernel_rfl⟩
theorem ok_169 : ∃ fn, Try.prog.funcs[fid 169]? = some fn ∧ okFn Try.prog fid fn v169 = true := ⟨Try.f13, Try.func13, by kernel_rfl⟩
theorem ok_170 : ∃ fn, Try.prog.funcs[fid 170]? = some fn ∧ okFn Try.prog fid fn v170 = true := ⟨Try.f41, Try.func41, by kernel_rfl⟩
theorem ok_171 : ∃ fn, Try.prog.funcs[fid 171]? = some fn ∧ okFn Try.prog fid fn v171 = true := ⟨Try.f65, Try.func65, by kernel_rfl⟩
theorem ok_172 : ∃ fn, Try.prog.funcs[fid 172]? = some fn ∧ okFn Try.prog fid fn v172 = true := ⟨Try.f76, Try.func76, by kernel_rfl⟩
theorem ok_173 : ∃ fn, Try.prog.funcs[fid 173]? = some fn ∧ okFn Try.prog fid fn v173 = true := ⟨Try.f77, Try.func77, by kernel_rfl⟩
theorem ok_174 : ∃ fn, Try.prog.funcs[fid 174]? = some fn ∧ okFn Try.prog fid fn v174 = true := ⟨Try.f90, Try.func90, by kernel_rfl⟩
theorem ok_175 : ∃ fn, Try.prog.funcs[fid 175]? = some fn ∧ okFn Try.prog fid fn v175 = true := ⟨Try.f97, Try.func97, by kernel_rfl⟩
theorem ok_243 : ∃ fn, Try.prog.funcs[fid 243]? = some fn ∧ okFn Try.prog fid fn v243 = true := ⟨Try.f16, Try.func16, by kernel_rfl⟩
theorem ok_244 : ∃ fn, Try.prog.funcs[fid 244]? = some fn ∧ okFn Try.prog fid fn v244 = true := ⟨Try.f24, Try.func24, by kernel_rfl⟩
theorem ok_291 : ∃ fn, Try.prog.funcs[fid 291]? = some fn ∧ okFn Try.prog fid fn v291 = true := ⟨Try.f33, Try.func33, by kernel_rfl⟩
theorem ok_292 : ∃ fn, Try.prog.funcs[fid 292]? = some fn ∧ okFn Try.prog fid fn v292 = true := ⟨Try.f45, Try.func45, by kernel_rfl⟩
theorem ok_293 : ∃ fn, Try.prog.funcs[fid 293]? = some fn ∧ okFn Try.prog fid fn v293 = true := ⟨Try.f30, Try.func30, by kernel_rfl⟩
theorem ok_294 : ∃ fn, Try.prog.funcs[fid 294]? = some fn ∧ okFn Try.prog fid fn v294 = true := ⟨Try.f44, Try.func44, by kernel_rfl⟩
theorem ok_308 : ∃ fn, Try.prog.funcs[fid 308]? = some fn ∧ okFn Try.prog fid fn v308 = true := ⟨Try.f17, Try.func17, by kernel_rfl⟩
theorem ok_358 : ∃ fn, Try.prog.funcs[fid 358]? = some fn ∧ okFn Try.prog fid fn v358 = true := ⟨Try.f6, Try.func6, by kernel_rfl⟩
theorem look_mem : ∀ {l : List (Nat × VFn)} {k : Nat} {v : VFn}, look l k = some v → (k, v) ∈ l
  | [], _, _, h => by simp [look] at h
  | (a, u) :: r, k, v, h => by
    simp only [look] at h
    split at h
    · rename_i hk
      simp at h; subst h; subst hk; simp
    · exact List.mem_cons_of_mem _ (look_mem h)
theorem codes_ok : ∀ q, q ∈ codes → ∃ fn, Try.prog.funcs[fid q.1]? = some fn ∧ okFn Try.prog fid fn q.2 = true :=
  List.forall_mem_cons.2 ⟨ok_1, List.forall_mem_cons.2 ⟨ok_2, List.forall_mem_cons.2 ⟨ok_3, List.forall_mem_cons.2 ⟨ok_5, List.forall_mem_cons.2 ⟨ok_6, List.forall_mem_cons.2 ⟨ok_7, List.forall_mem_cons.2 ⟨ok_8, List.forall_mem_cons.2 ⟨ok_9, List.forall_mem_cons.2 ⟨ok_11, List.forall_mem_cons.2 ⟨ok_12, List.forall_mem_cons.2 ⟨ok_15, List.forall_mem_cons.2 ⟨ok_16, List.forall_mem_cons.2 ⟨ok_17, List.forall_mem_cons.2 ⟨ok_20, List.forall_mem_cons.2 ⟨ok_29, List.forall_mem_cons.2 ⟨ok_30, List.forall_mem_cons.2 ⟨ok_31, List.forall_mem_cons.2 ⟨ok_33, List.forall_mem_cons.2 ⟨ok_34, List.forall_mem_cons.2 ⟨ok_65, List.forall_mem_cons.2 ⟨ok_66, List.forall_mem_cons.2 ⟨ok_69, List.forall_mem_cons.2 ⟨ok_75, List.forall_mem_cons.2 ⟨ok_76, List.forall_mem_cons.2 ⟨ok_84, List.forall_mem_cons.2 ⟨ok_86, List.forall_mem_cons.2 ⟨ok_87, List.forall_mem_cons.2 ⟨ok_88, List.forall_mem_cons.2 ⟨ok_135, List.forall_mem_cons.2 ⟨ok_137, List.forall_mem_cons.2 ⟨ok_141, List.forall_mem_cons.2 ⟨ok_142, List.forall_mem_cons.2 ⟨ok_144, List.forall_mem_cons.2 ⟨ok_145, List.forall_mem_cons.2 ⟨ok_146, List.forall_mem_cons.2 ⟨ok_147, List.forall_mem_cons.2 ⟨ok_148, List.forall_mem_cons.2 ⟨ok_149, List.forall_mem_cons.2 ⟨ok_150, List.forall_mem_cons.2 ⟨ok_151, List.forall_mem_cons.2 ⟨ok_152, List.forall_mem_cons.2 ⟨ok_153, List.forall_mem_cons.2 ⟨ok_154, List.forall_mem_cons.2 ⟨ok_167, List.forall_mem_cons.2 ⟨ok_168, List.forall_mem_cons.2 ⟨ok_170, List.forall_mem_cons.2 ⟨ok_171, List.forall_mem_cons.2 ⟨ok_172, List.forall_mem_cons.2 ⟨ok_173, List.forall_mem_cons.2 ⟨ok_174, List.forall_mem_cons.2 ⟨ok_175, List.forall_mem_cons.2 ⟨ok_243, List.forall_mem_cons.2 ⟨ok_244, List.forall_mem_cons.2 ⟨ok_291, List.forall_mem_cons.2 ⟨ok_292, List.forall_mem_cons.2 ⟨ok_293, List.forall_mem_cons.2 ⟨ok_294, List.forall_mem_cons.2 ⟨ok_308, List.forall_mem_cons.2 ⟨ok_358, List.forall_mem_nil _⟩⟩⟩⟩⟩⟩⟩⟩⟩⟩⟩⟩⟩⟩⟩⟩⟩⟩⟩⟩⟩⟩⟩⟩⟩⟩⟩⟩⟩⟩⟩⟩⟩⟩⟩⟩⟩⟩⟩⟩⟩⟩⟩⟩⟩⟩⟩⟩⟩⟩⟩⟩⟩⟩⟩⟩⟩⟩⟩
end Go.Proofs.Ytnjgnjejkmcgmaa.VS
