/- The evaluator's code is the program's. -/
import Derived.Test.YtidlpcgcolcfgaaNat1
import Derived.Test.YtidlpcgcolcfgaaCode
import Derived.Test.YtidlpcgcolcfgaaChecked
import Derived.KernelRfl
namespace Go.Proofs.Ytidlpcgcolcfgaa.VS
set_option linter.unusedVariables false
open Go.Proofs
def fid : Nat → FuncId
  | 3 => 40
  | 4 => 39
  | 6 => 70
  | 13 => 16
  | 14 => 15
  | 18 => 52
  | 19 => 51
  | 22 => 41
  | 23 => 31
  | 24 => 66
  | 25 => 60
  | 27 => 20
  | 28 => 19
  | 29 => 53
  | 30 => 49
  | 31 => 50
  | 33 => 18
  | 34 => 17
  | 38 => 54
  | 39 => 56
  | 47 => 81
  | 53 => 93
  | 54 => 80
  | 55 => 90
  | 56 => 97
  | 59 => 24
  | 60 => 23
  | 61 => 57
  | 62 => 58
  | 73 => 30
  | 74 => 65
  | 75 => 62
  | 77 => 13
  | 79 => 37
  | 81 => 42
  | 82 => 14
  | 84 => 38
  | 85 => 71
  | 92 => 43
  | 93 => 55
  | 94 => 74
  | 95 => 75
  | 96 => 76
  | 97 => 85
  | 98 => 44
  | 103 => 29
  | 104 => 26
  | 105 => 61
  | 106 => 63
  | 107 => 79
  | 108 => 82
  | 109 => 83
  | 110 => 28
  | 111 => 64
  | 112 => 84
  | 114 => 22
  | 115 => 21
  | 133 => 6
  | 146 => 68
  | 147 => 88
  | 153 => 87
  | 154 => 96
  | 155 => 69
  | 156 => 46
  | 159 => 48
  | 160 => 72
  | 161 => 59
  | 162 => 67
  | 163 => 77
  | 164 => 89
  | 165 => 73
  | 166 => 78
  | 181 => 5
  | 182 => 32
  | 183 => 33
  | 184 => 25
  | 185 => 34
  | 186 => 35
  | 187 => 36
  | 188 => 27
  | 195 => 45
  | 196 => 47
  | 232 => 3
  | 233 => 7
  | 234 => 8
  | 235 => 9
  | 236 => 10
  | 237 => 11
  | 238 => 12
  | 362 => 4
  | _ => 0
theorem ok_3 : ∃ fn, Try.prog.funcs[fid 3]? = some fn ∧ okFn Try.prog fid fn v3 = true := ⟨Try.f40, Try.func40, by kernel_rfl⟩
theorem ok_23 : ∃ fn, Try.prog.funcs[fid 23]? = some fn ∧ okFn Try.prog fid fn v23 = true := ⟨Try.f31, Try.func31, by kernel_rfl⟩
theorem ok_24 : ∃ fn, Try.prog.funcs[fid 24]? = some fn ∧ okFn Try.prog fid fn v24 = true := ⟨Try.f66, Try.func66, by kernel_rfl⟩
theorem ok_25 : ∃ fn, Try.prog.funcs[fid 25]? = some fn ∧ okFn Try.prog fid fn v25 = true := ⟨Try.f60, Try.func60, by kernel_rfl⟩
theorem ok_31 : ∃ fn, Try.prog.funcs[fid 31]? = some fn ∧ okFn Try.prog fid fn v31 = true := ⟨Try.f50, Try.func50, by kernel_rfl⟩
theorem ok_33 : ∃ fn, Try.prog.funcs[fid 33]? = some fn ∧ okFn Try.prog fid fn v33 = true := ⟨Try.f18, Try.func18, by kernel_rfl⟩
theorem ok_47 : ∃ fn, Try.prog.funcs[fid 47]? = some fn ∧ okFn Try.prog fid fn v47 = true := ⟨Try.f81, Try.func81, by kernel_rfl⟩
theorem ok_53 : ∃ fn, Try.prog.funcs[fid 53]? = some fn ∧ okFn Try.prog fid fn v53 = true := ⟨Try.f93, Try.func93, by kernel_rfl⟩
theorem ok_54 : ∃ fn, Try.prog.funcs[fid 54]? = some fn ∧ okFn Try.prog fid fn v54 = true := ⟨Try.f80, Try.func80, by kernel_rfl⟩
theorem ok_55 : ∃ fn, Try.prog.funcs[fid 55]? = some fn ∧ okFn Try.prog fid fn v55 = true := ⟨Try.f90, Try.func90, by kernel_rfl⟩
theorem ok_56 : ∃ fn, Try.prog.funcs[fid 56]? = some fn ∧ okFn Try.prog fid fn v56 = true := ⟨Try.f97, Try.func97, by kernel_rfl⟩
theorem ok_73 : ∃ fn, Try.prog.funcs[fid 73]? = some fn ∧ okFn Try.prog fid fn v73 = true := ⟨Try.f30, Try.func30, by kernel_rfl⟩
theorem ok_74 : ∃ fn, Try.prog.funcs[fid 74]? = some fn ∧ okFn Try.prog fid fn v74 = true := ⟨Try.f65, Try.func65, by kernel_rfl⟩
theorem ok_75 : ∃ fn, Try.prog.funcs[fid 75]? = some fn ∧ okFn Try.prog fid fn v75 = true := ⟨Try.f62, Try.func62, by kernel_rfl⟩
theorem ok_84 : ∃ fn, Try.prog.funcs[fid 84]? = some fn ∧ okFn Try.prog fid fn v84 = true := ⟨Try.f38, Try.func38, by kernel_rfl⟩
theorem ok_103 : ∃ fn, Try.prog.funcs[fid 103]? = some fn ∧ okFn Try.prog fid fn v103 = true := ⟨Try.f29, Try.func29, by kernel_rfl⟩
theorem ok_104 : ∃ fn, Try.prog.funcs[fid 104]? = some fn ∧ okFn Try.prog fid fn v104 = true := ⟨Try.f26, Try.func26, by kernel_rfl⟩
theorem ok_105 : ∃ fn, Try.prog.funcs[fid 105]? = some fn ∧ okFn Try.prog fid fn v105 = true := ⟨Try.f61, Try.func61, by kernel_rfl⟩
theorem ok_106 : ∃ fn, Try.prog.funcs[fid 106]? = some fn ∧ okFn Try.prog fid fn v106 = true := ⟨Try.f63, Try.func63, by kernel_rfl⟩
theorem ok_107 : ∃ fn, Try.prog.funcs[fid 107]? = some fn ∧ okFn Try.prog fid fn v107 = true := ⟨Try.f79, Try.func79, by kernel_rfl⟩
theorem ok_108 : ∃ fn, Try.prog.funcs[fid 108]? = some fn ∧ okFn Try.prog fid fn v108 = true := ⟨Try.f82, Try.func82, by kernel_rfl⟩
theorem ok_110 : ∃ fn, Try.prog.funcs[fid 110]? = some fn ∧ okFn Try.prog fid fn v110 = true := ⟨Try.f28, Try.func28, by kernel_rfl⟩
theorem ok_111 : ∃ fn, Try.prog.funcs[fid 111]? = some fn ∧ okFn Try.prog fid fn v111 = true := ⟨Try.f64, Try.func64, by kernel_rfl⟩
theorem ok_112 : ∃ fn, Try.prog.funcs[fid 112]? = some fn ∧ okFn Try.prog fid fn v112 = true := ⟨Try.f84, Try.func84, by kernel_rfl⟩
theorem ok_133 : ∃ fn, Try.prog.funcs[fid 133]? = some fn ∧ okFn Try.prog fid fn v133 = true := ⟨Try.f6, Try.func6, by kernel_rfl⟩
theorem ok_147 : ∃ fn, Try.prog.funcs[fid 147]? = some fn ∧ okFn Try.prog fid fn v147 = true := ⟨Try.f88, Try.func88, by kernel_rfl⟩
theorem ok_153 : ∃ fn, Try.prog.funcs[fid 153]? = some fn ∧ okFn Try.prog fid fn v153 = true := ⟨Try.f87, Try.func87, by kernel_rfl⟩
theorem ok_154 : ∃ fn, Try.prog.funcs[fid 154]? = some fn ∧ okFn Try.prog fid fn v154 = true := ⟨Try.f96, Try.func96, by kernel_rfl⟩
theorem ok_155 : ∃ fn, Try.prog.funcs[fid 155]? = some fn ∧ okFn Try.prog fid fn v155 = true := ⟨Try.f69, Try.func69, by kernel_rfl⟩
theorem ok_156 : ∃ fn, Try.prog.funcs[fid 156]? = some fn ∧ okFn Try.prog fid fn v156 = true := ⟨Try.f46, Try.func46, by kernel_rfl⟩
theorem ok_159 : ∃ fn, Try.prog.funcs[fid 159]? = some fn ∧ okFn Try.prog fid fn v159 = true := ⟨Try.f48, Try.func48, by kernel_rfl⟩
theorem ok_160 : ∃ fn, Try.prog.funcs[fid 160]? = some fn ∧ okFn Try.prog fid fn v160 = true := ⟨Try.f72, Try.func72, by kernel_rfl⟩
theorem ok_161 : ∃ fn, Try.prog.funcs[fid 161]? = some fn ∧ okFn Try.prog fid fn v161 = true := ⟨Try.f59, Try.func59, by kernel_rfl⟩
theorem ok_162 : ∃ fn, Try.prog.funcs[fid 162]? = some fn ∧ okFn Try.prog fid fn v162 = true := ⟨Try.f67, Try.func67, by kernel_rfl⟩
theorem ok_163 : ∃ fn, Try.prog.funcs[fid 163]? = some fn ∧ okFn Try.prog fid fn v163 = true := ⟨Try.f77, Try.func77, by kernel_rfl⟩
theorem ok_164 : ∃ fn, Try.prog.funcs[fid 164]? = some fn ∧ okFn Try.prog fid fn v164 = true := ⟨Try.f89, Try.func89, by kernel_rfl⟩
theorem ok_165 : ∃ fn, Try.prog.funcs[fid 165]? = some fn ∧ okFn Try.prog fid fn v165 = true := ⟨Try.f73, Try.func73, by kernel_rfl⟩
theorem ok_166 : ∃ fn, Try.prog.funcs[fid 166]? = some fn ∧ okFn Try.prog fid fn v166 = true := ⟨Try.f78, Try.func78, by kernel_rfl⟩
theorem ok_184 : ∃ fn, Try.prog.funcs[fid 184]? = some fn ∧ okFn Try.prog fid fn v184 = true := ⟨Try.f25, Try.func25, by kernel_rfl⟩
theorem ok_188 : ∃ fn, Try.prog.funcs[fid 188]? = some fn ∧ okFn Try.prog fid fn v188 = true := ⟨Try.f27, Try.func27, by kernel_rfl⟩
theorem ok_362 : ∃ fn, Try.prog.funcs[fid 362]? = some fn ∧ okFn Try.prog fid fn v362 = true := ⟨Try.f4, Try.func4, by kernel_rfl⟩
theorem look_mem : ∀ {l : List (Nat × VFn)} {k : Nat} {v : VFn}, look l k = some v → (k, v) ∈ l
  | [], _, _, h => by simp [look] at h
  | (a, u) :: r, k, v, h => by
    simp only [look] at h
    split at h
    · rename_i hk
      simp at h; subst h; subst hk; simp
    · exact List.mem_cons_of_mem _ (look_mem h)
theorem bases_ok : codes.all (fun q => baseOK (lookB bases q.1) q.2.code) = true := by kernel_rfl
theorem codes_ok : ∀ q, q ∈ codes → ∃ fn, Try.prog.funcs[fid q.1]? = some fn ∧ okFn Try.prog fid fn q.2 = true :=
  List.forall_mem_cons.2 ⟨ok_3, List.forall_mem_cons.2 ⟨ok_23, List.forall_mem_cons.2 ⟨ok_24, List.forall_mem_cons.2 ⟨ok_25, List.forall_mem_cons.2 ⟨ok_31, List.forall_mem_cons.2 ⟨ok_33, List.forall_mem_cons.2 ⟨ok_47, List.forall_mem_cons.2 ⟨ok_53, List.forall_mem_cons.2 ⟨ok_54, List.forall_mem_cons.2 ⟨ok_55, List.forall_mem_cons.2 ⟨ok_56, List.forall_mem_cons.2 ⟨ok_73, List.forall_mem_cons.2 ⟨ok_74, List.forall_mem_cons.2 ⟨ok_75, List.forall_mem_cons.2 ⟨ok_84, List.forall_mem_cons.2 ⟨ok_103, List.forall_mem_cons.2 ⟨ok_104, List.forall_mem_cons.2 ⟨ok_105, List.forall_mem_cons.2 ⟨ok_106, List.forall_mem_cons.2 ⟨ok_107, List.forall_mem_cons.2 ⟨ok_108, List.forall_mem_cons.2 ⟨ok_110, List.forall_mem_cons.2 ⟨ok_111, List.forall_mem_cons.2 ⟨ok_112, List.forall_mem_cons.2 ⟨ok_133, List.forall_mem_cons.2 ⟨ok_147, List.forall_mem_cons.2 ⟨ok_153, List.forall_mem_cons.2 ⟨ok_154, List.forall_mem_cons.2 ⟨ok_155, List.forall_mem_cons.2 ⟨ok_156, List.forall_mem_cons.2 ⟨ok_159, List.forall_mem_cons.2 ⟨ok_160, List.forall_mem_cons.2 ⟨ok_161, List.forall_mem_cons.2 ⟨ok_162, List.forall_mem_cons.2 ⟨ok_163, List.forall_mem_cons.2 ⟨ok_164, List.forall_mem_cons.2 ⟨ok_165, List.forall_mem_cons.2 ⟨ok_166, List.forall_mem_cons.2 ⟨ok_184, List.forall_mem_cons.2 ⟨ok_188, List.forall_mem_cons.2 ⟨ok_362, List.forall_mem_nil _⟩⟩⟩⟩⟩⟩⟩⟩⟩⟩⟩⟩⟩⟩⟩⟩⟩⟩⟩⟩⟩⟩⟩⟩⟩⟩⟩⟩⟩⟩⟩⟩⟩⟩⟩⟩⟩⟩⟩⟩⟩
theorem envW_ok : EnvOK Try.prog fid ⟨look codes, fun _ => none, fun _ => none, lookB bases⟩ := ⟨fun k vf _ h => codes_ok (k, vf) (look_mem h), fun k f h => by simp at h, fun k sf h => by simp at h, by kernel_rfl, fun k vf h => List.all_eq_true.1 bases_ok (k, vf) (look_mem h)⟩
end Go.Proofs.Ytidlpcgcolcfgaa.VS
