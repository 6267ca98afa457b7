/- The evaluator's code is the program's. -/
import Derived.Test.YtidlpcgcolcfgaaNat1
import Derived.Test.YtidlpcgcolcfgaaCode
import Derived.Test.YtidlpcgcolcfgaaChecked
import Derived.KernelRfl
namespace Go.Proofs.Ytidlpcgcolcfgaa.VS
set_option linter.unusedVariables false
open Go.Proofs
def fid : Nat → FuncId
  | 3 => 40
  | 4 => 39
  | 6 => 70
  | 13 => 16
  | 14 => 15
  | 18 => 52
  | 19 => 51
  | 22 => 41
  | 23 => 31
  | 24 => 66
  | 25 => 60
  | 27 => 20
  | 28 => 19
  | 29 => 53
  | 30 => 49
  | 31 => 50
  | 33 => 18
  | 34 => 17
  | 38 => 54
  | 39 => 56
  | 47 => 81
  | 53 => 93
  | 54 => 80
  | 55 => 90
  | 56 => 97
  | 59 => 24
  | 60 => 23
  | 61 => 57
  | 62 => 58
  | 73 => 30
  | 74 => 65
  | 75 => 62
  | 77 => 13
  | 79 => 37
  | 81 => 42
  | 82 => 14
  | 84 => 38
  | 85 => 71
  | 92 => 43
  | 93 => 55
  | 94 => 74
  | 95 => 75
  | 96 => 76
  | 97 => 85
  | 98 => 44
  | 103 => 29
  | 104 => 26
  | 105 => 61
  | 106 => 63
  | 107 => 79
  | 108 => 82
  | 109 => 83
  | 110 => 28
  | 111 => 64
  | 112 => 84
  | 114 => 22
  | 115 => 21
  | 133 => 6
  | 146 => 68
  | 147 => 88
  | 153 => 87
  | 154 => 96
  | 155 => 69
  | 156 => 46
  | 159 => 48
  | 160 => 72
  | 161 => 59
  | 162 => 67
  | 163 => 77
  | 164 => 89
  | 165 => 73
  | 166 => 78
  | 181 => 5
  | 182 => 32
  | 183 => 33
  | 184 => 25
  | 185 => 34
  | 186 => 35
  | 187 => 36
  | 188 => 27
  | 195 => 45
  | 196 => 47
  | 232 => 3
  | 233 => 7
  | 234 => 8
  | 235 => 9
  | 236 => 10
  | 237 => 11
  | 238 => 12
  | 362 => 4
  | _ => 0
theorem ok_13 : ∃ fn, Try.prog.funcs[fid 13]? = some fn ∧ okFn Try.prog fid fn v13 = true := ⟨Try.f16, Try.func16, by kernel_rfl⟩
theorem ok_14 : ∃ fn, Try.prog.funcs[fid 14]? = some fn ∧ okFn Try.prog fid fn v14 = true := ⟨Try.f15, Try.func15, by kernel_rfl⟩
theorem ok_18 : ∃ fn, Try.prog.funcs[fid 18]? = some fn ∧ okFn Try.prog fid fn v18 = true := ⟨Try.f52, Try.func52, by kernel_rfl⟩
theorem ok_19 : ∃ fn, Try.prog.funcs[fid 19]? = some fn ∧ okFn Try.prog fid fn v19 = true := ⟨Try.f51, Try.func51, by kernel_rfl⟩
theorem ok_27 : ∃ fn, Try.prog.funcs[fid 27]? = some fn ∧ okFn Try.prog fid fn v27 = true := ⟨Try.f20, Try.func20, by kernel_rfl⟩
theorem ok_28 : ∃ fn, Try.prog.funcs[fid 28]? = some fn ∧ okFn Try.prog fid fn v28 = true := ⟨Try.f19, Try.func19, by kernel_rfl⟩
theorem ok_29 : ∃ fn, Try.prog.funcs[fid 29]? = some fn ∧ okFn Try.prog fid fn v29 = true := ⟨Try.f53, Try.func53, by kernel_rfl⟩
theorem ok_30 : ∃ fn, Try.prog.funcs[fid 30]? = some fn ∧ okFn Try.prog fid fn v30 = true := ⟨Try.f49, Try.func49, by kernel_rfl⟩
theorem ok_31 : ∃ fn, Try.prog.funcs[fid 31]? = some fn ∧ okFn Try.prog fid fn v31 = true := ⟨Try.f50, Try.func50, by kernel_rfl⟩
theorem ok_33 : ∃ fn, Try.prog.funcs[fid 33]? = some fn ∧ okFn Try.prog fid fn v33 = true := ⟨Try.f18, Try.func18, by kernel_rfl⟩
theorem ok_34 : ∃ fn, Try.prog.funcs[fid 34]? = some fn ∧ okFn Try.prog fid fn v34 = true := ⟨Try.f17, Try.func17, by kernel_rfl⟩
theorem ok_38 : ∃ fn, Try.prog.funcs[fid 38]? = some fn ∧ okFn Try.prog fid fn v38 = true := ⟨Try.f54, Try.func54, by kernel_rfl⟩
theorem ok_39 : ∃ fn, Try.prog.funcs[fid 39]? = some fn ∧ okFn Try.prog fid fn v39 = true := ⟨Try.f56, Try.func56, by kernel_rfl⟩
theorem ok_59 : ∃ fn, Try.prog.funcs[fid 59]? = some fn ∧ okFn Try.prog fid fn v59 = true := ⟨Try.f24, Try.func24, by kernel_rfl⟩
theorem ok_60 : ∃ fn, Try.prog.funcs[fid 60]? = some fn ∧ okFn Try.prog fid fn v60 = true := ⟨Try.f23, Try.func23, by kernel_rfl⟩
theorem ok_61 : ∃ fn, Try.prog.funcs[fid 61]? = some fn ∧ okFn Try.prog fid fn v61 = true := ⟨Try.f57, Try.func57, by kernel_rfl⟩
theorem ok_62 : ∃ fn, Try.prog.funcs[fid 62]? = some fn ∧ okFn Try.prog fid fn v62 = true := ⟨Try.f58, Try.func58, by kernel_rfl⟩
theorem ok_77 : ∃ fn, Try.prog.funcs[fid 77]? = some fn ∧ okFn Try.prog fid fn v77 = true := ⟨Try.f13, Try.func13, by kernel_rfl⟩
theorem ok_82 : ∃ fn, Try.prog.funcs[fid 82]? = some fn ∧ okFn Try.prog fid fn v82 = true := ⟨Try.f14, Try.func14, by kernel_rfl⟩
theorem ok_114 : ∃ fn, Try.prog.funcs[fid 114]? = some fn ∧ okFn Try.prog fid fn v114 = true := ⟨Try.f22, Try.func22, by kernel_rfl⟩
theorem ok_115 : ∃ fn, Try.prog.funcs[fid 115]? = some fn ∧ okFn Try.prog fid fn v115 = true := ⟨Try.f21, Try.func21, by kernel_rfl⟩
theorem ok_133 : ∃ fn, Try.prog.funcs[fid 133]? = some fn ∧ okFn Try.prog fid fn v133 = true := ⟨Try.f6, Try.func6, by kernel_rfl⟩
theorem ok_155 : ∃ fn, Try.prog.funcs[fid 155]? = some fn ∧ okFn Try.prog fid fn v155 = true := ⟨Try.f69, Try.func69, by kernel_rfl⟩
theorem ok_156 : ∃ fn, Try.prog.funcs[fid 156]? = some fn ∧ okFn Try.prog fid fn v156 = true := ⟨Try.f46, Try.func46, by kernel_rfl⟩
theorem ok_159 : ∃ fn, Try.prog.funcs[fid 159]? = some fn ∧ okFn Try.prog fid fn v159 = true := ⟨Try.f48, Try.func48, by kernel_rfl⟩
theorem ok_160 : ∃ fn, Try.prog.funcs[fid 160]? = some fn ∧ okFn Try.prog fid fn v160 = true := ⟨Try.f72, Try.func72, by kernel_rfl⟩
theorem ok_165 : ∃ fn, Try.prog.funcs[fid 165]? = some fn ∧ okFn Try.prog fid fn v165 = true := ⟨Try.f73, Try.func73, by kernel_rfl⟩
theorem ok_195 : ∃ fn, Try.prog.funcs[fid 195]? = some fn ∧ okFn Try.prog fid fn v195 = true := ⟨Try.f45, Try.func45, by kernel_rfl⟩
theorem ok_196 : ∃ fn, Try.prog.funcs[fid 196]? = some fn ∧ okFn Try.prog fid fn v196 = true := ⟨Try.f47, Try.func47, by kernel_rfl⟩
theorem ok_232 : ∃ fn, Try.prog.funcs[fid 232]? = some fn ∧ okFn Try.prog fid fn v232 = true := ⟨Try.f3, Try.func3, by kernel_rfl⟩
theorem ok_233 : ∃ fn, Try.prog.funcs[fid 233]? = some fn ∧ okFn Try.prog fid fn v233 = true := ⟨Try.f7, Try.func7, by kernel_rfl⟩
theorem ok_234 : ∃ fn, Try.prog.funcs[fid 234]? = some fn ∧ okFn Try.prog fid fn v234 = true := ⟨Try.f8, Try.func8, by kernel_rfl⟩
theorem ok_235 : ∃ fn, Try.prog.funcs[fid 235]? = some fn ∧ okFn Try.prog fid fn v235 = true := ⟨Try.f9, Try.func9, by kernel_rfl⟩
theorem ok_236 : ∃ fn, Try.prog.funcs[fid 236]? = some fn ∧ okFn Try.prog fid fn v236 = true := ⟨Try.f10, Try.func10, by kernel_rfl⟩
theorem ok_237 : ∃ fn, Try.prog.funcs[fid 237]? = some fn ∧ okFn Try.prog fid fn v237 = true := ⟨Try.f11, Try.func11, by kernel_rfl⟩
theorem ok_238 : ∃ fn, Try.prog.funcs[fid 238]? = some fn ∧ okFn Try.prog fid fn v238 = true := ⟨Try.f12, Try.func12, by kernel_rfl⟩
theorem look_mem : ∀ {l : List (Nat × VFn)} {k : Nat} {v : VFn}, look l k = some v → (k, v) ∈ l
  | [], _, _, h => by simp [look] at h
  | (a, u) :: r, k, v, h => by
    simp only [look] at h
    split at h
    · rename_i hk
      simp at h; subst h; subst hk; simp
    · exact List.mem_cons_of_mem _ (look_mem h)
theorem bases_ok : codes.all (fun q => baseOK (lookB bases q.1) q.2.code) = true := by kernel_rfl
theorem codes_ok : ∀ q, q ∈ codes → ∃ fn, Try.prog.funcs[fid q.1]? = some fn ∧ okFn Try.prog fid fn q.2 = true :=
  List.forall_mem_cons.2 ⟨ok_13, List.forall_mem_cons.2 ⟨ok_14, List.forall_mem_cons.2 ⟨ok_18, List.forall_mem_cons.2 ⟨ok_19, List.forall_mem_cons.2 ⟨ok_27, List.forall_mem_cons.2 ⟨ok_28, List.forall_mem_cons.2 ⟨ok_29, List.forall_mem_cons.2 ⟨ok_30, List.forall_mem_cons.2 ⟨ok_31, List.forall_mem_cons.2 ⟨ok_33, List.forall_mem_cons.2 ⟨ok_34, List.forall_mem_cons.2 ⟨ok_38, List.forall_mem_cons.2 ⟨ok_39, List.forall_mem_cons.2 ⟨ok_59, List.forall_mem_cons.2 ⟨ok_60, List.forall_mem_cons.2 ⟨ok_61, List.forall_mem_cons.2 ⟨ok_62, List.forall_mem_cons.2 ⟨ok_77, List.forall_mem_cons.2 ⟨ok_82, List.forall_mem_cons.2 ⟨ok_114, List.forall_mem_cons.2 ⟨ok_115, List.forall_mem_cons.2 ⟨ok_133, List.forall_mem_cons.2 ⟨ok_155, List.forall_mem_cons.2 ⟨ok_156, List.forall_mem_cons.2 ⟨ok_159, List.forall_mem_cons.2 ⟨ok_160, List.forall_mem_cons.2 ⟨ok_165, List.forall_mem_cons.2 ⟨ok_195, List.forall_mem_cons.2 ⟨ok_196, List.forall_mem_cons.2 ⟨ok_232, List.forall_mem_cons.2 ⟨ok_233, List.forall_mem_cons.2 ⟨ok_234, List.forall_mem_cons.2 ⟨ok_235, List.forall_mem_cons.2 ⟨ok_236, List.forall_mem_cons.2 ⟨ok_237, List.forall_mem_cons.2 ⟨ok_238, List.forall_mem_nil _⟩⟩⟩⟩⟩⟩⟩⟩⟩⟩⟩⟩⟩⟩⟩⟩⟩⟩⟩⟩⟩⟩⟩⟩⟩⟩⟩⟩⟩⟩⟩⟩⟩⟩⟩⟩
end Go.Proofs.Ytidlpcgcolcfgaa.VS
