/- The evaluator's code is the program's. -/
import Derived.Test.YtficfeekkljoeaaNat1
import Derived.Test.YtficfeekkljoeaaCode
import Derived.Test.YtficfeekkljoeaaChecked
import Derived.KernelRfl
namespace Go.Proofs.Ytficfeekkljoeaa.VS
set_option linter.unusedVariables false
open Go.Proofs
def fid : Nat → FuncId
  | 1 => 20
  | 2 => 23
  | 3 => 91
  | 5 => 25
  | 6 => 101
  | 7 => 54
  | 8 => 51
  | 9 => 47
  | 11 => 19
  | 12 => 22
  | 13 => 103
  | 14 => 106
  | 15 => 26
  | 16 => 50
  | 17 => 46
  | 18 => 117
  | 19 => 116
  | 20 => 55
  | 22 => 86
  | 23 => 93
  | 24 => 107
  | 25 => 95
  | 29 => 108
  | 30 => 45
  | 31 => 59
  | 33 => 90
  | 34 => 100
  | 41 => 7
  | 43 => 17
  | 44 => 10
  | 45 => 43
  | 46 => 44
  | 47 => 69
  | 48 => 62
  | 50 => 32
  | 51 => 39
  | 53 => 113
  | 54 => 110
  | 55 => 118
  | 56 => 121
  | 59 => 102
  | 60 => 105
  | 61 => 114
  | 62 => 115
  | 70 => 77
  | 73 => 79
  | 74 => 99
  | 75 => 97
  | 77 => 92
  | 78 => 94
  | 79 => 82
  | 80 => 70
  | 81 => 72
  | 82 => 85
  | 83 => 87
  | 84 => 75
  | 85 => 89
  | 102 => 74
  | 103 => 81
  | 104 => 78
  | 105 => 96
  | 106 => 98
  | 107 => 109
  | 108 => 111
  | 109 => 112
  | 110 => 71
  | 111 => 88
  | 112 => 104
  | 117 => 73
  | 118 => 80
  | 133 => 14
  | 146 => 49
  | 150 => 52
  | 151 => 76
  | 156 => 41
  | 159 => 66
  | 160 => 68
  | 162 => 67
  | 165 => 84
  | 178 => 53
  | 179 => 48
  | 206 => 15
  | 207 => 8
  | 208 => 6
  | 212 => 18
  | 214 => 16
  | 217 => 30
  | 218 => 31
  | 219 => 61
  | 220 => 60
  | 221 => 83
  | 222 => 33
  | 223 => 35
  | 224 => 34
  | 225 => 36
  | 226 => 38
  | 227 => 37
  | 228 => 65
  | 229 => 64
  | 230 => 63
  | 231 => 42
  | 243 => 27
  | 244 => 57
  | 292 => 58
  | 294 => 56
  | 308 => 28
  | 338 => 5
  | 339 => 21
  | 340 => 24
  | 341 => 29
  | 344 => 11
  | 345 => 40
  | 351 => 9
  | 352 => 12
  | 354 => 4
  | 355 => 3
  | 356 => 13
  | _ => 0
theorem ok_30 : ∃ fn, Try.prog.funcs[fid 30]? = some fn ∧ okFn Try.prog fid fn v30 = true := ⟨Try.f45, Try.func45, by kernel_rfl⟩
theorem ok_31 : ∃ fn, Try.prog.funcs[fid 31]? = some fn ∧ okFn Try.prog fid fn v31 = true := ⟨Try.f59, Try.func59, by kernel_rfl⟩
theorem ok_41 : ∃ fn, Try.prog.funcs[fid 41]? = some fn ∧ okFn Try.prog fid fn v41 = true := ⟨Try.f7, Try.func7, by kernel_rfl⟩
theorem ok_43 : ∃ fn, Try.prog.funcs[fid 43]? = some fn ∧ okFn Try.prog fid fn v43 = true := ⟨Try.f17, Try.func17, by kernel_rfl⟩
theorem ok_44 : ∃ fn, Try.prog.funcs[fid 44]? = some fn ∧ okFn Try.prog fid fn v44 = true := ⟨Try.f10, Try.func10, by kernel_rfl⟩
theorem ok_45 : ∃ fn, Try.prog.funcs[fid 45]? = some fn ∧ okFn Try.prog fid fn v45 = true := ⟨Try.f43, Try.func43, by kernel_rfl⟩
theorem ok_46 : ∃ fn, Try.prog.funcs[fid 46]? = some fn ∧ okFn Try.prog fid fn v46 = true := ⟨Try.f44, Try.func44, by kernel_rfl⟩
theorem ok_47 : ∃ fn, Try.prog.funcs[fid 47]? = some fn ∧ okFn Try.prog fid fn v47 = true := ⟨Try.f69, Try.func69, by kernel_rfl⟩
theorem ok_48 : ∃ fn, Try.prog.funcs[fid 48]? = some fn ∧ okFn Try.prog fid fn v48 = true := ⟨Try.f62, Try.func62, by kernel_rfl⟩
theorem ok_50 : ∃ fn, Try.prog.funcs[fid 50]? = some fn ∧ okFn Try.prog fid fn v50 = true := ⟨Try.f32, Try.func32, by kernel_rfl⟩
theorem ok_51 : ∃ fn, Try.prog.funcs[fid 51]? = some fn ∧ okFn Try.prog fid fn v51 = true := ⟨Try.f39, Try.func39, by kernel_rfl⟩
theorem ok_207 : ∃ fn, Try.prog.funcs[fid 207]? = some fn ∧ okFn Try.prog fid fn v207 = true := ⟨Try.f8, Try.func8, by kernel_rfl⟩
theorem ok_208 : ∃ fn, Try.prog.funcs[fid 208]? = some fn ∧ okFn Try.prog fid fn v208 = true := ⟨Try.f6, Try.func6, by kernel_rfl⟩
theorem ok_217 : ∃ fn, Try.prog.funcs[fid 217]? = some fn ∧ okFn Try.prog fid fn v217 = true := ⟨Try.f30, Try.func30, by kernel_rfl⟩
theorem ok_218 : ∃ fn, Try.prog.funcs[fid 218]? = some fn ∧ okFn Try.prog fid fn v218 = true := ⟨Try.f31, Try.func31, by kernel_rfl⟩
theorem ok_219 : ∃ fn, Try.prog.funcs[fid 219]? = some fn ∧ okFn Try.prog fid fn v219 = true := ⟨Try.f61, Try.func61, by kernel_rfl⟩
theorem ok_220 : ∃ fn, Try.prog.funcs[fid 220]? = some fn ∧ okFn Try.prog fid fn v220 = true := ⟨Try.f60, Try.func60, by kernel_rfl⟩
theorem ok_221 : ∃ fn, Try.prog.funcs[fid 221]? = some fn ∧ okFn Try.prog fid fn v221 = true := ⟨Try.f83, Try.func83, by kernel_rfl⟩
theorem ok_222 : ∃ fn, Try.prog.funcs[fid 222]? = some fn ∧ okFn Try.prog fid fn v222 = true := ⟨Try.f33, Try.func33, by kernel_rfl⟩
theorem ok_223 : ∃ fn, Try.prog.funcs[fid 223]? = some fn ∧ okFn Try.prog fid fn v223 = true := ⟨Try.f35, Try.func35, by kernel_rfl⟩
theorem ok_224 : ∃ fn, Try.prog.funcs[fid 224]? = some fn ∧ okFn Try.prog fid fn v224 = true := ⟨Try.f34, Try.func34, by kernel_rfl⟩
theorem ok_226 : ∃ fn, Try.prog.funcs[fid 226]? = some fn ∧ okFn Try.prog fid fn v226 = true := ⟨Try.f38, Try.func38, by kernel_rfl⟩
theorem ok_227 : ∃ fn, Try.prog.funcs[fid 227]? = some fn ∧ okFn Try.prog fid fn v227 = true := ⟨Try.f37, Try.func37, by kernel_rfl⟩
theorem ok_228 : ∃ fn, Try.prog.funcs[fid 228]? = some fn ∧ okFn Try.prog fid fn v228 = true := ⟨Try.f65, Try.func65, by kernel_rfl⟩
theorem ok_230 : ∃ fn, Try.prog.funcs[fid 230]? = some fn ∧ okFn Try.prog fid fn v230 = true := ⟨Try.f63, Try.func63, by kernel_rfl⟩
theorem ok_344 : ∃ fn, Try.prog.funcs[fid 344]? = some fn ∧ okFn Try.prog fid fn v344 = true := ⟨Try.f11, Try.func11, by kernel_rfl⟩
theorem ok_345 : ∃ fn, Try.prog.funcs[fid 345]? = some fn ∧ okFn Try.prog fid fn v345 = true := ⟨Try.f40, Try.func40, by kernel_rfl⟩
theorem ok_351 : ∃ fn, Try.prog.funcs[fid 351]? = some fn ∧ okFn Try.prog fid fn v351 = true := ⟨Try.f9, Try.func9, by kernel_rfl⟩
theorem ok_352 : ∃ fn, Try.prog.funcs[fid 352]? = some fn ∧ okFn Try.prog fid fn v352 = true := ⟨Try.f12, Try.func12, by kernel_rfl⟩
theorem ok_355 : ∃ fn, Try.prog.funcs[fid 355]? = some fn ∧ okFn Try.prog fid fn v355 = true := ⟨Try.f3, Try.func3, by kernel_rfl⟩
theorem ok_356 : ∃ fn, Try.prog.funcs[fid 356]? = some fn ∧ okFn Try.prog fid fn v356 = true := ⟨Try.f13, Try.func13, by kernel_rfl⟩
theorem look_mem : ∀ {l : List (Nat × VFn)} {k : Nat} {v : VFn}, look l k = some v → (k, v) ∈ l
  | [], _, _, h => by simp [look] at h
  | (a, u) :: r, k, v, h => by
    simp only [look] at h
    split at h
    · rename_i hk
      simp at h; subst h; subst hk; simp
    · exact List.mem_cons_of_mem _ (look_mem h)
theorem codes_ok : ∀ q, q ∈ codes → ∃ fn, Try.prog.funcs[fid q.1]? = some fn ∧ okFn Try.prog fid fn q.2 = true :=
  List.forall_mem_cons.2 ⟨ok_30, List.forall_mem_cons.2 ⟨ok_31, List.forall_mem_cons.2 ⟨ok_41, List.forall_mem_cons.2 ⟨ok_43, List.forall_mem_cons.2 ⟨ok_44, List.forall_mem_cons.2 ⟨ok_45, List.forall_mem_cons.2 ⟨ok_46, List.forall_mem_cons.2 ⟨ok_47, List.forall_mem_cons.2 ⟨ok_48, List.forall_mem_cons.2 ⟨ok_50, List.forall_mem_cons.2 ⟨ok_51, List.forall_mem_cons.2 ⟨ok_207, List.forall_mem_cons.2 ⟨ok_208, List.forall_mem_cons.2 ⟨ok_217, List.forall_mem_cons.2 ⟨ok_218, List.forall_mem_cons.2 ⟨ok_219, List.forall_mem_cons.2 ⟨ok_220, List.forall_mem_cons.2 ⟨ok_221, List.forall_mem_cons.2 ⟨ok_222, List.forall_mem_cons.2 ⟨ok_223, List.forall_mem_cons.2 ⟨ok_224, List.forall_mem_cons.2 ⟨ok_226, List.forall_mem_cons.2 ⟨ok_227, List.forall_mem_cons.2 ⟨ok_228, List.forall_mem_cons.2 ⟨ok_230, List.forall_mem_cons.2 ⟨ok_344, List.forall_mem_cons.2 ⟨ok_345, List.forall_mem_cons.2 ⟨ok_351, List.forall_mem_cons.2 ⟨ok_352, List.forall_mem_cons.2 ⟨ok_355, List.forall_mem_cons.2 ⟨ok_356, List.forall_mem_nil _⟩⟩⟩⟩⟩⟩⟩⟩⟩⟩⟩⟩⟩⟩⟩⟩⟩⟩⟩⟩⟩⟩⟩⟩⟩⟩⟩⟩⟩⟩⟩
end Go.Proofs.Ytficfeekkljoeaa.VS
