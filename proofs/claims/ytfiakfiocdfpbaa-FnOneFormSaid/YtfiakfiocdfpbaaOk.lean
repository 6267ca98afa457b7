/- The evaluator's code is the program's. -/
import Derived.Test.YtfiakfiocdfpbaaNat1
import Derived.Test.YtfiakfiocdfpbaaCode
import Derived.Test.YtfiakfiocdfpbaaChecked
import Derived.KernelRfl
namespace Go.Proofs.Ytfiakfiocdfpbaa.VS
set_option linter.unusedVariables false
open Go.Proofs
def fid : Nat → FuncId
  | 3 => 89
  | 4 => 14
  | 6 => 53
  | 13 => 107
  | 14 => 102
  | 18 => 123
  | 19 => 122
  | 22 => 67
  | 23 => 64
  | 24 => 104
  | 25 => 103
  | 29 => 56
  | 30 => 81
  | 31 => 60
  | 33 => 58
  | 34 => 17
  | 38 => 93
  | 39 => 96
  | 47 => 126
  | 53 => 136
  | 54 => 125
  | 55 => 133
  | 56 => 140
  | 59 => 106
  | 60 => 101
  | 61 => 120
  | 62 => 121
  | 67 => 44
  | 68 => 32
  | 70 => 20
  | 71 => 83
  | 72 => 82
  | 73 => 71
  | 74 => 110
  | 75 => 105
  | 76 => 86
  | 77 => 63
  | 78 => 65
  | 79 => 72
  | 80 => 21
  | 81 => 74
  | 82 => 66
  | 83 => 68
  | 84 => 76
  | 85 => 112
  | 90 => 46
  | 91 => 45
  | 92 => 94
  | 93 => 95
  | 94 => 114
  | 95 => 115
  | 96 => 116
  | 97 => 130
  | 98 => 97
  | 102 => 75
  | 103 => 25
  | 104 => 70
  | 105 => 108
  | 106 => 109
  | 107 => 124
  | 108 => 127
  | 109 => 128
  | 110 => 73
  | 111 => 111
  | 112 => 129
  | 117 => 23
  | 118 => 22
  | 132 => 8
  | 133 => 9
  | 134 => 31
  | 135 => 33
  | 136 => 34
  | 137 => 35
  | 138 => 36
  | 139 => 37
  | 140 => 38
  | 141 => 39
  | 142 => 41
  | 143 => 40
  | 144 => 42
  | 145 => 43
  | 146 => 78
  | 147 => 92
  | 148 => 90
  | 149 => 91
  | 150 => 77
  | 151 => 57
  | 152 => 88
  | 153 => 15
  | 154 => 59
  | 155 => 49
  | 156 => 47
  | 157 => 79
  | 158 => 113
  | 159 => 54
  | 160 => 55
  | 161 => 80
  | 162 => 48
  | 163 => 85
  | 164 => 61
  | 165 => 100
  | 166 => 50
  | 167 => 87
  | 168 => 84
  | 169 => 11
  | 170 => 52
  | 171 => 99
  | 172 => 118
  | 173 => 119
  | 174 => 132
  | 175 => 139
  | 176 => 7
  | 177 => 28
  | 178 => 26
  | 179 => 27
  | 180 => 69
  | 189 => 3
  | 190 => 10
  | 191 => 12
  | 192 => 13
  | 193 => 16
  | 194 => 51
  | 195 => 98
  | 196 => 117
  | 197 => 62
  | 339 => 30
  | 340 => 29
  | 363 => 6
  | 364 => 5
  | 365 => 24
  | 366 => 4
  | 367 => 18
  | 368 => 19
  | _ => 0
theorem ok_3 : ∃ fn, Try.prog.funcs[fid 3]? = some fn ∧ okFn Try.prog fid fn v3 = true := ⟨Try.f89, Try.func89, by kernel_rfl⟩
theorem ok_4 : ∃ fn, Try.prog.funcs[fid 4]? = some fn ∧ okFn Try.prog fid fn v4 = true := ⟨Try.f14, Try.func14, by kernel_rfl⟩
theorem ok_6 : ∃ fn, Try.prog.funcs[fid 6]? = some fn ∧ okFn Try.prog fid fn v6 = true := ⟨Try.f53, Try.func53, by kernel_rfl⟩
theorem ok_29 : ∃ fn, Try.prog.funcs[fid 29]? = some fn ∧ okFn Try.prog fid fn v29 = true := ⟨Try.f56, Try.func56, by kernel_rfl⟩
theorem ok_30 : ∃ fn, Try.prog.funcs[fid 30]? = some fn ∧ okFn Try.prog fid fn v30 = true := ⟨Try.f81, Try.func81, by kernel_rfl⟩
theorem ok_31 : ∃ fn, Try.prog.funcs[fid 31]? = some fn ∧ okFn Try.prog fid fn v31 = true := ⟨Try.f60, Try.func60, by kernel_rfl⟩
theorem ok_33 : ∃ fn, Try.prog.funcs[fid 33]? = some fn ∧ okFn Try.prog fid fn v33 = true := ⟨Try.f58, Try.func58, by kernel_rfl⟩
theorem ok_34 : ∃ fn, Try.prog.funcs[fid 34]? = some fn ∧ okFn Try.prog fid fn v34 = true := ⟨Try.f17, Try.func17, by kernel_rfl⟩
theorem ok_84 : ∃ fn, Try.prog.funcs[fid 84]? = some fn ∧ okFn Try.prog fid fn v84 = true := ⟨Try.f76, Try.func76, by kernel_rfl⟩
theorem ok_133 : ∃ fn, Try.prog.funcs[fid 133]? = some fn ∧ okFn Try.prog fid fn v133 = true := ⟨Try.f9, Try.func9, by kernel_rfl⟩
theorem ok_146 : ∃ fn, Try.prog.funcs[fid 146]? = some fn ∧ okFn Try.prog fid fn v146 = true := ⟨Try.f78, Try.func78, by kernel_rfl⟩
theorem ok_147 : ∃ fn, Try.prog.funcs[fid 147]? = some fn ∧ okFn Try.prog fid fn v147 = true := ⟨Try.f92, Try.func92, by kernel_rfl⟩
theorem ok_150 : ∃ fn, Try.prog.funcs[fid 150]? = some fn ∧ okFn Try.prog fid fn v150 = true := ⟨Try.f77, Try.func77, by kernel_rfl⟩
theorem ok_151 : ∃ fn, Try.prog.funcs[fid 151]? = some fn ∧ okFn Try.prog fid fn v151 = true := ⟨Try.f57, Try.func57, by kernel_rfl⟩
theorem ok_153 : ∃ fn, Try.prog.funcs[fid 153]? = some fn ∧ okFn Try.prog fid fn v153 = true := ⟨Try.f15, Try.func15, by kernel_rfl⟩
theorem ok_154 : ∃ fn, Try.prog.funcs[fid 154]? = some fn ∧ okFn Try.prog fid fn v154 = true := ⟨Try.f59, Try.func59, by kernel_rfl⟩
theorem ok_155 : ∃ fn, Try.prog.funcs[fid 155]? = some fn ∧ okFn Try.prog fid fn v155 = true := ⟨Try.f49, Try.func49, by kernel_rfl⟩
theorem ok_156 : ∃ fn, Try.prog.funcs[fid 156]? = some fn ∧ okFn Try.prog fid fn v156 = true := ⟨Try.f47, Try.func47, by kernel_rfl⟩
theorem ok_159 : ∃ fn, Try.prog.funcs[fid 159]? = some fn ∧ okFn Try.prog fid fn v159 = true := ⟨Try.f54, Try.func54, by kernel_rfl⟩
theorem ok_160 : ∃ fn, Try.prog.funcs[fid 160]? = some fn ∧ okFn Try.prog fid fn v160 = true := ⟨Try.f55, Try.func55, by kernel_rfl⟩
theorem ok_161 : ∃ fn, Try.prog.funcs[fid 161]? = some fn ∧ okFn Try.prog fid fn v161 = true := ⟨Try.f80, Try.func80, by kernel_rfl⟩
theorem ok_162 : ∃ fn, Try.prog.funcs[fid 162]? = some fn ∧ okFn Try.prog fid fn v162 = true := ⟨Try.f48, Try.func48, by kernel_rfl⟩
theorem ok_163 : ∃ fn, Try.prog.funcs[fid 163]? = some fn ∧ okFn Try.prog fid fn v163 = true := ⟨Try.f85, Try.func85, by kernel_rfl⟩
theorem ok_164 : ∃ fn, Try.prog.funcs[fid 164]? = some fn ∧ okFn Try.prog fid fn v164 = true := ⟨Try.f61, Try.func61, by kernel_rfl⟩
theorem ok_165 : ∃ fn, Try.prog.funcs[fid 165]? = some fn ∧ okFn Try.prog fid fn v165 = true := ⟨Try.f100, Try.func100, by kernel_rfl⟩
theorem ok_166 : ∃ fn, Try.prog.funcs[fid 166]? = some fn ∧ okFn Try.prog fid fn v166 = true := ⟨Try.f50, Try.func50, by kernel_rfl⟩
theorem ok_169 : ∃ fn, Try.prog.funcs[fid 169]? = some fn ∧ okFn Try.prog fid fn v169 = true := ⟨Try.f11, Try.func11, by kernel_rfl⟩
theorem ok_170 : ∃ fn, Try.prog.funcs[fid 170]? = some fn ∧ okFn Try.prog fid fn v170 = true := ⟨Try.f52, Try.func52, by kernel_rfl⟩
theorem ok_171 : ∃ fn, Try.prog.funcs[fid 171]? = some fn ∧ okFn Try.prog fid fn v171 = true := ⟨Try.f99, Try.func99, by kernel_rfl⟩
theorem ok_172 : ∃ fn, Try.prog.funcs[fid 172]? = some fn ∧ okFn Try.prog fid fn v172 = true := ⟨Try.f118, Try.func118, by kernel_rfl⟩
theorem ok_173 : ∃ fn, Try.prog.funcs[fid 173]? = some fn ∧ okFn Try.prog fid fn v173 = true := ⟨Try.f119, Try.func119, by kernel_rfl⟩
theorem ok_174 : ∃ fn, Try.prog.funcs[fid 174]? = some fn ∧ okFn Try.prog fid fn v174 = true := ⟨Try.f132, Try.func132, by kernel_rfl⟩
theorem ok_175 : ∃ fn, Try.prog.funcs[fid 175]? = some fn ∧ okFn Try.prog fid fn v175 = true := ⟨Try.f139, Try.func139, by kernel_rfl⟩
theorem ok_189 : ∃ fn, Try.prog.funcs[fid 189]? = some fn ∧ okFn Try.prog fid fn v189 = true := ⟨Try.f3, Try.func3, by kernel_rfl⟩
theorem ok_190 : ∃ fn, Try.prog.funcs[fid 190]? = some fn ∧ okFn Try.prog fid fn v190 = true := ⟨Try.f10, Try.func10, by kernel_rfl⟩
theorem ok_191 : ∃ fn, Try.prog.funcs[fid 191]? = some fn ∧ okFn Try.prog fid fn v191 = true := ⟨Try.f12, Try.func12, by kernel_rfl⟩
theorem ok_192 : ∃ fn, Try.prog.funcs[fid 192]? = some fn ∧ okFn Try.prog fid fn v192 = true := ⟨Try.f13, Try.func13, by kernel_rfl⟩
theorem ok_193 : ∃ fn, Try.prog.funcs[fid 193]? = some fn ∧ okFn Try.prog fid fn v193 = true := ⟨Try.f16, Try.func16, by kernel_rfl⟩
theorem ok_194 : ∃ fn, Try.prog.funcs[fid 194]? = some fn ∧ okFn Try.prog fid fn v194 = true := ⟨Try.f51, Try.func51, by kernel_rfl⟩
theorem ok_195 : ∃ fn, Try.prog.funcs[fid 195]? = some fn ∧ okFn Try.prog fid fn v195 = true := ⟨Try.f98, Try.func98, by kernel_rfl⟩
theorem ok_196 : ∃ fn, Try.prog.funcs[fid 196]? = some fn ∧ okFn Try.prog fid fn v196 = true := ⟨Try.f117, Try.func117, by kernel_rfl⟩
theorem ok_197 : ∃ fn, Try.prog.funcs[fid 197]? = some fn ∧ okFn Try.prog fid fn v197 = true := ⟨Try.f62, Try.func62, by kernel_rfl⟩
theorem look_mem : ∀ {l : List (Nat × VFn)} {k : Nat} {v : VFn}, look l k = some v → (k, v) ∈ l
  | [], _, _, h => by simp [look] at h
  | (a, u) :: r, k, v, h => by
    simp only [look] at h
    split at h
    · rename_i hk
      simp at h; subst h; subst hk; simp
    · exact List.mem_cons_of_mem _ (look_mem h)
theorem bases_ok : codes.all (fun q => baseOK (lookB bases q.1) q.2.code) = true := by kernel_rfl
theorem codes_ok : ∀ q, q ∈ codes → ∃ fn, Try.prog.funcs[fid q.1]? = some fn ∧ okFn Try.prog fid fn q.2 = true :=
  List.forall_mem_cons.2 ⟨ok_3, List.forall_mem_cons.2 ⟨ok_4, List.forall_mem_cons.2 ⟨ok_6, List.forall_mem_cons.2 ⟨ok_29, List.forall_mem_cons.2 ⟨ok_30, List.forall_mem_cons.2 ⟨ok_31, List.forall_mem_cons.2 ⟨ok_33, List.forall_mem_cons.2 ⟨ok_34, List.forall_mem_cons.2 ⟨ok_84, List.forall_mem_cons.2 ⟨ok_133, List.forall_mem_cons.2 ⟨ok_146, List.forall_mem_cons.2 ⟨ok_147, List.forall_mem_cons.2 ⟨ok_150, List.forall_mem_cons.2 ⟨ok_151, List.forall_mem_cons.2 ⟨ok_153, List.forall_mem_cons.2 ⟨ok_154, List.forall_mem_cons.2 ⟨ok_155, List.forall_mem_cons.2 ⟨ok_156, List.forall_mem_cons.2 ⟨ok_159, List.forall_mem_cons.2 ⟨ok_160, List.forall_mem_cons.2 ⟨ok_161, List.forall_mem_cons.2 ⟨ok_162, List.forall_mem_cons.2 ⟨ok_163, List.forall_mem_cons.2 ⟨ok_164, List.forall_mem_cons.2 ⟨ok_165, List.forall_mem_cons.2 ⟨ok_166, List.forall_mem_cons.2 ⟨ok_170, List.forall_mem_cons.2 ⟨ok_171, List.forall_mem_cons.2 ⟨ok_172, List.forall_mem_cons.2 ⟨ok_173, List.forall_mem_cons.2 ⟨ok_174, List.forall_mem_cons.2 ⟨ok_175, List.forall_mem_cons.2 ⟨ok_189, List.forall_mem_cons.2 ⟨ok_190, List.forall_mem_cons.2 ⟨ok_191, List.forall_mem_cons.2 ⟨ok_192, List.forall_mem_cons.2 ⟨ok_193, List.forall_mem_cons.2 ⟨ok_194, List.forall_mem_cons.2 ⟨ok_195, List.forall_mem_cons.2 ⟨ok_196, List.forall_mem_cons.2 ⟨ok_197, List.forall_mem_nil _⟩⟩⟩⟩⟩⟩⟩⟩⟩⟩⟩⟩⟩⟩⟩⟩⟩⟩⟩⟩⟩⟩⟩⟩⟩⟩⟩⟩⟩⟩⟩⟩⟩⟩⟩⟩⟩⟩⟩⟩⟩
end Go.Proofs.Ytfiakfiocdfpbaa.VS
