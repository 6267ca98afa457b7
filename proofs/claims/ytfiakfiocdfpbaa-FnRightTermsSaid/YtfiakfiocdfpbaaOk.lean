/- The evaluator's code is the program's. -/
import Derived.Test.YtfiakfiocdfpbaaNat1
import Derived.Test.YtfiakfiocdfpbaaCode
import Derived.Test.YtfiakfiocdfpbaaChecked
import Derived.KernelRfl
namespace Go.Proofs.Ytfiakfiocdfpbaa.VS
set_option linter.unusedVariables false
open Go.Proofs
def fid : Nat → FuncId
  | 3 => 89
  | 4 => 14
  | 6 => 53
  | 13 => 107
  | 14 => 102
  | 18 => 123
  | 19 => 122
  | 22 => 67
  | 23 => 64
  | 24 => 104
  | 25 => 103
  | 29 => 56
  | 30 => 81
  | 31 => 60
  | 33 => 58
  | 34 => 17
  | 38 => 93
  | 39 => 96
  | 47 => 126
  | 53 => 136
  | 54 => 125
  | 55 => 133
  | 56 => 140
  | 59 => 106
  | 60 => 101
  | 61 => 120
  | 62 => 121
  | 67 => 44
  | 68 => 32
  | 70 => 20
  | 71 => 83
  | 72 => 82
  | 73 => 71
  | 74 => 110
  | 75 => 105
  | 76 => 86
  | 77 => 63
  | 78 => 65
  | 79 => 72
  | 80 => 21
  | 81 => 74
  | 82 => 66
  | 83 => 68
  | 84 => 76
  | 85 => 112
  | 90 => 46
  | 91 => 45
  | 92 => 94
  | 93 => 95
  | 94 => 114
  | 95 => 115
  | 96 => 116
  | 97 => 130
  | 98 => 97
  | 102 => 75
  | 103 => 25
  | 104 => 70
  | 105 => 108
  | 106 => 109
  | 107 => 124
  | 108 => 127
  | 109 => 128
  | 110 => 73
  | 111 => 111
  | 112 => 129
  | 117 => 23
  | 118 => 22
  | 132 => 8
  | 133 => 9
  | 134 => 31
  | 135 => 33
  | 136 => 34
  | 137 => 35
  | 138 => 36
  | 139 => 37
  | 140 => 38
  | 141 => 39
  | 142 => 41
  | 143 => 40
  | 144 => 42
  | 145 => 43
  | 146 => 78
  | 147 => 92
  | 148 => 90
  | 149 => 91
  | 150 => 77
  | 151 => 57
  | 152 => 88
  | 153 => 15
  | 154 => 59
  | 155 => 49
  | 156 => 47
  | 157 => 79
  | 158 => 113
  | 159 => 54
  | 160 => 55
  | 161 => 80
  | 162 => 48
  | 163 => 85
  | 164 => 61
  | 165 => 100
  | 166 => 50
  | 167 => 87
  | 168 => 84
  | 169 => 11
  | 170 => 52
  | 171 => 99
  | 172 => 118
  | 173 => 119
  | 174 => 132
  | 175 => 139
  | 176 => 7
  | 177 => 28
  | 178 => 26
  | 179 => 27
  | 180 => 69
  | 189 => 3
  | 190 => 10
  | 191 => 12
  | 192 => 13
  | 193 => 16
  | 194 => 51
  | 195 => 98
  | 196 => 117
  | 197 => 62
  | 339 => 30
  | 340 => 29
  | 363 => 6
  | 364 => 5
  | 365 => 24
  | 366 => 4
  | 367 => 18
  | 368 => 19
  | _ => 0
theorem ok_3 : ∃ fn, Try.prog.funcs[fid 3]? = some fn ∧ okFn Try.prog fid fn v3 = true := ⟨Try.f89, Try.func89, by kernel_rfl⟩
theorem ok_4 : ∃ fn, Try.prog.funcs[fid 4]? = some fn ∧ okFn Try.prog fid fn v4 = true := ⟨Try.f14, Try.func14, by kernel_rfl⟩
theorem ok_6 : ∃ fn, Try.prog.funcs[fid 6]? = some fn ∧ okFn Try.prog fid fn v6 = true := ⟨Try.f53, Try.func53, by kernel_rfl⟩
theorem ok_13 : ∃ fn, Try.prog.funcs[fid 13]? = some fn ∧ okFn Try.prog fid fn v13 = true := ⟨Try.f107, Try.func107, by kernel_rfl⟩
theorem ok_14 : ∃ fn, Try.prog.funcs[fid 14]? = some fn ∧ okFn Try.prog fid fn v14 = true := ⟨Try.f102, Try.func102, by kernel_rfl⟩
theorem ok_18 : ∃ fn, Try.prog.funcs[fid 18]? = some fn ∧ okFn Try.prog fid fn v18 = true := ⟨Try.f123, Try.func123, by kernel_rfl⟩
theorem ok_19 : ∃ fn, Try.prog.funcs[fid 19]? = some fn ∧ okFn Try.prog fid fn v19 = true := ⟨Try.f122, Try.func122, by kernel_rfl⟩
theorem ok_22 : ∃ fn, Try.prog.funcs[fid 22]? = some fn ∧ okFn Try.prog fid fn v22 = true := ⟨Try.f67, Try.func67, by kernel_rfl⟩
theorem ok_23 : ∃ fn, Try.prog.funcs[fid 23]? = some fn ∧ okFn Try.prog fid fn v23 = true := ⟨Try.f64, Try.func64, by kernel_rfl⟩
theorem ok_24 : ∃ fn, Try.prog.funcs[fid 24]? = some fn ∧ okFn Try.prog fid fn v24 = true := ⟨Try.f104, Try.func104, by kernel_rfl⟩
theorem ok_25 : ∃ fn, Try.prog.funcs[fid 25]? = some fn ∧ okFn Try.prog fid fn v25 = true := ⟨Try.f103, Try.func103, by kernel_rfl⟩
theorem ok_29 : ∃ fn, Try.prog.funcs[fid 29]? = some fn ∧ okFn Try.prog fid fn v29 = true := ⟨Try.f56, Try.func56, by kernel_rfl⟩
theorem ok_30 : ∃ fn, Try.prog.funcs[fid 30]? = some fn ∧ okFn Try.prog fid fn v30 = true := ⟨Try.f81, Try.func81, by kernel_rfl⟩
theorem ok_31 : ∃ fn, Try.prog.funcs[fid 31]? = some fn ∧ okFn Try.prog fid fn v31 = true := ⟨Try.f60, Try.func60, by kernel_rfl⟩
theorem ok_33 : ∃ fn, Try.prog.funcs[fid 33]? = some fn ∧ okFn Try.prog fid fn v33 = true := ⟨Try.f58, Try.func58, by kernel_rfl⟩
theorem ok_34 : ∃ fn, Try.prog.funcs[fid 34]? = some fn ∧ okFn Try.prog fid fn v34 = true := ⟨Try.f17, Try.func17, by kernel_rfl⟩
theorem ok_59 : ∃ fn, Try.prog.funcs[fid 59]? = some fn ∧ okFn Try.prog fid fn v59 = true := ⟨Try.f106, Try.func106, by kernel_rfl⟩
theorem ok_60 : ∃ fn, Try.prog.funcs[fid 60]? = some fn ∧ okFn Try.prog fid fn v60 = true := ⟨Try.f101, Try.func101, by kernel_rfl⟩
theorem ok_61 : ∃ fn, Try.prog.funcs[fid 61]? = some fn ∧ okFn Try.prog fid fn v61 = true := ⟨Try.f120, Try.func120, by kernel_rfl⟩
theorem ok_62 : ∃ fn, Try.prog.funcs[fid 62]? = some fn ∧ okFn Try.prog fid fn v62 = true := ⟨Try.f121, Try.func121, by kernel_rfl⟩
theorem ok_70 : ∃ fn, Try.prog.funcs[fid 70]? = some fn ∧ okFn Try.prog fid fn v70 = true := ⟨Try.f20, Try.func20, by kernel_rfl⟩
theorem ok_75 : ∃ fn, Try.prog.funcs[fid 75]? = some fn ∧ okFn Try.prog fid fn v75 = true := ⟨Try.f105, Try.func105, by kernel_rfl⟩
theorem ok_77 : ∃ fn, Try.prog.funcs[fid 77]? = some fn ∧ okFn Try.prog fid fn v77 = true := ⟨Try.f63, Try.func63, by kernel_rfl⟩
theorem ok_78 : ∃ fn, Try.prog.funcs[fid 78]? = some fn ∧ okFn Try.prog fid fn v78 = true := ⟨Try.f65, Try.func65, by kernel_rfl⟩
theorem ok_79 : ∃ fn, Try.prog.funcs[fid 79]? = some fn ∧ okFn Try.prog fid fn v79 = true := ⟨Try.f72, Try.func72, by kernel_rfl⟩
theorem ok_80 : ∃ fn, Try.prog.funcs[fid 80]? = some fn ∧ okFn Try.prog fid fn v80 = true := ⟨Try.f21, Try.func21, by kernel_rfl⟩
theorem ok_82 : ∃ fn, Try.prog.funcs[fid 82]? = some fn ∧ okFn Try.prog fid fn v82 = true := ⟨Try.f66, Try.func66, by kernel_rfl⟩
theorem ok_83 : ∃ fn, Try.prog.funcs[fid 83]? = some fn ∧ okFn Try.prog fid fn v83 = true := ⟨Try.f68, Try.func68, by kernel_rfl⟩
theorem ok_84 : ∃ fn, Try.prog.funcs[fid 84]? = some fn ∧ okFn Try.prog fid fn v84 = true := ⟨Try.f76, Try.func76, by kernel_rfl⟩
theorem ok_117 : ∃ fn, Try.prog.funcs[fid 117]? = some fn ∧ okFn Try.prog fid fn v117 = true := ⟨Try.f23, Try.func23, by kernel_rfl⟩
theorem ok_118 : ∃ fn, Try.prog.funcs[fid 118]? = some fn ∧ okFn Try.prog fid fn v118 = true := ⟨Try.f22, Try.func22, by kernel_rfl⟩
theorem ok_133 : ∃ fn, Try.prog.funcs[fid 133]? = some fn ∧ okFn Try.prog fid fn v133 = true := ⟨Try.f9, Try.func9, by kernel_rfl⟩
theorem ok_147 : ∃ fn, Try.prog.funcs[fid 147]? = some fn ∧ okFn Try.prog fid fn v147 = true := ⟨Try.f92, Try.func92, by kernel_rfl⟩
theorem ok_153 : ∃ fn, Try.prog.funcs[fid 153]? = some fn ∧ okFn Try.prog fid fn v153 = true := ⟨Try.f15, Try.func15, by kernel_rfl⟩
theorem ok_154 : ∃ fn, Try.prog.funcs[fid 154]? = some fn ∧ okFn Try.prog fid fn v154 = true := ⟨Try.f59, Try.func59, by kernel_rfl⟩
theorem ok_155 : ∃ fn, Try.prog.funcs[fid 155]? = some fn ∧ okFn Try.prog fid fn v155 = true := ⟨Try.f49, Try.func49, by kernel_rfl⟩
theorem ok_156 : ∃ fn, Try.prog.funcs[fid 156]? = some fn ∧ okFn Try.prog fid fn v156 = true := ⟨Try.f47, Try.func47, by kernel_rfl⟩
theorem ok_159 : ∃ fn, Try.prog.funcs[fid 159]? = some fn ∧ okFn Try.prog fid fn v159 = true := ⟨Try.f54, Try.func54, by kernel_rfl⟩
theorem ok_160 : ∃ fn, Try.prog.funcs[fid 160]? = some fn ∧ okFn Try.prog fid fn v160 = true := ⟨Try.f55, Try.func55, by kernel_rfl⟩
theorem ok_161 : ∃ fn, Try.prog.funcs[fid 161]? = some fn ∧ okFn Try.prog fid fn v161 = true := ⟨Try.f80, Try.func80, by kernel_rfl⟩
theorem ok_162 : ∃ fn, Try.prog.funcs[fid 162]? = some fn ∧ okFn Try.prog fid fn v162 = true := ⟨Try.f48, Try.func48, by kernel_rfl⟩
theorem ok_163 : ∃ fn, Try.prog.funcs[fid 163]? = some fn ∧ okFn Try.prog fid fn v163 = true := ⟨Try.f85, Try.func85, by kernel_rfl⟩
theorem ok_164 : ∃ fn, Try.prog.funcs[fid 164]? = some fn ∧ okFn Try.prog fid fn v164 = true := ⟨Try.f61, Try.func61, by kernel_rfl⟩
theorem ok_165 : ∃ fn, Try.prog.funcs[fid 165]? = some fn ∧ okFn Try.prog fid fn v165 = true := ⟨Try.f100, Try.func100, by kernel_rfl⟩
theorem ok_166 : ∃ fn, Try.prog.funcs[fid 166]? = some fn ∧ okFn Try.prog fid fn v166 = true := ⟨Try.f50, Try.func50, by kernel_rfl⟩
theorem ok_169 : ∃ fn, Try.prog.funcs[fid 169]? = some fn ∧ okFn Try.prog fid fn v169 = true := ⟨Try.f11, Try.func11, by kernel_rfl⟩
theorem ok_170 : ∃ fn, Try.prog.funcs[fid 170]? = some fn ∧ okFn Try.prog fid fn v170 = true := ⟨Try.f52, Try.func52, by kernel_rfl⟩
theorem ok_171 : ∃ fn, Try.prog.funcs[fid 171]? = some fn ∧ okFn Try.prog fid fn v171 = true := ⟨Try.f99, Try.func99, by kernel_rfl⟩
theorem ok_172 : ∃ fn, Try.prog.funcs[fid 172]? = some fn ∧ okFn Try.prog fid fn v172 = true := ⟨Try.f118, Try.func118, by kernel_rfl⟩
theorem ok_173 : ∃ fn, Try.prog.funcs[fid 173]? = some fn ∧ okFn Try.prog fid fn v173 = true := ⟨Try.f119, Try.func119, by kernel_rfl⟩
theorem ok_174 : ∃ fn, Try.prog.funcs[fid 174]? = some fn ∧ okFn Try.prog fid fn v174 = true := ⟨Try.f132, Try.func132, by kernel_rfl⟩
theorem ok_175 : ∃ fn, Try.prog.funcs[fid 175]? = some fn ∧ okFn Try.prog fid fn v175 = true := ⟨Try.f139, Try.func139, by kernel_rfl⟩
theorem ok_194 : ∃ fn, Try.prog.funcs[fid 194]? = some fn ∧ okFn Try.prog fid fn v194 = true := ⟨Try.f51, Try.func51, by kernel_rfl⟩
theorem ok_195 : ∃ fn, Try.prog.funcs[fid 195]? = some fn ∧ okFn Try.prog fid fn v195 = true := ⟨Try.f98, Try.func98, by kernel_rfl⟩
theorem ok_196 : ∃ fn, Try.prog.funcs[fid 196]? = some fn ∧ okFn Try.prog fid fn v196 = true := ⟨Try.f117, Try.func117, by kernel_rfl⟩
theorem ok_366 : ∃ fn, Try.prog.funcs[fid 366]? = some fn ∧ okFn Try.prog fid fn v366 = true := ⟨Try.f4, Try.func4, by kernel_rfl⟩
theorem ok_367 : ∃ fn, Try.prog.funcs[fid 367]? = some fn ∧ okFn Try.prog fid fn v367 = true := ⟨Try.f18, Try.func18, by kernel_rfl⟩
theorem ok_368 : ∃ fn, Try.prog.funcs[fid 368]? = some fn ∧ okFn Try.prog fid fn v368 = true := ⟨Try.f19, Try.func19, by kernel_rfl⟩
theorem look_mem : ∀ {l : List (Nat × VFn)} {k : Nat} {v : VFn}, look l k = some v → (k, v) ∈ l
  | [], _, _, h => by simp [look] at h
  | (a, u) :: r, k, v, h => by
    simp only [look] at h
    split at h
    · rename_i hk
      simp at h; subst h; subst hk; simp
    · exact List.mem_cons_of_mem _ (look_mem h)
theorem bases_ok : codes.all (fun q => baseOK (lookB bases q.1) q.2.code) = true := by kernel_rfl
theorem codes_ok : ∀ q, q ∈ codes → ∃ fn, Try.prog.funcs[fid q.1]? = some fn ∧ okFn Try.prog fid fn q.2 = true :=
  List.forall_mem_cons.2 ⟨ok_3, List.forall_mem_cons.2 ⟨ok_4, List.forall_mem_cons.2 ⟨ok_6, List.forall_mem_cons.2 ⟨ok_13, List.forall_mem_cons.2 ⟨ok_14, List.forall_mem_cons.2 ⟨ok_18, List.forall_mem_cons.2 ⟨ok_19, List.forall_mem_cons.2 ⟨ok_22, List.forall_mem_cons.2 ⟨ok_23, List.forall_mem_cons.2 ⟨ok_24, List.forall_mem_cons.2 ⟨ok_25, List.forall_mem_cons.2 ⟨ok_29, List.forall_mem_cons.2 ⟨ok_30, List.forall_mem_cons.2 ⟨ok_31, List.forall_mem_cons.2 ⟨ok_33, List.forall_mem_cons.2 ⟨ok_34, List.forall_mem_cons.2 ⟨ok_59, List.forall_mem_cons.2 ⟨ok_60, List.forall_mem_cons.2 ⟨ok_61, List.forall_mem_cons.2 ⟨ok_62, List.forall_mem_cons.2 ⟨ok_70, List.forall_mem_cons.2 ⟨ok_75, List.forall_mem_cons.2 ⟨ok_77, List.forall_mem_cons.2 ⟨ok_78, List.forall_mem_cons.2 ⟨ok_79, List.forall_mem_cons.2 ⟨ok_80, List.forall_mem_cons.2 ⟨ok_82, List.forall_mem_cons.2 ⟨ok_83, List.forall_mem_cons.2 ⟨ok_84, List.forall_mem_cons.2 ⟨ok_117, List.forall_mem_cons.2 ⟨ok_118, List.forall_mem_cons.2 ⟨ok_133, List.forall_mem_cons.2 ⟨ok_147, List.forall_mem_cons.2 ⟨ok_153, List.forall_mem_cons.2 ⟨ok_154, List.forall_mem_cons.2 ⟨ok_155, List.forall_mem_cons.2 ⟨ok_156, List.forall_mem_cons.2 ⟨ok_159, List.forall_mem_cons.2 ⟨ok_160, List.forall_mem_cons.2 ⟨ok_161, List.forall_mem_cons.2 ⟨ok_162, List.forall_mem_cons.2 ⟨ok_163, List.forall_mem_cons.2 ⟨ok_164, List.forall_mem_cons.2 ⟨ok_165, List.forall_mem_cons.2 ⟨ok_166, List.forall_mem_cons.2 ⟨ok_170, List.forall_mem_cons.2 ⟨ok_171, List.forall_mem_cons.2 ⟨ok_172, List.forall_mem_cons.2 ⟨ok_173, List.forall_mem_cons.2 ⟨ok_174, List.forall_mem_cons.2 ⟨ok_175, List.forall_mem_cons.2 ⟨ok_194, List.forall_mem_cons.2 ⟨ok_195, List.forall_mem_cons.2 ⟨ok_196, List.forall_mem_cons.2 ⟨ok_366, List.forall_mem_cons.2 ⟨ok_367, List.forall_mem_cons.2 ⟨ok_368, List.forall_mem_nil _⟩⟩⟩⟩⟩⟩⟩⟩⟩⟩⟩⟩⟩⟩⟩⟩⟩⟩⟩⟩⟩⟩⟩⟩⟩⟩⟩⟩⟩⟩⟩⟩⟩⟩⟩⟩⟩⟩⟩⟩⟩⟩⟩⟩⟩⟩⟩⟩⟩⟩⟩⟩⟩⟩⟩⟩⟩
end Go.Proofs.Ytfiakfiocdfpbaa.VS
