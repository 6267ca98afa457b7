/- Which registers of each function may own rows; the functions for the evaluator without names. -/
import Derived.Test.YtfiakfiocdfpbaaNat2
import Derived.Test.YtfiakfiocdfpbaaCode
import Derived.KernelRfl
namespace Go.Proofs.Ytfiakfiocdfpbaa.VS
set_option linter.unusedVariables false
def lins : List (Nat × List Nat) := [(25, [15]), (78, [70]), (118, [28]), (147, [4]), (153, [13, 27, 36, 41, 42, 51, 52, 53, 54, 63, 64, 65, 67]), (154, [0, 1, 4, 6, 22, 25, 26, 27, 28, 29, 30, 31, 34, 35]), (155, [0, 8]), (156, [28, 30]), (161, [7, 60, 62, 64, 65, 72, 73]), (163, [9]), (164, [6, 7]), (166, [8, 24, 28, 36, 37, 40, 45, 46, 47, 50]), (169, [5, 8, 15, 18, 30, 32, 33, 34, 35, 36, 37, 45, 47]), (172, [46, 50]), (173, [70, 74, 122, 126]), (175, [29, 35]), (194, [2, 9, 13, 14, 15, 16]), (195, [2, 3, 4, 40, 46, 47, 48]), (366, [9, 11, 13, 14, 16, 18]), (367, [2, 4, 6, 8, 9, 10, 11, 12]), (368, [2, 4, 6, 8, 9, 10, 11, 12])]
def linOf : List (Nat × List Nat) → Nat → List Nat
  | [], _ => []
  | (k, v) :: r, n => if n = k then v else linOf r n
noncomputable def XV : XEnv := ⟨E, linOf lins, lookN nats⟩
@[simp] theorem lin_3 : XV.lin 3 = [] := by kernel_rfl
theorem xcode_3 : XV.env.code 3 = some v3 := by kernel_rfl
@[simp] theorem lin_4 : XV.lin 4 = [] := by kernel_rfl
theorem xcode_4 : XV.env.code 4 = some v4 := by kernel_rfl
@[simp] theorem lin_6 : XV.lin 6 = [] := by kernel_rfl
theorem xcode_6 : XV.env.code 6 = some v6 := by kernel_rfl
@[simp] theorem lin_13 : XV.lin 13 = [] := by kernel_rfl
theorem xcode_13 : XV.env.code 13 = some v13 := by kernel_rfl
@[simp] theorem lin_14 : XV.lin 14 = [] := by kernel_rfl
theorem xcode_14 : XV.env.code 14 = some v14 := by kernel_rfl
@[simp] theorem lin_18 : XV.lin 18 = [] := by kernel_rfl
theorem xcode_18 : XV.env.code 18 = some v18 := by kernel_rfl
@[simp] theorem lin_19 : XV.lin 19 = [] := by kernel_rfl
theorem xcode_19 : XV.env.code 19 = some v19 := by kernel_rfl
@[simp] theorem lin_22 : XV.lin 22 = [] := by kernel_rfl
theorem xcode_22 : XV.env.code 22 = some v22 := by kernel_rfl
@[simp] theorem lin_23 : XV.lin 23 = [] := by kernel_rfl
theorem xcode_23 : XV.env.code 23 = some v23 := by kernel_rfl
@[simp] theorem lin_24 : XV.lin 24 = [] := by kernel_rfl
theorem xcode_24 : XV.env.code 24 = some v24 := by kernel_rfl
@[simp] theorem lin_25 : XV.lin 25 = [15] := by kernel_rfl
theorem xcode_25 : XV.env.code 25 = some v25 := by kernel_rfl
@[simp] theorem lin_29 : XV.lin 29 = [] := by kernel_rfl
theorem xcode_29 : XV.env.code 29 = some v29 := by kernel_rfl
@[simp] theorem lin_30 : XV.lin 30 = [] := by kernel_rfl
theorem xcode_30 : XV.env.code 30 = some v30 := by kernel_rfl
@[simp] theorem lin_31 : XV.lin 31 = [] := by kernel_rfl
theorem xcode_31 : XV.env.code 31 = some v31 := by kernel_rfl
@[simp] theorem lin_33 : XV.lin 33 = [] := by kernel_rfl
theorem xcode_33 : XV.env.code 33 = some v33 := by kernel_rfl
@[simp] theorem lin_34 : XV.lin 34 = [] := by kernel_rfl
theorem xcode_34 : XV.env.code 34 = some v34 := by kernel_rfl
@[simp] theorem lin_59 : XV.lin 59 = [] := by kernel_rfl
theorem xcode_59 : XV.env.code 59 = some v59 := by kernel_rfl
@[simp] theorem lin_60 : XV.lin 60 = [] := by kernel_rfl
theorem xcode_60 : XV.env.code 60 = some v60 := by kernel_rfl
@[simp] theorem lin_61 : XV.lin 61 = [] := by kernel_rfl
theorem xcode_61 : XV.env.code 61 = some v61 := by kernel_rfl
@[simp] theorem lin_62 : XV.lin 62 = [] := by kernel_rfl
theorem xcode_62 : XV.env.code 62 = some v62 := by kernel_rfl
@[simp] theorem lin_70 : XV.lin 70 = [] := by kernel_rfl
theorem xcode_70 : XV.env.code 70 = some v70 := by kernel_rfl
@[simp] theorem lin_75 : XV.lin 75 = [] := by kernel_rfl
theorem xcode_75 : XV.env.code 75 = some v75 := by kernel_rfl
@[simp] theorem lin_77 : XV.lin 77 = [] := by kernel_rfl
theorem xcode_77 : XV.env.code 77 = some v77 := by kernel_rfl
@[simp] theorem lin_78 : XV.lin 78 = [70] := by kernel_rfl
theorem xcode_78 : XV.env.code 78 = some v78 := by kernel_rfl
@[simp] theorem lin_79 : XV.lin 79 = [] := by kernel_rfl
theorem xcode_79 : XV.env.code 79 = some v79 := by kernel_rfl
@[simp] theorem lin_80 : XV.lin 80 = [] := by kernel_rfl
theorem xcode_80 : XV.env.code 80 = some v80 := by kernel_rfl
@[simp] theorem lin_82 : XV.lin 82 = [] := by kernel_rfl
theorem xcode_82 : XV.env.code 82 = some v82 := by kernel_rfl
@[simp] theorem lin_83 : XV.lin 83 = [] := by kernel_rfl
theorem xcode_83 : XV.env.code 83 = some v83 := by kernel_rfl
@[simp] theorem lin_84 : XV.lin 84 = [] := by kernel_rfl
theorem xcode_84 : XV.env.code 84 = some v84 := by kernel_rfl
@[simp] theorem lin_117 : XV.lin 117 = [] := by kernel_rfl
theorem xcode_117 : XV.env.code 117 = some v117 := by kernel_rfl
@[simp] theorem lin_118 : XV.lin 118 = [28] := by kernel_rfl
theorem xcode_118 : XV.env.code 118 = some v118 := by kernel_rfl
@[simp] theorem lin_133 : XV.lin 133 = [] := by kernel_rfl
theorem xcode_133 : XV.env.code 133 = some v133 := by kernel_rfl
@[simp] theorem lin_147 : XV.lin 147 = [4] := by kernel_rfl
theorem xcode_147 : XV.env.code 147 = some v147 := by kernel_rfl
@[simp] theorem lin_153 : XV.lin 153 = [13, 27, 36, 41, 42, 51, 52, 53, 54, 63, 64, 65, 67] := by kernel_rfl
theorem xcode_153 : XV.env.code 153 = some v153 := by kernel_rfl
@[simp] theorem lin_154 : XV.lin 154 = [0, 1, 4, 6, 22, 25, 26, 27, 28, 29, 30, 31, 34, 35] := by kernel_rfl
theorem xcode_154 : XV.env.code 154 = some v154 := by kernel_rfl
@[simp] theorem lin_155 : XV.lin 155 = [0, 8] := by kernel_rfl
theorem xcode_155 : XV.env.code 155 = some v155 := by kernel_rfl
@[simp] theorem lin_156 : XV.lin 156 = [28, 30] := by kernel_rfl
theorem xcode_156 : XV.env.code 156 = some v156 := by kernel_rfl
@[simp] theorem lin_159 : XV.lin 159 = [] := by kernel_rfl
theorem xcode_159 : XV.env.code 159 = some v159 := by kernel_rfl
@[simp] theorem lin_160 : XV.lin 160 = [] := by kernel_rfl
theorem xcode_160 : XV.env.code 160 = some v160 := by kernel_rfl
@[simp] theorem lin_161 : XV.lin 161 = [7, 60, 62, 64, 65, 72, 73] := by kernel_rfl
theorem xcode_161 : XV.env.code 161 = some v161 := by kernel_rfl
@[simp] theorem lin_162 : XV.lin 162 = [] := by kernel_rfl
theorem xcode_162 : XV.env.code 162 = some v162 := by kernel_rfl
@[simp] theorem lin_163 : XV.lin 163 = [9] := by kernel_rfl
theorem xcode_163 : XV.env.code 163 = some v163 := by kernel_rfl
@[simp] theorem lin_164 : XV.lin 164 = [6, 7] := by kernel_rfl
theorem xcode_164 : XV.env.code 164 = some v164 := by kernel_rfl
@[simp] theorem lin_165 : XV.lin 165 = [] := by kernel_rfl
theorem xcode_165 : XV.env.code 165 = some v165 := by kernel_rfl
@[simp] theorem lin_166 : XV.lin 166 = [8, 24, 28, 36, 37, 40, 45, 46, 47, 50] := by kernel_rfl
theorem xcode_166 : XV.env.code 166 = some v166 := by kernel_rfl
@[simp] theorem lin_170 : XV.lin 170 = [] := by kernel_rfl
theorem xcode_170 : XV.env.code 170 = some v170 := by kernel_rfl
@[simp] theorem lin_171 : XV.lin 171 = [] := by kernel_rfl
theorem xcode_171 : XV.env.code 171 = some v171 := by kernel_rfl
@[simp] theorem lin_172 : XV.lin 172 = [46, 50] := by kernel_rfl
theorem xcode_172 : XV.env.code 172 = some v172 := by kernel_rfl
@[simp] theorem lin_173 : XV.lin 173 = [70, 74, 122, 126] := by kernel_rfl
theorem xcode_173 : XV.env.code 173 = some v173 := by kernel_rfl
@[simp] theorem lin_174 : XV.lin 174 = [] := by kernel_rfl
theorem xcode_174 : XV.env.code 174 = some v174 := by kernel_rfl
@[simp] theorem lin_175 : XV.lin 175 = [29, 35] := by kernel_rfl
theorem xcode_175 : XV.env.code 175 = some v175 := by kernel_rfl
@[simp] theorem lin_194 : XV.lin 194 = [2, 9, 13, 14, 15, 16] := by kernel_rfl
theorem xcode_194 : XV.env.code 194 = some v194 := by kernel_rfl
@[simp] theorem lin_195 : XV.lin 195 = [2, 3, 4, 40, 46, 47, 48] := by kernel_rfl
theorem xcode_195 : XV.env.code 195 = some v195 := by kernel_rfl
@[simp] theorem lin_196 : XV.lin 196 = [] := by kernel_rfl
theorem xcode_196 : XV.env.code 196 = some v196 := by kernel_rfl
@[simp] theorem lin_366 : XV.lin 366 = [9, 11, 13, 14, 16, 18] := by kernel_rfl
theorem xcode_366 : XV.env.code 366 = some v366 := by kernel_rfl
@[simp] theorem lin_367 : XV.lin 367 = [2, 4, 6, 8, 9, 10, 11, 12] := by kernel_rfl
theorem xcode_367 : XV.env.code 367 = some v367 := by kernel_rfl
@[simp] theorem lin_368 : XV.lin 368 = [2, 4, 6, 8, 9, 10, 11, 12] := by kernel_rfl
theorem xcode_368 : XV.env.code 368 = some v368 := by kernel_rfl
@[simp] theorem lin_169 : XV.lin 169 = [5, 8, 15, 18, 30, 32, 33, 34, 35, 36, 37, 45, 47] := by kernel_rfl
theorem xnone_169 : XV.env.code 169 = none := by kernel_rfl
theorem xspec_169 : XV.env.spec 169 = some s169 := by kernel_rfl
theorem d3_6 (X : XEnv) (T : List Nat) (na : Nat) (live : List Nat) (r : List (Nat × AV)) (B : Boxs) : codeX X T (.region true na live r3_6) ⟨r, B⟩ = xEnd live (xOps (callX X) X.lin T true B.length [
  ⟨some 34, .fieldAddr 2 (.t 2), none, []⟩,
  ⟨some 35, .load false 1 (.t 34), none, [0]⟩,
  ⟨some 36, .move (.t 5), none, []⟩,
  ⟨some 37, .indexAddr 3 none (.t 35) (.t 36), none, [1, 2]⟩,
  ⟨some 38, .load true 3 (.t 37), none, [3]⟩,
  ⟨some 39, .fieldAddr 2 (.t 3), none, []⟩,
  ⟨some 40, .load false 1 (.t 39), none, [5]⟩,
  ⟨some 41, .move (.t 5), none, []⟩,
  ⟨some 42, .indexAddr 3 none (.t 40) (.t 41), none, [6, 7]⟩,
  ⟨some 43, .load true 3 (.t 42), none, [8]⟩,
  ⟨some 44, .call true (.c (.fn 3 [])) [.t 38, .t 43], none, [4, 9]⟩,
  ⟨some 45, .not (.t 44), none, [10]⟩] ⟨r, B ++ List.replicate na none⟩) := z_draw X T na live r3_6 (by kernel_rfl) r B
theorem d6_12 (X : XEnv) (T : List Nat) (na : Nat) (live : List Nat) (r : List (Nat × AV)) (B : Boxs) : codeX X T (.region true na live r6_12) ⟨r, B⟩ = xEnd live (xOps (callX X) X.lin T true B.length [
  ⟨some 51, .fieldAddr 2 (.t 2), none, []⟩,
  ⟨some 52, .load false 1 (.t 51), none, [0]⟩,
  ⟨some 53, .move (.t 7), none, []⟩,
  ⟨some 54, .indexAddr 3 none (.t 52) (.t 53), none, [1, 2]⟩,
  ⟨some 55, .load true 3 (.t 54), none, [3]⟩,
  ⟨some 56, .fieldAddr 2 (.t 3), none, []⟩,
  ⟨some 57, .load false 1 (.t 56), none, [5]⟩,
  ⟨some 58, .move (.t 7), none, []⟩,
  ⟨some 59, .indexAddr 3 none (.t 57) (.t 58), none, [6, 7]⟩,
  ⟨some 60, .load true 3 (.t 59), none, [8]⟩,
  ⟨some 61, .call true (.c (.fn 6 [])) [.t 55, .t 60], none, [4, 9]⟩,
  ⟨some 8, .move (.t 61), none, [0, 1, 2, 3, 4, 5, 6, 7, 8, 9, 10]⟩] ⟨r, B ++ List.replicate na none⟩) := z_draw X T na live r6_12 (by kernel_rfl) r B
theorem d78_3 (X : XEnv) (T : List Nat) (na : Nat) (live : List Nat) (r : List (Nat × AV)) (B : Boxs) : codeX X T (.region true na live r78_3) ⟨r, B⟩ = xEnd live (xOps (callX X) X.lin T true B.length [
  ⟨some 18, .move (.t 0), none, []⟩,
  ⟨some 19, .fieldAddr 0 (.t 3), none, []⟩,
  ⟨some 20, .load false 1 (.t 19), none, [1]⟩,
  ⟨some 21, .call true (.c (.fn 29 [])) [.t 18, .t 20], none, [0, 2]⟩,
  ⟨some 22, .not (.t 21), none, [3]⟩,
  ⟨some 23, .move (.t 22), none, [3, 4]⟩,
  ⟨some 24, .fieldAddr 1 (.t 3), some (23, false), [5]⟩,
  ⟨some 25, .load false 1 (.t 24), some (23, false), [5, 6]⟩,
  ⟨some 26, .bin .neq (.t 25) (.c (.d (.int .i64 0))), some (23, false), [5, 7]⟩,
  ⟨some 27, .pick (.t 23) (.c (.d (.bool true))) (.t 26), none, [5, 8]⟩,
  ⟨some 28, .move (.t 27), none, [5, 9]⟩,
  ⟨some 29, .move (.t 0), some (28, false), [10]⟩,
  ⟨some 30, .fieldAddr 0 (.t 3), some (28, false), [10]⟩,
  ⟨some 31, .load false 1 (.t 30), some (28, false), [10, 12]⟩,
  ⟨some 32, .indexAddr 3 none (.t 29) (.t 31), some (28, false), [10, 11, 13]⟩,
  ⟨some 33, .fieldAddr 2 (.t 32), some (28, false), [10, 14]⟩,
  ⟨some 34, .load false 1 (.t 33), some (28, false), [10, 15]⟩,
  ⟨some 35, .not (.t 34), some (28, false), [10, 16]⟩,
  ⟨some 36, .move (.t 35), some (28, false), [10, 17]⟩,
  ⟨some 37, .fieldAddr 2 (.t 3), some (36, true), [18]⟩,
  ⟨some 38, .load false 1 (.t 37), some (36, true), [18, 19]⟩,
  ⟨some 39, .len false (.t 38), some (36, true), [18, 20]⟩,
  ⟨some 40, .move (.t 0), some (36, true), [18]⟩,
  ⟨some 41, .fieldAddr 0 (.t 3), some (36, true), [18]⟩,
  ⟨some 42, .load false 1 (.t 41), some (36, true), [18, 23]⟩,
  ⟨some 43, .indexAddr 3 none (.t 40) (.t 42), some (36, true), [18, 22, 24]⟩,
  ⟨some 44, .fieldAddr 1 (.t 43), some (36, true), [18, 25]⟩,
  ⟨some 45, .load false 1 (.t 44), some (36, true), [18, 26]⟩,
  ⟨some 46, .bin .neq (.t 39) (.t 45), some (36, true), [18, 21, 27]⟩,
  ⟨some 47, .pick (.t 36) (.t 46) (.c (.d (.bool false))), some (28, false), [10, 18, 28]⟩,
  ⟨some 48, .pick (.t 28) (.c (.d (.bool true))) (.t 47), none, [10, 29]⟩,
  ⟨some 49, .move (.t 48), none, [18, 30]⟩,
  ⟨some 50, .move (.t 0), some (49, false), [31]⟩,
  ⟨some 51, .fieldAddr 0 (.t 3), some (49, false), [31]⟩,
  ⟨some 52, .load false 1 (.t 51), some (49, false), [31, 33]⟩,
  ⟨some 53, .indexAddr 3 none (.t 50) (.t 52), some (49, false), [31, 32, 34]⟩,
  ⟨some 54, .fieldAddr 2 (.t 53), some (49, false), [31, 35]⟩,
  ⟨some 55, .load false 1 (.t 54), some (49, false), [31, 36]⟩,
  ⟨some 56, .move (.t 55), some (49, false), [31, 37]⟩,
  ⟨some 57, .fieldAddr 2 (.t 3), some (56, true), [38]⟩,
  ⟨some 58, .load false 1 (.t 57), some (56, true), [38, 39]⟩,
  ⟨some 59, .len false (.t 58), some (56, true), [38, 40]⟩,
  ⟨some 60, .bin .lss (.t 59) (.c (.d (.int .i64 2))), some (56, true), [38, 41]⟩,
  ⟨some 61, .pick (.t 56) (.t 60) (.c (.d (.bool false))), some (49, false), [31, 38, 42]⟩,
  ⟨some 62, .pick (.t 49) (.c (.d (.bool true))) (.t 61), none, [31, 43]⟩] ⟨r, B ++ List.replicate na none⟩) := z_draw X T na live r78_3 (by kernel_rfl) r B
theorem d78_8 (X : XEnv) (T : List Nat) (na : Nat) (live : List Nat) (r : List (Nat × AV)) (B : Boxs) : codeX X T (.region true na live r78_8) ⟨r, B⟩ = xEnd live (xOps (callX X) X.lin T true B.length [
  ⟨some 71, .move (.t 0), none, []⟩,
  ⟨some 72, .load true 3 (.t 6), none, []⟩,
  ⟨some 73, .call true (.c (.fn 78 [])) [.t 71, .t 72], none, [0, 1]⟩,
  ⟨some 74, .not (.t 73), none, [2]⟩,
  ⟨some 75, .move (.t 74), none, [2, 3]⟩,
  ⟨some 76, .move (.t 0), some (75, false), [4]⟩,
  ⟨some 77, .fieldAddr 0 (.t 3), some (75, false), [4]⟩,
  ⟨some 78, .load false 1 (.t 77), some (75, false), [4, 6]⟩,
  ⟨some 79, .indexAddr 3 none (.t 76) (.t 78), some (75, false), [4, 5, 7]⟩,
  ⟨some 80, .fieldAddr 2 (.t 79), some (75, false), [4, 8]⟩,
  ⟨some 81, .load false 1 (.t 80), some (75, false), [4, 9]⟩,
  ⟨some 82, .move (.t 81), some (75, false), [4, 10]⟩,
  ⟨some 83, .fieldAddr 0 (.t 6), some (82, true), [11]⟩,
  ⟨some 84, .load false 1 (.t 83), some (82, true), [11, 12]⟩,
  ⟨some 85, .fieldAddr 0 (.t 3), some (82, true), [11]⟩,
  ⟨some 86, .load false 1 (.t 85), some (82, true), [11, 14]⟩,
  ⟨some 87, .bin .eql (.t 84) (.t 86), some (82, true), [11, 13, 15]⟩,
  ⟨some 88, .move (.t 87), some (82, true), [11, 16]⟩,
  ⟨some 89, .move (.t 5), some (88, false), [17]⟩,
  ⟨some 90, .bin .gtr (.t 89) (.c (.d (.int .i64 0))), some (88, false), [17, 18]⟩,
  ⟨some 91, .move (.t 90), some (88, false), [17, 19]⟩,
  ⟨some 92, .load true 3 (.t 6), some (91, true), [20]⟩,
  ⟨some 93, .fieldAddr 2 (.t 3), some (91, true), [20]⟩,
  ⟨some 94, .load false 1 (.t 93), some (91, true), [20, 22]⟩,
  ⟨some 95, .move (.t 5), some (91, true), [20]⟩,
  ⟨some 96, .bin .sub (.t 95) (.c (.d (.int .i64 1))), some (91, true), [20, 24]⟩,
  ⟨some 97, .indexAddr 3 none (.t 94) (.t 96), some (91, true), [20, 23, 25]⟩,
  ⟨some 98, .load true 3 (.t 97), some (91, true), [20, 26]⟩,
  ⟨some 99, .call true (.c (.fn 79 [])) [.t 92, .t 98], some (91, true), [20, 21, 27]⟩,
  ⟨some 100, .pick (.t 91) (.t 99) (.c (.d (.bool false))), some (88, false), [17, 20, 28]⟩,
  ⟨some 101, .pick (.t 88) (.c (.d (.bool true))) (.t 100), some (82, true), [11, 17, 29]⟩,
  ⟨some 102, .pick (.t 82) (.t 101) (.c (.d (.bool false))), some (75, false), [4, 11, 30]⟩,
  ⟨some 103, .pick (.t 75) (.c (.d (.bool true))) (.t 102), none, [4, 31]⟩] ⟨r, B ++ List.replicate na none⟩) := z_draw X T na live r78_8 (by kernel_rfl) r B
theorem d83_3 (X : XEnv) (T : List Nat) (na : Nat) (live : List Nat) (r : List (Nat × AV)) (B : Boxs) : codeX X T (.region true na live r83_3) ⟨r, B⟩ = xEnd live (xOps (callX X) X.lin T true B.length [
  ⟨some 18, .fieldAddr 0 (.t 3), none, []⟩,
  ⟨some 19, .load false 1 (.t 18), none, [0]⟩,
  ⟨some 20, .move (.t 0), none, []⟩,
  ⟨some 21, .len false (.t 20), none, [2]⟩,
  ⟨some 22, .bin .sub (.t 21) (.c (.d (.int .i64 1))), none, [3]⟩,
  ⟨some 23, .call true (.c (.fn 31 [])) [.t 19, .c (.d (.int .i64 0)), .t 22], none, [1, 4]⟩,
  ⟨some 24, .not (.t 23), none, [5]⟩,
  ⟨some 25, .move (.t 24), none, [5, 6]⟩,
  ⟨some 26, .fieldAddr 1 (.t 3), some (25, false), [7]⟩,
  ⟨some 27, .load false 1 (.t 26), some (25, false), [7, 8]⟩,
  ⟨some 28, .bin .neq (.t 27) (.c (.d (.int .i64 0))), some (25, false), [7, 9]⟩,
  ⟨some 29, .pick (.t 25) (.c (.d (.bool true))) (.t 28), none, [7, 10]⟩,
  ⟨some 30, .move (.t 29), none, [7, 11]⟩,
  ⟨some 31, .move (.t 0), some (30, false), [12]⟩,
  ⟨some 32, .fieldAddr 0 (.t 3), some (30, false), [12]⟩,
  ⟨some 33, .load false 1 (.t 32), some (30, false), [12, 14]⟩,
  ⟨some 34, .indexAddr 3 none (.t 31) (.t 33), some (30, false), [12, 13, 15]⟩,
  ⟨some 35, .fieldAddr 2 (.t 34), some (30, false), [12, 16]⟩,
  ⟨some 36, .load false 1 (.t 35), some (30, false), [12, 17]⟩,
  ⟨some 37, .not (.t 36), some (30, false), [12, 18]⟩,
  ⟨some 38, .move (.t 37), some (30, false), [12, 19]⟩,
  ⟨some 39, .fieldAddr 2 (.t 3), some (38, true), [20]⟩,
  ⟨some 40, .load false 1 (.t 39), some (38, true), [20, 21]⟩,
  ⟨some 41, .len false (.t 40), some (38, true), [20, 22]⟩,
  ⟨some 42, .move (.t 0), some (38, true), [20]⟩,
  ⟨some 43, .fieldAddr 0 (.t 3), some (38, true), [20]⟩,
  ⟨some 44, .load false 1 (.t 43), some (38, true), [20, 25]⟩,
  ⟨some 45, .indexAddr 3 none (.t 42) (.t 44), some (38, true), [20, 24, 26]⟩,
  ⟨some 46, .fieldAddr 1 (.t 45), some (38, true), [20, 27]⟩,
  ⟨some 47, .load false 1 (.t 46), some (38, true), [20, 28]⟩,
  ⟨some 48, .bin .neq (.t 41) (.t 47), some (38, true), [20, 23, 29]⟩,
  ⟨some 49, .pick (.t 38) (.t 48) (.c (.d (.bool false))), some (30, false), [12, 20, 30]⟩,
  ⟨some 50, .pick (.t 30) (.c (.d (.bool true))) (.t 49), none, [12, 31]⟩,
  ⟨some 51, .move (.t 50), none, [20, 32]⟩,
  ⟨some 52, .move (.t 0), some (51, false), [33]⟩,
  ⟨some 53, .fieldAddr 0 (.t 3), some (51, false), [33]⟩,
  ⟨some 54, .load false 1 (.t 53), some (51, false), [33, 35]⟩,
  ⟨some 55, .indexAddr 3 none (.t 52) (.t 54), some (51, false), [33, 34, 36]⟩,
  ⟨some 56, .fieldAddr 2 (.t 55), some (51, false), [33, 37]⟩,
  ⟨some 57, .load false 1 (.t 56), some (51, false), [33, 38]⟩,
  ⟨some 58, .move (.t 57), some (51, false), [33, 39]⟩,
  ⟨some 59, .fieldAddr 2 (.t 3), some (58, true), [40]⟩,
  ⟨some 60, .load false 1 (.t 59), some (58, true), [40, 41]⟩,
  ⟨some 61, .len false (.t 60), some (58, true), [40, 42]⟩,
  ⟨some 62, .bin .lss (.t 61) (.c (.d (.int .i64 2))), some (58, true), [40, 43]⟩,
  ⟨some 63, .pick (.t 58) (.t 62) (.c (.d (.bool false))), some (51, false), [33, 40, 44]⟩,
  ⟨some 64, .pick (.t 51) (.c (.d (.bool true))) (.t 63), none, [33, 45]⟩] ⟨r, B ++ List.replicate na none⟩) := z_draw X T na live r83_3 (by kernel_rfl) r B
theorem d83_8 (X : XEnv) (T : List Nat) (na : Nat) (live : List Nat) (r : List (Nat × AV)) (B : Boxs) : codeX X T (.region true na live r83_8) ⟨r, B⟩ = xEnd live (xOps (callX X) X.lin T true B.length [
  ⟨some 72, .move (.t 0), none, []⟩,
  ⟨some 73, .fieldAddr 0 (.t 3), none, []⟩,
  ⟨some 74, .load false 1 (.t 73), none, [1]⟩,
  ⟨some 75, .indexAddr 3 none (.t 72) (.t 74), none, [0, 2]⟩,
  ⟨some 76, .fieldAddr 2 (.t 75), none, [3]⟩,
  ⟨some 77, .load false 1 (.t 76), none, [4]⟩,
  ⟨some 78, .move (.t 77), none, [5]⟩,
  ⟨some 79, .fieldAddr 2 (.t 3), some (78, true), [6]⟩,
  ⟨some 80, .load false 1 (.t 79), some (78, true), [6, 7]⟩,
  ⟨some 81, .move (.t 5), some (78, true), [6]⟩,
  ⟨some 82, .indexAddr 3 none (.t 80) (.t 81), some (78, true), [6, 8, 9]⟩,
  ⟨some 83, .fieldAddr 0 (.t 82), some (78, true), [6, 10]⟩,
  ⟨some 84, .load false 1 (.t 83), some (78, true), [6, 11]⟩,
  ⟨some 85, .fieldAddr 0 (.t 3), some (78, true), [6]⟩,
  ⟨some 86, .load false 1 (.t 85), some (78, true), [6, 13]⟩,
  ⟨some 87, .bin .eql (.t 84) (.t 86), some (78, true), [6, 12, 14]⟩,
  ⟨some 88, .move (.t 87), some (78, true), [6, 15]⟩,
  ⟨some 89, .move (.t 5), some (88, false), [16]⟩,
  ⟨some 90, .bin .gtr (.t 89) (.c (.d (.int .i64 0))), some (88, false), [16, 17]⟩,
  ⟨some 91, .move (.t 90), some (88, false), [16, 18]⟩,
  ⟨some 92, .fieldAddr 2 (.t 3), some (91, true), [19]⟩,
  ⟨some 93, .load false 1 (.t 92), some (91, true), [19, 20]⟩,
  ⟨some 94, .move (.t 5), some (91, true), [19]⟩,
  ⟨some 95, .indexAddr 3 none (.t 93) (.t 94), some (91, true), [19, 21, 22]⟩,
  ⟨some 96, .load true 3 (.t 95), some (91, true), [19, 23]⟩,
  ⟨some 97, .fieldAddr 2 (.t 3), some (91, true), [19]⟩,
  ⟨some 98, .load false 1 (.t 97), some (91, true), [19, 25]⟩,
  ⟨some 99, .move (.t 5), some (91, true), [19]⟩,
  ⟨some 100, .bin .sub (.t 99) (.c (.d (.int .i64 1))), some (91, true), [19, 27]⟩,
  ⟨some 101, .indexAddr 3 none (.t 98) (.t 100), some (91, true), [19, 26, 28]⟩,
  ⟨some 102, .load true 3 (.t 101), some (91, true), [19, 29]⟩,
  ⟨some 103, .call true (.c (.fn 84 [])) [.t 96, .t 102], some (91, true), [19, 24, 30]⟩,
  ⟨some 104, .pick (.t 91) (.t 103) (.c (.d (.bool false))), some (88, false), [16, 19, 31]⟩,
  ⟨some 105, .pick (.t 88) (.c (.d (.bool true))) (.t 104), some (78, true), [6, 16, 32]⟩,
  ⟨some 106, .pick (.t 78) (.t 105) (.c (.d (.bool false))), none, [6, 33]⟩,
  ⟨some 107, .move (.t 106), none, [31, 34]⟩,
  ⟨some 108, .move (.t 0), some (107, false), [35]⟩,
  ⟨some 109, .fieldAddr 2 (.t 3), some (107, false), [35]⟩,
  ⟨some 110, .load false 1 (.t 109), some (107, false), [35, 37]⟩,
  ⟨some 111, .move (.t 5), some (107, false), [35]⟩,
  ⟨some 112, .indexAddr 3 none (.t 110) (.t 111), some (107, false), [35, 38, 39]⟩,
  ⟨some 113, .load true 3 (.t 112), some (107, false), [35, 40]⟩,
  ⟨some 114, .call true (.c (.fn 83 [])) [.t 108, .t 113], some (107, false), [35, 36, 41]⟩,
  ⟨some 115, .not (.t 114), some (107, false), [35, 42]⟩,
  ⟨some 116, .pick (.t 107) (.c (.d (.bool true))) (.t 115), none, [35, 43]⟩] ⟨r, B ++ List.replicate na none⟩) := z_draw X T na live r83_8 (by kernel_rfl) r B
theorem d84_10 (X : XEnv) (T : List Nat) (na : Nat) (live : List Nat) (r : List (Nat × AV)) (B : Boxs) : codeX X T (.region true na live r84_10) ⟨r, B⟩ = xEnd live (xOps (callX X) X.lin T true B.length [
  ⟨some 47, .fieldAddr 2 (.t 2), none, []⟩,
  ⟨some 48, .load false 1 (.t 47), none, [0]⟩,
  ⟨some 49, .move (.t 5), none, []⟩,
  ⟨some 50, .indexAddr 3 none (.t 48) (.t 49), none, [1, 2]⟩,
  ⟨some 51, .load true 3 (.t 50), none, [3]⟩,
  ⟨some 52, .fieldAddr 2 (.t 3), none, []⟩,
  ⟨some 53, .load false 1 (.t 52), none, [5]⟩,
  ⟨some 54, .move (.t 5), none, []⟩,
  ⟨some 55, .indexAddr 3 none (.t 53) (.t 54), none, [6, 7]⟩,
  ⟨some 56, .load true 3 (.t 55), none, [8]⟩,
  ⟨some 57, .call true (.c (.fn 3 [])) [.t 51, .t 56], none, [4, 9]⟩,
  ⟨some 58, .not (.t 57), none, [10]⟩] ⟨r, B ++ List.replicate na none⟩) := z_draw X T na live r84_10 (by kernel_rfl) r B
theorem d84_11 (X : XEnv) (T : List Nat) (na : Nat) (live : List Nat) (r : List (Nat × AV)) (B : Boxs) : codeX X T (.region true na live r84_11) ⟨r, B⟩ = xEnd live (xOps (callX X) X.lin T true B.length [
  ⟨some 59, .fieldAddr 2 (.t 2), none, []⟩,
  ⟨some 60, .load false 1 (.t 59), none, [0]⟩,
  ⟨some 61, .move (.t 5), none, []⟩,
  ⟨some 62, .indexAddr 3 none (.t 60) (.t 61), none, [1, 2]⟩,
  ⟨some 63, .load true 3 (.t 62), none, [3]⟩,
  ⟨some 64, .fieldAddr 2 (.t 3), none, []⟩,
  ⟨some 65, .load false 1 (.t 64), none, [5]⟩,
  ⟨some 66, .move (.t 5), none, []⟩,
  ⟨some 67, .indexAddr 3 none (.t 65) (.t 66), none, [6, 7]⟩,
  ⟨some 68, .load true 3 (.t 67), none, [8]⟩,
  ⟨some 69, .call true (.c (.fn 84 [])) [.t 63, .t 68], none, [4, 9]⟩,
  ⟨some 4, .move (.t 69), none, [0, 1, 2, 3, 4, 5, 6, 7, 8, 9, 10]⟩] ⟨r, B ++ List.replicate na none⟩) := z_draw X T na live r84_11 (by kernel_rfl) r B
theorem d153_9 (X : XEnv) (T : List Nat) (na : Nat) (live : List Nat) (r : List (Nat × AV)) (B : Boxs) : codeX X T (.regionF true na live r153_9) ⟨r, B⟩ = xEnd live (xFs (callX X) X.lin T true B.length [
  .one ⟨some 35, .fieldAddr 2 (.t 5), none, []⟩,
  .one ⟨some 36, .load false 1 (.t 35), none, [0]⟩,
  .one ⟨some 37, .fieldAddr 2 (.t 7), none, []⟩,
  .el 38 37 39 (.t 8) 40 3 41 [2] [] [3, 4] [5],
  .one ⟨some 42, .call false (.c (.fn 154 [])) [.t 36, .t 41], none, [1, 6]⟩,
  .one ⟨some 43, .fieldAddr 2 (.t 5), none, [0, 1, 2, 3, 4, 5, 6, 7]⟩,
  .one ⟨none, .store false 1 (.t 43) (.t 42), none, [0, 1, 2, 3, 4, 5, 6, 7, 8]⟩] ⟨r, B ++ List.replicate na none⟩) := z_drawF X T na live r153_9 (by kernel_rfl) r B
theorem d154_2 (X : XEnv) (T : List Nat) (na : Nat) (live : List Nat) (r : List (Nat × AV)) (B : Boxs) : codeX X T (.region true na live r154_2) ⟨r, B⟩ = xEnd live (xOps (callX X) X.lin T true B.length [
  ⟨some 7, .move (.t 5), none, []⟩,
  ⟨some 8, .move (.t 0), none, []⟩,
  ⟨some 9, .len false (.t 8), none, [1]⟩,
  ⟨some 10, .bin .lss (.t 7) (.t 9), none, [0, 2]⟩,
  ⟨some 11, .move (.t 10), none, [3]⟩,
  ⟨some 12, .load true 3 (.t 3), some (11, true), [4]⟩,
  ⟨some 13, .move (.t 0), some (11, true), [4]⟩,
  ⟨some 14, .move (.t 5), some (11, true), [4]⟩,
  ⟨some 15, .indexAddr 3 none (.t 13) (.t 14), some (11, true), [4, 6, 7]⟩,
  ⟨some 16, .load true 3 (.t 15), some (11, true), [4, 8]⟩,
  ⟨some 17, .call true (.c (.fn 84 [])) [.t 12, .t 16], some (11, true), [4, 5, 9]⟩,
  ⟨some 18, .not (.t 17), some (11, true), [4, 10]⟩,
  ⟨some 19, .pick (.t 11) (.t 18) (.c (.d (.bool false))), none, [4, 11]⟩] ⟨r, B ++ List.replicate na none⟩) := z_draw X T na live r154_2 (by kernel_rfl) r B
theorem d161_6 (X : XEnv) (T : List Nat) (na : Nat) (live : List Nat) (r : List (Nat × AV)) (B : Boxs) : codeX X T (.region true na live r161_6) ⟨r, B⟩ = xEnd live (xOps (callX X) X.lin T true B.length [
  ⟨some 25, .move (.t 4), none, []⟩,
  ⟨some 26, .nilCheck (.t 25), none, [0]⟩,
  ⟨some 27, .fieldAddr 2 (.t 26), none, [1]⟩,
  ⟨some 28, .loadS false 1 (.t 27) 0, none, [2]⟩,
  ⟨some 29, .move (.t 0), none, []⟩,
  ⟨some 30, .move (.t 4), none, []⟩,
  ⟨some 31, .nilCheck (.t 30), none, [5]⟩,
  ⟨some 32, .fieldAddr 2 (.t 31), none, [6]⟩,
  ⟨some 33, .load false 1 (.t 32), none, [7]⟩,
  ⟨some 34, .len false (.t 33), none, [8]⟩,
  ⟨some 35, .callS 0 (.c (.fn 159 [])) [.t 29, .t 34], none, [4, 9]⟩,
  ⟨some 36, .indexAddr 3 none (.t 28) (.t 35), none, [3, 10]⟩,
  ⟨some 4, .move (.t 36), none, [0, 1, 2, 3, 4, 5, 6, 7, 8, 9, 10, 11]⟩] ⟨r, B ++ List.replicate na none⟩) := z_draw X T na live r161_6 (by kernel_rfl) r B
theorem d161_13 (X : XEnv) (T : List Nat) (na : Nat) (live : List Nat) (r : List (Nat × AV)) (B : Boxs) : codeX X T (.regionT na live r161_13 r161_13_9) ⟨r, B⟩ = xTl (callX X) X.lin T B.length live [
  ⟨some 65, .append1 3 40 (.t 60) (.t 64) (.t 63) (.t 62) 66, none, []⟩,
  ⟨some 67, .nilCheck (.t 57), none, []⟩,
  ⟨some 68, .fieldAddr 2 (.t 67), none, []⟩,
  ⟨none, .store false 1 (.t 68) (.t 65), none, []⟩] (xOps (callX X) X.lin T true B.length [
  ⟨some 57, .move (.t 4), none, []⟩,
  ⟨some 58, .nilCheck (.t 57), none, [0]⟩,
  ⟨some 59, .fieldAddr 2 (.t 58), none, [1]⟩,
  ⟨some 60, .loadS false 1 (.t 59) 0, none, [2]⟩,
  ⟨some 61, .move (.t 0), none, []⟩,
  ⟨some 62, .callS 0 (.c (.fn 166 [])) [.t 61, .c (.d (.int .i64 1)), .c (.d (.int .i64 2))], none, [4]⟩,
  ⟨some 63, .len false (.t 60), none, [3]⟩,
  ⟨some 64, .buildSlice 3 (.agg [.int .i64 0, .int .i64 0, .sl .nil []]) 1 [(0, .c (.d (.agg [.int .i64 0, .int .i64 0, .sl .nil []])))], none, []⟩] ⟨r, B ++ List.replicate na none⟩) := z_regionT X T na live r161_13 r161_13_9 (by kernel_rfl) r B
theorem d165_2 (X : XEnv) (T : List Nat) (na : Nat) (live : List Nat) (r : List (Nat × AV)) (B : Boxs) : codeX X T (.region true na live r165_2) ⟨r, B⟩ = xEnd live (xOps (callX X) X.lin T true B.length [
  ⟨some 13, .move (.t 0), none, []⟩,
  ⟨some 14, .nilCheck (.t 13), none, [0]⟩,
  ⟨some 15, .fieldAddr 2 (.t 14), none, [1]⟩,
  ⟨some 16, .load false 1 (.t 15), none, [2]⟩,
  ⟨some 17, .bin .shr (.t 16) (.c (.d (.int .u64 33))), none, [3]⟩,
  ⟨some 18, .move (.t 0), none, []⟩,
  ⟨some 19, .nilCheck (.t 18), none, [5]⟩,
  ⟨some 20, .fieldAddr 2 (.t 19), none, [6]⟩,
  ⟨some 21, .load false 1 (.t 20), none, [7]⟩,
  ⟨some 22, .bin .shr (.t 21) (.c (.d (.int .u64 45))), none, [8]⟩,
  ⟨some 23, .bin .xor (.t 17) (.t 22), none, [4, 9]⟩,
  ⟨some 24, .bin .and (.t 23) (.c (.d (.int .i64 255))), none, [10]⟩,
  ⟨some 3, .move (.t 24), none, [0, 1, 2, 3, 4, 5, 6, 7, 8, 9, 10, 11]⟩] ⟨r, B ++ List.replicate na none⟩) := z_draw X T na live r165_2 (by kernel_rfl) r B
theorem d165_3 (X : XEnv) (T : List Nat) (na : Nat) (live : List Nat) (r : List (Nat × AV)) (B : Boxs) : codeX X T (.region true na live r165_3) ⟨r, B⟩ = xEnd live (xOps (callX X) X.lin T true B.length [
  ⟨some 25, .move (.t 0), none, []⟩,
  ⟨some 26, .nilCheck (.t 25), none, [0]⟩,
  ⟨some 27, .fieldAddr 1 (.t 26), none, [1]⟩,
  ⟨some 28, .load false 1 (.t 27), none, [2]⟩,
  ⟨some 29, .move (.t 0), none, []⟩,
  ⟨some 30, .nilCheck (.t 29), none, [4]⟩,
  ⟨some 31, .fieldAddr 0 (.t 30), none, [5]⟩,
  ⟨some 32, .load false 1 (.t 31), none, [6]⟩,
  ⟨some 33, .len false (.t 32), none, [7]⟩,
  ⟨some 34, .bin .lss (.t 28) (.t 33), none, [3, 8]⟩] ⟨r, B ++ List.replicate na none⟩) := z_draw X T na live r165_3 (by kernel_rfl) r B
theorem d165_4 (X : XEnv) (T : List Nat) (na : Nat) (live : List Nat) (r : List (Nat × AV)) (B : Boxs) : codeX X T (.region true na live r165_4) ⟨r, B⟩ = xEnd live (xOps (callX X) X.lin T true B.length [
  ⟨some 35, .move (.t 3), none, []⟩,
  ⟨some 36, .move (.t 0), none, []⟩,
  ⟨some 37, .nilCheck (.t 36), none, [1]⟩,
  ⟨some 38, .fieldAddr 0 (.t 37), none, [2]⟩,
  ⟨some 39, .load false 1 (.t 38), none, [3]⟩,
  ⟨some 40, .move (.t 0), none, []⟩,
  ⟨some 41, .nilCheck (.t 40), none, [5]⟩,
  ⟨some 42, .fieldAddr 1 (.t 41), none, [6]⟩,
  ⟨some 43, .load false 1 (.t 42), none, [7]⟩,
  ⟨some 44, .indexAddr 1 none (.t 39) (.t 43), none, [4, 8]⟩,
  ⟨some 45, .load false 1 (.t 44), none, [9]⟩,
  ⟨some 46, .conv (.kind .i64) (.t 45), none, [10]⟩,
  ⟨some 47, .bin .add (.t 35) (.t 46), none, [0, 11]⟩,
  ⟨some 48, .bin .and (.t 47) (.c (.d (.int .i64 255))), none, [12]⟩,
  ⟨some 3, .move (.t 48), none, [0, 1, 2, 3, 4, 5, 6, 7, 8, 9, 10, 11, 12, 13]⟩] ⟨r, B ++ List.replicate na none⟩) := z_draw X T na live r165_4 (by kernel_rfl) r B
theorem d172_4 (X : XEnv) (T : List Nat) (na : Nat) (live : List Nat) (r : List (Nat × AV)) (B : Boxs) : codeX X T (.region true na live r172_4) ⟨r, B⟩ = xEnd live (xOps (callX X) X.lin T true B.length [
  ⟨some 18, .move (.t 9), none, []⟩,
  ⟨some 19, .move (.t 1), none, []⟩,
  ⟨some 20, .bin .gtr (.t 18) (.t 19), none, [0, 1]⟩,
  ⟨some 21, .move (.t 20), none, [2]⟩,
  ⟨some 22, .move (.t 3), some (21, true), [3]⟩,
  ⟨some 23, .move (.t 0), some (21, true), [3]⟩,
  ⟨some 24, .move (.t 9), some (21, true), [3]⟩,
  ⟨some 25, .indexAddr 3 none (.t 23) (.t 24), some (21, true), [3, 5, 6]⟩,
  ⟨some 26, .load true 3 (.t 25), some (21, true), [3, 7]⟩,
  ⟨some 27, .move (.t 0), some (21, true), [3]⟩,
  ⟨some 28, .move (.t 9), some (21, true), [3]⟩,
  ⟨some 29, .bin .sub (.t 28) (.c (.d (.int .i64 1))), some (21, true), [3, 10]⟩,
  ⟨some 30, .indexAddr 3 none (.t 27) (.t 29), some (21, true), [3, 9, 11]⟩,
  ⟨some 31, .load true 3 (.t 30), some (21, true), [3, 12]⟩,
  ⟨some 32, .call false (.t 22) [.t 26, .t 31], some (21, true), [3, 4, 8, 13]⟩,
  ⟨some 33, .bin .lss (.t 32) (.c (.d (.int .i64 0))), some (21, true), [3, 14]⟩,
  ⟨some 34, .pick (.t 21) (.t 33) (.c (.d (.bool false))), none, [3, 15]⟩] ⟨r, B ++ List.replicate na none⟩) := z_draw X T na live r172_4 (by kernel_rfl) r B
theorem d172_6 (X : XEnv) (T : List Nat) (na : Nat) (live : List Nat) (r : List (Nat × AV)) (B : Boxs) : codeX X T (.region true na live r172_6) ⟨r, B⟩ = xEnd live (xOps (callX X) X.lin T true B.length [
  ⟨some 37, .move (.t 0), none, []⟩,
  ⟨some 38, .move (.t 9), none, []⟩,
  ⟨some 39, .move (.t 0), none, []⟩,
  ⟨some 40, .move (.t 9), none, []⟩,
  ⟨some 41, .bin .sub (.t 40) (.c (.d (.int .i64 1))), none, [3]⟩,
  ⟨some 42, .move (.t 0), none, []⟩,
  ⟨some 43, .move (.t 9), none, []⟩,
  ⟨some 44, .bin .sub (.t 43) (.c (.d (.int .i64 1))), none, [6]⟩,
  ⟨some 45, .indexAddr 3 none (.t 42) (.t 44), none, [5, 7]⟩,
  ⟨some 46, .load true 3 (.t 45), none, [8]⟩,
  ⟨some 47, .move (.t 0), none, []⟩,
  ⟨some 48, .move (.t 9), none, []⟩,
  ⟨some 49, .indexAddr 3 none (.t 47) (.t 48), none, [10, 11]⟩,
  ⟨some 50, .load true 3 (.t 49), none, [12]⟩,
  ⟨some 51, .indexAddr 3 none (.t 37) (.t 38), none, [0, 1, 5, 6, 7, 8, 9, 13]⟩,
  ⟨none, .store false 3 (.t 51) (.t 46), none, [0, 1, 5, 6, 7, 8, 9, 13, 14]⟩,
  ⟨some 52, .indexAddr 3 none (.t 39) (.t 41), none, [0, 1, 2, 3, 4, 5, 6, 7, 8, 9, 10, 11, 12, 13, 14, 15]⟩,
  ⟨none, .store false 3 (.t 52) (.t 50), none, [0, 1, 2, 3, 4, 5, 6, 7, 8, 9, 10, 11, 12, 13, 14, 15, 16]⟩] ⟨r, B ++ List.replicate na none⟩) := z_draw X T na live r172_6 (by kernel_rfl) r B
theorem d173_5 (X : XEnv) (T : List Nat) (na : Nat) (live : List Nat) (r : List (Nat × AV)) (B : Boxs) : codeX X T (.region true na live r173_5) ⟨r, B⟩ = xEnd live (xOps (callX X) X.lin T true B.length [
  ⟨some 40, .move (.t 4), none, []⟩,
  ⟨some 41, .move (.t 0), none, []⟩,
  ⟨some 42, .move (.t 12), none, []⟩,
  ⟨some 43, .indexAddr 3 none (.t 41) (.t 42), none, [1, 2]⟩,
  ⟨some 44, .load true 3 (.t 43), none, [3]⟩,
  ⟨some 45, .move (.t 0), none, []⟩,
  ⟨some 46, .move (.t 1), none, []⟩,
  ⟨some 47, .indexAddr 3 none (.t 45) (.t 46), none, [5, 6]⟩,
  ⟨some 48, .load true 3 (.t 47), none, [7]⟩,
  ⟨some 49, .call false (.t 40) [.t 44, .t 48], none, [0, 4, 8]⟩,
  ⟨some 50, .bin .lss (.t 49) (.c (.d (.int .i64 0))), none, [9]⟩] ⟨r, B ++ List.replicate na none⟩) := z_draw X T na live r173_5 (by kernel_rfl) r B
theorem d173_11 (X : XEnv) (T : List Nat) (na : Nat) (live : List Nat) (r : List (Nat × AV)) (B : Boxs) : codeX X T (.region true na live r173_11) ⟨r, B⟩ = xEnd live (xOps (callX X) X.lin T true B.length [
  ⟨some 61, .move (.t 0), none, []⟩,
  ⟨some 62, .move (.t 13), none, []⟩,
  ⟨some 63, .move (.t 0), none, []⟩,
  ⟨some 64, .move (.t 13), none, []⟩,
  ⟨some 65, .bin .add (.t 64) (.c (.d (.int .i64 1))), none, [3]⟩,
  ⟨some 66, .move (.t 0), none, []⟩,
  ⟨some 67, .move (.t 13), none, []⟩,
  ⟨some 68, .bin .add (.t 67) (.c (.d (.int .i64 1))), none, [6]⟩,
  ⟨some 69, .indexAddr 3 none (.t 66) (.t 68), none, [5, 7]⟩,
  ⟨some 70, .load true 3 (.t 69), none, [8]⟩,
  ⟨some 71, .move (.t 0), none, []⟩,
  ⟨some 72, .move (.t 13), none, []⟩,
  ⟨some 73, .indexAddr 3 none (.t 71) (.t 72), none, [10, 11]⟩,
  ⟨some 74, .load true 3 (.t 73), none, [12]⟩,
  ⟨some 75, .indexAddr 3 none (.t 61) (.t 62), none, [0, 1, 5, 6, 7, 8, 9, 13]⟩,
  ⟨none, .store false 3 (.t 75) (.t 70), none, [0, 1, 5, 6, 7, 8, 9, 13, 14]⟩,
  ⟨some 76, .indexAddr 3 none (.t 63) (.t 65), none, [0, 1, 2, 3, 4, 5, 6, 7, 8, 9, 10, 11, 12, 13, 14, 15]⟩,
  ⟨none, .store false 3 (.t 76) (.t 74), none, [0, 1, 2, 3, 4, 5, 6, 7, 8, 9, 10, 11, 12, 13, 14, 15, 16]⟩] ⟨r, B ++ List.replicate na none⟩) := z_draw X T na live r173_11 (by kernel_rfl) r B
theorem d173_17 (X : XEnv) (T : List Nat) (na : Nat) (live : List Nat) (r : List (Nat × AV)) (B : Boxs) : codeX X T (.region true na live r173_17) ⟨r, B⟩ = xEnd live (xOps (callX X) X.lin T true B.length [
  ⟨some 92, .move (.t 4), none, []⟩,
  ⟨some 93, .move (.t 0), none, []⟩,
  ⟨some 94, .move (.t 2), none, []⟩,
  ⟨some 95, .indexAddr 3 none (.t 93) (.t 94), none, [1, 2]⟩,
  ⟨some 96, .load true 3 (.t 95), none, [3]⟩,
  ⟨some 97, .move (.t 0), none, []⟩,
  ⟨some 98, .move (.t 16), none, []⟩,
  ⟨some 99, .indexAddr 3 none (.t 97) (.t 98), none, [5, 6]⟩,
  ⟨some 100, .load true 3 (.t 99), none, [7]⟩,
  ⟨some 101, .call false (.t 92) [.t 96, .t 100], none, [0, 4, 8]⟩,
  ⟨some 102, .bin .lss (.t 101) (.c (.d (.int .i64 0))), none, [9]⟩,
  ⟨some 103, .not (.t 102), none, [10]⟩] ⟨r, B ++ List.replicate na none⟩) := z_draw X T na live r173_17 (by kernel_rfl) r B
theorem d173_23 (X : XEnv) (T : List Nat) (na : Nat) (live : List Nat) (r : List (Nat × AV)) (B : Boxs) : codeX X T (.region true na live r173_23) ⟨r, B⟩ = xEnd live (xOps (callX X) X.lin T true B.length [
  ⟨some 113, .move (.t 0), none, []⟩,
  ⟨some 114, .move (.t 17), none, []⟩,
  ⟨some 115, .move (.t 0), none, []⟩,
  ⟨some 116, .move (.t 17), none, []⟩,
  ⟨some 117, .bin .sub (.t 116) (.c (.d (.int .i64 1))), none, [3]⟩,
  ⟨some 118, .move (.t 0), none, []⟩,
  ⟨some 119, .move (.t 17), none, []⟩,
  ⟨some 120, .bin .sub (.t 119) (.c (.d (.int .i64 1))), none, [6]⟩,
  ⟨some 121, .indexAddr 3 none (.t 118) (.t 120), none, [5, 7]⟩,
  ⟨some 122, .load true 3 (.t 121), none, [8]⟩,
  ⟨some 123, .move (.t 0), none, []⟩,
  ⟨some 124, .move (.t 17), none, []⟩,
  ⟨some 125, .indexAddr 3 none (.t 123) (.t 124), none, [10, 11]⟩,
  ⟨some 126, .load true 3 (.t 125), none, [12]⟩,
  ⟨some 127, .indexAddr 3 none (.t 113) (.t 114), none, [0, 1, 5, 6, 7, 8, 9, 13]⟩,
  ⟨none, .store false 3 (.t 127) (.t 122), none, [0, 1, 5, 6, 7, 8, 9, 13, 14]⟩,
  ⟨some 128, .indexAddr 3 none (.t 115) (.t 117), none, [0, 1, 2, 3, 4, 5, 6, 7, 8, 9, 10, 11, 12, 13, 14, 15]⟩,
  ⟨none, .store false 3 (.t 128) (.t 126), none, [0, 1, 2, 3, 4, 5, 6, 7, 8, 9, 10, 11, 12, 13, 14, 15, 16]⟩] ⟨r, B ++ List.replicate na none⟩) := z_draw X T na live r173_23 (by kernel_rfl) r B
theorem d173_35 (X : XEnv) (T : List Nat) (na : Nat) (live : List Nat) (r : List (Nat × AV)) (B : Boxs) : codeX X T (.region true na live r173_35) ⟨r, B⟩ = xEnd live (xOps (callX X) X.lin T true B.length [
  ⟨some 158, .move (.t 4), none, []⟩,
  ⟨some 159, .move (.t 0), none, []⟩,
  ⟨some 160, .move (.t 22), none, []⟩,
  ⟨some 161, .move (.t 23), none, []⟩,
  ⟨some 162, .bin .sub (.t 160) (.t 161), none, [2, 3]⟩,
  ⟨some 163, .indexAddr 3 none (.t 159) (.t 162), none, [1, 4]⟩,
  ⟨some 164, .load true 3 (.t 163), none, [5]⟩,
  ⟨some 165, .move (.t 0), none, []⟩,
  ⟨some 166, .move (.t 23), none, []⟩,
  ⟨some 167, .indexAddr 3 none (.t 165) (.t 166), none, [7, 8]⟩,
  ⟨some 168, .load true 3 (.t 167), none, [9]⟩,
  ⟨some 169, .call false (.t 158) [.t 164, .t 168], none, [0, 6, 10]⟩,
  ⟨some 170, .bin .lss (.t 169) (.c (.d (.int .i64 0))), none, [11]⟩,
  ⟨some 171, .not (.t 170), none, [12]⟩] ⟨r, B ++ List.replicate na none⟩) := z_draw X T na live r173_35 (by kernel_rfl) r B
theorem d175_3 (X : XEnv) (T : List Nat) (na : Nat) (live : List Nat) (r : List (Nat × AV)) (B : Boxs) : codeX X T (.region true na live r175_3) ⟨r, B⟩ = xEnd live (xOps (callX X) X.lin T true B.length [
  ⟨some 16, .move (.t 0), none, []⟩,
  ⟨some 17, .move (.t 1), none, []⟩,
  ⟨some 18, .move (.t 10), none, []⟩,
  ⟨some 19, .bin .add (.t 17) (.t 18), none, [1, 2]⟩,
  ⟨some 20, .move (.t 0), none, []⟩,
  ⟨some 21, .move (.t 2), none, []⟩,
  ⟨some 22, .move (.t 10), none, []⟩,
  ⟨some 23, .bin .add (.t 21) (.t 22), none, [5, 6]⟩,
  ⟨some 24, .move (.t 0), none, []⟩,
  ⟨some 25, .move (.t 2), none, []⟩,
  ⟨some 26, .move (.t 10), none, []⟩,
  ⟨some 27, .bin .add (.t 25) (.t 26), none, [9, 10]⟩,
  ⟨some 28, .indexAddr 3 none (.t 24) (.t 27), none, [8, 11]⟩,
  ⟨some 29, .load true 3 (.t 28), none, [12]⟩,
  ⟨some 30, .move (.t 0), none, []⟩,
  ⟨some 31, .move (.t 1), none, []⟩,
  ⟨some 32, .move (.t 10), none, []⟩,
  ⟨some 33, .bin .add (.t 31) (.t 32), none, [15, 16]⟩,
  ⟨some 34, .indexAddr 3 none (.t 30) (.t 33), none, [14, 17]⟩,
  ⟨some 35, .load true 3 (.t 34), none, [18]⟩,
  ⟨some 36, .indexAddr 3 none (.t 16) (.t 19), none, [0, 1, 2, 3, 8, 9, 10, 11, 12, 13, 19]⟩,
  ⟨none, .store false 3 (.t 36) (.t 29), none, [0, 1, 2, 3, 8, 9, 10, 11, 12, 13, 19, 20]⟩,
  ⟨some 37, .indexAddr 3 none (.t 20) (.t 23), none, [0, 1, 2, 3, 4, 5, 6, 7, 8, 9, 10, 11, 12, 13, 14, 15, 16, 17, 18, 19, 20, 21]⟩,
  ⟨none, .store false 3 (.t 37) (.t 35), none, [0, 1, 2, 3, 4, 5, 6, 7, 8, 9, 10, 11, 12, 13, 14, 15, 16, 17, 18, 19, 20, 21, 22]⟩] ⟨r, B ++ List.replicate na none⟩) := z_draw X T na live r175_3 (by kernel_rfl) r B
theorem d194_4 (X : XEnv) (T : List Nat) (na : Nat) (live : List Nat) (r : List (Nat × AV)) (B : Boxs) : codeX X T (.region true na live r194_4) ⟨r, B⟩ = xEnd live (xOps (callX X) X.lin T true B.length [
  ⟨some 12, .move (.t 4), none, []⟩,
  ⟨some 13, .callS 4 (.c (.fn 195 [])) [.t 12], none, [0]⟩,
  ⟨some 14, .loadS true 3 (.t 5) 4, none, []⟩,
  ⟨some 2, .move (.t 13), none, [0, 1]⟩,
  ⟨none, .store false 3 (.t 3) (.t 14), none, [0, 1, 2, 3]⟩] ⟨r, B ++ List.replicate na none⟩) := z_draw X T na live r194_4 (by kernel_rfl) r B
theorem d194_5 (X : XEnv) (T : List Nat) (na : Nat) (live : List Nat) (r : List (Nat × AV)) (B : Boxs) : codeX X T (.region true na live r194_5) ⟨r, B⟩ = xEnd live (xOps (callX X) X.lin T true B.length [
  ⟨some 15, .call true (.c (.fn 155 [])) [], none, []⟩,
  ⟨some 16, .load true 3 (.t 5), none, []⟩,
  ⟨some 2, .move (.t 15), none, [0]⟩,
  ⟨none, .store false 3 (.t 3) (.t 16), none, [0, 1, 2]⟩] ⟨r, B ++ List.replicate na none⟩) := z_draw X T na live r194_5 (by kernel_rfl) r B
theorem d366_5 (X : XEnv) (T : List Nat) (na : Nat) (live : List Nat) (r : List (Nat × AV)) (B : Boxs) : codeX X T (.region true na live r366_5) ⟨r, B⟩ = xEnd live (xOps (callX X) X.lin T true B.length [
  ⟨some 19, .move (.t 3), none, []⟩,
  ⟨some 20, .load true 3 (.t 4), none, []⟩,
  ⟨some 21, .call true (.c (.fn 70 [])) [.t 19, .t 20], none, [0, 1]⟩,
  ⟨some 22, .move (.t 3), none, []⟩,
  ⟨some 23, .load true 3 (.t 4), none, []⟩,
  ⟨some 24, .call true (.c (.fn 80 [])) [.t 22, .t 23], none, [2, 3, 4]⟩,
  ⟨some 25, .eqB true (.t 21) (.t 24), none, [2, 5]⟩,
  ⟨some 26, .move (.t 25), none, [5, 6]⟩,
  ⟨some 27, .move (.t 5), some (26, false), [7]⟩,
  ⟨some 28, .load true 3 (.t 6), some (26, false), [7]⟩,
  ⟨some 29, .call true (.c (.fn 118 [])) [.t 27, .t 28], some (26, false), [7, 8, 9]⟩,
  ⟨some 30, .move (.t 5), some (26, false), [7]⟩,
  ⟨some 31, .load true 3 (.t 6), some (26, false), [7]⟩,
  ⟨some 32, .call true (.c (.fn 117 [])) [.t 30, .t 31], some (26, false), [7, 10, 11, 12]⟩,
  ⟨some 33, .bin .neq (.t 29) (.t 32), some (26, false), [7, 10, 13]⟩,
  ⟨some 34, .pick (.t 26) (.c (.d (.bool true))) (.t 33), none, [7, 14]⟩] ⟨r, B ++ List.replicate na none⟩) := z_draw X T na live r366_5 (by kernel_rfl) r B
theorem d366_7 (X : XEnv) (T : List Nat) (na : Nat) (live : List Nat) (r : List (Nat × AV)) (B : Boxs) : codeX X T (.region true na live r366_7) ⟨r, B⟩ = xEnd live (xOps (callX X) X.lin T true B.length [
  ⟨some 35, .move (.t 3), none, []⟩,
  ⟨some 36, .load true 3 (.t 4), none, []⟩,
  ⟨some 37, .call true (.c (.fn 70 [])) [.t 35, .t 36], none, [0, 1]⟩,
  ⟨some 38, .not (.t 37), none, [2]⟩,
  ⟨some 39, .move (.t 38), none, [2, 3]⟩,
  ⟨some 40, .move (.t 3), some (39, false), [4]⟩,
  ⟨some 41, .load true 3 (.t 4), some (39, false), [4]⟩,
  ⟨some 42, .call true (.c (.fn 169 [])) [.t 40, .t 41], some (39, false), [4, 5, 6]⟩,
  ⟨some 43, .load true 3 (.t 4), some (39, false), [4]⟩,
  ⟨some 44, .call true (.c (.fn 4 [])) [.t 42, .t 43], some (39, false), [4, 7, 8]⟩,
  ⟨some 45, .move (.t 44), some (39, false), [4, 9]⟩,
  ⟨some 46, .move (.t 3), some (45, true), [10]⟩,
  ⟨some 47, .load true 3 (.t 4), some (45, true), [10]⟩,
  ⟨some 48, .call true (.c (.fn 118 [])) [.t 46, .t 47], some (45, true), [10, 11, 12]⟩,
  ⟨some 49, .bin .geq (.t 48) (.c (.d (.int .i64 1))), some (45, true), [10, 13]⟩,
  ⟨some 50, .pick (.t 45) (.t 49) (.c (.d (.bool false))), some (39, false), [4, 10, 14]⟩,
  ⟨some 51, .pick (.t 39) (.c (.d (.bool true))) (.t 50), none, [4, 15]⟩,
  ⟨some 2, .move (.t 51), none, [0, 1, 2, 3, 4, 5, 6, 7, 8, 9, 10, 11, 12, 13, 14, 15, 16]⟩] ⟨r, B ++ List.replicate na none⟩) := z_draw X T na live r366_7 (by kernel_rfl) r B
theorem d367_2 (X : XEnv) (T : List Nat) (na : Nat) (live : List Nat) (r : List (Nat × AV)) (B : Boxs) : codeX X T (.region true na live r367_2) ⟨r, B⟩ = xEnd live (xOps (callX X) X.lin T true B.length [
  ⟨some 11, .move (.t 4), none, []⟩,
  ⟨some 12, .load true 3 (.t 5), none, []⟩,
  ⟨some 2, .move (.t 11), none, [0]⟩,
  ⟨none, .store false 3 (.t 3) (.t 12), none, [0, 1, 2]⟩] ⟨r, B ++ List.replicate na none⟩) := z_draw X T na live r367_2 (by kernel_rfl) r B
theorem d368_2 (X : XEnv) (T : List Nat) (na : Nat) (live : List Nat) (r : List (Nat × AV)) (B : Boxs) : codeX X T (.region true na live r368_2) ⟨r, B⟩ = xEnd live (xOps (callX X) X.lin T true B.length [
  ⟨some 11, .move (.t 4), none, []⟩,
  ⟨some 12, .load true 3 (.t 5), none, []⟩,
  ⟨some 2, .move (.t 11), none, [0]⟩,
  ⟨none, .store false 3 (.t 3) (.t 12), none, [0, 1, 2]⟩] ⟨r, B ++ List.replicate na none⟩) := z_draw X T na live r368_2 (by kernel_rfl) r B
theorem look_in : ∀ {l : List (Nat × VFn)} {k : Nat} {v : VFn}, look l k = some v → (k, v) ∈ l
  | [], _, _, h => by simp [look] at h
  | (a, u) :: r, k, v, h => by
    simp only [look] at h
    split at h
    · rename_i hk
      simp at h; subst h; subst hk; simp
    · exact List.mem_cons_of_mem _ (look_in h)
theorem lin_all : codes.all (fun q => q.2.linOK (linOf lins q.1)) = true := by kernel_rfl
theorem spec_all : specs.all (fun q => q.2.pre.linOK (linOf lins q.1) && q.2.rest.linOK (linOf lins q.1) && linDistinct (linOf lins q.1) (q.2.results.flatMap VRes.vx) && (linOf lins q.1).all (fun j => decide (q.2.np ≤ j))) = true := by kernel_rfl
theorem nats_ref : ∀ q, q ∈ nats → NatRef q.2 (natV q.2) ∧ linOf lins q.1 = [] := List.forall_mem_nil _
theorem xok : XOK XV := ⟨fun f vf h => List.all_eq_true.1 lin_all (f, vf) (look_in h), fun f g h => ⟨natV g, by show (lookN nats f).map natV = _; rw [show lookN nats f = some g from h]; rfl, (nats_ref (f, g) (lookN_mem h)).1, (nats_ref (f, g) (lookN_mem h)).2⟩, fun f h => by show (lookN nats f).map natV = _; rw [show lookN nats f = none from h]; rfl, fun f sf h => by
  have := List.all_eq_true.1 spec_all (f, sf) (lookS_mem h)
  simp only [Bool.and_eq_true] at this
  exact ⟨this.1.1.1, this.1.1.2, this.1.2, this.2⟩⟩
end Go.Proofs.Ytfiakfiocdfpbaa.VS
