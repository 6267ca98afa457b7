/- Which registers of each function may own rows; the functions for the evaluator without names. -/
import Derived.Test.YtnjgnjejkmcgmaaNat2
import Derived.Test.YtnjgnjejkmcgmaaCode
import Derived.KernelRfl
namespace Go.Proofs.Ytnjgnjejkmcgmaa.VS
set_option linter.unusedVariables false
def lins : List (Nat × List Nat) := [(2, [12, 14]), (8, [2, 3, 20, 22]), (12, [2, 3, 22]), (66, [2, 3, 20, 22]), (87, [9, 11]), (135, [11]), (137, [8, 10, 15, 16, 18, 28, 32, 35, 36, 37, 38, 43, 50, 51, 52, 53, 57, 60, 61, 62, 63, 64]), (141, [11]), (142, [8, 9, 13, 15, 16, 35, 38, 39, 40, 41, 49, 62, 63, 64, 65, 68, 71, 72, 73, 74, 75]), (144, [7, 10, 11, 16, 18]), (145, [24, 26]), (146, [9, 18, 24, 25, 26, 28]), (147, [4]), (148, [13, 19, 21]), (149, [4]), (150, [5, 7]), (151, [2, 3, 6, 12, 13, 15, 16, 17, 19]), (152, [19, 24, 33, 40, 41, 42, 44]), (153, [13, 27, 42, 51, 52, 53, 54, 65, 67]), (154, [4, 6, 22, 26, 27, 28, 29, 30, 31, 35]), (168, [5, 19, 20, 27, 28, 31, 32, 33, 35, 37]), (169, [5, 8, 15, 18, 30, 32, 33, 34, 35, 36, 37, 45, 47]), (172, [46, 50]), (173, [70, 74, 122, 126]), (175, [29, 35]), (358, [47])]
def linOf : List (Nat × List Nat) → Nat → List Nat
  | [], _ => []
  | (k, v) :: r, n => if n = k then v else linOf r n
noncomputable def XV : XEnv := ⟨E, linOf lins, lookN nats⟩
@[simp] theorem lin_1 : XV.lin 1 = [] := by kernel_rfl
theorem xcode_1 : XV.env.code 1 = some v1 := by kernel_rfl
@[simp] theorem lin_2 : XV.lin 2 = [12, 14] := by kernel_rfl
theorem xcode_2 : XV.env.code 2 = some v2 := by kernel_rfl
@[simp] theorem lin_3 : XV.lin 3 = [] := by kernel_rfl
theorem xcode_3 : XV.env.code 3 = some v3 := by kernel_rfl
@[simp] theorem lin_5 : XV.lin 5 = [] := by kernel_rfl
theorem xcode_5 : XV.env.code 5 = some v5 := by kernel_rfl
@[simp] theorem lin_6 : XV.lin 6 = [] := by kernel_rfl
theorem xcode_6 : XV.env.code 6 = some v6 := by kernel_rfl
@[simp] theorem lin_7 : XV.lin 7 = [] := by kernel_rfl
theorem xcode_7 : XV.env.code 7 = some v7 := by kernel_rfl
@[simp] theorem lin_8 : XV.lin 8 = [2, 3, 20, 22] := by kernel_rfl
theorem xcode_8 : XV.env.code 8 = some v8 := by kernel_rfl
@[simp] theorem lin_9 : XV.lin 9 = [] := by kernel_rfl
theorem xcode_9 : XV.env.code 9 = some v9 := by kernel_rfl
@[simp] theorem lin_11 : XV.lin 11 = [] := by kernel_rfl
theorem xcode_11 : XV.env.code 11 = some v11 := by kernel_rfl
@[simp] theorem lin_12 : XV.lin 12 = [2, 3, 22] := by kernel_rfl
theorem xcode_12 : XV.env.code 12 = some v12 := by kernel_rfl
@[simp] theorem lin_15 : XV.lin 15 = [] := by kernel_rfl
theorem xcode_15 : XV.env.code 15 = some v15 := by kernel_rfl
@[simp] theorem lin_16 : XV.lin 16 = [] := by kernel_rfl
theorem xcode_16 : XV.env.code 16 = some v16 := by kernel_rfl
@[simp] theorem lin_17 : XV.lin 17 = [] := by kernel_rfl
theorem xcode_17 : XV.env.code 17 = some v17 := by kernel_rfl
@[simp] theorem lin_20 : XV.lin 20 = [] := by kernel_rfl
theorem xcode_20 : XV.env.code 20 = some v20 := by kernel_rfl
@[simp] theorem lin_29 : XV.lin 29 = [] := by kernel_rfl
theorem xcode_29 : XV.env.code 29 = some v29 := by kernel_rfl
@[simp] theorem lin_30 : XV.lin 30 = [] := by kernel_rfl
theorem xcode_30 : XV.env.code 30 = some v30 := by kernel_rfl
@[simp] theorem lin_31 : XV.lin 31 = [] := by kernel_rfl
theorem xcode_31 : XV.env.code 31 = some v31 := by kernel_rfl
@[simp] theorem lin_33 : XV.lin 33 = [] := by kernel_rfl
theorem xcode_33 : XV.env.code 33 = some v33 := by kernel_rfl
@[simp] theorem lin_34 : XV.lin 34 = [] := by kernel_rfl
theorem xcode_34 : XV.env.code 34 = some v34 := by kernel_rfl
@[simp] theorem lin_65 : XV.lin 65 = [] := by kernel_rfl
theorem xcode_65 : XV.env.code 65 = some v65 := by kernel_rfl
@[simp] theorem lin_66 : XV.lin 66 = [2, 3, 20, 22] := by kernel_rfl
theorem xcode_66 : XV.env.code 66 = some v66 := by kernel_rfl
@[simp] theorem lin_69 : XV.lin 69 = [] := by kernel_rfl
theorem xcode_69 : XV.env.code 69 = some v69 := by kernel_rfl
@[simp] theorem lin_75 : XV.lin 75 = [] := by kernel_rfl
theorem xcode_75 : XV.env.code 75 = some v75 := by kernel_rfl
@[simp] theorem lin_76 : XV.lin 76 = [] := by kernel_rfl
theorem xcode_76 : XV.env.code 76 = some v76 := by kernel_rfl
@[simp] theorem lin_84 : XV.lin 84 = [] := by kernel_rfl
theorem xcode_84 : XV.env.code 84 = some v84 := by kernel_rfl
@[simp] theorem lin_86 : XV.lin 86 = [] := by kernel_rfl
theorem xcode_86 : XV.env.code 86 = some v86 := by kernel_rfl
@[simp] theorem lin_87 : XV.lin 87 = [9, 11] := by kernel_rfl
theorem xcode_87 : XV.env.code 87 = some v87 := by kernel_rfl
@[simp] theorem lin_88 : XV.lin 88 = [] := by kernel_rfl
theorem xcode_88 : XV.env.code 88 = some v88 := by kernel_rfl
@[simp] theorem lin_135 : XV.lin 135 = [11] := by kernel_rfl
theorem xcode_135 : XV.env.code 135 = some v135 := by kernel_rfl
@[simp] theorem lin_137 : XV.lin 137 = [8, 10, 15, 16, 18, 28, 32, 35, 36, 37, 38, 43, 50, 51, 52, 53, 57, 60, 61, 62, 63, 64] := by kernel_rfl
theorem xcode_137 : XV.env.code 137 = some v137 := by kernel_rfl
@[simp] theorem lin_141 : XV.lin 141 = [11] := by kernel_rfl
theorem xcode_141 : XV.env.code 141 = some v141 := by kernel_rfl
@[simp] theorem lin_142 : XV.lin 142 = [8, 9, 13, 15, 16, 35, 38, 39, 40, 41, 49, 62, 63, 64, 65, 68, 71, 72, 73, 74, 75] := by kernel_rfl
theorem xcode_142 : XV.env.code 142 = some v142 := by kernel_rfl
@[simp] theorem lin_144 : XV.lin 144 = [7, 10, 11, 16, 18] := by kernel_rfl
theorem xcode_144 : XV.env.code 144 = some v144 := by kernel_rfl
@[simp] theorem lin_145 : XV.lin 145 = [24, 26] := by kernel_rfl
theorem xcode_145 : XV.env.code 145 = some v145 := by kernel_rfl
@[simp] theorem lin_146 : XV.lin 146 = [9, 18, 24, 25, 26, 28] := by kernel_rfl
theorem xcode_146 : XV.env.code 146 = some v146 := by kernel_rfl
@[simp] theorem lin_147 : XV.lin 147 = [4] := by kernel_rfl
theorem xcode_147 : XV.env.code 147 = some v147 := by kernel_rfl
@[simp] theorem lin_148 : XV.lin 148 = [13, 19, 21] := by kernel_rfl
theorem xcode_148 : XV.env.code 148 = some v148 := by kernel_rfl
@[simp] theorem lin_149 : XV.lin 149 = [4] := by kernel_rfl
theorem xcode_149 : XV.env.code 149 = some v149 := by kernel_rfl
@[simp] theorem lin_150 : XV.lin 150 = [5, 7] := by kernel_rfl
theorem xcode_150 : XV.env.code 150 = some v150 := by kernel_rfl
@[simp] theorem lin_151 : XV.lin 151 = [2, 3, 6, 12, 13, 15, 16, 17, 19] := by kernel_rfl
theorem xcode_151 : XV.env.code 151 = some v151 := by kernel_rfl
@[simp] theorem lin_152 : XV.lin 152 = [19, 24, 33, 40, 41, 42, 44] := by kernel_rfl
theorem xcode_152 : XV.env.code 152 = some v152 := by kernel_rfl
@[simp] theorem lin_153 : XV.lin 153 = [13, 27, 42, 51, 52, 53, 54, 65, 67] := by kernel_rfl
theorem xcode_153 : XV.env.code 153 = some v153 := by kernel_rfl
@[simp] theorem lin_154 : XV.lin 154 = [4, 6, 22, 26, 27, 28, 29, 30, 31, 35] := by kernel_rfl
theorem xcode_154 : XV.env.code 154 = some v154 := by kernel_rfl
@[simp] theorem lin_167 : XV.lin 167 = [] := by kernel_rfl
theorem xcode_167 : XV.env.code 167 = some v167 := by kernel_rfl
@[simp] theorem lin_168 : XV.lin 168 = [5, 19, 20, 27, 28, 31, 32, 33, 35, 37] := by kernel_rfl
theorem xcode_168 : XV.env.code 168 = some v168 := by kernel_rfl
@[simp] theorem lin_170 : XV.lin 170 = [] := by kernel_rfl
theorem xcode_170 : XV.env.code 170 = some v170 := by kernel_rfl
@[simp] theorem lin_171 : XV.lin 171 = [] := by kernel_rfl
theorem xcode_171 : XV.env.code 171 = some v171 := by kernel_rfl
@[simp] theorem lin_172 : XV.lin 172 = [46, 50] := by kernel_rfl
theorem xcode_172 : XV.env.code 172 = some v172 := by kernel_rfl
@[simp] theorem lin_173 : XV.lin 173 = [70, 74, 122, 126] := by kernel_rfl
theorem xcode_173 : XV.env.code 173 = some v173 := by kernel_rfl
@[simp] theorem lin_174 : XV.lin 174 = [] := by kernel_rfl
theorem xcode_174 : XV.env.code 174 = some v174 := by kernel_rfl
@[simp] theorem lin_175 : XV.lin 175 = [29, 35] := by kernel_rfl
theorem xcode_175 : XV.env.code 175 = some v175 := by kernel_rfl
@[simp] theorem lin_243 : XV.lin 243 = [] := by kernel_rfl
theorem xcode_243 : XV.env.code 243 = some v243 := by kernel_rfl
@[simp] theorem lin_244 : XV.lin 244 = [] := by kernel_rfl
theorem xcode_244 : XV.env.code 244 = some v244 := by kernel_rfl
@[simp] theorem lin_291 : XV.lin 291 = [] := by kernel_rfl
theorem xcode_291 : XV.env.code 291 = some v291 := by kernel_rfl
@[simp] theorem lin_292 : XV.lin 292 = [] := by kernel_rfl
theorem xcode_292 : XV.env.code 292 = some v292 := by kernel_rfl
@[simp] theorem lin_293 : XV.lin 293 = [] := by kernel_rfl
theorem xcode_293 : XV.env.code 293 = some v293 := by kernel_rfl
@[simp] theorem lin_294 : XV.lin 294 = [] := by kernel_rfl
theorem xcode_294 : XV.env.code 294 = some v294 := by kernel_rfl
@[simp] theorem lin_308 : XV.lin 308 = [] := by kernel_rfl
theorem xcode_308 : XV.env.code 308 = some v308 := by kernel_rfl
@[simp] theorem lin_358 : XV.lin 358 = [47] := by kernel_rfl
theorem xcode_358 : XV.env.code 358 = some v358 := by kernel_rfl
@[simp] theorem lin_169 : XV.lin 169 = [5, 8, 15, 18, 30, 32, 33, 34, 35, 36, 37, 45, 47] := by kernel_rfl
theorem xnone_169 : XV.env.code 169 = none := by kernel_rfl
theorem xspec_169 : XV.env.spec 169 = some s169 := by kernel_rfl
theorem d3_6 (X : XEnv) (T : List Nat) (na : Nat) (live : List Nat) (r : List (Nat × AV)) (B : Boxs) : codeX X T (.region true na live r3_6) ⟨r, B⟩ = xEnd live (xOps (callX X) X.lin T true B.length [
  ⟨some 34, .fieldAddr 2 (.t 2), none, []⟩,
  ⟨some 35, .load false 1 (.t 34), none, [0]⟩,
  ⟨some 36, .move (.t 5), none, []⟩,
  ⟨some 37, .indexAddr 3 none (.t 35) (.t 36), none, [1, 2]⟩,
  ⟨some 38, .load true 3 (.t 37), none, [3]⟩,
  ⟨some 39, .fieldAddr 2 (.t 3), none, []⟩,
  ⟨some 40, .load false 1 (.t 39), none, [5]⟩,
  ⟨some 41, .move (.t 5), none, []⟩,
  ⟨some 42, .indexAddr 3 none (.t 40) (.t 41), none, [6, 7]⟩,
  ⟨some 43, .load true 3 (.t 42), none, [8]⟩,
  ⟨some 44, .call true (.c (.fn 3 [])) [.t 38, .t 43], none, [4, 9]⟩,
  ⟨some 45, .not (.t 44), none, [10]⟩] ⟨r, B ++ List.replicate na none⟩) := z_draw X T na live r3_6 (by kernel_rfl) r B
theorem d6_12 (X : XEnv) (T : List Nat) (na : Nat) (live : List Nat) (r : List (Nat × AV)) (B : Boxs) : codeX X T (.region true na live r6_12) ⟨r, B⟩ = xEnd live (xOps (callX X) X.lin T true B.length [
  ⟨some 51, .fieldAddr 2 (.t 2), none, []⟩,
  ⟨some 52, .load false 1 (.t 51), none, [0]⟩,
  ⟨some 53, .move (.t 7), none, []⟩,
  ⟨some 54, .indexAddr 3 none (.t 52) (.t 53), none, [1, 2]⟩,
  ⟨some 55, .load true 3 (.t 54), none, [3]⟩,
  ⟨some 56, .fieldAddr 2 (.t 3), none, []⟩,
  ⟨some 57, .load false 1 (.t 56), none, [5]⟩,
  ⟨some 58, .move (.t 7), none, []⟩,
  ⟨some 59, .indexAddr 3 none (.t 57) (.t 58), none, [6, 7]⟩,
  ⟨some 60, .load true 3 (.t 59), none, [8]⟩,
  ⟨some 61, .call true (.c (.fn 6 [])) [.t 55, .t 60], none, [4, 9]⟩,
  ⟨some 8, .move (.t 61), none, [0, 1, 2, 3, 4, 5, 6, 7, 8, 9, 10]⟩] ⟨r, B ++ List.replicate na none⟩) := z_draw X T na live r6_12 (by kernel_rfl) r B
theorem d7_6 (X : XEnv) (T : List Nat) (na : Nat) (live : List Nat) (r : List (Nat × AV)) (B : Boxs) : codeX X T (.region true na live r7_6) ⟨r, B⟩ = xEnd live (xOps (callX X) X.lin T true B.length [
  ⟨some 17, .move (.t 0), none, []⟩,
  ⟨some 18, .move (.t 5), none, []⟩,
  ⟨some 19, .indexAddr 3 none (.t 17) (.t 18), none, [0, 1]⟩,
  ⟨some 20, .load true 3 (.t 19), none, [2]⟩,
  ⟨some 21, .move (.t 1), none, []⟩,
  ⟨some 22, .move (.t 5), none, []⟩,
  ⟨some 23, .indexAddr 3 none (.t 21) (.t 22), none, [4, 5]⟩,
  ⟨some 24, .load true 3 (.t 23), none, [6]⟩,
  ⟨some 25, .call true (.c (.fn 5 [])) [.t 20, .t 24], none, [3, 7]⟩,
  ⟨some 26, .not (.t 25), none, [8]⟩] ⟨r, B ++ List.replicate na none⟩) := z_draw X T na live r7_6 (by kernel_rfl) r B
theorem d15_6 (X : XEnv) (T : List Nat) (na : Nat) (live : List Nat) (r : List (Nat × AV)) (B : Boxs) : codeX X T (.region true na live r15_6) ⟨r, B⟩ = xEnd live (xOps (callX X) X.lin T true B.length [
  ⟨some 17, .move (.t 0), none, []⟩,
  ⟨some 18, .move (.t 5), none, []⟩,
  ⟨some 19, .indexAddr 3 none (.t 17) (.t 18), none, [0, 1]⟩,
  ⟨some 20, .load true 3 (.t 19), none, [2]⟩,
  ⟨some 21, .move (.t 1), none, []⟩,
  ⟨some 22, .move (.t 5), none, []⟩,
  ⟨some 23, .indexAddr 3 none (.t 21) (.t 22), none, [4, 5]⟩,
  ⟨some 24, .load true 3 (.t 23), none, [6]⟩,
  ⟨some 25, .call true (.c (.fn 20 [])) [.t 20, .t 24], none, [3, 7]⟩,
  ⟨some 26, .not (.t 25), none, [8]⟩] ⟨r, B ++ List.replicate na none⟩) := z_draw X T na live r15_6 (by kernel_rfl) r B
theorem d69_6 (X : XEnv) (T : List Nat) (na : Nat) (live : List Nat) (r : List (Nat × AV)) (B : Boxs) : codeX X T (.region true na live r69_6) ⟨r, B⟩ = xEnd live (xOps (callX X) X.lin T true B.length [
  ⟨some 17, .move (.t 0), none, []⟩,
  ⟨some 18, .move (.t 5), none, []⟩,
  ⟨some 19, .indexAddr 4 none (.t 17) (.t 18), none, [0, 1]⟩,
  ⟨some 20, .load true 4 (.t 19), none, [2]⟩,
  ⟨some 21, .move (.t 1), none, []⟩,
  ⟨some 22, .move (.t 5), none, []⟩,
  ⟨some 23, .indexAddr 4 none (.t 21) (.t 22), none, [4, 5]⟩,
  ⟨some 24, .load true 4 (.t 23), none, [6]⟩,
  ⟨some 25, .call true (.c (.fn 86 [])) [.t 20, .t 24], none, [3, 7]⟩,
  ⟨some 26, .not (.t 25), none, [8]⟩] ⟨r, B ++ List.replicate na none⟩) := z_draw X T na live r69_6 (by kernel_rfl) r B
theorem d84_10 (X : XEnv) (T : List Nat) (na : Nat) (live : List Nat) (r : List (Nat × AV)) (B : Boxs) : codeX X T (.region true na live r84_10) ⟨r, B⟩ = xEnd live (xOps (callX X) X.lin T true B.length [
  ⟨some 47, .fieldAddr 2 (.t 2), none, []⟩,
  ⟨some 48, .load false 1 (.t 47), none, [0]⟩,
  ⟨some 49, .move (.t 5), none, []⟩,
  ⟨some 50, .indexAddr 3 none (.t 48) (.t 49), none, [1, 2]⟩,
  ⟨some 51, .load true 3 (.t 50), none, [3]⟩,
  ⟨some 52, .fieldAddr 2 (.t 3), none, []⟩,
  ⟨some 53, .load false 1 (.t 52), none, [5]⟩,
  ⟨some 54, .move (.t 5), none, []⟩,
  ⟨some 55, .indexAddr 3 none (.t 53) (.t 54), none, [6, 7]⟩,
  ⟨some 56, .load true 3 (.t 55), none, [8]⟩,
  ⟨some 57, .call true (.c (.fn 3 [])) [.t 51, .t 56], none, [4, 9]⟩,
  ⟨some 58, .not (.t 57), none, [10]⟩] ⟨r, B ++ List.replicate na none⟩) := z_draw X T na live r84_10 (by kernel_rfl) r B
theorem d84_11 (X : XEnv) (T : List Nat) (na : Nat) (live : List Nat) (r : List (Nat × AV)) (B : Boxs) : codeX X T (.region true na live r84_11) ⟨r, B⟩ = xEnd live (xOps (callX X) X.lin T true B.length [
  ⟨some 59, .fieldAddr 2 (.t 2), none, []⟩,
  ⟨some 60, .load false 1 (.t 59), none, [0]⟩,
  ⟨some 61, .move (.t 5), none, []⟩,
  ⟨some 62, .indexAddr 3 none (.t 60) (.t 61), none, [1, 2]⟩,
  ⟨some 63, .load true 3 (.t 62), none, [3]⟩,
  ⟨some 64, .fieldAddr 2 (.t 3), none, []⟩,
  ⟨some 65, .load false 1 (.t 64), none, [5]⟩,
  ⟨some 66, .move (.t 5), none, []⟩,
  ⟨some 67, .indexAddr 3 none (.t 65) (.t 66), none, [6, 7]⟩,
  ⟨some 68, .load true 3 (.t 67), none, [8]⟩,
  ⟨some 69, .call true (.c (.fn 84 [])) [.t 63, .t 68], none, [4, 9]⟩,
  ⟨some 4, .move (.t 69), none, [0, 1, 2, 3, 4, 5, 6, 7, 8, 9, 10]⟩] ⟨r, B ++ List.replicate na none⟩) := z_draw X T na live r84_11 (by kernel_rfl) r B
theorem d137_8 (X : XEnv) (T : List Nat) (na : Nat) (live : List Nat) (r : List (Nat × AV)) (B : Boxs) : codeX X T (.region true na live r137_8) ⟨r, B⟩ = xEnd live (xOps (callX X) X.lin T true B.length [
  ⟨some 32, .move (.t 10), none, []⟩,
  ⟨some 33, .load false 1 (.t 6), none, []⟩,
  ⟨some 34, .load true 3 (.t 7), none, []⟩,
  ⟨some 35, .call true (.c (.fn 150 [])) [.t 34], none, [2]⟩,
  ⟨some 36, .build [.int .i64 0, .int .i64 0, .int .i64 0, .sl .nil []] [(0, 1, .t 33), (1, 3, .t 35)], none, [1, 3]⟩,
  ⟨some 37, .buildSlice 4 (.agg [.int .i64 0, .int .i64 0, .int .i64 0, .sl .nil []]) 1 [(0, .t 36)], none, [4]⟩,
  ⟨some 38, .append 4 48 (.t 32) (.t 37), none, [0, 3, 5]⟩,
  ⟨some 10, .move (.t 38), none, [0, 1, 2, 3, 4, 5, 6]⟩] ⟨r, B ++ List.replicate na none⟩) := z_draw X T na live r137_8 (by kernel_rfl) r B
theorem d137_10 (X : XEnv) (T : List Nat) (na : Nat) (live : List Nat) (r : List (Nat × AV)) (B : Boxs) : codeX X T (.region true na live r137_10) ⟨r, B⟩ = xEnd live (xOps (callX X) X.lin T true B.length [
  ⟨some 43, .move (.t 10), none, []⟩,
  ⟨some 44, .fieldAddr 0 (.t 13), none, []⟩,
  ⟨some 45, .load false 1 (.t 44), none, [1]⟩,
  ⟨some 46, .move (.t 0), none, []⟩,
  ⟨some 47, .move (.t 9), none, []⟩,
  ⟨some 48, .fieldAddr 1 (.t 13), none, []⟩,
  ⟨some 49, .load true 3 (.t 48), none, [5]⟩,
  ⟨some 50, .call true (.c (.fn 135 [])) [.t 46, .t 47, .t 49], none, [3, 4, 6]⟩,
  ⟨some 51, .build [.int .i64 0, .int .i64 0, .int .i64 0, .sl .nil []] [(0, 1, .t 45), (1, 3, .t 50)], none, [2, 7]⟩,
  ⟨some 52, .buildSlice 4 (.agg [.int .i64 0, .int .i64 0, .int .i64 0, .sl .nil []]) 1 [(0, .t 51)], none, [8]⟩,
  ⟨some 53, .append 4 48 (.t 43) (.t 52), none, [0, 7, 9]⟩,
  ⟨some 10, .move (.t 53), none, [0, 1, 2, 3, 4, 5, 6, 7, 8, 9, 10]⟩] ⟨r, B ++ List.replicate na none⟩) := z_draw X T na live r137_10 (by kernel_rfl) r B
theorem d137_13 (X : XEnv) (T : List Nat) (na : Nat) (live : List Nat) (r : List (Nat × AV)) (B : Boxs) : codeX X T (.region true na live r137_13) ⟨r, B⟩ = xEnd live (xOps (callX X) X.lin T true B.length [
  ⟨some 57, .move (.t 10), none, []⟩,
  ⟨some 58, .load false 1 (.t 6), none, []⟩,
  ⟨some 59, .load true 3 (.t 7), none, []⟩,
  ⟨some 60, .call true (.c (.fn 150 [])) [.t 59], none, [2]⟩,
  ⟨some 61, .build [.int .i64 0, .int .i64 0, .int .i64 0, .sl .nil []] [(0, 1, .t 58), (1, 3, .t 60)], none, [1, 3]⟩,
  ⟨some 62, .buildSlice 4 (.agg [.int .i64 0, .int .i64 0, .int .i64 0, .sl .nil []]) 1 [(0, .t 61)], none, [4]⟩,
  ⟨some 63, .append 4 48 (.t 57) (.t 62), none, [0, 3, 5]⟩,
  ⟨some 10, .move (.t 63), none, [0, 1, 2, 3, 4, 5, 6]⟩] ⟨r, B ++ List.replicate na none⟩) := z_draw X T na live r137_13 (by kernel_rfl) r B
theorem d142_11 (X : XEnv) (T : List Nat) (na : Nat) (live : List Nat) (r : List (Nat × AV)) (B : Boxs) : codeX X T (.region true na live r142_11) ⟨r, B⟩ = xEnd live (xOps (callX X) X.lin T true B.length [
  ⟨some 49, .move (.t 9), none, []⟩,
  ⟨some 50, .move (.t 1), none, []⟩,
  ⟨some 51, .move (.t 12), none, []⟩,
  ⟨some 52, .indexAddr 4 none (.t 50) (.t 51), none, [1, 2]⟩,
  ⟨some 53, .fieldAddr 0 (.t 52), none, [3]⟩,
  ⟨some 54, .load false 1 (.t 53), none, [4]⟩,
  ⟨some 55, .move (.t 0), none, []⟩,
  ⟨some 56, .move (.t 10), none, []⟩,
  ⟨some 57, .move (.t 1), none, []⟩,
  ⟨some 58, .move (.t 12), none, []⟩,
  ⟨some 59, .indexAddr 4 none (.t 57) (.t 58), none, [8, 9]⟩,
  ⟨some 60, .fieldAddr 1 (.t 59), none, [10]⟩,
  ⟨some 61, .load true 3 (.t 60), none, [11]⟩,
  ⟨some 62, .call true (.c (.fn 141 [])) [.t 55, .t 56, .t 61], none, [6, 7, 12]⟩,
  ⟨some 63, .build [.int .i64 0, .int .i64 0, .int .i64 0, .sl .nil []] [(0, 1, .t 54), (1, 3, .t 62)], none, [5, 13]⟩,
  ⟨some 64, .buildSlice 4 (.agg [.int .i64 0, .int .i64 0, .int .i64 0, .sl .nil []]) 1 [(0, .t 63)], none, [14]⟩,
  ⟨some 65, .append 4 48 (.t 49) (.t 64), none, [0, 13, 15]⟩,
  ⟨some 9, .move (.t 65), none, [0, 1, 2, 3, 4, 5, 6, 7, 8, 9, 10, 11, 12, 13, 14, 15, 16]⟩] ⟨r, B ++ List.replicate na none⟩) := z_draw X T na live r142_11 (by kernel_rfl) r B
theorem d146_5 (X : XEnv) (T : List Nat) (na : Nat) (live : List Nat) (r : List (Nat × AV)) (B : Boxs) : codeX X T (.region true na live r146_5) ⟨r, B⟩ = xEnd live (xOps (callX X) X.lin T true B.length [
  ⟨some 17, .fieldAddr 2 (.t 3), none, []⟩,
  ⟨some 18, .load false 1 (.t 17), none, [0]⟩,
  ⟨some 19, .fieldAddr 2 (.t 1), none, []⟩,
  ⟨some 20, .load false 1 (.t 19), none, [2]⟩,
  ⟨some 21, .move (.t 4), none, []⟩,
  ⟨some 22, .indexAddr 3 none (.t 20) (.t 21), none, [3, 4]⟩,
  ⟨some 23, .load true 3 (.t 22), none, [5]⟩,
  ⟨some 24, .call true (.c (.fn 146 [])) [.t 23], none, [6]⟩,
  ⟨some 25, .buildSlice 3 (.agg [.int .i64 0, .int .i64 0, .sl .nil []]) 1 [(0, .t 24)], none, [7]⟩,
  ⟨some 26, .append 3 40 (.t 18) (.t 25), none, [1, 7, 8]⟩,
  ⟨some 27, .fieldAddr 2 (.t 3), none, [0, 1, 2, 3, 4, 5, 6, 7, 8, 9]⟩,
  ⟨none, .store false 1 (.t 27) (.t 26), none, [0, 1, 2, 3, 4, 5, 6, 7, 8, 9, 10]⟩] ⟨r, B ++ List.replicate na none⟩) := z_draw X T na live r146_5 (by kernel_rfl) r B
theorem d152_7 (X : XEnv) (T : List Nat) (na : Nat) (live : List Nat) (r : List (Nat × AV)) (B : Boxs) : codeX X T (.region true na live r152_7) ⟨r, B⟩ = xEnd live (xOps (callX X) X.lin T true B.length [
  ⟨some 32, .fieldAddr 2 (.t 5), none, []⟩,
  ⟨some 33, .load false 1 (.t 32), none, [0]⟩,
  ⟨some 34, .move (.t 0), none, []⟩,
  ⟨some 35, .fieldAddr 2 (.t 3), none, []⟩,
  ⟨some 36, .load false 1 (.t 35), none, [3]⟩,
  ⟨some 37, .move (.t 6), none, []⟩,
  ⟨some 38, .indexAddr 3 none (.t 36) (.t 37), none, [4, 5]⟩,
  ⟨some 39, .load true 3 (.t 38), none, [6]⟩,
  ⟨some 40, .call true (.c (.fn 152 [])) [.t 34, .t 39], none, [2, 7]⟩,
  ⟨some 41, .buildSlice 3 (.agg [.int .i64 0, .int .i64 0, .sl .nil []]) 1 [(0, .t 40)], none, [8]⟩,
  ⟨some 42, .append 3 40 (.t 33) (.t 41), none, [1, 8, 9]⟩,
  ⟨some 43, .fieldAddr 2 (.t 5), none, [0, 1, 2, 3, 4, 5, 6, 7, 8, 9, 10]⟩,
  ⟨none, .store false 1 (.t 43) (.t 42), none, [0, 1, 2, 3, 4, 5, 6, 7, 8, 9, 10, 11]⟩] ⟨r, B ++ List.replicate na none⟩) := z_draw X T na live r152_7 (by kernel_rfl) r B
theorem d153_9 (X : XEnv) (T : List Nat) (na : Nat) (live : List Nat) (r : List (Nat × AV)) (B : Boxs) : codeX X T (.region true na live r153_9) ⟨r, B⟩ = xEnd live (xOps (callX X) X.lin T true B.length [
  ⟨some 35, .fieldAddr 2 (.t 5), none, []⟩,
  ⟨some 36, .load false 1 (.t 35), none, [0]⟩,
  ⟨some 37, .fieldAddr 2 (.t 7), none, []⟩,
  ⟨some 38, .load false 1 (.t 37), none, [2]⟩,
  ⟨some 39, .move (.t 8), none, []⟩,
  ⟨some 40, .indexAddr 3 none (.t 38) (.t 39), none, [3, 4]⟩,
  ⟨some 41, .load true 3 (.t 40), none, [5]⟩,
  ⟨some 42, .call true (.c (.fn 154 [])) [.t 36, .t 41], none, [1, 6]⟩,
  ⟨some 43, .fieldAddr 2 (.t 5), none, [0, 1, 2, 3, 4, 5, 6, 7]⟩,
  ⟨none, .store false 1 (.t 43) (.t 42), none, [0, 1, 2, 3, 4, 5, 6, 7, 8]⟩] ⟨r, B ++ List.replicate na none⟩) := z_draw X T na live r153_9 (by kernel_rfl) r B
theorem d154_2 (X : XEnv) (T : List Nat) (na : Nat) (live : List Nat) (r : List (Nat × AV)) (B : Boxs) : codeX X T (.region true na live r154_2) ⟨r, B⟩ = xEnd live (xOps (callX X) X.lin T true B.length [
  ⟨some 7, .move (.t 5), none, []⟩,
  ⟨some 8, .move (.t 0), none, []⟩,
  ⟨some 9, .len false (.t 8), none, [1]⟩,
  ⟨some 10, .bin .lss (.t 7) (.t 9), none, [0, 2]⟩,
  ⟨some 11, .move (.t 10), none, [3]⟩,
  ⟨some 12, .load true 3 (.t 3), some (11, true), [4]⟩,
  ⟨some 13, .move (.t 0), some (11, true), [4]⟩,
  ⟨some 14, .move (.t 5), some (11, true), [4]⟩,
  ⟨some 15, .indexAddr 3 none (.t 13) (.t 14), some (11, true), [4, 6, 7]⟩,
  ⟨some 16, .load true 3 (.t 15), some (11, true), [4, 8]⟩,
  ⟨some 17, .call true (.c (.fn 84 [])) [.t 12, .t 16], some (11, true), [4, 5, 9]⟩,
  ⟨some 18, .not (.t 17), some (11, true), [4, 10]⟩,
  ⟨some 19, .pick (.t 11) (.t 18) (.c (.d (.bool false))), none, [4, 11]⟩] ⟨r, B ++ List.replicate na none⟩) := z_draw X T na live r154_2 (by kernel_rfl) r B
theorem d172_4 (X : XEnv) (T : List Nat) (na : Nat) (live : List Nat) (r : List (Nat × AV)) (B : Boxs) : codeX X T (.region true na live r172_4) ⟨r, B⟩ = xEnd live (xOps (callX X) X.lin T true B.length [
  ⟨some 18, .move (.t 9), none, []⟩,
  ⟨some 19, .move (.t 1), none, []⟩,
  ⟨some 20, .bin .gtr (.t 18) (.t 19), none, [0, 1]⟩,
  ⟨some 21, .move (.t 20), none, [2]⟩,
  ⟨some 22, .move (.t 3), some (21, true), [3]⟩,
  ⟨some 23, .move (.t 0), some (21, true), [3]⟩,
  ⟨some 24, .move (.t 9), some (21, true), [3]⟩,
  ⟨some 25, .indexAddr 3 none (.t 23) (.t 24), some (21, true), [3, 5, 6]⟩,
  ⟨some 26, .load true 3 (.t 25), some (21, true), [3, 7]⟩,
  ⟨some 27, .move (.t 0), some (21, true), [3]⟩,
  ⟨some 28, .move (.t 9), some (21, true), [3]⟩,
  ⟨some 29, .bin .sub (.t 28) (.c (.d (.int .i64 1))), some (21, true), [3, 10]⟩,
  ⟨some 30, .indexAddr 3 none (.t 27) (.t 29), some (21, true), [3, 9, 11]⟩,
  ⟨some 31, .load true 3 (.t 30), some (21, true), [3, 12]⟩,
  ⟨some 32, .call false (.t 22) [.t 26, .t 31], some (21, true), [3, 4, 8, 13]⟩,
  ⟨some 33, .bin .lss (.t 32) (.c (.d (.int .i64 0))), some (21, true), [3, 14]⟩,
  ⟨some 34, .pick (.t 21) (.t 33) (.c (.d (.bool false))), none, [3, 15]⟩] ⟨r, B ++ List.replicate na none⟩) := z_draw X T na live r172_4 (by kernel_rfl) r B
theorem d172_6 (X : XEnv) (T : List Nat) (na : Nat) (live : List Nat) (r : List (Nat × AV)) (B : Boxs) : codeX X T (.region true na live r172_6) ⟨r, B⟩ = xEnd live (xOps (callX X) X.lin T true B.length [
  ⟨some 37, .move (.t 0), none, []⟩,
  ⟨some 38, .move (.t 9), none, []⟩,
  ⟨some 39, .move (.t 0), none, []⟩,
  ⟨some 40, .move (.t 9), none, []⟩,
  ⟨some 41, .bin .sub (.t 40) (.c (.d (.int .i64 1))), none, [3]⟩,
  ⟨some 42, .move (.t 0), none, []⟩,
  ⟨some 43, .move (.t 9), none, []⟩,
  ⟨some 44, .bin .sub (.t 43) (.c (.d (.int .i64 1))), none, [6]⟩,
  ⟨some 45, .indexAddr 3 none (.t 42) (.t 44), none, [5, 7]⟩,
  ⟨some 46, .load true 3 (.t 45), none, [8]⟩,
  ⟨some 47, .move (.t 0), none, []⟩,
  ⟨some 48, .move (.t 9), none, []⟩,
  ⟨some 49, .indexAddr 3 none (.t 47) (.t 48), none, [10, 11]⟩,
  ⟨some 50, .load true 3 (.t 49), none, [12]⟩,
  ⟨some 51, .indexAddr 3 none (.t 37) (.t 38), none, [0, 1, 5, 6, 7, 8, 9, 13]⟩,
  ⟨none, .store false 3 (.t 51) (.t 46), none, [0, 1, 5, 6, 7, 8, 9, 13, 14]⟩,
  ⟨some 52, .indexAddr 3 none (.t 39) (.t 41), none, [0, 1, 2, 3, 4, 5, 6, 7, 8, 9, 10, 11, 12, 13, 14, 15]⟩,
  ⟨none, .store false 3 (.t 52) (.t 50), none, [0, 1, 2, 3, 4, 5, 6, 7, 8, 9, 10, 11, 12, 13, 14, 15, 16]⟩] ⟨r, B ++ List.replicate na none⟩) := z_draw X T na live r172_6 (by kernel_rfl) r B
theorem d173_5 (X : XEnv) (T : List Nat) (na : Nat) (live : List Nat) (r : List (Nat × AV)) (B : Boxs) : codeX X T (.region true na live r173_5) ⟨r, B⟩ = xEnd live (xOps (callX X) X.lin T true B.length [
  ⟨some 40, .move (.t 4), none, []⟩,
  ⟨some 41, .move (.t 0), none, []⟩,
  ⟨some 42, .move (.t 12), none, []⟩,
  ⟨some 43, .indexAddr 3 none (.t 41) (.t 42), none, [1, 2]⟩,
  ⟨some 44, .load true 3 (.t 43), none, [3]⟩,
  ⟨some 45, .move (.t 0), none, []⟩,
  ⟨some 46, .move (.t 1), none, []⟩,
  ⟨some 47, .indexAddr 3 none (.t 45) (.t 46), none, [5, 6]⟩,
  ⟨some 48, .load true 3 (.t 47), none, [7]⟩,
  ⟨some 49, .call false (.t 40) [.t 44, .t 48], none, [0, 4, 8]⟩,
  ⟨some 50, .bin .lss (.t 49) (.c (.d (.int .i64 0))), none, [9]⟩] ⟨r, B ++ List.replicate na none⟩) := z_draw X T na live r173_5 (by kernel_rfl) r B
theorem d173_11 (X : XEnv) (T : List Nat) (na : Nat) (live : List Nat) (r : List (Nat × AV)) (B : Boxs) : codeX X T (.region true na live r173_11) ⟨r, B⟩ = xEnd live (xOps (callX X) X.lin T true B.length [
  ⟨some 61, .move (.t 0), none, []⟩,
  ⟨some 62, .move (.t 13), none, []⟩,
  ⟨some 63, .move (.t 0), none, []⟩,
  ⟨some 64, .move (.t 13), none, []⟩,
  ⟨some 65, .bin .add (.t 64) (.c (.d (.int .i64 1))), none, [3]⟩,
  ⟨some 66, .move (.t 0), none, []⟩,
  ⟨some 67, .move (.t 13), none, []⟩,
  ⟨some 68, .bin .add (.t 67) (.c (.d (.int .i64 1))), none, [6]⟩,
  ⟨some 69, .indexAddr 3 none (.t 66) (.t 68), none, [5, 7]⟩,
  ⟨some 70, .load true 3 (.t 69), none, [8]⟩,
  ⟨some 71, .move (.t 0), none, []⟩,
  ⟨some 72, .move (.t 13), none, []⟩,
  ⟨some 73, .indexAddr 3 none (.t 71) (.t 72), none, [10, 11]⟩,
  ⟨some 74, .load true 3 (.t 73), none, [12]⟩,
  ⟨some 75, .indexAddr 3 none (.t 61) (.t 62), none, [0, 1, 5, 6, 7, 8, 9, 13]⟩,
  ⟨none, .store false 3 (.t 75) (.t 70), none, [0, 1, 5, 6, 7, 8, 9, 13, 14]⟩,
  ⟨some 76, .indexAddr 3 none (.t 63) (.t 65), none, [0, 1, 2, 3, 4, 5, 6, 7, 8, 9, 10, 11, 12, 13, 14, 15]⟩,
  ⟨none, .store false 3 (.t 76) (.t 74), none, [0, 1, 2, 3, 4, 5, 6, 7, 8, 9, 10, 11, 12, 13, 14, 15, 16]⟩] ⟨r, B ++ List.replicate na none⟩) := z_draw X T na live r173_11 (by kernel_rfl) r B
theorem d173_17 (X : XEnv) (T : List Nat) (na : Nat) (live : List Nat) (r : List (Nat × AV)) (B : Boxs) : codeX X T (.region true na live r173_17) ⟨r, B⟩ = xEnd live (xOps (callX X) X.lin T true B.length [
  ⟨some 92, .move (.t 4), none, []⟩,
  ⟨some 93, .move (.t 0), none, []⟩,
  ⟨some 94, .move (.t 2), none, []⟩,
  ⟨some 95, .indexAddr 3 none (.t 93) (.t 94), none, [1, 2]⟩,
  ⟨some 96, .load true 3 (.t 95), none, [3]⟩,
  ⟨some 97, .move (.t 0), none, []⟩,
  ⟨some 98, .move (.t 16), none, []⟩,
  ⟨some 99, .indexAddr 3 none (.t 97) (.t 98), none, [5, 6]⟩,
  ⟨some 100, .load true 3 (.t 99), none, [7]⟩,
  ⟨some 101, .call false (.t 92) [.t 96, .t 100], none, [0, 4, 8]⟩,
  ⟨some 102, .bin .lss (.t 101) (.c (.d (.int .i64 0))), none, [9]⟩,
  ⟨some 103, .not (.t 102), none, [10]⟩] ⟨r, B ++ List.replicate na none⟩) := z_draw X T na live r173_17 (by kernel_rfl) r B
theorem d173_23 (X : XEnv) (T : List Nat) (na : Nat) (live : List Nat) (r : List (Nat × AV)) (B : Boxs) : codeX X T (.region true na live r173_23) ⟨r, B⟩ = xEnd live (xOps (callX X) X.lin T true B.length [
  ⟨some 113, .move (.t 0), none, []⟩,
  ⟨some 114, .move (.t 17), none, []⟩,
  ⟨some 115, .move (.t 0), none, []⟩,
  ⟨some 116, .move (.t 17), none, []⟩,
  ⟨some 117, .bin .sub (.t 116) (.c (.d (.int .i64 1))), none, [3]⟩,
  ⟨some 118, .move (.t 0), none, []⟩,
  ⟨some 119, .move (.t 17), none, []⟩,
  ⟨some 120, .bin .sub (.t 119) (.c (.d (.int .i64 1))), none, [6]⟩,
  ⟨some 121, .indexAddr 3 none (.t 118) (.t 120), none, [5, 7]⟩,
  ⟨some 122, .load true 3 (.t 121), none, [8]⟩,
  ⟨some 123, .move (.t 0), none, []⟩,
  ⟨some 124, .move (.t 17), none, []⟩,
  ⟨some 125, .indexAddr 3 none (.t 123) (.t 124), none, [10, 11]⟩,
  ⟨some 126, .load true 3 (.t 125), none, [12]⟩,
  ⟨some 127, .indexAddr 3 none (.t 113) (.t 114), none, [0, 1, 5, 6, 7, 8, 9, 13]⟩,
  ⟨none, .store false 3 (.t 127) (.t 122), none, [0, 1, 5, 6, 7, 8, 9, 13, 14]⟩,
  ⟨some 128, .indexAddr 3 none (.t 115) (.t 117), none, [0, 1, 2, 3, 4, 5, 6, 7, 8, 9, 10, 11, 12, 13, 14, 15]⟩,
  ⟨none, .store false 3 (.t 128) (.t 126), none, [0, 1, 2, 3, 4, 5, 6, 7, 8, 9, 10, 11, 12, 13, 14, 15, 16]⟩] ⟨r, B ++ List.replicate na none⟩) := z_draw X T na live r173_23 (by kernel_rfl) r B
theorem d173_35 (X : XEnv) (T : List Nat) (na : Nat) (live : List Nat) (r : List (Nat × AV)) (B : Boxs) : codeX X T (.region true na live r173_35) ⟨r, B⟩ = xEnd live (xOps (callX X) X.lin T true B.length [
  ⟨some 158, .move (.t 4), none, []⟩,
  ⟨some 159, .move (.t 0), none, []⟩,
  ⟨some 160, .move (.t 22), none, []⟩,
  ⟨some 161, .move (.t 23), none, []⟩,
  ⟨some 162, .bin .sub (.t 160) (.t 161), none, [2, 3]⟩,
  ⟨some 163, .indexAddr 3 none (.t 159) (.t 162), none, [1, 4]⟩,
  ⟨some 164, .load true 3 (.t 163), none, [5]⟩,
  ⟨some 165, .move (.t 0), none, []⟩,
  ⟨some 166, .move (.t 23), none, []⟩,
  ⟨some 167, .indexAddr 3 none (.t 165) (.t 166), none, [7, 8]⟩,
  ⟨some 168, .load true 3 (.t 167), none, [9]⟩,
  ⟨some 169, .call false (.t 158) [.t 164, .t 168], none, [0, 6, 10]⟩,
  ⟨some 170, .bin .lss (.t 169) (.c (.d (.int .i64 0))), none, [11]⟩,
  ⟨some 171, .not (.t 170), none, [12]⟩] ⟨r, B ++ List.replicate na none⟩) := z_draw X T na live r173_35 (by kernel_rfl) r B
theorem d175_3 (X : XEnv) (T : List Nat) (na : Nat) (live : List Nat) (r : List (Nat × AV)) (B : Boxs) : codeX X T (.region true na live r175_3) ⟨r, B⟩ = xEnd live (xOps (callX X) X.lin T true B.length [
  ⟨some 16, .move (.t 0), none, []⟩,
  ⟨some 17, .move (.t 1), none, []⟩,
  ⟨some 18, .move (.t 10), none, []⟩,
  ⟨some 19, .bin .add (.t 17) (.t 18), none, [1, 2]⟩,
  ⟨some 20, .move (.t 0), none, []⟩,
  ⟨some 21, .move (.t 2), none, []⟩,
  ⟨some 22, .move (.t 10), none, []⟩,
  ⟨some 23, .bin .add (.t 21) (.t 22), none, [5, 6]⟩,
  ⟨some 24, .move (.t 0), none, []⟩,
  ⟨some 25, .move (.t 2), none, []⟩,
  ⟨some 26, .move (.t 10), none, []⟩,
  ⟨some 27, .bin .add (.t 25) (.t 26), none, [9, 10]⟩,
  ⟨some 28, .indexAddr 3 none (.t 24) (.t 27), none, [8, 11]⟩,
  ⟨some 29, .load true 3 (.t 28), none, [12]⟩,
  ⟨some 30, .move (.t 0), none, []⟩,
  ⟨some 31, .move (.t 1), none, []⟩,
  ⟨some 32, .move (.t 10), none, []⟩,
  ⟨some 33, .bin .add (.t 31) (.t 32), none, [15, 16]⟩,
  ⟨some 34, .indexAddr 3 none (.t 30) (.t 33), none, [14, 17]⟩,
  ⟨some 35, .load true 3 (.t 34), none, [18]⟩,
  ⟨some 36, .indexAddr 3 none (.t 16) (.t 19), none, [0, 1, 2, 3, 8, 9, 10, 11, 12, 13, 19]⟩,
  ⟨none, .store false 3 (.t 36) (.t 29), none, [0, 1, 2, 3, 8, 9, 10, 11, 12, 13, 19, 20]⟩,
  ⟨some 37, .indexAddr 3 none (.t 20) (.t 23), none, [0, 1, 2, 3, 4, 5, 6, 7, 8, 9, 10, 11, 12, 13, 14, 15, 16, 17, 18, 19, 20, 21]⟩,
  ⟨none, .store false 3 (.t 37) (.t 35), none, [0, 1, 2, 3, 4, 5, 6, 7, 8, 9, 10, 11, 12, 13, 14, 15, 16, 17, 18, 19, 20, 21, 22]⟩] ⟨r, B ++ List.replicate na none⟩) := z_draw X T na live r175_3 (by kernel_rfl) r B
theorem d358_11 (X : XEnv) (T : List Nat) (na : Nat) (live : List Nat) (r : List (Nat × AV)) (B : Boxs) : codeX X T (.region true na live r358_11) ⟨r, B⟩ = xEnd live (xOps (callX X) X.lin T true B.length [
  ⟨some 34, .move (.t 0), none, []⟩,
  ⟨some 35, .call true (.c (.fn 12 [])) [.t 34], none, [0]⟩,
  ⟨some 36, .move (.t 1), none, []⟩,
  ⟨some 37, .call true (.c (.fn 66 [])) [.t 36], none, [1, 2]⟩,
  ⟨some 38, .move (.t 2), none, []⟩,
  ⟨some 39, .load true 3 (.t 7), none, []⟩,
  ⟨some 40, .call true (.c (.fn 2 [])) [.t 39], none, [3, 5]⟩,
  ⟨some 41, .call true (.c (.fn 142 [])) [.t 35, .t 37, .t 38, .t 40], none, [1, 3, 4, 6]⟩,
  ⟨some 10, .move (.t 41), none, [0, 1, 2, 3, 4, 5, 6, 7]⟩] ⟨r, B ++ List.replicate na none⟩) := z_draw X T na live r358_11 (by kernel_rfl) r B
theorem d358_22 (X : XEnv) (T : List Nat) (na : Nat) (live : List Nat) (r : List (Nat × AV)) (B : Boxs) : codeX X T (.region true na live r358_22) ⟨r, B⟩ = xEnd live (xOps (callX X) X.lin T true B.length [
  ⟨some 67, .load true 3 (.t 13), none, []⟩,
  ⟨some 68, .load true 3 (.t 7), none, []⟩,
  ⟨some 69, .call true (.c (.fn 2 [])) [.t 68], none, [1]⟩,
  ⟨some 70, .callT false (.c (.fn 5 [])) [.t 67, .t 69], none, [0, 2]⟩,
  ⟨some 71, .not (.t 70), none, [3]⟩] ⟨r, B ++ List.replicate na none⟩) := z_draw X T na live r358_22 (by kernel_rfl) r B
theorem d358_38 (X : XEnv) (T : List Nat) (na : Nat) (live : List Nat) (r : List (Nat × AV)) (B : Boxs) : codeX X T (.region true na live r358_38) ⟨r, B⟩ = xEnd live (xOps (callX X) X.lin T true B.length [
  ⟨some 100, .move (.t 0), none, []⟩,
  ⟨some 101, .call true (.c (.fn 12 [])) [.t 100], none, [0]⟩,
  ⟨some 102, .move (.t 1), none, []⟩,
  ⟨some 103, .call true (.c (.fn 66 [])) [.t 102], none, [1, 2]⟩,
  ⟨some 104, .move (.t 2), none, []⟩,
  ⟨some 105, .load true 3 (.t 7), none, []⟩,
  ⟨some 106, .call true (.c (.fn 2 [])) [.t 105], none, [3, 5]⟩,
  ⟨some 107, .call true (.c (.fn 137 [])) [.t 101, .t 103, .t 104, .t 106], none, [1, 3, 4, 6]⟩,
  ⟨some 18, .move (.t 107), none, [0, 1, 2, 3, 4, 5, 6, 7]⟩] ⟨r, B ++ List.replicate na none⟩) := z_draw X T na live r358_38 (by kernel_rfl) r B
theorem look_in : ∀ {l : List (Nat × VFn)} {k : Nat} {v : VFn}, look l k = some v → (k, v) ∈ l
  | [], _, _, h => by simp [look] at h
  | (a, u) :: r, k, v, h => by
    simp only [look] at h
    split at h
    · rename_i hk
      simp at h; subst h; subst hk; simp
    · exact List.mem_cons_of_mem _ (look_in h)
theorem lin_all : codes.all (fun q => q.2.linOK (linOf lins q.1)) = true := by kernel_rfl
theorem spec_all : specs.all (fun q => q.2.pre.linOK (linOf lins q.1) && q.2.rest.linOK (linOf lins q.1) && linDistinct (linOf lins q.1) (q.2.results.flatMap VRes.vx) && (linOf lins q.1).all (fun j => decide (q.2.np ≤ j))) = true := by kernel_rfl
theorem nats_ref : ∀ q, q ∈ nats → NatRef q.2 (natV q.2) ∧ linOf lins q.1 = [] := List.forall_mem_nil _
theorem xok : XOK XV := ⟨fun f vf h => List.all_eq_true.1 lin_all (f, vf) (look_in h), fun f g h => ⟨natV g, by show (lookN nats f).map natV = _; rw [show lookN nats f = some g from h]; rfl, (nats_ref (f, g) (lookN_mem h)).1, (nats_ref (f, g) (lookN_mem h)).2⟩, fun f h => by show (lookN nats f).map natV = _; rw [show lookN nats f = none from h]; rfl, fun f sf h => by
  have := List.all_eq_true.1 spec_all (f, sf) (lookS_mem h)
  simp only [Bool.and_eq_true] at this
  exact ⟨this.1.1.1, this.1.1.2, this.1.2, this.2⟩⟩
end Go.Proofs.Ytnjgnjejkmcgmaa.VS
