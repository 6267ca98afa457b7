/- Which registers of each function may own rows; the functions for the evaluator without names. -/
import Derived.Test.YtficfeekkljoeaaNat2
import Derived.Test.YtficfeekkljoeaaCode
import Derived.KernelRfl
namespace Go.Proofs.Ytficfeekkljoeaa.VS
set_option linter.unusedVariables false
def lins : List (Nat × List Nat) := [(2, [12, 14]), (8, [2, 3, 20, 22]), (12, [2, 3, 22]), (25, [15]), (78, [70]), (104, [2, 4, 8]), (105, [8]), (107, [2, 5, 6, 7]), (110, [2, 5]), (111, [4, 12, 26, 27]), (112, [4, 6, 10, 11, 12, 27, 31, 32, 34, 35, 36, 40]), (118, [28]), (146, [9, 18, 24, 25, 26, 28]), (150, [5, 7]), (151, [2, 3, 6, 12, 13, 15, 16, 17, 19]), (338, [38, 45, 46, 47, 52, 54, 55, 59, 60, 61, 140, 147, 148, 149]), (339, [14, 16, 18, 20]), (340, [12, 14, 20, 21, 27, 28, 29, 30])]
def linOf : List (Nat × List Nat) → Nat → List Nat
  | [], _ => []
  | (k, v) :: r, n => if n = k then v else linOf r n
noncomputable def XV : XEnv := ⟨E, linOf lins, lookN nats⟩
/-- The same without native functions. -/
noncomputable def XW : XEnv := ⟨⟨look codes, fun _ => none, fun _ => none⟩, linOf lins, fun _ => none⟩
@[simp] theorem lin_1 : XV.lin 1 = [] := by kernel_rfl
theorem xcode_1 : XV.env.code 1 = some v1 := by kernel_rfl
@[simp] theorem lin_2 : XV.lin 2 = [12, 14] := by kernel_rfl
theorem xcode_2 : XV.env.code 2 = some v2 := by kernel_rfl
@[simp] theorem lin_3 : XV.lin 3 = [] := by kernel_rfl
theorem xcode_3 : XV.env.code 3 = some v3 := by kernel_rfl
@[simp] theorem lin_5 : XV.lin 5 = [] := by kernel_rfl
theorem xcode_5 : XV.env.code 5 = some v5 := by kernel_rfl
@[simp] theorem lin_6 : XV.lin 6 = [] := by kernel_rfl
theorem xcode_6 : XV.env.code 6 = some v6 := by kernel_rfl
@[simp] theorem lin_7 : XV.lin 7 = [] := by kernel_rfl
theorem xcode_7 : XV.env.code 7 = some v7 := by kernel_rfl
@[simp] theorem lin_8 : XV.lin 8 = [2, 3, 20, 22] := by kernel_rfl
theorem xcode_8 : XV.env.code 8 = some v8 := by kernel_rfl
@[simp] theorem lin_9 : XV.lin 9 = [] := by kernel_rfl
theorem xcode_9 : XV.env.code 9 = some v9 := by kernel_rfl
@[simp] theorem lin_11 : XV.lin 11 = [] := by kernel_rfl
theorem xcode_11 : XV.env.code 11 = some v11 := by kernel_rfl
@[simp] theorem lin_12 : XV.lin 12 = [2, 3, 22] := by kernel_rfl
theorem xcode_12 : XV.env.code 12 = some v12 := by kernel_rfl
@[simp] theorem lin_13 : XV.lin 13 = [] := by kernel_rfl
theorem xcode_13 : XV.env.code 13 = some v13 := by kernel_rfl
@[simp] theorem lin_14 : XV.lin 14 = [] := by kernel_rfl
theorem xcode_14 : XV.env.code 14 = some v14 := by kernel_rfl
@[simp] theorem lin_15 : XV.lin 15 = [] := by kernel_rfl
theorem xcode_15 : XV.env.code 15 = some v15 := by kernel_rfl
@[simp] theorem lin_16 : XV.lin 16 = [] := by kernel_rfl
theorem xcode_16 : XV.env.code 16 = some v16 := by kernel_rfl
@[simp] theorem lin_17 : XV.lin 17 = [] := by kernel_rfl
theorem xcode_17 : XV.env.code 17 = some v17 := by kernel_rfl
@[simp] theorem lin_18 : XV.lin 18 = [] := by kernel_rfl
theorem xcode_18 : XV.env.code 18 = some v18 := by kernel_rfl
@[simp] theorem lin_19 : XV.lin 19 = [] := by kernel_rfl
theorem xcode_19 : XV.env.code 19 = some v19 := by kernel_rfl
@[simp] theorem lin_20 : XV.lin 20 = [] := by kernel_rfl
theorem xcode_20 : XV.env.code 20 = some v20 := by kernel_rfl
@[simp] theorem lin_22 : XV.lin 22 = [] := by kernel_rfl
theorem xcode_22 : XV.env.code 22 = some v22 := by kernel_rfl
@[simp] theorem lin_23 : XV.lin 23 = [] := by kernel_rfl
theorem xcode_23 : XV.env.code 23 = some v23 := by kernel_rfl
@[simp] theorem lin_24 : XV.lin 24 = [] := by kernel_rfl
theorem xcode_24 : XV.env.code 24 = some v24 := by kernel_rfl
@[simp] theorem lin_25 : XV.lin 25 = [15] := by kernel_rfl
theorem xcode_25 : XV.env.code 25 = some v25 := by kernel_rfl
@[simp] theorem lin_29 : XV.lin 29 = [] := by kernel_rfl
theorem xcode_29 : XV.env.code 29 = some v29 := by kernel_rfl
@[simp] theorem lin_30 : XV.lin 30 = [] := by kernel_rfl
theorem xcode_30 : XV.env.code 30 = some v30 := by kernel_rfl
@[simp] theorem lin_31 : XV.lin 31 = [] := by kernel_rfl
theorem xcode_31 : XV.env.code 31 = some v31 := by kernel_rfl
@[simp] theorem lin_33 : XV.lin 33 = [] := by kernel_rfl
theorem xcode_33 : XV.env.code 33 = some v33 := by kernel_rfl
@[simp] theorem lin_34 : XV.lin 34 = [] := by kernel_rfl
theorem xcode_34 : XV.env.code 34 = some v34 := by kernel_rfl
@[simp] theorem lin_47 : XV.lin 47 = [] := by kernel_rfl
theorem xcode_47 : XV.env.code 47 = some v47 := by kernel_rfl
@[simp] theorem lin_53 : XV.lin 53 = [] := by kernel_rfl
theorem xcode_53 : XV.env.code 53 = some v53 := by kernel_rfl
@[simp] theorem lin_54 : XV.lin 54 = [] := by kernel_rfl
theorem xcode_54 : XV.env.code 54 = some v54 := by kernel_rfl
@[simp] theorem lin_55 : XV.lin 55 = [] := by kernel_rfl
theorem xcode_55 : XV.env.code 55 = some v55 := by kernel_rfl
@[simp] theorem lin_56 : XV.lin 56 = [] := by kernel_rfl
theorem xcode_56 : XV.env.code 56 = some v56 := by kernel_rfl
@[simp] theorem lin_59 : XV.lin 59 = [] := by kernel_rfl
theorem xcode_59 : XV.env.code 59 = some v59 := by kernel_rfl
@[simp] theorem lin_60 : XV.lin 60 = [] := by kernel_rfl
theorem xcode_60 : XV.env.code 60 = some v60 := by kernel_rfl
@[simp] theorem lin_61 : XV.lin 61 = [] := by kernel_rfl
theorem xcode_61 : XV.env.code 61 = some v61 := by kernel_rfl
@[simp] theorem lin_62 : XV.lin 62 = [] := by kernel_rfl
theorem xcode_62 : XV.env.code 62 = some v62 := by kernel_rfl
@[simp] theorem lin_70 : XV.lin 70 = [] := by kernel_rfl
theorem xcode_70 : XV.env.code 70 = some v70 := by kernel_rfl
@[simp] theorem lin_73 : XV.lin 73 = [] := by kernel_rfl
theorem xcode_73 : XV.env.code 73 = some v73 := by kernel_rfl
@[simp] theorem lin_74 : XV.lin 74 = [] := by kernel_rfl
theorem xcode_74 : XV.env.code 74 = some v74 := by kernel_rfl
@[simp] theorem lin_75 : XV.lin 75 = [] := by kernel_rfl
theorem xcode_75 : XV.env.code 75 = some v75 := by kernel_rfl
@[simp] theorem lin_77 : XV.lin 77 = [] := by kernel_rfl
theorem xcode_77 : XV.env.code 77 = some v77 := by kernel_rfl
@[simp] theorem lin_78 : XV.lin 78 = [70] := by kernel_rfl
theorem xcode_78 : XV.env.code 78 = some v78 := by kernel_rfl
@[simp] theorem lin_79 : XV.lin 79 = [] := by kernel_rfl
theorem xcode_79 : XV.env.code 79 = some v79 := by kernel_rfl
@[simp] theorem lin_80 : XV.lin 80 = [] := by kernel_rfl
theorem xcode_80 : XV.env.code 80 = some v80 := by kernel_rfl
@[simp] theorem lin_81 : XV.lin 81 = [] := by kernel_rfl
theorem xcode_81 : XV.env.code 81 = some v81 := by kernel_rfl
@[simp] theorem lin_82 : XV.lin 82 = [] := by kernel_rfl
theorem xcode_82 : XV.env.code 82 = some v82 := by kernel_rfl
@[simp] theorem lin_83 : XV.lin 83 = [] := by kernel_rfl
theorem xcode_83 : XV.env.code 83 = some v83 := by kernel_rfl
@[simp] theorem lin_84 : XV.lin 84 = [] := by kernel_rfl
theorem xcode_84 : XV.env.code 84 = some v84 := by kernel_rfl
@[simp] theorem lin_85 : XV.lin 85 = [] := by kernel_rfl
theorem xcode_85 : XV.env.code 85 = some v85 := by kernel_rfl
@[simp] theorem lin_102 : XV.lin 102 = [] := by kernel_rfl
theorem xcode_102 : XV.env.code 102 = some v102 := by kernel_rfl
@[simp] theorem lin_103 : XV.lin 103 = [] := by kernel_rfl
theorem xcode_103 : XV.env.code 103 = some v103 := by kernel_rfl
@[simp] theorem lin_104 : XV.lin 104 = [2, 4, 8] := by kernel_rfl
theorem xcode_104 : XV.env.code 104 = some v104 := by kernel_rfl
@[simp] theorem lin_105 : XV.lin 105 = [8] := by kernel_rfl
theorem xcode_105 : XV.env.code 105 = some v105 := by kernel_rfl
@[simp] theorem lin_106 : XV.lin 106 = [] := by kernel_rfl
theorem xcode_106 : XV.env.code 106 = some v106 := by kernel_rfl
@[simp] theorem lin_107 : XV.lin 107 = [2, 5, 6, 7] := by kernel_rfl
theorem xcode_107 : XV.env.code 107 = some v107 := by kernel_rfl
@[simp] theorem lin_108 : XV.lin 108 = [] := by kernel_rfl
theorem xcode_108 : XV.env.code 108 = some v108 := by kernel_rfl
@[simp] theorem lin_110 : XV.lin 110 = [2, 5] := by kernel_rfl
theorem xcode_110 : XV.env.code 110 = some v110 := by kernel_rfl
@[simp] theorem lin_111 : XV.lin 111 = [4, 12, 26, 27] := by kernel_rfl
theorem xcode_111 : XV.env.code 111 = some v111 := by kernel_rfl
@[simp] theorem lin_112 : XV.lin 112 = [4, 6, 10, 11, 12, 27, 31, 32, 34, 35, 36, 40] := by kernel_rfl
theorem xcode_112 : XV.env.code 112 = some v112 := by kernel_rfl
@[simp] theorem lin_117 : XV.lin 117 = [] := by kernel_rfl
theorem xcode_117 : XV.env.code 117 = some v117 := by kernel_rfl
@[simp] theorem lin_118 : XV.lin 118 = [28] := by kernel_rfl
theorem xcode_118 : XV.env.code 118 = some v118 := by kernel_rfl
@[simp] theorem lin_146 : XV.lin 146 = [9, 18, 24, 25, 26, 28] := by kernel_rfl
theorem xcode_146 : XV.env.code 146 = some v146 := by kernel_rfl
@[simp] theorem lin_150 : XV.lin 150 = [5, 7] := by kernel_rfl
theorem xcode_150 : XV.env.code 150 = some v150 := by kernel_rfl
@[simp] theorem lin_151 : XV.lin 151 = [2, 3, 6, 12, 13, 15, 16, 17, 19] := by kernel_rfl
theorem xcode_151 : XV.env.code 151 = some v151 := by kernel_rfl
@[simp] theorem lin_178 : XV.lin 178 = [] := by kernel_rfl
theorem xcode_178 : XV.env.code 178 = some v178 := by kernel_rfl
@[simp] theorem lin_179 : XV.lin 179 = [] := by kernel_rfl
theorem xcode_179 : XV.env.code 179 = some v179 := by kernel_rfl
@[simp] theorem lin_243 : XV.lin 243 = [] := by kernel_rfl
theorem xcode_243 : XV.env.code 243 = some v243 := by kernel_rfl
@[simp] theorem lin_244 : XV.lin 244 = [] := by kernel_rfl
theorem xcode_244 : XV.env.code 244 = some v244 := by kernel_rfl
@[simp] theorem lin_292 : XV.lin 292 = [] := by kernel_rfl
theorem xcode_292 : XV.env.code 292 = some v292 := by kernel_rfl
@[simp] theorem lin_294 : XV.lin 294 = [] := by kernel_rfl
theorem xcode_294 : XV.env.code 294 = some v294 := by kernel_rfl
@[simp] theorem lin_308 : XV.lin 308 = [] := by kernel_rfl
theorem xcode_308 : XV.env.code 308 = some v308 := by kernel_rfl
@[simp] theorem lin_338 : XV.lin 338 = [38, 45, 46, 47, 52, 54, 55, 59, 60, 61, 140, 147, 148, 149] := by kernel_rfl
theorem xcode_338 : XV.env.code 338 = some v338 := by kernel_rfl
@[simp] theorem lin_339 : XV.lin 339 = [14, 16, 18, 20] := by kernel_rfl
theorem xcode_339 : XV.env.code 339 = some v339 := by kernel_rfl
@[simp] theorem lin_340 : XV.lin 340 = [12, 14, 20, 21, 27, 28, 29, 30] := by kernel_rfl
theorem xcode_340 : XV.env.code 340 = some v340 := by kernel_rfl
@[simp] theorem lin_341 : XV.lin 341 = [] := by kernel_rfl
theorem xcode_341 : XV.env.code 341 = some v341 := by kernel_rfl
theorem d3_6 (X : XEnv) (T : List Nat) (na : Nat) (live : List Nat) (r : List (Nat × AV)) (B : Boxs) : codeX X T (.region true na live r3_6) ⟨r, B⟩ = xEnd live (xOps (callX X) X.lin T true B.length [
  ⟨some 34, .fieldAddr 2 (.t 2), none, []⟩,
  ⟨some 35, .load false 1 (.t 34), none, [0]⟩,
  ⟨some 36, .move (.t 5), none, []⟩,
  ⟨some 37, .indexAddr 3 none (.t 35) (.t 36), none, [1, 2]⟩,
  ⟨some 38, .load true 3 (.t 37), none, [3]⟩,
  ⟨some 39, .fieldAddr 2 (.t 3), none, []⟩,
  ⟨some 40, .load false 1 (.t 39), none, [5]⟩,
  ⟨some 41, .move (.t 5), none, []⟩,
  ⟨some 42, .indexAddr 3 none (.t 40) (.t 41), none, [6, 7]⟩,
  ⟨some 43, .load true 3 (.t 42), none, [8]⟩,
  ⟨some 44, .call true (.c (.fn 3 [])) [.t 38, .t 43], none, [4, 9]⟩,
  ⟨some 45, .not (.t 44), none, [10]⟩] ⟨r, B ++ List.replicate na none⟩) := z_draw X T na live r3_6 (by kernel_rfl) r B
theorem d6_12 (X : XEnv) (T : List Nat) (na : Nat) (live : List Nat) (r : List (Nat × AV)) (B : Boxs) : codeX X T (.region true na live r6_12) ⟨r, B⟩ = xEnd live (xOps (callX X) X.lin T true B.length [
  ⟨some 51, .fieldAddr 2 (.t 2), none, []⟩,
  ⟨some 52, .load false 1 (.t 51), none, [0]⟩,
  ⟨some 53, .move (.t 7), none, []⟩,
  ⟨some 54, .indexAddr 3 none (.t 52) (.t 53), none, [1, 2]⟩,
  ⟨some 55, .load true 3 (.t 54), none, [3]⟩,
  ⟨some 56, .fieldAddr 2 (.t 3), none, []⟩,
  ⟨some 57, .load false 1 (.t 56), none, [5]⟩,
  ⟨some 58, .move (.t 7), none, []⟩,
  ⟨some 59, .indexAddr 3 none (.t 57) (.t 58), none, [6, 7]⟩,
  ⟨some 60, .load true 3 (.t 59), none, [8]⟩,
  ⟨some 61, .call true (.c (.fn 6 [])) [.t 55, .t 60], none, [4, 9]⟩,
  ⟨some 8, .move (.t 61), none, [0, 1, 2, 3, 4, 5, 6, 7, 8, 9, 10]⟩] ⟨r, B ++ List.replicate na none⟩) := z_draw X T na live r6_12 (by kernel_rfl) r B
theorem d7_6 (X : XEnv) (T : List Nat) (na : Nat) (live : List Nat) (r : List (Nat × AV)) (B : Boxs) : codeX X T (.region true na live r7_6) ⟨r, B⟩ = xEnd live (xOps (callX X) X.lin T true B.length [
  ⟨some 17, .move (.t 0), none, []⟩,
  ⟨some 18, .move (.t 5), none, []⟩,
  ⟨some 19, .indexAddr 3 none (.t 17) (.t 18), none, [0, 1]⟩,
  ⟨some 20, .load true 3 (.t 19), none, [2]⟩,
  ⟨some 21, .move (.t 1), none, []⟩,
  ⟨some 22, .move (.t 5), none, []⟩,
  ⟨some 23, .indexAddr 3 none (.t 21) (.t 22), none, [4, 5]⟩,
  ⟨some 24, .load true 3 (.t 23), none, [6]⟩,
  ⟨some 25, .call true (.c (.fn 5 [])) [.t 20, .t 24], none, [3, 7]⟩,
  ⟨some 26, .not (.t 25), none, [8]⟩] ⟨r, B ++ List.replicate na none⟩) := z_draw X T na live r7_6 (by kernel_rfl) r B
theorem d15_6 (X : XEnv) (T : List Nat) (na : Nat) (live : List Nat) (r : List (Nat × AV)) (B : Boxs) : codeX X T (.region true na live r15_6) ⟨r, B⟩ = xEnd live (xOps (callX X) X.lin T true B.length [
  ⟨some 17, .move (.t 0), none, []⟩,
  ⟨some 18, .move (.t 5), none, []⟩,
  ⟨some 19, .indexAddr 3 none (.t 17) (.t 18), none, [0, 1]⟩,
  ⟨some 20, .load true 3 (.t 19), none, [2]⟩,
  ⟨some 21, .move (.t 1), none, []⟩,
  ⟨some 22, .move (.t 5), none, []⟩,
  ⟨some 23, .indexAddr 3 none (.t 21) (.t 22), none, [4, 5]⟩,
  ⟨some 24, .load true 3 (.t 23), none, [6]⟩,
  ⟨some 25, .call true (.c (.fn 20 [])) [.t 20, .t 24], none, [3, 7]⟩,
  ⟨some 26, .not (.t 25), none, [8]⟩] ⟨r, B ++ List.replicate na none⟩) := z_draw X T na live r15_6 (by kernel_rfl) r B
theorem d78_3 (X : XEnv) (T : List Nat) (na : Nat) (live : List Nat) (r : List (Nat × AV)) (B : Boxs) : codeX X T (.region true na live r78_3) ⟨r, B⟩ = xEnd live (xOps (callX X) X.lin T true B.length [
  ⟨some 18, .move (.t 0), none, []⟩,
  ⟨some 19, .fieldAddr 0 (.t 3), none, []⟩,
  ⟨some 20, .load false 1 (.t 19), none, [1]⟩,
  ⟨some 21, .call true (.c (.fn 29 [])) [.t 18, .t 20], none, [0, 2]⟩,
  ⟨some 22, .not (.t 21), none, [3]⟩,
  ⟨some 23, .move (.t 22), none, [3, 4]⟩,
  ⟨some 24, .fieldAddr 1 (.t 3), some (23, false), [5]⟩,
  ⟨some 25, .load false 1 (.t 24), some (23, false), [5, 6]⟩,
  ⟨some 26, .bin .neq (.t 25) (.c (.d (.int .i64 0))), some (23, false), [5, 7]⟩,
  ⟨some 27, .pick (.t 23) (.c (.d (.bool true))) (.t 26), none, [5, 8]⟩,
  ⟨some 28, .move (.t 27), none, [5, 9]⟩,
  ⟨some 29, .move (.t 0), some (28, false), [10]⟩,
  ⟨some 30, .fieldAddr 0 (.t 3), some (28, false), [10]⟩,
  ⟨some 31, .load false 1 (.t 30), some (28, false), [10, 12]⟩,
  ⟨some 32, .indexAddr 3 none (.t 29) (.t 31), some (28, false), [10, 11, 13]⟩,
  ⟨some 33, .fieldAddr 2 (.t 32), some (28, false), [10, 14]⟩,
  ⟨some 34, .load false 1 (.t 33), some (28, false), [10, 15]⟩,
  ⟨some 35, .not (.t 34), some (28, false), [10, 16]⟩,
  ⟨some 36, .move (.t 35), some (28, false), [10, 17]⟩,
  ⟨some 37, .fieldAddr 2 (.t 3), some (36, true), [18]⟩,
  ⟨some 38, .load false 1 (.t 37), some (36, true), [18, 19]⟩,
  ⟨some 39, .len false (.t 38), some (36, true), [18, 20]⟩,
  ⟨some 40, .move (.t 0), some (36, true), [18]⟩,
  ⟨some 41, .fieldAddr 0 (.t 3), some (36, true), [18]⟩,
  ⟨some 42, .load false 1 (.t 41), some (36, true), [18, 23]⟩,
  ⟨some 43, .indexAddr 3 none (.t 40) (.t 42), some (36, true), [18, 22, 24]⟩,
  ⟨some 44, .fieldAddr 1 (.t 43), some (36, true), [18, 25]⟩,
  ⟨some 45, .load false 1 (.t 44), some (36, true), [18, 26]⟩,
  ⟨some 46, .bin .neq (.t 39) (.t 45), some (36, true), [18, 21, 27]⟩,
  ⟨some 47, .pick (.t 36) (.t 46) (.c (.d (.bool false))), some (28, false), [10, 18, 28]⟩,
  ⟨some 48, .pick (.t 28) (.c (.d (.bool true))) (.t 47), none, [10, 29]⟩,
  ⟨some 49, .move (.t 48), none, [18, 30]⟩,
  ⟨some 50, .move (.t 0), some (49, false), [31]⟩,
  ⟨some 51, .fieldAddr 0 (.t 3), some (49, false), [31]⟩,
  ⟨some 52, .load false 1 (.t 51), some (49, false), [31, 33]⟩,
  ⟨some 53, .indexAddr 3 none (.t 50) (.t 52), some (49, false), [31, 32, 34]⟩,
  ⟨some 54, .fieldAddr 2 (.t 53), some (49, false), [31, 35]⟩,
  ⟨some 55, .load false 1 (.t 54), some (49, false), [31, 36]⟩,
  ⟨some 56, .move (.t 55), some (49, false), [31, 37]⟩,
  ⟨some 57, .fieldAddr 2 (.t 3), some (56, true), [38]⟩,
  ⟨some 58, .load false 1 (.t 57), some (56, true), [38, 39]⟩,
  ⟨some 59, .len false (.t 58), some (56, true), [38, 40]⟩,
  ⟨some 60, .bin .lss (.t 59) (.c (.d (.int .i64 2))), some (56, true), [38, 41]⟩,
  ⟨some 61, .pick (.t 56) (.t 60) (.c (.d (.bool false))), some (49, false), [31, 38, 42]⟩,
  ⟨some 62, .pick (.t 49) (.c (.d (.bool true))) (.t 61), none, [31, 43]⟩] ⟨r, B ++ List.replicate na none⟩) := z_draw X T na live r78_3 (by kernel_rfl) r B
theorem d78_8 (X : XEnv) (T : List Nat) (na : Nat) (live : List Nat) (r : List (Nat × AV)) (B : Boxs) : codeX X T (.region true na live r78_8) ⟨r, B⟩ = xEnd live (xOps (callX X) X.lin T true B.length [
  ⟨some 71, .move (.t 0), none, []⟩,
  ⟨some 72, .load true 3 (.t 6), none, []⟩,
  ⟨some 73, .call true (.c (.fn 78 [])) [.t 71, .t 72], none, [0, 1]⟩,
  ⟨some 74, .not (.t 73), none, [2]⟩,
  ⟨some 75, .move (.t 74), none, [2, 3]⟩,
  ⟨some 76, .move (.t 0), some (75, false), [4]⟩,
  ⟨some 77, .fieldAddr 0 (.t 3), some (75, false), [4]⟩,
  ⟨some 78, .load false 1 (.t 77), some (75, false), [4, 6]⟩,
  ⟨some 79, .indexAddr 3 none (.t 76) (.t 78), some (75, false), [4, 5, 7]⟩,
  ⟨some 80, .fieldAddr 2 (.t 79), some (75, false), [4, 8]⟩,
  ⟨some 81, .load false 1 (.t 80), some (75, false), [4, 9]⟩,
  ⟨some 82, .move (.t 81), some (75, false), [4, 10]⟩,
  ⟨some 83, .fieldAddr 0 (.t 6), some (82, true), [11]⟩,
  ⟨some 84, .load false 1 (.t 83), some (82, true), [11, 12]⟩,
  ⟨some 85, .fieldAddr 0 (.t 3), some (82, true), [11]⟩,
  ⟨some 86, .load false 1 (.t 85), some (82, true), [11, 14]⟩,
  ⟨some 87, .bin .eql (.t 84) (.t 86), some (82, true), [11, 13, 15]⟩,
  ⟨some 88, .move (.t 87), some (82, true), [11, 16]⟩,
  ⟨some 89, .move (.t 5), some (88, false), [17]⟩,
  ⟨some 90, .bin .gtr (.t 89) (.c (.d (.int .i64 0))), some (88, false), [17, 18]⟩,
  ⟨some 91, .move (.t 90), some (88, false), [17, 19]⟩,
  ⟨some 92, .load true 3 (.t 6), some (91, true), [20]⟩,
  ⟨some 93, .fieldAddr 2 (.t 3), some (91, true), [20]⟩,
  ⟨some 94, .load false 1 (.t 93), some (91, true), [20, 22]⟩,
  ⟨some 95, .move (.t 5), some (91, true), [20]⟩,
  ⟨some 96, .bin .sub (.t 95) (.c (.d (.int .i64 1))), some (91, true), [20, 24]⟩,
  ⟨some 97, .indexAddr 3 none (.t 94) (.t 96), some (91, true), [20, 23, 25]⟩,
  ⟨some 98, .load true 3 (.t 97), some (91, true), [20, 26]⟩,
  ⟨some 99, .call true (.c (.fn 79 [])) [.t 92, .t 98], some (91, true), [20, 21, 27]⟩,
  ⟨some 100, .pick (.t 91) (.t 99) (.c (.d (.bool false))), some (88, false), [17, 20, 28]⟩,
  ⟨some 101, .pick (.t 88) (.c (.d (.bool true))) (.t 100), some (82, true), [11, 17, 29]⟩,
  ⟨some 102, .pick (.t 82) (.t 101) (.c (.d (.bool false))), some (75, false), [4, 11, 30]⟩,
  ⟨some 103, .pick (.t 75) (.c (.d (.bool true))) (.t 102), none, [4, 31]⟩] ⟨r, B ++ List.replicate na none⟩) := z_draw X T na live r78_8 (by kernel_rfl) r B
theorem d83_3 (X : XEnv) (T : List Nat) (na : Nat) (live : List Nat) (r : List (Nat × AV)) (B : Boxs) : codeX X T (.region true na live r83_3) ⟨r, B⟩ = xEnd live (xOps (callX X) X.lin T true B.length [
  ⟨some 18, .fieldAddr 0 (.t 3), none, []⟩,
  ⟨some 19, .load false 1 (.t 18), none, [0]⟩,
  ⟨some 20, .move (.t 0), none, []⟩,
  ⟨some 21, .len false (.t 20), none, [2]⟩,
  ⟨some 22, .bin .sub (.t 21) (.c (.d (.int .i64 1))), none, [3]⟩,
  ⟨some 23, .call true (.c (.fn 31 [])) [.t 19, .c (.d (.int .i64 0)), .t 22], none, [1, 4]⟩,
  ⟨some 24, .not (.t 23), none, [5]⟩,
  ⟨some 25, .move (.t 24), none, [5, 6]⟩,
  ⟨some 26, .fieldAddr 1 (.t 3), some (25, false), [7]⟩,
  ⟨some 27, .load false 1 (.t 26), some (25, false), [7, 8]⟩,
  ⟨some 28, .bin .neq (.t 27) (.c (.d (.int .i64 0))), some (25, false), [7, 9]⟩,
  ⟨some 29, .pick (.t 25) (.c (.d (.bool true))) (.t 28), none, [7, 10]⟩,
  ⟨some 30, .move (.t 29), none, [7, 11]⟩,
  ⟨some 31, .move (.t 0), some (30, false), [12]⟩,
  ⟨some 32, .fieldAddr 0 (.t 3), some (30, false), [12]⟩,
  ⟨some 33, .load false 1 (.t 32), some (30, false), [12, 14]⟩,
  ⟨some 34, .indexAddr 3 none (.t 31) (.t 33), some (30, false), [12, 13, 15]⟩,
  ⟨some 35, .fieldAddr 2 (.t 34), some (30, false), [12, 16]⟩,
  ⟨some 36, .load false 1 (.t 35), some (30, false), [12, 17]⟩,
  ⟨some 37, .not (.t 36), some (30, false), [12, 18]⟩,
  ⟨some 38, .move (.t 37), some (30, false), [12, 19]⟩,
  ⟨some 39, .fieldAddr 2 (.t 3), some (38, true), [20]⟩,
  ⟨some 40, .load false 1 (.t 39), some (38, true), [20, 21]⟩,
  ⟨some 41, .len false (.t 40), some (38, true), [20, 22]⟩,
  ⟨some 42, .move (.t 0), some (38, true), [20]⟩,
  ⟨some 43, .fieldAddr 0 (.t 3), some (38, true), [20]⟩,
  ⟨some 44, .load false 1 (.t 43), some (38, true), [20, 25]⟩,
  ⟨some 45, .indexAddr 3 none (.t 42) (.t 44), some (38, true), [20, 24, 26]⟩,
  ⟨some 46, .fieldAddr 1 (.t 45), some (38, true), [20, 27]⟩,
  ⟨some 47, .load false 1 (.t 46), some (38, true), [20, 28]⟩,
  ⟨some 48, .bin .neq (.t 41) (.t 47), some (38, true), [20, 23, 29]⟩,
  ⟨some 49, .pick (.t 38) (.t 48) (.c (.d (.bool false))), some (30, false), [12, 20, 30]⟩,
  ⟨some 50, .pick (.t 30) (.c (.d (.bool true))) (.t 49), none, [12, 31]⟩,
  ⟨some 51, .move (.t 50), none, [20, 32]⟩,
  ⟨some 52, .move (.t 0), some (51, false), [33]⟩,
  ⟨some 53, .fieldAddr 0 (.t 3), some (51, false), [33]⟩,
  ⟨some 54, .load false 1 (.t 53), some (51, false), [33, 35]⟩,
  ⟨some 55, .indexAddr 3 none (.t 52) (.t 54), some (51, false), [33, 34, 36]⟩,
  ⟨some 56, .fieldAddr 2 (.t 55), some (51, false), [33, 37]⟩,
  ⟨some 57, .load false 1 (.t 56), some (51, false), [33, 38]⟩,
  ⟨some 58, .move (.t 57), some (51, false), [33, 39]⟩,
  ⟨some 59, .fieldAddr 2 (.t 3), some (58, true), [40]⟩,
  ⟨some 60, .load false 1 (.t 59), some (58, true), [40, 41]⟩,
  ⟨some 61, .len false (.t 60), some (58, true), [40, 42]⟩,
  ⟨some 62, .bin .lss (.t 61) (.c (.d (.int .i64 2))), some (58, true), [40, 43]⟩,
  ⟨some 63, .pick (.t 58) (.t 62) (.c (.d (.bool false))), some (51, false), [33, 40, 44]⟩,
  ⟨some 64, .pick (.t 51) (.c (.d (.bool true))) (.t 63), none, [33, 45]⟩] ⟨r, B ++ List.replicate na none⟩) := z_draw X T na live r83_3 (by kernel_rfl) r B
theorem d83_8 (X : XEnv) (T : List Nat) (na : Nat) (live : List Nat) (r : List (Nat × AV)) (B : Boxs) : codeX X T (.region true na live r83_8) ⟨r, B⟩ = xEnd live (xOps (callX X) X.lin T true B.length [
  ⟨some 72, .move (.t 0), none, []⟩,
  ⟨some 73, .fieldAddr 0 (.t 3), none, []⟩,
  ⟨some 74, .load false 1 (.t 73), none, [1]⟩,
  ⟨some 75, .indexAddr 3 none (.t 72) (.t 74), none, [0, 2]⟩,
  ⟨some 76, .fieldAddr 2 (.t 75), none, [3]⟩,
  ⟨some 77, .load false 1 (.t 76), none, [4]⟩,
  ⟨some 78, .move (.t 77), none, [5]⟩,
  ⟨some 79, .fieldAddr 2 (.t 3), some (78, true), [6]⟩,
  ⟨some 80, .load false 1 (.t 79), some (78, true), [6, 7]⟩,
  ⟨some 81, .move (.t 5), some (78, true), [6]⟩,
  ⟨some 82, .indexAddr 3 none (.t 80) (.t 81), some (78, true), [6, 8, 9]⟩,
  ⟨some 83, .fieldAddr 0 (.t 82), some (78, true), [6, 10]⟩,
  ⟨some 84, .load false 1 (.t 83), some (78, true), [6, 11]⟩,
  ⟨some 85, .fieldAddr 0 (.t 3), some (78, true), [6]⟩,
  ⟨some 86, .load false 1 (.t 85), some (78, true), [6, 13]⟩,
  ⟨some 87, .bin .eql (.t 84) (.t 86), some (78, true), [6, 12, 14]⟩,
  ⟨some 88, .move (.t 87), some (78, true), [6, 15]⟩,
  ⟨some 89, .move (.t 5), some (88, false), [16]⟩,
  ⟨some 90, .bin .gtr (.t 89) (.c (.d (.int .i64 0))), some (88, false), [16, 17]⟩,
  ⟨some 91, .move (.t 90), some (88, false), [16, 18]⟩,
  ⟨some 92, .fieldAddr 2 (.t 3), some (91, true), [19]⟩,
  ⟨some 93, .load false 1 (.t 92), some (91, true), [19, 20]⟩,
  ⟨some 94, .move (.t 5), some (91, true), [19]⟩,
  ⟨some 95, .indexAddr 3 none (.t 93) (.t 94), some (91, true), [19, 21, 22]⟩,
  ⟨some 96, .load true 3 (.t 95), some (91, true), [19, 23]⟩,
  ⟨some 97, .fieldAddr 2 (.t 3), some (91, true), [19]⟩,
  ⟨some 98, .load false 1 (.t 97), some (91, true), [19, 25]⟩,
  ⟨some 99, .move (.t 5), some (91, true), [19]⟩,
  ⟨some 100, .bin .sub (.t 99) (.c (.d (.int .i64 1))), some (91, true), [19, 27]⟩,
  ⟨some 101, .indexAddr 3 none (.t 98) (.t 100), some (91, true), [19, 26, 28]⟩,
  ⟨some 102, .load true 3 (.t 101), some (91, true), [19, 29]⟩,
  ⟨some 103, .call true (.c (.fn 84 [])) [.t 96, .t 102], some (91, true), [19, 24, 30]⟩,
  ⟨some 104, .pick (.t 91) (.t 103) (.c (.d (.bool false))), some (88, false), [16, 19, 31]⟩,
  ⟨some 105, .pick (.t 88) (.c (.d (.bool true))) (.t 104), some (78, true), [6, 16, 32]⟩,
  ⟨some 106, .pick (.t 78) (.t 105) (.c (.d (.bool false))), none, [6, 33]⟩,
  ⟨some 107, .move (.t 106), none, [31, 34]⟩,
  ⟨some 108, .move (.t 0), some (107, false), [35]⟩,
  ⟨some 109, .fieldAddr 2 (.t 3), some (107, false), [35]⟩,
  ⟨some 110, .load false 1 (.t 109), some (107, false), [35, 37]⟩,
  ⟨some 111, .move (.t 5), some (107, false), [35]⟩,
  ⟨some 112, .indexAddr 3 none (.t 110) (.t 111), some (107, false), [35, 38, 39]⟩,
  ⟨some 113, .load true 3 (.t 112), some (107, false), [35, 40]⟩,
  ⟨some 114, .call true (.c (.fn 83 [])) [.t 108, .t 113], some (107, false), [35, 36, 41]⟩,
  ⟨some 115, .not (.t 114), some (107, false), [35, 42]⟩,
  ⟨some 116, .pick (.t 107) (.c (.d (.bool true))) (.t 115), none, [35, 43]⟩] ⟨r, B ++ List.replicate na none⟩) := z_draw X T na live r83_8 (by kernel_rfl) r B
theorem d84_10 (X : XEnv) (T : List Nat) (na : Nat) (live : List Nat) (r : List (Nat × AV)) (B : Boxs) : codeX X T (.region true na live r84_10) ⟨r, B⟩ = xEnd live (xOps (callX X) X.lin T true B.length [
  ⟨some 47, .fieldAddr 2 (.t 2), none, []⟩,
  ⟨some 48, .load false 1 (.t 47), none, [0]⟩,
  ⟨some 49, .move (.t 5), none, []⟩,
  ⟨some 50, .indexAddr 3 none (.t 48) (.t 49), none, [1, 2]⟩,
  ⟨some 51, .load true 3 (.t 50), none, [3]⟩,
  ⟨some 52, .fieldAddr 2 (.t 3), none, []⟩,
  ⟨some 53, .load false 1 (.t 52), none, [5]⟩,
  ⟨some 54, .move (.t 5), none, []⟩,
  ⟨some 55, .indexAddr 3 none (.t 53) (.t 54), none, [6, 7]⟩,
  ⟨some 56, .load true 3 (.t 55), none, [8]⟩,
  ⟨some 57, .call true (.c (.fn 3 [])) [.t 51, .t 56], none, [4, 9]⟩,
  ⟨some 58, .not (.t 57), none, [10]⟩] ⟨r, B ++ List.replicate na none⟩) := z_draw X T na live r84_10 (by kernel_rfl) r B
theorem d84_11 (X : XEnv) (T : List Nat) (na : Nat) (live : List Nat) (r : List (Nat × AV)) (B : Boxs) : codeX X T (.region true na live r84_11) ⟨r, B⟩ = xEnd live (xOps (callX X) X.lin T true B.length [
  ⟨some 59, .fieldAddr 2 (.t 2), none, []⟩,
  ⟨some 60, .load false 1 (.t 59), none, [0]⟩,
  ⟨some 61, .move (.t 5), none, []⟩,
  ⟨some 62, .indexAddr 3 none (.t 60) (.t 61), none, [1, 2]⟩,
  ⟨some 63, .load true 3 (.t 62), none, [3]⟩,
  ⟨some 64, .fieldAddr 2 (.t 3), none, []⟩,
  ⟨some 65, .load false 1 (.t 64), none, [5]⟩,
  ⟨some 66, .move (.t 5), none, []⟩,
  ⟨some 67, .indexAddr 3 none (.t 65) (.t 66), none, [6, 7]⟩,
  ⟨some 68, .load true 3 (.t 67), none, [8]⟩,
  ⟨some 69, .call true (.c (.fn 84 [])) [.t 63, .t 68], none, [4, 9]⟩,
  ⟨some 4, .move (.t 69), none, [0, 1, 2, 3, 4, 5, 6, 7, 8, 9, 10]⟩] ⟨r, B ++ List.replicate na none⟩) := z_draw X T na live r84_11 (by kernel_rfl) r B
theorem d146_5 (X : XEnv) (T : List Nat) (na : Nat) (live : List Nat) (r : List (Nat × AV)) (B : Boxs) : codeX X T (.region true na live r146_5) ⟨r, B⟩ = xEnd live (xOps (callX X) X.lin T true B.length [
  ⟨some 17, .fieldAddr 2 (.t 3), none, []⟩,
  ⟨some 18, .load false 1 (.t 17), none, [0]⟩,
  ⟨some 19, .fieldAddr 2 (.t 1), none, []⟩,
  ⟨some 20, .load false 1 (.t 19), none, [2]⟩,
  ⟨some 21, .move (.t 4), none, []⟩,
  ⟨some 22, .indexAddr 3 none (.t 20) (.t 21), none, [3, 4]⟩,
  ⟨some 23, .load true 3 (.t 22), none, [5]⟩,
  ⟨some 24, .call true (.c (.fn 146 [])) [.t 23], none, [6]⟩,
  ⟨some 25, .buildSlice 3 (.agg [.int .i64 0, .int .i64 0, .sl .nil []]) 1 [(0, .t 24)], none, [7]⟩,
  ⟨some 26, .append 3 40 (.t 18) (.t 25), none, [1, 7, 8]⟩,
  ⟨some 27, .fieldAddr 2 (.t 3), none, [0, 1, 2, 3, 4, 5, 6, 7, 8, 9]⟩,
  ⟨none, .store false 1 (.t 27) (.t 26), none, [0, 1, 2, 3, 4, 5, 6, 7, 8, 9, 10]⟩] ⟨r, B ++ List.replicate na none⟩) := z_draw X T na live r146_5 (by kernel_rfl) r B
theorem d178_6 (X : XEnv) (T : List Nat) (na : Nat) (live : List Nat) (r : List (Nat × AV)) (B : Boxs) : codeX X T (.region true na live r178_6) ⟨r, B⟩ = xEnd live (xOps (callX X) X.lin T true B.length [
  ⟨some 28, .load true 3 (.t 4), none, []⟩,
  ⟨some 29, .move (.t 8), none, []⟩,
  ⟨some 30, .call true (.c (.fn 73 [])) [.t 28, .t 29], none, [0, 1]⟩,
  ⟨some 31, .load true 3 (.t 5), none, []⟩,
  ⟨some 32, .move (.t 8), none, []⟩,
  ⟨some 33, .call true (.c (.fn 73 [])) [.t 31, .t 32], none, [2, 3, 4]⟩,
  ⟨some 34, .bin .lss (.t 30) (.t 33), none, [2, 5]⟩] ⟨r, B ++ List.replicate na none⟩) := z_draw X T na live r178_6 (by kernel_rfl) r B
theorem d178_9 (X : XEnv) (T : List Nat) (na : Nat) (live : List Nat) (r : List (Nat × AV)) (B : Boxs) : codeX X T (.region true na live r178_9) ⟨r, B⟩ = xEnd live (xOps (callX X) X.lin T true B.length [
  ⟨some 36, .move (.t 0), none, []⟩,
  ⟨some 37, .load true 3 (.t 4), none, []⟩,
  ⟨some 38, .call true (.c (.fn 118 [])) [.t 36, .t 37], none, [0, 1]⟩,
  ⟨some 39, .move (.t 0), none, []⟩,
  ⟨some 40, .load true 3 (.t 5), none, []⟩,
  ⟨some 41, .call true (.c (.fn 118 [])) [.t 39, .t 40], none, [2, 3, 4]⟩,
  ⟨some 9, .move (.t 38), none, [0, 1, 2, 5]⟩,
  ⟨some 10, .move (.t 41), none, [0, 1, 2, 3, 4, 5, 6]⟩] ⟨r, B ++ List.replicate na none⟩) := z_draw X T na live r178_9 (by kernel_rfl) r B
theorem d179_7 (X : XEnv) (T : List Nat) (na : Nat) (live : List Nat) (r : List (Nat × AV)) (B : Boxs) : codeX X T (.region true na live r179_7) ⟨r, B⟩ = xEnd live (xOps (callX X) X.lin T true B.length [
  ⟨some 29, .load true 3 (.t 4), none, []⟩,
  ⟨some 30, .move (.t 7), none, []⟩,
  ⟨some 31, .move (.t 8), none, []⟩,
  ⟨some 32, .indexAddr 1 none (.t 30) (.t 31), none, [1, 2]⟩,
  ⟨some 33, .load false 1 (.t 32), none, [3]⟩,
  ⟨some 34, .call true (.c (.fn 81 [])) [.t 29, .t 33], none, [0, 4]⟩,
  ⟨some 35, .load true 3 (.t 5), none, []⟩,
  ⟨some 36, .move (.t 7), none, []⟩,
  ⟨some 37, .move (.t 8), none, []⟩,
  ⟨some 38, .indexAddr 1 none (.t 36) (.t 37), none, [7, 8]⟩,
  ⟨some 39, .load false 1 (.t 38), none, [9]⟩,
  ⟨some 40, .call true (.c (.fn 81 [])) [.t 35, .t 39], none, [5, 6, 10]⟩,
  ⟨some 41, .bin .lss (.t 34) (.t 40), none, [5, 11]⟩] ⟨r, B ++ List.replicate na none⟩) := z_draw X T na live r179_7 (by kernel_rfl) r B
theorem d179_9 (X : XEnv) (T : List Nat) (na : Nat) (live : List Nat) (r : List (Nat × AV)) (B : Boxs) : codeX X T (.region true na live r179_9) ⟨r, B⟩ = xEnd live (xOps (callX X) X.lin T true B.length [
  ⟨some 42, .move (.t 0), none, []⟩,
  ⟨some 43, .load true 3 (.t 4), none, []⟩,
  ⟨some 44, .call true (.c (.fn 117 [])) [.t 42, .t 43], none, [0, 1]⟩,
  ⟨some 45, .move (.t 0), none, []⟩,
  ⟨some 46, .load true 3 (.t 5), none, []⟩,
  ⟨some 47, .call true (.c (.fn 117 [])) [.t 45, .t 46], none, [2, 3, 4]⟩,
  ⟨some 9, .move (.t 44), none, [0, 1, 2, 5]⟩,
  ⟨some 10, .move (.t 47), none, [0, 1, 2, 3, 4, 5, 6]⟩] ⟨r, B ++ List.replicate na none⟩) := z_draw X T na live r179_9 (by kernel_rfl) r B
theorem d338_11 (X : XEnv) (T : List Nat) (na : Nat) (live : List Nat) (r : List (Nat × AV)) (B : Boxs) : codeX X T (.region true na live r338_11) ⟨r, B⟩ = xEnd live (xOps (callX X) X.lin T true B.length [
  ⟨some 39, .move (.t 0), none, []⟩,
  ⟨some 40, .call true (.c (.fn 12 [])) [.t 39], none, [0]⟩,
  ⟨some 41, .load true 3 (.t 4), none, []⟩,
  ⟨some 42, .call true (.c (.fn 2 [])) [.t 41], none, [1, 2]⟩,
  ⟨some 43, .load true 3 (.t 5), none, []⟩,
  ⟨some 44, .call true (.c (.fn 2 [])) [.t 43], none, [3, 4]⟩,
  ⟨some 45, .call true (.c (.fn 339 [])) [.t 40, .t 42, .t 44], none, [1, 3, 5]⟩,
  ⟨some 38, .move (.t 45), none, [6]⟩,
  ⟨some 46, .extract (.t 38) 0, none, [7]⟩,
  ⟨some 47, .extract (.t 38) 1, none, [7]⟩,
  ⟨some 48, .extract (.t 38) 2, none, [7]⟩,
  ⟨some 8, .alloc 0 [.int .i64 0, .int .i64 0, .sl .nil []], none, []⟩,
  ⟨some 9, .alloc 1 [.int .i64 0, .int .i64 0, .sl .nil []], none, []⟩,
  ⟨none, .store true 3 (.t 8) (.t 46), none, [0, 1, 2, 3, 4, 5, 6, 7, 8, 11, 12]⟩,
  ⟨none, .store true 3 (.t 9) (.t 47), none, [0, 1, 2, 3, 4, 5, 6, 7, 8, 9, 11, 12, 13]⟩,
  ⟨some 10, .move (.t 48), none, [0, 1, 2, 3, 4, 5, 6, 7, 8, 9, 10, 11, 12, 13, 14]⟩] ⟨r, B ++ List.replicate na none⟩) := z_draw X T na live r338_11 (by kernel_rfl) r B
theorem d338_20 (X : XEnv) (T : List Nat) (na : Nat) (live : List Nat) (r : List (Nat × AV)) (B : Boxs) : codeX X T (.region true na live r338_20) ⟨r, B⟩ = xEnd live (xOps (callX X) X.lin T true B.length [
  ⟨some 83, .load true 3 (.t 12), none, []⟩,
  ⟨some 84, .load true 3 (.t 4), none, []⟩,
  ⟨some 85, .call true (.c (.fn 2 [])) [.t 84], none, [1]⟩,
  ⟨some 86, .callT false (.c (.fn 5 [])) [.t 83, .t 85], none, [0, 2]⟩,
  ⟨some 87, .not (.t 86), none, [3]⟩] ⟨r, B ++ List.replicate na none⟩) := z_draw X T na live r338_20 (by kernel_rfl) r B
theorem d338_22 (X : XEnv) (T : List Nat) (na : Nat) (live : List Nat) (r : List (Nat × AV)) (B : Boxs) : codeX X T (.region true na live r338_22) ⟨r, B⟩ = xEnd live (xOps (callX X) X.lin T true B.length [
  ⟨some 88, .load true 3 (.t 13), none, []⟩,
  ⟨some 89, .load true 3 (.t 5), none, []⟩,
  ⟨some 90, .call true (.c (.fn 2 [])) [.t 89], none, [1]⟩,
  ⟨some 91, .callT false (.c (.fn 5 [])) [.t 88, .t 90], none, [0, 2]⟩,
  ⟨some 92, .not (.t 91), none, [3]⟩] ⟨r, B ++ List.replicate na none⟩) := z_draw X T na live r338_22 (by kernel_rfl) r B
theorem d338_42 (X : XEnv) (T : List Nat) (na : Nat) (live : List Nat) (r : List (Nat × AV)) (B : Boxs) : codeX X T (.region true na live r338_42) ⟨r, B⟩ = xEnd live (xOps (callX X) X.lin T true B.length [
  ⟨some 141, .move (.t 0), none, []⟩,
  ⟨some 142, .call true (.c (.fn 12 [])) [.t 141], none, [0]⟩,
  ⟨some 143, .load true 3 (.t 4), none, []⟩,
  ⟨some 144, .call true (.c (.fn 2 [])) [.t 143], none, [1, 2]⟩,
  ⟨some 145, .load true 3 (.t 5), none, []⟩,
  ⟨some 146, .call true (.c (.fn 2 [])) [.t 145], none, [3, 4]⟩,
  ⟨some 147, .call true (.c (.fn 340 [])) [.t 142, .t 144, .t 146], none, [1, 3, 5]⟩,
  ⟨some 140, .move (.t 147), none, [6]⟩,
  ⟨some 148, .extract (.t 140) 0, none, [7]⟩,
  ⟨some 149, .extract (.t 140) 1, none, [7]⟩,
  ⟨some 150, .extract (.t 140) 2, none, [7]⟩,
  ⟨some 20, .alloc 0 [.int .i64 0, .int .i64 0, .sl .nil []], none, []⟩,
  ⟨some 21, .alloc 1 [.int .i64 0, .int .i64 0, .sl .nil []], none, []⟩,
  ⟨none, .store true 3 (.t 20) (.t 148), none, [0, 1, 2, 3, 4, 5, 6, 7, 8, 11, 12]⟩,
  ⟨none, .store true 3 (.t 21) (.t 149), none, [0, 1, 2, 3, 4, 5, 6, 7, 8, 9, 11, 12, 13]⟩,
  ⟨some 22, .move (.t 150), none, [0, 1, 2, 3, 4, 5, 6, 7, 8, 9, 10, 11, 12, 13, 14]⟩] ⟨r, B ++ List.replicate na none⟩) := z_draw X T na live r338_42 (by kernel_rfl) r B
theorem d339_2 (X : XEnv) (T : List Nat) (na : Nat) (live : List Nat) (r : List (Nat × AV)) (B : Boxs) : codeX X T (.region true na live r339_2) ⟨r, B⟩ = xEnd live (xOps (callX X) X.lin T true B.length [
  ⟨some 13, .load true 3 (.t 5), none, []⟩,
  ⟨some 14, .call true (.c (.fn 146 [])) [.t 13], none, [0]⟩,
  ⟨some 15, .load true 3 (.t 4), none, []⟩,
  ⟨some 16, .call true (.c (.fn 146 [])) [.t 15], none, [1, 2]⟩,
  ⟨none, .store false 3 (.t 6) (.t 14), none, [0, 1, 3]⟩,
  ⟨none, .store false 3 (.t 7) (.t 16), none, [0, 1, 2, 3, 4]⟩,
  ⟨some 8, .move (.c (.d (.bool true))), none, [0, 1, 2, 3, 4, 5]⟩] ⟨r, B ++ List.replicate na none⟩) := z_draw X T na live r339_2 (by kernel_rfl) r B
theorem d339_3 (X : XEnv) (T : List Nat) (na : Nat) (live : List Nat) (r : List (Nat × AV)) (B : Boxs) : codeX X T (.region true na live r339_3) ⟨r, B⟩ = xEnd live (xOps (callX X) X.lin T true B.length [
  ⟨some 17, .load true 3 (.t 4), none, []⟩,
  ⟨some 18, .call true (.c (.fn 146 [])) [.t 17], none, [0]⟩,
  ⟨some 19, .load true 3 (.t 5), none, []⟩,
  ⟨some 20, .call true (.c (.fn 146 [])) [.t 19], none, [1, 2]⟩,
  ⟨some 21, .move (.t 0), none, []⟩,
  ⟨some 22, .load true 3 (.t 4), none, []⟩,
  ⟨some 23, .load true 3 (.t 5), none, []⟩,
  ⟨some 24, .call true (.c (.fn 179 [])) [.t 21, .t 22, .t 23], none, [3, 4, 5, 6]⟩,
  ⟨none, .store false 3 (.t 6) (.t 18), none, [0, 1, 7]⟩,
  ⟨none, .store false 3 (.t 7) (.t 20), none, [0, 1, 2, 3, 8]⟩,
  ⟨some 8, .move (.t 24), none, [0, 1, 2, 3, 4, 5, 6, 7, 8, 9]⟩] ⟨r, B ++ List.replicate na none⟩) := z_draw X T na live r339_3 (by kernel_rfl) r B
theorem d340_1 (X : XEnv) (T : List Nat) (na : Nat) (live : List Nat) (r : List (Nat × AV)) (B : Boxs) : codeX X T (.region true na live r340_1) ⟨r, B⟩ = xEnd live (xOps (callX X) X.lin T true B.length [
  ⟨some 11, .load true 3 (.t 4), none, []⟩,
  ⟨some 12, .call true (.c (.fn 150 [])) [.t 11], none, [0]⟩,
  ⟨some 13, .load true 3 (.t 5), none, []⟩,
  ⟨some 14, .call true (.c (.fn 150 [])) [.t 13], none, [1, 2]⟩,
  ⟨some 9, .alloc 0 [.int .i64 0, .int .i64 0, .sl .nil []], none, []⟩,
  ⟨some 10, .alloc 1 [.int .i64 0, .int .i64 0, .sl .nil []], none, []⟩,
  ⟨none, .store true 3 (.t 9) (.t 12), none, [0, 1, 3, 4, 5]⟩,
  ⟨none, .store true 3 (.t 10) (.t 14), none, [0, 1, 2, 3, 4, 5, 6]⟩] ⟨r, B ++ List.replicate na none⟩) := z_draw X T na live r340_1 (by kernel_rfl) r B
theorem d340_3 (X : XEnv) (T : List Nat) (na : Nat) (live : List Nat) (r : List (Nat × AV)) (B : Boxs) : codeX X T (.region true na live r340_3) ⟨r, B⟩ = xEnd live (xOps (callX X) X.lin T true B.length [
  ⟨some 20, .load true 3 (.t 9), none, []⟩,
  ⟨some 21, .load true 3 (.t 10), none, []⟩,
  ⟨none, .storeN 3 (.t 6) (.t 20) [10], none, [0]⟩,
  ⟨none, .store false 3 (.t 7) (.t 21), none, [0, 1, 2]⟩,
  ⟨some 8, .move (.c (.d (.bool true))), none, [0, 1, 2, 3]⟩] ⟨r, B ++ List.replicate na none⟩) := z_draw X T na live r340_3 (by kernel_rfl) r B
theorem d340_5 (X : XEnv) (T : List Nat) (na : Nat) (live : List Nat) (r : List (Nat × AV)) (B : Boxs) : codeX X T (.region true na live r340_5) ⟨r, B⟩ = xEnd live (xOps (callX X) X.lin T true B.length [
  ⟨some 27, .load true 3 (.t 10), none, []⟩,
  ⟨some 28, .load true 3 (.t 9), none, []⟩,
  ⟨none, .storeN 3 (.t 6) (.t 27) [9], none, [0]⟩,
  ⟨none, .store false 3 (.t 7) (.t 28), none, [0, 1, 2]⟩,
  ⟨some 8, .move (.c (.d (.bool true))), none, [0, 1, 2, 3]⟩] ⟨r, B ++ List.replicate na none⟩) := z_draw X T na live r340_5 (by kernel_rfl) r B
theorem d340_6 (X : XEnv) (T : List Nat) (na : Nat) (live : List Nat) (r : List (Nat × AV)) (B : Boxs) : codeX X T (.region true na live r340_6) ⟨r, B⟩ = xEnd live (xOps (callX X) X.lin T true B.length [
  ⟨some 29, .load true 3 (.t 9), none, []⟩,
  ⟨some 30, .load true 3 (.t 10), none, []⟩,
  ⟨none, .storeN 3 (.t 6) (.t 29) [10], none, [0]⟩,
  ⟨none, .store false 3 (.t 7) (.t 30), none, [0, 1, 2]⟩,
  ⟨some 8, .move (.c (.d (.bool false))), none, [0, 1, 2, 3]⟩] ⟨r, B ++ List.replicate na none⟩) := z_draw X T na live r340_6 (by kernel_rfl) r B
theorem look_in : ∀ {l : List (Nat × VFn)} {k : Nat} {v : VFn}, look l k = some v → (k, v) ∈ l
  | [], _, _, h => by simp [look] at h
  | (a, u) :: r, k, v, h => by
    simp only [look] at h
    split at h
    · rename_i hk
      simp at h; subst h; subst hk; simp
    · exact List.mem_cons_of_mem _ (look_in h)
theorem lin_all : codes.all (fun q => q.2.linOK (linOf lins q.1)) = true := by kernel_rfl
theorem xokW : XOK XW := ⟨fun f vf h => List.all_eq_true.1 lin_all (f, vf) (look_in h), fun f g h => by exact absurd h (by simp [XW]), fun f h => rfl, fun f sf h => by exact absurd h (by simp [XW])⟩
theorem spec_all : specs.all (fun q => q.2.pre.linOK (linOf lins q.1) && q.2.rest.linOK (linOf lins q.1) && linDistinct (linOf lins q.1) (q.2.results.flatMap VRes.vx) && (linOf lins q.1).all (fun j => decide (q.2.np ≤ j))) = true := by kernel_rfl
theorem nats_ref : ∀ q, q ∈ nats → NatRef q.2 (natV q.2) ∧ linOf lins q.1 = [] := List.forall_mem_cons.2 ⟨⟨numAdd_ref, by kernel_rfl⟩, List.forall_mem_nil _⟩
theorem xok : XOK XV := ⟨fun f vf h => List.all_eq_true.1 lin_all (f, vf) (look_in h), fun f g h => ⟨natV g, by show (lookN nats f).map natV = _; rw [show lookN nats f = some g from h]; rfl, (nats_ref (f, g) (lookN_mem h)).1, (nats_ref (f, g) (lookN_mem h)).2⟩, fun f h => by show (lookN nats f).map natV = _; rw [show lookN nats f = none from h]; rfl, fun f sf h => by
  have := List.all_eq_true.1 spec_all (f, sf) (lookS_mem h)
  simp only [Bool.and_eq_true] at this
  exact ⟨this.1.1.1, this.1.1.2, this.1.2, this.2⟩⟩
end Go.Proofs.Ytficfeekkljoeaa.VS
