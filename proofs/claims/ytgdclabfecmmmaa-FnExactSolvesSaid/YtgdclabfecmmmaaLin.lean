/- Which registers of each function may own rows; the functions for the evaluator without names. -/
import Derived.Test.YtgdclabfecmmmaaEngC
import Derived.Test.YtgdclabfecmmmaaCode
import Derived.KernelRfl
namespace Go.Proofs.Ytgdclabfecmmmaa.VS
set_option linter.unusedVariables false
def lins : List (Nat × List Nat) := [(0, [26, 28]), (2, [12, 14]), (8, [2, 3, 20, 22]), (12, [2, 3, 22]), (21, [16]), (25, [15]), (41, [2, 3, 21])]
def linOf : List (Nat × List Nat) → Nat → List Nat
  | [], _ => []
  | (k, v) :: r, n => if n = k then v else linOf r n
noncomputable def XV : XEnv := ⟨E, linOf lins, fun _ => none⟩
@[simp] theorem lin_0 : XV.lin 0 = [26, 28] := by kernel_rfl
theorem xcode_0 : XV.env.code 0 = some v0 := by kernel_rfl
@[simp] theorem lin_1 : XV.lin 1 = [] := by kernel_rfl
theorem xcode_1 : XV.env.code 1 = some v1 := by kernel_rfl
@[simp] theorem lin_2 : XV.lin 2 = [12, 14] := by kernel_rfl
theorem xcode_2 : XV.env.code 2 = some v2 := by kernel_rfl
@[simp] theorem lin_3 : XV.lin 3 = [] := by kernel_rfl
theorem xcode_3 : XV.env.code 3 = some v3 := by kernel_rfl
@[simp] theorem lin_4 : XV.lin 4 = [] := by kernel_rfl
theorem xcode_4 : XV.env.code 4 = some v4 := by kernel_rfl
@[simp] theorem lin_5 : XV.lin 5 = [] := by kernel_rfl
theorem xcode_5 : XV.env.code 5 = some v5 := by kernel_rfl
@[simp] theorem lin_6 : XV.lin 6 = [] := by kernel_rfl
theorem xcode_6 : XV.env.code 6 = some v6 := by kernel_rfl
@[simp] theorem lin_7 : XV.lin 7 = [] := by kernel_rfl
theorem xcode_7 : XV.env.code 7 = some v7 := by kernel_rfl
@[simp] theorem lin_8 : XV.lin 8 = [2, 3, 20, 22] := by kernel_rfl
theorem xcode_8 : XV.env.code 8 = some v8 := by kernel_rfl
@[simp] theorem lin_9 : XV.lin 9 = [] := by kernel_rfl
theorem xcode_9 : XV.env.code 9 = some v9 := by kernel_rfl
@[simp] theorem lin_10 : XV.lin 10 = [] := by kernel_rfl
theorem xcode_10 : XV.env.code 10 = some v10 := by kernel_rfl
@[simp] theorem lin_11 : XV.lin 11 = [] := by kernel_rfl
theorem xcode_11 : XV.env.code 11 = some v11 := by kernel_rfl
@[simp] theorem lin_12 : XV.lin 12 = [2, 3, 22] := by kernel_rfl
theorem xcode_12 : XV.env.code 12 = some v12 := by kernel_rfl
@[simp] theorem lin_13 : XV.lin 13 = [] := by kernel_rfl
theorem xcode_13 : XV.env.code 13 = some v13 := by kernel_rfl
@[simp] theorem lin_14 : XV.lin 14 = [] := by kernel_rfl
theorem xcode_14 : XV.env.code 14 = some v14 := by kernel_rfl
@[simp] theorem lin_15 : XV.lin 15 = [] := by kernel_rfl
theorem xcode_15 : XV.env.code 15 = some v15 := by kernel_rfl
@[simp] theorem lin_16 : XV.lin 16 = [] := by kernel_rfl
theorem xcode_16 : XV.env.code 16 = some v16 := by kernel_rfl
@[simp] theorem lin_17 : XV.lin 17 = [] := by kernel_rfl
theorem xcode_17 : XV.env.code 17 = some v17 := by kernel_rfl
@[simp] theorem lin_18 : XV.lin 18 = [] := by kernel_rfl
theorem xcode_18 : XV.env.code 18 = some v18 := by kernel_rfl
@[simp] theorem lin_19 : XV.lin 19 = [] := by kernel_rfl
theorem xcode_19 : XV.env.code 19 = some v19 := by kernel_rfl
@[simp] theorem lin_20 : XV.lin 20 = [] := by kernel_rfl
theorem xcode_20 : XV.env.code 20 = some v20 := by kernel_rfl
@[simp] theorem lin_21 : XV.lin 21 = [16] := by kernel_rfl
theorem xcode_21 : XV.env.code 21 = some v21 := by kernel_rfl
@[simp] theorem lin_22 : XV.lin 22 = [] := by kernel_rfl
theorem xcode_22 : XV.env.code 22 = some v22 := by kernel_rfl
@[simp] theorem lin_23 : XV.lin 23 = [] := by kernel_rfl
theorem xcode_23 : XV.env.code 23 = some v23 := by kernel_rfl
@[simp] theorem lin_24 : XV.lin 24 = [] := by kernel_rfl
theorem xcode_24 : XV.env.code 24 = some v24 := by kernel_rfl
@[simp] theorem lin_25 : XV.lin 25 = [15] := by kernel_rfl
theorem xcode_25 : XV.env.code 25 = some v25 := by kernel_rfl
@[simp] theorem lin_26 : XV.lin 26 = [] := by kernel_rfl
theorem xcode_26 : XV.env.code 26 = some v26 := by kernel_rfl
@[simp] theorem lin_27 : XV.lin 27 = [] := by kernel_rfl
theorem xcode_27 : XV.env.code 27 = some v27 := by kernel_rfl
@[simp] theorem lin_28 : XV.lin 28 = [] := by kernel_rfl
theorem xcode_28 : XV.env.code 28 = some v28 := by kernel_rfl
@[simp] theorem lin_29 : XV.lin 29 = [] := by kernel_rfl
theorem xcode_29 : XV.env.code 29 = some v29 := by kernel_rfl
@[simp] theorem lin_30 : XV.lin 30 = [] := by kernel_rfl
theorem xcode_30 : XV.env.code 30 = some v30 := by kernel_rfl
@[simp] theorem lin_31 : XV.lin 31 = [] := by kernel_rfl
theorem xcode_31 : XV.env.code 31 = some v31 := by kernel_rfl
@[simp] theorem lin_32 : XV.lin 32 = [] := by kernel_rfl
theorem xcode_32 : XV.env.code 32 = some v32 := by kernel_rfl
@[simp] theorem lin_33 : XV.lin 33 = [] := by kernel_rfl
theorem xcode_33 : XV.env.code 33 = some v33 := by kernel_rfl
@[simp] theorem lin_34 : XV.lin 34 = [] := by kernel_rfl
theorem xcode_34 : XV.env.code 34 = some v34 := by kernel_rfl
@[simp] theorem lin_35 : XV.lin 35 = [] := by kernel_rfl
theorem xcode_35 : XV.env.code 35 = some v35 := by kernel_rfl
@[simp] theorem lin_36 : XV.lin 36 = [] := by kernel_rfl
theorem xcode_36 : XV.env.code 36 = some v36 := by kernel_rfl
@[simp] theorem lin_37 : XV.lin 37 = [] := by kernel_rfl
theorem xcode_37 : XV.env.code 37 = some v37 := by kernel_rfl
@[simp] theorem lin_38 : XV.lin 38 = [] := by kernel_rfl
theorem xcode_38 : XV.env.code 38 = some v38 := by kernel_rfl
@[simp] theorem lin_39 : XV.lin 39 = [] := by kernel_rfl
theorem xcode_39 : XV.env.code 39 = some v39 := by kernel_rfl
@[simp] theorem lin_40 : XV.lin 40 = [] := by kernel_rfl
theorem xcode_40 : XV.env.code 40 = some v40 := by kernel_rfl
@[simp] theorem lin_41 : XV.lin 41 = [2, 3, 21] := by kernel_rfl
theorem xcode_41 : XV.env.code 41 = some v41 := by kernel_rfl
@[simp] theorem lin_42 : XV.lin 42 = [] := by kernel_rfl
theorem xcode_42 : XV.env.code 42 = some v42 := by kernel_rfl
@[simp] theorem lin_43 : XV.lin 43 = [] := by kernel_rfl
theorem xcode_43 : XV.env.code 43 = some v43 := by kernel_rfl
@[simp] theorem lin_44 : XV.lin 44 = [] := by kernel_rfl
theorem xcode_44 : XV.env.code 44 = some v44 := by kernel_rfl
@[simp] theorem lin_45 : XV.lin 45 = [] := by kernel_rfl
theorem xcode_45 : XV.env.code 45 = some v45 := by kernel_rfl
@[simp] theorem lin_46 : XV.lin 46 = [] := by kernel_rfl
theorem xcode_46 : XV.env.code 46 = some v46 := by kernel_rfl
@[simp] theorem lin_47 : XV.lin 47 = [] := by kernel_rfl
theorem xcode_47 : XV.env.code 47 = some v47 := by kernel_rfl
@[simp] theorem lin_48 : XV.lin 48 = [] := by kernel_rfl
theorem xcode_48 : XV.env.code 48 = some v48 := by kernel_rfl
@[simp] theorem lin_49 : XV.lin 49 = [] := by kernel_rfl
theorem xcode_49 : XV.env.code 49 = some v49 := by kernel_rfl
@[simp] theorem lin_50 : XV.lin 50 = [] := by kernel_rfl
theorem xcode_50 : XV.env.code 50 = some v50 := by kernel_rfl
@[simp] theorem lin_51 : XV.lin 51 = [] := by kernel_rfl
theorem xcode_51 : XV.env.code 51 = some v51 := by kernel_rfl
@[simp] theorem lin_52 : XV.lin 52 = [] := by kernel_rfl
theorem xcode_52 : XV.env.code 52 = some v52 := by kernel_rfl
@[simp] theorem lin_53 : XV.lin 53 = [] := by kernel_rfl
theorem xcode_53 : XV.env.code 53 = some v53 := by kernel_rfl
@[simp] theorem lin_54 : XV.lin 54 = [] := by kernel_rfl
theorem xcode_54 : XV.env.code 54 = some v54 := by kernel_rfl
@[simp] theorem lin_55 : XV.lin 55 = [] := by kernel_rfl
theorem xcode_55 : XV.env.code 55 = some v55 := by kernel_rfl
@[simp] theorem lin_56 : XV.lin 56 = [] := by kernel_rfl
theorem xcode_56 : XV.env.code 56 = some v56 := by kernel_rfl
@[simp] theorem lin_57 : XV.lin 57 = [] := by kernel_rfl
theorem xcode_57 : XV.env.code 57 = some v57 := by kernel_rfl
@[simp] theorem lin_58 : XV.lin 58 = [] := by kernel_rfl
theorem xcode_58 : XV.env.code 58 = some v58 := by kernel_rfl
@[simp] theorem lin_59 : XV.lin 59 = [] := by kernel_rfl
theorem xcode_59 : XV.env.code 59 = some v59 := by kernel_rfl
@[simp] theorem lin_60 : XV.lin 60 = [] := by kernel_rfl
theorem xcode_60 : XV.env.code 60 = some v60 := by kernel_rfl
@[simp] theorem lin_61 : XV.lin 61 = [] := by kernel_rfl
theorem xcode_61 : XV.env.code 61 = some v61 := by kernel_rfl
@[simp] theorem lin_62 : XV.lin 62 = [] := by kernel_rfl
theorem xcode_62 : XV.env.code 62 = some v62 := by kernel_rfl
@[simp] theorem lin_63 : XV.lin 63 = [] := by kernel_rfl
theorem xcode_63 : XV.env.code 63 = some v63 := by kernel_rfl
theorem d0_8 (X : XEnv) (T : List Nat) (na : Nat) (live : List Nat) (r : List (Nat × AV)) (B : Boxs) : codeX X T (.region true na live r0_8) ⟨r, B⟩ = xEnd live (xOps (callX X) X.lin T true B.length [
  ⟨some 20, .load true 3 (.t 2), none, []⟩,
  ⟨some 21, .call true (.c (.fn 2 [])) [.t 20], none, [0]⟩,
  ⟨some 22, .load true 3 (.t 3), none, []⟩,
  ⟨some 23, .call true (.c (.fn 2 [])) [.t 22], none, [1, 2]⟩,
  ⟨some 24, .call true (.c (.fn 3 [])) [.t 21, .t 23], none, [1, 3]⟩,
  ⟨some 6, .move (.t 24), none, [0, 1, 2, 3, 4]⟩] ⟨r, B ++ List.replicate na none⟩) := z_draw X T na live r0_8 (by kernel_rfl) r B
theorem d0_14 (X : XEnv) (T : List Nat) (na : Nat) (live : List Nat) (r : List (Nat × AV)) (B : Boxs) : codeX X T (.region true na live r0_14) ⟨r, B⟩ = xEnd live (xOps (callX X) X.lin T true B.length [
  ⟨some 35, .load true 3 (.t 7), none, []⟩,
  ⟨some 36, .load true 3 (.t 2), none, []⟩,
  ⟨some 37, .call true (.c (.fn 2 [])) [.t 36], none, [1]⟩,
  ⟨some 38, .call true (.c (.fn 5 [])) [.t 35, .t 37], none, [0, 2]⟩,
  ⟨some 39, .not (.t 38), none, [3]⟩] ⟨r, B ++ List.replicate na none⟩) := z_draw X T na live r0_14 (by kernel_rfl) r B
theorem d0_16 (X : XEnv) (T : List Nat) (na : Nat) (live : List Nat) (r : List (Nat × AV)) (B : Boxs) : codeX X T (.region true na live r0_16) ⟨r, B⟩ = xEnd live (xOps (callX X) X.lin T true B.length [
  ⟨some 40, .load true 3 (.t 8), none, []⟩,
  ⟨some 41, .load true 3 (.t 3), none, []⟩,
  ⟨some 42, .call true (.c (.fn 2 [])) [.t 41], none, [1]⟩,
  ⟨some 43, .call true (.c (.fn 5 [])) [.t 40, .t 42], none, [0, 2]⟩,
  ⟨some 44, .not (.t 43), none, [3]⟩] ⟨r, B ++ List.replicate na none⟩) := z_draw X T na live r0_16 (by kernel_rfl) r B
theorem d3_6 (X : XEnv) (T : List Nat) (na : Nat) (live : List Nat) (r : List (Nat × AV)) (B : Boxs) : codeX X T (.region true na live r3_6) ⟨r, B⟩ = xEnd live (xOps (callX X) X.lin T true B.length [
  ⟨some 34, .fieldAddr 2 (.t 2), none, []⟩,
  ⟨some 35, .load false 1 (.t 34), none, [0]⟩,
  ⟨some 36, .move (.t 5), none, []⟩,
  ⟨some 37, .indexAddr 3 none (.t 35) (.t 36), none, [1, 2]⟩,
  ⟨some 38, .load true 3 (.t 37), none, [3]⟩,
  ⟨some 39, .fieldAddr 2 (.t 3), none, []⟩,
  ⟨some 40, .load false 1 (.t 39), none, [5]⟩,
  ⟨some 41, .move (.t 5), none, []⟩,
  ⟨some 42, .indexAddr 3 none (.t 40) (.t 41), none, [6, 7]⟩,
  ⟨some 43, .load true 3 (.t 42), none, [8]⟩,
  ⟨some 44, .call true (.c (.fn 3 [])) [.t 38, .t 43], none, [4, 9]⟩,
  ⟨some 45, .not (.t 44), none, [10]⟩] ⟨r, B ++ List.replicate na none⟩) := z_draw X T na live r3_6 (by kernel_rfl) r B
theorem d6_12 (X : XEnv) (T : List Nat) (na : Nat) (live : List Nat) (r : List (Nat × AV)) (B : Boxs) : codeX X T (.region true na live r6_12) ⟨r, B⟩ = xEnd live (xOps (callX X) X.lin T true B.length [
  ⟨some 51, .fieldAddr 2 (.t 2), none, []⟩,
  ⟨some 52, .load false 1 (.t 51), none, [0]⟩,
  ⟨some 53, .move (.t 7), none, []⟩,
  ⟨some 54, .indexAddr 3 none (.t 52) (.t 53), none, [1, 2]⟩,
  ⟨some 55, .load true 3 (.t 54), none, [3]⟩,
  ⟨some 56, .fieldAddr 2 (.t 3), none, []⟩,
  ⟨some 57, .load false 1 (.t 56), none, [5]⟩,
  ⟨some 58, .move (.t 7), none, []⟩,
  ⟨some 59, .indexAddr 3 none (.t 57) (.t 58), none, [6, 7]⟩,
  ⟨some 60, .load true 3 (.t 59), none, [8]⟩,
  ⟨some 61, .call true (.c (.fn 6 [])) [.t 55, .t 60], none, [4, 9]⟩,
  ⟨some 8, .move (.t 61), none, [0, 1, 2, 3, 4, 5, 6, 7, 8, 9, 10]⟩] ⟨r, B ++ List.replicate na none⟩) := z_draw X T na live r6_12 (by kernel_rfl) r B
theorem d7_6 (X : XEnv) (T : List Nat) (na : Nat) (live : List Nat) (r : List (Nat × AV)) (B : Boxs) : codeX X T (.region true na live r7_6) ⟨r, B⟩ = xEnd live (xOps (callX X) X.lin T true B.length [
  ⟨some 17, .move (.t 0), none, []⟩,
  ⟨some 18, .move (.t 5), none, []⟩,
  ⟨some 19, .indexAddr 3 none (.t 17) (.t 18), none, [0, 1]⟩,
  ⟨some 20, .load true 3 (.t 19), none, [2]⟩,
  ⟨some 21, .move (.t 1), none, []⟩,
  ⟨some 22, .move (.t 5), none, []⟩,
  ⟨some 23, .indexAddr 3 none (.t 21) (.t 22), none, [4, 5]⟩,
  ⟨some 24, .load true 3 (.t 23), none, [6]⟩,
  ⟨some 25, .call true (.c (.fn 5 [])) [.t 20, .t 24], none, [3, 7]⟩,
  ⟨some 26, .not (.t 25), none, [8]⟩] ⟨r, B ++ List.replicate na none⟩) := z_draw X T na live r7_6 (by kernel_rfl) r B
theorem d15_6 (X : XEnv) (T : List Nat) (na : Nat) (live : List Nat) (r : List (Nat × AV)) (B : Boxs) : codeX X T (.region true na live r15_6) ⟨r, B⟩ = xEnd live (xOps (callX X) X.lin T true B.length [
  ⟨some 17, .move (.t 0), none, []⟩,
  ⟨some 18, .move (.t 5), none, []⟩,
  ⟨some 19, .indexAddr 3 none (.t 17) (.t 18), none, [0, 1]⟩,
  ⟨some 20, .load true 3 (.t 19), none, [2]⟩,
  ⟨some 21, .move (.t 1), none, []⟩,
  ⟨some 22, .move (.t 5), none, []⟩,
  ⟨some 23, .indexAddr 3 none (.t 21) (.t 22), none, [4, 5]⟩,
  ⟨some 24, .load true 3 (.t 23), none, [6]⟩,
  ⟨some 25, .call true (.c (.fn 20 [])) [.t 20, .t 24], none, [3, 7]⟩,
  ⟨some 26, .not (.t 25), none, [8]⟩] ⟨r, B ++ List.replicate na none⟩) := z_draw X T na live r15_6 (by kernel_rfl) r B
theorem d21_10 (X : XEnv) (T : List Nat) (na : Nat) (live : List Nat) (r : List (Nat × AV)) (B : Boxs) : codeX X T (.region true na live r21_10) ⟨r, B⟩ = xEnd live (xOps (callX X) X.lin T true B.length [
  ⟨some 22, .load true 3 (.t 5), none, []⟩,
  ⟨some 23, .load true 3 (.t 1), none, []⟩,
  ⟨some 24, .call true (.c (.fn 2 [])) [.t 23], none, [1]⟩,
  ⟨some 25, .call true (.c (.fn 5 [])) [.t 22, .t 24], none, [0, 2]⟩,
  ⟨some 26, .not (.t 25), none, [3]⟩] ⟨r, B ++ List.replicate na none⟩) := z_draw X T na live r21_10 (by kernel_rfl) r B
theorem d44_6 (X : XEnv) (T : List Nat) (na : Nat) (live : List Nat) (r : List (Nat × AV)) (B : Boxs) : codeX X T (.region true na live r44_6) ⟨r, B⟩ = xEnd live (xOps (callX X) X.lin T true B.length [
  ⟨some 17, .move (.t 0), none, []⟩,
  ⟨some 18, .move (.t 5), none, []⟩,
  ⟨some 19, .indexAddr 1 none (.t 17) (.t 18), none, [0, 1]⟩,
  ⟨some 20, .load false 1 (.t 19), none, [2]⟩,
  ⟨some 21, .move (.t 1), none, []⟩,
  ⟨some 22, .move (.t 5), none, []⟩,
  ⟨some 23, .indexAddr 1 none (.t 21) (.t 22), none, [4, 5]⟩,
  ⟨some 24, .load false 1 (.t 23), none, [6]⟩,
  ⟨some 25, .bin .neq (.t 20) (.t 24), none, [3, 7]⟩] ⟨r, B ++ List.replicate na none⟩) := z_draw X T na live r44_6 (by kernel_rfl) r B
theorem d48_5 (X : XEnv) (T : List Nat) (na : Nat) (live : List Nat) (r : List (Nat × AV)) (B : Boxs) : codeX X T (.region true na live r48_5) ⟨r, B⟩ = xEnd live (xOps (callX X) X.lin T true B.length [
  ⟨some 15, .move (.t 7), none, []⟩,
  ⟨some 16, .move (.t 0), none, []⟩,
  ⟨some 17, .move (.t 8), none, []⟩,
  ⟨some 18, .indexAddr 1 none (.t 16) (.t 17), none, [1, 2]⟩,
  ⟨some 19, .load false 1 (.t 18), none, [3]⟩,
  ⟨some 20, .move (.t 1), none, []⟩,
  ⟨some 21, .move (.t 2), none, []⟩,
  ⟨some 22, .move (.t 8), none, []⟩,
  ⟨some 23, .bin .add (.t 21) (.t 22), none, [6, 7]⟩,
  ⟨some 24, .indexAddr 1 none (.t 20) (.t 23), none, [5, 8]⟩,
  ⟨some 25, .load false 1 (.t 24), none, [9]⟩,
  ⟨some 26, .bin .mul (.t 19) (.t 25), none, [4, 10]⟩,
  ⟨some 27, .bin .add (.t 15) (.t 26), none, [0, 11]⟩,
  ⟨some 7, .move (.t 27), none, [0, 1, 2, 3, 4, 5, 6, 7, 8, 9, 10, 11, 12]⟩] ⟨r, B ++ List.replicate na none⟩) := z_draw X T na live r48_5 (by kernel_rfl) r B
theorem d50_5 (X : XEnv) (T : List Nat) (na : Nat) (live : List Nat) (r : List (Nat × AV)) (B : Boxs) : codeX X T (.region true na live r50_5) ⟨r, B⟩ = xEnd live (xOps (callX X) X.lin T true B.length [
  ⟨some 19, .move (.t 0), none, []⟩,
  ⟨some 20, .move (.t 6), none, []⟩,
  ⟨some 21, .indexAddr 1 none (.t 19) (.t 20), none, [0, 1]⟩,
  ⟨some 22, .load false 1 (.t 21), none, [2]⟩,
  ⟨some 23, .move (.t 1), none, []⟩,
  ⟨some 24, .move (.t 6), none, []⟩,
  ⟨some 25, .indexAddr 1 none (.t 23) (.t 24), none, [4, 5]⟩,
  ⟨some 26, .load false 1 (.t 25), none, [6]⟩,
  ⟨some 27, .bin .gtr (.t 22) (.t 26), none, [3, 7]⟩] ⟨r, B ++ List.replicate na none⟩) := z_draw X T na live r50_5 (by kernel_rfl) r B
theorem d50_7 (X : XEnv) (T : List Nat) (na : Nat) (live : List Nat) (r : List (Nat × AV)) (B : Boxs) : codeX X T (.region true na live r50_7) ⟨r, B⟩ = xEnd live (xOps (callX X) X.lin T true B.length [
  ⟨some 28, .move (.t 5), none, []⟩,
  ⟨some 29, .move (.t 28), none, [0]⟩,
  ⟨some 30, .move (.t 0), some (29, false), [1]⟩,
  ⟨some 31, .move (.t 6), some (29, false), [1]⟩,
  ⟨some 32, .indexAddr 1 none (.t 30) (.t 31), some (29, false), [1, 2, 3]⟩,
  ⟨some 33, .load false 1 (.t 32), some (29, false), [1, 4]⟩,
  ⟨some 34, .move (.t 1), some (29, false), [1]⟩,
  ⟨some 35, .move (.t 6), some (29, false), [1]⟩,
  ⟨some 36, .indexAddr 1 none (.t 34) (.t 35), some (29, false), [1, 6, 7]⟩,
  ⟨some 37, .load false 1 (.t 36), some (29, false), [1, 8]⟩,
  ⟨some 38, .bin .lss (.t 33) (.t 37), some (29, false), [1, 5, 9]⟩,
  ⟨some 39, .pick (.t 29) (.c (.d (.bool true))) (.t 38), none, [1, 10]⟩,
  ⟨some 5, .move (.t 39), none, [0, 1, 2, 3, 4, 5, 6, 7, 8, 9, 10, 11]⟩] ⟨r, B ++ List.replicate na none⟩) := z_draw X T na live r50_7 (by kernel_rfl) r B
theorem d51_7 (X : XEnv) (T : List Nat) (na : Nat) (live : List Nat) (r : List (Nat × AV)) (B : Boxs) : codeX X T (.region true na live r51_7) ⟨r, B⟩ = xEnd live (xOps (callX X) X.lin T true B.length [
  ⟨some 17, .move (.t 0), none, []⟩,
  ⟨some 18, .move (.t 6), none, []⟩,
  ⟨some 19, .indexAddr 1 none (.t 17) (.t 18), none, [0, 1]⟩,
  ⟨some 20, .load false 1 (.t 19), none, [2]⟩,
  ⟨some 21, .move (.t 1), none, []⟩,
  ⟨some 22, .move (.t 6), none, []⟩,
  ⟨some 23, .indexAddr 1 none (.t 21) (.t 22), none, [4, 5]⟩,
  ⟨some 24, .load false 1 (.t 23), none, [6]⟩,
  ⟨some 25, .bin .gtr (.t 20) (.t 24), none, [3, 7]⟩] ⟨r, B ++ List.replicate na none⟩) := z_draw X T na live r51_7 (by kernel_rfl) r B
theorem d51_9 (X : XEnv) (T : List Nat) (na : Nat) (live : List Nat) (r : List (Nat × AV)) (B : Boxs) : codeX X T (.region true na live r51_9) ⟨r, B⟩ = xEnd live (xOps (callX X) X.lin T true B.length [
  ⟨some 26, .move (.t 5), none, []⟩,
  ⟨some 27, .move (.t 26), none, [0]⟩,
  ⟨some 28, .move (.t 0), some (27, false), [1]⟩,
  ⟨some 29, .move (.t 6), some (27, false), [1]⟩,
  ⟨some 30, .indexAddr 1 none (.t 28) (.t 29), some (27, false), [1, 2, 3]⟩,
  ⟨some 31, .load false 1 (.t 30), some (27, false), [1, 4]⟩,
  ⟨some 32, .move (.t 1), some (27, false), [1]⟩,
  ⟨some 33, .move (.t 6), some (27, false), [1]⟩,
  ⟨some 34, .indexAddr 1 none (.t 32) (.t 33), some (27, false), [1, 6, 7]⟩,
  ⟨some 35, .load false 1 (.t 34), some (27, false), [1, 8]⟩,
  ⟨some 36, .bin .lss (.t 31) (.t 35), some (27, false), [1, 5, 9]⟩,
  ⟨some 37, .pick (.t 27) (.c (.d (.bool true))) (.t 36), none, [1, 10]⟩,
  ⟨some 5, .move (.t 37), none, [0, 1, 2, 3, 4, 5, 6, 7, 8, 9, 10, 11]⟩] ⟨r, B ++ List.replicate na none⟩) := z_draw X T na live r51_9 (by kernel_rfl) r B
theorem look_in : ∀ {l : List (Nat × VFn)} {k : Nat} {v : VFn}, look l k = some v → (k, v) ∈ l
  | [], _, _, h => by simp [look] at h
  | (a, u) :: r, k, v, h => by
    simp only [look] at h
    split at h
    · rename_i hk
      simp at h; subst h; subst hk; simp
    · exact List.mem_cons_of_mem _ (look_in h)
theorem lin_all : codes.all (fun q => q.2.linOK (linOf lins q.1)) = true := by kernel_rfl
theorem xok : XOK XV := ⟨fun f vf h => List.all_eq_true.1 lin_all (f, vf) (look_in h), fun f g h => (by cases h), fun f _ => rfl⟩
end Go.Proofs.Ytgdclabfecmmmaa.VS
