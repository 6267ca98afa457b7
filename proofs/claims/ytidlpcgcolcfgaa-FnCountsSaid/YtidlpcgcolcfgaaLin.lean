/- Which registers of each function may own rows; the functions for the evaluator without names. -/
import Derived.Test.YtidlpcgcolcfgaaNat2
import Derived.Test.YtidlpcgcolcfgaaCode
import Derived.KernelRfl
namespace Go.Proofs.Ytidlpcgcolcfgaa.VS
set_option linter.unusedVariables false
def lins : List (Nat × List Nat) := [(25, [15]), (104, [2, 4, 8]), (105, [8]), (107, [2, 5, 6, 7]), (110, [2, 5]), (111, [4, 12, 26, 27]), (112, [4, 6, 10, 11, 12, 27, 31, 32, 34, 35, 36, 40]), (147, [4]), (153, [13, 27, 36, 41, 42, 51, 52, 53, 54, 63, 64, 65, 67]), (154, [0, 1, 4, 6, 22, 25, 26, 27, 28, 29, 30, 31, 34, 35]), (155, [0, 8]), (156, [28, 30]), (161, [7, 60, 62, 64, 65, 72, 73]), (163, [9]), (164, [6, 7]), (166, [8, 24, 28, 36, 37, 40, 45, 46, 47, 50]), (184, [5]), (362, [10])]
def linOf : List (Nat × List Nat) → Nat → List Nat
  | [], _ => []
  | (k, v) :: r, n => if n = k then v else linOf r n
noncomputable def XV : XEnv := ⟨E, linOf lins, lookN nats⟩
/-- The same without native functions. -/
noncomputable def XW : XEnv := ⟨⟨look codes, fun _ => none, fun _ => none, lookB bases⟩, linOf lins, fun _ => none⟩
@[simp] theorem lin_3 : XV.lin 3 = [] := by kernel_rfl
theorem xcode_3 : XV.env.code 3 = some v3 := by kernel_rfl
@[simp] theorem lin_23 : XV.lin 23 = [] := by kernel_rfl
theorem xcode_23 : XV.env.code 23 = some v23 := by kernel_rfl
@[simp] theorem lin_24 : XV.lin 24 = [] := by kernel_rfl
theorem xcode_24 : XV.env.code 24 = some v24 := by kernel_rfl
@[simp] theorem lin_25 : XV.lin 25 = [15] := by kernel_rfl
theorem xcode_25 : XV.env.code 25 = some v25 := by kernel_rfl
@[simp] theorem lin_31 : XV.lin 31 = [] := by kernel_rfl
theorem xcode_31 : XV.env.code 31 = some v31 := by kernel_rfl
@[simp] theorem lin_33 : XV.lin 33 = [] := by kernel_rfl
theorem xcode_33 : XV.env.code 33 = some v33 := by kernel_rfl
@[simp] theorem lin_47 : XV.lin 47 = [] := by kernel_rfl
theorem xcode_47 : XV.env.code 47 = some v47 := by kernel_rfl
@[simp] theorem lin_53 : XV.lin 53 = [] := by kernel_rfl
theorem xcode_53 : XV.env.code 53 = some v53 := by kernel_rfl
@[simp] theorem lin_54 : XV.lin 54 = [] := by kernel_rfl
theorem xcode_54 : XV.env.code 54 = some v54 := by kernel_rfl
@[simp] theorem lin_55 : XV.lin 55 = [] := by kernel_rfl
theorem xcode_55 : XV.env.code 55 = some v55 := by kernel_rfl
@[simp] theorem lin_56 : XV.lin 56 = [] := by kernel_rfl
theorem xcode_56 : XV.env.code 56 = some v56 := by kernel_rfl
@[simp] theorem lin_73 : XV.lin 73 = [] := by kernel_rfl
theorem xcode_73 : XV.env.code 73 = some v73 := by kernel_rfl
@[simp] theorem lin_74 : XV.lin 74 = [] := by kernel_rfl
theorem xcode_74 : XV.env.code 74 = some v74 := by kernel_rfl
@[simp] theorem lin_75 : XV.lin 75 = [] := by kernel_rfl
theorem xcode_75 : XV.env.code 75 = some v75 := by kernel_rfl
@[simp] theorem lin_84 : XV.lin 84 = [] := by kernel_rfl
theorem xcode_84 : XV.env.code 84 = some v84 := by kernel_rfl
@[simp] theorem lin_103 : XV.lin 103 = [] := by kernel_rfl
theorem xcode_103 : XV.env.code 103 = some v103 := by kernel_rfl
@[simp] theorem lin_104 : XV.lin 104 = [2, 4, 8] := by kernel_rfl
theorem xcode_104 : XV.env.code 104 = some v104 := by kernel_rfl
@[simp] theorem lin_105 : XV.lin 105 = [8] := by kernel_rfl
theorem xcode_105 : XV.env.code 105 = some v105 := by kernel_rfl
@[simp] theorem lin_106 : XV.lin 106 = [] := by kernel_rfl
theorem xcode_106 : XV.env.code 106 = some v106 := by kernel_rfl
@[simp] theorem lin_107 : XV.lin 107 = [2, 5, 6, 7] := by kernel_rfl
theorem xcode_107 : XV.env.code 107 = some v107 := by kernel_rfl
@[simp] theorem lin_108 : XV.lin 108 = [] := by kernel_rfl
theorem xcode_108 : XV.env.code 108 = some v108 := by kernel_rfl
@[simp] theorem lin_110 : XV.lin 110 = [2, 5] := by kernel_rfl
theorem xcode_110 : XV.env.code 110 = some v110 := by kernel_rfl
@[simp] theorem lin_111 : XV.lin 111 = [4, 12, 26, 27] := by kernel_rfl
theorem xcode_111 : XV.env.code 111 = some v111 := by kernel_rfl
@[simp] theorem lin_112 : XV.lin 112 = [4, 6, 10, 11, 12, 27, 31, 32, 34, 35, 36, 40] := by kernel_rfl
theorem xcode_112 : XV.env.code 112 = some v112 := by kernel_rfl
@[simp] theorem lin_133 : XV.lin 133 = [] := by kernel_rfl
theorem xcode_133 : XV.env.code 133 = some v133 := by kernel_rfl
@[simp] theorem lin_147 : XV.lin 147 = [4] := by kernel_rfl
theorem xcode_147 : XV.env.code 147 = some v147 := by kernel_rfl
@[simp] theorem lin_153 : XV.lin 153 = [13, 27, 36, 41, 42, 51, 52, 53, 54, 63, 64, 65, 67] := by kernel_rfl
theorem xcode_153 : XV.env.code 153 = some v153 := by kernel_rfl
@[simp] theorem lin_154 : XV.lin 154 = [0, 1, 4, 6, 22, 25, 26, 27, 28, 29, 30, 31, 34, 35] := by kernel_rfl
theorem xcode_154 : XV.env.code 154 = some v154 := by kernel_rfl
@[simp] theorem lin_155 : XV.lin 155 = [0, 8] := by kernel_rfl
theorem xcode_155 : XV.env.code 155 = some v155 := by kernel_rfl
@[simp] theorem lin_156 : XV.lin 156 = [28, 30] := by kernel_rfl
theorem xcode_156 : XV.env.code 156 = some v156 := by kernel_rfl
@[simp] theorem lin_159 : XV.lin 159 = [] := by kernel_rfl
theorem xcode_159 : XV.env.code 159 = some v159 := by kernel_rfl
@[simp] theorem lin_160 : XV.lin 160 = [] := by kernel_rfl
theorem xcode_160 : XV.env.code 160 = some v160 := by kernel_rfl
@[simp] theorem lin_161 : XV.lin 161 = [7, 60, 62, 64, 65, 72, 73] := by kernel_rfl
theorem xcode_161 : XV.env.code 161 = some v161 := by kernel_rfl
@[simp] theorem lin_162 : XV.lin 162 = [] := by kernel_rfl
theorem xcode_162 : XV.env.code 162 = some v162 := by kernel_rfl
@[simp] theorem lin_163 : XV.lin 163 = [9] := by kernel_rfl
theorem xcode_163 : XV.env.code 163 = some v163 := by kernel_rfl
@[simp] theorem lin_164 : XV.lin 164 = [6, 7] := by kernel_rfl
theorem xcode_164 : XV.env.code 164 = some v164 := by kernel_rfl
@[simp] theorem lin_165 : XV.lin 165 = [] := by kernel_rfl
theorem xcode_165 : XV.env.code 165 = some v165 := by kernel_rfl
@[simp] theorem lin_166 : XV.lin 166 = [8, 24, 28, 36, 37, 40, 45, 46, 47, 50] := by kernel_rfl
theorem xcode_166 : XV.env.code 166 = some v166 := by kernel_rfl
@[simp] theorem lin_184 : XV.lin 184 = [5] := by kernel_rfl
theorem xcode_184 : XV.env.code 184 = some v184 := by kernel_rfl
@[simp] theorem lin_188 : XV.lin 188 = [] := by kernel_rfl
theorem xcode_188 : XV.env.code 188 = some v188 := by kernel_rfl
@[simp] theorem lin_362 : XV.lin 362 = [10] := by kernel_rfl
theorem xcode_362 : XV.env.code 362 = some v362 := by kernel_rfl
theorem d3_6 (X : XEnv) (T : List Nat) (na : Nat) (live : List Nat) (r : List (Nat × AV)) (B : Boxs) : codeX X T (.region true na live r3_6) ⟨r, B⟩ = xEnd live (xOps (callX X) X.lin T true B.length [
  ⟨some 34, .fieldAddr 2 (.t 2), none, []⟩,
  ⟨some 35, .load false 1 (.t 34), none, [0]⟩,
  ⟨some 36, .move (.t 5), none, []⟩,
  ⟨some 37, .indexAddr 3 none (.t 35) (.t 36), none, [1, 2]⟩,
  ⟨some 38, .load true 3 (.t 37), none, [3]⟩,
  ⟨some 39, .fieldAddr 2 (.t 3), none, []⟩,
  ⟨some 40, .load false 1 (.t 39), none, [5]⟩,
  ⟨some 41, .move (.t 5), none, []⟩,
  ⟨some 42, .indexAddr 3 none (.t 40) (.t 41), none, [6, 7]⟩,
  ⟨some 43, .load true 3 (.t 42), none, [8]⟩,
  ⟨some 44, .call true (.c (.fn 3 [])) [.t 38, .t 43], none, [4, 9]⟩,
  ⟨some 45, .not (.t 44), none, [10]⟩] ⟨r, B ++ List.replicate na none⟩) := z_draw X T na live r3_6 (by kernel_rfl) r B
theorem d84_10 (X : XEnv) (T : List Nat) (na : Nat) (live : List Nat) (r : List (Nat × AV)) (B : Boxs) : codeX X T (.region true na live r84_10) ⟨r, B⟩ = xEnd live (xOps (callX X) X.lin T true B.length [
  ⟨some 47, .fieldAddr 2 (.t 2), none, []⟩,
  ⟨some 48, .load false 1 (.t 47), none, [0]⟩,
  ⟨some 49, .move (.t 5), none, []⟩,
  ⟨some 50, .indexAddr 3 none (.t 48) (.t 49), none, [1, 2]⟩,
  ⟨some 51, .load true 3 (.t 50), none, [3]⟩,
  ⟨some 52, .fieldAddr 2 (.t 3), none, []⟩,
  ⟨some 53, .load false 1 (.t 52), none, [5]⟩,
  ⟨some 54, .move (.t 5), none, []⟩,
  ⟨some 55, .indexAddr 3 none (.t 53) (.t 54), none, [6, 7]⟩,
  ⟨some 56, .load true 3 (.t 55), none, [8]⟩,
  ⟨some 57, .call true (.c (.fn 3 [])) [.t 51, .t 56], none, [4, 9]⟩,
  ⟨some 58, .not (.t 57), none, [10]⟩] ⟨r, B ++ List.replicate na none⟩) := z_draw X T na live r84_10 (by kernel_rfl) r B
theorem d84_11 (X : XEnv) (T : List Nat) (na : Nat) (live : List Nat) (r : List (Nat × AV)) (B : Boxs) : codeX X T (.region true na live r84_11) ⟨r, B⟩ = xEnd live (xOps (callX X) X.lin T true B.length [
  ⟨some 59, .fieldAddr 2 (.t 2), none, []⟩,
  ⟨some 60, .load false 1 (.t 59), none, [0]⟩,
  ⟨some 61, .move (.t 5), none, []⟩,
  ⟨some 62, .indexAddr 3 none (.t 60) (.t 61), none, [1, 2]⟩,
  ⟨some 63, .load true 3 (.t 62), none, [3]⟩,
  ⟨some 64, .fieldAddr 2 (.t 3), none, []⟩,
  ⟨some 65, .load false 1 (.t 64), none, [5]⟩,
  ⟨some 66, .move (.t 5), none, []⟩,
  ⟨some 67, .indexAddr 3 none (.t 65) (.t 66), none, [6, 7]⟩,
  ⟨some 68, .load true 3 (.t 67), none, [8]⟩,
  ⟨some 69, .call true (.c (.fn 84 [])) [.t 63, .t 68], none, [4, 9]⟩,
  ⟨some 4, .move (.t 69), none, [0, 1, 2, 3, 4, 5, 6, 7, 8, 9, 10]⟩] ⟨r, B ++ List.replicate na none⟩) := z_draw X T na live r84_11 (by kernel_rfl) r B
theorem d153_9 (X : XEnv) (T : List Nat) (na : Nat) (live : List Nat) (r : List (Nat × AV)) (B : Boxs) : codeX X T (.regionF true na live r153_9) ⟨r, B⟩ = xEnd live (xFs (callX X) X.lin T true B.length [
  .one ⟨some 35, .fieldAddr 2 (.t 5), none, []⟩,
  .one ⟨some 36, .load false 1 (.t 35), none, [0]⟩,
  .one ⟨some 37, .fieldAddr 2 (.t 7), none, []⟩,
  .el 38 37 39 (.t 8) 40 3 41 [2] [] [3, 4] [5],
  .one ⟨some 42, .call false (.c (.fn 154 [])) [.t 36, .t 41], none, [1, 6]⟩,
  .one ⟨some 43, .fieldAddr 2 (.t 5), none, [0, 1, 2, 3, 4, 5, 6, 7]⟩,
  .one ⟨none, .store false 1 (.t 43) (.t 42), none, [0, 1, 2, 3, 4, 5, 6, 7, 8]⟩] ⟨r, B ++ List.replicate na none⟩) := z_drawF X T na live r153_9 (by kernel_rfl) r B
theorem d154_2 (X : XEnv) (T : List Nat) (na : Nat) (live : List Nat) (r : List (Nat × AV)) (B : Boxs) : codeX X T (.region true na live r154_2) ⟨r, B⟩ = xEnd live (xOps (callX X) X.lin T true B.length [
  ⟨some 7, .move (.t 5), none, []⟩,
  ⟨some 8, .move (.t 0), none, []⟩,
  ⟨some 9, .len false (.t 8), none, [1]⟩,
  ⟨some 10, .bin .lss (.t 7) (.t 9), none, [0, 2]⟩,
  ⟨some 11, .move (.t 10), none, [3]⟩,
  ⟨some 12, .load true 3 (.t 3), some (11, true), [4]⟩,
  ⟨some 13, .move (.t 0), some (11, true), [4]⟩,
  ⟨some 14, .move (.t 5), some (11, true), [4]⟩,
  ⟨some 15, .indexAddr 3 none (.t 13) (.t 14), some (11, true), [4, 6, 7]⟩,
  ⟨some 16, .load true 3 (.t 15), some (11, true), [4, 8]⟩,
  ⟨some 17, .call true (.c (.fn 84 [])) [.t 12, .t 16], some (11, true), [4, 5, 9]⟩,
  ⟨some 18, .not (.t 17), some (11, true), [4, 10]⟩,
  ⟨some 19, .pick (.t 11) (.t 18) (.c (.d (.bool false))), none, [4, 11]⟩] ⟨r, B ++ List.replicate na none⟩) := z_draw X T na live r154_2 (by kernel_rfl) r B
theorem d161_6 (X : XEnv) (T : List Nat) (na : Nat) (live : List Nat) (r : List (Nat × AV)) (B : Boxs) : codeX X T (.region true na live r161_6) ⟨r, B⟩ = xEnd live (xOps (callX X) X.lin T true B.length [
  ⟨some 25, .move (.t 4), none, []⟩,
  ⟨some 26, .nilCheck (.t 25), none, [0]⟩,
  ⟨some 27, .fieldAddr 2 (.t 26), none, [1]⟩,
  ⟨some 28, .loadS false 1 (.t 27) 0, none, [2]⟩,
  ⟨some 29, .move (.t 0), none, []⟩,
  ⟨some 30, .move (.t 4), none, []⟩,
  ⟨some 31, .nilCheck (.t 30), none, [5]⟩,
  ⟨some 32, .fieldAddr 2 (.t 31), none, [6]⟩,
  ⟨some 33, .load false 1 (.t 32), none, [7]⟩,
  ⟨some 34, .len false (.t 33), none, [8]⟩,
  ⟨some 35, .callS 0 (.c (.fn 159 [])) [.t 29, .t 34], none, [4, 9]⟩,
  ⟨some 36, .indexAddr 3 none (.t 28) (.t 35), none, [3, 10]⟩,
  ⟨some 4, .move (.t 36), none, [0, 1, 2, 3, 4, 5, 6, 7, 8, 9, 10, 11]⟩] ⟨r, B ++ List.replicate na none⟩) := z_draw X T na live r161_6 (by kernel_rfl) r B
theorem d161_13 (X : XEnv) (T : List Nat) (na : Nat) (live : List Nat) (r : List (Nat × AV)) (B : Boxs) : codeX X T (.regionT na live r161_13 r161_13_9) ⟨r, B⟩ = xTl (callX X) X.lin T B.length live [
  ⟨some 65, .append1 3 40 (.t 60) (.t 64) (.t 63) (.t 62) 66, none, []⟩,
  ⟨some 67, .nilCheck (.t 57), none, []⟩,
  ⟨some 68, .fieldAddr 2 (.t 67), none, []⟩,
  ⟨none, .store false 1 (.t 68) (.t 65), none, []⟩] (xOps (callX X) X.lin T true B.length [
  ⟨some 57, .move (.t 4), none, []⟩,
  ⟨some 58, .nilCheck (.t 57), none, [0]⟩,
  ⟨some 59, .fieldAddr 2 (.t 58), none, [1]⟩,
  ⟨some 60, .loadS false 1 (.t 59) 0, none, [2]⟩,
  ⟨some 61, .move (.t 0), none, []⟩,
  ⟨some 62, .callS 0 (.c (.fn 166 [])) [.t 61, .c (.d (.int .i64 1)), .c (.d (.int .i64 2))], none, [4]⟩,
  ⟨some 63, .len false (.t 60), none, [3]⟩,
  ⟨some 64, .buildSlice 3 (.agg [.int .i64 0, .int .i64 0, .sl .nil []]) 1 [(0, .c (.d (.agg [.int .i64 0, .int .i64 0, .sl .nil []])))], none, []⟩] ⟨r, B ++ List.replicate na none⟩) := z_regionT X T na live r161_13 r161_13_9 (by kernel_rfl) r B
theorem d165_2 (X : XEnv) (T : List Nat) (na : Nat) (live : List Nat) (r : List (Nat × AV)) (B : Boxs) : codeX X T (.region true na live r165_2) ⟨r, B⟩ = xEnd live (xOps (callX X) X.lin T true B.length [
  ⟨some 13, .move (.t 0), none, []⟩,
  ⟨some 14, .nilCheck (.t 13), none, [0]⟩,
  ⟨some 15, .fieldAddr 2 (.t 14), none, [1]⟩,
  ⟨some 16, .load false 1 (.t 15), none, [2]⟩,
  ⟨some 17, .bin .shr (.t 16) (.c (.d (.int .u64 33))), none, [3]⟩,
  ⟨some 18, .move (.t 0), none, []⟩,
  ⟨some 19, .nilCheck (.t 18), none, [5]⟩,
  ⟨some 20, .fieldAddr 2 (.t 19), none, [6]⟩,
  ⟨some 21, .load false 1 (.t 20), none, [7]⟩,
  ⟨some 22, .bin .shr (.t 21) (.c (.d (.int .u64 45))), none, [8]⟩,
  ⟨some 23, .bin .xor (.t 17) (.t 22), none, [4, 9]⟩,
  ⟨some 24, .bin .and (.t 23) (.c (.d (.int .i64 255))), none, [10]⟩,
  ⟨some 3, .move (.t 24), none, [0, 1, 2, 3, 4, 5, 6, 7, 8, 9, 10, 11]⟩] ⟨r, B ++ List.replicate na none⟩) := z_draw X T na live r165_2 (by kernel_rfl) r B
theorem d165_3 (X : XEnv) (T : List Nat) (na : Nat) (live : List Nat) (r : List (Nat × AV)) (B : Boxs) : codeX X T (.region true na live r165_3) ⟨r, B⟩ = xEnd live (xOps (callX X) X.lin T true B.length [
  ⟨some 25, .move (.t 0), none, []⟩,
  ⟨some 26, .nilCheck (.t 25), none, [0]⟩,
  ⟨some 27, .fieldAddr 1 (.t 26), none, [1]⟩,
  ⟨some 28, .load false 1 (.t 27), none, [2]⟩,
  ⟨some 29, .move (.t 0), none, []⟩,
  ⟨some 30, .nilCheck (.t 29), none, [4]⟩,
  ⟨some 31, .fieldAddr 0 (.t 30), none, [5]⟩,
  ⟨some 32, .load false 1 (.t 31), none, [6]⟩,
  ⟨some 33, .len false (.t 32), none, [7]⟩,
  ⟨some 34, .bin .lss (.t 28) (.t 33), none, [3, 8]⟩] ⟨r, B ++ List.replicate na none⟩) := z_draw X T na live r165_3 (by kernel_rfl) r B
theorem d165_4 (X : XEnv) (T : List Nat) (na : Nat) (live : List Nat) (r : List (Nat × AV)) (B : Boxs) : codeX X T (.region true na live r165_4) ⟨r, B⟩ = xEnd live (xOps (callX X) X.lin T true B.length [
  ⟨some 35, .move (.t 3), none, []⟩,
  ⟨some 36, .move (.t 0), none, []⟩,
  ⟨some 37, .nilCheck (.t 36), none, [1]⟩,
  ⟨some 38, .fieldAddr 0 (.t 37), none, [2]⟩,
  ⟨some 39, .load false 1 (.t 38), none, [3]⟩,
  ⟨some 40, .move (.t 0), none, []⟩,
  ⟨some 41, .nilCheck (.t 40), none, [5]⟩,
  ⟨some 42, .fieldAddr 1 (.t 41), none, [6]⟩,
  ⟨some 43, .load false 1 (.t 42), none, [7]⟩,
  ⟨some 44, .indexAddr 1 none (.t 39) (.t 43), none, [4, 8]⟩,
  ⟨some 45, .load false 1 (.t 44), none, [9]⟩,
  ⟨some 46, .conv (.kind .i64) (.t 45), none, [10]⟩,
  ⟨some 47, .bin .add (.t 35) (.t 46), none, [0, 11]⟩,
  ⟨some 48, .bin .and (.t 47) (.c (.d (.int .i64 255))), none, [12]⟩,
  ⟨some 3, .move (.t 48), none, [0, 1, 2, 3, 4, 5, 6, 7, 8, 9, 10, 11, 12, 13]⟩] ⟨r, B ++ List.replicate na none⟩) := z_draw X T na live r165_4 (by kernel_rfl) r B
theorem d188_6 (X : XEnv) (T : List Nat) (na : Nat) (live : List Nat) (r : List (Nat × AV)) (B : Boxs) : codeX X T (.region true na live r188_6) ⟨r, B⟩ = xEnd live (xOps (callX X) X.lin T true B.length [
  ⟨some 17, .move (.t 0), none, []⟩,
  ⟨some 18, .move (.t 5), none, []⟩,
  ⟨some 19, .indexAddr 1 none (.t 17) (.t 18), none, [0, 1]⟩,
  ⟨some 20, .load false 1 (.t 19), none, [2]⟩,
  ⟨some 21, .move (.t 1), none, []⟩,
  ⟨some 22, .move (.t 5), none, []⟩,
  ⟨some 23, .indexAddr 1 none (.t 21) (.t 22), none, [4, 5]⟩,
  ⟨some 24, .load false 1 (.t 23), none, [6]⟩,
  ⟨some 25, .bin .neq (.t 20) (.t 24), none, [3, 7]⟩] ⟨r, B ++ List.replicate na none⟩) := z_draw X T na live r188_6 (by kernel_rfl) r B
theorem d362_11 (X : XEnv) (T : List Nat) (na : Nat) (live : List Nat) (r : List (Nat × AV)) (B : Boxs) : codeX X T (.region true na live r362_11) ⟨r, B⟩ = xEnd live (xOps (callX X) X.lin T true B.length [
  ⟨some 32, .load true 3 (.t 3), none, []⟩,
  ⟨some 33, .move (.t 4), none, []⟩,
  ⟨some 34, .move (.t 6), none, []⟩,
  ⟨some 35, .indexAddr 1 none (.t 33) (.t 34), none, [1, 2]⟩,
  ⟨some 36, .load false 1 (.t 35), none, [3]⟩,
  ⟨some 37, .call true (.c (.fn 73 [])) [.t 32, .t 36], none, [0, 4]⟩,
  ⟨some 38, .bin .lss (.t 37) (.c (.d (.int .i64 1))), none, [5]⟩,
  ⟨some 39, .move (.t 38), none, [5, 6]⟩,
  ⟨some 40, .move (.t 6), some (39, false), [7]⟩,
  ⟨some 41, .bin .gtr (.t 40) (.c (.d (.int .i64 0))), some (39, false), [7, 8]⟩,
  ⟨some 42, .move (.t 41), some (39, false), [7, 9]⟩,
  ⟨some 43, .move (.t 4), some (42, true), [10]⟩,
  ⟨some 44, .move (.t 6), some (42, true), [10]⟩,
  ⟨some 45, .bin .sub (.t 44) (.c (.d (.int .i64 1))), some (42, true), [10, 12]⟩,
  ⟨some 46, .indexAddr 1 none (.t 43) (.t 45), some (42, true), [10, 11, 13]⟩,
  ⟨some 47, .load false 1 (.t 46), some (42, true), [10, 14]⟩,
  ⟨some 48, .move (.t 4), some (42, true), [10]⟩,
  ⟨some 49, .move (.t 6), some (42, true), [10]⟩,
  ⟨some 50, .indexAddr 1 none (.t 48) (.t 49), some (42, true), [10, 16, 17]⟩,
  ⟨some 51, .load false 1 (.t 50), some (42, true), [10, 18]⟩,
  ⟨some 52, .bin .geq (.t 47) (.t 51), some (42, true), [10, 15, 19]⟩,
  ⟨some 53, .pick (.t 42) (.t 52) (.c (.d (.bool false))), some (39, false), [7, 10, 20]⟩,
  ⟨some 54, .pick (.t 39) (.c (.d (.bool true))) (.t 53), none, [7, 21]⟩] ⟨r, B ++ List.replicate na none⟩) := z_draw X T na live r362_11 (by kernel_rfl) r B
theorem d362_13 (X : XEnv) (T : List Nat) (na : Nat) (live : List Nat) (r : List (Nat × AV)) (B : Boxs) : codeX X T (.region true na live r362_13) ⟨r, B⟩ = xEnd live (xOps (callX X) X.lin T true B.length [
  ⟨some 55, .move (.t 5), none, []⟩,
  ⟨some 56, .load true 3 (.t 3), none, []⟩,
  ⟨some 57, .move (.t 4), none, []⟩,
  ⟨some 58, .move (.t 6), none, []⟩,
  ⟨some 59, .indexAddr 1 none (.t 57) (.t 58), none, [2, 3]⟩,
  ⟨some 60, .load false 1 (.t 59), none, [4]⟩,
  ⟨some 61, .call true (.c (.fn 73 [])) [.t 56, .t 60], none, [1, 5]⟩,
  ⟨some 62, .bin .add (.t 55) (.t 61), none, [0, 6]⟩,
  ⟨some 5, .move (.t 62), none, [0, 1, 2, 3, 4, 5, 6, 7]⟩] ⟨r, B ++ List.replicate na none⟩) := z_draw X T na live r362_13 (by kernel_rfl) r B
theorem look_in : ∀ {l : List (Nat × VFn)} {k : Nat} {v : VFn}, look l k = some v → (k, v) ∈ l
  | [], _, _, h => by simp [look] at h
  | (a, u) :: r, k, v, h => by
    simp only [look] at h
    split at h
    · rename_i hk
      simp at h; subst h; subst hk; simp
    · exact List.mem_cons_of_mem _ (look_in h)
theorem lin_all : codes.all (fun q => q.2.linOK (linOf lins q.1)) = true := by kernel_rfl
theorem xokW : XOK XW := ⟨fun f vf h => List.all_eq_true.1 lin_all (f, vf) (look_in h), fun f g h => by exact absurd h (by simp [XW]), fun f h => rfl, fun f sf h => by exact absurd h (by simp [XW])⟩
theorem spec_all : specs.all (fun q => q.2.pre.linOK (linOf lins q.1) && q.2.rest.linOK (linOf lins q.1) && linDistinct (linOf lins q.1) (q.2.results.flatMap VRes.vx) && (linOf lins q.1).all (fun j => decide (q.2.np ≤ j))) = true := by kernel_rfl
theorem nats_ref : ∀ q, q ∈ nats → NatRef q.2 (natV q.2) ∧ linOf lins q.1 = [] := List.forall_mem_cons.2 ⟨⟨numAdd_ref, by kernel_rfl⟩, List.forall_mem_nil _⟩
theorem xok : XOK XV := ⟨fun f vf h => List.all_eq_true.1 lin_all (f, vf) (look_in h), fun f g h => ⟨natV g, by show (lookN nats f).map natV = _; rw [show lookN nats f = some g from h]; rfl, (nats_ref (f, g) (lookN_mem h)).1, (nats_ref (f, g) (lookN_mem h)).2⟩, fun f h => by show (lookN nats f).map natV = _; rw [show lookN nats f = none from h]; rfl, fun f sf h => by
  have := List.all_eq_true.1 spec_all (f, sf) (lookS_mem h)
  simp only [Bool.and_eq_true] at this
  exact ⟨this.1.1.1, this.1.1.2, this.1.2, this.2⟩⟩
end Go.Proofs.Ytidlpcgcolcfgaa.VS
